/- The engine by which contracts are proved. No condition. -/
import Derived.WalkKit
import Derived.WalkSpells
import Derived.RangeFuncNested
import Derived.RangeFuncLeaves
import Derived.RangeFuncSeq
import Derived.Deep.MidRow
import Derived.Laws.StructEq
set_option linter.unusedVariables false
set_option linter.unusedSimpArgs false
set_option linter.deprecated false

namespace Go.Eng
open Go
inductive IX where
 |lit (n:Int)
 |sym (f:Unit→Int)
inductive BX where
 |lit (b:Bool)
 |sym (f:Unit→Bool)
def IX.den :IX→Int
 | .lit n=>n
 | .sym f=>f ()
def BX.den :BX→Bool
 | .lit b=>b
 | .sym f=>f ()
inductive SV where
 |int (k:IntKind) (x:IX)
 |bool (x:BX)
 |val (x:Value)
 |any
 |own (id off:Nat)
 |owe (id off sz n:Nat) (ix:IX) (o2:Nat)
 |roe (id sz:Nat) (ix:IX) (o2:Nat)
 |row (id:Nat)
 |ows (id off len cap sz:Nat)
 |sl (sz:Nat) (n:IX) (elem:IX→List SV)
 |pp (off:Nat) (cells:List SV)
 |el (sz:Nat) (n:IX) (elem:IX→List SV) (ix:IX) (off:Nat)
 |arr (n:Nat) (f:IX→SV)
 |agg (l:List SV)
 |tup (l:List SV)
 |clo (fn:FuncId) (first caps:List SV)
 |mp (id:Nat)
 |memo (kt vt:Nat) (sc:Bool) (nk:Nat) (F:List Int→SV)
 |owd (id off sz m:Nat) (n:IX)
 |mapx (kt vt:Nat) (sc:Bool) (nk:Nat) (D:List Int→Bool) (F:List Int→SV)
instance: Inhabited SV:=⟨.any⟩
inductive Cel where
 |arr (c:Array Value)
 |mapx (es:Array MapEntry) (clock:Nat)
 |memo (kt vt:Nat) (sc:Bool) (nk:Nat) (F:List Int→SV)
abbrev Mem :=Nat→Option Cel
structure Vl where
 b:Nat→Option Nat
 r:Nat→Option Value
def Vl.nil :Vl:=⟨fun _=>none,fun _=>none⟩
def ubc (sc:Bool)(ks:List Int):Value:=match sc with
 |true=>.int .i64 (ks.headD 0)
 |false=>.agg ⟨ks.map (Value.int .i64)⟩
structure MapK (sc:Bool)(nk:Nat)(D:List Int→Bool)(w:List Int→MapEntry)(es:List MapEntry)(clock:Nat):Prop where
 one:sc=true→nk=1
 keys:∀e∈es,∃ks:List Int,ks.length=nk∧e.key=ubc sc ks
 once:es.Pairwise fun e e'=>e.key≠e'.key
 born:es.Pairwise fun e e'=>e.born<e'.born
 clock:∀e∈es,e.born<clock
 no:∀ks:List Int,ks.length=nk→D ks=false→∀e∈es,e.key≠ubc sc ks
 yes:∀ks:List Int,ks.length=nk→D ks=true→w ks∈es∧(w ks).key=ubc sc ks
inductive Rel (μ:Mem):Vl→SV→Value→Prop where
 |int (ν:Vl) (k:IntKind) (x:IX):Rel μ ν (.int k x) (.int k x.den)
 |bool (ν:Vl) (x:BX):Rel μ ν (.bool x) (.bool x.den)
 |val (ν:Vl) (x:Value):x.oneCell'=true→Rel μ ν (.val x) x
 |any (ν:Vl) (v:Value):Rel μ ν .any v
 |own (ν:Vl) (id off b:Nat):ν.b id=some b→Rel μ ν (.own id off) (.pointer (some ⟨b,off,none⟩))
 |owe (ν:Vl) (id off sz n:Nat) (ix:IX) (o2 b:Nat):ν.b id=some b→0≤ix.den→ix.den<(n:Int)→Rel μ ν (.owe id off sz n ix o2) (.pointer (some ⟨b,off+(ix.den.toNat*sz+o2),none⟩))
 |roe (ν:Vl) (id sz:Nat) (ix:IX) (o2 b:Nat):ν.b id=some b→0≤ix.den→Rel μ ν (.roe id sz ix o2) (.pointer (some ⟨b,ix.den.toNat*sz+o2,none⟩))
 |row (ν:Vl) (id:Nat) (v:Value):ν.r id=some v→v.oneCell'=true→Rel μ ν (.row id) v
 |ows (ν:Vl) (id off len cap sz b:Nat):ν.b id=some b→Rel μ ν (.ows id off len cap sz) (.slice (some ⟨b,off,none⟩) len cap)
 |slnil (ν:Vl) (sz:Nat) (n:IX) (elem:IX→List SV) (a:Option Addr) (cap:Nat):n.den=0→cap≤maxLen→Rel μ ν (.sl sz n elem) (.slice a 0 cap)
 |sl (ν:Vl) (sz:Nat) (n:IX) (elem:IX→List SV) (b o len cap:Nat) (c:Array Value):μ b=some (.arr c)→n.den=(len:Int)→len≤cap→cap≤maxLen→0<len →
     (∀ix:IX,0≤ix.den→ix.den<n.den→Rel μ Vl.nil (.agg (elem ix)) (.agg (c.extract (o+ix.den.toNat*sz) (o+ix.den.toNat*sz+sz)))) →
     o+len*sz≤c.size →
     Rel μ ν (.sl sz n elem) (.slice (some ⟨b,o,none⟩) len cap)
 |pp (ν:Vl) (off:Nat) (cells:List SV) (b o m:Nat) (c:Array Value):μ b=some (.arr c)→o+m≤c.size→Rel μ Vl.nil (.agg cells) (.agg (c.extract o (o+m))) →
     Rel μ ν (.pp off cells) (.pointer (some ⟨b,o+off,none⟩))
 |el (ν:Vl) (sz:Nat) (n:IX) (elem:IX→List SV) (ix:IX) (off b o len:Nat) (c:Array Value):μ b=some (.arr c)→n.den=(len:Int)→0≤ix.den→ix.den<n.den →
     (∀jx:IX,0≤jx.den→jx.den<n.den→Rel μ Vl.nil (.agg (elem jx)) (.agg (c.extract (o+jx.den.toNat*sz) (o+jx.den.toNat*sz+sz)))) →
     o+len*sz≤c.size →
     Rel μ ν (.el sz n elem ix off) (.pointer (some ⟨b,o+ix.den.toNat*sz+off,none⟩))
 |nil (ν:Vl):Rel μ ν (.agg []) (.agg ⟨[]⟩)
 |arr (ν:Vl) (n:Nat) (f:IX→SV) (l:List SV) (cs rest:List Value):cs.length=n→(∀ix:IX,0≤ix.den→ix.den<(n:Int)→Rel μ Vl.nil (f ix) (cs.getD ix.den.toNat undef)) →
  (∀c∈cs,c.oneCell'=true) →
  Rel μ ν (.agg l) (.agg ⟨rest⟩)→Rel μ ν (.agg (.arr n f::l)) (.agg ⟨cs++rest⟩)
 |cons (ν:Vl) (s:SV) (l:List SV) (c:Value) (rest:List Value):Rel μ ν s c→c.oneCell'=true→Rel μ ν (.agg l) (.agg ⟨rest⟩)→Rel μ ν (.agg (s::l)) (.agg ⟨c::rest⟩)
 |tnil (ν:Vl):Rel μ ν (.tup []) (.tuple ⟨[]⟩)
 |tcons (ν:Vl) (s:SV) (l:List SV) (c:Value) (rest:List Value):Rel μ ν s c→Rel μ ν (.tup l) (.tuple ⟨rest⟩)→Rel μ ν (.tup (s::l)) (.tuple ⟨c::rest⟩)
 |clo (ν:Vl) (fn:FuncId) (first caps:List SV) (fs cs:Array Value):Rel μ ν (.tup first) (.tuple fs)→Rel μ ν (.tup caps) (.tuple cs)→Rel μ ν (.clo fn first caps) (.func (.func fn) fs cs)
 |mp (ν:Vl) (id b:Nat):ν.b id=some b→Rel μ ν (.mp id) (.map (some b))
 |owd (ν:Vl) (id off sz m:Nat) (n:IX) (b len cap:Nat):ν.b id=some b→n.den=(len:Int)→len≤m→len≤cap→cap≤maxLen→Rel μ ν (.owd id off sz m n) (.slice (some ⟨b,off,none⟩) len cap)
 |mapx (ν:Vl) (kt vt:Nat) (sc:Bool) (nk:Nat) (D:List Int→Bool) (F:List Int→SV) (b:Nat) (es:Array MapEntry) (clock:Nat) (w:List Int→MapEntry):μ b=some (.mapx es clock)→MapK sc nk D w es.toList clock →
  (∀ks:List Int,ks.length=nk→D ks=true→Rel μ Vl.nil (F ks) (w ks).val)→Rel μ ν (.mapx kt vt sc nk D F) (.map (some b))
 |memo (ν:Vl) (kt vt:Nat) (sc:Bool) (nk:Nat) (F:List Int→SV) (b:Nat):μ b=some (.memo kt vt sc nk F)→Rel μ ν (.memo kt vt sc nk F) (.map (some b))
inductive Blk where
 |cells (l:List SV) (ty:TypeId)
 |row (ety sz:Nat) (n:IX) (elem:IX→List SV)
 |map (kt vt:TypeId) (sc:Bool) (nk:Nat) (f:List Int→Option SV)
 |it (sc:Bool) (nk:Nat) (R:List Int→Bool) (F:List Int→SV) (last:Option (List Int))
structure LS where
 env:List (Nat×SV)
 H:List (Nat×Blk)
 nxt:Nat
def lk {α:Type}:List (Nat×α)→Nat→Option α
 |[],_=>none
 | (k,x)::l,n=>match Nat.beq k n with
  |true=>some x
  |false=>lk l n
def rm {α:Type}:List (Nat×α)→Nat→List (Nat×α)
 |[],_=>[]
 | (k,x)::l,n=>match Nat.beq k n with
  |true=>rm l n
  |false=>(k,x)::rm l n
mutual
def SV.ids :SV→List Nat
 | .own id _=>[id]
 | .owe id _ _ _ _ _=>[id]
 | .roe id _ _ _=>[id]
 | .row id=>[id]
 | .ows id _ _ _ _=>[id]
 | .owd id _ _ _ _=>[id]
 | .agg l=>SV.idsL l
 | .tup l=>SV.idsL l
 | .clo _ a b=>SV.idsL a++SV.idsL b
 | .mp id=>[id]
 |_=>[]
def SV.idsL :List SV→List Nat
 |[]=>[]
 |s::l=>s.ids++SV.idsL l
end
def IX.addN (x:IX)(o:Nat):IX:=match x with
 | .lit a=>.lit (a+(o:Int))
 | .sym g=>.sym (fun _=>g ()+(o:Int))
def IX.mulAdd (x:IX)(sz o:Nat):IX:=match x with
 | .lit a=>.lit (a*(sz:Int)+(o:Int))
 | .sym g=>.sym (fun _=>g ()*(sz:Int)+(o:Int))
def ubN :List SV→Nat→Option (List SV)
 |l,0=>some l
 |[],_+1=>none
 | s ::l,o+1=>match s with
  | .arr n f=>match Nat.ble n (o+1)with
   |true=>ubN l (o+1-n)
   |false=>some (.arr (n-(o+1)) (fun ix=>f (ix.addN (o+1)))::l)
  |_=>ubN l o
def ubg :List SV→Nat→Option (List SV)
 |_,0=>some []
 |[],_+1=>none
 | s ::l,m+1=>match s with
  | .arr n f=>match Nat.ble n (m+1)with
   | true=>match ubg l (m+1-n)with
    |some t=>some (.arr n f::t)
    |none=>none
   |false=>some [.arr (m+1) f]
  | s=>match ubg l m with
   |some t=>some (s::t)
   |none=>none
def udH :List SV→Nat
 |[]=>0
 | s::l=>match s with
  | .arr n _=>n+udH l
  |_=>1+udH l
def ubn (l:List SV)(o m:Nat):Option (List SV):=match ubN l o with
 |some t=>ubg t m
 |none=>none
def udb :List SV→Nat→Option SV
 |[],_=>none
 | s ::l,o=>match s with
  | .arr n f=>match Nat.ble n o with
   |true=>udb l (o-n)
   |false=>some (f (.lit (o:Int)))
  | s=>match o with
   |0=>some s
   |o+1=>udb l o
def uip :List SV→Nat→Option (Nat×(IX→SV))
 |[],_=>none
 | s ::l,o=>match s with
  | .arr n f=>match o with
   |0=>some (n,f)
   | o+1=>match Nat.ble n (o+1)with
    |true=>uip l (o+1-n)
    |false=>none
  | _=>match o with
   |0=>none
   |o+1=>uip l o
def ui6 (l:List SV)(o:Nat)(new:List SV):Option (List SV):=match ubg l o,ubN l (o+udH new)with
 |some a,some b=>some (a++(new++b))
 |_,_=>none
def ucu (l:List SV)(o m:Nat):List SV:=match ubn l o m with
 |some c=>c
 |none=>[]
inductive To where
 |id (n:Nat)
 |sl (sz:Nat) (n:IX) (elem:IX→List SV)
 |cells (l:List SV)
 |mapx (kt vt:Nat) (sc:Bool) (nk:Nat) (D:List Int→Bool) (F:List Int→SV)
 |gone
mutual
def SV.sub (g:Nat→Option To):SV→SV
 | .own id off=>match g id with
  |none=>.own id off
  |some (.id n)=>.own n off
  |some (.cells l)=>.pp off l
  |some _=>.any
 | .owe id off sz n ix o2=>match g id with
  |none=>.owe id off sz n ix o2
  |some (.id m)=>.owe m off sz n ix o2
  |some _=>.any
 | .roe id sz ix o2=>match g id with
  |none=>.roe id sz ix o2
  |some (.id m)=>.roe m sz ix o2
  |some _=>.any
 | .row id=>match g id with
  |none=>.row id
  |some (.id m)=>.row m
  |some (.sl sz n e)=>.sl sz n e
  |some _=>.any
 | .ows id off len cap sz=>match g id with
  |none=>.ows id off len cap sz
  |some (.id m)=>.ows m off len cap sz
  | some (.cells l)=>match Nat.ble (off+len*sz) (udH l),Nat.ble len cap,Nat.ble cap 4611686018427387904 with
   |true,true,true=>.sl sz (.lit (len:Int)) (fun ix=>ucu l (off+ix.den.toNat*sz) sz)
   |_,_,_=>.any
  |some _=>.any
 | .agg l=>.agg (SV.subL g l)
 | .tup l=>.tup (SV.subL g l)
 | .clo fn a b=>.clo fn (SV.subL g a) (SV.subL g b)
 | .int k x=>.int k x
 | .bool x=>.bool x
 | .val x=>.val x
 | .any=>.any
 | .sl sz n e=>.sl sz n e
 | .pp off c=>.pp off c
 | .el sz n e ix off=>.el sz n e ix off
 | .arr n f=>.arr n f
 | .mp id=>match g id with
  |none=>.mp id
  |some (.id m)=>.mp m
  |some (.mapx kt vt sc nk D F)=>.mapx kt vt sc nk D F
  |some _=>.any
 | .mapx kt vt sc nk D F=>.mapx kt vt sc nk D F
 | .memo kt vt sc nk F=>.memo kt vt sc nk F
 | .owd id off sz m n=>match g id with
  |none=>.owd id off sz m n
  |some (.id k)=>.owd k off sz m n
  | some (.cells l)=>match Nat.ble (off+m*sz) (udH l)with
   |true=>.sl sz n (fun ix=>ucu l (off+ix.den.toNat*sz) sz)
   |false=>.any
  |some _=>.any
def SV.subL (g:Nat→Option To):List SV→List SV
 |[]=>[]
 |s::l=>s.sub g::SV.subL g l
end
end Go.Eng

namespace Go.Eng
open Go
def Blk.isRow :Blk→Bool
 | .cells _ _=>false
 | .row _ _ _ _=>true
 | .map _ _ _ _ _=>false
 | .it _ _ _ _ _=>false
structure MemoOk (sc:Bool)(nk:Nat)(F:List Int→SV)(es:List MapEntry):Prop where
 one:sc=true→nk=1
 keys:∀e∈es,∃ks:List Int,ks.length=nk∧e.key=ubc sc ks∧∀μ,Rel μ Vl.nil (F ks) e.val
def ufH (W:World)(b:Nat):Cel→Prop
 | .arr c=>∃t fr,W.heap[b]? =some (.cells c t fr)
 | .mapx es clock=>W.heap[b]? =some (.map es clock)
 | .memo _ _ sc nk F=>∃es clock,W.heap[b]? =some (.map es clock)∧MemoOk sc nk F es.toList
def ubR (μ:Mem)(W:World):Prop:=∀b c,μ b=some c→ufH W b c
def uaz (μ:Mem)(b:Nat):Prop:=∃kt vt sc nk F,μ b=some (.memo kt vt sc nk F)
structure MapOk (μ:Mem)(sc:Bool)(nk:Nat)(f:List Int→Option SV)(es:List MapEntry)(clock:Nat):Prop where
 one:sc=true→nk=1
 keys:∀e∈es,∃ks:List Int,ks.length=nk∧e.key=ubc sc ks
 once:es.Pairwise fun e e'=>e.key≠e'.key
 born:es.Pairwise fun e e'=>e.born<e'.born
 clock:∀e∈es,e.born<clock
 no:∀ks:List Int,ks.length=nk→f ks=none→∀e∈es,e.key≠ubc sc ks
 yes:∀(ks:List Int) (s:SV),ks.length=nk→f ks=some s→∃e∈es,e.key=ubc sc ks∧Rel μ Vl.nil s e.val
structure ItOk (μ:Mem)(sc:Bool)(nk:Nat)(R:List Int→Bool)(F:List Int→SV)(last:Option (List Int))(es:List MapEntry)(clock:Nat)(ueh:Array Nat):Prop where
 one:sc=true→nk=1
 once:es.Pairwise fun e e'=>e.key≠e'.key
 born:es.Pairwise fun e e'=>e.born<e'.born
 clock:∀e∈es,e.born<clock
 left:∀e∈es,ueh.contains e.born=false→∃ks:List Int,ks.length=nk∧e.key=ubc sc ks∧R ks=true∧Rel μ Vl.nil (F ks) e.val
 all:∀ks:List Int,ks.length=nk→R ks=true→∃e∈es,ueh.contains e.born=false∧e.key=ubc sc ks
 last:∀ks:List Int,last=some ks→ks.length=nk∧∃(e:MapEntry) (seen0:Array Nat),e∈es∧ueh=seen0.push e.born∧e.key=ubc sc ks∧Rel μ Vl.nil (F ks) e.val
def Blk.Holds (μ:Mem)(ν:Vl)(W:World)(id:Nat):Blk→Prop
 | .cells l ty=>∃b cs,ν.b id=some b∧W.heap[b]? =some (.cells cs ty (0,0))∧Rel μ ν (.agg l) (.agg cs)
 | .row ety sz n elem=>∃v,ν.r id=some v ∧
  ((ν.b id=none∧n.den=0∧∃ad,v = .slice ad 0 0) ∨
   ∃ b len cap cur,ν.b id=some b∧v = .slice (some ⟨b,0,none⟩) len cap∧n.den=(len:Int)∧len≤cap∧cap≤maxLen ∧
    W.heap[b]? =some (.cells cur ety (0,0))∧cur.size=cap*sz ∧
    ∀ix:IX,0≤ix.den→ix.den<n.den→Rel μ Vl.nil (.agg (elem ix)) (.agg (cur.extract (ix.den.toNat*sz) (ix.den.toNat*sz+sz))))
 | .map _ _ sc nk f=>∃b es clock,ν.b id=some b∧W.heap[b]? =some (.map es clock)∧MapOk μ sc nk f es.toList clock
 | .it sc nk R F last=>∃b bm es clock ueh,ν.b id=some b∧W.heap[b]? =some (.mapIter (some bm) clock ueh clock)∧μ bm=some (.mapx es clock)∧ItOk μ sc nk R F last es.toList clock ueh
structure OwnOk (N0:Nat)(B0:Nat→Prop)(μ:Mem)(ν:Vl)(H:Nat→Option Blk)(W:World):Prop where
 holds:∀id blk,H id=some blk→blk.Holds μ ν W id
 inj:∀id id' b,(H id).isSome=true→(H id').isSome=true→ν.b id=some b→ν.b id'=some b→id=id'
 out:∀id b,(H id).isSome=true→ν.b id=some b→μ b=none
 place:∀id b,(H id).isSome=true→ν.b id=some b→N0≤b∨B0 b
structure Frm (B0:Nat→Prop)(W W':World):Prop where
 os:W'.os=W.os
 tape:W'.tape=W.tape
 output:W'.output=W.output
 size:W.heap.size≤W'.heap.size
 block:∀b,b<W.heap.size→¬B0 b→W'.heap[b]? =W.heap[b]?
def ubo (ν:Vl)(k:Nat)(b:Nat):Prop:=∃id,id<k∧ν.b id=some b
def ua9 :Blk→List Nat
 | .cells l _=>SV.idsL l
 | .row _ _ _ _=>[]
 | .map _ _ _ _ _=>[]
 | .it _ _ _ _ _=>[]
structure After (bor:List Blk)(μ:Mem)(ν:Vl)(W:World)(μ':Mem)(ν':Vl)(bs:List Blk)(W':World):Prop where
 len:bs.length=bor.length
 le:∀b c,μ b=some c→μ' b=some c
 new:∀b c,μ' b=some c→μ b=some c∨W.heap.size≤b∨ubo ν bor.length b
 mem:ubR μ' W'
 own:OwnOk W.heap.size (ubo ν bor.length) μ' ν' (fun id=>bs[id]?) W'
 kind:bs.map Blk.isRow=bor.map Blk.isRow
 wf:∀(j:Nat) (blk:Blk),bs[j]? =some blk→∀i∈ua9 blk,i<bor.length
 same:∀id blk,bor[id]? =some blk→blk.isRow=false→(ν'.b id,ν'.r id)=(ν.b id,ν.r id)
 frm:Frm (fun b=>ubo ν bor.length b∨uaz μ b) W W'
def ua0 (P:Program)(f:FuncId)(args:List SV)(bor:List Blk)(post:SV→List Blk→Prop):Prop:=
 (∀args w,(callFunc f args).run P w = .ok (.enter f args) w) ∧
 ∀ (μ:Mem) (ν:Vl) (W:World) (vs:Array Value),ubR μ W→OwnOk W.heap.size (ubo ν bor.length) μ ν (fun id=>bor[id]?) W→Rel μ ν (.tup args) (.tuple vs) →
  Calls P f vs W fun e W'=>∃v r bs μ' ν',e = .returned v∧post r bs∧Rel μ' Vl.nil r v∧After bor μ ν W μ' ν' bs W'
structure AfterN (bor:List Blk)(μ:Mem)(ν:Vl)(W:World)(μ':Mem)(ν':Vl)(bs:List Blk)(W':World):Prop where
 len:bor.length≤bs.length
 le:∀b c,μ b=some c→μ' b=some c
 new:∀b c,μ' b=some c→μ b=some c∨W.heap.size≤b∨ubo ν bor.length b
 mem:ubR μ' W'
 own:OwnOk W.heap.size (ubo ν bor.length) μ' ν' (fun id=>bs[id]?) W'
 kind:(bs.take bor.length).map Blk.isRow=bor.map Blk.isRow
 wf:∀(j:Nat) (blk:Blk),bs[j]? =some blk→∀i∈ua9 blk,i<bs.length
 same:∀id blk,bor[id]? =some blk→blk.isRow=false→(ν'.b id,ν'.r id)=(ν.b id,ν.r id)
 frm:Frm (fun b=>ubo ν bor.length b∨uaz μ b) W W'
def uaU (P:Program)(f:FuncId)(args:List SV)(bor:List Blk)(post:SV→List Blk→Prop):Prop:=
 (∀args w,(callFunc f args).run P w = .ok (.enter f args) w) ∧
 ∀ (μ:Mem) (ν:Vl) (W:World) (vs:Array Value),ubR μ W→OwnOk W.heap.size (ubo ν bor.length) μ ν (fun id=>bor[id]?) W→Rel μ ν (.tup args) (.tuple vs) →
  Calls P f vs W fun e W'=>∃v r bs μ' ν',e = .returned v∧post r bs∧Rel μ' ν' r v∧(∀id∈r.ids,id<bs.length)∧AfterN bor μ ν W μ' ν' bs W'
theorem After.toN {bor:List Blk} {μ:Mem} {ν:Vl} {W:World} {μ':Mem} {ν':Vl} {bs:List Blk} {W':World}(h:After bor μ ν W μ' ν' bs W'):AfterN bor μ ν W μ' ν' bs W':=
 ⟨by rw [h.len];exact Nat.le_refl _,h.le,h.new,h.mem,h.own,by rw [List.take_of_length_le (by rw [h.len];exact Nat.le_refl _)];exact h.kind,fun j blk hj i hi=>by rw [h.len];exact h.wf j blk hj i hi,h.same,h.frm⟩
structure FenceOk (F:Fence)(P:Program):Prop where
 fn:∀f,F.fn f
 depth:F.depth=none
 calls:∀n f args w R,Calls P f args w R→CallsIn F n P f args w R
structure Kept (μ:Mem)(K:Nat→Prop)(W W':World):Prop where
 mem:ubR μ W'
 size:W.heap.size≤W'.heap.size
 kept:∀b,K b→W'.heap[b]? =W.heap[b]?
 os:W'.os=W.os
 tape:W'.tape=W.tape
 output:W'.output=W.output
def ugj (P:Program)(f:FuncId)(caps:List SV)(L:Nat)(el:Nat→List SV):Prop:=
 (∀args w,(callFunc f args).run P w = .ok (.enter f args) w) ∧
 ∀(F:Fence) (n:Nat),FenceOk F P→F.round=none→∀(μ:Mem) (W:World) (cs:Array Value),ubR μ W→Rel μ Vl.nil (.tup caps) (.tuple cs) →
 ∀ (l:Nat) (J:Nat→(Nat→Prop)→World→Prop) (Jx:(Nat→Prop)→World→Prop),
  (∀i K W1 W2,J i K W1→Frm (fun b=>K b∨uaz μ b) W1 W2→ubR μ W2→(∀b,K b→b<W1.heap.size)→J i (fun b=>K b∨(W1.heap.size≤b∧b<W2.heap.size)) W2) →
  (∀K W1 W2,Jx K W1→Frm (fun b=>K b∨uaz μ b) W1 W2→ubR μ W2→(∀b,K b→b<W1.heap.size)→Jx (fun b=>K b∨(W1.heap.size≤b∧b<W2.heap.size)) W2) →
  (∀i x K W1,i<L→Rel μ Vl.nil (.tup (el i)) (.tuple x)→J i K W1 →
   YieldAt F n P l x W1 fun e W2=>Kept μ K W1 W2∧((e = .returned (.bool true)∧J (i+1) K W2)∨(e = .returned (.bool false)∧Jx K W2))) →
  J 0 (fun _=>False) W →
  CallsIn F n P f (#[.func (.yield l) #[] #[]]++cs) W fun e W'=>(∃v,e = .returned v)∧∃K,J L K W'∨Jx K W'
inductive TK where
 |int (k:IntKind)
 |bool
 |one
 |sli (e:Nat)
 |str (fs:List (Nat×Nat))
 |arr (n e:Nat)
inductive Prm where
 |int (k:IntKind)
 |bool
 |sli
 |ptr
 |fn
 |mp
 |str
inductive ZC where
 |one (p:Prm)
 |rep (n:Nat) (p:Prm)
def Prm.sv :Prm→SV
 | .int k=>.int k (.lit 0)
 | .bool=>.bool (.lit false)
 | .sli=>.val (.slice none 0 0)
 | .ptr=>.val (.pointer none)
 | .fn=>.val .nilFunc
 | .mp=>.val (.map none)
 | .str=>.val (.string ByteArray.empty)
def Prm.value :Prm→Value
 | .int k=>.int k 0
 | .bool=>.bool false
 | .sli=>.slice none 0 0
 | .ptr=>.pointer none
 | .fn=>.nilFunc
 | .mp=>.map none
 | .str=>.string ByteArray.empty
def zsv :List ZC→List SV
 |[]=>[]
 | .one p::l=>p.sv::zsv l
 | .rep n p::l=>.arr n (fun _=>p.sv)::zsv l
def zvs :List ZC→List Value
 |[]=>[]
 | .one p::l=>p.value::zvs l
 | .rep n p::l=>List.replicate n p.value++zvs l
structure TI where
 k:TK
 size:Nat
 bytes:Nat
 zero:List ZC
abbrev uar :=Nat→Option TI
def TI.isAgg (t:TI):Bool:=match t.k with
 | .str _=>true
 | .arr _ _=>true
 |_=>false
structure Upd where
 val:SV
 hs:List (Nat×Option Blk)
 sub:List (Nat×To)
def ua5 (s:SV):Upd:=⟨s,[],[]⟩
def SV.ofV :Value→SV
 | .int k n=>.int k (.lit n)
 | .bool b=>.bool (.lit b)
 | v=>match v.oneCell' with
  |true=>.val v
  |false=>.any
def ev (ge:Nat→SV):Operand→SV
 | .tmp t=>ge t
 | .const v=>SV.ofV v
 | .func f=>.clo f [] []
 | .global _=>.any
def evs (ge:Nat→SV):List Operand→List SV
 |[]=>[]
 |x::l=>ev ge x::evs ge l
def cellsOf :SV→List SV
 | .agg l=>l
 |s=>[s]
def urX :SV→Bool
 | .any=>true
 |_=>false
def ucG (ti:TI)(l:List SV)(o:Nat)(K:Upd→Prop):Prop:=match ti.isAgg with
 | true=>match ubn l o ti.size with
  |some c=>K (ua5 (.agg c))
  |none=>False
 | false=>match udb l o with
  |some s=>K (ua5 s)
  |none=>False
def inR (k:IntKind)(n:Int):Prop:=match k with
 | .i64=> -9223372036854775808≤n∧n≤9223372036854775807
 | .u64=>0≤n∧n≤18446744073709551615
 | .u8=>0≤n∧n≤255
 | .u16=>0≤n∧n≤65535
 | .u32=>0≤n∧n≤4294967295
 | .i32=> -2147483648≤n∧n≤2147483647
 | .i16=> -32768≤n∧n≤32767
 | .i8=> -128≤n∧n≤127
def ukT (n:Int):Bool:=match n with
 | .ofNat m=>Nat.ble m 1000000000000
 | .negSucc _=>false
def ucT (k:IntKind)(a b:IX)(f:Int→Int→Int)(K:Upd→Prop):Prop:=match k,a,b with
 | .i64,.lit x,.lit y=>match ukT (f x y)with
  |true=>K (ua5 (.int .i64 (.lit (f x y))))
  |false=>(∀_:Unit,inR .i64 (f x y))∧K (ua5 (.int .i64 (.sym fun _=>f x y)))
 |k,a,b=>(∀_:Unit,inR k (f a.den b.den))∧K (ua5 (.int k (.sym fun _=>f a.den b.den)))
def ujl (a b:IX)(f:Int→Int→Bool)(K:Upd→Prop):Prop:=match a,b with
 | .lit x,.lit y=>K (ua5 (.bool (.lit (f x y))))
 |a,b=>K (ua5 (.bool (.sym fun _=>f a.den b.den)))
def uvt (a b:BX):BX:=match a,b with
 | .lit x,.lit y=>.lit (x==y)
 |a,b=>.sym fun _=>a.den==b.den
def usd :BX→BX
 | .lit b=>.lit (!b)
 | .sym f=>.sym fun _=> !(f ())
def ut6 (a b q:Int):Prop:=(b≠0∧q=a.tdiv b)
def uxh (a b q:Int):Prop:=(b≠0∧q=a.tmod b)
def upG (x y:Int):Int:=x+y
def utt (x y:Int):Int:=x-y
def uuI (x y:Int):Int:=x*y
def eqB (x y:Int):Bool:=x==y
def neB (x y:Int):Bool:=x !=y
def ltB (x y:Int):Bool:=decide (x<y)
def leB (x y:Int):Bool:=decide (x≤y)
def gtB (x y:Int):Bool:=decide (x>y)
def geB (x y:Int):Bool:=decide (x≥y)
def uiz (op:BinOp)(x y:SV)(K:Upd→Prop):Prop:=match op,x,y with
 | .add,.int k a,.int k' b=>k=k'∧ucT k a b upG K
 | .sub,.int k a,.int k' b=>k=k'∧ucT k a b utt K
 | .mul,.int k a,.int k' b=>k=k'∧ucT k a b uuI K
 | .quo,.int k a,.int k' b=>k=k'∧∃q:Int,(∀_:Unit,ut6 a.den b.den q∧inR k q)∧K (ua5 (.int k (.sym fun _=>q)))
 | .rem,.int k a,.int k' b=>k=k'∧∃q:Int,(∀_:Unit,uxh a.den b.den q)∧K (ua5 (.int k (.sym fun _=>q)))
 | .shl,.int k a,.int _ b=>∃q:Int,(∀_:Unit,0≤b.den∧b.den<(k.bits:Int)∧q=a.den*2^b.den.toNat∧inR k q)∧K (ua5 (.int k (.sym fun _=>q)))
 | .shr,.int k a,.int _ b=>∃q:Int,(∀_:Unit,0≤b.den∧b.den<(k.bits:Int)∧q=a.den.fdiv (2^b.den.toNat))∧K (ua5 (.int k (.sym fun _=>q)))
 | .and,.int k a,.int k' b=>k=k'∧∃q:Int,(∀_:Unit,∃x y:Nat,a.den=(x:Int)∧b.den=(y:Int)∧inR k (x:Int)∧inR k (y:Int)∧q=((x &&& y:Nat):Int))∧K (ua5 (.int k (.sym fun _=>q)))
 | .or,.int k a,.int k' b=>k=k'∧∃q:Int,(∀_:Unit,∃x y:Nat,a.den=(x:Int)∧b.den=(y:Int)∧inR k (x:Int)∧inR k (y:Int)∧inR k ((x |||y:Nat):Int)∧q=((x |||y:Nat):Int))∧K (ua5 (.int k (.sym fun _=>q)))
 | .andNot,.int k a,.int k' b=>k=k'∧∃q:Int,(∀_:Unit,∃x y:Nat,a.den=(x:Int)∧b.den=(y:Int)∧inR k (x:Int)∧inR k (y:Int)∧q=((x ^^^(x &&& y):Nat):Int))∧K (ua5 (.int k (.sym fun _=>q)))
 | .eql,.int k a,.int k' b=>k=k'∧ujl a b eqB K
 | .neq,.int k a,.int k' b=>k=k'∧ujl a b neB K
 | .lss,.int k a,.int k' b=>k=k'∧ujl a b ltB K
 | .leq,.int k a,.int k' b=>k=k'∧ujl a b leB K
 | .gtr,.int k a,.int k' b=>k=k'∧ujl a b gtB K
 | .geq,.int k a,.int k' b=>k=k'∧ujl a b geB K
 |_,_,_=>False
end Go.Eng

namespace Go.Eng
open Go
def umK (P:Program)(t:TypeId)(n:Nat):Prop:=
 ∀ (xs ys:List Int) (W:World),xs.length=n→ys.length=n →
  (Op.equal t (.agg ⟨xs.map (Value.int .i64)⟩) (.agg ⟨ys.map (Value.int .i64)⟩)).run P W = .ok (decide (xs=ys)) W ∧
  Program.eqGuardType P P.depth t=false
def uaQ :List SV→Option (List IX)
 |[]=>some []
 | s::l=>match s,uaQ l with
  | .int .i64 x,some r=>some (x::r)
  | .arr n f,some r=>intsArr f n r
  |_,_=>none
 where
 intsArr (f:IX→SV):Nat→List IX→Option (List IX)
 |0,r=>some r
 | n+1,r=>match f (.lit ((n:Nat):Int))with
  | .int .i64 x=>intsArr f n (x::r)
  |_=>none
def uaS :List IX→List Int
 |[]=>[]
 |x::l=>x.den::uaS l
def uam (l:List (Nat×To))(n:Nat):Option To:=lk l n
def Blk.sub (g:Nat→Option To):Blk→Blk
 | .cells l ty=>.cells (SV.subL g l) ty
 | .row ety sz n e=>.row ety sz n e
 | .map kt vt sc nk f=>.map kt vt sc nk f
 | .it sc nk R F la=>.it sc nk R F la
def ugC (bor:List Nat):List (Nat×To):=(List.range bor.length).map fun j=>(bor.getD j 0,To.id j)
def ukp (bor:List Nat):List (Nat×To):=(List.range bor.length).map fun j=>(j,To.id (bor.getD j 0))
def subset :List Nat→List Nat→Bool
 |[],_=>true
 | x::l,m=>match m.contains x with
  |true=>subset l m
  |false=>false
def ugb (gH:Nat→Option Blk):List Nat→Option (List Blk)
 |[]=>some []
 | x::l=>match gH x,ugb gH l with
  |some b,some bs=>some (b::bs)
  |_,_=>none
def ui4 :List Nat→Bool
 |[]=>true
 | x::l=>match l.contains x with
  |true=>false
  |false=>ui4 l
def ubr :List Blk→List Nat
 |[]=>[]
 |b::l=>ua9 b++ubr l
def ubl (gH:Nat→Option Blk):List Nat→List (Nat×To)
 |[]=>[]
 | x::l=>match gH x with
  |some (.row _ _ _ _)=>(x,.gone)::ubl gH l
  |_=>ubl gH l
def ui5 (g:Nat→Option To):List Nat→List Blk→List (Nat×Option Blk)
 |x::l,b::bs=>(x,some (b.sub g))::ui5 g l bs
 |_,_=>[]
def uef (gH:Nat→Option Blk)(kp:Nat→Bool):Nat→Bool→Nat→Option To
 |0,_=>fun _=>some .gone
 | n +1,top=>fun id=>match kp id with
  | true=>match top with
   |true=>none
   |false=>some .gone
  | false=>match gH id with
   |some (.cells l _)=>some (.cells (SV.subL (uef gH kp n false) l))
   |some (.row _ sz m e)=>some (.sl sz m e)
   |some (.map kt vt sc nk f)=>some (.mapx kt vt sc nk (fun ks=>(f ks).isSome) (fun ks=>(f ks).getD .any))
   |some (.it _ _ _ _ _)=>some .gone
   |none=>some .gone
def ubf :SV→Bool
 | .int _ _=>true
 | .bool _=>true
 | .val _=>true
 | .any=>true
 | .agg l=>plainL l
 | .tup l=>plainL l
 |_=>false
where plainL:List SV→Bool
 |[]=>true
 | s::l=>match ubf s with
  |true=>plainL l
  |false=>false
def uc2 :SV→Prop
 | .arr _ f=>∀ix:IX,ubf (f ix)=true
 | .agg l=>go l
 | .tup l=>go l
 |s=>ubf s=true
where go:List SV→Prop
 |[]=>True
 |s::l=>uc2 s∧go l
def unY (P:Program)(f:FuncId)(args:List SV)(gH:Nat→Option Blk)(K:Upd→Prop):Prop:=
 ∃post:SV→Prop,ua0 P f (SV.subL (uef gH (fun _=>false) 4 false) args) [] (fun r _=>post r)∧∀r,post r→(∀_:Unit,uc2 r)∧K (ua5 r)
def uqo (P:Program)(f:FuncId)(args:List SV)(gH:Nat→Option Blk)(K:Upd→Prop):Prop:=
 ∃ id:Nat,match gH id with
  | some (.row ety sz n e)=>match SV.idsL (SV.subL (uam [(id,.sl sz n e)]) args)with
   |[]=>∃post:SV→Prop,ua0 P f (SV.subL (uam [(id,.sl sz n e)]) args) [] (fun r _=>post r)∧∀r,post r→K ⟨r,[(id,some (.row ety sz (.lit 0) fun _=>[]))],[(id,.sl sz n e)]⟩
   |_=>False
  |_=>False
def uvG (P:Program)(f:FuncId)(args:List SV)(bor:List Nat)(bl:List Blk)(nid:Nat)(gH:Nat→Option Blk)(K:Upd→Prop):Prop:=
 ∃ post:SV→List Blk→Prop,uaU P f (SV.subL (uam (ugC bor)) args) (bl.map (Blk.sub (uam (ugC bor)))) post ∧
  ∀r bs,post r bs→(∀_:Unit,(bs.take bor.length).map Blk.isRow=bl.map Blk.isRow)→(∀_:Unit,bs.length≤bor.length+1)∧K ⟨r.sub (uam (ukp (bor++[nid]))),ui5 (uam (ukp (bor++[nid]))) (bor++[nid]) bs,ubl gH bor⟩
def ulX (P:Program)(f:FuncId)(args:List SV)(nid:Nat)(gH:Nat→Option Blk)(ord:Bool)(K:Upd→Prop):Prop:=
 match SV.idsL args with
 | []=>(∃post:SV→Prop,ua0 P f args [] (fun r _=>post r)∧∀r,post r→K (ua5 r))∨∃go:Bool,match go with
  |true=>uvG P f args [] [] nid gH K
  |false=>False
 | ids =>match ord with
  |false=>unY P f args gH K
  | true=>∃bo:Option (List Nat),match bo with
   |none=>unY P f args gH K
   |some []=>uqo P f args gH K
   |some (x0::bor0)=>match ui4 (x0::bor0),subset ids (x0::bor0),ugb gH (x0::bor0)with
   | true,true,some bl=>match subset (ubr bl) (x0::bor0)with
    |true=>uvG P f args (x0::bor0) bl nid gH K
    |false=>False
   |_,_,_=>False
def ucI (n:Int)(elem:IX→List SV)(m:Int)(new:IX→List SV)(elem':IX→List SV):Prop:=
 (∀μ ν (ix:IX) (c:Array Value),0≤ix.den→ix.den<n→Rel μ ν (.agg (elem ix)) (.agg c)→∀jx:IX,jx.den=ix.den→Rel μ ν (.agg (elem' jx)) (.agg c)) ∧
 (∀μ ν (ix:IX) (c:Array Value),0≤ix.den→ix.den<m→Rel μ ν (.agg (new ix)) (.agg c)→∀jx:IX,jx.den=n+ix.den→Rel μ ν (.agg (elem' jx)) (.agg c))
def Le (a b:SV):Prop:=∀μ ν v,Rel μ ν a v→Rel μ ν b v
def ul1 (n:Int)(f:IX→SV)(ix:Int)(x:SV)(f':IX→SV):Prop:=
 (∀jx:IX,0≤jx.den→jx.den<n→jx.den=ix→Le x (f' jx))∧(∀jx:IX,0≤jx.den→jx.den<n→jx.den≠ix→Le (f jx) (f' jx))
def umV (n:Int)(e:IX→List SV)(ix:Int)(o2:Nat)(x:List SV)(e':IX→List SV):Prop:=
 (∀jx:IX,0≤jx.den→jx.den<n→jx.den≠ix→Le (.agg (e jx)) (.agg (e' jx))) ∧
 (∀jx:IX,0≤jx.den→jx.den<n→jx.den=ix→∃l,ui6 (e jx) o2 x=some l∧Le (.agg l) (.agg (e' jx)))
def uhr :List SV→Nat→Option (Nat×Nat×(IX→SV))
 |[],_=>none
 | s ::l,o=>match s with
  | .arr n f=>match Nat.ble n o with
   | true=>match uhr l (o-n)with
    |some (st,r)=>some (st+n,r)
    |none=>none
   |false=>some (0,n,f)
  | _ =>match o with
   |0=>none
   | o+1=>match uhr l o with
    |some (st,r)=>some (st+1,r)
    |none=>none
def uvl :SV→Bool
 | .agg _=>true
 |_=>false
def udB :SV→Bool
 | .any=>false
 | .tup _=>false
 | .arr _ _=>false
 |_=>true
def ueI (id:Nat)(l:List SV)(ty:TypeId)(o:Nat)(x:SV)(K:Upd→Prop):Prop:=
 match x with
 | .agg c=>match ui6 l o c with
  |some l'=>K ⟨.any,[(id,some (.cells l' ty))],[]⟩
  |none=>False
 | x =>match uhr l o with
  | some (st,n,f)=>match x.ids with
   | []=>∃f':IX→SV,(∀_:Unit,ul1 n f ((o-st:Nat):Int) x f')∧match ui6 l st [.arr n f']with
    |some l'=>K ⟨.any,[(id,some (.cells l' ty))],[]⟩
    |none=>False
   |_=>False
  | none=>match ui6 l o [x]with
   |some l'=>K ⟨.any,[(id,some (.cells l' ty))],[]⟩
   |none=>False
def ugG (place:Nat→Option (Nat×Nat)):List SV→List (Nat×SV)→Option (List SV)
 |l,[]=>some l
 | l, (i,x)::r=>match place i with
  | some (o,m)=>match Nat.beq (udH (cellsOf x)) m,udB x with
   | true,true=>match ui6 l o (cellsOf x)with
    |some l'=>ugG place l' r
    |none=>none
   |_,_=>none
  |none=>none
def nth {α:Type}:List α→Nat→Option α
 |[],_=>none
 |x::_,0=>some x
 |_::l,n+1=>nth l n
def uit (ge:Nat→SV):List (Nat×Operand)→List (Nat×SV)
 |[]=>[]
 |(i,x)::l=>(i,ev ge x)::uit ge l
def urd (z:List SV):Nat→List SV
 |0=>[]
 |n+1=>z++urd z n
def ukV (T:uar)(fs:List (Nat×Nat))(j:Nat):Option (Nat×Nat):=match nth fs j with
 | some (o,ft)=>match T ft with
  |some ti=>some (o,ti.size)
  |none=>none
 |none=>none
def uiB :IX→Option Nat
 | .lit (.ofNat n)=>some n
 |_=>none
def ufr (x:SV)(o:Nat):SV:=match x with
 | .own id off=>.own id (off+o)
 | .owe id off sz n ix o2=>.owe id off sz n ix (o2+o)
 | .roe id sz ix o2=>.roe id sz ix (o2+o)
 | .pp off c=>.pp (off+o) c
 | .el sz n e ix off=>.el sz n e ix (off+o)
 |_=>.any
def us6 (a b:IX):IX:=match a,b with
 | .lit x,.lit y=>.lit (if y<x then y else x)
 |a,b=>.sym fun _=>if b.den<a.den then b.den else a.den
def usW (a b:IX):IX:=match a,b with
 | .lit x,.lit y=>.lit (if y>x then y else x)
 |a,b=>.sym fun _=>if b.den>a.den then b.den else a.den
def uj3 (k:IntKind)(g:IX→IX→IX):IX→List SV→Option IX
 |a,[]=>some a
 | a,.int k' b::l=>match decide (k=k')with
  |true=>uj3 k g (g a b) l
  |false=>none
 |_,_=>none
def urs (x:SV)(gH:Nat→Option Blk)(K:Upd→Prop):Prop:=match x with
 | .sl _ n _=>K (ua5 (.int .i64 n))
 | .ows _ _ len _ _=>K (ua5 (.int .i64 (.lit (len:Int))))
 | .owd _ _ _ _ n=>K (ua5 (.int .i64 n))
 | .val (.slice none 0 0)=>K (ua5 (.int .i64 (.lit 0)))
 | .val (.slice (some _) n _)=>K (ua5 (.int .i64 (.sym fun _=>(n:Int))))
 | .row id=>match gH id with
  |some (.row _ _ n _)=>K (ua5 (.int .i64 n))
  |_=>False
 |_=>False
def ueo (a b:IX):IX:=match a,b with
 | .lit x,.lit y=>.lit (x+y)
 |a,b=>.sym fun _=>a.den+b.den
def uvz (nid len sz:Nat)(e:TypeId)(l:List SV):Upd:=match(Nat.ble 3 len&&Nat.ble sz 4),Nat.ble len 16777216,Nat.ble (len*sz) (udH l),SV.idsL l with
 |true,true,true,[]=>⟨.sl sz (.lit (len:Int)) (fun ix=>ucu l (0+ix.den.toNat*sz) sz),[],[]⟩
 | _,_,_,_=>match(Nat.beq len 1&&Nat.beq sz 1),Nat.beq (udH l) 1,SV.idsL l with
  |true,true,[]=>⟨.row nid,[(nid,some (.row e sz (.lit 1) (fun _=>l)))],[]⟩
  |_,_,_=>⟨.ows nid 0 len len sz,[(nid,some (.cells l e))],[]⟩
def uj8 (l:List SV)(off sz:Nat)(K:IX→(IX→List SV)→Prop):Nat→Prop
 |0=>K (.lit 0) (fun _=>[])
 | 1=>match ubn l off sz with
  |some c=>K (.lit 1) (fun _=>c)
  |none=>False
 |n+2=>∃e:IX→List SV,(∀_:Unit,∀j:Nat,j<n+2→∃c,ubn l (off+j*sz) sz=some c∧∀ix:IX,ix.den=(j:Int)→Le (.agg c) (.agg (e ix)))∧K (.lit ((n+2:Nat):Int)) e
def ut7 (x:SV)(sz:Nat)(gH:Nat→Option Blk)(K:IX→(IX→List SV)→Prop):Prop:=match x with
 | .sl sz' n e=>match Nat.beq sz sz' with
  |true=>K n e
  |false=>False
 | .val (.slice none 0 0)=>K (.lit 0) (fun _=>[])
 | .row id=>match gH id with
  | some (.row _ sz' n e)=>match Nat.beq sz sz' with
   |true=>K n e
   |false=>False
  |_=>False
 | .ows id off len _ sz'=>match Nat.beq sz sz',gH id with
  | true,some (.cells l _)=>match SV.idsL l with
   |[]=>uj8 l off sz K len
   |_=>False
  |_,_=>False
 | .owd id off sz' m n=>match Nat.beq sz sz',Nat.beq sz 1,gH id with
  | true,true,some (.cells l _)=>match uip l off with
   | some (k,f)=>match Nat.ble m k with
    |true=>K n (fun ix=>[f ix])
    |false=>False
   |none=>False
  |_,_,_=>False
 |_=>False
def utj (c0 c1:List SV)(ix:IX):List SV:=if ix.den=0 then c0 else c1
def ufb (ety:TypeId)(ti:TI)(nid:Nat)(d s:SV)(gH:Nat→Option Blk)(ord:Bool)(K:Upd→Prop):Prop:=
 match Nat.blt 0 ti.size,Nat.blt 0 ti.bytes with
 | true, true=>ut7 s ti.size gH fun m new=>match d with
  | .row id =>match ord,gH id with
   | true, some (.row ety' sz n e)=>match Nat.beq ety' ety,Nat.beq sz ti.size with
    | true,true=>∃e':IX→List SV,(∀_:Unit,ucI n.den e m.den new e'∧0≤n.den∧0≤m.den∧(n.den+m.den)*(ti.bytes:Int)≤140737488355328) ∧
     (K ⟨.row id,[(id,some (.row ety sz (ueo n m) e'))],[(id,.gone)]⟩∨∃go:Bool,match go with
      |true=>K ⟨.sl sz (ueo n m) e',[(id,some (.row ety sz (.lit 0) (fun _=>[])))],[(id,.gone)]⟩
      |false=>False)
    |_,_=>False
   |_,_=>False
  | .val (.slice none 0 0)=>(∀_:Unit,0≤m.den∧m.den*(ti.bytes:Int)≤140737488355328)∧K ⟨.row nid,[(nid,some (.row ety ti.size m new))],[]⟩
  | .ows _ _ 0 0 _=>(∀_:Unit,0≤m.den∧m.den*(ti.bytes:Int)≤140737488355328)∧K ⟨.row nid,[(nid,some (.row ety ti.size m new))],[]⟩
  | .ows id off 1 1 sz=>match Nat.beq sz ti.size,gH id with
   | true,some (.cells l _)=>match ubn l off sz with
    | some c=>match SV.idsL c with
     |[]=>∃e':IX→List SV,(∀_:Unit,ucI 1 (fun _=>c) m.den new e'∧0<m.den∧(1+m.den)*(ti.bytes:Int)≤140737488355328)∧K ⟨.row nid,[(nid,some (.row ety ti.size (ueo (.lit 1) m) e'))],[]⟩
     |_=>False
    |none=>False
   |_,_=>False
  | .ows id off 2 2 sz=>match uiB m with
   |some 0=>K (ua5 (.ows id off 2 2 sz))
   | _ =>match Nat.beq sz ti.size,gH id with
    | true,some (.cells l _)=>match ubn l off sz,ubn l (off+sz) sz with
     | some c0,some c1=>match SV.idsL c0,SV.idsL c1 with
      |[],[]=>∃e':IX→List SV,(∀_:Unit,ucI 2 (utj c0 c1) m.den new e'∧0<m.den∧(2+m.den)*(ti.bytes:Int)≤140737488355328)∧K ⟨.row nid,[(nid,some (.row ety ti.size (ueo (.lit 2) m) e'))],[]⟩
      |_,_=>False
     |_,_=>False
    |_,_=>False
  |_=>False
 |_,_=>False
def ujt :SV→Option (Bool×List IX)
 | .int .i64 x=>some (true,[x])
 | .agg l=>match uaQ l with
  |some xs=>some (false,xs)
  |none=>none
 |_=>none
def ufI (P:Program)(t kt vt:TypeId):Prop:=P.underlying t=some (.map kt vt)
def ujT (P:Program)(kt:TypeId)(sc:Bool)(nk:Nat):Prop:=∀(xs:List Int) (W:World),xs.length=nk→(∀em,(Instr.checkKey em 10000 kt (ubc sc xs)).run P W = .ok () W) ∧
 ∀ es:List MapEntry,(∀e∈es,∃ks:List Int,ks.length=nk∧e.key=ubc sc ks) →
  ∃r,(Instr.findKey kt (ubc sc xs) es).run P W = .ok r W∧((r=none∧∀e∈es,e.key≠ubc sc xs)∨∃i e,es[i]? =some e∧e.key=ubc sc xs∧r=some (i,e.val))
def okV (commaOk:Bool)(s:SV)(b:Bool):SV:=match commaOk with
 |true=>.tup [s,.bool (.lit b)]
 |false=>s
def ufc (ti:TI):SV:=match ti.isAgg with
 |true=>.agg (zsv ti.zero)
 | false=>match zsv ti.zero with
  |[.arr _ _]=>.any
  |[s]=>s
  |_=>.any
def unw (T:uar)(P:Program)(t:TypeId)(x:SV)(key:SV)(commaOk:Bool)(gH:Nat→Option Blk)(K:Upd→Prop):Prop:=match x with
 | .mp id=>match gH id,ujt key with
  | some (.map kt vt sc nk f),some (sc',ks)=>match T vt with
   |some tv=>(∀_:Unit,sc'=sc∧ks.length=nk∧ufI P t kt vt∧ujT P kt sc nk)∧∃r:Option SV,(∀_:Unit,f (uaS ks)=r)∧match r with
    |some s=>K (ua5 (okV commaOk s true))
    |none=>K (ua5 (okV commaOk (ufc tv) false))
   |none=>False
  |_,_=>False
 | .memo kt vt sc nk F=>match ujt key with
  | some (sc',ks)=>match T vt with
   |some tv=>(∀_:Unit,sc'=sc∧ks.length=nk∧ufI P t kt vt∧ujT P kt sc nk)∧K (ua5 (okV commaOk (F (uaS ks)) true))∧K (ua5 (okV commaOk (ufc tv) false))
   |none=>False
  |none=>False
 | .mapx kt vt sc nk D F=>match ujt key with
  | some (sc',ks)=>match T vt with
   |some tv=>(∀_:Unit,sc'=sc∧ks.length=nk∧ufI P t kt vt∧ujT P kt sc nk)∧(∀_:D (uaS ks)=true,K (ua5 (okV commaOk (F (uaS ks)) true)))∧(∀_:D (uaS ks)=false,K (ua5 (okV commaOk (ufc tv) false)))
   |none=>False
  |none=>False
 |_=>False
def uiZ (nk:Nat)(f:List Int→Option SV)(k:List Int)(s:SV)(f':List Int→Option SV):Prop:=∀ks:List Int,ks.length=nk →
 (ks=k→match f' ks with
  |some s'=>Le s s'
  |none=>False)∧(ks≠k→match f ks,f' ks with
  |none,none=>True
  |some a,some b=>Le a b
  |_,_=>False)
def uf9 (P:Program)(t:TypeId)(x:SV)(key s:SV)(gH:Nat→Option Blk)(ord:Bool)(K:Upd→Prop):Prop:=match x,ord with
 | .mp id,true=>match gH id,ujt key,s.ids with
  |some (.map kt vt sc nk f),some (sc',ks),[]=>∃f':List Int→Option SV,(∀_:Unit,sc'=sc∧ks.length=nk∧ufI P t kt vt∧ujT P kt sc nk∧uiZ nk f (uaS ks) s f')∧K ⟨.any,[(id,some (.map kt vt sc nk f'))],[]⟩
  |_,_,_=>False
 | .memo kt vt sc nk F,true=>match ujt key,s.ids with
  |some (sc',ks),[]=>(∀_:Unit,sc'=sc∧ks.length=nk∧ufI P t kt vt∧ujT P kt sc nk∧uc2 s∧Le s (F (uaS ks)))∧K (ua5 .any)
  |_,_=>False
 |_,_=>False
def uo5 (P:Program)(t:TypeId)(nid:Nat)(K:Upd→Prop):Prop:=∃(kt vt:TypeId) (sc:Bool) (nk:Nat),(∀_:Unit,ufI P t kt vt∧(sc=true→nk=1)) ∧
 (K ⟨.mp nid,[(nid,some (.map kt vt sc nk (fun _=>none)))],[]⟩∨∃F:List Int→SV,K (ua5 (.memo kt vt sc nk F)))
def uiE (P:Program)(t:TypeId)(x:SV)(nid:Nat)(K:Upd→Prop):Prop:=match x with
 | .mapx kt vt sc nk D F=>(∀_:Unit,ufI P t kt vt)∧K ⟨.own nid 0,[(nid,some (.it sc nk D F none))],[]⟩
 |_=>False
def upg :List Int→List SV
 |[]=>[]
 |x::l=>.int .i64 (.sym fun _=>x)::upg l
def utB (sc:Bool)(ks:List Int):SV:=match sc with
 |true=>.int .i64 (.sym fun _=>ks.headD 0)
 |false=>.agg (upg ks)
def uu8 :Nat→(List Int→Prop)→Prop
 |0,p=>p []
 |n+1,p=>∀x:Int,uu8 n fun l=>p (x::l)
def Rest (nk:Nat)(R:List Int→Bool)(ks:List Int)(R':List Int→Bool):Prop:=∀k:List Int,k.length=nk→R' k=(R k&& !decide (k=ks))
def uoX (x:SV)(str:Bool)(gH:Nat→Option Blk)(ord:Bool)(K:Upd→Prop):Prop:=match x,str,ord with
 | .own id 0,false,true=>match gH id with
  |some (.it sc nk R F _)=>uu8 nk (fun ks=>∀_:R ks=true,∃R':List Int→Bool,(∀_:Unit,Rest nk R ks R')∧K ⟨.tup [.bool (.lit true),utB sc ks,F ks],[(id,some (.it sc nk R' F (some ks)))],[]⟩) ∧
   (∀_:(∀ks:List Int,ks.length=nk→R ks=false),K (ua5 (.tup [.bool (.lit false)])))
  |_=>False
 |_,_,_=>False
def uiw (x:SV)(gH:Nat→Option Blk)(K:Upd→Prop):Prop:=match x with
 | .own id 0=>match gH id with
  |some (.it sc _ _ F (some ks))=>K (ua5 (.tup [utB sc ks,F ks]))
  |_=>False
 |_=>False
structure LenOk (nk:Nat)(D:List Int→Bool)(l:List (List Int)):Prop where
 once:l.Nodup
 is:∀ks∈l,ks.length=nk∧D ks=true
 all:∀ks:List Int,ks.length=nk→D ks=true→ks∈l
def uif (P:Program)(t:TypeId)(x:SV)(gH:Nat→Option Blk)(K:Upd→Prop):Prop:=match x with
 | .mp id=>match gH id with
  |some (.map kt vt _ nk f)=>∃l:List (List Int),(∀_:Unit,ufI P t kt vt∧LenOk nk (fun ks=>(f ks).isSome) l)∧K (ua5 (.int .i64 (.sym fun _=>(l.length:Int))))
  |_=>False
 | .mapx kt vt _ nk D _=>∃l:List (List Int),(∀_:Unit,ufI P t kt vt∧LenOk nk D l)∧K (ua5 (.int .i64 (.sym fun _=>(l.length:Int))))
 |_=>False
def bdE (ge:Nat→SV)(d:IX):Option Operand→Option IX
 |none=>some d
 | some a=>match ev ge a with
  | .int _ i=>some i
  |_=>none
def uex :Operand→Bool
 | .const (.slice none 0 0)=>true
 |_=>false
def uso (x:SV)(neg:Bool)(gH:Nat→Option Blk)(K:Upd→Prop):Prop:=match x with
 | .sl _ n _=>(∀_:n.den=0,K (ua5 (.bool (.lit (!neg)))))∧K (ua5 (.bool (.lit neg)))
 | .val (.slice none 0 0)=>K (ua5 (.bool (.lit (!neg))))
 | .ows _ _ _ _ _=>K (ua5 (.bool (.lit neg)))
 | .owd _ _ _ _ _=>K (ua5 (.bool (.lit neg)))
 | .row id=>match gH id with
  |some (.row _ _ n _)=>(∀_:n.den=0,K (ua5 (.bool (.lit (!neg)))))∧K (ua5 (.bool (.lit neg)))
  |_=>False
 |_=>False
def uvb (ti:TI)(op:BinOp)(x:SV)(gH:Nat→Option Blk)(K:Upd→Prop):Prop:=match ti.k,op with
 | .sli _,.eql=>uso x false gH K
 | .sli _,.neq=>uso x true gH K
 |_,_=>False
def opT (T : uar)(P:Program)(o:Oper)(nid:Nat)(ge:Nat→SV)(gH:Nat→Option Blk)(ord:Bool)(K:Upd→Prop):Prop:=
 match o.op with
 | .move x=>K (ua5 (ev ge x))
 | .assign x=>K (ua5 (ev ge x))
 | .pick c a b=>match ev ge c with
  | .bool (.lit true)=>K (ua5 (ev ge a))
  | .bool (.lit false)=>K (ua5 (ev ge b))
  | .bool (.sym f)=>(∀_:f ()=true,K (ua5 (ev ge a)))∧(∀_:f ()=false,K (ua5 (ev ge b)))
  |_=>False
 | .alloc t=>match T t with
  |some ti=>K ⟨.own nid 0,[(nid,some (.cells (zsv ti.zero) t))],[]⟩
  |none=>False
 | .box t x=>match T t with
  | some ti=>match Nat.beq (udH (cellsOf (ev ge x))) ti.size,udB (ev ge x)with
   |true,true=>K ⟨.own nid 0,[(nid,some (.cells (cellsOf (ev ge x)) t))],[]⟩
   |_,_=>False
  |none=>False
 | .build t ps=>match T t with
  | some ti=>match ti.k with
   | .str fs=>match ugG (ukV T fs) (zsv ti.zero) (uit ge ps.toList)with
    |some l=>K (ua5 (.agg l))
    |none=>False
   | .arr _ e=>match T e with
    | some te=>match ugG (fun j=>some (j*te.size,te.size)) (zsv ti.zero) (uit ge ps.toList)with
     |some l=>K (ua5 (.agg l))
     |none=>False
    |none=>False
   |_=>False
  |none=>False
 | .buildSlice t len ps=>match T t with
  | some ti=>match ti.k with
   | .sli e=>match T e with
    | some te=>match Nat.ble (len*te.size) 16777216,ugG (fun j=>some (j*te.size,te.size)) (urd (zsv te.zero) len) (uit ge ps.toList)with
     |true,some l=>K (uvz nid len te.size e l)
     |_,_=>False
    |none=>False
   |_=>False
  |none=>False
 | .load t x=>match T t with
  | some ti=>match ev ge x with
   | .own id off=>match gH id with
    |some (.cells l _)=>ucG ti l off K
    |_=>False
   | .owe id off sz n ix o2=>match gH id,ti.isAgg with
    | some (.cells l _),false=>match uip l off with
     | some (m,f)=>match Nat.ble (n*sz) m,Nat.blt o2 sz with
      |true,true=>K (ua5 (f (ix.mulAdd sz o2)))
      |_,_=>False
     |none=>False
    |_,_=>False
   | .roe id sz ix o2=>match gH id with
    | some (.row _ sz' n e)=>match Nat.beq sz sz' with
     |true=>(∀_:Unit,ix.den<n.den)∧ucG ti (e ix) o2 K
     |false=>False
    |_=>False
   | .pp off c=>ucG ti c off K
   | .el _ _ e ix off=>ucG ti (e ix) off K
   |_=>False
  |none=>False
 | .store t a x=>match T t,ord with
  | some ti,true=>match Nat.beq (udH (cellsOf (ev ge x))) ti.size,udB (ev ge x)with
   | true, true=>match ev ge a with
    | .own id off=>match gH id with
     |some (.cells l ty)=>ueI id l ty off (ev ge x) K
     |_=>False
    | .owe id off sz n ix o2=>match gH id,ti.isAgg with
     | some (.cells l ty),false=>match uip l off with
      | some (m,f)=>match Nat.ble (n*sz) m,Nat.blt o2 sz,(ev ge x).ids,uvl (ev ge x)with
       | true,true,[],false=>∃f':IX→SV,(∀_:Unit,ul1 m f (ix.den*(sz:Int)+(o2:Int)) (ev ge x) f')∧match ui6 l off [.arr m f']with
        |some l'=>K ⟨.any,[(id,some (.cells l' ty))],[]⟩
        |none=>False
       |_,_,_,_=>False
      |none=>False
     |_,_=>False
    | .roe id sz ix o2=>match gH id,(ev ge x).ids with
     | some (.row ety sz' n e),[]=>match Nat.beq sz sz' with
      |true=>∃e':IX→List SV,(∀_:Unit,ix.den<n.den∧umV n.den e ix.den o2 (cellsOf (ev ge x)) e')∧K ⟨.any,[(id,some (.row ety sz' n e'))],[]⟩
      |false=>False
     |_,_=>False
    |_=>False
   |_,_=>False
  |_,_=>False
 | .nilCheck x=>match ev ge x with
  | .own id off=>K (ua5 (.own id off))
  | .owe id off sz n ix o2=>K (ua5 (.owe id off sz n ix o2))
  | .roe id sz ix o2=>K (ua5 (.roe id sz ix o2))
  | .pp off c=>K (ua5 (.pp off c))
  | .el sz n e ix off=>K (ua5 (.el sz n e ix off))
  | .clo f a b=>K (ua5 (.clo f a b))
  |_=>False
 | .binOp op t x y _=>match uex y with
  | true=>match T t with
   |some ti=>uvb ti op (ev ge x) gH K
   |none=>False
  | false=>match op,ev ge x,ev ge y with
   | .eql,.bool a,.bool b=>match T t with
    | some ti=>match ti.k with
     | .bool=>K (ua5 (.bool (uvt a b)))
     |_=>False
    |none=>False
   | .neq,.bool a,.bool b=>match T t with
    | some ti=>match ti.k with
     | .bool=>K (ua5 (.bool (usd (uvt a b))))
     |_=>False
    |none=>False
   | .eql,.agg a,.agg b=>match uaQ a,uaQ b with
    |some x,some y=>(∀_:Unit,umK P t x.length∧x.length=y.length)∧K (ua5 (.bool (.sym fun _=>decide (uaS x=uaS y))))
    |_,_=>False
   | .neq,.agg a,.agg b=>match uaQ a,uaQ b with
    |some x,some y=>(∀_:Unit,umK P t x.length∧x.length=y.length)∧K (ua5 (.bool (.sym fun _=> !decide (uaS x=uaS y))))
    |_,_=>False
   |op,x,y=>uiz op x y K
 | .unOp op _ x=>match op,ev ge x with
  | .not,.bool b=>K (ua5 (.bool (usd b)))
  | .neg,.int k a=>ucT k (.lit 0) a utt K
  |_,_=>False
 | .convert s d x=>match T s,T d,ev ge x with
  | some _,some td,.int _ a=>match td.k with
   | .int k'=>match k',a with
    | .i64,.lit n=>match ukT n with
     |true=>K (ua5 (.int .i64 (.lit n)))
     |false=>(∀_:Unit,inR .i64 n)∧K (ua5 (.int .i64 (.sym fun _=>n)))
    |k',a=>(∀_:Unit,inR k' a.den)∧K (ua5 (.int k' a))
   |_=>False
  |_,_,_=>False
 | .makeFunc fn first caps=>match fn with
  | .func f=>K (ua5 (.clo f (evs ge first.toList) (evs ge caps.toList)))
  |_=>False
 | .fieldAddr t x j=>match T t with
  | some ti=>match ti.k with
   | .str fs=>match nth fs j with
    | some (o,_)=>match urX (ufr (ev ge x) o)with
     |false=>K (ua5 (ufr (ev ge x) o))
     |true=>False
    |none=>False
   |_=>False
  |none=>False
 | .indexAddr t x y=>match T t,ev ge y with
  | some ti,.int k ix=>match ti.k with
   | .arr n e=>match T e,ev ge x with
    | some te,.own id off=>match uiB ix with
     | some j=>match Nat.blt j n with
      |true=>K (ua5 (.own id (off+j*te.size)))
      |false=>False
     |none=>(∀_:Unit,0≤ix.den∧ix.den<(n:Int))∧K (ua5 (.owe id off te.size n ix 0))
    | some te,.owe id off sz m jx 0=>match Nat.beq (n*te.size) sz with
     |true=>(∀_:Unit,0≤ix.den∧ix.den<(n:Int))∧K (ua5 (.owe id off te.size (m*n) (.sym fun _=>jx.den*(n:Int)+ix.den) 0))
     |false=>False
    |_,_=>False
   | .sli e=>match T e,ev ge x with
    | some te,.sl sz n el=>match Nat.beq sz te.size with
     |true=>(∀_:Unit,0≤ix.den∧ix.den<n.den)∧K (ua5 (.el sz n el ix 0))
     |false=>False
    | some te,.row id=>match gH id with
     | some (.row _ sz n _)=>match Nat.beq sz te.size with
      |true=>(∀_:Unit,0≤ix.den∧ix.den<n.den)∧K (ua5 (.roe id sz ix 0))
      |false=>False
     |_=>False
    | some te,.ows id off len _ sz=>match Nat.beq sz te.size,uiB ix with
     | true,some j=>match Nat.blt j len with
      |true=>K (ua5 (.own id (off+j*sz)))
      |false=>False
     |true,none=>(∀_:Unit,0≤ix.den∧ix.den<(len:Int))∧K (ua5 (.owe id off sz len ix 0))
     |_,_=>False
    | some te,.owd id off sz m n=>match Nat.beq sz te.size with
     |true=>(∀_:Unit,0≤ix.den∧ix.den<n.den)∧K (ua5 (.owe id off sz m ix 0))
     |false=>False
    |_,_=>False
   |_=>False
  |_,_=>False
 | .extract x j=>match ev ge x with
  | .tup l=>match nth l j with
   |some s=>K (ua5 s)
   |none=>False
  |_=>False
 | .field t x j=>match T t,ev ge x with
  | some ti,.agg l=>match ti.k with
   | .str fs=>match nth fs j with
    | some (o,ft)=>match T ft with
     |some tf=>ucG tf l o K
     |none=>False
    |none=>False
   |_=>False
  |_,_=>False
 | .index t x y=>match T t,ev ge x,ev ge y with
  | some ti,.agg l,.int _ ix=>match ti.k with
   | .arr n e=>match T e,uiB ix with
    | some te,some j=>match Nat.blt j n with
     |true=>ucG te l (j*te.size) K
     |false=>False
    |_,_=>False
   |_=>False
  |_,_,_=>False
 | .slice t x lo hi mx=>match T t,ev ge x,mx with
  | some ti,.own id off,none=>match ti.k,lo,hi with
   | .arr n e,none,none=>match T e with
    |some te=>K (ua5 (.ows id off n n te.size))
    |none=>False
   | .arr n e,none,_=>match T e,bdE ge (.lit (n:Int)) hi with
    |some te,some j=>(∀_:Unit,0≤j.den∧j.den≤(n:Int)∧n≤maxLen)∧K (ua5 (.owd id off te.size n j))
    |_,_=>False
   |_,_,_=>False
  | some ti,.sl sz n el,none=>match ti.k with
   | .sli e=>match T e,bdE ge (.lit 0) lo,bdE ge n hi with
    | some te,some i,some j=>match Nat.beq te.size sz with
     |true=>(∀_:Unit,0≤i.den∧i.den≤j.den∧j.den≤n.den)∧K (ua5 (.sl sz (.sym fun _=>j.den-i.den) (fun ix=>el (.sym fun _=>i.den+ix.den))))
     |false=>False
    |_,_,_=>False
   |_=>False
  | some ti,.sl sz n el,some _=>match ti.k with
   | .sli e=>match T e,bdE ge (.lit 0) lo,bdE ge n hi,bdE ge n mx,hi.isSome with
    | some te,some i,some j,some k,true=>match Nat.beq te.size sz with
     |true=>(∀_:Unit,0≤i.den∧i.den≤j.den∧j.den≤k.den∧k.den≤n.den)∧K (ua5 (.sl sz (.sym fun _=>j.den-i.den) (fun ix=>el (.sym fun _=>i.den+ix.den))))
     |false=>False
    |_,_,_,_,_=>False
   |_=>False
  | some ti,.pp off cells,none=>match ti.k,lo with
   | .arr n e,none=>match T e,bdE ge (.lit (n:Int)) hi,uip cells off with
    | some te,some j,some (m,f)=>match Nat.beq te.size 1,Nat.ble n m with
     |true,true=>(∀_:Unit,0≤j.den∧j.den≤(n:Int)∧n≤maxLen)∧K (ua5 (.sl 1 j (fun ix=>[f ix])))
     |_,_=>False
    |_,_,_=>False
   |_,_=>False
  | some ti,.ows id off _ cap sz,some _=>match ti.k,lo with
   | .sli e,none=>match T e,bdE ge (.lit 0) hi,bdE ge (.lit 0) mx,hi.isSome with
    | some te,some j,some m,true=>match uiB j,uiB m with
     | some j,some m=>match Nat.beq te.size sz,Nat.ble j m,Nat.ble m cap with
      |true,true,true=>K (ua5 (.ows id off j m sz))
      |_,_,_=>False
     |_,_=>False
    |_,_,_,_=>False
   |_,_=>False
  | some ti,.val (.slice (some ad) len cap),_=>match ti.k with
   | .sli e=>match T e,bdE ge (.lit 0) lo,bdE ge (.lit (len:Int)) hi,bdE ge (.lit (cap:Int)) mx with
    |some te,some i,some j,some k=>∃v:Value,(∀_:Unit,(mx.isSome=true→hi.isSome=true)∧0≤i.den∧i.den≤j.den∧j.den≤k.den∧i.den<k.den∧k.den≤(cap:Int)∧v = .slice (some (ad.add (i.den.toNat*te.size))) (j.den.toNat-i.den.toNat) (k.den.toNat-i.den.toNat))∧K (ua5 (.val v))
    |_,_,_,_=>False
   |_=>False
  |_,_,_=>False
 | .makeMap t r=>match r with
  |none=>uo5 P t nid K
  |some _=>False
 | .lookup t x y ok=>unw T P t (ev ge x) (ev ge y) ok gH K
 | .mapUpdate t x y z=>uf9 P t (ev ge x) (ev ge y) (ev ge z) gH ord K
 | .range t x=>uiE P t (ev ge x) nid K
 | .next x s=>uoX (ev ge x) s gH ord K
 | .entry x=>uiw (ev ge x) gH K
 | .makeSlice t len cap=>match T t,ev ge len,ev ge cap with
  | some ti,.int .i64 (.lit (.ofNat n)),.int .i64 (.lit (.ofNat m))=>match ti.k with
   | .sli e=>match T e with
    | some te=>match Nat.beq n m,Nat.ble (n*te.size) 16777216,Nat.ble (n*te.bytes) 16777216,Nat.ble n 16777216 with
     |true,true,true,true=>K ⟨.ows nid 0 n n te.size,[(nid,some (.cells (urd (zsv te.zero) n) e))],[]⟩
     |_,_,_,_=>False
    |none=>False
   |_=>False
  | some ti,.int .i64 ix,.int .i64 jx=>match ti.k with
   | .sli e=>match T e with
    |some te=>(∀_:Unit,0≤ix.den∧jx.den=ix.den∧ix.den*(te.size:Int)≤16777216∧ix.den*(te.bytes:Int)≤16777216∧ix.den≤16777216)∧K ⟨.row nid,[(nid,some (.row e te.size ix (fun _=>zsv te.zero)))],[]⟩
    |none=>False
   |_=>False
  |_,_,_=>False
 | .call c =>match c.callee with
  | .builtin .len=>match c.args.toList,c.argTypes.toList with
   | [x],[t]=>match T t with
    | some ti=>match ti.k with
     | .sli _=>urs (ev ge x) gH K
     | .one=>uif P t (ev ge x) gH K
     |_=>False
    |none=>False
   |_,_=>False
  | .builtin .append=>match c.args.toList,c.argTypes.toList with
   | [d, s],[t,t']=>match Nat.beq t t',T t with
    | true,some ti=>match ti.k with
     | .sli e=>match T e with
      |some te=>ufb e te nid (ev ge d) (ev ge s) gH ord K
      |none=>False
     |_=>False
    |_,_=>False
   |_,_=>False
  | .builtin .copy=>match c.args.toList,c.argTypes.toList,ord with
   | [d, s], [t, _],true=>match T t with
    | some ti =>match ti.k with
     | .sli e => match T e,ev ge d,ev ge s with
      | some te,.ows id off len _ sz,.sl sz' n el=>match Nat.beq sz te.size,Nat.beq sz' te.size,gH id with
       | true, true,some (.cells l ty)=>match Nat.beq sz 1,uip l off with
        | true,some (m,f)=>match Nat.beq m len with
         |true=>∃f':IX→SV,(∀_:Unit,0≤n.den∧(∀jx:IX,0≤jx.den→jx.den<(m:Int)→(jx.den<n.den→∃s,el jx=[s]∧udB s=true∧Le s (f' jx))∧(n.den≤jx.den→Le (f jx) (f' jx)))) ∧
          match ui6 l off [.arr m f']with
          |some l'=>K ⟨.int .i64 (.sym fun _=>if n.den<(len:Int)then n.den else(len:Int)),[(id,some (.cells l' ty))],[]⟩
          |none=>False
         |false=>False
        |_,_=>False
       |_,_,_=>False
      |_,_,_=>False
     |_=>False
    |none=>False
   |_,_,_=>False
  | .builtin .min=>match evs ge c.args.toList with
   | .int k a::l=>match uj3 k us6 a l with
    |some r=>K (ua5 (.int k r))
    |none=>False
   |_=>False
  | .builtin .max=>match evs ge c.args.toList with
   | .int k a::l=>match uj3 k usW a l with
    |some r=>K (ua5 (.int k r))
    |none=>False
   |_=>False
  | .value f=>match ev ge f with
   | .clo fn first caps=>ulX P fn (first++(evs ge c.args.toList++caps)) nid gH ord K
   |_=>False
  |_=>False
 |_=>False
end Go.Eng

namespace Go.Eng
open Go
def udP :Option SV→SV
 |some x=>x
 |none=>.any
def ubO (s:LS)(k:Nat):SV:=udP (lk s.env k)
def uvq (g:Nat→Option To):List (Nat×SV)→List (Nat×SV)
 |[]=>[]
 |(k,x)::l=>(k,x.sub g)::uvq g l
def uvs (g:Nat→Option To):List (Nat×Blk)→List (Nat×Blk)
 |[]=>[]
 |(k,x)::l=>(k,x.sub g)::uvs g l
def usn :List (Nat×Blk)→List (Nat×Option Blk)→List (Nat×Blk)
 |H,[]=>H
 |H,(id,some b)::r=>usn ((id,b)::rm H id) r
 |H,(id,none)::r=>usn (rm H id) r
def ude (env:List (Nat×SV))(d:Option Nat)(x:SV):List (Nat×SV):=match d with
 |some d=>(d,x)::rm env d
 |none=>env
def ub4 (s:LS)(d:Option Nat)(u:Upd):LS:=match u.sub with
 |[]=>⟨ude s.env d u.val,usn s.H u.hs,s.nxt⟩
 |sub=>⟨ude (uvq (uam sub) s.env) d u.val,usn (uvs (uam sub) s.H) u.hs,s.nxt⟩
inductive Gd where
 |yes
 |no
 |ask (dj:Nat) (f:Unit→Bool) (want:Bool)
 |bad
def ukK (ops:List Oper)(o:Oper)(ge:Nat→SV):Gd:=match o.guard with
 |none=>.yes
 | some (j,want)=>match nth ops j with
  | some oj=>match oj.dst with
   | some dj=>match ge dj,want with
    | .bool (.lit true),true=>.yes
    | .bool (.lit false),false=>.yes
    | .bool (.lit true),false=>.no
    | .bool (.lit false),true=>.no
    | .bool (.sym f),w=>.ask dj f w
    | .tup [],_=>.no
    |_,_=>.bad
   |none=>.bad
  |none=>.bad
def uff (T:uar)(P:Program)(ops:List Oper)(o:Oper)(nid:Nat)(s:LS)(K:LS→Prop):Prop:=
 match ukK ops o (ubO s)with
 | .yes=>opT T P o nid (ubO s) (lk s.H) true (fun u=>K (ub4 s o.dst u))
 | .no=>K ⟨ude s.env o.dst (.tup []),s.H,s.nxt⟩
 | .ask dj f w=>
  (∀_:f ()=w,opT T P o nid (ubO ⟨ude s.env (some dj) (.bool (.lit w)),s.H,s.nxt⟩) (lk s.H) true (fun u=>K (ub4 ⟨ude s.env (some dj) (.bool (.lit w)),s.H,s.nxt⟩ o.dst u))) ∧
  (∀_:f () = !w,K ⟨ude (ude s.env (some dj) (.bool (.lit (!w)))) o.dst (.tup []),s.H,s.nxt⟩)
 | .bad=>False
def ugS (T:uar)(P:Program)(ops:List Oper):List Oper→Nat→LS→(LS→Prop)→Prop
 |[],nid,s,K=>K ⟨s.env,s.H,nid⟩
 |o::rest,nid,s,K=>uff T P ops o nid s (fun s'=>ugS T P ops rest (nid+1) s' K)
structure SE where
 i:Nat
 ord:Bool
 pre:List Nat
 g:Bool
 k:Nat
 x:Option Nat
def uvH (k:Nat):Bool:=match Nat.beq k 1 with
 |true=>true
 |false=>Nat.beq k 6
def SE.setX (X Y:Option Nat)(e:SE):SE:=match e.x with
 |none=>⟨e.i,e.ord,e.pre,e.g,e.k,X⟩
 |some _=>⟨e.i,e.ord,e.pre,e.g,e.k,Y⟩
def uxM :List SE→Bool
 |[]=>false
 | e::l=>match e.x with
  |some _=>true
  |none=>uxM l
def eqX (a b:Option Nat):Bool:=match a,b with
 |none,none=>true
 |some x,some y=>Nat.beq x y
 |_,_=>false
def ur9 :List SE→Bool
 |[]=>false
 | e::l=>match uvH e.k with
  |true=>true
  |false=>ur9 l
def hid (e:SE)(id:Nat):Bool:=match uvH e.k,e.x with
 |true,some x=>Nat.beq x id
 |_,_=>false
def uvL (X:Option Nat):List (Nat×Option Blk)→Bool
 |[]=>true
 | (id,_)::l=>match X with
  | some x=>match Nat.beq x id with
   |true=>uvL X l
   |false=>false
  |none=>false
def ugJ :List Nat→Nat→Bool
 |[],_=>true
 | x::l,n=>match Nat.blt x n with
  |true=>ugJ l n
  |false=>false
def geH (base:Nat):List (Nat×Option Blk)→Bool
 |[]=>true
 | (id,_)::l=>match Nat.ble base id with
  |true=>geH base l
  |false=>false
def geS (base:Nat):List (Nat×To)→Bool
 |[]=>true
 | (id,_)::l=>match Nat.ble base id with
  |true=>geS base l
  |false=>false
mutual
def udh :SV→Bool
 | .own _ _=>false
 | .owe _ _ _ _ _ _=>false
 | .roe _ _ _ _=>false
 | .row _=>false
 | .ows _ _ _ _ _=>false
 | .owd _ _ _ _ _=>false
 | .mp _=>false
 | .any=>false
 | .agg l=>ucL l
 | .tup l=>ucL l
 | .clo _ a b=>match ucL a with
  |true=>ucL b
  |false=>false
 | .int _ _=>true
 | .bool _=>true
 | .val _=>true
 | .sl _ _ _=>true
 | .pp _ _=>true
 | .el _ _ _ _ _=>true
 | .arr _ _=>true
 | .memo _ _ _ _ _=>true
 | .mapx _ _ _ _ _ _=>true
def ucL :List SV→Bool
 |[]=>true
 | s::l=>match udh s with
  |true=>ucL l
  |false=>false
end
def urg :Blk→Bool
 | .cells l _=>ucL l
 |_=>true
def ud1 :List Nat→Nat→Bool
 |[],_=>false
 | x::l,n=>match Nat.beq x n with
  |true=>true
  |false=>ud1 l n
def utA (x:Nat):List (Nat×Option Blk)→Bool
 |[]=>true
 | (_,some b)::l=>match ud1 (ua9 b) x with
  |true=>false
  |false=>utA x l
 |(_,none)::l=>utA x l
def uvE (X:Option Nat)(u:Upd):Bool:=match X with
 |none=>true
 | some x=>match ud1 u.val.ids x with
  |true=>false
  |false=>utA x u.hs
def uvw (X:Option Nat):List (Nat×To)→Bool
 |[]=>true
 | (id,.gone)::l=>match X with
  | some x=>match Nat.beq x id with
   |true=>uvw X l
   |false=>false
  |none=>false
 |_::_=>false
def wrB (base:Nat)(e:SE)(u:Upd):Bool:=match Nat.beq e.k 6 with
 |true=>uvE e.x u
 |false=>match Nat.beq e.k 1,Nat.beq e.k 2,Nat.beq e.k 3,Nat.beq e.k 4 with
 |true,_,_,_=>uvE e.x u
 | false,true,_,_=>match uvw e.x u.sub with
  |true=>uvL e.x u.hs
  |false=>false
 | false,false,true,_=>match geH base u.hs with
  |true=>geS base u.sub
  |false=>false
 |false,false,false,true=>ugJ u.val.ids base
 |false,false,false,false=>true
def ubq (g:Bool)(u:Upd)(K:Upd→Prop):Prop:=match g,u.val with
 |true,.bool (.sym f)=>(∀_:f ()=true,K ⟨.bool (.lit true),u.hs,u.sub⟩)∧(∀_:f ()=false,K ⟨.bool (.lit false),u.hs,u.sub⟩)
 |_,_=>K u
def ueh (nxt:Nat)(e:SE)(id:Nat):Bool:=match hid e id with
 |true=>false
 |false=>match Nat.blt id nxt with
 |true=>true
 | false=>match Nat.beq e.k 4 with
  |true=>false
  | false=>match Nat.beq id (nxt+e.i)with
   |true=>true
   |false=>ud1 e.pre (id-nxt)
def ur7 (e:SE)(b:Option Blk):Option Blk:=match Nat.beq e.k 1 with
 | true=>match b with
  | some b=>match urg b with
   |true=>some b
   |false=>none
  |none=>none
 |false=>b
def uaI (gH:Nat→Option Blk)(nxt:Nat)(e:SE)(id:Nat):Option Blk:=match ueh nxt e id with
 |true=>ur7 e (gH id)
 |false=>none
def uaW (ge:Nat→SV)(e:SE):Nat→SV:=match Nat.beq e.k 1 with
 | true=>match e.x with
  |some x=>fun k=>(ge k).sub (uam [(x,.gone)])
  |none=>ge
 |false=>ge
def wrK (base:Nat)(e:SE)(u:Upd)(p:Prop):Prop:=match wrB base e u with
 |true=>p
 |false=>False
def unM (T:uar)(P:Program)(ops:List Oper)(o:Oper)(e:SE)(s:LS)(K:LS→Prop):Prop:=
 match ukK ops o (uaW (ubO s) e)with
 | .yes=>opT T P o (s.nxt+e.i) (uaW (ubO s) e) (uaI (lk s.H) s.nxt e) e.ord (fun u=>ubq e.g u (fun u=>wrK s.nxt e u (K (ub4 s o.dst u))))
 | .no=>K ⟨ude s.env o.dst (.tup []),s.H,s.nxt⟩
 | .ask _ f w=>
  (∀_:f ()=w,opT T P o (s.nxt+e.i) (uaW (ubO s) e) (uaI (lk s.H) s.nxt e) e.ord (fun u=>ubq e.g u (fun u=>wrK s.nxt e u (K (ub4 s o.dst u))))) ∧
  (∀_:f () = !w,K ⟨ude s.env o.dst (.tup []),s.H,s.nxt⟩)
 | .bad=>False
def udy (T:uar)(P:Program)(ops:List Oper)(N:Nat):List SE→LS→(LS→Prop)→Prop
 |[],s,K=>K ⟨s.env,s.H,s.nxt+N⟩
 | e::rest,s,K=>match nth ops e.i with
  |some o=>unM T P ops o e s (fun s'=>udy T P ops N rest s' K)
  |none=>False
def uiD (T:uar)(P:Program)(ops:List Oper)(N:Nat)(l:List SE)(s:LS)(K:LS→Prop):Prop:=match ur9 l with
 |false=>udy T P ops N (l.map (SE.setX none none)) s K
 | true=>∃X:Nat,match Nat.blt X s.nxt with
  | true=>match uxM l with
   |false=>udy T P ops N (l.map (SE.setX (some X) none)) s K
   | true=>∃Y:Nat,match Nat.blt Y s.nxt with
    |true=>udy T P ops N (l.map (SE.setX (some X) (some Y))) s K
    |false=>False
  |false=>False
abbrev SC :=List (Nat×List SE)
def ugL :List (Nat×SV)→List Nat
 |[]=>[]
 |(_,x)::l=>x.ids++ugL l
def uvr :List (Nat×Blk)→List Nat
 |[]=>[]
 |(_,x)::l=>ua9 x++uvr l
def upB :List (Nat×Blk)→List Nat
 |[]=>[]
 |(k,_)::l=>k::upB l
def wfB (t:LS):Bool:=match ugJ (upB t.H) t.nxt,ui4 (upB t.H),subset (ugL t.env) (upB t.H)with
 |true,true,true=>subset (uvr t.H) (upB t.H)
 |_,_,_=>false
def BLe (a b:Blk):Prop:=match a,b with
 | .cells l ty,.cells l' ty'=>ty=ty'∧Le (.agg l) (.agg l')
 | .row ety sz n e,.row ety' sz' n' e'=>ety=ety'∧sz=sz'∧n.den=n'.den ∧
  ∀μ ν (ix:IX) (c:Array Value),0≤ix.den→ix.den<n.den→(∀jx:IX,jx.den=ix.den→Rel μ ν (.agg (e jx)) (.agg c))→Rel μ ν (.agg (e' ix)) (.agg c)
 | .map kt vt sc nk f,.map kt' vt' sc' nk' f'=>kt=kt'∧vt=vt'∧sc=sc'∧nk=nk'∧∀ks,match f ks,f' ks with
  |none,none=>True
  |some s,some s'=>Le s s'
  |_,_=>False
 | .it sc nk R F la,.it sc' nk' R' F' la'=>sc=sc'∧nk=nk'∧(la'=none∨la'=la)∧∀ks:List Int,ks.length=nk→R ks=R' ks∧Le (F ks) (F' ks)
 |_,_=>False
def ux1 (ge:Nat→SV):List (Nat×SV)→Prop
 |[]=>True
 |(k,x)::l=>(∀_:Unit,Le (ge k) x)∧ux1 ge l
def uvx (gH:Nat→Option Blk):List (Nat×Blk)→Prop
 |[]=>True
 | (k,x)::l=>(match gH k with
  |some b=>∀_:Unit,BLe b x
  |none=>False)∧uvx gH l
def Ent (kp:List Nat)(s t:LS):Prop:=wfB t=true∧subset kp (upB t.H)=true∧ux1 (ubO s) t.env∧uvx (lk s.H) t.H
inductive Loc where
 |tmp (k:Nat)
 |cell (id idx:Nat)
structure Seed where
 loc:Loc
 ety:Nat
 sz:Nat
def ukB :SV→Bool
 | .val (.slice none 0 0)=>true
 | .ows _ _ 0 0 _=>true
 |_=>false
def ubs (x:Seed):Blk:=.row x.ety x.sz (.lit 0) (fun _=>[])
def utm (s:LS)(x:Seed):Option LS:=match x.loc with
 | .tmp k=>match ukB (ubO s k)with
  |true=>some ⟨ude s.env (some k) (.row s.nxt),(s.nxt,ubs x)::s.H,s.nxt+1⟩
  |false=>none
 | .cell id idx=>match lk s.H id with
  | some (.cells l ty)=>match udb l idx with
   | some c=>match ukB c,ui6 l idx [.row s.nxt]with
    |true,some l'=>some ⟨s.env,(s.nxt,ubs x)::(id,.cells l' ty)::rm s.H id,s.nxt+1⟩
    |_,_=>none
   |none=>none
  |_=>none
def ucx :List Seed→LS→Option LS
 |[],s=>some s
 | x::l,s=>match utm s x with
  |some s'=>ucx l s'
  |none=>none
def uoT (ety sz:Nat)(n:IX)(e:IX→List SV)(id:Nat):Upd:=⟨.any,[(id,some (.row ety sz (.lit 0) fun _=>[]))],[(id,.sl sz n e)]⟩
def uvh (l:List SV)(id:Nat):Upd:=⟨.any,[(id,none)],[(id,.cells l)]⟩
def uuM (kt vt:TypeId)(sc:Bool)(nk:Nat)(f:List Int→Option SV)(id:Nat):Upd:=⟨.any,[(id,none)],[(id,.mapx kt vt sc nk (fun ks=>(f ks).isSome) (fun ks=>(f ks).getD .any))]⟩
def ubj (kp:List Nat):List Nat→LS→Option LS
 |[],s=>some s
 | id::l,s=>match lk s.H id with
  |some (.row ety sz n e)=>ubj kp l (ub4 s none (uoT ety sz n e id))
  | some (.cells c _)=>match SV.idsL c,ud1 kp id with
   |[],false=>ubj kp l (ub4 s none (uvh c id))
   |_,_=>none
  | some (.map kt vt sc nk f)=>match ud1 kp id with
   |false=>ubj kp l (ub4 s none (uuM kt vt sc nk f id))
   |true=>none
  |_=>none
def urJ (P:Program)(ops:List Oper)(o:Oper)(nid:Nat)(s:LS)(K:LS→Prop):Prop:=match ukK ops o (ubO s),o.op with
 | .yes, .call c=>match c.callee with
  | .value f=>match ev (ubO s) f with
   | .clo fn first caps=>match SV.idsL (first++(evs (ubO s) c.args.toList++caps))with
    | []=>∃e:Nat,match Nat.blt e nid,lk s.H e with
     |true,none=>∃post:SV→List Blk→Prop,uaU P fn (SV.subL (uam (ugC [])) (first++(evs (ubO s) c.args.toList++caps))) (([]:List Blk).map (Blk.sub (uam (ugC [])))) post ∧
      ∀r bs,post r bs→(∀_:Unit,bs.length≤2)∧K (ub4 s o.dst ⟨r.sub (uam (ukp [nid,e])),ui5 (uam (ukp [nid,e])) [nid,e] bs,[]⟩)
     |_,_=>False
    |_=>False
   |_=>False
  |_=>False
 |_,_=>False
def utr (T:uar)(t len:Nat)(ps:Array (Nat×Operand))(nid:Nat)(ge:Nat→SV)(K:Upd→Prop):Prop:=match T t with
 | some ti=>match ti.k with
  | .sli e=>match T e with
   | some te=>match Nat.ble (len*te.size) 16777216,ugG (fun j=>some (j*te.size,te.size)) (urd (zsv te.zero) len) (uit ge ps.toList)with
    |true,some l=>K ⟨.ows nid 0 len len te.size,[(nid,some (.cells l e))],[]⟩
    |_,_=>False
   |none=>False
  |_=>False
 |none=>False
def uxo (T:uar)(ops:List Oper)(o:Oper)(nid:Nat)(s:LS)(K:LS→Prop):Prop:=match ukK ops o (ubO s),o.op with
 | .yes,.buildSlice t len ps=>utr T t len ps nid (ubO s) (fun u=>K (ub4 s o.dst u))
 |_,_=>False
def uca (T:uar)(P:Program)(kp ix:List Nat)(ops:List Oper):List Oper→Nat→Nat→LS→(LS→Prop)→Prop
 |[],_,nid,s,K=>K ⟨s.env,s.H,nid⟩
 | o ::rest,j,nid,s,K=>match ud1 ix (j+1000)with
  |true=>urJ P ops o nid s (fun s'=>uca T P kp ix ops rest (j+1) (nid+1) s' K)
  | false=>match ud1 ix (j+2000)with
   |true=>uxo T ops o nid s (fun s'=>uca T P kp ix ops rest (j+1) (nid+1) s' K)
   |false=>match ud1 ix j with
   |false=>uff T P ops o nid s (fun s'=>uca T P kp ix ops rest (j+1) (nid+1) s' K)
   | true=>∃ids:List Nat,match ubj kp ids s with
    |some s1=>uff T P ops o nid s1 (fun s'=>uca T P kp ix ops rest (j+1) (nid+1) s' K)
    |none=>False
def ixS :List SE→List Nat
 |[]=>[]
 |e::l=>e.i::ixS l
def ueH (H:List (Nat×Blk)):List Nat→Bool
 |[]=>true
 | id::l=>match lk H id with
  |some (.cells _ _)=>ueH H l
  |_=>false
def uvM (kp:List Nat)(H:List (Nat×Blk))(t:LS):Prop:=wfB t=true∧subset kp (upB t.H)=true∧uvx (lk H) t.H
def umz :List Nat→List SV→List (Nat×SV)→List (Nat×SV)
 |p::ps,x::xs,env=>umz ps xs (ude env (some p) x)
 |_,_,env=>env
def uou (step:LS→(Exit→LS→Prop)→Prop):Nat→LS→(Exit→LS→Prop)→Prop
 |0,_,_=>False
 | n+1,s,Q=>step s (fun e s'=>match e with
  | .normal=>uou step n s' Q
  |e=>Q e s')
def uvD :List SE→Nat→Bool
 |[],_=>false
 | e::l,k=>match Nat.beq e.i k with
  |true=>true
  |false=>uvD l k
def kpS :List Nat→List SE
 |[]=>[]
 |i::l=>⟨i,false,[],false,0,none⟩::kpS l
def uhR (l:List SE):List (Nat×SV)→List (Nat×SV)
 |[]=>[]
 | (k,x)::r=>match uvD l k with
  |true=>(k,x)::uhR l r
  |false=>uhR l r
def ug0 :Option (List SE)→LS→LS
 |none,s=>s
 |some l,s=>⟨uhR l s.env,s.H,s.nxt⟩
def vcR (T:uar)(P:Program)(sc:SC)(kp:List Nat)(id:Nat)(ops:Array Oper)(draw:Bool)(s:LS)(Q:LS→Prop):Prop:=match draw with
 | false=>match lk sc id with
  |none=>ugS T P ops.toList ops.toList s.nxt s Q
  |some l=>uca T P kp (ixS l) ops.toList ops.toList 0 s.nxt s Q
 | true=>match lk sc id with
  | some l=>match lk sc (id+100000)with
   |none=>uiD T P ops.toList ops.toList.length l s Q
   | some _=>∃ids:List Nat,match ubj kp ids s with
    |some s1=>uiD T P ops.toList ops.toList.length l s1 Q
    |none=>False
  |none=>False
def vcC (T:uar)(P:Program)(sc:SC)(kp:List Nat):Code→LS→(Exit→LS→Prop)→Prop
 | .skip,s,Q=>Q .normal s
 | .region id ops draw,s,Q=>vcR T P sc kp id ops draw (ug0 (lk sc (id+150)) s) (fun s'=>Q .normal s')
 | .seq a b,s,Q=>vcC T P sc kp a s (fun e s'=>match e with
  | .normal=>vcC T P sc kp b s' Q
  |e=>Q e s')
 | .cond c a b,s,Q=>match ev (ubO s) c with
  | .bool (.lit true)=>vcC T P sc kp a s Q
  | .bool (.lit false)=>vcC T P sc kp b s Q
  | .bool (.sym f)=>(∀_:f ()=true,vcC T P sc kp a s Q)∧(∀_:f ()=false,vcC T P sc kp b s Q)
  |_=>False
 | .block id c,s,Q=>vcC T P sc kp c s (fun e s'=>match e with
  | .exit j=>match Nat.beq j id with
   |true=>Q .normal s'
   |false=>Q (.exit j) s'
  |e=>Q e s')
 | .loop c,s,Q=>∃un:Option Nat,match un with
  |some n=>uou (vcC T P sc kp c) n s Q
  |none=>∃(seeds:List Seed) (σ:Type) (I:σ→LS) (m:σ→Nat),(match ucx seeds s with
   |some s0=>∃x,Ent kp s0 (I x)
   |none=>False)∧∀x,vcC T P sc kp c (I x) (fun e s'=>match e with
   | .normal=>∃y,m y<m x∧Ent kp s' (I y)
   |e=>Q e s')
 | .rangeFunc g ps assign body,s,Q=>∃(seeds:List Seed) (L:Nat) (el:Nat→List SV) (σ:Nat→Type) (I:(i:Nat)→σ i→List (Nat×Blk)×Nat),match ucx seeds s with
  | some s0 =>match ev (ubO s0) g,ueH s0.H (ugL s0.env)with
   | .clo fn [] caps,true=>match SV.idsL caps with
    | [] => (∀_:Unit,ugj P fn caps L el∧∀i,(el i).length=ps.size∧SV.idsL (el i)=[]) ∧
     (∃x,uvM (kp++ugL s0.env) s0.H ⟨s0.env,(I 0 x).1,(I 0 x).2⟩) ∧
     (∀i x,i<L→vcC T P sc (kp++ugL s0.env) assign ⟨umz ps.toList (el i) s0.env,(I i x).1,(I i x).2⟩ (fun e s1=>match e with
      | .normal=>vcC T P sc (kp++ugL s0.env) body s1 (fun e s2=>match e with
       | .normal=>∃y,uvM (kp++ugL s0.env) s2.H ⟨s0.env,(I (i+1) y).1,(I (i+1) y).2⟩
       | .ret=>Q .ret ⟨s0.env,s2.H,s2.nxt⟩
       | .exit j=>Q (.exit j) ⟨s0.env,s2.H,s2.nxt⟩
       |_=>False)
      |_=>False)) ∧
     (∀x,Q .normal ⟨s0.env,(I L x).1,(I L x).2⟩)
    |_=>False
   |_,_=>False
  |none=>False
 | .exit id,s,Q=>Q (.exit id) s
 | .ret,s,Q=>Q .ret s
 | .label _,s,Q=>Q .normal s
 | .scope c,s,Q=>vcC T P sc kp c s (fun e s'=>match e with
  | .goto _=>False
  |e=>Q e s')
 |_,_,_=>False
def urv (T:uar)(s:LS):List ResultVar→Option (List SV)
 |[]=>some []
 | .tmp t::l=>match urv T s l with
  |some r=>some (ubO s t::r)
  |none=>none
 | .cell a ty::l=>match ubO s a,T ty,urv T s l with
  | .own id off,some ti,some r=>match lk s.H id with
   | some (.cells c _)=>match ti.isAgg with
    | true=>match ubn c off ti.size with
     |some x=>some (.agg x::r)
     |none=>none
    | false=>match udb c off with
     |some x=>some (x::r)
     |none=>none
   |_=>none
  |_,_,_=>none
def one :List SV→SV
 |[x]=>x
 |l=>.tup l
def uty (gH:Nat→Option Blk):Nat→Option (List Blk)
 |0=>some []
 | n+1=>match uty gH n,gH n with
  |some l,some b=>some (l++[b])
  |_,_=>none
def uvN (T:uar)(fn:Func)(k:Nat)(post:SV→List Blk→Prop)(s:LS):Prop:=
 match urv T s fn.results.toList,uty (lk s.H) k with
 | some l,some bs=>match SV.idsL (SV.subL (uef (lk s.H) (fun id=>Nat.blt id k) 6 true) l),subset (ubr (bs.map (Blk.sub (uef (lk s.H) (fun id=>Nat.blt id k) 6 true)))) (List.range k)with
  |[],true=>post (one (SV.subL (uef (lk s.H) (fun id=>Nat.blt id k) 6 true) l)) (bs.map (Blk.sub (uef (lk s.H) (fun id=>Nat.blt id k) 6 true)))
  |_,_=>False
 |_,_=>False
def ufN :Nat→List SV→List (Nat×SV)
 |_,[]=>[]
 |n,x::l=>(n,x)::ufN (n+1) l
def hOf :Nat→List Blk→List (Nat×Blk)
 |_,[]=>[]
 |n,x::l=>(n,x)::hOf (n+1) l
def ulI (args:List SV)(bor:List Blk):LS:=⟨ufN 0 args,hOf 0 bor,bor.length⟩
def vcF (T:uar)(P:Program)(sc:SC)(fn:Func)(c:Code)(args:List SV)(bor:List Blk)(post:SV→List Blk→Prop):Prop:=
 subset (SV.idsL args++ubr bor) (List.range bor.length)=true∧vcC T P sc (List.range bor.length) c (ulI args bor) (fun e s=>match e with
  | .normal=>uvN T fn bor.length post s
  | .ret=>uvN T fn bor.length post s
  |_=>False)
end Go.Eng

namespace Go.Eng
open Go
abbrev ubp (μ:Mem)(ν:Vl)(l:List SV)(cs:List Value):Prop:=Rel μ ν (.agg l) (.agg ⟨cs⟩)
section
variable {μ:Mem} {ν:Vl}
theorem Rel.closed {μ:Mem} {ν0:Vl} {s:SV} {v:Value}(h:Rel μ ν0 s v):ν0=Vl.nil→∀ν,Rel μ ν s v:=by
 induction h with
 |int=>intro _ ν';exact .int ν' _ _
 |bool=>intro _ ν';exact .bool ν' _
 |val _ x h=>intro _ ν';exact .val ν' x h
 |any=>intro _ ν';exact .any ν' _
 |own ν id off b h=>intro e;subst e;cases h
 |owe ν id off sz n ix o2 b h h1 h2=>intro e;subst e;cases h
 |roe ν id sz ix o2 b h h1=>intro e;subst e;cases h
 |row ν id v h h'=>intro e;subst e;cases h
 |ows ν id off len cap sz b h=>intro e;subst e;cases h
 |slnil ν sz n elem a cap h1 h2=>intro _ ν';exact .slnil ν' sz n elem a cap h1 h2
 |sl ν sz n elem b o len cap c h1 h2 h3 h4 h5 h6 h7 ih=>intro _ ν';exact .sl ν' sz n elem b o len cap c h1 h2 h3 h4 h5 h6 h7
 |pp ν off cells b o m c h1 h2 h3 ih=>intro _ ν';exact .pp ν' off cells b o m c h1 h2 h3
 |el ν sz n elem ix off b o len c h1 h2 h3 h4 h5 h6 ih=>intro _ ν';exact .el ν' sz n elem ix off b o len c h1 h2 h3 h4 h5 h6
 |nil=>intro _ ν';exact .nil ν'
 |arr ν n f l cs rest h1 h2 h3 h4 ih2 ih4=>intro e ν';exact .arr ν' n f l cs rest h1 h2 h3 (ih4 e ν')
 |cons ν s l c rest h1 h2 h3 ih1 ih3=>intro e ν';exact .cons ν' s l c rest (ih1 e ν') h2 (ih3 e ν')
 |tnil=>intro _ ν';exact .tnil ν'
 |tcons ν s l c rest h1 h3 ih1 ih3=>intro e ν';exact .tcons ν' s l c rest (ih1 e ν') (ih3 e ν')
 |clo ν fn first caps fs cs h1 h2 ih1 ih2=>intro e ν';exact .clo ν' fn first caps fs cs (ih1 e ν') (ih2 e ν')
 |mp ν id b h=>intro e;subst e;cases h
 |owd ν id off sz m n b len cap h=>intro e;subst e;cases h
 |memo ν kt vt sc nk F b h=>intro _ ν';exact .memo ν' kt vt sc nk F b h
 |mapx ν kt vt sc nk D F b es clock w h h1 h2 ih=>intro _ ν';exact .mapx ν' kt vt sc nk D F b es clock w h h1 h2
theorem uc3 {cs:List Value}(h:ubp μ ν [] cs):cs=[]:=by
 cases h;rfl
theorem ub0 {n:Nat} {f:IX→SV} {v:Value}(h:Rel μ ν (.arr n f) v):False:=by cases h
theorem ufz {n:Nat} {f:IX→SV} {l:List SV} {cs:List Value}(h:ubp μ ν (.arr n f::l) cs):
 ∃c0 rest,cs=c0++rest∧c0.length=n∧(∀ix:IX,0≤ix.den→ix.den<(n:Int)→Rel μ Vl.nil (f ix) (c0.getD ix.den.toNat undef))∧(∀c∈c0,c.oneCell'=true)∧ubp μ ν l rest:=by
 cases h with
 |arr _ _ _ _ c0 rest h1 h2 h3 h4=>exact⟨c0,rest,rfl,h1,h2,h3,h4⟩
 |cons _ _ _ c rest h1 h2 h3=>exact(ub0 h1).elim
theorem udl {s:SV} {l:List SV} {cs:List Value}(hs:∀n f,s≠ .arr n f)(h:ubp μ ν (s::l) cs):
 ∃c rest,cs=c::rest∧Rel μ ν s c∧c.oneCell'=true∧ubp μ ν l rest:=by
 cases h with
 |arr _ _ _ _ c0 rest h1 h2 h3 h4=>exact absurd rfl (hs _ _)
 |cons _ _ _ c rest h1 h2 h3=>exact⟨c,rest,rfl,h1,h2,h3⟩
theorem ucM {l:List SV}:∀{cs:List Value},ubp μ ν l cs→∀c∈cs,c.oneCell'=true:=by
 induction l with
 |nil=>intro cs h c hc;rw [uc3 h]at hc;cases hc
 | cons s l ih=>
  intro cs h c hc
  cases h with
  | arr _ n f _ c0 rest h1 h2 h3 h4=>
   rcases List.mem_append.1 hc with hc|hc
   ·exact h3 c hc
   ·exact ih h4 c hc
  | cons _ _ _ c' rest h1 h2 h3=>
   rcases List.mem_cons.1 hc with hc|hc
   ·rw [hc];exact h2
   ·exact ih h3 c hc
theorem uf5 {l:List SV}:∀{cs:List Value},ubp μ ν l cs→udH l=cs.length:=by
 induction l with
 |nil=>intro cs h;rw [uc3 h];rfl
 | cons s l ih=>
  intro cs h
  cases h with
  |arr _ n f _ c0 rest h1 h2 h3 h4=>simp only [udH,List.length_append,h1,ih h4]
  | cons _ _ _ c' rest h1 h2 h3=>
   cases s<;>simp only [udH,List.length_cons,ih h3]<;>first|omega|exact(ub0 h1).elim
theorem udo {l:List SV}:∀{cs:List Value} {m:List SV} {ds:List Value},ubp μ ν l cs→ubp μ ν m ds→ubp μ ν (l++m) (cs++ds):=by
 induction l with
 |nil=>intro cs m ds h h';rw [uc3 h];exact h'
 | cons s l ih=>
  intro cs m ds h h'
  cases h with
  |arr _ n f _ c0 rest h1 h2 h3 h4=>rw [List.append_assoc];exact .arr ν n f _ c0 _ h1 h2 h3 (ih h4 h')
  |cons _ _ _ c' rest h1 h2 h3=>exact .cons ν s _ c' _ h1 h2 (ih h3 h')
theorem ub9 {a b:Nat}(h:Nat.ble a b=true):a≤b:=Nat.le_of_ble_eq_true h
theorem udO {a b:Nat}(h:Nat.ble a b=false):b<a:=by
 rcases Nat.lt_or_ge b a with h'|h'
 ·exact h'
 ·rw [Nat.ble_eq_true_of_le h']at h;cases h
theorem IX.den_addN (x:IX)(o:Nat):(x.addN o).den=x.den+o:=by cases x<;>rfl
theorem IX.den_mulAdd (x:IX)(sz o:Nat):(x.mulAdd sz o).den=x.den*sz+o:=by cases x<;>rfl
theorem ujh {l:List SV}:∀{o:Nat} {b:List SV} {cs:List Value},ubp μ ν l cs→ubN l o=some b→ubp μ ν b (cs.drop o)∧o≤cs.length:=by
 induction l with
 | nil=>
  intro o b cs h hd
  cases o with
  |zero=>simp only [ubN,Option.some.injEq]at hd;subst hd;exact⟨by simpa using h,Nat.zero_le _⟩
  |succ o=>simp [ubN]at hd
 | cons s l ih=>
  intro o b cs h hd
  cases o with
  |zero=>simp only [ubN,Option.some.injEq]at hd;subst hd;exact⟨by simpa using h,Nat.zero_le _⟩
  | succ o=>
   cases h with
   | arr _ n f _ c0 rest h1 h2 h3 h4=>
    simp only [ubN]at hd
    cases hb:Nat.ble n (o+1)with
    | true=>
     rw [hb]at hd
     have hle:=ub9 hb
     obtain⟨r1,r2⟩:=ih h4 hd
     refine⟨?_,by rw [List.length_append,h1];omega⟩
     rw [List.drop_append,h1,List.drop_of_length_le (by omega)]
     exact r1
    | false=>
     rw [hb]at hd
     have hlt:=udO hb
     simp only [Option.some.injEq]at hd
     subst hd
     refine⟨?_,by rw [List.length_append,h1];omega⟩
     rw [List.drop_append_of_le_length (by omega)]
     refine .arr ν _ _ _ _ _ (by rw [List.length_drop,h1]) (fun ix hx hy=> ?_) (fun c hc=>h3 c (List.mem_of_mem_drop hc)) h4
     have:=h2 (ix.addN (o+1)) (by rw [IX.den_addN];omega) (by rw [IX.den_addN];omega)
     rw [IX.den_addN]at this
     have e:(ix.den+((o+1:Nat):Int)).toNat=(o+1)+ix.den.toNat:=by omega
     rw [e]at this
     simpa [List.getD_eq_getElem?_getD,List.getElem?_drop]using this
   | cons _ _ _ c rest h1 h2 h3=>
    have hd':ubN l o=some b:=by
     cases s<;>first|exact hd|exact(ub0 h1).elim
    obtain⟨r1,r2⟩:=ih h3 hd'
    exact⟨r1,by simp;omega⟩
theorem uj7 {l:List SV}:∀{m:Nat} {b:List SV} {cs:List Value},ubp μ ν l cs→ubg l m=some b→ubp μ ν b (cs.take m)∧m≤cs.length:=by
 induction l with
 | nil=>
  intro m b cs h hd
  cases m with
  |zero=>simp only [ubg,Option.some.injEq]at hd;subst hd;exact⟨.nil ν,Nat.zero_le _⟩
  |succ m=>simp [ubg]at hd
 | cons s l ih=>
  intro m b cs h hd
  cases m with
  |zero=>simp only [ubg,Option.some.injEq]at hd;subst hd;exact⟨.nil ν,Nat.zero_le _⟩
  | succ m=>
   cases h with
   | arr _ n f _ c0 rest h1 h2 h3 h4=>
    simp only [ubg]at hd
    cases hb:Nat.ble n (m+1)with
    | true=>
     rw [hb]at hd
     have hle:=ub9 hb
     cases ht:ubg l (m+1-n)with
     |none=>rw [ht]at hd;cases hd
     | some t=>
      rw [ht]at hd
      simp only [Option.some.injEq]at hd
      subst hd
      obtain⟨r1,r2⟩:=ih h4 ht
      refine⟨?_,by rw [List.length_append,h1];omega⟩
      rw [List.take_append,h1,List.take_of_length_le (by omega)]
      exact .arr ν n f _ _ _ h1 h2 h3 r1
    | false=>
     rw [hb]at hd
     have hlt:=udO hb
     simp only [Option.some.injEq]at hd
     subst hd
     refine⟨?_,by rw [List.length_append,h1];omega⟩
     rw [List.take_append_of_le_length (by omega)]
     have:=Rel.arr (μ:=μ) ν (m+1) f [] (c0.take (m+1)) [] (by rw [List.length_take,h1];omega) (fun ix hx hy=> ?_) (fun c hc=>h3 c (List.mem_of_mem_take hc)) (.nil ν)
     ·simpa using this
     ·have h:=h2 ix hx (by omega)
      have e:ix.den.toNat<m+1:=by omega
      simpa [List.getD_eq_getElem?_getD,List.getElem?_take,e]using h
   | cons _ _ _ c rest h1 h2 h3=>
    have hd':(match ubg l m with|some t=>some (s::t)|none=>none)=some b:=by
     cases s<;>first|exact hd|exact(ub0 h1).elim
    cases ht:ubg l m with
    |none=>rw [ht]at hd';cases hd'
    | some t=>
     rw [ht]at hd'
     simp only [Option.some.injEq]at hd'
     subst hd'
     obtain⟨r1,r2⟩:=ih h3 ht
     exact⟨.cons ν s _ c _ h1 h2 r1,by simp;omega⟩
theorem ubb {l:List SV} {o m:Nat} {b:List SV} {cs:List Value}(h:ubp μ ν l cs)(hd:ubn l o m=some b):ubp μ ν b ((cs.drop o).take m)∧o+m≤cs.length:=by
 unfold ubn at hd
 cases ht:ubN l o with
 |none=>rw [ht]at hd;cases hd
 | some t=>
  rw [ht]at hd
  obtain⟨r1,r2⟩:=ujh h ht
  obtain⟨r3,r4⟩:=uj7 r1 hd
  refine⟨r3,?_⟩
  rw [List.length_drop]at r4
  omega
theorem uge {l:List SV}:∀{o:Nat} {s:SV} {cs:List Value},ubp μ ν l cs→udb l o=some s→∃c,cs[o]? =some c∧Rel μ ν s c∧c.oneCell'=true:=by
 induction l with
 |nil=>intro o s cs h hd;simp [udb]at hd
 | cons x l ih=>
  intro o s cs h hd
  cases h with
  | arr _ n f _ c0 rest h1 h2 h3 h4=>
   simp only [udb]at hd
   cases hb:Nat.ble n o with
   | true=>
    rw [hb]at hd
    have hle:=ub9 hb
    obtain⟨c,r1,r2,r3⟩:=ih h4 hd
    exact⟨c,by rw [List.getElem?_append_right (by omega),h1];exact r1,r2,r3⟩
   | false=>
    rw [hb]at hd
    have hlt:=udO hb
    simp only [Option.some.injEq]at hd
    subst hd
    have hh:=h2 (.lit (o:Int)) (Int.natCast_nonneg o) (by simp only [IX.den];omega)
    simp only [IX.den,Int.toNat_natCast]at hh
    have hl:o<c0.length:=by omega
    refine⟨c0[o],by rw [List.getElem?_append_left hl];exact List.getElem?_eq_getElem hl,Rel.closed ?_ rfl ν,h3 _ (List.getElem_mem hl)⟩
    simpa [List.getD_eq_getElem?_getD,List.getElem?_eq_getElem hl]using hh
  | cons _ _ _ c rest h1 h2 h3=>
   cases o with
   | zero=>
    have hd':some x=some s:=by cases x<;>first|exact hd|exact(ub0 h1).elim
    simp only [Option.some.injEq]at hd'
    subst hd'
    exact⟨c,rfl,h1,h2⟩
   | succ o=>
    have hd':udb l o=some s:=by cases x<;>first|exact hd|exact(ub0 h1).elim
    obtain⟨c',r1,r2,r3⟩:=ih h3 hd'
    exact⟨c',by simpa using r1,r2,r3⟩
theorem ueC {l:List SV}:∀{o n:Nat} {f:IX→SV} {cs:List Value},ubp μ ν l cs→uip l o=some (n,f) →
 o+n≤cs.length∧∀ix:IX,0≤ix.den→ix.den<(n:Int)→∃c,cs[o+ix.den.toNat]? =some c∧Rel μ Vl.nil (f ix) c∧c.oneCell'=true:=by
 induction l with
 |nil=>intro o n f cs h hd;simp [uip]at hd
 | cons x l ih=>
  intro o n f cs h hd
  cases h with
  | arr _ n' f' _ c0 rest h1 h2 h3 h4=>
   simp only [uip]at hd
   cases o with
   | zero=>
    simp only [Option.some.injEq,Prod.mk.injEq]at hd
    obtain⟨rfl,rfl⟩:=hd
    refine⟨by rw [List.length_append];omega,fun ix hx hy=> ?_⟩
    have hl:ix.den.toNat<c0.length:=by omega
    refine⟨c0[ix.den.toNat],by rw [Nat.zero_add,List.getElem?_append_left hl];exact List.getElem?_eq_getElem hl,?_,h3 _ (List.getElem_mem hl)⟩
    simpa [List.getD_eq_getElem?_getD,List.getElem?_eq_getElem hl]using h2 ix hx hy
   | succ o=>
    simp only at hd
    cases hb:Nat.ble n' (o+1)with
    |false=>rw [hb]at hd;cases hd
    | true=>
     rw [hb]at hd
     have hle:=ub9 hb
     obtain⟨r1,r2⟩:=ih h4 hd
     refine⟨by rw [List.length_append];omega,fun ix hx hy=> ?_⟩
     obtain⟨c,r3,r4,r5⟩:=r2 ix hx hy
     exact⟨c,by rw [List.getElem?_append_right (by omega),h1,show o+1+ix.den.toNat-n'=o+1-n'+ix.den.toNat by omega];exact r3,r4,r5⟩
  | cons _ _ _ c rest h1 h2 h3=>
   cases o with
   | zero=>
    have hd':none=some (n,f):=by cases x<;>first|exact hd|exact(ub0 h1).elim
    cases hd'
   | succ o=>
    have hd':uip l o=some (n,f):=by cases x<;>first|exact hd|exact(ub0 h1).elim
    obtain⟨r1,r2⟩:=ih h3 hd'
    refine⟨by simp;omega,fun ix hx hy=> ?_⟩
    obtain⟨c',r3,r4,r5⟩:=r2 ix hx hy
    exact⟨c',by rw [show o+1+ix.den.toNat=(o+ix.den.toNat)+1 by omega];simpa using r3,r4,r5⟩
theorem ucS {l:List SV} {o:Nat} {new l':List SV} {cs nw:List Value}(h:ubp μ ν l cs)(hn:ubp μ ν new nw)(hp:ui6 l o new=some l'):
 ubp μ ν l' (cs.take o++(nw++cs.drop (o+nw.length)))∧o+nw.length≤cs.length:=by
 unfold ui6 at hp
 rw [uf5 hn]at hp
 cases h1:ubg l o with
 |none=>rw [h1]at hp;cases hp
 | some a=>
  cases h2:ubN l (o+nw.length)with
  |none=>rw [h1,h2]at hp;cases hp
  | some b=>
   rw [h1,h2]at hp
   simp only [Option.some.injEq]at hp
   subst hp
   obtain⟨r1,r2⟩:=uj7 h h1
   obtain⟨r3,r4⟩:=ujh h h2
   exact⟨udo r1 (udo hn r3),r4⟩
end
theorem ubF (s:SV)(l:List SV):SV.idsL (s::l)=s.ids++SV.idsL l:=by simp [SV.idsL]
theorem uep (l m:List SV):SV.idsL (l++m)=SV.idsL l++SV.idsL m:=by
 induction l with
 |nil=>simp [SV.idsL]
 |cons s l ih=>simp [ubF,ih]
theorem urH (n:Nat)(f:IX→SV):(SV.arr n f).ids=[]:=by simp [SV.ids]
theorem uj9 {l:List SV}:∀{o:Nat} {b:List SV},ubN l o=some b→∀id∈SV.idsL b,id∈SV.idsL l:=by
 induction l with
 |nil=>intro o b h id hi;cases o<;>simp [ubN]at h;subst h;exact hi
 | cons s l ih=>
  intro o b h id hi
  cases o with
  |zero=>simp only [ubN,Option.some.injEq]at h;subst h;exact hi
  | succ o=>
   rw [ubF]
   cases s
   case arr n f=>
    simp only [ubN]at h
    cases hb:Nat.ble n (o+1)with
    |true=>rw [hb]at h;exact List.mem_append_right _ (ih h id hi)
    | false=>
     rw [hb]at h
     simp only [Option.some.injEq]at h
     subst h
     rw [ubF,urH]at hi
     exact List.mem_append_right _ (by simpa using hi)
   all_goals exact List.mem_append_right _ (ih h id hi)
theorem uij {l:List SV}:∀{m:Nat} {b:List SV},ubg l m=some b→∀id∈SV.idsL b,id∈SV.idsL l:=by
 induction l with
 |nil=>intro m b h id hi;cases m<;>simp [ubg]at h;subst h;exact hi
 | cons s l ih=>
  intro m b h id hi
  cases m with
  |zero=>simp only [ubg,Option.some.injEq]at h;subst h;simp [SV.idsL]at hi
  | succ m=>
   have key:(∃m',∃t,ubg l m'=some t∧b=s::t)∨SV.idsL b=[]:=by
    cases s
    case arr n f=>
     simp only [ubg]at h
     cases hb:Nat.ble n (m+1)with
     | true=>
      rw [hb]at h
      cases ht:ubg l (m+1-n)with
      |none=>rw [ht]at h;cases h
      |some t=>rw [ht]at h;simp only [Option.some.injEq]at h;exact .inl ⟨_,t,ht,h.symm⟩
     |false=>rw [hb]at h;simp only [Option.some.injEq]at h;subst h;exact .inr (by simp [SV.idsL,SV.ids])
    all_goals
     simp only [ubg]at h
     cases ht:ubg l m with
     |none=>rw [ht]at h;cases h
     |some t=>rw [ht]at h;simp only [Option.some.injEq]at h;exact .inl ⟨_,t,ht,h.symm⟩
   rcases key with⟨m',t,ht,rfl⟩|h0
   ·rw [ubF]at hi⊢
    rcases List.mem_append.1 hi with hi|hi
    ·exact List.mem_append_left _ hi
    ·exact List.mem_append_right _ (ih ht id hi)
   ·rw [h0]at hi;cases hi
theorem uh4 {l:List SV} {o m:Nat} {b:List SV}(h:ubn l o m=some b):∀id∈SV.idsL b,id∈SV.idsL l:=by
 unfold ubn at h
 cases ht:ubN l o with
 |none=>rw [ht]at h;cases h
 |some t=>rw [ht]at h;exact fun id hi=>uj9 ht id (uij h id hi)
theorem uea {l:List SV} {o:Nat} {new l':List SV}(h:ui6 l o new=some l'):∀id∈SV.idsL l',id∈SV.idsL l∨id∈SV.idsL new:=by
 unfold ui6 at h
 cases h1:ubg l o with
 |none=>rw [h1]at h;cases h
 | some a=>
  cases h2:ubN l (o+udH new)with
  |none=>rw [h1,h2]at h;cases h
  | some b=>
   rw [h1,h2]at h
   simp only [Option.some.injEq]at h
   subst h
   intro id hi
   rw [uep,uep]at hi
   rcases List.mem_append.1 hi with hi|hi
   ·exact .inl (uij h1 id hi)
   ·rcases List.mem_append.1 hi with hi|hi
    ·exact .inr hi
    ·exact .inl (uj9 h2 id hi)
theorem uji {μ:Mem} {ν:Vl} {l:List SV}:∀{o:Nat} {s:SV} {cs:List Value},ubp μ ν l cs→udb l o=some s→(∀id∈s.ids,id∈SV.idsL l)∨∃v,Rel μ Vl.nil s v:=by
 induction l with
 |nil=>intro o s cs h hd;simp [udb]at hd
 | cons x l ih=>
  intro o s cs h hd
  cases h with
  | arr _ n f _ c0 rest h1 h2 h3 h4=>
   simp only [udb]at hd
   cases hb:Nat.ble n o with
   | true=>
    rw [hb]at hd
    rcases ih h4 hd with r|r
    ·exact .inl fun id hi=>by rw [ubF];exact List.mem_append_right _ (r id hi)
    ·exact .inr r
   | false=>
    rw [hb]at hd
    have hlt:=udO hb
    simp only [Option.some.injEq]at hd
    subst hd
    exact .inr ⟨_,h2 (.lit (o:Int)) (Int.natCast_nonneg o) (by simp only [IX.den];omega)⟩
  | cons _ _ _ c rest h1 h2 h3=>
   cases o with
   | zero=>
    have hd':some x=some s:=by cases x<;>first|exact hd|exact(ub0 h1).elim
    simp only [Option.some.injEq]at hd'
    subst hd'
    exact .inl fun id hi=>by rw [ubF];exact List.mem_append_left _ hi
   | succ o=>
    have hd':udb l o=some s:=by cases x<;>first|exact hd|exact(ub0 h1).elim
    rcases ih h3 hd' with r|r
    ·exact .inl fun id hi=>by rw [ubF];exact List.mem_append_right _ (r id hi)
    ·exact .inr r
theorem Rel.no_ids {μ:Mem} {ν0:Vl} {s:SV} {v:Value}(h:Rel μ ν0 s v):ν0=Vl.nil→s.ids=[]:=by
 induction h with
 |int=>intro _;simp [SV.ids]
 |bool=>intro _;simp [SV.ids]
 |val _ x h=>intro _;simp [SV.ids]
 |any=>intro _;simp [SV.ids]
 |own ν id off b h=>intro e;subst e;cases h
 |owe ν id off sz n ix o2 b h h1 h2=>intro e;subst e;cases h
 |roe ν id sz ix o2 b h h1=>intro e;subst e;cases h
 |row ν id v h h'=>intro e;subst e;cases h
 |ows ν id off len cap sz b h=>intro e;subst e;cases h
 |slnil ν sz n elem a cap h1 h2=>intro _;simp [SV.ids]
 |sl ν sz n elem b o len cap c h1 h2 h3 h4 h5 h6 h7 ih=>intro _;simp [SV.ids]
 |pp ν off cells b o m c h1 h2 h3 ih=>intro _;simp [SV.ids]
 |el ν sz n elem ix off b o len c h1 h2 h3 h4 h5 h6 ih=>intro _;simp [SV.ids]
 |nil=>intro _;simp [SV.ids,SV.idsL]
 |arr ν n f l cs rest h1 h2 h3 h4 ih2 ih4=>intro e;have:=ih4 e;simp only [SV.ids,SV.idsL]at this⊢;simpa using this
 |cons ν s l c rest h1 h2 h3 ih1 ih3=>intro e;have a:=ih1 e;have b:=ih3 e;simp only [SV.ids,SV.idsL]at a b⊢;simp [a,b]
 |tnil=>intro _;simp [SV.ids,SV.idsL]
 |tcons ν s l c rest h1 h3 ih1 ih3=>intro e;have a:=ih1 e;have b:=ih3 e;simp only [SV.ids,SV.idsL]at a b⊢;simp [a,b]
 |clo ν fn first caps fs cs h1 h2 ih1 ih2=>intro e;have a:=ih1 e;have b:=ih2 e;simp only [SV.ids]at a b⊢;simp [a,b]
 |mp ν id b h=>intro e;subst e;cases h
 |owd ν id off sz m n b len cap h=>intro e;subst e;cases h
 |memo ν kt vt sc nk F b h=>intro _;simp [SV.ids]
 |mapx ν kt vt sc nk D F b es clock w h h1 h2 ih=>intro _;simp [SV.ids]
def uhm (ids:List Nat)(ν ν':Vl):Prop:=∀id∈ids,ν'.b id=ν.b id∧ν'.r id=ν.r id
theorem Rel.mono {μ μ':Mem}(hμ:∀b c,μ b=some c→μ' b=some c) {ν:Vl} {s:SV} {v:Value}(h:Rel μ ν s v):
 ∀ν',uhm s.ids ν ν'→Rel μ' ν' s v:=by
 induction h with
 |int=>intro ν' _;exact .int ν' _ _
 |bool=>intro ν' _;exact .bool ν' _
 |val _ x h=>intro ν' _;exact .val ν' x h
 |any=>intro ν' _;exact .any ν' _
 |own ν id off b h=>intro ν' ha;exact .own ν' id off b ((ha id (by simp [SV.ids])).1.trans h)
 |owe ν id off sz n ix o2 b h h1 h2=>intro ν' ha;exact .owe ν' id off sz n ix o2 b ((ha id (by simp [SV.ids])).1.trans h) h1 h2
 |roe ν id sz ix o2 b h h1=>intro ν' ha;exact .roe ν' id sz ix o2 b ((ha id (by simp [SV.ids])).1.trans h) h1
 |row ν id v h h'=>intro ν' ha;exact .row ν' id v ((ha id (by simp [SV.ids])).2.trans h) h'
 |ows ν id off len cap sz b h=>intro ν' ha;exact .ows ν' id off len cap sz b ((ha id (by simp [SV.ids])).1.trans h)
 |slnil ν sz n elem a cap h1 h2=>intro ν' _;exact .slnil ν' sz n elem a cap h1 h2
 |sl ν sz n elem b o len cap c h1 h2 h3 h4 h5 h6 h7 ih=>intro ν' _;exact .sl ν' sz n elem b o len cap c (hμ _ _ h1) h2 h3 h4 h5 (fun ix a b=>ih ix a b _ (fun _ _=>⟨rfl,rfl⟩)) h7
 |pp ν off cells b o m c h1 h2 h3 ih=>intro ν' _;exact .pp ν' off cells b o m c (hμ _ _ h1) h2 (ih _ (fun _ _=>⟨rfl,rfl⟩))
 |el ν sz n elem ix off b o len c h1 h2 h3 h4 h5 h6 ih=>intro ν' _;exact .el ν' sz n elem ix off b o len c (hμ _ _ h1) h2 h3 h4 (fun ix a b=>ih ix a b _ (fun _ _=>⟨rfl,rfl⟩)) h6
 |nil=>intro ν' _;exact .nil ν'
 | arr ν n f l cs rest h1 h2 h3 h4 ih2 ih4=>
  intro ν' ha
  exact .arr ν' n f l cs rest h1 (fun ix a b=>ih2 ix a b _ (fun _ _=>⟨rfl,rfl⟩)) h3 (ih4 ν' fun id hi=>ha id (by simp only [SV.ids,SV.idsL]at hi⊢;exact List.mem_append_right _ hi))
 | cons ν s l c rest h1 h2 h3 ih1 ih3=>
  intro ν' ha
  exact .cons ν' s l c rest (ih1 ν' fun id hi=>ha id (by simp [SV.ids,SV.idsL,hi])) h2 (ih3 ν' fun id hi=>ha id (by simp only [SV.ids,SV.idsL]at hi⊢;exact List.mem_append_right _ hi))
 |tnil=>intro ν' _;exact .tnil ν'
 | tcons ν s l c rest h1 h3 ih1 ih3=>
  intro ν' ha
  exact .tcons ν' s l c rest (ih1 ν' fun id hi=>ha id (by simp [SV.ids,SV.idsL,hi])) (ih3 ν' fun id hi=>ha id (by simp only [SV.ids,SV.idsL]at hi⊢;exact List.mem_append_right _ hi))
 | clo ν fn first caps fs cs h1 h2 ih1 ih2=>
  intro ν' ha
  exact .clo ν' fn first caps fs cs (ih1 ν' fun id hi=>ha id (by simp only [SV.ids]at hi⊢;exact List.mem_append_left _ hi)) (ih2 ν' fun id hi=>ha id (by simp only [SV.ids]at hi⊢;exact List.mem_append_right _ hi))
 |mp ν id b h=>intro ν' ha;exact .mp ν' id b ((ha id (by simp [SV.ids])).1.trans h)
 |owd ν id off sz m n b len cap h h1 h2 h3 h4=>intro ν' ha;exact .owd ν' id off sz m n b len cap ((ha id (by simp [SV.ids])).1.trans h) h1 h2 h3 h4
 |memo ν kt vt sc nk F b h=>intro ν' _;exact .memo ν' kt vt sc nk F b (hμ _ _ h)
 |mapx ν kt vt sc nk D F b es clock w h h1 h2 ih=>intro ν' _;exact .mapx ν' kt vt sc nk D F b es clock w (hμ _ _ h) h1 (fun ks a c=>ih ks a c Vl.nil (fun id hid=>⟨rfl,rfl⟩))
end Go.Eng

namespace Go.Eng
open Go
theorem Rel.strip {μ:Mem} {ν ν':Vl} {s:SV} {v:Value}(h:Rel μ ν s v)(hi:s.ids=[]):Rel μ ν' s v:=
 h.mono (fun _ _ h=>h) ν' (by rw [hi];intro id h;cases h)
def uax (μ':Mem)(ν ν':Vl)(g:Nat→Option To)(id:Nat):Prop:=match g id with
 |none=>ν'.b id=ν.b id∧ν'.r id=ν.r id
 |some (.id m)=>ν'.b m=ν.b id∧ν'.r m=ν.r id
 |some (.cells l)=>∀b off,ν.b id=some b→Rel μ' ν' (.pp off l) (.pointer (some ⟨b,off,none⟩))
 |some (.sl sz n e)=>∀v,ν.r id=some v→Rel μ' ν' (.sl sz n e) v
 |some (.mapx kt vt sc nk D F)=>∀b,ν.b id=some b→Rel μ' ν' (.mapx kt vt sc nk D F) (.map (some b))
 |some .gone=>True
theorem um4 {l:List SV}:∀{o:Nat},o≤udH l→∃t,ubN l o=some t∧udH t=udH l-o:=by
 induction l with
 | nil=>
  intro o ho
  have:o=0:=by simp [udH]at ho;exact ho
  subst this
  exact⟨[],rfl,rfl⟩
 | cons s l ih=>
  intro o ho
  cases o with
  |zero=>exact⟨s::l,by cases s<;>rfl,rfl⟩
  | succ o=>
   cases s with
   | arr n f=>
    simp only [udH]at ho⊢
    simp only [ubN]
    cases hb:Nat.ble n (o+1)with
    | true=>
     have:=Nat.le_of_ble_eq_true hb
     obtain⟨t,h1,h2⟩:=ih (o:=o+1-n) (by omega)
     exact⟨t,h1,by omega⟩
    | false=>
     have:¬n≤o+1:=fun h=>by rw [Nat.ble_eq_true_of_le h]at hb;cases hb
     exact⟨_,rfl,by simp only [udH];omega⟩
   | _=>
    simp only [udH]at ho⊢
    simp only [ubN]
    obtain⟨t,h1,h2⟩:=ih (o:=o) (by omega)
    exact⟨t,h1,by omega⟩
theorem umq {l:List SV}:∀{m:Nat},m≤udH l→∃t,ubg l m=some t:=by
 induction l with
 | nil=>
  intro m hm
  have:m=0:=by simp [udH]at hm;exact hm
  subst this
  exact⟨[],rfl⟩
 | cons s l ih=>
  intro m hm
  cases m with
  |zero=>exact⟨[],by cases s<;>rfl⟩
  | succ m=>
   cases s with
   | arr n f=>
    simp only [udH]at hm
    simp only [ubg]
    cases hb:Nat.ble n (m+1)with
    | true=>
     have:=Nat.le_of_ble_eq_true hb
     obtain⟨t,h1⟩:=ih (m:=m+1-n) (by omega)
     exact⟨_,by rw [h1]⟩
    |false=>exact⟨_,rfl⟩
   | _=>
    simp only [udH]at hm
    simp only [ubg]
    obtain⟨t,h1⟩:=ih (m:=m) (by omega)
    exact⟨_,by rw [h1]⟩
theorem ugk {l:List SV} {o m:Nat}(h:o+m≤udH l):∃t,ubn l o m=some t:=by
 obtain⟨t,h1,h2⟩:=um4 (l:=l) (o:=o) (by omega)
 obtain⟨t',h3⟩:=umq (l:=t) (m:=m) (by omega)
 exact⟨t',by simp only [ubn,h1,h3]⟩
theorem ugs {μ':Mem} {ν':Vl} {l:List SV} {b off len cap sz:Nat}(h:Rel μ' ν' (.pp 0 l) (.pointer (some ⟨b,0,none⟩)))(h1:off+len*sz≤udH l)(h2:len≤cap)(h3:cap≤4611686018427387904):
 Rel μ' ν' (.sl sz (.lit (len:Int)) (fun ix=>ucu l (off+ix.den.toNat*sz) sz)) (.slice (some ⟨b,off,none⟩) len cap):=by
 have hm:cap≤maxLen:=by simp only [maxLen];omega
 generalize hv:Value.pointer (some ⟨b,0,none⟩)=v at h
 cases h with
 | pp _ _ _ b' o m c q1 q2 q3=>
  injection hv with hv
  injection hv with hv
  injection hv with e1 e2
  have ho:o=0:=by omega
  subst ho;subst e1
  have hlen:udH l=m:=by
   have q3':ubp μ' Vl.nil l (c.extract 0 (0+m)).toList:=q3
   rw [uf5 q3']
   simp
   omega
  by_cases hz:len=0
  ·subst hz
   exact .slnil ν' sz _ _ _ _ rfl hm
  ·refine .sl ν' sz _ _ b off len cap c q1 rfl h2 hm (by omega) (fun ix i0 i1=> ?_) (by omega)
   have i1':ix.den<(len:Int):=i1
   have hi:ix.den.toNat<len:=by omega
   have hb:off+ix.den.toNat*sz+sz≤udH l:=by
    have:(ix.den.toNat+1)*sz≤len*sz:=Nat.mul_le_mul_right _ hi
    rw [Nat.add_mul,Nat.one_mul]at this
    omega
   obtain⟨t,ht⟩:=ugk (l:=l) (o:=off+ix.den.toNat*sz) (m:=sz) hb
   have q3':ubp μ' Vl.nil l (c.extract 0 (0+m)).toList:=q3
   obtain⟨r1,r2⟩:=ubb q3' ht
   have e:((c.extract 0 (0+m)).toList.drop (off+ix.den.toNat*sz)).take sz=(c.extract (off+ix.den.toNat*sz) (off+ix.den.toNat*sz+sz)).toList:=by
    apply List.ext_getElem?
    intro j
    simp only [Array.toList_extract,List.extract_eq_take_drop,List.getElem?_take,List.getElem?_drop]
    by_cases hj:j<sz
    ·rw [if_pos hj,if_pos (by omega),if_pos (by omega)]
     congr 1;omega
    ·rw [if_neg hj,if_neg (by omega)]
   rw [e]at r1
   show Rel μ' Vl.nil (.agg (ucu l (off+ix.den.toNat*sz) sz)) _
   simp only [ucu,ht]
   exact r1
theorem ujO {μ':Mem} {ν':Vl} {l:List SV} {b off m len cap sz:Nat} {n:IX}(h:Rel μ' ν' (.pp 0 l) (.pointer (some ⟨b,0,none⟩)))(h1:off+m*sz≤udH l)(h0:n.den=(len:Int))(hlm:len≤m)(h2:len≤cap)(h3:cap≤maxLen):
 Rel μ' ν' (.sl sz n (fun ix=>ucu l (off+ix.den.toNat*sz) sz)) (.slice (some ⟨b,off,none⟩) len cap):=by
 have hm:cap≤maxLen:=h3
 have hls:len*sz≤m*sz:=Nat.mul_le_mul_right _ hlm
 generalize hv:Value.pointer (some ⟨b,0,none⟩)=v at h
 cases h with
 | pp _ _ _ b' o mm c q1 q2 q3=>
  injection hv with hv
  injection hv with hv
  injection hv with e1 e2
  have ho:o=0:=by omega
  subst ho;subst e1
  have hlen:udH l=mm:=by
   have q3':ubp μ' Vl.nil l (c.extract 0 (0+mm)).toList:=q3
   rw [uf5 q3']
   simp
   omega
  by_cases hz:len=0
  ·subst hz
   exact .slnil ν' sz _ _ _ _ (by rw [h0];rfl) hm
  ·refine .sl ν' sz _ _ b off len cap c q1 h0 h2 hm (by omega) (fun ix i0 i1=> ?_) (by omega)
   have i1':ix.den<(len:Int):=h0▸i1
   have hi:ix.den.toNat<len:=by omega
   have hb:off+ix.den.toNat*sz+sz≤udH l:=by
    have:(ix.den.toNat+1)*sz≤len*sz:=Nat.mul_le_mul_right _ hi
    rw [Nat.add_mul,Nat.one_mul]at this
    omega
   obtain⟨t,ht⟩:=ugk (l:=l) (o:=off+ix.den.toNat*sz) (m:=sz) hb
   have q3':ubp μ' Vl.nil l (c.extract 0 (0+mm)).toList:=q3
   obtain⟨r1,r2⟩:=ubb q3' ht
   have e:((c.extract 0 (0+mm)).toList.drop (off+ix.den.toNat*sz)).take sz=(c.extract (off+ix.den.toNat*sz) (off+ix.den.toNat*sz+sz)).toList:=by
    apply List.ext_getElem?
    intro j
    simp only [Array.toList_extract,List.extract_eq_take_drop,List.getElem?_take,List.getElem?_drop]
    by_cases hj:j<sz
    ·rw [if_pos hj,if_pos (by omega),if_pos (by omega)]
     congr 1;omega
    ·rw [if_neg hj,if_neg (by omega)]
   rw [e]at r1
   show Rel μ' Vl.nil (.agg (ucu l (off+ix.den.toNat*sz) sz)) _
   simp only [ucu,ht]
   exact r1
theorem Rel.sub {μ μ':Mem}(hμ:∀b c,μ b=some c→μ' b=some c) {ν:Vl} {s:SV} {v:Value}(g:Nat→Option To)(h:Rel μ ν s v):
 ∀ν',(∀id∈s.ids,uax μ' ν ν' g id)→Rel μ' ν' (s.sub g) v:=by
 induction h with
 |int=>intro ν' _;exact .int ν' _ _
 |bool=>intro ν' _;exact .bool ν' _
 |val _ x h=>intro ν' _;exact .val ν' x h
 |any=>intro ν' _;exact .any ν' _
 | own ν id off b h=>
  intro ν' ha
  have hh:=ha id (by simp [SV.ids])
  unfold uax at hh
  simp only [SV.sub]
  cases hg:g id with
  |none=>rw [hg]at hh;exact .own ν' id off b (hh.1.trans h)
  | some t=>
   rw [hg]at hh
   cases t with
   |id m=>exact .own ν' m off b (hh.1.trans h)
   |cells l=>exact hh b off h
   |sl=>exact .any _ _
   |gone=>exact .any _ _
   |mapx=>exact .any _ _
 | owe ν id off sz n ix o2 b h h1 h2=>
  intro ν' ha
  have hh:=ha id (by simp [SV.ids])
  unfold uax at hh
  simp only [SV.sub]
  cases hg:g id with
  |none=>rw [hg]at hh;exact .owe ν' id off sz n ix o2 b (hh.1.trans h) h1 h2
  | some t=>
   rw [hg]at hh
   cases t with
   |id m=>exact .owe ν' m off sz n ix o2 b (hh.1.trans h) h1 h2
   |cells l=>exact .any _ _
   |sl=>exact .any _ _
   |gone=>exact .any _ _
   |mapx=>exact .any _ _
 | roe ν id sz ix o2 b h h1=>
  intro ν' ha
  have hh:=ha id (by simp [SV.ids])
  unfold uax at hh
  simp only [SV.sub]
  cases hg:g id with
  |none=>rw [hg]at hh;exact .roe ν' id sz ix o2 b (hh.1.trans h) h1
  | some t=>
   rw [hg]at hh
   cases t with
   |id m=>exact .roe ν' m sz ix o2 b (hh.1.trans h) h1
   |cells l=>exact .any _ _
   |sl=>exact .any _ _
   |gone=>exact .any _ _
   |mapx=>exact .any _ _
 | row ν id v h h'=>
  intro ν' ha
  have hh:=ha id (by simp [SV.ids])
  unfold uax at hh
  simp only [SV.sub]
  cases hg:g id with
  |none=>rw [hg]at hh;exact .row ν' id v (hh.2.trans h) h'
  | some t=>
   rw [hg]at hh
   cases t with
   |id m=>exact .row ν' m v (hh.2.trans h) h'
   |cells l=>exact .any _ _
   |sl=>exact hh v h
   |gone=>exact .any _ _
   |mapx=>exact .any _ _
 | ows ν id off len cap sz b h=>
  intro ν' ha
  have hh:=ha id (by simp [SV.ids])
  unfold uax at hh
  simp only [SV.sub]
  cases hg:g id with
  |none=>rw [hg]at hh;exact .ows ν' id off len cap sz b (hh.1.trans h)
  | some t=>
   rw [hg]at hh
   cases t with
   |id m=>exact .ows ν' m off len cap sz b (hh.1.trans h)
   | cells l=>
    simp only []
    split
    ·rename_i h1 h2 h3
     exact ugs (hh b 0 h) (Nat.le_of_ble_eq_true h1) (Nat.le_of_ble_eq_true h2) (Nat.le_of_ble_eq_true h3)
    ·exact .any _ _
   |sl=>exact .any _ _
   |gone=>exact .any _ _
   |mapx=>exact .any _ _
 |slnil ν sz n elem a cap h1 h2=>intro ν' _;exact .slnil ν' sz n elem a cap h1 h2
 |sl ν sz n elem b o len cap c h1 h2 h3 h4 h5 h6 h7 ih=>intro ν' _;exact .sl ν' sz n elem b o len cap c (hμ _ _ h1) h2 h3 h4 h5 (fun ix a b=>(h6 ix a b).mono hμ _ (fun _ _=>⟨rfl,rfl⟩)) h7
 |pp ν off cells b o m c h1 h2 h3 ih=>intro ν' _;exact .pp ν' off cells b o m c (hμ _ _ h1) h2 (h3.mono hμ _ (fun _ _=>⟨rfl,rfl⟩))
 |el ν sz n elem ix off b o len c h1 h2 h3 h4 h5 h6 ih=>intro ν' _;exact .el ν' sz n elem ix off b o len c (hμ _ _ h1) h2 h3 h4 (fun ix a b=>(h5 ix a b).mono hμ _ (fun _ _=>⟨rfl,rfl⟩)) h6
 |nil=>intro ν' _;exact .nil ν'
 | arr ν n f l cs rest h1 h2 h3 h4 ih2 ih4=>
  intro ν' ha
  exact .arr ν' n f _ cs rest h1 (fun ix a b=>(h2 ix a b).mono hμ _ (fun _ _=>⟨rfl,rfl⟩)) h3 (ih4 ν' fun id hi=>ha id (by simp only [SV.ids,SV.idsL]at hi⊢;exact List.mem_append_right _ hi))
 | cons ν s l c rest h1 h2 h3 ih1 ih3=>
  intro ν' ha
  exact .cons ν' _ _ c rest (ih1 ν' fun id hi=>ha id (by simp [SV.ids,SV.idsL,hi])) h2 (ih3 ν' fun id hi=>ha id (by simp only [SV.ids,SV.idsL]at hi⊢;exact List.mem_append_right _ hi))
 |tnil=>intro ν' _;exact .tnil ν'
 | tcons ν s l c rest h1 h3 ih1 ih3=>
  intro ν' ha
  exact .tcons ν' _ _ c rest (ih1 ν' fun id hi=>ha id (by simp [SV.ids,SV.idsL,hi])) (ih3 ν' fun id hi=>ha id (by simp only [SV.ids,SV.idsL]at hi⊢;exact List.mem_append_right _ hi))
 | clo ν fn first caps fs cs h1 h2 ih1 ih2=>
  intro ν' ha
  exact .clo ν' fn _ _ fs cs (ih1 ν' fun id hi=>ha id (by simp only [SV.ids]at hi⊢;exact List.mem_append_left _ hi)) (ih2 ν' fun id hi=>ha id (by simp only [SV.ids]at hi⊢;exact List.mem_append_right _ hi))
 | mp ν id b h=>
  intro ν' ha
  have hh:=ha id (by simp [SV.ids])
  unfold uax at hh
  simp only [SV.sub]
  cases hg:g id with
  |none=>rw [hg]at hh;exact .mp ν' id b (hh.1.trans h)
  | some t=>
   rw [hg]at hh
   cases t with
   |id m=>exact .mp ν' m b (hh.1.trans h)
   |mapx kt vt sc nk D F=>exact hh b h
   |cells l=>exact .any _ _
   |sl=>exact .any _ _
   |gone=>exact .any _ _
 | owd ν id off sz m n b len cap h h1 h2 h3 h4=>
  intro ν' ha
  have hh:=ha id (by simp [SV.ids])
  unfold uax at hh
  simp only [SV.sub]
  cases hg:g id with
  |none=>rw [hg]at hh;exact .owd ν' id off sz m n b len cap (hh.1.trans h) h1 h2 h3 h4
  | some t=>
   rw [hg]at hh
   cases t with
   |id k=>exact .owd ν' k off sz m n b len cap (hh.1.trans h) h1 h2 h3 h4
   | cells l=>
    simp only []
    split
    ·rename_i q
     exact ujO (hh b 0 h) (Nat.le_of_ble_eq_true q) h1 h2 h3 h4
    ·exact .any _ _
   |sl=>exact .any _ _
   |gone=>exact .any _ _
   |mapx=>exact .any _ _
 |memo ν kt vt sc nk F b h=>intro ν' _;exact .memo ν' kt vt sc nk F b (hμ _ _ h)
 |mapx ν kt vt sc nk D F b es clock w h h1 h2 ih=>intro ν' _;exact .mapx ν' kt vt sc nk D F b es clock w (hμ _ _ h) h1 (fun ks a c=>(h2 ks a c).mono hμ _ (fun _ _=>⟨rfl,rfl⟩))
structure Sta where
 E:Nat→SV
 H:Nat→Option Blk
 nxt:Nat
def LS.fs (s:LS):Sta:=⟨ubO s,lk s.H,s.nxt⟩
def uao :(Nat→Option Blk)→List (Nat×Option Blk)→Nat→Option Blk
 |H,[]=>H
 |H,(id,b)::r=>uao (fun k=>if k=id then b else H k) r
def uaJ (sub:List (Nat×To))(H:Nat→Option Blk):Nat→Option Blk:=match sub with
 |[]=>H
 |sub=>fun k=>(H k).map (Blk.sub (uam sub))
def ucX (sub:List (Nat×To))(E:Nat→SV):Nat→SV:=match sub with
 |[]=>E
 |sub=>fun k=>(E k).sub (uam sub)
def uc0 (E:Nat→SV)(d:Option Nat)(x:SV):Nat→SV:=match d with
 |some d=>fun k=>if k=d then x else E k
 |none=>E
def Sta.upd (t:Sta)(d:Option Nat)(u:Upd):Sta:=⟨uc0 (ucX u.sub t.E) d u.val,uao (uaJ u.sub t.H) u.hs,t.nxt⟩
theorem uq9 {α:Type}(l:List (Nat×α))(k n:Nat):lk (rm l k) n=if n=k then none else lk l n:=by
 induction l with
 |nil=>simp [rm,lk]
 | cons x l ih=>
  obtain⟨j,y⟩:=x
  simp only [rm,lk]
  cases h:Nat.beq j k with
  | true=>
   have hj:j=k:=Nat.eq_of_beq_eq_true h
   subst hj
   simp only [ih]
   by_cases hn:n=j
   ·simp [hn]
   ·have:Nat.beq j n=false:=by
     cases h':Nat.beq j n with
     |true=>exact absurd (Nat.eq_of_beq_eq_true h').symm hn
     |false=>rfl
    simp [hn,this]
  | false=>
   simp only [lk]
   cases h':Nat.beq j n with
   | true=>
    have hj:j=n:=Nat.eq_of_beq_eq_true h'
    have:n≠k:=by
     rintro rfl
     rw [hj]at h
     simp at h
    simp [this]
   |false=>simp only [ih]
theorem ut1 (g:Nat→Option To)(l:List (Nat×SV))(k:Nat):lk (uvq g l) k=(lk l k).map (SV.sub g):=by
 induction l with
 |nil=>rfl
 | cons x l ih=>
  obtain⟨j,y⟩:=x
  simp only [uvq,lk]
  cases Nat.beq j k<;>simp [ih]
theorem use (g:Nat→Option To)(l:List (Nat×Blk))(k:Nat):lk (uvs g l) k=(lk l k).map (Blk.sub g):=by
 induction l with
 |nil=>rfl
 | cons x l ih=>
  obtain⟨j,y⟩:=x
  simp only [uvs,lk]
  cases Nat.beq j k<;>simp [ih]
theorem ueU (a b:Nat):Nat.beq a b=decide (b=a):=by
 cases h:Nat.beq a b with
 |true=>have:=Nat.eq_of_beq_eq_true h;simp [this]
 | false=>
  have:b≠a:=by rintro rfl;simp at h
  simp [this]
theorem unk (H:List (Nat×Blk))(hs:List (Nat×Option Blk)):lk (usn H hs)=uao (lk H) hs:=by
 induction hs generalizing H with
 |nil=>rfl
 | cons x r ih=>
  obtain⟨id,b⟩:=x
  cases b with
  | none=>
   simp only [usn,uao,ih]
   congr 1
   funext k
   rw [uq9]
  | some b=>
   simp only [usn,uao,ih]
   congr 1
   funext k
   simp only [lk,uq9,ueU]
   by_cases h:k=id<;>simp [h]
theorem ucz (s:LS)(env:List (Nat×SV))(d:Option Nat)(x:SV)(H:List (Nat×Blk))(n:Nat):
 ubO ⟨ude env d x,H,n⟩=uc0 (fun k=>udP (lk env k)) d x:=by
 funext k
 cases d with
 |none=>rfl
 | some d=>
  simp only [ubO,ude,uc0,lk,uq9,ueU]
  by_cases h:k=d<;>simp [h,udP]
theorem uaD (s:LS)(d:Option Nat)(u:Upd):(ub4 s d u).fs=s.fs.upd d u:=by
 obtain⟨val,hs,sub⟩:=u
 cases sub with
 | nil=>
  simp only [ub4,LS.fs,Sta.upd,ucX,uaJ]
  congr 1
  ·rw [ucz s];rfl
  ·exact unk _ _
 | cons x r=>
  simp only [ub4,LS.fs,Sta.upd,ucX,uaJ]
  congr 1
  ·rw [ucz s]
   congr 1
   funext k
   rw [ut1]
   simp only [ubO]
   cases lk s.env k with
   |none=>simp [SV.sub,udP]
   |some y=>rfl
  ·rw [unk]
   congr 1
   funext k
   rw [use]
end Go.Eng

namespace Go.Eng
open Go
def ugE (ti:TI):Value:=match ti.isAgg with
 |true=>.agg ⟨zvs ti.zero⟩
 |false=>(zvs ti.zero).headD undef
structure TyOk1 (P:Program)(t:TypeId)(ti:TI):Prop where
 info:∃i,P.info? t=some i∧i.size=ti.size∧i.bytes=ti.bytes ∧
  i.zero=some (ugE ti)
 len:(zvs ti.zero).length=ti.size
 desc:match ti.k with
  | .int k=>P.underlying t=some (.int k)
  | .bool=>P.underlying t=some .bool
  | .one=>∃d,P.underlying t=some d∧d.isRow=false
  | .sli e=>P.underlying t=some (.slice e)
  | .str fs=>∃fields:Array Field,P.underlying t=some (.struct fields)∧fields.toList.map (fun f=>(f.offset,f.type))=fs∧∀f∈fields.toList,∃i,P.info? f.type=some i∧i.size≠0
  | .arr n e=>P.underlying t=some (.array n e)
 one:ti.isAgg=false→ti.size=1
def uc5 (P:Program)(T:uar):Prop:=∀t ti,T t=some ti→TyOk1 P t ti
section
variable {P:Program} {t:TypeId} {ti:TI}
theorem TyOk1.under (h:TyOk1 P t ti):∃d,P.underlying t=some d∧d.isRow=ti.isAgg:=by
 have hd:=h.desc
 unfold TI.isAgg
 cases hk:ti.k<;>rw [hk]at hd<;>simp only at hd⊢
 case one=>exact hd
 case str fs=>obtain⟨f,h1,_⟩:=hd;exact⟨_,h1,rfl⟩
 all_goals exact⟨_,hd,rfl⟩
theorem TyOk1.isz (h:TyOk1 P t ti):(P.info? t).map (·.size)=some ti.size:=by
 obtain⟨i,h1,h2,_⟩:=h.info
 rw [h1,←h2];rfl
theorem TyOk1.run_sizeOf (h:TyOk1 P t ti)(w:World):(sizeOf t).run P w = .ok ti.size w:=by
 obtain⟨i,h1,h2,_⟩:=h.info
 simp [sizeOf,typeInfo,h1,h2]
theorem TyOk1.run_isAgg (h:TyOk1 P t ti)(w:World):(isAgg t).run P w = .ok ti.isAgg w:=by
 obtain⟨d,h1,h2⟩:=h.under
 unfold isAgg
 rw [Sem.run_bind,run_underlying h1 w,←h2]
 cases d<;>rfl
theorem TyOk1.run_zero (h:TyOk1 P t ti)(w:World):(zeroValue t).run P w = .ok (ugE ti) w:=by
 obtain⟨i,h1,h2,h3,h4⟩:=h.info
 simp [zeroValue,typeInfo,h1,h4]
end
theorem usf (μ:Mem)(ν:Vl)(z:List ZC):ubp μ ν (zsv z) (zvs z):=by
 have h1:∀(p:Prm) (ν:Vl),Rel μ ν p.sv p.value∧p.value.oneCell'=true:=fun p ν=>by
  cases p with
  |int k=>exact⟨.int ν k (.lit 0),rfl⟩
  |bool=>exact⟨.bool ν (.lit false),rfl⟩
  |sli=>exact⟨.val ν _ rfl,rfl⟩
  |ptr=>exact⟨.val ν _ rfl,rfl⟩
  |fn=>exact⟨.val ν _ rfl,rfl⟩
  |mp=>exact⟨.val ν _ rfl,rfl⟩
  |str=>exact⟨.val ν _ rfl,rfl⟩
 induction z with
 |nil=>exact .nil ν
 | cons x z ih=>
  cases x with
  |one p=>exact .cons ν _ _ _ _ (h1 p ν).1 (h1 p ν).2 ih
  | rep n p=>
   refine .arr ν n _ _ _ _ (by simp) (fun ix hx hy=> ?_) (fun c hc=> ?_) ih
   ·rw [List.getD_eq_getElem?_getD,List.getElem?_replicate,if_pos (by omega)]
    exact(h1 p _).1
   ·rw [List.eq_of_mem_replicate hc];exact(h1 p ν).2
theorem ugh (z:List ZC):SV.idsL (zsv z)=[]:=by
 induction z with
 |nil=>rfl
 | cons x z ih=>
  cases x with
  |one p=>cases p<;>simpa [zsv,Prm.sv,SV.idsL,SV.ids]using ih
  |rep n p=>simpa [zsv,SV.idsL,SV.ids]using ih
theorem ub1 {a b:Nat}(h:Nat.blt a b=true):a<b:=Nat.le_of_ble_eq_true h
section
variable {P:Program} {t:TypeId} {ti:TI}
def uiF (ti:TI)(cs:List Value)(o:Nat):Value:=match ti.isAgg with
 |true=>.agg ⟨(cs.drop o).take ti.size⟩
 |false=>cs.getD o undef
theorem udC (h:TyOk1 P t ti)(W:World)(b o:Nat)(cs:Array Value)(ty:TypeId)(fr:Nat×Nat)(hb:W.heap[b]? =some (.cells cs ty fr))(hl:o+ti.size≤cs.size):
 (Instr.loadAt t (.pointer (some ⟨b,o,none⟩))).run P W = .ok (uiF ti cs.toList o) W:=by
 unfold uiF
 cases ha:ti.isAgg with
 | true=>
  obtain⟨d,h1,h2⟩:=h.under
  have hlen:((cs.toList.drop o).take ti.size).length=ti.size:=by simp;omega
  have:=run_loadAt_mid (P:=P) W b o t ((cs.toList.drop o).take ti.size) d (fun j v hv=> ?_) h1 (by rw [h2,ha]) (by rw [h.isz,hlen])
  ·exact this
  ·rw [cell_of_row W b (o+j) cs ty fr hb]
   rw [List.getElem?_take]at hv
   split at hv
   ·simpa using hv
   ·cases hv
 | false=>
  have h1:=h.one ha
  have ho:o<cs.size:=by omega
  simp only [Instr.loadAt,Instr.sureAddr,Sem.run_bind,Sem.run_pure,Result.andThen_ok,loadVar,h.run_isAgg,ha,Bool.false_eq_true,if_false,run_load,
   cell_of_row W b o cs ty fr hb,Array.getElem?_eq_getElem ho,List.getD_eq_getElem?_getD,Array.getElem?_toList,Option.getD_some]
def setR (cs:Array Value)(o:Nat)(nw:List Value):Array Value:=(cs.toList.take o++nw++cs.toList.drop (o+nw.length)).toArray
theorem ufe (h:TyOk1 P t ti)(W:World)(b o:Nat)(cs:Array Value)(ty:TypeId)(hb:W.heap[b]? =some (.cells cs ty (0,0)))(v:Value)(hv:v.cells.size=ti.size)(h1:∀c∈v.cells.toList,c.oneCell'=true)(hl:o+ti.size≤cs.size):
 (Instr.storeAt t (.pointer (some ⟨b,o,none⟩)) v).run P W = .ok () (W.setRow b (setR cs o v.cells.toList)):=by
 have:=run_storeCells_at P b o ty v.cells.toList 0 cs W hb (by simp [hv];omega) h1
 simp only [Nat.add_zero]at this
 simp only [Instr.storeAt,Instr.sureAddr,Sem.run_bind,Sem.run_pure,Result.andThen_ok,storeVar,h.run_sizeOf,hv,ne_eq,not_true_eq_false,if_false]
 exact this
end
theorem ubB {P:Program} {t:TypeId} {ti:TI}(ht:TyOk1 P t ti):(ugE ti).cells=⟨zvs ti.zero⟩:=by
 unfold ugE
 cases ha:ti.isAgg with
 |true=>rfl
 | false=>
  have h1:=ht.one ha
  have hl:=ht.len
  have ho:=ucM (usf (fun _=>none) Vl.nil ti.zero)
  match hz:zvs ti.zero,hl.trans h1 with
  | [c],_=>
   rw [hz]at ho
   have:=ho c (by simp)
   simp only [List.headD_cons]
   cases c<;>first|rfl|(simp [Value.oneCell']at this)
section
variable {μ:Mem} {ν:Vl} {v:Value}
theorem udg {k:IntKind} {x:IX}(h:Rel μ ν (.int k x) v):v = .int k x.den:=by cases h;rfl
theorem ubm {x:BX}(h:Rel μ ν (.bool x) v):v = .bool x.den:=by cases h;rfl
theorem ucY {x:Value}(h:Rel μ ν (.val x) v):v=x∧x.oneCell'=true:=by cases h;exact⟨rfl,by assumption⟩
theorem udp {id off:Nat}(h:Rel μ ν (.own id off) v):∃b,ν.b id=some b∧v = .pointer (some ⟨b,off,none⟩):=by cases h;exact⟨_,by assumption,rfl⟩
theorem uhj {id sz o2:Nat} {ix:IX}(h:Rel μ ν (.roe id sz ix o2) v):∃b,ν.b id=some b∧0≤ix.den∧v = .pointer (some ⟨b,ix.den.toNat*sz+o2,none⟩):=by
 cases h;exact⟨_,by assumption,by assumption,rfl⟩
theorem ugi {id off sz n o2:Nat} {ix:IX}(h:Rel μ ν (.owe id off sz n ix o2) v):∃b,ν.b id=some b∧0≤ix.den∧ix.den<(n:Int)∧v = .pointer (some ⟨b,off+(ix.den.toNat*sz+o2),none⟩):=by
 cases h;exact⟨_,by assumption,by assumption,by assumption,rfl⟩
theorem ufu {id:Nat}(h:Rel μ ν (.row id) v):ν.r id=some v∧v.oneCell'=true:=by cases h;exact⟨by assumption,by assumption⟩
theorem ui2 {id off sz m:Nat} {n:IX}(h:Rel μ ν (.owd id off sz m n) v):∃(b len cap:Nat),ν.b id=some b∧n.den=(len:Int)∧len≤m∧len≤cap∧cap≤maxLen∧v = .slice (some ⟨b,off,none⟩) len cap:=by
 cases h;exact⟨_,_,_,by assumption,by assumption,by assumption,by assumption,by assumption,rfl⟩
theorem ucC {id off len cap sz:Nat}(h:Rel μ ν (.ows id off len cap sz) v):∃b,ν.b id=some b∧v = .slice (some ⟨b,off,none⟩) len cap:=by cases h;exact⟨_,by assumption,rfl⟩
theorem uiJ {off:Nat} {cells:List SV}(h:Rel μ ν (.pp off cells) v):∃b o m c,μ b=some (.arr c)∧o+m≤c.size∧Rel μ Vl.nil (.agg cells) (.agg (c.extract o (o+m)))∧v = .pointer (some ⟨b,o+off,none⟩):=by
 cases h;exact⟨_,_,_,_,by assumption,by assumption,by assumption,rfl⟩
theorem uoM {sz off:Nat} {n ix:IX} {elem:IX→List SV}(h:Rel μ ν (.el sz n elem ix off) v):∃b o len c,μ b=some (.arr c)∧n.den=((len:Nat):Int)∧0≤ix.den∧ix.den<n.den ∧
 (∀jx:IX,0≤jx.den→jx.den<n.den→Rel μ Vl.nil (.agg (elem jx)) (.agg (c.extract (o+jx.den.toNat*sz) (o+jx.den.toNat*sz+sz))))∧o+len*sz≤c.size ∧
 v = .pointer (some ⟨b,o+ix.den.toNat*sz+off,none⟩):=by
 cases h;exact⟨_,_,_,_,by assumption,by assumption,by assumption,by assumption,by assumption,by assumption,rfl⟩
theorem ugp {sz:Nat} {n:IX} {elem:IX→List SV}(h:Rel μ ν (.sl sz n elem) v):∃(ad:Option Addr) (len cap:Nat),v = .slice ad len cap∧n.den=(len:Int)∧cap≤maxLen ∧
 (len=0∨∃b o c,ad=some ⟨b,o,none⟩∧0<len∧len≤cap∧μ b=some (.arr c) ∧
  (∀ix:IX,0≤ix.den→ix.den<n.den→Rel μ Vl.nil (.agg (elem ix)) (.agg (c.extract (o+ix.den.toNat*sz) (o+ix.den.toNat*sz+sz))))∧o+len*sz≤c.size):=by
 cases h with
 |slnil _ _ _ _ ad cap h1 h2=>exact⟨ad,0,cap,rfl,h1,h2,.inl rfl⟩
 |sl _ _ _ _ b o len cap c h1 h2 h3 h4 h5 h6 h7=>exact⟨_,len,cap,rfl,h2,h4,.inr ⟨b,o,c,rfl,h5,h3,h1,h6,h7⟩⟩
theorem ucD {l:List SV}(h:Rel μ ν (.agg l) v):∃cs:List Value,v = .agg ⟨cs⟩∧ubp μ ν l cs:=by
 cases h with
 |nil=>exact⟨[],rfl,.nil ν⟩
 |arr _ n f l c0 rest h1 h2 h3 h4=>exact⟨_,rfl,.arr ν n f l c0 rest h1 h2 h3 h4⟩
 |cons _ s l c rest h1 h2 h3=>exact⟨_,rfl,.cons ν s l c rest h1 h2 h3⟩
theorem uhG {f:FuncId} {a b:List SV}(h:Rel μ ν (.clo f a b) v):∃fs cs,v = .func (.func f) fs cs∧Rel μ ν (.tup a) (.tuple fs)∧Rel μ ν (.tup b) (.tuple cs):=by
 cases h;exact⟨_,_,rfl,by assumption,by assumption⟩
theorem ugf {l:List SV}(h:Rel μ ν (.tup l) v):∃cs:List Value,v = .tuple ⟨cs⟩∧cs.length=l.length:=by
 induction l generalizing v with
 |nil=>cases h;exact⟨[],rfl,rfl⟩
 | cons s l ih=>
  cases h with
  | tcons _ _ _ c rest h1 h2=>
   obtain⟨cs,e,hl⟩:=ih h2
   cases e
   exact⟨_,rfl,by simp [hl]⟩
theorem ujU {l:List SV}:∀{cs:List Value} {j:Nat} {s:SV},Rel μ ν (.tup l) (.tuple ⟨cs⟩)→nth l j=some s→∃c,cs[j]? =some c∧Rel μ ν s c:=by
 induction l with
 |nil=>intro cs j s h hn;simp [nth]at hn
 | cons x l ih=>
  intro cs j s h hn
  cases h with
  | tcons _ _ _ c rest h1 h2=>
   cases j with
   |zero=>simp only [nth,Option.some.injEq]at hn;subst hn;exact⟨c,rfl,h1⟩
   | succ j=>
    obtain⟨c',r1,r2⟩:=ih h2 hn
    exact⟨c',by simpa using r1,r2⟩
theorem ukl {s:SV}(h:Rel μ ν s v) {n:Nat}(hl:udH (cellsOf s)=n)(h1:(∀l,s≠ .agg l)→v.oneCell'=true):Rel μ ν (.agg (cellsOf s)) (.agg v.cells)∧v.cells.size=n:=by
 have key:Rel μ ν (.agg (cellsOf s)) (.agg v.cells):=by
  by_cases hs:∃l,s = .agg l
  ·obtain⟨l,rfl⟩:=hs
   obtain⟨cs,rfl,hr⟩:=ucD h
   exact hr
  ·have hs':∀l,s≠ .agg l:=fun l e=>hs ⟨l,e⟩
   have ho:=h1 hs'
   have hv:v.cells = #[v]:=by cases v<;>first|rfl|(simp [Value.oneCell']at ho)
   rw [hv]
   have:cellsOf s=[s]:=by cases s<;>first|rfl|exact absurd rfl (hs' _)
   rw [this]
   exact .cons ν s [] v [] h ho (.nil ν)
 refine⟨key,?_⟩
 rw [←hl]
 have:=uf5 (cs:=v.cells.toList) key
 rw [this];simp
end
structure MSat (W0:World)(B0:Nat→Prop)(H:Nat→Option Blk)(μ:Mem)(ν:Vl)(W:World):Prop where
 mem:ubR μ W
 own:OwnOk W0.heap.size B0 μ ν H W
 frm:Frm B0 W0 W
 wf:∀i b,H i=some b→∀id∈ua9 b,(H id).isSome=true
structure MLe (N0:Nat)(B0:Nat→Prop)(μ μ':Mem):Prop where
 le:∀b c,μ b=some c→μ' b=some c
 new:∀b c,μ' b=some c→μ b=some c∨N0≤b∨B0 b
theorem MLe.refl (N0:Nat)(B0:Nat→Prop)(μ:Mem):MLe N0 B0 μ μ:=⟨fun _ _ h=>h,fun _ _ h=>.inl h⟩
theorem MLe.trans {N0:Nat} {B0:Nat→Prop} {μ μ' μ'':Mem}(h:MLe N0 B0 μ μ')(h':MLe N0 B0 μ' μ''):MLe N0 B0 μ μ'':=
 ⟨fun b c hb=>h'.le b c (h.le b c hb),fun b c hb=>(h'.new b c hb).elim (h.new b c) .inr⟩
structure Bor where
 tab:Nat→Option (Bool×Option Nat×Option Value)
 mu:Mem
instance: CoeFun Bor (fun _=>Nat→Option (Bool×Option Nat×Option Value)):=⟨Bor.tab⟩
structure Sat (W0:World)(B0:Nat→Prop)(R0:Bor)(N:Nat)(D:List Deferred)(t:Sta)(μ:Mem)(ν:Vl)(a:Act)(W:World):Prop where
 size:a.tmps.size=N
 defers:a.defers=D
 env:∀k,Rel μ ν (t.E k) (a.tmps.getD k undef)
 wf:∀k,∀id∈(t.E k).ids,(t.H id).isSome=true
 ms:MSat W0 B0 t.H μ ν W
 mle:MLe W0.heap.size B0 R0.mu μ
 bor:∀id r b,R0 id=some (r,b)→∃blk,t.H id=some blk∧blk.isRow=r∧(r=false→(ν.b id,ν.r id)=b)
 mm:∀b,uaz R0.mu b→B0 b
theorem Sat.memoB {W0:World} {B0:Nat→Prop} {R0:Bor} {N:Nat} {D:List Deferred} {t:Sta} {μ:Mem} {ν:Vl} {a:Act} {W:World}(h:Sat W0 B0 R0 N D t μ ν a W) {b:Nat}(hm:uaz μ b):W0.heap.size≤b∨B0 b:=by
 obtain⟨kt,vt,sc,nk,F,q⟩:=hm
 rcases h.mle.new b _ q with q|q
 ·exact .inr (h.mm b ⟨kt,vt,sc,nk,F,q⟩)
 ·exact q
def urr (sub:List (Nat×To))(s:SV):SV:=match sub with
 |[]=>s
 |sub=>s.sub (uam sub)
structure UpdOk (W0:World)(B0:Nat→Prop)(t:Sta)(u:Upd)(μ:Mem)(ν:Vl)(μ':Mem)(ν':Vl)(v:Value)(W':World):Prop where
 rel:Rel μ' ν' u.val v
 ids:∀id∈u.val.ids,(uao (uaJ u.sub t.H) u.hs id).isSome=true
 keep:∀s x,Rel μ ν s x→(∀id∈s.ids,(t.H id).isSome=true)→Rel μ' ν' (urr u.sub s) x∧∀id∈(urr u.sub s).ids,(uao (uaJ u.sub t.H) u.hs id).isSome=true
 ms:MSat W0 B0 (uao (uaJ u.sub t.H) u.hs) μ' ν' W'
 kinds:∀id blk,t.H id=some blk→∃blk',uao (uaJ u.sub t.H) u.hs id=some blk'∧blk'.isRow=blk.isRow∧(blk.isRow=false→(ν'.b id,ν'.r id)=(ν.b id,ν.r id))
 mle:MLe W0.heap.size B0 μ μ'
theorem ulj (a:Act)(d:Nat)(v:Value)(k:Nat)(hd:d<a.tmps.size):(a.put (some d) v).tmps.getD k undef=if k=d then v else a.tmps.getD k undef:=by
 simp only [Act.put,Array.getD_eq_getD_getElem?,Array.getElem?_setIfInBounds]
 by_cases h:d=k
 ·subst h;simp [hd]
 ·have:¬k=d:=fun e=>h e.symm
  simp [h,this]
theorem uc7 {W0:World} {B0:Nat→Prop} {R0:Bor} {N:Nat} {D:List Deferred} {t:Sta} {μ μ':Mem} {ν ν':Vl} {a:Act} {W W':World} {d:Option Nat} {u:Upd} {v:Value}
 (h:Sat W0 B0 R0 N D t μ ν a W) (hu:UpdOk W0 B0 t u μ ν μ' ν' v W') (hd:∀k,d=some k→k<N):Sat W0 B0 R0 N D (t.upd d u) μ' ν' (a.put d v) W':=by
 have hE:∀k,ucX u.sub t.E k=urr u.sub (t.E k):=fun k=>by
  cases u.sub<;>rfl
 have hB:∀id r b,R0 id=some (r,b)→∃blk,(t.upd d u).H id=some blk∧blk.isRow=r∧(r=false→(ν'.b id,ν'.r id)=b):=fun id r b hR=>by
  obtain⟨blk,q1,q2,q3⟩:=h.bor id r b hR
  obtain⟨blk',p1,p2,p3⟩:=hu.kinds id blk q1
  exact⟨blk',p1,p2.trans q2,fun hr=>(p3 (q2.trans hr)).trans (q3 hr)⟩
 cases d with
 | none=>
  refine⟨h.size,h.defers,fun k=> ?_,fun k=> ?_,hu.ms,h.mle.trans hu.mle,hB,h.mm⟩
  ·simp only [Sta.upd,uc0,hE,Act.put]
   exact(hu.keep _ _ (h.env k) (h.wf k)).1
  ·simp only [Sta.upd,uc0,hE]
   exact(hu.keep _ _ (h.env k) (h.wf k)).2
 | some d=>
  refine⟨by simp only [Act.put,Array.size_setIfInBounds];exact h.size,h.defers,fun k=> ?_,fun k=> ?_,hu.ms,h.mle.trans hu.mle,hB,h.mm⟩
  ·rw [ulj a d v k (by rw [h.size];exact hd d rfl)]
   simp only [Sta.upd,uc0,hE]
   split
   ·exact hu.rel
   ·exact(hu.keep _ _ (h.env k) (h.wf k)).1
  ·simp only [Sta.upd,uc0,hE]
   split
   ·exact hu.ids
   ·exact(hu.keep _ _ (h.env k) (h.wf k)).2
def Res (P:Program)(G:Value→World→Prop):Result Next→Prop
 | .ok (.value v) w=>G v w
 | .ok .skip w=>G undef w
 | .ok (.enter f args) w=>Calls P f args w fun e w'=>∃v,e = .returned v∧G v w'
 |_=>False
def ubt (P:Program)(W0:World)(B0:Nat→Prop)(t:Sta)(μ:Mem)(ν:Vl)(K:Upd→Prop)(r:Result Next):Prop:=
 Res P (fun v W'=>∃u μ' ν',K u∧UpdOk W0 B0 t u μ ν μ' ν' v W') r
section
variable {P:Program} {W0:World} {B0:Nat→Prop} {R0:Bor} {N:Nat} {D:List Deferred} {t:Sta} {μ:Mem} {ν:Vl} {a:Act} {W:World} {K:Upd→Prop}
theorem ubT (h:MSat W0 B0 t.H μ ν W) {s:SV} {v:Value}(hr:Rel μ ν s v)(hi:∀id∈s.ids,(t.H id).isSome=true):UpdOk W0 B0 t (ua5 s) μ ν μ ν v W:=
 ⟨hr,hi,fun _ _ h hi=>⟨h,hi⟩,h,fun id blk hb=>⟨blk,hb,rfl,fun _=>rfl⟩,MLe.refl _ _ _⟩
theorem ua4 (h:Sat W0 B0 R0 N D t μ ν a W) {s:SV} {v:Value} {r:Result Next}(hr:r = .ok (.value v) W)(hK:K (ua5 s))(hs:Rel μ ν s v)(hi:∀id∈s.ids,(t.H id).isSome=true):ubt P W0 B0 t μ ν K r:=by
 rw [hr]
 exact⟨_,μ,ν,hK,ubT h.ms hs hi⟩
theorem uad (h:Sat W0 B0 R0 N D t μ ν a W)(x:Operand):Rel μ ν (ev t.E x) (a.eval x):=by
 cases x with
 |tmp k=>exact h.env k
 | const v=>
  simp only [ev,Act.eval]
  unfold SV.ofV
  split
  ·exact .int ν _ (.lit _)
  ·exact .bool ν (.lit _)
  ·split
   ·exact .val ν _ (by assumption)
   ·exact .any ν _
 |global g=>exact .any ν _
 |func f=>exact .clo ν f [] [] #[] #[] (.tnil ν) (.tnil ν)
theorem ubI (h:Sat W0 B0 R0 N D t μ ν a W)(x:Operand):∀id∈(ev t.E x).ids,(t.H id).isSome=true:=by
 cases x with
 |tmp k=>exact h.wf k
 | const v=>
  simp only [ev]
  unfold SV.ofV
  split
  ·simp [SV.ids]
  ·simp [SV.ids]
  ·split<;>simp [SV.ids]
 |global g=>simp [ev,SV.ids]
 |func f=>simp [ev,SV.ids,SV.idsL]
end
end Go.Eng

namespace Go.Eng
open Go
theorem ua2 {α:Type} {o:Option α} {x:α}(h:o=some x):o.isSome=true:=by rw [h];rfl
theorem MapOk.mono {μ μ':Mem}(hμ:∀b c,μ b=some c→μ' b=some c) {sc:Bool} {nk:Nat} {f:List Int→Option SV} {es:List MapEntry} {clock:Nat}(h:MapOk μ sc nk f es clock):MapOk μ' sc nk f es clock:=
 ⟨h.one,h.keys,h.once,h.born,h.clock,h.no,fun ks s hk hs=>by
  obtain⟨e,h1,h2,h3⟩:=h.yes ks s hk hs
  exact⟨e,h1,h2,h3.mono hμ _ fun _ _=>⟨rfl,rfl⟩⟩⟩
theorem ItOk.mono {μ μ':Mem}(hμ:∀b c,μ b=some c→μ' b=some c) {sc:Bool} {nk:Nat} {R:List Int→Bool} {F:List Int→SV} {la:Option (List Int)} {es:List MapEntry} {clock:Nat} {ueh:Array Nat}(h:ItOk μ sc nk R F la es clock ueh):ItOk μ' sc nk R F la es clock ueh:=
 ⟨h.one,h.once,h.born,h.clock,fun e he hs=>by
  obtain⟨ks,h1,h2,h3,h4⟩:=h.left e he hs
  exact⟨ks,h1,h2,h3,h4.mono hμ _ fun _ _=>⟨rfl,rfl⟩⟩,h.all,fun ks hk=>by
  obtain⟨h0,e,s0,h1,h2,h3,h4⟩:=h.last ks hk
  exact⟨h0,e,s0,h1,h2,h3,h4.mono hμ _ fun _ _=>⟨rfl,rfl⟩⟩⟩
theorem Blk.Holds.mono {μ μ':Mem}(hμ:∀b c,μ b=some c→μ' b=some c) {ν ν':Vl} {W W':World} {id:Nat} {blk:Blk}(h:blk.Holds μ ν W id)
 (hν:uhm (id::ua9 blk) ν ν') (hW:∀b,ν.b id=some b→W'.heap[b]? =W.heap[b]?):blk.Holds μ' ν' W' id:=by
 have h0:=hν id (by simp)
 cases blk with
 | cells l ty=>
  obtain⟨b,cs,h1,h2,h3⟩:=h
  exact⟨b,cs,h0.1.trans h1,(hW b h1).trans h2,h3.mono hμ ν' fun j hj=>hν j (by simp only [ua9];exact List.mem_cons_of_mem _ (by simpa [SV.ids]using hj))⟩
 | row ety sz n e=>
  obtain⟨v,h1,h2⟩:=h
  refine⟨v,h0.2.trans h1,?_⟩
  rcases h2 with⟨h2,h3,h4⟩|⟨b,len,cap,cur,h2,h3,h4,h5,h6,h7,h8,h9⟩
  ·exact .inl ⟨h0.1.trans h2,h3,h4⟩
  ·exact .inr ⟨b,len,cap,cur,h0.1.trans h2,h3,h4,h5,h6,(hW b h2).trans h7,h8,fun ix a c=>(h9 ix a c).mono hμ _ (fun _ _=>⟨rfl,rfl⟩)⟩
 | map kt vt sc nk f=>
  obtain⟨b,es,clock,h1,h2,h3⟩:=h
  exact⟨b,es,clock,h0.1.trans h1,(hW b h1).trans h2,h3.mono hμ⟩
 | it sc nk R F la=>
  obtain⟨b,bm,es,clock,ueh,h1,h2,h3,h4⟩:=h
  exact⟨b,bm,es,clock,ueh,h0.1.trans h1,(hW b h1).trans h2,hμ _ _ h3,h4.mono hμ⟩
def ugK :Obj→Bool
 | .cells _ _ _=>true
 | .map _ _=>true
 | .mapIter _ _ _ _=>true
 |_=>false
theorem Blk.Holds.block {μ:Mem} {ν:Vl} {W:World} {id:Nat} {blk:Blk}(h:blk.Holds μ ν W id) {b:Nat}(hb:ν.b id=some b):∃o,W.heap[b]? =some o∧ugK o=true:=by
 cases blk with
 | cells l ty=>
  obtain⟨b',cs,h1,h2,h3⟩:=h
  rw [h1]at hb;cases hb
  exact⟨_,h2,rfl⟩
 | map kt vt sc nk f=>
  obtain⟨b',es,clock,h1,h2,h3⟩:=h
  rw [h1]at hb;cases hb
  exact⟨_,h2,rfl⟩
 | it sc nk R F la=>
  obtain⟨b',bm,es,clock,ueh,h1,h2,h3,h4⟩:=h
  rw [h1]at hb;cases hb
  exact⟨_,h2,rfl⟩
 | row ety sz n e=>
  obtain⟨v,h1,h2⟩:=h
  rcases h2 with⟨h2,h3,h4⟩|⟨b',len,cap,cur,h2,h3,h4,h5,h6,h7,h8,h9⟩
  ·rw [h2]at hb;cases hb
  ·rw [h2]at hb;cases hb
   exact⟨_,h7,rfl⟩
theorem uag {W:World} {b:Nat} {o:Obj}(h:W.heap[b]? =some o):b<W.heap.size:=(Array.getElem?_eq_some_iff.1 h).1
section
variable {W0:World} {B0:Nat→Prop} {H:Nat→Option Blk} {μ:Mem} {ν:Vl} {W:World}
theorem OwnOk.lt {N0:Nat}(h:OwnOk N0 B0 μ ν H W) {id b:Nat}(hi:(H id).isSome=true)(hb:ν.b id=some b):b<W.heap.size:=by
 obtain⟨blk,hblk⟩:=Option.isSome_iff_exists.1 hi
 obtain⟨o,h1,_⟩:=(h.holds id blk hblk).block hb
 exact uag h1
theorem ufH.lt {b:Nat} {c:Cel}(h:ufH W b c):b<W.heap.size:=by
 cases c with
 |arr c=>obtain⟨t,fr,h1⟩:=h;exact uag h1
 |mapx es clock=>exact uag h
 |memo kt vt sc nk F=>obtain⟨es,clock,h1,_⟩:=h;exact uag h1
theorem ufH.same {W W':World} {b:Nat} {c:Cel}(h:ufH W b c)(e:W'.heap[b]? =W.heap[b]?):ufH W' b c:=by
 cases c with
 |arr c=>obtain⟨t,fr,h1⟩:=h;exact⟨t,fr,e.trans h1⟩
 |mapx es clock=>exact e.trans h
 |memo kt vt sc nk F=>obtain⟨es,clock,h1,h2⟩:=h;exact⟨es,clock,e.trans h1,h2⟩
theorem ubR.lt (h:ubR μ W) {b:Nat} {c:Cel}(hc:μ b=some c):b<W.heap.size:=(h b c hc).lt
theorem ubR.arr (h:ubR μ W) {b:Nat} {c:Array Value}(hc:μ b=some (.arr c)):∃t fr,W.heap[b]? =some (.cells c t fr):=h b _ hc
theorem uaz.mono {μ':Mem} {b:Nat}(h:uaz μ b)(hle:∀b c,μ b=some c→μ' b=some c):uaz μ' b:=by
 obtain⟨kt,vt,sc,nk,F,h⟩:=h
 exact⟨kt,vt,sc,nk,F,hle _ _ h⟩
theorem uaz.no {b:Nat}(h:uaz μ b)(hn:μ b=none):False:=by
 obtain⟨kt,vt,sc,nk,F,h⟩:=h
 rw [hn]at h;cases h
theorem uau (W:World)(o:Obj)(k:Nat)(h:k<W.heap.size):(W.alloc o).heap[k]? =W.heap[k]? :=by
 show(W.heap.push o)[k]? =_
 rw [Array.getElem?_push,if_neg (by omega)]
theorem uaV (W:World)(o:Obj):(W.alloc o).heap[W.heap.size]? =some o:=by
 show(W.heap.push o)[W.heap.size]? =_
 rw [Array.getElem?_push,if_pos rfl]
theorem uaX (W:World)(o:Obj):(W.alloc o).heap.size=W.heap.size+1:=by
 show(W.heap.push o).size=_
 simp
def Vl.setB (ν:Vl)(id b:Nat):Vl:=⟨fun k=>if k=id then some b else ν.b k,ν.r⟩
theorem ue0 {ν:Vl} {id b:Nat} {ids:List Nat}(h:id∉ids):uhm ids ν (ν.setB id b):=fun j hj=>
 ⟨by simp only [Vl.setB];rw [if_neg (by rintro rfl;exact h hj)],rfl⟩
theorem uec {H:Nat→Option Blk} {ids:List Nat} {nid:Nat}(hn:H nid=none)(hi:∀id∈ids,(H id).isSome=true):nid∉ids:=fun h=>by
 have:=hi nid h
 rw [hn]at this
 cases this
theorem ubE (l:List SV):(SV.agg l).ids=SV.idsL l:=by simp [SV.ids]
theorem uqQ (h:MSat W0 B0 H μ ν W) {nid:Nat}(hn:H nid=none) {l:List SV} {cs:Array Value} {ty:TypeId}(hr:Rel μ ν (.agg l) (.agg cs))(hi:∀id∈SV.idsL l,(H id).isSome=true):
 MSat W0 B0 (fun k=>if k=nid then some (.cells l ty)else H k) μ (ν.setB nid W.heap.size) (W.alloc (.cells cs ty)):=by
 have hfr:=h.frm
 have hlt:∀id b,id≠nid→(H id).isSome=true→(ν.setB nid W.heap.size).b id=some b→b<W.heap.size:=fun id b hne hs hb=>by
  simp only [Vl.setB]at hb
  rw [if_neg hne]at hb
  exact h.own.lt hs hb
 have hdom:∀id,((fun k=>if k=nid then some (Blk.cells l ty)else H k) id).isSome=true→id=nid∨(H id).isSome=true:=fun id hs=>by
  by_cases e:id=nid
  ·exact .inl e
  ·simp only [e,if_false]at hs;exact .inr hs
 refine⟨fun b c hc=> ?_,⟨fun id blk hb=> ?_,fun id id' b hs hs' hb hb'=> ?_,fun id b hs hb=> ?_,fun id b hs hb=> ?_⟩,⟨hfr.os,hfr.tape,hfr.output,by rw [uaX];have:=hfr.size;omega,fun b hb hB=> ?_⟩,fun i b hb id hid=> ?_⟩
 ·exact(h.mem b c hc).same (uau _ _ _ (h.mem b c hc).lt)
 ·by_cases e:id=nid
  ·subst e
   simp only [if_true,Option.some.injEq]at hb
   subst hb
   refine⟨W.heap.size,cs,by simp [Vl.setB],uaV W _,hr.mono (fun _ _ h=>h) _ (ue0 ?_)⟩
   rw [ubE]
   exact uec hn hi
  ·simp only [e,if_false]at hb
   refine(h.own.holds id blk hb).mono (fun _ _ h=>h) (ue0 ?_) (fun b hb'=>uau _ _ _ (h.own.lt (ua2 hb) hb'))
   intro hm
   rcases List.mem_cons.1 hm with hm|hm
   ·exact e hm.symm
   ·exact uec hn (h.wf id blk hb) hm
 ·by_cases e:id=nid<;>by_cases e':id'=nid
  ·rw [e,e']
  ·have h1:=hlt id' b e' ((hdom id' hs').resolve_left e') hb'
   subst e
   simp only [Vl.setB,if_true,Option.some.injEq]at hb
   omega
  ·have h1:=hlt id b e ((hdom id hs).resolve_left e) hb
   subst e'
   simp only [Vl.setB,if_true,Option.some.injEq]at hb'
   omega
  ·simp only [Vl.setB,e,e',if_false]at hb hb'
   exact h.own.inj id id' b ((hdom id hs).resolve_left e) ((hdom id' hs').resolve_left e') hb hb'
 ·by_cases e:id=nid
  ·subst e
   simp only [Vl.setB,if_true,Option.some.injEq]at hb
   subst hb
   cases hm:μ W.heap.size with
   |none=>rfl
   |some c=>have:=h.mem.lt hm;omega
  ·simp only [Vl.setB,e,if_false]at hb
   exact h.own.out id b ((hdom id hs).resolve_left e) hb
 ·by_cases e:id=nid
  ·subst e
   simp only [Vl.setB,if_true,Option.some.injEq]at hb
   subst hb
   exact .inl hfr.size
  ·simp only [Vl.setB,e,if_false]at hb
   exact h.own.place id b ((hdom id hs).resolve_left e) hb
 ·rw [uau _ _ _ (by have:=hfr.size;omega)]
  exact hfr.block b hb hB
 ·by_cases e:i=nid
  ·subst e
   simp only [if_true,Option.some.injEq]at hb
   subst hb
   have:=hi id hid
   by_cases e':id=i
   ·simp [e']
   ·simp only [e',if_false];exact this
  ·simp only [e,if_false]at hb
   have:=h.wf i b hb id hid
   by_cases e':id=nid
   ·simp [e']
   ·simp only [e',if_false];exact this
theorem udS (W:World)(b:Nat)(cs cs':Array Value)(ty:TypeId)(fr:Nat×Nat)(h:W.heap[b]? =some (.cells cs ty fr)):(W.setRow b cs').heap[b]? =some (.cells cs' ty fr):=setRow_heap W b cs cs' ty fr h
theorem ukt (h:MSat W0 B0 H μ ν W) {id0:Nat} {l l':List SV} {ty:TypeId}(hid:H id0=some (.cells l ty)) {b:Nat}(hb:ν.b id0=some b) {cs cs':Array Value}(hcs:W.heap[b]? =some (.cells cs ty (0,0)))
 (hr:Rel μ ν (.agg l') (.agg cs')) (hi:∀id∈SV.idsL l',(H id).isSome=true):
 MSat W0 B0 (fun k=>if k=id0 then some (.cells l' ty)else H k) μ ν (W.setRow b cs'):=by
 have hfr:=h.frm
 have hsz:(W.setRow b cs').heap.size=W.heap.size:=by simp [World.setRow]
 have hdom:∀id,((fun k=>if k=id0 then some (Blk.cells l' ty)else H k) id).isSome=(H id).isSome:=fun id=>by
  by_cases e:id=id0
  ·subst e;simp [hid]
  ·simp [e]
 have hoth:∀k,k≠b→(W.setRow b cs').heap[k]? =W.heap[k]? :=fun k hk=>setRow_other W b k cs' hk
 refine⟨fun b' c hc=> ?_,⟨fun id blk hblk=> ?_,fun id id' b' hs hs'=> ?_,fun id b' hs=> ?_,fun id b' hs=> ?_⟩,⟨hfr.os,hfr.tape,hfr.output,by rw [hsz];exact hfr.size,fun b' hb' hB=> ?_⟩,fun i blk hblk id hid'=> ?_⟩
 ·refine(h.mem b' c hc).same (hoth b' ?_)
  rintro rfl
  have:=h.own.out id0 b' (ua2 hid) hb
  rw [this]at hc
  cases hc
 ·by_cases e:id=id0
  ·subst e
   simp only [if_true,Option.some.injEq]at hblk
   subst hblk
   exact⟨b,cs',hb,udS W b cs cs' ty _ hcs,hr⟩
  ·simp only [e,if_false]at hblk
   refine(h.own.holds id blk hblk).mono (fun _ _ h=>h) (fun _ _=>⟨rfl,rfl⟩) (fun b' hb'=>hoth b' ?_)
   rintro rfl
   exact e (h.own.inj id id0 b' (ua2 hblk) (ua2 hid) hb' hb)
 ·rw [hdom]at hs hs'
  exact h.own.inj id id' b' hs hs'
 ·rw [hdom]at hs
  exact h.own.out id b' hs
 ·rw [hdom]at hs
  exact h.own.place id b' hs
 ·by_cases e:b'=b
  ·subst e
   rcases h.own.place id0 b' (ua2 hid) hb with h1|h1
   ·omega
   ·exact absurd h1 hB
  ·rw [hoth b' e]
   exact hfr.block b' hb' hB
 ·rw [hdom]
  by_cases e:i=id0
  ·subst e
   simp only [if_true,Option.some.injEq]at hblk
   subst hblk
   exact hi id hid'
  ·simp only [e,if_false]at hblk
   exact h.wf i blk hblk id hid'
end
theorem uk7 {W0:World} {B0:Nat→Prop} {H:Nat→Option Blk} {μ:Mem} {ν:Vl} {W:World}(h:MSat W0 B0 H μ ν W) {id0:Nat} {b0 blk:Blk}(hid:H id0=some b0) {b:Nat}(hb:ν.b id0=some b) {cs cs':Array Value} {ty:TypeId}(hcs:W.heap[b]? =some (.cells cs ty (0,0)))
 (hh:blk.Holds μ ν (W.setRow b cs') id0) (hi:∀id∈ua9 blk,(H id).isSome=true):
 MSat W0 B0 (fun k=>if k=id0 then some blk else H k) μ ν (W.setRow b cs'):=by
 have hfr:=h.frm
 have hsz:(W.setRow b cs').heap.size=W.heap.size:=by simp [World.setRow]
 have hdom:∀id,((fun k=>if k=id0 then some blk else H k) id).isSome=(H id).isSome:=fun id=>by
  by_cases e:id=id0
  ·subst e;simp [hid]
  ·simp [e]
 have hoth:∀k,k≠b→(W.setRow b cs').heap[k]? =W.heap[k]? :=fun k hk=>setRow_other W b k cs' hk
 refine⟨fun b' c hc=> ?_,⟨fun id blk1 hblk=> ?_,fun id id' b' hs hs'=> ?_,fun id b' hs=> ?_,fun id b' hs=> ?_⟩,⟨hfr.os,hfr.tape,hfr.output,by rw [hsz];exact hfr.size,fun b' hb' hB=> ?_⟩,fun i blk1 hblk id hid'=> ?_⟩
 ·refine(h.mem b' c hc).same (hoth b' ?_)
  rintro rfl
  have:=h.own.out id0 b' (ua2 hid) hb
  rw [this]at hc
  cases hc
 ·by_cases e:id=id0
  ·subst e
   simp only [if_true,Option.some.injEq]at hblk
   subst hblk
   exact hh
  ·simp only [e,if_false]at hblk
   refine(h.own.holds id blk1 hblk).mono (fun _ _ h=>h) (fun _ _=>⟨rfl,rfl⟩) (fun b' hb'=>hoth b' ?_)
   rintro rfl
   exact e (h.own.inj id id0 b' (ua2 hblk) (ua2 hid) hb' hb)
 ·rw [hdom]at hs hs'
  exact h.own.inj id id' b' hs hs'
 ·rw [hdom]at hs
  exact h.own.out id b' hs
 ·rw [hdom]at hs
  exact h.own.place id b' hs
 ·by_cases e:b'=b
  ·subst e
   rcases h.own.place id0 b' (ua2 hid) hb with h1|h1
   ·omega
   ·exact absurd h1 hB
  ·rw [hoth b' e]
   exact hfr.block b' hb' hB
 ·rw [hdom]
  by_cases e:i=id0
  ·subst e
   simp only [if_true,Option.some.injEq]at hblk
   subst hblk
   exact hi id hid'
  ·simp only [e,if_false]at hblk
   exact h.wf i blk1 hblk id hid'
section
variable {P:Program} {W0:World} {B0:Nat→Prop} {R0:Bor} {N:Nat} {D:List Deferred} {t:Sta} {μ:Mem} {ν:Vl} {a:Act} {W:World} {K:Upd→Prop}
theorem ub2 (H:Nat→Option Blk)(id:Nat)(b:Option Blk):uao (uaJ [] H) [(id,b)]=fun k=>if k=id then b else H k:=rfl
theorem uf3 (h:Sat W0 B0 R0 N D t μ ν a W) {nid:Nat}(hn:t.H nid=none) {l:List SV} {cs:Array Value} {ty:TypeId}(hr:Rel μ ν (.agg l) (.agg cs))(hi:∀id∈SV.idsL l,(t.H id).isSome=true)
 {s:SV} {v:Value} (hs:Rel μ (ν.setB nid W.heap.size) s v) (hsi:∀id∈s.ids,id=nid):
 UpdOk W0 B0 t ⟨s,[(nid,some (.cells l ty))],[]⟩ μ ν μ (ν.setB nid W.heap.size) v (W.alloc (.cells cs ty)):=by
 refine⟨hs,fun id hid=>by rw [ub2];simp [hsi id hid],fun s x hx hids=>⟨hx.mono (fun _ _ h=>h) _ (ue0 (uec hn hids)),fun id hid=> ?_⟩,uqQ h.ms hn hr hi,fun id blk hb=> ?_,MLe.refl _ _ _⟩
 rotate_left
 ·have hne:id≠nid:=fun e=>by rw [e,hn]at hb;cases hb
  exact⟨blk,by rw [ub2];simp only [hne,if_false];exact hb,rfl,fun _=>by simp [Vl.setB,hne]⟩
 rw [ub2]
 have:=hids id hid
 by_cases e:id=nid
 ·simp [e]
 ·simp only [e,if_false];exact this
theorem ugd (h:Sat W0 B0 R0 N D t μ ν a W) {c0:Cel} {o:Obj} {s:SV} {v:Value}
 (hs:∀μ2:Mem,μ2 W.heap.size=some c0→(∀b c,μ b=some c→μ2 b=some c)→Rel μ2 ν s v) (hsi:s.ids=[]) (hc0:ufH (W.alloc o) W.heap.size c0):
 UpdOk W0 B0 t ⟨s,[],[]⟩ μ ν (fun k=>if k=W.heap.size then some c0 else μ k) ν v (W.alloc o):=by
 have hfr:=h.ms.frm
 have hle:∀b c,μ b=some c→(fun k=>if k=W.heap.size then some c0 else μ k) b=some c:=fun b c hc=>by
  have:=(h.ms.mem b c hc).lt
  show(if b=W.heap.size then some c0 else μ b)=some c
  rw [if_neg (by omega)];exact hc
 have hms:MSat W0 B0 t.H (fun k=>if k=W.heap.size then some c0 else μ k) ν (W.alloc o):=by
  refine⟨fun b c hc=> ?_,⟨fun id blk hb=> ?_,fun id id' b hs hs' hb hb'=>h.ms.own.inj id id' b hs hs' hb hb',fun id b hs hb=> ?_,fun id b hs hb=> ?_⟩,⟨hfr.os,hfr.tape,hfr.output,by rw [uaX];have:=hfr.size;omega,fun b hb hB=> ?_⟩,fun i b hb id hid=>h.ms.wf i b hb id hid⟩
  ·by_cases e:b=W.heap.size
   ·subst e
    simp only [if_true,Option.some.injEq]at hc
    subst hc
    exact hc0
   ·simp only [e,if_false]at hc
    exact(h.ms.mem b c hc).same (uau _ _ _ (h.ms.mem b c hc).lt)
  ·exact(h.ms.own.holds id blk hb).mono hle (fun _ _=>⟨rfl,rfl⟩) (fun b hb'=>uau _ _ _ (h.ms.own.lt (ua2 hb) hb'))
  ·have:=h.ms.own.lt hs hb
   show(if b=W.heap.size then some c0 else μ b)=none
   rw [if_neg (by omega)];exact h.ms.own.out id b hs hb
  ·exact h.ms.own.place id b hs hb
  ·have:=hfr.size
   rw [uau _ _ _ (by omega)];exact hfr.block b hb hB
 refine⟨hs _ (by simp) hle,fun id hid=>(by rw [show(⟨s,[],[]⟩:Upd).val=s from rfl,hsi]at hid;cases hid),fun s x hx hids=>⟨hx.mono hle _ (fun _ _=>⟨rfl,rfl⟩),hids⟩,hms,fun id blk hb=>⟨blk,hb,rfl,fun _=>rfl⟩,⟨hle,fun b c hc=> ?_⟩⟩
 by_cases e:b=W.heap.size
 ·have:=hfr.size
  right;left;omega
 ·left
  simpa only [e,if_false]using hc
theorem um9 (h:Sat W0 B0 R0 N D t μ ν a W) {cs:Array Value} {ty:TypeId} {s:SV} {v:Value}
 (hs:∀μ2:Mem,μ2 W.heap.size=some (.arr cs)→(∀b c,μ b=some c→μ2 b=some c)→Rel μ2 ν s v) (hsi:s.ids=[]):
 UpdOk W0 B0 t ⟨s,[],[]⟩ μ ν (fun k=>if k=W.heap.size then some (.arr cs)else μ k) ν v (W.alloc (.cells cs ty)):=
 ugd h hs hsi ⟨_,_,uaV W _⟩
theorem uiI (h:Sat W0 B0 R0 N D t μ ν a W) {id0:Nat} {b0 blk:Blk}(hid:t.H id0=some b0)(hrow:blk.isRow=b0.isRow) {b:Nat}(hb:ν.b id0=some b) {cs cs':Array Value} {ty:TypeId}(hcs:W.heap[b]? =some (.cells cs ty (0,0)))
 (hh:blk.Holds μ ν (W.setRow b cs') id0) (hi:∀id∈ua9 blk,(t.H id).isSome=true) {s:SV} {v:Value} (hs:Rel μ ν s v) (hsi:s.ids=[]):
 UpdOk W0 B0 t ⟨s,[(id0,some blk)],[]⟩ μ ν μ ν v (W.setRow b cs'):=by
 have hdom:∀id,(t.H id).isSome=true→((fun k=>if k=id0 then some blk else t.H k) id).isSome=true:=fun id hs=>by
  by_cases e:id=id0
  ·simp [e]
  ·simp only [e,if_false];exact hs
 exact⟨hs,fun id hid=>(by rw [hsi]at hid;cases hid),fun s x hx hids=>⟨hx,fun id hid=>by rw [ub2];exact hdom id (hids id hid)⟩,uk7 h.ms hid hb hcs hh hi,fun id blk1 hblk=>by
  rw [ub2]
  by_cases e:id=id0
  ·subst e
   rw [hid]at hblk
   cases hblk
   exact⟨_,if_pos rfl,hrow,fun _=>rfl⟩
  ·exact⟨blk1,by simp only [e,if_false];exact hblk,rfl,fun _=>rfl⟩,MLe.refl _ _ _⟩
theorem ueO (h:Sat W0 B0 R0 N D t μ ν a W) {id0:Nat} {l l':List SV} {ty:TypeId}(hid:t.H id0=some (.cells l ty)) {b:Nat}(hb:ν.b id0=some b) {cs cs':Array Value}(hcs:W.heap[b]? =some (.cells cs ty (0,0)))
 (hr:Rel μ ν (.agg l') (.agg cs')) (hi:∀id∈SV.idsL l',(t.H id).isSome=true) {s:SV} {v:Value} (hs:Rel μ ν s v) (hsi:s.ids=[]):
 UpdOk W0 B0 t ⟨s,[(id0,some (.cells l' ty))],[]⟩ μ ν μ ν v (W.setRow b cs'):=by
 have hdom:∀id,(t.H id).isSome=true→((fun k=>if k=id0 then some (Blk.cells l' ty)else t.H k) id).isSome=true:=fun id hs=>by
  by_cases e:id=id0
  ·simp [e]
  ·simp only [e,if_false];exact hs
 exact⟨hs,fun id hid=>(by rw [hsi]at hid;cases hid),fun s x hx hids=>⟨hx,fun id hid=>by rw [ub2];exact hdom id (hids id hid)⟩,ukt h.ms hid hb hcs hr hi,fun id blk hblk=>by
  rw [ub2]
  by_cases e:id=id0
  ·subst e
   rw [hid]at hblk
   cases hblk
   exact⟨_,if_pos rfl,rfl,fun _=>rfl⟩
  ·exact⟨blk,by simp only [e,if_false];exact hblk,rfl,fun _=>rfl⟩,MLe.refl _ _ _⟩
end
end Go.Eng

namespace Go.Eng
open Go
section
variable {P:Program} {T:uar} {W0:World} {B0:Nat→Prop} {R0:Bor} {N:Nat} {D:List Deferred} {t:Sta} {μ:Mem} {ν:Vl} {a:Act} {W:World} {K:Upd→Prop}
variable {nid:Nat} {gH:Nat→Option Blk} {ord:Bool} {dst:Option Tmp} {ty:TypeId} {pos:String} {aft:Array Edge} {gd:Option (Nat×Bool)}
theorem ub5 (h:Sat W0 B0 R0 N D t μ ν a W) {v:Value} {W':World} {r:Result Next}(hr:r = .ok (.value v) W') {u:Upd}(hK:K u) {μ':Mem} {ν':Vl}(hu:UpdOk W0 B0 t u μ ν μ' ν' v W'):ubt P W0 B0 t μ ν K r:=by
 rw [hr];exact⟨u,μ',ν',hK,hu⟩
theorem uda (h:Sat W0 B0 R0 N D t μ ν a W) {W':World} {r:Result Next}(hr:r = .ok .skip W') {u:Upd}(hK:K u) {μ':Mem} {ν':Vl}(hu:UpdOk W0 B0 t u μ ν μ' ν' undef W'):ubt P W0 B0 t μ ν K r:=by
 rw [hr];exact⟨u,μ',ν',hK,hu⟩
theorem uvc (h:Sat W0 B0 R0 N D t μ ν a W)(x:Operand)(hK:K (ua5 (ev t.E x))):ubt P W0 B0 t μ ν K ((execOp a.eval ⟨dst,.move x,ty,pos,aft,gd⟩).run P W):=
 ua4 h rfl hK (uad h x) (ubI h x)
theorem uq0 (h:Sat W0 B0 R0 N D t μ ν a W)(x:Operand)(hK:K (ua5 (ev t.E x))):ubt P W0 B0 t μ ν K ((execOp a.eval ⟨dst,.assign x,ty,pos,aft,gd⟩).run P W):=
 ua4 h rfl hK (uad h x) (ubI h x)
theorem uc6 (h:Sat W0 B0 R0 N D t μ ν a W) {x:Operand} {b:BX}(hx:ev t.E x = .bool b):a.eval x = .bool b.den:=by
 have:=uad h x
 rw [hx]at this
 exact ubm this
theorem uae (h:Sat W0 B0 R0 N D t μ ν a W) {x:Operand} {k:IntKind} {b:IX}(hx:ev t.E x = .int k b):a.eval x = .int k b.den:=by
 have:=uad h x
 rw [hx]at this
 exact udg this
theorem uuJ (h:Sat W0 B0 R0 N D t μ ν a W)(c x y:Operand)(hK:opT T P ⟨dst,.pick c x y,ty,pos,aft,gd⟩ nid t.E gH ord K):
 ubt P W0 B0 t μ ν K ((execOp a.eval ⟨dst,.pick c x y,ty,pos,aft,gd⟩).run P W):=by
 simp only [opT]at hK
 have key:∀b:BX,ev t.E c = .bool b→(execOp a.eval ⟨dst,.pick c x y,ty,pos,aft,gd⟩).run P W = .ok (.value (if b.den then a.eval x else a.eval y)) W:=fun b hb=>by
  simp only [execOp,uc6 h hb,asBool]
  rfl
 split at hK
 ·rename_i hc
  exact ua4 h (key _ hc) hK (uad h x) (ubI h x)
 ·rename_i hc
  exact ua4 h (key _ hc) hK (uad h y) (ubI h y)
 ·rename_i f hc
  cases hf:f ()with
  |true=>exact ua4 h (by rw [key _ hc];simp only [BX.den,hf,if_true]) (hK.1 hf) (uad h x) (ubI h x)
  |false=>exact ua4 h (by rw [key _ hc];simp only [BX.den,hf,if_false,Bool.false_eq_true]) (hK.2 hf) (uad h y) (ubI h y)
 ·exact hK.elim
theorem ugZ (P:Program)(W:World)(e:TypeId)(v:Value):(newVar e v).run P W = .ok ⟨W.heap.size,0,none⟩ (W.alloc (.cells v.cells e)):=rfl
theorem us1 (hT:uc5 P T)(h:Sat W0 B0 R0 N D t μ ν a W)(hn:t.H nid=none)(e:TypeId)(hK:opT T P ⟨dst,.alloc e,ty,pos,aft,gd⟩ nid t.E gH ord K):
 ubt P W0 B0 t μ ν K ((execOp a.eval ⟨dst,.alloc e,ty,pos,aft,gd⟩).run P W):=by
 simp only [opT]at hK
 cases hte:T e with
 |none=>rw [hte]at hK;exact hK.elim
 | some ti=>
  rw [hte]at hK
  have ht:=hT e ti hte
  have hrun:(execOp a.eval ⟨dst,.alloc e,ty,pos,aft,gd⟩).run P W = .ok (.value (.pointer (some ⟨W.heap.size,0,none⟩))) (W.alloc (.cells ⟨zvs ti.zero⟩ e)):=by
   simp only [execOp,Instr.alloc,Sem.run_bind,ht.run_zero,Result.andThen_ok,ugZ,Sem.run_pure,ubB ht]
  refine ub5 h hrun hK (uf3 h hn (usf μ ν ti.zero) (by rw [ugh];simp) (.own _ _ _ _ (by simp [Vl.setB])) (by simp [SV.ids]))
theorem ufq {s:SV} {v:Value}(h:Rel μ ν s v)(hs:udB s=true)(ha:∀l,s≠ .agg l):v.oneCell'=true:=by
 cases h<;>first|rfl|assumption|(simp [udB]at hs;done)|exact absurd rfl (ha _)|skip
 all_goals first|rfl|(simp [Value.oneCell'];done)
theorem uds (s:SV):SV.idsL (cellsOf s)=s.ids:=by
 cases s<;>simp [cellsOf,SV.idsL,SV.ids]
theorem uac {a b:Nat}(h:Nat.beq a b=true):a=b:=Nat.eq_of_beq_eq_true h
theorem ueN (h:Sat W0 B0 R0 N D t μ ν a W)(x:Operand) {n:Nat}(hl:Nat.beq (udH (cellsOf (ev t.E x))) n=true)(hs:udB (ev t.E x)=true):
 Rel μ ν (.agg (cellsOf (ev t.E x))) (.agg (a.eval x).cells)∧(a.eval x).cells.size=n:=
 ukl (uad h x) (uac hl) (fun ha=>ufq (uad h x) hs ha)
theorem uwv (hT:uc5 P T)(h:Sat W0 B0 R0 N D t μ ν a W)(hn:t.H nid=none)(e:TypeId)(x:Operand)(hK:opT T P ⟨dst,.box e x,ty,pos,aft,gd⟩ nid t.E gH ord K):
 ubt P W0 B0 t μ ν K ((execOp a.eval ⟨dst,.box e x,ty,pos,aft,gd⟩).run P W):=by
 simp only [opT]at hK
 cases hte:T e with
 |none=>rw [hte]at hK;exact hK.elim
 | some ti=>
  rw [hte]at hK
  simp only at hK
  split at hK
  ·rename_i h1 h2
   obtain⟨r1,r2⟩:=ueN h x h1 h2
   have hrun:(execOp a.eval ⟨dst,.box e x,ty,pos,aft,gd⟩).run P W = .ok (.value (.pointer (some ⟨W.heap.size,0,none⟩))) (W.alloc (.cells (a.eval x).cells e)):=by
    simp only [execOp,Instr.box,Sem.run_bind,Result.andThen_ok,ugZ,Sem.run_pure]
   exact ub5 h hrun hK (uf3 h hn r1 (by rw [uds];exact ubI h x) (.own _ _ _ _ (by simp [Vl.setB])) (by simp [SV.ids]))
  ·exact hK.elim
theorem uoD (cs:List Value)(o:Nat)(vs:List Value)(h:o+vs.length≤cs.length):
 (vs.toArray.zipIdx.foldl (fun (cs:Array Value) (p:Value×Nat)=>cs.setIfInBounds (o+p.2) p.1) cs.toArray)=(cs.take o++(vs++cs.drop (o+vs.length))).toArray:=by
 have key:∀(vs:List Value) (k:Nat) (cs:Array Value),o+k+vs.length≤cs.size→∀j,
  ((vs.zipIdx k).foldl (fun (cs:Array Value) (p:Value×Nat)=>cs.setIfInBounds (o+p.2) p.1) cs)[j]? =if o+k≤j∧j<o+k+vs.length then vs[j-(o+k)]? else cs[j]? :=by
  intro vs
  induction vs with
  |nil=>intro k cs _ j;simp;omega
  | cons v vs ih=>
   intro k cs hk j
   simp only [List.zipIdx_cons,List.foldl_cons,List.length_cons]at hk⊢
   rw [ih (k+1) _ (by simp;omega)]
   by_cases h1:j=o+k
   ·subst h1
    rw [if_neg (by omega),if_pos (by omega)]
    have hlt:o+k<cs.size:=by omega
    simp [hlt]
   ·by_cases h2:o+(k+1)≤j∧j<o+(k+1)+vs.length
    ·rw [if_pos h2,if_pos (by omega)]
     rw [show j-(o+k)=(j-(o+(k+1)))+1 by omega]
     simp
    ·rw [if_neg h2,if_neg (by omega)]
     rw [Array.getElem?_setIfInBounds_ne (by omega)]
 have hk:=key vs 0 cs.toArray (by simpa using h)
 simp only [Nat.add_zero]at hk
 apply Array.ext_getElem?
 intro j
 rw [show(vs.toArray.zipIdx.foldl (fun (cs:Array Value) (p:Value×Nat)=>cs.setIfInBounds (o+p.2) p.1) cs.toArray)=(vs.zipIdx.foldl (fun (cs:Array Value) (p:Value×Nat)=>cs.setIfInBounds (o+p.2) p.1) cs.toArray) by simp [←Array.foldl_toList]]
 rw [hk j]
 simp only [List.getElem?_toArray,List.getElem?_append,List.length_take]
 have e1:min o cs.length=o:=by omega
 rw [e1]
 by_cases h1:j<o
 ·rw [if_neg (by omega),if_pos h1,List.getElem?_take,if_pos h1]
 ·rw [if_neg h1]
  by_cases h2:j<o+vs.length
  ·rw [if_pos (by omega),if_pos (by omega)]
  ·rw [if_neg (by omega),if_neg (by omega),List.getElem?_drop]
   congr 1;omega
theorem uf6 (h:Sat W0 B0 R0 N D t μ ν a W)(place:Nat→Option (Nat×Nat))(place':Nat→Option (Nat×Nat))(hp:∀j o m,place j=some (o,m)→place' j=some (o,m)):
 ∀ (ps:List (Nat×Operand)) (l l':List SV) (cs:List Value),ubp μ ν l cs→(∀id∈SV.idsL l,(t.H id).isSome=true)→ugG place l (uit t.E ps)=some l' →
  ∃cs',Instr.fill place' ⟨cs⟩ (ps.map fun p=>(p.1,a.eval p.2))=some ⟨cs'⟩∧ubp μ ν l' cs'∧∀id∈SV.idsL l',(t.H id).isSome=true:=by
 intro ps
 induction ps with
 | nil=>
  intro l l' cs hr hi hf
  simp only [uit,ugG,Option.some.injEq]at hf
  subst hf
  exact⟨cs,rfl,hr,hi⟩
 | cons p ps ih=>
  intro l l' cs hr hi hf
  obtain⟨j,x⟩:=p
  simp only [uit,ugG]at hf
  cases hpl:place j with
  |none=>rw [hpl]at hf;cases hf
  | some om=>
   obtain⟨o,m⟩:=om
   rw [hpl]at hf
   simp only at hf
   split at hf
   ·rename_i h1 h2
    obtain⟨r1,r2⟩:=ueN h x h1 h2
    cases hput:ui6 l o (cellsOf (ev t.E x))with
    |none=>rw [hput]at hf;cases hf
    | some l1=>
     rw [hput]at hf
     have r1':ubp μ ν (cellsOf (ev t.E x)) (a.eval x).cells.toList:=r1
     obtain⟨q1,q2⟩:=ucS hr r1' hput
     have hids:∀id∈SV.idsL l1,(t.H id).isSome=true:=fun id hid=>(uea hput id hid).elim (hi id) (fun q=>ubI h x id (by rw [uds]at q;exact q))
     obtain⟨cs',f1,f2,f3⟩:=ih l1 l' _ q1 hids hf
     refine⟨cs',?_,f2,f3⟩
     simp only [List.map_cons,Instr.fill,hp j o m hpl,r2,ne_eq,not_true_eq_false,decide_false,Bool.false_or]
     have hlen:o+(a.eval x).cells.toList.length≤cs.length:=q2
     have hsz:¬(o+m>(⟨cs⟩:Array Value).size):=by
      have:(a.eval x).cells.toList.length=m:=by simpa using r2
      show ¬(o+m>cs.length)
      omega
     have hfold:=uoD cs o (a.eval x).cells.toList hlen
     rw [Array.toArray_toList]at hfold
     rw [←f1]
     simp only [decide_eq_true_eq]
     refine(if_neg hsz).trans ?_
     exact congrArg (fun z=>Instr.fill place' z (ps.map fun p=>(p.1,a.eval p.2))) hfold
   ·cases hf
end
end Go.Eng

namespace Go.Eng
open Go
section
variable {P:Program} {T:uar} {W0:World} {B0:Nat→Prop} {R0:Bor} {N:Nat} {D:List Deferred} {t:Sta} {μ:Mem} {ν:Vl} {a:Act} {W:World} {K:Upd→Prop}
variable {nid:Nat} {gH:Nat→Option Blk} {ord:Bool} {dst:Option Tmp} {ty:TypeId} {pos:String} {aft:Array Edge} {gd:Option (Nat×Bool)}
theorem umc (W:World)(fields:List Field)(hs:∀f∈fields,∃i,P.info? f.type=some i):
 ∃ pl:List (Nat×Nat),(fields.mapM (m:=Sem) fun (f:Field)=>do pure (f.offset,←sizeOf f.type)).run P W = .ok pl W ∧
  ∀(j:Nat) (f:Field),fields[j]? =some f→∃i,P.info? f.type=some i∧pl[j]? =some (f.offset,i.size):=by
 induction fields with
 |nil=>exact⟨[],rfl,fun j f h=>by simp at h⟩
 | cons f fields ih=>
  obtain⟨pl,h1,h2⟩:=ih fun f hf=>hs f (List.mem_cons_of_mem _ hf)
  obtain⟨i,hi⟩:=hs f (by simp)
  refine⟨(f.offset,i.size)::pl,?_,fun j g hg=> ?_⟩
  ·rw [List.mapM_cons]
   simp only [Sem.run_bind,sizeOf,typeInfo,run_program,Result.andThen_ok,hi,Sem.run_pure]
   simp only [sizeOf,typeInfo,Sem.run_bind,run_program,Result.andThen_ok]at h1
   rw [h1]
   rfl
  ·cases j with
   |zero=>simp only [List.getElem?_cons_zero,Option.some.injEq]at hg;subst hg;exact⟨i,hi,rfl⟩
   |succ j=>simpa using h2 j g (by simpa using hg)
theorem uhc {α:Type}(l:List α)(j:Nat):nth l j=l[j]? :=by
 induction l generalizing j with
 |nil=>simp [nth]
 |cons x l ih=>cases j<;>simp [nth,ih]
theorem utg (hT:uc5 P T)(h:Sat W0 B0 R0 N D t μ ν a W)(e:TypeId)(ps:Array (Nat×Operand))(hK:opT T P ⟨dst,.build e ps,ty,pos,aft,gd⟩ nid t.E gH ord K):
 ubt P W0 B0 t μ ν K ((execOp a.eval ⟨dst,.build e ps,ty,pos,aft,gd⟩).run P W):=by
 simp only [opT]at hK
 cases hte:T e with
 |none=>rw [hte]at hK;exact hK.elim
 | some ti =>
  rw [hte]at hK
  simp only at hK
  have ht:=hT e ti hte
  have hd:=ht.desc
  have hmap:(ps.map fun (i,x)=>(i,a.eval x)).toList=ps.toList.map fun p=>(p.1,a.eval p.2):=by simp
  cases hk:ti.k with
  | str fs=>
   rw [hk]at hK hd
   simp only at hK hd
   obtain⟨fields,hu,hfs,hsz⟩:=hd
   cases hfl:ugG (ukV T fs) (zsv ti.zero) (uit t.E ps.toList)with
   |none=>rw [hfl]at hK;exact hK.elim
   | some l=>
    rw [hfl]at hK
    simp only at hK
    obtain⟨pl,hpl,hpl2⟩:=umc (P:=P) W fields.toList (fun f hf=>let ⟨i,hi,_⟩:=hsz f hf;⟨i,hi⟩)
    have hag:ti.isAgg=true:=by simp [TI.isAgg,hk]
    have hplace:∀j o m,ukV T fs j=some (o,m)→(fun j=>(⟨pl⟩:Array (Nat×Nat))[j]?) j=some (o,m):=by
     intro j o m hj
     unfold ukV at hj
     rw [uhc,←hfs,List.getElem?_map]at hj
     cases hf:fields.toList[j]? with
     |none=>rw [hf]at hj;simp at hj
     | some f=>
      rw [hf]at hj
      simp only [Option.map_some]at hj
      obtain⟨i',hi',hp⟩:=hpl2 j f hf
      cases hft:T f.type with
      |none=>rw [hft]at hj;cases hj
      | some tf=>
       rw [hft]at hj
       simp only [Option.some.injEq,Prod.mk.injEq]at hj
       obtain⟨rfl,rfl⟩:=hj
       obtain⟨i,hi,hs,_⟩:=(hT f.type tf hft).info
       rw [hi]at hi';cases hi'
       rw [hs]at hp
       simpa using hp
    obtain⟨cs',f1,f2,f3⟩:=uf6 h _ _ hplace ps.toList _ _ _ (usf μ ν ti.zero) (by rw [ugh];simp) hfl
    have hrun:(execOp a.eval ⟨dst,.build e ps,ty,pos,aft,gd⟩).run P W = .ok (.value (.agg ⟨cs'⟩)) W:=by
     simp only [execOp,Instr.build,Sem.run_bind,ht.run_zero,Result.andThen_ok,run_underlying hu,ubB ht]
     rw [Array.mapM_eq_mapM_toList]
     simp only [Sem.run_map,hpl,Result.andThen_ok,hmap]
     rw [show(fun x=>(⟨pl⟩:Array (Nat×Nat))[x]?)=(fun j=>(⟨pl⟩:Array (Nat×Nat))[j]?)from rfl,f1]
     rfl
    exact ua4 h hrun hK f2 (by rw [ubE];exact f3)
  | arr n e'=>
   rw [hk]at hK hd
   simp only at hK hd
   cases hte':T e' with
   |none=>rw [hte']at hK;exact hK.elim
   | some te=>
    rw [hte']at hK
    simp only at hK
    have ht':=hT e' te hte'
    cases hfl:ugG (fun j=>some (j*te.size,te.size)) (zsv ti.zero) (uit t.E ps.toList)with
    |none=>rw [hfl]at hK;exact hK.elim
    | some l=>
     rw [hfl]at hK
     simp only at hK
     obtain⟨cs',f1,f2,f3⟩:=uf6 h _ (fun i=>some (i*te.size,te.size)) (fun _ _ _ h=>h) ps.toList _ _ _ (usf μ ν ti.zero) (by rw [ugh];simp) hfl
     have hrun:(execOp a.eval ⟨dst,.build e ps,ty,pos,aft,gd⟩).run P W = .ok (.value (.agg ⟨cs'⟩)) W:=by
      simp only [execOp,Instr.build,Sem.run_bind,ht.run_zero,Result.andThen_ok,run_underlying hd,ubB ht,ht'.run_sizeOf,hmap,f1]
      rfl
     exact ua4 h hrun hK f2 (by rw [ubE];exact f3)
  |int=>rw [hk]at hK;exact hK.elim
  |bool=>rw [hk]at hK;exact hK.elim
  |one=>rw [hk]at hK;exact hK.elim
  |sli=>rw [hk]at hK;exact hK.elim
end
end Go.Eng

namespace Go.Eng
open Go
def uhu (z:List Value):Nat→List Value
 |0=>[]
 |n+1=>z++uhu z n
theorem ue1 (z:List Value)(n:Nat):(uhu z n).length=n*z.length:=by
 induction n with
 |zero=>simp [uhu]
 |succ n ih=>simp [uhu,ih,Nat.add_mul];omega
theorem uqT (z:List Value)(hz:0<z.length)(n:Nat):∀j,j<n*z.length→(uhu z n)[j]? =z[j%z.length]? :=by
 induction n with
 |zero=>intro j hj;simp at hj
 | succ n ih=>
  intro j hj
  simp only [uhu]
  by_cases h:j<z.length
  ·rw [List.getElem?_append_left h,Nat.mod_eq_of_lt h]
  ·rw [Nat.add_mul,Nat.one_mul]at hj
   rw [List.getElem?_append_right (by omega),ih (j-z.length) (by omega),Nat.mod_eq_sub_mod (a:=j) (by omega)]
theorem uqS {z:List Value} {sz:Nat}(hl:z.length=sz):∀{n k:Nat},k<n→((uhu z n).drop (k*sz)).take sz=z:=by
 intro n
 induction n with
 |zero=>intro k h;omega
 | succ n ih=>
  intro k h
  simp only [uhu]
  cases k with
  |zero=>rw [Nat.zero_mul,List.drop_zero,←hl,List.take_left]
  | succ k=>
   rw [Nat.add_mul,Nat.one_mul,Nat.add_comm,←List.drop_drop,←hl,List.drop_left,hl]
   exact ih (by omega)
theorem ue8 (z:List Value)(hz:0<z.length)(n:Nat):(Array.range (n*z.length)).map ((⟨z⟩:Array Value)[· %z.length]!)=⟨uhu z n⟩:=by
 apply Array.ext_getElem?
 intro j
 rw [Array.getElem?_map,Array.getElem?_range]
 by_cases hj:j<n*z.length
 ·rw [if_pos hj]
  have h1:=uqT z hz n j hj
  have hm:j%z.length<z.length:=Nat.mod_lt _ hz
  simp only [Option.map_some,List.getElem?_toArray]
  rw [h1,List.getElem?_eq_getElem hm]
  simp [hm]
 ·rw [if_neg hj]
  simp only [Option.map_none,List.getElem?_toArray]
  exact(List.getElem?_eq_none (by rw [ue1];omega)).symm
theorem uhy (μ:Mem)(ν:Vl)(z:List ZC)(n:Nat):ubp μ ν (urd (zsv z) n) (uhu (zvs z) n):=by
 induction n with
 |zero=>exact .nil ν
 |succ n ih=>exact udo (usf μ ν z) ih
theorem uhI (z:List ZC)(n:Nat):SV.idsL (urd (zsv z) n)=[]:=by
 induction n with
 |zero=>rfl
 |succ n ih=>simp only [urd,uep,ih,ugh,List.append_nil]
section
variable {P:Program} {T:uar} {W0:World} {B0:Nat→Prop} {R0:Bor} {N:Nat} {D:List Deferred} {t:Sta} {μ:Mem} {ν:Vl} {a:Act} {W:World} {K:Upd→Prop}
variable {nid:Nat} {gH:Nat→Option Blk} {ord:Bool} {dst:Option Tmp} {ty:TypeId} {pos:String} {aft:Array Edge} {gd:Option (Nat×Bool)}
theorem ubV {e:TypeId} {ti:TI}(hT:TyOk1 P e ti)(h:Sat W0 B0 R0 N D t μ ν a W) {l:List SV} {cs:List Value} {ν1:Vl}(hν:ν1=ν∨ν1=Vl.nil)(hr:ubp μ ν1 l cs)(hi:ν1=ν→∀id∈SV.idsL l,(t.H id).isSome=true)
 {o:Nat} (hK:ucG ti l o K) {r:Result Next} (hrun:o+ti.size≤cs.length→r = .ok (.value (uiF ti cs o)) W):
 ubt P W0 B0 t μ ν K r:=by
 unfold ucG at hK
 unfold uiF at hrun
 have lift:∀{s:SV} {v:Value},Rel μ ν1 s v→Rel μ ν s v:=fun hs=>by
  rcases hν with e|e
  ·rw [←e];exact hs
  ·exact hs.closed e ν
 cases ha:ti.isAgg with
 | true=>
  rw [ha]at hK hrun
  simp only at hK hrun
  cases hs:ubn l o ti.size with
  |none=>rw [hs]at hK;exact hK.elim
  | some c=>
   rw [hs]at hK
   obtain⟨r1,r2⟩:=ubb hr hs
   refine ua4 h (hrun r2) hK (lift r1) (fun id hid=> ?_)
   rw [ubE]at hid
   rcases hν with e|e
   ·exact hi e id (uh4 hs id hid)
   ·have:=Rel.no_ids r1 e
    rw [ubE]at this
    rw [this]at hid;cases hid
 | false=>
  rw [ha]at hK hrun
  simp only at hK hrun
  have h1:=hT.one ha
  cases hs:udb l o with
  |none=>rw [hs]at hK;exact hK.elim
  | some s=>
   rw [hs]at hK
   obtain⟨c,r1,r2,r3⟩:=uge hr hs
   have hlt:o<cs.length:=(List.getElem?_eq_some_iff.1 r1).1
   have hc:cs.getD o undef=c:=by rw [List.getD_eq_getElem?_getD,r1];rfl
   rw [hc]at hrun
   refine ua4 h (hrun (by omega)) hK (lift r2) (fun id hid=> ?_)
   rcases hν with e|e
   ·rcases uji hr hs with q|⟨v,q⟩
    ·exact hi e id (q id hid)
    ·rw [Rel.no_ids q rfl]at hid;cases hid
   ·rw [Rel.no_ids r2 e]at hid;cases hid
theorem ucs (h:Sat W0 B0 R0 N D t μ ν a W)(hv:∀id b,gH id=some b→t.H id=some b) {id:Nat} {l:List SV} {e:TypeId}(hid:gH id=some (.cells l e)):
 ∃b cs,ν.b id=some b∧W.heap[b]? =some (.cells cs e (0,0))∧ubp μ ν l cs.toList∧∀j∈SV.idsL l,(t.H j).isSome=true:=by
 have h1:=hv _ _ hid
 obtain⟨b,cs,r1,r2,r3⟩:=h.ms.own.holds _ _ h1
 exact⟨b,cs,r1,r2,r3,fun j hj=>h.ms.wf _ _ h1 j hj⟩
theorem ucn {e:TypeId} {ti:TI}(ht:TyOk1 P e ti) {x:Operand} {b o:Nat}(hx:a.eval x = .pointer (some ⟨b,o,none⟩)) {cs:Array Value} {e':TypeId} {fr:Nat×Nat}(hb:W.heap[b]? =some (.cells cs e' fr))(hl:o+ti.size≤cs.size):
 (execOp a.eval ⟨dst,.load e x,ty,pos,aft,gd⟩).run P W = .ok (.value (uiF ti cs.toList o)) W:=by
 simp only [execOp,hx,Sem.run_bind,udC ht W b o cs e' fr hb hl,Result.andThen_ok,Sem.run_pure]
theorem uhw {ti:TI}(h1:ti.isAgg=false→ti.size=1)(cs:Array Value)(o m off:Nat)(hl:off+ti.size≤m)(hm:o+m≤cs.size):uiF ti (cs.extract o (o+m)).toList off=uiF ti cs.toList (o+off):=by
 unfold uiF
 cases ha:ti.isAgg with
 | true=>
  simp only [Array.toList_extract,List.extract_eq_take_drop]
  congr 2
  rw [List.drop_take,List.take_take,List.drop_drop]
  congr 1
  omega
 | false=>
  have:=h1 ha
  simp only [List.getD_eq_getElem?_getD,Array.getElem?_toList,Array.getElem?_extract]
  rw [if_pos (by omega)]
theorem utO (hT:uc5 P T)(h:Sat W0 B0 R0 N D t μ ν a W)(hv:∀id b,gH id=some b→t.H id=some b)(e:TypeId)(x:Operand)(hK:opT T P ⟨dst,.load e x,ty,pos,aft,gd⟩ nid t.E gH ord K):
 ubt P W0 B0 t μ ν K ((execOp a.eval ⟨dst,.load e x,ty,pos,aft,gd⟩).run P W):=by
 simp only [opT]at hK
 cases hte:T e with
 |none=>rw [hte]at hK;exact hK.elim
 | some ti =>
  rw [hte]at hK
  simp only at hK
  have ht:=hT e ti hte
  have hrel:=uad h x
  split at hK
  ·rename_i id off hx
   rw [hx]at hrel
   obtain⟨b,hb,hval⟩:=udp hrel
   split at hK
   ·rename_i l e' hid
    obtain⟨b',cs,r1,r2,r3,r4⟩:=ucs h hv hid
    rw [hb]at r1;cases r1
    refine ubV ht h (.inl rfl) r3 (fun _=>r4) hK (fun hl=> ?_)
    rw [ucn ht hval r2 (by simpa using hl)]
   ·exact hK.elim
  ·rename_i id off sz n ix o2 hx
   rw [hx]at hrel
   obtain⟨b,hb,hx0,hx1,hval⟩:=ugi hrel
   split at hK
   ·rename_i l e' hid hag
    obtain⟨b',cs,r1,r2,r3,r4⟩:=ucs h hv hid
    rw [hb]at r1;cases r1
    split at hK
    ·rename_i m f hseg
     split at hK
     ·rename_i h1 h2
      obtain⟨q1,q2⟩:=ueC r3 hseg
      have hle:=ub9 h1
      have hlt:o2<sz:=ub1 h2
      have hix:ix.den.toNat*sz+o2<n*sz:=by
       have:ix.den.toNat<n:=by omega
       calc ix.den.toNat*sz+o2<ix.den.toNat*sz+sz:=by omega
        _=(ix.den.toNat+1)*sz:=by rw [Nat.add_mul];omega
        _≤n*sz:=Nat.mul_le_mul_right _ this
      have hden:(ix.mulAdd sz o2).den=((ix.den.toNat*sz+o2:Nat):Int):=by
       rw [IX.den_mulAdd]
       have:(ix.den.toNat:Int)=ix.den:=Int.toNat_of_nonneg hx0
       push_cast
       rw [this]
      obtain⟨c,q3,q4,q5⟩:=q2 (ix.mulAdd sz o2) (by rw [hden];exact Int.natCast_nonneg _) (by rw [hden];omega)
      rw [hden,Int.toNat_natCast]at q3
      have h1':=ht.one hag
      refine ua4 h ?_ hK (q4.closed rfl ν) (by rw [Rel.no_ids q4 rfl];simp)
      ·rw [ucn ht hval r2 (by rw [h1'];have:=(List.getElem?_eq_some_iff.1 q3).1;simp at this;omega)]
       simp only [uiF,hag,List.getD_eq_getElem?_getD,q3,Option.getD_some]
     ·exact hK.elim
    ·exact hK.elim
   ·exact hK.elim
  ·rename_i id sz ix o2 hx
   rw [hx]at hrel
   obtain⟨b,hb,hx0,hval⟩:=uhj hrel
   split at hK
   ·rename_i ety sz' n e1 hid
    split at hK
    ·rename_i hsz
     have hse:=uac hsz
     subst hse
     obtain⟨ho,hK⟩:=hK
     have hx1:=ho ()
     obtain⟨vr,q1,q2⟩:=h.ms.own.holds id _ (hv _ _ hid)
     rcases q2 with⟨p1,_⟩|⟨b',len,cap,cur,p1,rfl,p3,p4,p5,p6,p7,p8⟩
     ·rw [hb]at p1;cases p1
     rw [hb]at p1;cases p1
     have hfit:ix.den.toNat*sz+sz≤cur.size:=by
      have:(ix.den.toNat+1)*sz≤cap*sz:=Nat.mul_le_mul_right _ (by omega)
      rw [Nat.add_mul]at this
      omega
     have r3:=p8 ix hx0 hx1
     have r3':ubp μ Vl.nil (e1 ix) (cur.extract (ix.den.toNat*sz) (ix.den.toNat*sz+sz)).toList:=r3
     refine ubV ht h (.inr rfl) r3' (fun e=> ?_) hK (fun hl=> ?_)
     ·have:=Rel.no_ids r3 rfl
      rw [ubE]at this
      rw [this];simp
     ·have hl':o2+ti.size≤sz:=by simp at hl;omega
      rw [ucn ht hval p6 (by omega),uhw ht.one cur (ix.den.toNat*sz) sz o2 hl' hfit]
    ·exact hK.elim
   ·exact hK.elim
  ·rename_i off c hx
   rw [hx]at hrel
   obtain⟨b,o,m,cs,r1,r2,r3,hval⟩:=uiJ hrel
   obtain⟨e',fr,r4⟩:=h.ms.mem.arr r1
   have r3':ubp μ Vl.nil c (cs.extract o (o+m)).toList:=r3
   refine ubV ht h (.inr rfl) r3' (fun e=> ?_) hK (fun hl=> ?_)
   ·have:=Rel.no_ids r3 rfl
    rw [ubE]at this
    rw [this];simp
   ·have hl':off+ti.size≤m:=by simp at hl;omega
    rw [ucn ht hval r4 (by omega),uhw ht.one cs o m off hl' r2]
  ·rename_i sz n el ix off hx
   rw [hx]at hrel
   obtain⟨b,o,len,cs,r1,r2,hx0,hx1,r3,r5,hval⟩:=uoM hrel
   obtain⟨e',fr,r4⟩:=h.ms.mem.arr r1
   have r3':ubp μ Vl.nil (el ix) (cs.extract (o+ix.den.toNat*sz) (o+ix.den.toNat*sz+sz)).toList:=r3 ix hx0 hx1
   have hfit:o+ix.den.toNat*sz+sz≤cs.size:=by
    have h1:ix.den.toNat<len:=by omega
    have:(ix.den.toNat+1)*sz≤len*sz:=Nat.mul_le_mul_right _ h1
    rw [Nat.add_mul]at this
    omega
   refine ubV ht h (.inr rfl) r3' (fun e=> ?_) hK (fun hl=> ?_)
   ·have:=Rel.no_ids (r3 ix hx0 hx1) rfl
    rw [ubE]at this
    rw [this];simp
   ·have hl':off+ti.size≤sz:=by simp at hl;omega
    rw [ucn ht hval r4 (by omega),uhw ht.one cs (o+ix.den.toNat*sz) sz off hl' hfit]
  ·exact hK.elim
end
end Go.Eng

namespace Go.Eng
open Go
theorem uok {μ:Mem} {ν:Vl} {l:List SV}:∀{o st n:Nat} {f:IX→SV} {cs:List Value},ubp μ ν l cs→uhr l o=some (st,n,f) →
 st≤o∧o<st+n∧st+n≤cs.length∧∀ix:IX,0≤ix.den→ix.den<(n:Int)→∃c,cs[st+ix.den.toNat]? =some c∧Rel μ Vl.nil (f ix) c∧c.oneCell'=true:=by
 induction l with
 |nil=>intro o st n f cs h hd;simp [uhr]at hd
 | cons x l ih=>
  intro o st n f cs h hd
  cases h with
  | arr _ n' f' _ c0 rest h1 h2 h3 h4=>
   simp only [uhr]at hd
   cases hb:Nat.ble n' o with
   | false=>
    rw [hb]at hd
    have hlt:=udO hb
    simp only [Option.some.injEq,Prod.mk.injEq]at hd
    obtain⟨rfl,rfl,rfl⟩:=hd
    refine⟨Nat.zero_le _,by omega,by rw [List.length_append];omega,fun ix hx hy=> ?_⟩
    have hl:ix.den.toNat<c0.length:=by omega
    refine⟨c0[ix.den.toNat],by rw [Nat.zero_add,List.getElem?_append_left hl];exact List.getElem?_eq_getElem hl,?_,h3 _ (List.getElem_mem hl)⟩
    simpa [List.getD_eq_getElem?_getD,List.getElem?_eq_getElem hl]using h2 ix hx hy
   | true=>
    rw [hb]at hd
    have hle:=ub9 hb
    cases hi:uhr l (o-n')with
    |none=>rw [hi]at hd;cases hd
    | some q=>
     obtain⟨st',n1,f1⟩:=q
     rw [hi]at hd
     simp only [Option.some.injEq,Prod.mk.injEq]at hd
     obtain⟨rfl,rfl,rfl⟩:=hd
     obtain⟨r1,r2,r3,r4⟩:=ih h4 hi
     refine⟨by omega,by omega,by rw [List.length_append];omega,fun ix hx hy=> ?_⟩
     obtain⟨c,q1,q2,q3⟩:=r4 ix hx hy
     exact⟨c,by rw [List.getElem?_append_right (by omega),h1,show st'+n'+ix.den.toNat-n'=st'+ix.den.toNat by omega];exact q1,q2,q3⟩
  | cons _ _ _ c rest h1 h2 h3=>
   cases o with
   | zero=>
    have hd':none=some (st,n,f):=by cases x<;>first|exact hd|exact(ub0 h1).elim
    cases hd'
   | succ o=>
    have hd':(match uhr l o with|some (st,r)=>some (st+1,r)|none=>none)=some (st,n,f):=by cases x<;>first|exact hd|exact(ub0 h1).elim
    cases hi:uhr l o with
    |none=>rw [hi]at hd';cases hd'
    | some q=>
     obtain⟨st',n1,f1⟩:=q
     rw [hi]at hd'
     simp only [Option.some.injEq,Prod.mk.injEq]at hd'
     obtain⟨rfl,rfl,rfl⟩:=hd'
     obtain⟨r1,r2,r3,r4⟩:=ih h3 hi
     refine⟨by omega,by omega,by simp;omega,fun ix hx hy=> ?_⟩
     obtain⟨c',q1,q2,q3⟩:=r4 ix hx hy
     exact⟨c',by rw [show st'+1+ix.den.toNat=(st'+ix.den.toNat)+1 by omega];simpa using q1,q2,q3⟩
theorem uph {μ:Mem} {ν:Vl} {n st o:Nat} {f f':IX→SV} {x:SV} {c:Value} {cs:List Value}(h1:st≤o)(h2:o<st+n)(h3:st+n≤cs.length)
 (h4:∀ix:IX,0≤ix.den→ix.den<(n:Int)→∃c,cs[st+ix.den.toNat]? =some c∧Rel μ Vl.nil (f ix) c∧c.oneCell'=true)
 (hx:Rel μ Vl.nil x c) (hc:c.oneCell'=true) (hu:ul1 n f ((o-st:Nat):Int) x f'):
 ubp μ ν [.arr n f'] ((cs.set o c).drop st |>.take n):=by
 have hlen:(((cs.set o c).drop st).take n).length=n:=by simp;omega
 have hget:∀j,j<n→(((cs.set o c).drop st).take n)[j]? =if j=o-st then some c else cs[st+j]? :=fun j hj=>by
  rw [List.getElem?_take,if_pos hj,List.getElem?_drop,List.getElem?_set]
  by_cases e:j=o-st
  ·rw [if_pos e,if_pos (by omega),if_pos (by omega)]
  ·rw [if_neg e,if_neg (by omega)]
 have:=Rel.arr (μ:=μ) ν n f' [] (((cs.set o c).drop st).take n) [] hlen (fun ix hx0 hy0=> ?_) (fun v hv=> ?_) (.nil ν)
 ·simpa using this
 ·have hj:ix.den.toNat<n:=by omega
  rw [List.getD_eq_getElem?_getD,hget _ hj]
  by_cases e:ix.den.toNat=o-st
  ·rw [if_pos e]
   exact hu.1 ix hx0 hy0 (by omega) μ _ _ hx
  ·rw [if_neg e]
   obtain⟨c',q1,q2,q3⟩:=h4 ix hx0 hy0
   rw [q1]
   exact hu.2 ix hx0 hy0 (by omega) μ _ _ q2
 ·obtain⟨j,hj,rfl⟩:=List.getElem_of_mem hv
  have hj':j<n:=by omega
  have hg:=hget j hj'
  rw [List.getElem?_eq_getElem hj]at hg
  by_cases e:j=o-st
  ·rw [if_pos e,Option.some.injEq]at hg
   rw [hg];exact hc
  ·rw [if_neg e]at hg
   obtain⟨c',q1,q2,q3⟩:=h4 (.lit (j:Int)) (Int.natCast_nonneg j) (by simp only [IX.den];omega)
   simp only [IX.den,Int.toNat_natCast]at q1
   rw [q1,Option.some.injEq]at hg
   rw [hg];exact q3
theorem ur3 {cs:List Value} {o:Nat} {c:Value}(ho:o<cs.length):cs.set o c=cs.take o++[c]++cs.drop (o+1):=by
 rw [List.set_eq_take_append_cons_drop,if_pos ho]
 simp
theorem uhf {cs:List Value} {st n o:Nat} {c:Value}(h1:st≤o)(h2:o<st+n)(h3:st+n≤cs.length):
 cs.take st++(((cs.set o c).drop st).take n++cs.drop (st+(((cs.set o c).drop st).take n).length))=cs.set o c:=by
 have hlen:(((cs.set o c).drop st).take n).length=n:=by simp;omega
 rw [hlen]
 apply List.ext_getElem?
 intro j
 simp only [List.getElem?_append,List.length_take,List.getElem?_take,List.getElem?_drop,List.getElem?_set,List.length_drop,List.length_set]
 have e1:min st cs.length=st:=by omega
 have e2:min n (cs.length-st)=n:=by omega
 rw [e1,e2]
 by_cases q1:j<st
 ·rw [if_pos q1,if_pos q1,if_neg (by omega)]
 ·rw [if_neg q1]
  by_cases q2:j-st<n
  ·rw [if_pos q2,if_pos q2,show st+(j-st)=j by omega]
  ·rw [if_neg q2,if_neg (by omega)]
   congr 1
   omega
section
variable {P:Program} {T:uar} {W0:World} {B0:Nat→Prop} {R0:Bor} {N:Nat} {D:List Deferred} {t:Sta} {μ:Mem} {ν:Vl} {a:Act} {W:World} {K:Upd→Prop}
variable {nid:Nat} {gH:Nat→Option Blk} {ord:Bool} {dst:Option Tmp} {ty:TypeId} {pos:String} {aft:Array Edge} {gd:Option (Nat×Bool)}
theorem ucR {e:TypeId} {ti:TI}(ht:TyOk1 P e ti) {x y:Operand} {b o:Nat}(hx:a.eval x = .pointer (some ⟨b,o,none⟩)) {cs:Array Value} {e':TypeId}(hb:W.heap[b]? =some (.cells cs e' (0,0)))
 (hy:(a.eval y).cells.size=ti.size) (h1:∀c∈(a.eval y).cells.toList,c.oneCell'=true) (hl:o+ti.size≤cs.size):
 (execOp a.eval ⟨dst,.store e x y,ty,pos,aft,gd⟩).run P W = .ok .skip (W.setRow b (setR cs o (a.eval y).cells.toList)):=by
 simp only [execOp,hx,Sem.run_bind,ufe ht W b o cs e' hb _ hy h1 hl,Result.andThen_ok,Sem.run_pure]
theorem uqW {l':List SV} {cs:Array Value} {o:Nat} {nw:List Value}(h:ubp μ ν l' (cs.toList.take o++(nw++cs.toList.drop (o+nw.length)))):Rel μ ν (.agg l') (.agg (setR cs o nw)):=by
 unfold setR
 rw [List.append_assoc]
 exact h
theorem ugu {v:Value}(h:v.oneCell'=true):v.cells = #[v]:=by cases v<;>first|rfl|(simp [Value.oneCell']at h)
theorem ujb (hT:uc5 P T)(h:Sat W0 B0 R0 N D t μ ν a W)(hv:∀id b,gH id=some b→t.H id=some b) {e:TypeId} {ti:TI}(ht:TyOk1 P e ti) {x y:Operand} {id off:Nat}(hx:ev t.E x = .own id off) {l:List SV} {e':TypeId}(hid:gH id=some (.cells l e'))
 (hl:Nat.beq (udH (cellsOf (ev t.E y))) ti.size=true) (hok:udB (ev t.E y)=true) (hK:ueI id l e' off (ev t.E y) K):
 ubt P W0 B0 t μ ν K ((execOp a.eval ⟨dst,.store e x y,ty,pos,aft,gd⟩).run P W):=by
 have hrel:=uad h x
 rw [hx]at hrel
 obtain⟨b,hb,hval⟩:=udp hrel
 obtain⟨b',cs,r1,r2,r3,r4⟩:=ucs h hv hid
 rw [hb]at r1;cases r1
 obtain⟨c1,c2⟩:=ueN h y hl hok
 have c1':ubp μ ν (cellsOf (ev t.E y)) (a.eval y).cells.toList:=c1
 have hone:=ucM c1'
 have hlen:(a.eval y).cells.toList.length=ti.size:=by simpa using c2
 have fin:∀{l':List SV},ui6 l off (cellsOf (ev t.E y))=some l'→K ⟨.any,[(id,some (.cells l' e'))],[]⟩→ubt P W0 B0 t μ ν K ((execOp a.eval ⟨dst,.store e x y,ty,pos,aft,gd⟩).run P W):=by
  intro l' hput hK
  obtain⟨q1,q2⟩:=ucS r3 c1' hput
  refine uda h (ucR ht hval r2 c2 hone (by simp at q2;omega)) hK (ueO h (hv _ _ hid) hb r2 (uqW q1) (fun j hj=> ?_) (.any _ _) (by simp [SV.ids]))
  rcases uea hput j hj with q|q
  ·exact r4 j q
  ·exact ubI h y j (by rw [uds]at q;exact q)
 unfold ueI at hK
 split at hK
 ·rename_i s c hs
  rw [hs]at fin
  split at hK
  ·rename_i l' hput
   exact fin hput hK
  ·exact hK.elim
 ·rename_i s hna
  have hcell:cellsOf (ev t.E y)=[ev t.E y]:=by
   cases hq:ev t.E y<;>first|rfl|exact absurd hq (hna _)
  have h1c:(a.eval y).oneCell'=true:=ufq (uad h y) hok (fun l e=>hna l e)
  split at hK
  ·rename_i st n f hin
   split at hK
   ·rename_i hids
    obtain⟨f',hu,hK⟩:=hK
    split at hK
    ·rename_i l' hput
     obtain⟨q1,q2,q3,q4⟩:=uok r3 hin
     have hxr:Rel μ Vl.nil (ev t.E y) (a.eval y):=(uad h y).strip hids
     have hnew:=uph (ν:=ν) q1 q2 q3 q4 hxr h1c (hu ())
     obtain⟨p1,p2⟩:=ucS r3 hnew hput
     rw [uhf q1 q2 q3]at p1
     have hsz:ti.size=1:=by rw [←hlen,ugu h1c];rfl
     have hset:setR cs off (a.eval y).cells.toList=(cs.toList.set off (a.eval y)).toArray:=by
      rw [ugu h1c,ur3 (by omega)]
      rfl
     refine uda h (ucR ht hval r2 c2 hone (by simp at q3;omega)) hK (ueO h (hv _ _ hid) hb r2 (by rw [hset];exact p1) (fun j hj=> ?_) (.any _ _) (by simp [SV.ids]))
     rcases uea hput j hj with q|q
     ·exact r4 j q
     ·simp [SV.idsL,SV.ids]at q
    ·exact hK.elim
   ·exact hK.elim
  ·split at hK
   ·rename_i l' hput
    rw [hcell]at fin
    exact fin hput hK
   ·exact hK.elim
theorem uny (cs:Array Value)(o:Nat)(nw:List Value)(h:o+nw.length≤cs.size):(setR cs o nw).size=cs.size:=by
 simp [setR];omega
theorem usm (cs:Array Value)(k sz o2:Nat)(nw:List Value)(h:o2+nw.length≤sz)(hf:k+sz≤cs.toList.length):
 (((setR cs (k+o2) nw).toList.drop k).take (k+sz-k))=((cs.toList.drop k).take sz).take o2++(nw++((cs.toList.drop k).take sz).drop (o2+nw.length)):=by
 simp only [setR]
 apply List.ext_getElem?
 intro i
 simp only [List.getElem?_take,List.getElem?_drop,List.getElem?_append,List.length_take,List.length_drop,List.append_assoc]
 grind
theorem uqy (cs:Array Value)(o k sz:Nat)(nw:List Value)(h:o+nw.length≤cs.toList.length)(hd:k+sz≤o∨o+nw.length≤k):
 (((setR cs o nw).toList.drop k).take (k+sz-k))=((cs.toList.drop k).take (k+sz-k)):=by
 simp only [setR]
 apply List.ext_getElem?
 intro i
 simp only [List.getElem?_take,List.getElem?_drop,List.getElem?_append,List.length_take,List.length_drop,List.append_assoc]
 grind
theorem usl (hT :uc5 P T)(h:Sat W0 B0 R0 N D t μ ν a W)(hv:∀id b,gH id=some b→t.H id=some b)(e:TypeId)(x y:Operand)(hK:opT T P ⟨dst,.store e x y,ty,pos,aft,gd⟩ nid t.E gH ord K):
 ubt P W0 B0 t μ ν K ((execOp a.eval ⟨dst,.store e x y,ty,pos,aft,gd⟩).run P W):=by
 simp only [opT]at hK
 split at hK
 ·rename_i ti hte
  have ht:=hT e ti hte
  split at hK
  ·rename_i hl hok
   split at hK
   ·rename_i id off hx
    split at hK
    ·rename_i l e' hid
     exact ujb hT h hv ht hx hid hl hok hK
    ·exact hK.elim
   ·rename_i id off sz n ix o2 hx
    have hrel:=uad h x
    rw [hx]at hrel
    obtain⟨b,hb,hx0,hx1,hval⟩:=ugi hrel
    split at hK
    ·rename_i l e' hid hag
     obtain⟨b',cs,r1,r2,r3,r4⟩:=ucs h hv hid
     rw [hb]at r1;cases r1
     obtain⟨c1,c2⟩:=ueN h y hl hok
     have c1':ubp μ ν (cellsOf (ev t.E y)) (a.eval y).cells.toList:=c1
     have hone:=ucM c1'
     have h1':=ht.one hag
     split at hK
     ·rename_i m f hseg
      split at hK
      ·rename_i h1 h2 hids hna
       obtain⟨f',hu,hK⟩:=hK
       split at hK
       ·rename_i l' hput
        obtain⟨q1,q2⟩:=ueC r3 hseg
        have hle:=ub9 h1
        have hlt:=ub1 h2
        have hix:ix.den.toNat*sz+o2<n*sz:=by
         have:ix.den.toNat<n:=by omega
         calc ix.den.toNat*sz+o2<ix.den.toNat*sz+sz:=by omega
          _=(ix.den.toNat+1)*sz:=by rw [Nat.add_mul];omega
          _≤n*sz:=Nat.mul_le_mul_right _ this
        have hden:ix.den*(sz:Int)+(o2:Int)=((off+(ix.den.toNat*sz+o2)-off:Nat):Int):=by
         have:(ix.den.toNat:Int)=ix.den:=Int.toNat_of_nonneg hx0
         rw [show off+(ix.den.toNat*sz+o2)-off=ix.den.toNat*sz+o2 by omega]
         push_cast
         rw [this]
        have hu':=hu ()
        rw [hden]at hu'
        have hcell:∀l,ev t.E y≠ .agg l:=fun l e=>by rw [e]at hna;cases hna
        have h1c:(a.eval y).oneCell'=true:=ufq (uad h y) hok hcell
        have hxr:Rel μ Vl.nil (ev t.E y) (a.eval y):=(uad h y).strip hids
        have hnew:=uph (ν:=ν) (st:=off) (o:=off+(ix.den.toNat*sz+o2)) (by omega) (by omega) q1 q2 hxr h1c hu'
        obtain⟨p1,p2⟩:=ucS r3 hnew hput
        rw [uhf (by omega) (by omega) q1]at p1
        have hset:setR cs (off+(ix.den.toNat*sz+o2)) (a.eval y).cells.toList=(cs.toList.set (off+(ix.den.toNat*sz+o2)) (a.eval y)).toArray:=by
         rw [ugu h1c,ur3 (by omega)]
         rfl
        refine uda h (ucR ht hval r2 c2 hone (by simp at q1;omega)) hK (ueO h (hv _ _ hid) hb r2 (by rw [hset];exact p1) (fun j hj=> ?_) (.any _ _) (by simp [SV.ids]))
        rcases uea hput j hj with q|q
        ·exact r4 j q
        ·simp [SV.idsL,SV.ids]at q
       ·exact hK.elim
      ·exact hK.elim
     ·exact hK.elim
    ·exact hK.elim
   ·rename_i id sz ix o2 hx
    have hrel:=uad h x
    rw [hx]at hrel
    obtain⟨b,hb,hx0,hval⟩:=uhj hrel
    split at hK
    ·rename_i ety sz' n e1 hid hids
     split at hK
     ·rename_i hsz
      have hse:=uac hsz
      subst hse
      obtain⟨e',ho,hK⟩:=hK
      obtain⟨hx1,hu⟩:=ho ()
      obtain⟨c1,c2⟩:=ueN h y hl hok
      have c1':ubp μ Vl.nil (cellsOf (ev t.E y)) (a.eval y).cells.toList:=c1.strip (by rw [ubE,uds];exact hids)
      have hone:=ucM c1'
      have hHid:=hv _ _ hid
      obtain⟨vr,q1,q2⟩:=h.ms.own.holds id _ hHid
      rcases q2 with⟨p1,_⟩|⟨b',len,cap,cur,p1,rfl,p3,p4,p5,p6,p7,p8⟩
      ·rw [hb]at p1;cases p1
      rw [hb]at p1;cases p1
      have hixl:ix.den.toNat<len:=by omega
      have hfit:ix.den.toNat*sz+sz≤cur.size:=by
       have:(ix.den.toNat+1)*sz≤cap*sz:=Nat.mul_le_mul_right _ (by omega)
       rw [Nat.add_mul]at this
       omega
      have hext:∀k:Nat,k<len→(cur.extract (k*sz) (k*sz+sz)).toList=(cur.toList.drop (k*sz)).take sz:=fun k hk=>by
       simp [Array.toList_extract,List.extract_eq_take_drop]
      obtain⟨l,hput,_⟩:=hu.2 ix hx0 hx1 rfl
      have r3:ubp μ Vl.nil (e1 ix) ((cur.toList.drop (ix.den.toNat*sz)).take sz):=by
       have:=p8 ix hx0 hx1
       rw [←hext _ hixl]
       exact this
      obtain⟨_,g2⟩:=ucS r3 c1' hput
      have hlen1:((cur.toList.drop (ix.den.toNat*sz)).take sz).length=sz:=by simp;omega
      have hcl:(a.eval y).cells.toList.length=ti.size:=by simpa using c2
      rw [hlen1,hcl]at g2
      have hrun:=ucR (dst:=dst) (ty:=ty) (pos:=pos) (aft:=aft) (gd:=gd) ht hval p6 c2 hone (by omega)
      refine uda h hrun hK (uiI (blk:=.row ety sz n e') h hHid rfl hb p6 ⟨_,q1,.inr ⟨b,len,cap,_,hb,rfl,p3,p4,p5,udS W b cur _ ety _ p6,?_,fun jx j0 j1=> ?_⟩⟩ (by simp [ua9]) (.any _ _) (by simp [SV.ids]))
      ·rw [←p7,uny]
       rw [hcl];omega
      ·have hjl:jx.den.toNat<len:=by omega
       have hjfit:jx.den.toNat*sz+sz≤cur.size:=by
        have:(jx.den.toNat+1)*sz≤cap*sz:=Nat.mul_le_mul_right _ (by omega)
        rw [Nat.add_mul]at this
        omega
       by_cases hj:jx.den=ix.den
       ·obtain⟨l2,hput2,hle⟩:=hu.2 jx j0 j1 hj
        have r4:ubp μ Vl.nil (e1 jx) ((cur.toList.drop (jx.den.toNat*sz)).take sz):=by
         have:=p8 jx j0 j1
         rw [←hext _ hjl]
         exact this
        obtain⟨g3,_⟩:=ucS r4 c1' hput2
        refine hle μ Vl.nil _ ?_
        have:(setR cur (ix.den.toNat*sz+o2) (a.eval y).cells.toList).extract (jx.den.toNat*sz) (jx.den.toNat*sz+sz)=⟨((cur.toList.drop (jx.den.toNat*sz)).take sz).take o2++((a.eval y).cells.toList++((cur.toList.drop (jx.den.toNat*sz)).take sz).drop (o2+(a.eval y).cells.toList.length))⟩:=by
         apply Array.ext'
         rw [Array.toList_extract,List.extract_eq_take_drop,hj]
         exact usm _ _ _ _ _ (by rw [hcl];exact g2) (by simpa using hfit)
        rw [this]
        exact g3
       ·refine hu.1 jx j0 j1 hj μ Vl.nil _ ?_
        have:(setR cur (ix.den.toNat*sz+o2) (a.eval y).cells.toList).extract (jx.den.toNat*sz) (jx.den.toNat*sz+sz)=cur.extract (jx.den.toNat*sz) (jx.den.toNat*sz+sz):=by
         apply Array.ext'
         rw [Array.toList_extract,Array.toList_extract,List.extract_eq_take_drop,List.extract_eq_take_drop]
         refine uqy _ _ _ _ _ (by rw [hcl];simp;omega) ?_
         rw [hcl]
         have hne:jx.den.toNat≠ix.den.toNat:=by omega
         rcases Nat.lt_or_gt_of_ne hne with q|q
         ·left
          have:(jx.den.toNat+1)*sz≤ix.den.toNat*sz:=Nat.mul_le_mul_right _ q
          rw [Nat.add_mul]at this
          omega
         ·right
          have:(ix.den.toNat+1)*sz≤jx.den.toNat*sz:=Nat.mul_le_mul_right _ q
          rw [Nat.add_mul]at this
          omega
        rw [this]
        exact p8 jx j0 j1
     ·exact hK.elim
    ·exact hK.elim
   ·exact hK.elim
  ·exact hK.elim
 ·exact hK.elim
theorem umg (h:Sat W0 B0 R0 N D t μ ν a W)(x:Operand)(hK:opT T P ⟨dst,.nilCheck x,ty,pos,aft,gd⟩ nid t.E gH ord K):
 ubt P W0 B0 t μ ν K ((execOp a.eval ⟨dst,.nilCheck x,ty,pos,aft,gd⟩).run P W):=by
 simp only [opT]at hK
 have hr:=uad h x
 have hi:=ubI h x
 split at hK
 ·rename_i hx;rw [hx]at hr hi
  obtain⟨b,_,hv⟩:=udp hr
  exact ua4 h (by simp only [execOp,hv];rfl) hK (by rw [←hv];exact hr) hi
 ·rename_i hx;rw [hx]at hr hi
  obtain⟨b,_,_,_,hv⟩:=ugi hr
  exact ua4 h (by simp only [execOp,hv];rfl) hK (by rw [←hv];exact hr) hi
 ·rename_i hx;rw [hx]at hr hi
  obtain⟨b,_,_,hv⟩:=uhj hr
  exact ua4 h (by simp only [execOp,hv];rfl) hK (by rw [←hv];exact hr) hi
 ·rename_i hx;rw [hx]at hr hi
  obtain⟨b,o,m,c,_,_,_,hv⟩:=uiJ hr
  exact ua4 h (by simp only [execOp,hv];rfl) hK (by rw [←hv];exact hr) hi
 ·rename_i hx;rw [hx]at hr hi
  obtain⟨b,o,m,c,_,_,_,_,_,_,hv⟩:=uoM hr
  exact ua4 h (by simp only [execOp,hv];rfl) hK (by rw [←hv];exact hr) hi
 ·rename_i hx;rw [hx]at hr hi
  obtain⟨fs,cs,hv,_⟩:=uhG hr
  exact ua4 h (by simp only [execOp,hv];rfl) hK (by rw [←hv];exact hr) hi
 ·exact hK.elim
theorem ucp {k:IntKind} {n:Int}(h:inR k n):k.wrap n=n:=by
 cases k<;>simp only [inR]at h<;>simp [IntKind.wrap,IntKind.bits,IntKind.signed]<;>(try split)<;>omega
theorem uud {k:IntKind} {x y:Nat}(hx:inR k (x:Int))(hy:inR k (y:Int)):k.wrap (((BitVec.ofInt k.bits (x:Int)) &&& (BitVec.ofInt k.bits (y:Int))).toNat:Int)=((x &&& y:Nat):Int):=by
 have hle:x &&& y≤x:=Nat.and_le_left
 have hb:∀z:Nat,inR k (z:Int)→z<2^k.bits:=fun z hz=>by
  cases k<;>simp only [inR]at hz<;>simp only [IntKind.bits]<;>omega
 have e:((BitVec.ofInt k.bits (x:Int)) &&& (BitVec.ofInt k.bits (y:Int))).toNat=x &&& y:=by
  rw [BitVec.toNat_and,BitVec.ofInt_natCast,BitVec.ofInt_natCast,BitVec.toNat_ofNat,BitVec.toNat_ofNat,Nat.mod_eq_of_lt (hb x hx),Nat.mod_eq_of_lt (hb y hy)]
 rw [e]
 apply ucp
 cases k<;>simp only [inR]at hx⊢ <;>omega
theorem ujv {k:IntKind} {z:Nat}(hz:inR k (z:Int)):z<2^k.bits:=by
 cases k<;>simp only [inR]at hz<;>simp only [IntKind.bits]<;>omega
theorem uxq {k:IntKind} {x y:Nat}(hx:inR k (x:Int))(hy:inR k (y:Int))(hr:inR k ((x |||y:Nat):Int)):k.wrap (((BitVec.ofInt k.bits (x:Int)) |||(BitVec.ofInt k.bits (y:Int))).toNat:Int)=((x |||y:Nat):Int):=by
 have e:((BitVec.ofInt k.bits (x:Int)) |||(BitVec.ofInt k.bits (y:Int))).toNat=x |||y:=by
  rw [BitVec.toNat_or,BitVec.ofInt_natCast,BitVec.ofInt_natCast,BitVec.toNat_ofNat,BitVec.toNat_ofNat,Nat.mod_eq_of_lt (ujv hx),Nat.mod_eq_of_lt (ujv hy)]
 rw [e]
 exact ucp hr
theorem uh1 (x y i:Nat):(x ^^^(x &&& y)).testBit i=(x.testBit i&& !y.testBit i):=by
 rw [Nat.testBit_xor,Nat.testBit_and]
 cases x.testBit i<;>cases y.testBit i<;>rfl
theorem un3 (x y:Nat):x ^^^(x &&& y)≤x:=by
 have e:x ^^^(x &&& y)=(x ^^^(x &&& y)) &&& x:=by
  apply Nat.eq_of_testBit_eq
  intro i
  rw [Nat.testBit_and,uh1]
  cases x.testBit i<;>cases y.testBit i<;>rfl
 rw [e]
 exact Nat.and_le_right
theorem uoo {k:IntKind} {x y:Nat}(hx:inR k (x:Int))(hy:inR k (y:Int)):k.wrap (((BitVec.ofInt k.bits (x:Int)) &&& ~~~(BitVec.ofInt k.bits (y:Int))).toNat:Int)=((x ^^^(x &&& y):Nat):Int):=by
 have e:((BitVec.ofInt k.bits (x:Int)) &&& ~~~(BitVec.ofInt k.bits (y:Int))).toNat=x ^^^(x &&& y):=by
  apply Nat.eq_of_testBit_eq
  intro i
  rw [BitVec.testBit_toNat,BitVec.getLsbD_and,BitVec.getLsbD_not,BitVec.ofInt_natCast,BitVec.ofInt_natCast,BitVec.getLsbD_ofNat,BitVec.getLsbD_ofNat,uh1]
  by_cases h:i<k.bits
  ·simp [h]
  ·have:x.testBit i=false:=Nat.testBit_lt_two_pow (Nat.lt_of_lt_of_le (ujv hx) (Nat.pow_le_pow_right (by omega) (by omega)))
   simp [h,this]
 rw [e]
 apply ucp
 have hle:=un3 x y
 generalize x ^^^(x &&& y)=z at hle⊢
 cases k<;>simp only [inR]at hx⊢ <;>omega
theorem uld {n:Int}(h:ukT n=true):inR .i64 n:=by
 unfold ukT at h
 split at h
 ·rename_i m
  have:=ub9 h
  show -9223372036854775808≤((m:Nat):Int)∧((m:Nat):Int)≤9223372036854775807
  omega
 ·cases h
theorem ulD (k:IntKind)(x:IX):∀id∈(SV.int k x).ids,(t.H id).isSome=true:=by simp [SV.ids]
theorem ujH (x:BX):∀id∈(SV.bool x).ids,(t.H id).isSome=true:=by simp [SV.ids]
theorem uav (h:Sat W0 B0 R0 N D t μ ν a W) {k:IntKind} {x:IX} {n:Int} {r:Result Next}(hr:r = .ok (.value (.int k n)) W)(hn:n=x.den)(hK:K (ua5 (.int k x))):ubt P W0 B0 t μ ν K r:=
 ua4 h (by rw [hr,hn]) hK (.int ν k x) (ulD k x)
theorem uaT (h:Sat W0 B0 R0 N D t μ ν a W) {x:BX} {n:Bool} {r:Result Next}(hr:r = .ok (.value (.bool n)) W)(hn:n=x.den)(hK:K (ua5 (.bool x))):ubt P W0 B0 t μ ν K r:=
 ua4 h (by rw [hr,hn]) hK (.bool ν x) (ujH x)
theorem ucN (h:Sat W0 B0 R0 N D t μ ν a W) {k:IntKind} {x y:IX} {f:Int→Int→Int}(hK:ucT k x y f K) {r:Result Next}(hr:r = .ok (.value (.int k (k.wrap (f x.den y.den)))) W):ubt P W0 B0 t μ ν K r:=by
 unfold ucT at hK
 split at hK
 ·split at hK
  ·rename_i hs
   refine uav h hr ?_ hK
   exact ucp (uld hs)
  ·refine uav h hr ?_ hK.2
   exact ucp (hK.1 ())
 ·refine uav h hr ?_ hK.2
  exact ucp (hK.1 ())
theorem ucl (h:Sat W0 B0 R0 N D t μ ν a W) {x y:IX} {f:Int→Int→Bool}(hK:ujl x y f K) {r:Result Next}(hr:r = .ok (.value (.bool (f x.den y.den))) W):ubt P W0 B0 t μ ν K r:=by
 unfold ujl at hK
 split at hK
 ·exact uaT h hr rfl hK
 ·exact uaT h hr rfl hK
theorem uaN (a:Act)(W:World)(op:BinOp)(xt:TypeId)(x y:Operand)(yt:TypeId) {k k':IntKind} {m n:Int}(hx:a.eval x = .int k m)(hy:a.eval y = .int k' n):
 (execOp a.eval ⟨dst,.binOp op xt x y yt,ty,pos,aft,gd⟩).run P W=((binOp op xt (.int k m) (.int k' n)).run P W).andThen fun v w=>.ok (.value v) w:=by
 have hg:(eqGuard op xt x y (.int k m) (.int k' n)).run P W = .ok () W:=by cases op<;>rfl
 simp only [execOp,hx,hy,Sem.run_bind,hg,Result.andThen_ok]
 rfl
theorem um5 (h:Sat W0 B0 R0 N D t μ ν a W)(op:BinOp)(xt:TypeId)(x y:Operand)(yt:TypeId)(hK:uiz op (ev t.E x) (ev t.E y) K):
 ubt P W0 B0 t μ ν K ((execOp a.eval ⟨dst,.binOp op xt x y yt,ty,pos,aft,gd⟩).run P W):=by
 unfold uiz at hK
 split at hK
 all_goals first|exact hK.elim|skip
 ·rename_i hx hy;obtain⟨rfl,hK⟩:=hK
  exact ucN h hK (by rw [uaN a W _ _ _ _ _ (uae h hx) (uae h hy)];simp [binOp,Op.intArith,upG,utt,uuI])
 ·rename_i hx hy;obtain⟨rfl,hK⟩:=hK
  exact ucN h hK (by rw [uaN a W _ _ _ _ _ (uae h hx) (uae h hy)];simp [binOp,Op.intArith,upG,utt,uuI])
 ·rename_i hx hy;obtain⟨rfl,hK⟩:=hK
  exact ucN h hK (by rw [uaN a W _ _ _ _ _ (uae h hx) (uae h hy)];simp [binOp,Op.intArith,upG,utt,uuI])
 ·rename_i hx hy;obtain⟨rfl,q,ho,hK⟩:=hK
  obtain⟨⟨h0,hq⟩,hin⟩:=ho ()
  have hr:=uaN (P:=P) (dst:=dst) (ty:=ty) (pos:=pos) (aft:=aft) (gd:=gd) a W .quo xt x y yt (uae h hx) (uae h hy)
  simp only [binOp,Op.intDiv,h0,ne_eq,not_true_eq_false,if_false,Sem.run_pure,Result.andThen_ok]at hr
  refine uav h hr ?_ hK
  rw [←hq];exact ucp hin
 ·rename_i hx hy;obtain⟨rfl,q,ho,hK⟩:=hK
  obtain⟨h0,hq⟩:=ho ()
  have hr:=uaN (P:=P) (dst:=dst) (ty:=ty) (pos:=pos) (aft:=aft) (gd:=gd) a W .rem xt x y yt (uae h hx) (uae h hy)
  simp only [binOp,Op.intDiv,h0,ne_eq,not_true_eq_false,if_false,Sem.run_pure,Result.andThen_ok]at hr
  refine uav h hr ?_ hK
  exact hq.symm
 ·rename_i k1 x1 k2 y1 hx hy;obtain⟨q,ho,hK⟩:=hK
  obtain⟨h0,h1,hq,hin⟩:=ho ()
  have hr:=uaN (P:=P) (dst:=dst) (ty:=ty) (pos:=pos) (aft:=aft) (gd:=gd) a W .shl xt x y yt (uae h hx) (uae h hy)
  have hneg:¬y1.den<0:=by omega
  simp only [binOp,Op.shift,hneg,if_false,Sem.run_pure,Result.andThen_ok]at hr
  refine uav h hr ?_ hK
  rw [Nat.min_eq_left (by omega),←hq];exact ucp hin
 ·rename_i k1 x1 k2 y1 hx hy;obtain⟨q,ho,hK⟩:=hK
  obtain⟨h0,h1,hq⟩:=ho ()
  have hr:=uaN (P:=P) (dst:=dst) (ty:=ty) (pos:=pos) (aft:=aft) (gd:=gd) a W .shr xt x y yt (uae h hx) (uae h hy)
  have hneg:¬y1.den<0:=by omega
  simp only [binOp,Op.shift,hneg,if_false,Sem.run_pure,Result.andThen_ok]at hr
  refine uav h hr ?_ hK
  rw [Nat.min_eq_left (by omega),←hq];rfl
 ·rename_i hx hy;obtain⟨rfl,q,ho,hK⟩:=hK
  obtain⟨m,n,e1,e2,i1,i2,hq⟩:=ho ()
  have hr:=uaN (P:=P) (dst:=dst) (ty:=ty) (pos:=pos) (aft:=aft) (gd:=gd) a W .and xt x y yt (uae h hx) (uae h hy)
  simp only [binOp,Op.intBits,ne_eq,not_true_eq_false,if_false,Sem.run_pure,Result.andThen_ok,e1,e2]at hr
  refine uav h hr ?_ hK
  rw [uud i1 i2,←hq];rfl
 ·rename_i hx hy;obtain⟨rfl,q,ho,hK⟩:=hK
  obtain⟨m,n,e1,e2,i1,i2,i3,hq⟩:=ho ()
  have hr:=uaN (P:=P) (dst:=dst) (ty:=ty) (pos:=pos) (aft:=aft) (gd:=gd) a W .or xt x y yt (uae h hx) (uae h hy)
  simp only [binOp,Op.intBits,ne_eq,not_true_eq_false,if_false,Sem.run_pure,Result.andThen_ok,e1,e2]at hr
  refine uav h hr ?_ hK
  rw [uxq i1 i2 i3,←hq];rfl
 ·rename_i hx hy;obtain⟨rfl,q,ho,hK⟩:=hK
  obtain⟨m,n,e1,e2,i1,i2,hq⟩:=ho ()
  have hr:=uaN (P:=P) (dst:=dst) (ty:=ty) (pos:=pos) (aft:=aft) (gd:=gd) a W .andNot xt x y yt (uae h hx) (uae h hy)
  simp only [binOp,Op.intBits,ne_eq,not_true_eq_false,if_false,Sem.run_pure,Result.andThen_ok,e1,e2]at hr
  refine uav h hr ?_ hK
  rw [uoo i1 i2,←hq];rfl
 ·rename_i hx hy;obtain⟨rfl,hK⟩:=hK
  exact ucl h hK (by rw [uaN a W _ _ _ _ _ (uae h hx) (uae h hy)];simp [binOp,Op.intCmp,eqB,neB,ltB,leB,gtB,geB])
 ·rename_i hx hy;obtain⟨rfl,hK⟩:=hK
  exact ucl h hK (by rw [uaN a W _ _ _ _ _ (uae h hx) (uae h hy)];simp [binOp,Op.intCmp,eqB,neB,ltB,leB,gtB,geB])
 ·rename_i hx hy;obtain⟨rfl,hK⟩:=hK
  exact ucl h hK (by rw [uaN a W _ _ _ _ _ (uae h hx) (uae h hy)];simp [binOp,Op.intCmp,eqB,neB,ltB,leB,gtB,geB])
 ·rename_i hx hy;obtain⟨rfl,hK⟩:=hK
  exact ucl h hK (by rw [uaN a W _ _ _ _ _ (uae h hx) (uae h hy)];simp [binOp,Op.intCmp,eqB,neB,ltB,leB,gtB,geB])
 ·rename_i hx hy;obtain⟨rfl,hK⟩:=hK
  exact ucl h hK (by rw [uaN a W _ _ _ _ _ (uae h hx) (uae h hy)];simp [binOp,Op.intCmp,eqB,neB,ltB,leB,gtB,geB])
 ·rename_i hx hy;obtain⟨rfl,hK⟩:=hK
  exact ucl h hK (by rw [uaN a W _ _ _ _ _ (uae h hx) (uae h hy)];simp [binOp,Op.intCmp,eqB,neB,ltB,leB,gtB,geB])
end
end Go.Eng

namespace Go.Eng
open Go
theorem uj1 {μ:Mem} {f:IX→SV}:∀(n:Nat) (r xs:List IX) (c0:List Value),uaQ.intsArr f n r=some xs→c0.length=n →
 (∀ix:IX,0≤ix.den→ix.den<(n:Int)→Rel μ Vl.nil (f ix) (c0.getD ix.den.toNat undef))→∃ys,xs=ys++r∧c0=(uaS ys).map (Value.int .i64):=by
 intro n
 induction n with
 | zero=>
  intro r xs c0 h hl _
  simp only [uaQ.intsArr,Option.some.injEq]at h
  exact⟨[],h.symm,List.eq_nil_of_length_eq_zero hl⟩
 | succ n ih=>
  intro r xs c0 h hl hr
  simp only [uaQ.intsArr]at h
  split at h
  ·rename_i x hf
   have h1:=hr (.lit (n:Int)) (Int.natCast_nonneg n) (by simp only [IX.den];omega)
   rw [hf]at h1
   simp only [IX.den,Int.toNat_natCast]at h1
   have h2:=udg h1
   obtain⟨ys,e1,e2⟩:=ih (x::r) xs (c0.take n) h (by rw [List.length_take];omega) (fun ix a b=>by
    have:=hr ix a (by omega)
    have hlt:ix.den.toNat<n:=by omega
    simpa [List.getD_eq_getElem?_getD,List.getElem?_take,hlt]using this)
   refine⟨ys++[x],by rw [e1];simp,?_⟩
   have hd:∀a b:List IX,uaS (a++b)=uaS a++uaS b:=fun a b=>by
    induction a with
    |nil=>rfl
    |cons p a iha=>simp [uaS,iha]
   rw [hd,List.map_append,←e2]
   have hlast:c0=c0.take n++[c0.getD n undef]:=by
    have hlt:n<c0.length:=by omega
    conv=>lhs;rw [←List.take_append_drop n c0]
    congr 1
    rw [List.drop_eq_getElem_cons hlt,List.drop_of_length_le (by omega)]
    simp [List.getD_eq_getElem?_getD,List.getElem?_eq_getElem hlt]
   rw [h2]at hlast
   exact hlast
  ·cases h
theorem udu {μ:Mem} {ν:Vl}:∀{l:List SV} {xs:List IX} {cs:List Value},uaQ l=some xs→ubp μ ν l cs→cs=(uaS xs).map (Value.int .i64):=by
 intro l
 induction l with
 | nil=>
  intro xs cs h hr
  simp only [uaQ,Option.some.injEq]at h
  subst h
  rw [uc3 hr];rfl
 | cons s l ih=>
  intro xs cs h hr
  simp only [uaQ]at h
  split at h
  ·rename_i x r hi
   simp only [Option.some.injEq]at h
   subst h
   obtain⟨c,rest,rfl,h1,_,h3⟩:=udl (fun n f e=>by cases e) hr
   rw [udg h1,ih hi h3];rfl
  ·rename_i n f r hi
   obtain⟨c0,rest,rfl,h1,h2,_,h4⟩:=ufz hr
   obtain⟨ys,rfl,rfl⟩:=uj1 n r xs c0 h h1 h2
   rw [ih hi h4]
   have hd:∀a b:List IX,uaS (a++b)=uaS a++uaS b:=fun a b=>by
    induction a with
    |nil=>rfl
    |cons p a iha=>simp [uaS,iha]
   rw [hd,List.map_append]
  ·cases h
theorem ufP (xs:List IX):(uaS xs).length=xs.length:=by
 induction xs with
 |nil=>rfl
 |cons x xs ih=>simp [uaS,ih]
section
variable {P:Program} {T:uar} {W0:World} {B0:Nat→Prop} {R0:Bor} {N:Nat} {D:List Deferred} {t:Sta} {μ:Mem} {ν:Vl} {a:Act} {W:World} {K:Upd→Prop}
variable {nid:Nat} {gH:Nat→Option Blk} {ord:Bool} {dst:Option Tmp} {ty:TypeId} {pos:String} {aft:Array Edge} {gd:Option (Nat×Bool)}
theorem ueK :∃d,Op.maxDepth=d+1:=⟨9999,rfl⟩
theorem udT {xt:TypeId}(hg:Program.eqGuardType P P.depth xt=false)(op:BinOp)(x y:Operand)(p q:Array Value)(W:World):(eqGuard op xt x y (.agg p) (.agg q)).run P W = .ok () W:=by
 unfold eqGuard
 cases op<;>first|rfl|(simp [hg])
theorem ufC {xt:TypeId}(hu:P.underlying xt=some .bool)(W:World)(a b:Bool):(Op.equal xt (.bool a) (.bool b)).run P W = .ok (a==b) W:=by
 unfold Op.equal
 obtain⟨d,hd⟩:=ueK
 rw [hd]
 simp only [Op.equalIn,Sem.run_bind,run_underlying hu,Result.andThen_ok,Sem.run_pure]
theorem uei {xt:TypeId}(op:BinOp)(x y:Operand)(p q:Option Addr)(n m c d:Nat)(W:World):(eqGuard op xt x y (.slice p n c) (.slice q m d)).run P W = .ok () W:=by
 unfold eqGuard
 cases op<;>rfl
theorem ufZ {xt et:TypeId}(hu:P.underlying xt=some (.slice et))(W:World)(ad:Option Addr)(n c:Nat):(Op.equal xt (.slice ad n c) (.slice none 0 0)).run P W = .ok ad.isNone W:=by
 unfold Op.equal
 obtain⟨d,hd⟩:=ueK
 rw [hd]
 cases ad<;>simp only [Op.equalIn,Sem.run_bind,run_underlying hu,Result.andThen_ok,Sem.run_pure]<;>rfl
theorem uh8 (h:Sat W0 B0 R0 N D t μ ν a W)(hv:∀id b,gH id=some b→t.H id=some b)(neg:Bool) {xt et:TypeId} {x:Operand} {op:BinOp} {yt:TypeId}(hu:P.underlying xt=some (.slice et))(hop:(op = .eql∧neg=false)∨(op = .neq∧neg=true))
 (hK:uso (ev t.E x) neg gH K):ubt P W0 B0 t μ ν K ((execOp a.eval ⟨dst,.binOp op xt x (.const (.slice none 0 0)) yt,ty,pos,aft,gd⟩).run P W):=by
 have hrel:=uad h x
 have key:∀(ad:Option Addr) (n cap:Nat),a.eval x = .slice ad n cap→(execOp a.eval ⟨dst,.binOp op xt x (.const (.slice none 0 0)) yt,ty,pos,aft,gd⟩).run P W = .ok (.value (.bool (neg ^^ad.isNone))) W:=fun ad n cap hx=>by
  have e2:a.eval (.const (.slice none 0 0)) = .slice none 0 0:=rfl
  rcases hop with⟨rfl,rfl⟩|⟨rfl,rfl⟩
  ·simp only [execOp,hx,e2,binOp,Sem.run_bind,uei,Result.andThen_ok,ufZ hu,Sem.run_pure]
   cases ad<;>rfl
  ·simp only [execOp,hx,e2,binOp,Sem.run_bind,uei,Result.andThen_ok,ufZ hu,Sem.run_pure]
   cases ad<;>rfl
 have hb:∀b:Bool,(neg ^^b)=if b then !neg else neg:=fun b=>by cases b<;>cases neg<;>rfl
 unfold uso at hK
 split at hK
 ·rename_i sz n el hx
  rw [hx]at hrel
  obtain⟨ad,len,cap,hval,hn,_,hne⟩:=ugp hrel
  cases ad with
  | none=>
   have h0:n.den=0:=by
    rcases hne with h1|⟨_,_,_,h1,_⟩
    ·rw [hn,h1];rfl
    ·cases h1
   exact uaT h (key _ _ _ hval) (by cases neg<;>rfl) (hK.1 h0)
  |some a0=>exact uaT h (key _ _ _ hval) (by cases neg<;>rfl) hK.2
 ·rename_i hx
  rw [hx]at hrel
  obtain⟨hval,_⟩:=ucY hrel
  exact uaT h (key _ 0 0 hval) (by cases neg<;>rfl) hK
 ·rename_i id off len cap sz hx
  rw [hx]at hrel
  obtain⟨b,_,hval⟩:=ucC hrel
  exact uaT h (key _ len cap hval) (by cases neg<;>rfl) hK
 ·rename_i id off sz m n hx
  rw [hx]at hrel
  obtain⟨b,len,cap,_,_,_,_,_,hval⟩:=ui2 hrel
  exact uaT h (key _ len cap hval) (by cases neg<;>rfl) hK
 ·rename_i id hx
  rw [hx]at hrel
  split at hK
  ·rename_i ety sz n el hid
   obtain⟨v,hv1,hcase⟩:=h.ms.own.holds id _ (hv _ _ hid)
   have hrv:=(ufu hrel).1
   rw [hrv]at hv1
   have hvd:a.eval x=v:=Option.some.inj hv1
   rcases hcase with⟨_,g2,ad,rfl⟩|⟨b,n',cap,cur,_,rfl,g3,_⟩
   ·cases ad with
    |none=>exact uaT h (key _ 0 0 hvd) (by cases neg<;>rfl) (hK.1 g2)
    |some a0=>exact uaT h (key _ 0 0 hvd) (by cases neg<;>rfl) hK.2
   ·exact uaT h (key _ n' cap hvd) (by cases neg<;>rfl) hK.2
  ·exact hK.elim
 ·exact hK.elim
theorem urR (hT:uc5 P T)(h:Sat W0 B0 R0 N D t μ ν a W)(hv:∀id b,gH id=some b→t.H id=some b)(op:BinOp)(xt:TypeId)(x y:Operand)(yt:TypeId)(hK:opT T P ⟨dst,.binOp op xt x y yt,ty,pos,aft,gd⟩ nid t.E gH ord K):
 ubt P W0 B0 t μ ν K ((execOp a.eval ⟨dst,.binOp op xt x y yt,ty,pos,aft,gd⟩).run P W):=by
 simp only [opT]at hK
 cases hnil:uex y with
 | true=>
  simp only [hnil]at hK
  have hy:y = .const (.slice none 0 0):=by
   unfold uex at hnil
   split at hnil
   ·rfl
   ·cases hnil
  subst hy
  split at hK
  ·rename_i ti hte
   unfold uvb at hK
   have hd:=(hT xt ti hte).desc
   split at hK
   ·rename_i e hk
    rw [hk]at hd
    exact uh8 h hv false hd (.inl ⟨rfl,rfl⟩) hK
   ·rename_i e hk
    rw [hk]at hd
    exact uh8 h hv true hd (.inr ⟨rfl,rfl⟩) hK
   ·exact hK.elim
  ·exact hK.elim
 |false=>
 simp only [hnil]at hK
 split at hK
 ·rename_i x1 y1 hx hy
  split at hK
  ·rename_i ti hte
   split at hK
   ·rename_i hk
    have hd:=(hT xt ti hte).desc
    rw [hk]at hd
    refine uaT h (n:=x1.den==y1.den) ?_ ?_ hK
    ·simp only [execOp,uc6 h hx,uc6 h hy,eqGuard,binOp,Sem.run_bind,ufC hd]
     rfl
    ·cases x1<;>cases y1<;>rfl
   ·exact hK.elim
  ·exact hK.elim
 ·rename_i x1 y1 hx hy
  split at hK
  ·rename_i ti hte
   split at hK
   ·rename_i hk
    have hd:=(hT xt ti hte).desc
    rw [hk]at hd
    refine uaT h (n:= !(x1.den==y1.den)) ?_ ?_ hK
    ·simp only [execOp,uc6 h hx,uc6 h hy,eqGuard,binOp,Sem.run_bind,ufC hd]
     rfl
    ·cases x1<;>cases y1<;>rfl
   ·exact hK.elim
  ·exact hK.elim
 ·rename_i x1 y1 hx hy
  split at hK
  ·rename_i xs ys hxs hys
   obtain⟨ho,hK⟩:=hK
   obtain⟨hE,hlen⟩:=ho ()
   have rx:=uad h x
   have ry:=uad h y
   rw [hx]at rx;rw [hy]at ry
   obtain⟨cx,ex,lx⟩:=ucD rx
   obtain⟨cy,ey,ly⟩:=ucD ry
   have e1:=udu hxs lx
   have e2:=udu hys ly
   obtain⟨r1,r2⟩:=hE (uaS xs) (uaS ys) W (ufP xs) ((ufP ys).trans hlen.symm)
   refine uaT h (n:=decide (uaS xs=uaS ys)) ?_ rfl hK
   simp only [execOp,ex,ey,e1,e2,binOp,Sem.run_bind,udT r2,Result.andThen_ok,r1]
   rfl
  ·exact hK.elim
 ·rename_i x1 y1 hx hy
  split at hK
  ·rename_i xs ys hxs hys
   obtain⟨ho,hK⟩:=hK
   obtain⟨hE,hlen⟩:=ho ()
   have rx:=uad h x
   have ry:=uad h y
   rw [hx]at rx;rw [hy]at ry
   obtain⟨cx,ex,lx⟩:=ucD rx
   obtain⟨cy,ey,ly⟩:=ucD ry
   have e1:=udu hxs lx
   have e2:=udu hys ly
   obtain⟨r1,r2⟩:=hE (uaS xs) (uaS ys) W (ufP xs) ((ufP ys).trans hlen.symm)
   refine uaT h (n:= !decide (uaS xs=uaS ys)) ?_ rfl hK
   simp only [execOp,ex,ey,e1,e2,binOp,Sem.run_bind,udT r2,Result.andThen_ok,r1]
   rfl
  ·exact hK.elim
 ·exact um5 h _ xt x y yt hK
theorem utS (h:Sat W0 B0 R0 N D t μ ν a W)(op:UnOp)(xt:TypeId)(x:Operand)(hK:opT T P ⟨dst,.unOp op xt x,ty,pos,aft,gd⟩ nid t.E gH ord K):
 ubt P W0 B0 t μ ν K ((execOp a.eval ⟨dst,.unOp op xt x,ty,pos,aft,gd⟩).run P W):=by
 simp only [opT]at hK
 split at hK
 ·rename_i b hx
  refine uaT h (n:= !b.den) ?_ ?_ hK
  ·simp only [execOp,uc6 h hx,Op.unary];rfl
  ·cases b<;>rfl
 ·rename_i k x1 hx
  refine ucN h hK ?_
  simp only [execOp,uae h hx,Op.unary,Op.intArith];rfl
 ·exact hK.elim
theorem unt (hT:uc5 P T)(h:Sat W0 B0 R0 N D t μ ν a W)(s d:TypeId)(x:Operand)(hK:opT T P ⟨dst,.convert s d x,ty,pos,aft,gd⟩ nid t.E gH ord K):
 ubt P W0 B0 t μ ν K ((execOp a.eval ⟨dst,.convert s d x,ty,pos,aft,gd⟩).run P W):=by
 simp only [opT]at hK
 split at hK
 ·rename_i ts td k x1 hs hd hx
  obtain⟨ds,hus,_⟩:=(hT s ts hs).under
  split at hK
  ·rename_i k' hk
   have hud:=(hT d td hd).desc
   rw [hk]at hud
   have hr:(execOp a.eval ⟨dst,.convert s d x,ty,pos,aft,gd⟩).run P W = .ok (.value (.int k' (k'.wrap x1.den))) W:=by
    simp only [execOp,uae h hx,convert,Sem.run_bind,run_underlying hus,run_underlying hud,Result.andThen_ok,Conv.intToInt]
    rfl
   split at hK
   ·rename_i n
    split at hK
    ·rename_i hsm
     refine uav h hr ?_ hK
     exact ucp (uld hsm)
    ·refine uav h hr ?_ hK.2
     exact ucp (hK.1 ())
   ·refine uav h hr ?_ hK.2
    exact ucp (hK.1 ())
  ·exact hK.elim
 ·exact hK.elim
theorem ufp (h:Sat W0 B0 R0 N D t μ ν a W)(l:List Operand):Rel μ ν (.tup (evs t.E l)) (.tuple ⟨l.map a.eval⟩)∧∀id∈SV.idsL (evs t.E l),(t.H id).isSome=true:=by
 induction l with
 |nil=>exact⟨.tnil ν,by simp [evs,SV.idsL]⟩
 | cons x l ih=>
  refine⟨.tcons ν _ _ _ _ (uad h x) ih.1,fun id hid=> ?_⟩
  simp only [evs,ubF]at hid
  rcases List.mem_append.1 hid with q|q
  ·exact ubI h x id q
  ·exact ih.2 id q
theorem ulz (h:Sat W0 B0 R0 N D t μ ν a W)(fn:Fn)(first caps:Array Operand)(hK:opT T P ⟨dst,.makeFunc fn first caps,ty,pos,aft,gd⟩ nid t.E gH ord K):
 ubt P W0 B0 t μ ν K ((execOp a.eval ⟨dst,.makeFunc fn first caps,ty,pos,aft,gd⟩).run P W):=by
 simp only [opT]at hK
 split at hK
 ·rename_i f
  obtain⟨r1,i1⟩:=ufp h first.toList
  obtain⟨r2,i2⟩:=ufp h caps.toList
  have hr:(execOp a.eval ⟨dst,.makeFunc (.func f) first caps,ty,pos,aft,gd⟩).run P W = .ok (.value (.func (.func f) ⟨first.toList.map a.eval⟩ ⟨caps.toList.map a.eval⟩)) W:=by
   have e1:first.map a.eval=⟨first.toList.map a.eval⟩:=by apply Array.ext';simp
   have e2:caps.map a.eval=⟨caps.toList.map a.eval⟩:=by apply Array.ext';simp
   simp only [execOp,Instr.makeFunc,e1,e2]
   rfl
  refine ua4 h hr hK (.clo ν f _ _ _ _ r1 r2) (fun id hid=> ?_)
  simp only [SV.ids]at hid
  rcases List.mem_append.1 hid with q|q
  ·exact i1 id q
  ·exact i2 id q
 ·exact hK.elim
theorem ukk {s:SV} {v:Value}(hr:Rel μ ν s v)(o:Nat)(ha:urX (ufr s o)=false):∃b off,v = .pointer (some ⟨b,off,none⟩)∧Rel μ ν (ufr s o) (.pointer (some ⟨b,off+o,none⟩))∧(ufr s o).ids=s.ids:=by
 cases s<;>simp only [ufr,urX]at ha⊢ <;>first|(cases ha;done)|skip
 case own id off=>
  obtain⟨b,hb,rfl⟩:=udp hr
  exact⟨b,off,rfl,.own ν id _ b hb,by simp [SV.ids]⟩
 case owe id off sz n ix o2=>
  obtain⟨b,hb,h0,h1,rfl⟩:=ugi hr
  refine⟨b,_,rfl,?_,by simp [SV.ids]⟩
  have:=Rel.owe (μ:=μ) ν id off sz n ix (o2+o) b hb h0 h1
  rwa [show off+(ix.den.toNat*sz+(o2+o))=off+(ix.den.toNat*sz+o2)+o by omega]at this
 case roe id sz ix o2=>
  obtain⟨b,hb,h0,rfl⟩:=uhj hr
  refine⟨b,_,rfl,?_,by simp [SV.ids]⟩
  have:=Rel.roe (μ:=μ) ν id sz ix (o2+o) b hb h0
  rwa [show ix.den.toNat*sz+(o2+o)=ix.den.toNat*sz+o2+o by omega]at this
 case pp off cells=>
  obtain⟨b,p,m,c,h1,h2,h3,rfl⟩:=uiJ hr
  refine⟨b,_,rfl,?_,by simp [SV.ids]⟩
  have:=Rel.pp (μ:=μ) ν (off+o) cells b p m c h1 h2 h3
  rwa [show p+(off+o)=p+off+o by omega]at this
 case el sz n e ix off=>
  obtain⟨b,p,len,c,h1,h2,h3,h4,h5,h6,rfl⟩:=uoM hr
  refine⟨b,_,rfl,?_,by simp [SV.ids]⟩
  have:=Rel.el (μ:=μ) ν sz n e ix (off+o) b p len c h1 h2 h3 h4 h5 h6
  rwa [show p+ix.den.toNat*sz+(off+o)=p+ix.den.toNat*sz+off+o by omega]at this
theorem ujA (hT:uc5 P T)(h:Sat W0 B0 R0 N D t μ ν a W)(e:TypeId)(x:Operand)(j:Nat)(hK:opT T P ⟨dst,.fieldAddr e x j,ty,pos,aft,gd⟩ nid t.E gH ord K):
 ubt P W0 B0 t μ ν K ((execOp a.eval ⟨dst,.fieldAddr e x j,ty,pos,aft,gd⟩).run P W):=by
 simp only [opT]at hK
 split at hK
 ·rename_i ti hte
  split at hK
  ·rename_i fs hk
   have hd:=(hT e ti hte).desc
   rw [hk]at hd
   obtain⟨fields,hu,hfs,hsz⟩:=hd
   split at hK
   ·rename_i o ft hj
    split at hK
    ·rename_i hany
     obtain⟨b,off,hv,hr,hi⟩:=ukk (uad h x) o hany
     rw [uhc,←hfs,List.getElem?_map]at hj
     cases hf:fields.toList[j]? with
     |none=>rw [hf]at hj;simp at hj
     | some f=>
      rw [hf]at hj
      simp only [Option.map_some,Option.some.injEq,Prod.mk.injEq]at hj
      obtain⟨rfl,rfl⟩:=hj
      obtain⟨i,hi',hn⟩:=hsz f (List.mem_of_getElem? hf)
      have hf':fields[j]? =some f:=by simpa using hf
      have hrun:(execOp a.eval ⟨dst,.fieldAddr e x j,ty,pos,aft,gd⟩).run P W = .ok (.value (.pointer (some ⟨b,off+f.offset,none⟩))) W:=by
       simp only [execOp,hv,Instr.fieldAt,Sem.run_bind,run_underlying hu,Result.andThen_ok,hf',Instr.sureAddr,Sem.run_pure,fieldPlace,sizeOf,typeInfo,run_program,hi',hn,if_false,Addr.add_mid]
      exact ua4 h hrun hK hr (by rw [hi];exact ubI h x)
    ·exact hK.elim
   ·exact hK.elim
  ·exact hK.elim
 ·exact hK.elim
theorem uck {x:IX} {n:Nat}(h:uiB x=some n):x.den=(n:Int):=by
 unfold uiB at h
 split at h
 ·simp only [Option.some.injEq]at h;subst h;rfl
 ·cases h
theorem ucw {e e':TypeId} {n:Nat} {te:TI}(hu:P.underlying e=some (.array n e'))(ht:TyOk1 P e' te)(b off:Nat)(k:IntKind)(i:Int)(h0:0≤i)(h1:i<n)(W:World):
 (Instr.indexAt e (.pointer (some ⟨b,off,none⟩)) (.int k i)).run P W = .ok (.pointer (some ⟨b,off+i.toNat*te.size,none⟩)) W:=by
 simp only [Instr.indexAt,asIntOf,Instr.sureAddr,Sem.run_bind,Sem.run_pure,Result.andThen_ok,run_underlying hu]
 rw [if_pos ⟨h0,h1⟩]
 simp only [Sem.run_bind,ht.run_sizeOf,Result.andThen_ok,Sem.run_pure,Addr.add_mid]
theorem ubi {e e':TypeId} {te:TI}(hu:P.underlying e=some (.slice e'))(ht:TyOk1 P e' te)(b off len cap:Nat)(k:IntKind)(i:Int)(h0:0≤i)(h1:i<len)(W:World):
 (Instr.indexAt e (.slice (some ⟨b,off,none⟩) len cap) (.int k i)).run P W = .ok (.pointer (some ⟨b,off+i.toNat*te.size,none⟩)) W:=by
 simp only [Instr.indexAt,asIntOf,Sem.run_bind,Sem.run_pure,Result.andThen_ok,run_underlying hu]
 rw [if_pos ⟨h0,h1⟩]
 simp only [Sem.run_bind,ht.run_sizeOf,Result.andThen_ok,Sem.run_pure,Addr.add_mid]
theorem uaP {e:TypeId} {x y:Operand} {v:Value}(hr:(Instr.indexAt e (a.eval x) (a.eval y)).run P W = .ok v W):
 (execOp a.eval ⟨dst,.indexAddr e x y,ty,pos,aft,gd⟩).run P W = .ok (.value v) W:=by
 simp only [execOp,Sem.run_bind,hr,Result.andThen_ok,Sem.run_pure]
theorem ujS (hT:uc5 P T)(h:Sat W0 B0 R0 N D t μ ν a W)(hv:∀id b,gH id=some b→t.H id=some b)(e:TypeId)(x y:Operand)(hK:opT T P ⟨dst,.indexAddr e x y,ty,pos,aft,gd⟩ nid t.E gH ord K):
 ubt P W0 B0 t μ ν K ((execOp a.eval ⟨dst,.indexAddr e x y,ty,pos,aft,gd⟩).run P W):=by
 simp only [opT]at hK
 split at hK
 ·rename_i ti k ix hte hy
  have hyv:=uae h hy
  have hrx:=uad h x
  have hix:=ubI h x
  split at hK
  ·rename_i n e' hk
   have hd:=(hT e ti hte).desc
   rw [hk]at hd
   split at hK
   ·rename_i te id off hte' hx
    have ht':=hT e' te hte'
    rw [hx]at hrx hix
    obtain⟨b,hb,hv⟩:=udp hrx
    split at hK
    ·rename_i j hj
     have hden:=uck hj
     split at hK
     ·rename_i hlt
      have:=ub1 hlt
      refine ua4 h (uaP (v:=.pointer (some ⟨b,off+j*te.size,none⟩)) ?_) hK (.own ν id _ b hb) (by simpa [SV.ids]using hix)
      rw [hv,hyv,ucw hd ht' b off k ix.den (by omega) (by omega) W,hden,Int.toNat_natCast]
     ·exact hK.elim
    ·obtain⟨ho,hK⟩:=hK
     obtain⟨h0,h1⟩:=ho ()
     refine ua4 h (uaP (v:=.pointer (some ⟨b,off+(ix.den.toNat*te.size+0),none⟩)) ?_) hK (.owe ν id off te.size n ix 0 b hb h0 h1) (by simpa [SV.ids]using hix)
     rw [hv,hyv,ucw hd ht' b off k ix.den h0 h1 W];rfl
   ·rename_i te id off sz m jx hte' hx
    have ht':=hT e' te hte'
    rw [hx]at hrx hix
    obtain⟨b,hb,hj0,hj1,hv⟩:=ugi hrx
    split at hK
    ·rename_i hsz
     have hse:=uac hsz
     obtain⟨ho,hK⟩:=hK
     obtain⟨h0,h1⟩:=ho ()
     have hle:jx.den*(n:Int)+ix.den<((m*n:Nat):Int):=by
      have h2:jx.den+1≤(m:Int):=by omega
      have h3:=Int.mul_le_mul_of_nonneg_right h2 (show(0:Int)≤(n:Int) by omega)
      rw [Int.add_mul,Int.one_mul]at h3
      rw [Int.natCast_mul];omega
     have hge:0≤jx.den*(n:Int):=Int.mul_nonneg hj0 (by omega)
     have hst:off+(jx.den.toNat*sz+0)+ix.den.toNat*te.size=off+((jx.den*(n:Int)+ix.den).toNat*te.size+0):=by
      have e1:(jx.den*(n:Int)+ix.den).toNat=jx.den.toNat*n+ix.den.toNat:=by
       obtain⟨j,hj⟩:=Int.eq_ofNat_of_zero_le hj0
       obtain⟨i,hi⟩:=Int.eq_ofNat_of_zero_le h0
       rw [hj,hi,←Int.natCast_mul,←Int.natCast_add]
       simp only [Int.toNat_natCast]
      rw [e1,←hse,Nat.add_mul,Nat.mul_assoc];omega
     refine ua4 h (uaP (v:=.pointer (some ⟨b,off+((jx.den*(n:Int)+ix.den).toNat*te.size+0),none⟩)) ?_) hK (.owe ν id off te.size (m*n) (.sym fun _=>jx.den*(n:Int)+ix.den) 0 b hb (by show 0≤jx.den*(n:Int)+ix.den;omega) hle) (by simpa [SV.ids]using hix)
     rw [hv,hyv,ucw hd ht' b _ k ix.den h0 h1 W,hst]
    ·exact hK.elim
   ·exact hK.elim
  ·rename_i e' hk
   have hd:=(hT e ti hte).desc
   rw [hk]at hd
   split at hK
   ·rename_i te sz n el hte' hx
    have ht':=hT e' te hte'
    rw [hx]at hrx
    split at hK
    ·rename_i hsz
     have hse:=uac hsz
     obtain⟨ho,hK⟩:=hK
     obtain⟨h0,h1⟩:=ho ()
     obtain⟨ad,len,cap,hv,hn,hc,hcase⟩:=ugp hrx
     rcases hcase with h2|⟨b,o,c,rfl,h2,h3,h4,h5,h6⟩
     ·omega
     ·refine ua4 h (uaP (v:=.pointer (some ⟨b,o+ix.den.toNat*sz+0,none⟩)) ?_) hK (.el ν sz n el ix 0 b o len c h4 hn h0 h1 h5 h6) (by simp [SV.ids])
      rw [hv,hyv,ubi hd ht' b o len cap k ix.den h0 (by omega) W,hse];rfl
    ·exact hK.elim
   ·rename_i te id hte' hx
    have ht':=hT e' te hte'
    rw [hx]at hrx hix
    split at hK
    ·rename_i ety sz n el hid
     split at hK
     ·rename_i hsz
      have hse:=uac hsz
      obtain⟨ho,hK⟩:=hK
      obtain⟨h0,h1⟩:=ho ()
      obtain⟨vr,q1,q2⟩:=h.ms.own.holds id _ (hv _ _ hid)
      have hrv:=(ufu hrx).1
      rw [q1]at hrv
      have hvx:a.eval x=vr:=(Option.some.inj hrv).symm
      rcases q2 with⟨_,p2,_⟩|⟨b,len,cap,cur,p1,rfl,p3,p4,p5,p6,p7,p8⟩
      ·omega
      ·refine ua4 h (uaP (v:=.pointer (some ⟨b,ix.den.toNat*sz+0,none⟩)) ?_) hK (.roe ν id sz ix 0 b p1 h0) (by simpa [SV.ids]using hix)
       rw [hvx,hyv,ubi hd ht' b 0 len cap k ix.den h0 (by omega) W,hse];simp
     ·exact hK.elim
    ·exact hK.elim
   ·rename_i te id off len cap sz hte' hx
    have ht':=hT e' te hte'
    rw [hx]at hrx hix
    obtain⟨b,hb,hv⟩:=ucC hrx
    split at hK
    ·rename_i j hsz hj
     have hse:=uac hsz
     have hden:=uck hj
     split at hK
     ·rename_i hlt
      have:=ub1 hlt
      refine ua4 h (uaP (v:=.pointer (some ⟨b,off+j*sz,none⟩)) ?_) hK (.own ν id _ b hb) (by simpa [SV.ids]using hix)
      rw [hv,hyv,ubi hd ht' b off len cap k ix.den (by omega) (by omega) W,hden,Int.toNat_natCast,hse]
     ·exact hK.elim
    ·rename_i hsz hj
     have hse:=uac hsz
     obtain⟨ho,hK⟩:=hK
     obtain⟨h0,h1⟩:=ho ()
     refine ua4 h (uaP (v:=.pointer (some ⟨b,off+(ix.den.toNat*sz+0),none⟩)) ?_) hK (.owe ν id off sz len ix 0 b hb h0 h1) (by simpa [SV.ids]using hix)
     rw [hv,hyv,ubi hd ht' b off len cap k ix.den h0 h1 W,hse];rfl
    ·exact hK.elim
   ·rename_i te id off sz m n hte' hx
    have ht':=hT e' te hte'
    rw [hx]at hrx hix
    obtain⟨b,len,cap,hb,hn,hlm,hlc,hcm,hv⟩:=ui2 hrx
    split at hK
    ·rename_i hsz
     have hse:=uac hsz
     obtain⟨ho,hK⟩:=hK
     obtain⟨h0,h1⟩:=ho ()
     refine ua4 h (uaP (v:=.pointer (some ⟨b,off+(ix.den.toNat*sz+0),none⟩)) ?_) hK (.owe ν id off sz m ix 0 b hb h0 (by omega)) (by simpa [SV.ids]using hix)
     rw [hv,hyv,ubi hd ht' b off len cap k ix.den h0 (by omega) W,hse];rfl
    ·exact hK.elim
   ·exact hK.elim
  ·exact hK.elim
 ·exact hK.elim
theorem urU {l:List SV}:∀{j:Nat} {s:SV},nth l j=some s→∀id∈s.ids,id∈SV.idsL l:=by
 induction l with
 |nil=>intro j s h;simp [nth]at h
 | cons x l ih=>
  intro j s h id hid
  rw [ubF]
  cases j with
  |zero=>simp only [nth,Option.some.injEq]at h;subst h;exact List.mem_append_left _ hid
  |succ j=>exact List.mem_append_right _ (ih h id hid)
theorem un6 (h:Sat W0 B0 R0 N D t μ ν a W)(x:Operand)(j:Nat)(hK:opT T P ⟨dst,.extract x j,ty,pos,aft,gd⟩ nid t.E gH ord K):
 ubt P W0 B0 t μ ν K ((execOp a.eval ⟨dst,.extract x j,ty,pos,aft,gd⟩).run P W):=by
 simp only [opT]at hK
 split at hK
 ·rename_i l hx
  have hrx:=uad h x
  have hix:=ubI h x
  rw [hx]at hrx hix
  split at hK
  ·rename_i s hj
   obtain⟨cs,hv,_⟩:=ugf hrx
   rw [hv]at hrx
   obtain⟨c,h1,h2⟩:=ujU hrx hj
   have hc:(⟨cs⟩:Array Value)[j]? =some c:=by simpa using h1
   refine ua4 h (v:=c) ?_ hK h2 (fun id hid=>hix id (by simp only [SV.ids];exact urU hj id hid))
   simp only [execOp,hv,Instr.extract,hc]
   rfl
  ·exact hK.elim
 ·exact hK.elim
theorem ul3 {e:TypeId} {ti:TI}(ht:TyOk1 P e ti)(cs:Array Value)(o:Nat)(hl:o+ti.size≤cs.size)(W:World):(part e cs o).run P W = .ok (uiF ti cs.toList o) W:=by
 unfold part uiF
 rw [Sem.run_bind,ht.run_isAgg]
 cases ha:ti.isAgg with
 | true=>
  simp only [Result.andThen_ok,if_true,Sem.run_bind,ht.run_sizeOf,Sem.run_pure]
  congr 2
  apply Array.ext'
  simp [List.extract_eq_take_drop]
 | false=>
  have h1:=ht.one ha
  have hlt:o<cs.size:=by omega
  simp only [Result.andThen_ok,Bool.false_eq_true,if_false,Array.getElem?_eq_getElem hlt,Sem.run_pure,List.getD_eq_getElem?_getD,Array.getElem?_toList,Option.getD_some]
theorem usY (hT:uc5 P T)(h:Sat W0 B0 R0 N D t μ ν a W)(e:TypeId)(x:Operand)(j:Nat)(hK:opT T P ⟨dst,.field e x j,ty,pos,aft,gd⟩ nid t.E gH ord K):
 ubt P W0 B0 t μ ν K ((execOp a.eval ⟨dst,.field e x j,ty,pos,aft,gd⟩).run P W):=by
 simp only [opT]at hK
 split at hK
 ·rename_i ti l hte hx
  have hrx:=uad h x
  have hix:=ubI h x
  rw [hx]at hrx hix
  obtain⟨cs,hv,hl⟩:=ucD hrx
  split at hK
  ·rename_i fs hk
   have hd:=(hT e ti hte).desc
   rw [hk]at hd
   obtain⟨fields,hu,hfs,hsz⟩:=hd
   split at hK
   ·rename_i o ft hj
    split at hK
    ·rename_i tf htf
     have htf':=hT ft tf htf
     rw [uhc,←hfs,List.getElem?_map]at hj
     cases hf:fields.toList[j]? with
     |none=>rw [hf]at hj;simp at hj
     | some f=>
      rw [hf]at hj
      simp only [Option.map_some,Option.some.injEq,Prod.mk.injEq]at hj
      obtain⟨rfl,rfl⟩:=hj
      have hf':fields[j]? =some f:=by simpa using hf
      refine ubV htf' h (.inl rfl) hl (fun _ id hid=>hix id (by rw [ubE];exact hid)) hK (fun hle=> ?_)
      simp only [execOp,hv,Instr.field,Sem.run_bind,run_underlying hu,Result.andThen_ok,hf',asAgg,Sem.run_pure,ul3 htf' ⟨cs⟩ f.offset hle]
    ·exact hK.elim
   ·exact hK.elim
  ·exact hK.elim
 ·exact hK.elim
theorem us7 (hT:uc5 P T)(h:Sat W0 B0 R0 N D t μ ν a W)(e:TypeId)(x y:Operand)(hK:opT T P ⟨dst,.index e x y,ty,pos,aft,gd⟩ nid t.E gH ord K):
 ubt P W0 B0 t μ ν K ((execOp a.eval ⟨dst,.index e x y,ty,pos,aft,gd⟩).run P W):=by
 simp only [opT]at hK
 split at hK
 ·rename_i ti l k ix hte hx hy
  have hrx:=uad h x
  have hixx:=ubI h x
  rw [hx]at hrx hixx
  obtain⟨cs,hv,hl⟩:=ucD hrx
  have hyv:=uae h hy
  split at hK
  ·rename_i n e' hk
   have hd:=(hT e ti hte).desc
   rw [hk]at hd
   split at hK
   ·rename_i te j hte' hj
    have ht':=hT e' te hte'
    have hden:=uck hj
    split at hK
    ·rename_i hlt
     have hlt':=ub1 hlt
     refine ubV ht' h (.inl rfl) hl (fun _ id hid=>hixx id (by rw [ubE];exact hid)) hK (fun hle=> ?_)
     simp only [execOp,hv,hyv,Instr.index,asIntOf,Sem.run_bind,Sem.run_pure,run_underlying hd,Result.andThen_ok]
     rw [if_pos ⟨by omega,by omega⟩]
     simp only [Sem.run_bind,ht'.run_sizeOf,Result.andThen_ok,hden,Int.toNat_natCast,ul3 ht' ⟨cs⟩ (j*te.size) hle]
    ·exact hK.elim
   ·exact hK.elim
  ·exact hK.elim
 ·exact hK.elim
end
end Go.Eng

namespace Go.Eng
open Go
theorem udw (g:Nat→Option To):∀s:SV,∀j∈(s.sub g).ids,(j∈s.ids∧g j=none)∨∃i∈s.ids,g i=some (.id j):=by
 intro s
 apply SV.rec (motive_1:=fun s=>∀j∈(s.sub g).ids,(j∈s.ids∧g j=none)∨∃i∈s.ids,g i=some (.id j)) (motive_2:=fun l=>∀j∈SV.idsL (SV.subL g l),(j∈SV.idsL l∧g j=none)∨∃i∈SV.idsL l,g i=some (.id j))
 case int=>intro k x j hj;simp [SV.sub,SV.ids]at hj
 case bool=>intro x j hj;simp [SV.sub,SV.ids]at hj
 case val=>intro x j hj;simp [SV.sub,SV.ids]at hj
 case any=>intro j hj;simp [SV.sub,SV.ids]at hj
 case own=>
  intro id off j hj
  simp only [SV.sub]at hj
  split at hj<;>simp [SV.ids]at hj⊢
  ·subst hj;exact .inl ⟨rfl,by assumption⟩
  ·subst hj;exact .inr (by assumption)
 case owe=>
  intro id off sz n ix o2 j hj
  simp only [SV.sub]at hj
  split at hj<;>simp [SV.ids]at hj⊢
  ·subst hj;exact .inl ⟨rfl,by assumption⟩
  ·subst hj;exact .inr (by assumption)
 case roe=>
  intro id sz ix o2 j hj
  simp only [SV.sub]at hj
  split at hj<;>simp [SV.ids]at hj⊢
  ·subst hj;exact .inl ⟨rfl,by assumption⟩
  ·subst hj;exact .inr (by assumption)
 case row=>
  intro id j hj
  simp only [SV.sub]at hj
  split at hj<;>simp [SV.ids]at hj⊢
  ·subst hj;exact .inl ⟨rfl,by assumption⟩
  ·subst hj;exact .inr (by assumption)
 case ows=>
  intro id off len cap sz j hj
  simp only [SV.sub]at hj
  split at hj
  ·simp [SV.ids]at hj⊢
   subst hj;exact .inl ⟨rfl,by assumption⟩
  ·simp [SV.ids]at hj⊢
   subst hj;exact .inr (by assumption)
  ·split at hj<;>simp [SV.ids]at hj
  ·simp [SV.ids]at hj
 case sl=>intro sz n e ih j hj;simp [SV.sub,SV.ids]at hj
 case pp=>intro off c ih j hj;simp [SV.sub,SV.ids]at hj
 case el=>intro sz n e ix off ih j hj;simp [SV.sub,SV.ids]at hj
 case arr=>intro n f ih j hj;simp [SV.sub,SV.ids]at hj
 case agg=>intro l ih j hj;simp only [SV.sub,SV.ids]at hj⊢;exact ih j hj
 case tup=>intro l ih j hj;simp only [SV.sub,SV.ids]at hj⊢;exact ih j hj
 case clo=>
  intro fn p q ih1 ih2 j hj
  simp only [SV.sub,SV.ids]at hj⊢
  rcases List.mem_append.1 hj with hj|hj
  ·rcases ih1 j hj with⟨h1,h2⟩|⟨i,h1,h2⟩
   ·exact .inl ⟨List.mem_append_left _ h1,h2⟩
   ·exact .inr ⟨i,List.mem_append_left _ h1,h2⟩
  ·rcases ih2 j hj with⟨h1,h2⟩|⟨i,h1,h2⟩
   ·exact .inl ⟨List.mem_append_right _ h1,h2⟩
   ·exact .inr ⟨i,List.mem_append_right _ h1,h2⟩
 case mp=>
  intro id j hj
  simp only [SV.sub]at hj
  split at hj<;>simp [SV.ids]at hj⊢
  ·subst hj;exact .inl ⟨rfl,by assumption⟩
  ·subst hj;exact .inr (by assumption)
 case owd=>
  intro id off sz m n j hj
  simp only [SV.sub]at hj
  split at hj
  ·simp [SV.ids]at hj⊢
   subst hj;exact .inl ⟨rfl,by assumption⟩
  ·simp [SV.ids]at hj⊢
   subst hj;exact .inr (by assumption)
  ·split at hj<;>simp [SV.ids]at hj
  ·simp [SV.ids]at hj
 case memo=>intro kt vt sc nk F _ j hj;simp [SV.sub,SV.ids]at hj
 case mapx=>intro kt vt sc nk D F _ j hj;simp [SV.sub,SV.ids]at hj
 case nil=>intro j hj;simp [SV.subL,SV.idsL]at hj
 case cons=>
  intro s l ih1 ih2 j hj
  simp only [SV.subL,SV.idsL]at hj⊢
  rcases List.mem_append.1 hj with hj|hj
  ·rcases ih1 j hj with⟨h1,h2⟩|⟨i,h1,h2⟩
   ·exact .inl ⟨List.mem_append_left _ h1,h2⟩
   ·exact .inr ⟨i,List.mem_append_left _ h1,h2⟩
  ·rcases ih2 j hj with⟨h1,h2⟩|⟨i,h1,h2⟩
   ·exact .inl ⟨List.mem_append_right _ h1,h2⟩
   ·exact .inr ⟨i,List.mem_append_right _ h1,h2⟩
theorem uq5 (g:Nat→Option To)(l:List SV):∀j∈SV.idsL (SV.subL g l),(j∈SV.idsL l∧g j=none)∨∃i∈SV.idsL l,g i=some (.id j):=by
 have:=udw g (.agg l)
 simpa only [SV.sub,SV.ids]using this
theorem uft (g:Nat→Option To)(b:Blk):∀j∈ua9 (b.sub g),(j∈ua9 b∧g j=none)∨∃i∈ua9 b,g i=some (.id j):=by
 cases b with
 |cells l ty=>exact uq5 g l
 |row=>intro j hj;simp [Blk.sub,ua9]at hj
 |map=>intro j hj;simp [Blk.sub,ua9]at hj
 |it=>intro j hj;simp [Blk.sub,ua9]at hj
theorem Blk.Holds.sub {μ μ':Mem}(hμ:∀b c,μ b=some c→μ' b=some c) {ν ν':Vl} {W W':World} {id:Nat} {blk:Blk}(g:Nat→Option To)(h:blk.Holds μ ν W id)
 (h0:ν'.b id=ν.b id∧ν'.r id=ν.r id) (ht:∀j∈ua9 blk,uax μ' ν ν' g j) (hW:∀b,ν.b id=some b→W'.heap[b]? =W.heap[b]?):(blk.sub g).Holds μ' ν' W' id:=by
 cases blk with
 | cells l ty=>
  obtain⟨b,cs,h1,h2,h3⟩:=h
  have:=h3.sub hμ g ν' (fun j hj=>ht j (by simpa [ua9,SV.ids]using hj))
  exact⟨b,cs,h0.1.trans h1,(hW b h1).trans h2,by simpa only [SV.sub]using this⟩
 |row ety sz n e=>exact h.mono hμ (fun j hj=>by simp [ua9]at hj;subst hj;exact h0) hW
 |map kt vt sc nk f=>exact h.mono hμ (fun j hj=>by simp [ua9]at hj;subst hj;exact h0) hW
 |it=>exact h.mono hμ (fun j hj=>by simp [ua9]at hj;subst hj;exact h0) hW
theorem ubY {W0:World} {B0:Nat→Prop} {H H':Nat→Option Blk} {μ μ':Mem} {ν ν':Vl} {W W':World}(h:MSat W0 B0 H μ ν W)(g:Nat→Option To)(New:Nat→Prop)
 (hle:∀b c,μ b=some c→μ' b=some c) (hmem:ubR μ' W') (hfrm:Frm B0 W0 W')
 (hkeep:∀id blk,¬New id→H' id=some blk→∃b0,H id=some b0∧blk=b0.sub g)
 (hν:∀id,¬New id→(H' id).isSome=true→ν'.b id=ν.b id∧ν'.r id=ν.r id)
 (hW:∀id b,¬New id→(H' id).isSome=true→ν.b id=some b→W'.heap[b]? =W.heap[b]?)
 (hturn:∀id b0,¬New id→(H' id).isSome=true→H id=some b0→∀j∈ua9 b0,uax μ' ν ν' g j)
 (hout:∀id b,¬New id→(H' id).isSome=true→ν.b id=some b→μ' b=none)
 (hwf:∀id blk,¬New id→H' id=some blk→∀j∈ua9 blk,(H' j).isSome=true)
 (hnew:∀id blk,New id→H' id=some blk→blk.Holds μ' ν' W' id∧(∀j∈ua9 blk,(H' j).isSome=true) ∧
  ∀b,ν'.b id=some b→μ' b=none∧(W0.heap.size≤b∨B0 b)∧∀id',(H' id').isSome=true→ν'.b id'=some b→id'=id):
 MSat W0 B0 H' μ' ν' W':=by
 have ua3:∀id,¬New id→(H' id).isSome=true→(H id).isSome=true:=fun id hn hs=>by
  obtain⟨blk,hb⟩:=Option.isSome_iff_exists.1 hs
  obtain⟨b0,h1,_⟩:=hkeep id blk hn hb
  exact ua2 h1
 refine⟨hmem,⟨fun id blk hb=> ?_,fun id id' b hs hs' hb hb'=> ?_,fun id b hs hb=> ?_,fun id b hs hb=> ?_⟩,hfrm,fun id blk hb=> ?_⟩
 ·by_cases hn:New id
  ·exact(hnew id blk hn hb).1
  ·obtain⟨b0,h1,rfl⟩:=hkeep id blk hn hb
   exact(h.own.holds id b0 h1).sub hle g (hν id hn (ua2 hb)) (hturn id b0 hn (ua2 hb) h1) (fun b hb'=>hW id b hn (ua2 hb) hb')
 ·by_cases hn:New id
  ·obtain⟨blk,hk⟩:=Option.isSome_iff_exists.1 hs
   exact(((hnew id blk hn hk).2.2 b hb).2.2 id' hs' hb').symm
  ·by_cases hn':New id'
   ·obtain⟨blk,hk⟩:=Option.isSome_iff_exists.1 hs'
    exact((hnew id' blk hn' hk).2.2 b hb').2.2 id hs hb
   ·rw [(hν id hn hs).1]at hb
    rw [(hν id' hn' hs').1]at hb'
    exact h.own.inj id id' b (ua3 id hn hs) (ua3 id' hn' hs') hb hb'
 ·by_cases hn:New id
  ·obtain⟨blk,hk⟩:=Option.isSome_iff_exists.1 hs
   exact((hnew id blk hn hk).2.2 b hb).1
  ·rw [(hν id hn hs).1]at hb
   exact hout id b hn hs hb
 ·by_cases hn:New id
  ·obtain⟨blk,hk⟩:=Option.isSome_iff_exists.1 hs
   exact((hnew id blk hn hk).2.2 b hb).2.1
  ·rw [(hν id hn hs).1]at hb
   exact h.own.place id b (ua3 id hn hs) hb
 ·by_cases hn:New id
  ·exact(hnew id blk hn hb).2.1
  ·exact hwf id blk hn hb
theorem uee (s:SV):s.sub (fun _=>none)=s:=by
 apply SV.rec (motive_1:=fun s=>s.sub (fun _=>none)=s) (motive_2:=fun l=>SV.subL (fun _=>none) l=l)<;>intros<;>simp_all [SV.sub,SV.subL]
theorem unU (l:List SV):SV.subL (fun _=>none) l=l:=by
 have:=uee (.agg l)
 simpa only [SV.sub,SV.agg.injEq]using this
theorem ubU (b:Blk):b.sub (fun _=>none)=b:=by
 cases b with
 |cells l ty=>simp only [Blk.sub,unU]
 |row=>rfl
 |map=>rfl
 |it=>rfl
theorem ue7 :uam []=fun _=>none:=rfl
theorem ucg (sub:List (Nat×To))(H:Nat→Option Blk)(k:Nat):uaJ sub H k=(H k).map (Blk.sub (uam sub)):=by
 cases sub with
 | nil=>
  simp only [uaJ,ue7]
  cases H k with
  |none=>rfl
  |some b=>simp [ubU]
 |cons=>rfl
theorem ug7 (sub:List (Nat×To))(s:SV):urr sub s=s.sub (uam sub):=by
 cases sub with
 |nil=>simp [urr,ue7,uee]
 |cons=>rfl
theorem ubD (g:Nat→Option To)(b:Blk):(b.sub g).isRow=b.isRow:=by cases b<;>rfl
end Go.Eng

namespace Go.Eng
open Go
theorem IX.den_lit (n:Int):(IX.lit n).den=n:=rfl
structure SrcOk (P:Program)(μ:Mem)(W:World)(X:Value)(sz:Nat)(m:Nat)(new:IX→List SV)(news:List Value):Prop where
 form:∃ad c,X = .slice ad m c∧(m=0∨∃a,ad=some a∧∀j u,news[j]? =some u→W.cell? (a.add j)=some u)
 len:news.length=m*sz
 one:∀u∈news,u.oneCell'=true
 rel:∀ix:IX,0≤ix.den→ix.den<(m:Int)→ubp μ Vl.nil (new ix) ((news.drop (ix.den.toNat*sz)).take sz)
theorem ue9 {μ:Mem} {n m sz:Nat} {elem new elem':IX→List SV}(ha:ucI (n:Int) elem (m:Int) new elem') {olds news:List Value}(hlo:olds.length=n*sz)(hln:news.length=m*sz)
 (h1:∀ix:IX,0≤ix.den→ix.den<(n:Int)→ubp μ Vl.nil (elem ix) ((olds.drop (ix.den.toNat*sz)).take sz))
 (h2:∀ix:IX,0≤ix.den→ix.den<(m:Int)→ubp μ Vl.nil (new ix) ((news.drop (ix.den.toNat*sz)).take sz)):
 ∀ix:IX,0≤ix.den→ix.den<((n+m:Nat):Int)→ubp μ Vl.nil (elem' ix) (((olds++news).drop (ix.den.toNat*sz)).take sz):=by
 intro ix h0 hlt
 by_cases hn:ix.den<(n:Int)
 ·have hfit:ix.den.toNat*sz+sz≤n*sz:=by
   have:(ix.den.toNat+1)*sz≤n*sz:=Nat.mul_le_mul_right _ (by omega)
   rw [Nat.add_mul]at this;omega
  have:=ha.1 μ Vl.nil ix _ h0 hn (h1 ix h0 hn) ix rfl
  rw [List.drop_append_of_le_length (by omega),List.take_append_of_le_length (by simp;omega)]
  exact this
 ·have hj:ix.den-n<(m:Int):=by omega
  have h3:=h2 (.lit (ix.den-n)) (by simp only [IX.den_lit];omega) (by simp only [IX.den_lit];omega)
  simp only [IX.den_lit]at h3
  have:=ha.2 μ Vl.nil (.lit (ix.den-n)) _ (by simp only [IX.den_lit];omega) (by simp only [IX.den_lit];omega) h3 ix (by simp only [IX.den_lit];omega)
  have e:ix.den.toNat*sz=n*sz+(ix.den-n).toNat*sz:=by
   rw [←Nat.add_mul]
   congr 1
   omega
  rw [e,←hlo,List.drop_append]
  rw [List.drop_of_length_le (by omega)]
  simpa using this
theorem ubX {P:Program} {e et:TypeId} {te:TI}(hu:P.underlying e=some (.slice et))(ht:TyOk1 P et te)(hsz:0<te.size)(W:World)(tyr:TypeId)(base:Option Addr)(n cap:Nat)(olds:List Value)
 (hlo:olds.length=n*te.size) (ho:n=0∨∃b,base=some b∧∀j u,olds[j]? =some u→W.cell? (b.add j)=some u)
 (ad:Option Addr) (m c:Nat) (news:List Value) (hl:news.length=m*te.size) (hs:m=0∨∃a,ad=some a∧∀j u,news[j]? =some u→W.cell? (a.add j)=some u)
 (hgrow:cap<n+m) (hm:m≠0) (hb:(n+m)*te.bytes≤140737488355328) (h63:n+m≤maxLen):
 ∃ cur:Array Value,∃cap':Nat,n+m≤cap'∧cap'≤maxLen∧cur.size=cap'*te.size∧cur.toList.take ((n+m)*te.size)=olds++news ∧
  (Builtin.append_ #[e,e] tyr #[.slice base n cap,.slice ad m c]).run P W = .ok (.slice (some ⟨W.heap.size,0,none⟩) (n+m) cap') (W.drew.alloc (.cells cur et)):=by
 obtain⟨i,hi,hi1,hi2,hi3⟩:=ht.info
 rcases hs with h0|⟨a,rfl,ha⟩
 ·exact absurd h0 hm
 have h63':¬(9223372036854775807<((n:Int)+(m:Int))):=by simp only [maxLen]at h63;omega
 have hfit:Builtin.nextslicecap (n+m) cap*te.bytes≤281474976710656:=growslice_fits hgrow hb
 have h48':¬(281474976710656<Builtin.nextslicecap (n+m) cap*te.bytes):=by omega
 have hf:=run_firstCells_some (P:=P) W.drew te.size m a m c news hl (by simpa using ha)
 have hge:=grownCap_ge W (n+m) cap et
 have hcm:=grownCap_le_maxLen W (n+m) cap et h63
 have hfo:(Builtin.firstCells te.size n (.slice base n cap)).run P W.drew = .ok olds.toArray W.drew:=by
  rcases ho with h0|⟨b,rfl,hob⟩
  ·subst h0
   have:olds=[]:=List.eq_nil_of_length_eq_zero (by simpa using hlo)
   subst this
   cases base<;>simp [Builtin.firstCells,loadCells,loadCellsFrom]
  ·exact run_firstCells_some (P:=P) W.drew te.size n b n cap olds hlo (by simpa using hob)
 have hzl:(ugE te).cells.size=te.size:=by rw [ubB ht];exact ht.len
 refine⟨olds.toArray++news.toArray++Builtin.zeroCells (ugE te).cells (grownCap W (n+m) cap et-(n+m)),grownCap W (n+m) cap et,hge,hcm,?_,?_,?_⟩
 ·simp only [Array.size_append,List.size_toArray,size_zeroCells,hzl,hlo,hl,←Nat.add_mul]
  congr 1
  omega
 ·simp only [Array.toList_append,List.append_assoc]
  rw [←List.append_assoc]
  have:(n+m)*te.size=(olds++news).length:=by simp [hlo,hl,Nat.add_mul]
  rw [this]
  exact List.take_left
 ·have hn:¬(n+m≤cap):=by omega
  simp [Builtin.append_,run_underlying hu,sizeOf,typeInfo,zeroValue,hi,hi1,hi2,hi3,Builtin.lenOf,hn,h63',h48',Question.forced,hf,hfo,newRow,grownCap]
  congr 2
  apply Array.ext'
  simp
theorem ucq {P:Program} {e et:TypeId} {te:TI}(hu:P.underlying e=some (.slice et))(ht:TyOk1 P et te)(W:World)(tyr:TypeId)(base:Option Addr)(n cap:Nat)(hn:n≤cap)(ad:Option Addr)(c:Nat):
 (Builtin.append_ #[e,e] tyr #[.slice base n cap,.slice ad 0 c]).run P W = .ok (.slice base n cap) W:=by
 obtain⟨i,hi,hi1,hi2,hi3⟩:=ht.info
 have hf:(Builtin.firstCells te.size 0 (.slice ad 0 c)).run P W = .ok #[] W:=by cases ad<;>simp [Builtin.firstCells,loadCells,loadCellsFrom]
 cases base<;>simp [Builtin.append_,run_underlying hu,sizeOf,typeInfo,hi,hi1,Builtin.lenOf,hn,hf,storeCells]
section
variable {P:Program} {T:uar} {W0:World} {B0:Nat→Prop} {R0:Bor} {N:Nat} {D:List Deferred} {t:Sta} {μ:Mem} {ν:Vl} {a:Act} {W:World} {K:Upd→Prop}
variable {nid:Nat} {gH:Nat→Option Blk} {ord:Bool} {dst:Option Tmp} {ty:TypeId} {pos:String} {aft:Array Edge} {gd:Option (Nat×Bool)}
def Vl.setR (ν:Vl)(id:Nat)(b:Option Nat)(v:Value):Vl:=⟨fun k=>if k=id then b else ν.b k,fun k=>if k=id then some v else ν.r k⟩
theorem uqj {W':World}(h:Frm B0 W0 W)(ho:W'.os=W.os)(ht:W'.tape=W.tape)(hp:W'.output=W.output)(hs:W.heap.size≤W'.heap.size)(hb:∀b,b<W0.heap.size→¬B0 b→W'.heap[b]? =W.heap[b]?):Frm B0 W0 W':=
 ⟨ho.trans h.os,ht.trans h.tape,hp.trans h.output,Nat.le_trans h.size hs,fun b h1 h2=>(hb b h1 h2).trans (h.block b h1 h2)⟩
theorem ubG (h:Sat W0 B0 R0 N D t μ ν a W) {id:Nat}(hid:t.H id=none∨∃e s n l,t.H id=some (.row e s n l)) {sub:List (Nat×To)}
 (hsub:(sub=[]∧t.H id=none)∨sub=[(id,.gone)]) {row:Blk} (hrow:ua9 row=[]∧row.isRow=true) {ob:Option Nat} {v:Value} {W':World}
 (hh:row.Holds μ (ν.setR id ob v) W' id) (h1:v.oneCell'=true)
 (hos:W'.os=W.os) (htp:W'.tape=W.tape) (hout:W'.output=W.output) (hsz:W.heap.size≤W'.heap.size)
 (hW:∀b,b<W.heap.size→(∀b',ob=some b'→ν.b id=some b'→(t.H id).isSome=true→b≠b')→W'.heap[b]? =W.heap[b]?)
 (hob:∀b,ob=some b→b=W.heap.size∨(ν.b id=some b∧(t.H id).isSome=true)):
 UpdOk W0 B0 t ⟨.row id,[(id,some row)],sub⟩ μ ν μ (ν.setR id ob v) v W':=by
 have hne:∀k,k≠id→(ν.setR id ob v).b k=ν.b k∧(ν.setR id ob v).r k=ν.r k:=fun k hk=>by simp [Vl.setR,hk]
 have hg:∀k,k≠id→uam sub k=none:=fun k hk=>by
  rcases hsub with⟨rfl,_⟩|rfl
  ·rfl
  ·have:Nat.beq id k=false:=by
    cases q:Nat.beq id k with
    |true=>exact absurd (uac q).symm hk
    |false=>rfl
   simp [uam,lk,this]
 have hgid:(uam sub id=none∧t.H id=none)∨uam sub id=some .gone:=by
  rcases hsub with⟨rfl,h0⟩|rfl
  ·exact .inl ⟨rfl,h0⟩
  ·right
   have:Nat.beq id id=true:=Nat.beq_refl id
   simp [uam,lk,this]
 have hturn:∀k,(t.H k).isSome=true→uax μ ν (ν.setR id ob v) (uam sub) k:=fun k hk=>by
  unfold uax
  by_cases e:k=id
  ·subst e
   rcases hgid with⟨_,h0⟩|h0
   ·rw [h0]at hk;cases hk
   ·rw [h0];trivial
  ·rw [hg k e];exact hne k e
 have hids:∀(l:List Nat),(∀j∈l,(t.H j).isSome=true)→∀j,((j∈l∧uam sub j=none)∨∃i∈l,uam sub i=some (.id j))→(t.H j).isSome=true∧j≠id:=fun l hl j hj=>by
  rcases hj with⟨q1,q2⟩|⟨i,q1,q2⟩
  ·refine⟨hl j q1,?_⟩
   rintro rfl
   rcases hgid with⟨_,h0⟩|h0
   ·have:=hl j q1;rw [h0]at this;cases this
   ·rw [h0]at q2;cases q2
  ·by_cases e:i=id
   ·subst e
    rcases hgid with⟨h0,_⟩|h0<;>rw [h0]at q2<;>cases q2
   ·rw [hg i e]at q2;cases q2
 have hH : ∀k,uao (uaJ sub t.H) [(id,some row)] k=if k=id then some row else(t.H k).map (Blk.sub (uam sub)):=fun k=>by
  simp only [uao]
  by_cases e:k=id
  ·simp [e]
  ·simp only [e,if_false]
   cases sub with
   | nil =>
    simp only [uaJ]
    cases t.H k with
    |none=>rfl
    | some b=>
     simp only [Option.map_some,Option.some.injEq]
     have key:∀s:SV,s.sub (uam [])=s:=fun s=>by
      apply SV.rec (motive_1:=fun s=>s.sub (uam [])=s) (motive_2:=fun l=>SV.subL (uam []) l=l)<;>intros<;>simp_all [SV.sub,SV.subL,uam,lk]
     cases b with
     | cells l ty=>
      simp only [Blk.sub]
      have:=key (.agg l)
      simp only [SV.sub,SV.agg.injEq]at this
      rw [this]
     |row=>rfl
     |map=>rfl
     |it=>rfl
   |cons x r=>rfl
 have hsome:∀k,(t.H k).isSome=true→(uao (uaJ sub t.H) [(id,some row)] k).isSome=true:=fun k hk=>by
  rw [hH]
  by_cases e:k=id
  ·simp [e]
  ·simp [e,hk]
 refine⟨.row _ id v (by simp [Vl.setR]) h1,fun j hj=> ?_,fun s x hx hi=> ?_,?_,fun k blk hk=> ?_,MLe.refl _ _ _⟩
 rotate_right
 ·rw [hH]
  by_cases e:k=id
  ·subst e
   rcases hid with h0|⟨p1,p2,p3,p4,h0⟩
   ·rw [h0]at hk;cases hk
   ·rw [h0]at hk
    cases hk
    exact⟨row,if_pos rfl,hrow.2,fun q=>by cases q⟩
  ·rw [if_neg e,hk]
   exact⟨_,rfl,by cases blk<;>rfl,fun _=>by rw [(hne k e).1,(hne k e).2]⟩
 ·simp only [SV.ids,List.mem_singleton]at hj
  rw [hH,if_pos hj];rfl
 ·rcases hsub with⟨rfl,h0⟩|hs
  ·have hnid:∀j∈s.ids,j≠id:=fun j hj e=>by have:=hi j hj;rw [e,h0]at this;cases this
   exact⟨hx.mono (fun _ _ h=>h) _ (fun j hj=>hne j (hnid j hj)),fun j hj=>hsome j (hi j hj)⟩
  ·have hS:urr sub s=s.sub (uam sub):=by rw [hs];rfl
   simp only [hS]
   exact⟨hx.sub (fun _ _ h=>h) _ _ (fun j hj=>hturn j (hi j hj)),fun j hj=>hsome j (hids _ hi j (udw _ s j hj)).1⟩
 ·have hblk:∀k b,k≠id→(t.H k).isSome=true→ν.b k=some b→W'.heap[b]? =W.heap[b]? :=fun k b hk hs hb=>
   hW b (h.ms.own.lt hs hb) (fun b' e1 e2 e3 e4=>hk (h.ms.own.inj k id b hs e3 hb (by rw [e4];exact e2)))
  have hfr:=h.ms.frm
  refine ubY h.ms (uam sub) (fun k=>k=id) (fun _ _ h=>h) (fun b c hc=> ?_) (uqj hfr hos htp hout hsz (fun b hb hB=> ?_)) (fun k blk hk hb=> ?_) (fun k hk _=>hne k hk) (fun k b hk hs hb=> ?_) (fun k b0 hk _ hb0 j hj=>hturn j (h.ms.wf k b0 hb0 j hj)) (fun k b hk hs hb=> ?_) (fun k blk hk hb j hj=> ?_) (fun k blk hk hb=> ?_)
  ·refine(h.ms.mem b c hc).same (hW b (h.ms.mem b c hc).lt (fun b' e1 e2 e3 e4=> ?_))
   have:=h.ms.own.out id b' e3 e2
   rw [←e4,hc]at this;cases this
  ·refine hW b (by have:=hfr.size;omega) (fun b' e1 e2 e3 e4=> ?_)
   subst e4
   rcases h.ms.own.place id b e3 e2 with q|q
   ·omega
   ·exact hB q
  ·rw [hH,if_neg hk]at hb
   cases hq:t.H k with
   |none=>rw [hq]at hb;cases hb
   |some b0=>rw [hq]at hb;exact⟨b0,rfl,(Option.some.inj hb).symm⟩
  ·rw [hH,if_neg hk]at hs
   exact hblk k b hk (by simpa using hs) hb
  ·rw [hH,if_neg hk]at hs
   exact h.ms.own.out k b (by simpa using hs) hb
  ·rw [hH,if_neg hk]at hb
   cases hq:t.H k with
   |none=>rw [hq]at hb;cases hb
   | some b0=>
    rw [hq]at hb
    simp only [Option.map_some,Option.some.injEq]at hb
    subst hb
    exact hsome j (hids _ (h.ms.wf k b0 hq) j (uft _ b0 j hj)).1
  ·have hk':k=id:=hk
   subst hk'
   rw [hH,if_pos rfl,Option.some.injEq]at hb
   subst hb
   refine⟨hh,(fun j hj=>(by rw [hrow.1]at hj;cases hj)),fun b hb=> ?_⟩
   simp only [Vl.setR,if_true]at hb
   rcases hob b hb with rfl|⟨q1,q2⟩
   ·refine⟨?_,.inl hfr.size,fun id' hs' hb'=> ?_⟩
    ·cases hm:μ W.heap.size with
     |none=>rfl
     |some c=>have:=h.ms.mem.lt hm;omega
    ·apply Classical.byContradiction
     intro e
     rw [hH,if_neg e]at hs'
     simp only [Vl.setR,e,if_false]at hb'
     have:=h.ms.own.lt (by simpa using hs') hb'
     omega
   ·refine⟨h.ms.own.out k b q2 q1,h.ms.own.place k b q2 q1,fun id' hs' hb'=> ?_⟩
    apply Classical.byContradiction
    intro e
    rw [hH,if_neg e]at hs'
    simp only [Vl.setR,e,if_false]at hb'
    exact e (h.ms.own.inj id' k b (by simpa using hs') q2 hb' q1)
end
end Go.Eng
