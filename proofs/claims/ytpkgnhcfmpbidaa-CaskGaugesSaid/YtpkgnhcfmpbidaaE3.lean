/- The engine by which contracts are proved. No condition. -/
import Derived.Test.YtpkgnhcfmpbidaaE2
import Derived.LoopNIn
import Derived.RangeFuncLeaves
import Derived.RangeFuncIn
import Derived.RangeFuncSeq
import Derived.RangeFuncRecord
import Derived.RangeFuncNested
import Derived.Scope
set_option linter.unusedVariables false
set_option linter.unusedSimpArgs false
set_option linter.deprecated false

namespace Go.Eng
open Go
theorem ubz {k:Nat}:∀(hs:List (Nat×Option Blk)) (H H':Nat→Option Blk),H k=H' k→uao H hs k=uao H' hs k:=by
 intro hs
 induction hs with
 |nil=>intro H H' h;exact h
 | cons x r ih=>
  intro H H' h
  obtain⟨id,b⟩:=x
  simp only [uao]
  exact ih _ _ (by by_cases e:k=id<;>simp [e,h])
theorem ub7 {k:Nat}:∀(hs:List (Nat×Option Blk)) (H:Nat→Option Blk),(∀p∈hs,p.1≠k)→uao H hs k=H k:=by
 intro hs
 induction hs with
 |nil=>intro H _;rfl
 | cons x r ih=>
  intro H h
  obtain⟨id,b⟩:=x
  simp only [uao]
  rw [ih _ fun p hp=>h p (List.mem_cons_of_mem _ hp)]
  have:k≠id:=fun e=>h (id,b) (by simp) e.symm
  simp [this]
theorem ulM {t:Sta} {d:Option Nat} {u:Upd} {nid:Nat}(hu:u.Calm nid) {k:Nat}(hk:k≠nid):(t.upd d u).H k=t.H k:=by
 obtain⟨h1,h2⟩:=hu
 simp only [Sta.upd,h1,uaJ]
 exact ub7 _ _ fun p hp e=>hk (e.symm.trans (h2 p hp))
theorem ulE {t:Sta} {d:Option Nat} {u:Upd} {nid:Nat}(hu:u.Calm nid) {k:Nat}(hk:d≠some k):(t.upd d u).E k=t.E k:=by
 simp only [Sta.upd,hu.1,ucX]
 cases d with
 |none=>rfl
 | some d=>
  simp only [uc0]
  rw [if_neg fun e=>hk (by rw [e])]
theorem uqe {t:Sta} {d d':Option Nat} {u u':Upd} {nid nid':Nat}(hu:u.Calm nid)(hu':u'.Calm nid')(hn:nid≠nid')(hd:∀k,d=some k→d'≠some k):
 (t.upd d u).upd d' u'=(t.upd d' u').upd d u:=by
 obtain⟨h1,h2⟩:=hu
 obtain⟨h3,h4⟩:=hu'
 simp only [Sta.upd,h1,h3,ucX,uaJ]
 congr 1
 ·funext k
  cases d with
  |none=>rfl
  | some d=>
   cases d' with
   |none=>rfl
   | some d'=>
    have:d≠d':=fun e=>hd d rfl (by rw [e])
    simp only [uc0]
    by_cases e:k=d<;>by_cases e':k=d'<;>simp_all
 ·funext k
  by_cases e:k=nid'
  ·rw [ub7 u.hs _ fun p hp q=>hn ((h2 p hp).symm.trans (q.trans e))]
   exact ubz _ _ _ (ub7 _ _ fun p hp q=>hn ((h2 p hp).symm.trans (q.trans e)))
  ·rw [ub7 u'.hs _ fun p hp q=>e (q.symm.trans (h4 p hp))]
   exact(ubz _ _ _ (ub7 _ _ fun p hp q=>e (q.symm.trans (h4 p hp)))).symm
def unQ (ops:List Oper)(x y:Oper):Bool:=
 (match x.dst with
  | some d=>match ud1 (ufY ops y) d,(match y.dst with|some d'=>Nat.beq d d'|none=>false)with
   |false,false=>true
   |_,_=>false
  |none=>true) &&
 (match y.dst with
  |some d=> !ud1 (ufY ops x) d
  |none=>true)
theorem uan {l:List Nat} {n:Nat}:ud1 l n=true↔n∈l:=by
 induction l with
 |nil=>simp [ud1]
 | cons x l ih=>
  simp only [ud1]
  cases hb:Nat.beq x n with
  |true=>have:=uac hb;simp [this]
  | false=>
   have:¬n=x:=by rintro rfl;simp at hb
   simp [ih,this]
structure Apart (ops:List Oper)(x y:Oper):Prop where
 yx:∀d,x.dst=some d→d∉ufY ops y
 dst:∀d,x.dst=some d→y.dst≠some d
 xy:∀d,y.dst=some d→d∉ufY ops x
theorem ukc {ops:List Oper} {x y:Oper}(h:unQ ops x y=true):Apart ops x y:=by
 unfold unQ at h
 rw [Bool.and_eq_true]at h
 obtain⟨h1,h2⟩:=h
 refine⟨fun d hd=> ?_,fun d hd e=> ?_,fun d hd=> ?_⟩
 ·rw [hd]at h1
  simp only []at h1
  split at h1
  ·rename_i q _
   intro hm
   rw [uan.2 hm]at q;cases q
  ·cases h1
 ·rw [hd,e]at h1
  simp only [Nat.beq_refl]at h1
  split at h1
  ·rename_i q;cases q
  ·cases h1
 ·rw [hd]at h2
  intro hm
  simp only [uan.2 hm]at h2
  cases h2
def xB (e1 e:SE)(o1 o:Oper):Bool:=Nat.beq e1.k 2&&Nat.beq e.k 1&& !e.ord&&isS o&&eqX e1.x e.x
def urC (e1 e:SE)(o1:Oper):Bool:=((Nat.beq e1.k 4&&Nat.beq e.k 3)||(Nat.beq e1.k 6&&Nat.beq e.k 2&&eqX e1.x e.x))&&umM o1&& !e1.g
def wOk (e:SE)(o:Oper):Bool:= !(isS o&&(Nat.beq e.k 2||Nat.beq e.k 3))&& !((Nat.beq e.k 4||Nat.beq e.k 6)&& !umM o)&& !(Nat.beq e.k 1&&uoO o)
def w4 (e:SE)(o1:Oper):Bool:=isS o1|| !Nat.beq e.k 4
def ufG (ops:List Oper)(e1 e:SE)(o1 o:Oper)(b:Bool):Bool:=match unQ ops o1 o&&wOk e1 o1&&wOk e o&&w4 e o1,ud1 e.pre e1.i,ud1 e1.pre e.i,Nat.beq e1.i e.i with
    | true,false,false,false=>match e1.ord,e.ord with
     |false,false=>isS o1||isS o
     |_,_=>(((uco o1&&ugH o)||(ugH o1&&uco o))||((uoO o1&& !e1.g)||(uoO o&& !e.g)))||b
    |_,_,_,_=>false
def ugq (ops:List Oper)(e1 e:SE):Bool:=match nth ops e1.i,nth ops e.i with
 |some o1,some o=>ufG ops e1 e o1 o ((xB e1 e o1 o||xB e e1 o o1)||urC e1 e o1)
 |_,_=>false
def ugD (ops:List Oper)(e1 e:SE):Bool:=match ud1 e1.pre e.i with
 |true=>false
 |false=>ud1 e.pre e1.i||ugq ops e1 e
def ueB (ops:List Oper):List SE→Bool
 |[]=>true
 |e::l=>l.all (ugD ops e)&&ueB ops l
def ue3 (e:Edge):Bool:=match e.ground with
 | .textOnly _=>false
 | .gcOnly _=>false
 |_=>true
def deps (o:Oper):List Nat:=go o.after.toList
where go:List Edge→List Nat
 |[]=>[]
 | e::l=>match ue3 e with
  |true=>e.on::go l
  |false=>go l
def udX (l0:List SE)(x:Nat):List Nat→Bool
 |[]=>false
 |d::r=>l0.any (fun e'=>Nat.beq e'.i d&&ud1 e'.pre x)||udX l0 x r
def preB (ops:List Oper)(l0:List SE)(e:SE):Bool:=match nth ops e.i with
 | some o=>match ud1 e.pre e.i with
  |true=>false
  |false=>(deps o).all (fun d=>ud1 e.pre d&&Nat.blt d ops.length)&&e.pre.all (fun x=>ud1 (deps o) x||udX l0 x (deps o))
 |none=>false
def ubv :List SE→List Nat
 |[]=>[]
 |e::l=>e.i::ubv l
def ubu (ops:List Oper)(l:List SE):Bool:=Nat.beq l.length ops.length&&ui4 (ubv l)&&ueB ops l&&l.all (preB ops l)
structure Wr (base:Nat)(e:SE)(u:Upd):Prop where
 one:e.k=1→∀x,e.x=some x→x∉u.val.ids∧∀p∈u.hs,∀b,p.2=some b→x∉ua9 b
 two:e.k=2→(∀p∈u.sub,e.x=some p.1∧p.2 = .gone)∧∀p∈u.hs,e.x=some p.1
 three:e.k=3→(∀p∈u.hs,base≤p.1)∧∀p∈u.sub,base≤p.1
 four:e.k=4→∀id∈u.val.ids,id<base
 six:e.k=6→∀x,e.x=some x→x∉u.val.ids
theorem un5 {X:Option Nat}:∀{l:List (Nat×To)},uvw X l=true→∀p∈l,X=some p.1∧p.2 = .gone:=by
 intro l
 induction l with
 |nil=>intro _ p hp;cases hp
 | cons q l ih=>
  obtain⟨id,t⟩:=q
  intro h p hp
  cases t with
  | gone=>
   simp only [uvw]at h
   split at h
   ·split at h
    ·rename_i hx
     rcases List.mem_cons.1 hp with q|q
     ·rw [q,uac hx];exact⟨rfl,rfl⟩
     ·exact ih h p q
    ·cases h
   ·cases h
  |_=>cases h
theorem unV {x:Nat}:∀{l:List (Nat×Option Blk)},utA x l=true→∀p∈l,∀b,p.2=some b→x∉ua9 b:=by
 intro l
 induction l with
 |nil=>intro _ p hp;cases hp
 | cons q l ih=>
  obtain⟨id,b0⟩:=q
  intro h p hp b hb
  cases b0 with
  | none=>
   simp only [utA]at h
   rcases List.mem_cons.1 hp with q|q
   ·rw [q]at hb;cases hb
   ·exact ih h p q b hb
  | some b0=>
   simp only [utA]at h
   split at h
   ·cases h
   ·rename_i hm
    rcases List.mem_cons.1 hp with q|q
    ·rw [q]at hb
     cases hb
     intro hin
     rw [uan.2 hin]at hm;cases hm
    ·exact ih h p q b hb
theorem uni {X:Option Nat} {hs:List (Nat×Option Blk)}(h:uvL X hs=true):∀p∈hs,X=some p.1:=by
 induction hs with
 |nil=>intro p hp;cases hp
 | cons q l ih=>
  obtain⟨id,b⟩:=q
  simp only [uvL]at h
  split at h
  ·split at h
   ·rename_i hx
    have hid:=uac hx
    intro p hp
    rcases List.mem_cons.1 hp with q|q
    ·rw [q,hid]
    ·exact ih h p q
   ·cases h
  ·cases h
theorem uqs {base:Nat}:∀{l:List (Nat×Option Blk)},geH base l=true→∀p∈l,base≤p.1:=by
 intro l
 induction l with
 |nil=>intro _ p hp;cases hp
 | cons x l ih=>
  obtain⟨id,b⟩:=x
  intro h p hp
  simp only [geH]at h
  split at h
  ·rename_i q
   rcases List.mem_cons.1 hp with rfl|hp
   ·exact ub9 q
   ·exact ih h p hp
  ·cases h
theorem upQ {base:Nat}:∀{l:List (Nat×To)},geS base l=true→∀p∈l,base≤p.1:=by
 intro l
 induction l with
 |nil=>intro _ p hp;cases hp
 | cons x l ih=>
  obtain⟨id,b⟩:=x
  intro h p hp
  simp only [geS]at h
  split at h
  ·rename_i q
   rcases List.mem_cons.1 hp with rfl|hp
   ·exact ub9 q
   ·exact ih h p hp
  ·cases h
theorem umR {n:Nat}:∀{l:List Nat},ugJ l n=true→∀x∈l,x<n:=by
 intro l
 induction l with
 |nil=>intro _ x hx;cases hx
 | cons y l ih=>
  intro h x hx
  simp only [ugJ]at h
  split at h
  ·rename_i q
   rcases List.mem_cons.1 hx with rfl|hx
   ·exact ub1 q
   ·exact ih h x hx
  ·cases h
theorem upW {base:Nat} {e:SE} {u:Upd} {p:Prop}(h:wrK base e u p):Wr base e u∧p:=by
 unfold wrK at h
 split at h
 ·rename_i q
  refine⟨⟨fun hk=> ?_,fun hk=> ?_,fun hk=> ?_,fun hk=> ?_,fun hk=> ?_⟩,h⟩
  ·unfold wrB at q
   rw [hk]at q
   simp only [show Nat.beq 1 1=true from rfl,show Nat.beq 1 6=false from rfl]at q
   intro x hx
   rw [hx]at q
   simp only [uvE]at q
   split at q
   ·cases q
   ·rename_i hm
    exact⟨fun hin=>(by rw [uan.2 hin]at hm;cases hm),unV q⟩
  ·unfold wrB at q
   rw [hk]at q
   simp only [show Nat.beq 2 6=false from rfl,show Nat.beq 2 1=false from rfl,show Nat.beq 2 2=true from rfl]at q
   split at q
   ·rename_i q1
    exact⟨un5 q1,uni q⟩
   ·cases q
  ·unfold wrB at q
   rw [hk]at q
   simp only [show Nat.beq 3 6=false from rfl,show Nat.beq 3 1=false from rfl,show Nat.beq 3 2=false from rfl,show Nat.beq 3 3=true from rfl]at q
   split at q
   ·rename_i q1
    exact⟨uqs q1,upQ q⟩
   ·cases q
  ·unfold wrB at q
   rw [hk]at q
   exact umR q
  ·unfold wrB at q
   rw [hk]at q
   simp only [show Nat.beq 6 6=true from rfl]at q
   intro x hx
   rw [hx]at q
   simp only [uvE]at q
   split at q
   ·cases q
   ·rename_i hm
    exact fun hin=>(by rw [uan.2 hin]at hm;cases hm)
 ·exact h.elim
theorem up8 (base:Nat)(e:SE)(s:SV)(h:s.ids=[]):Wr base e (ua5 s):=⟨fun _ x _=>⟨by rw [show(ua5 s).val=s from rfl,h];simp,fun p hp=>(by cases hp)⟩,fun _=>⟨fun p hp=>(by cases hp),fun p hp=>(by cases hp)⟩,fun _=>⟨fun p hp=>(by cases hp),fun p hp=>(by cases hp)⟩,fun _ id hid=>(by rw [show(ua5 s).val=s from rfl,h]at hid;cases hid),fun _ x _ hid=>(by rw [show(ua5 s).val=s from rfl,h]at hid;cases hid)⟩
theorem ucE {E E':Nat→SV} {e:SE} {k:Nat}(h:E k=E' k):uaW E e k=uaW E' e k:=by
 unfold uaW
 cases Nat.beq e.k 1 with
 | true=>cases e.x with
  |none=>exact h
  |some x=>simp only [h]
 |false=>exact h
theorem uhZ {E:Nat→SV} {e:SE}(h:e.k≠1):uaW E e=E:=by
 unfold uaW
 cases q:Nat.beq e.k 1 with
 |true=>exact absurd (uac q) h
 |false=>rfl
theorem usz {e:SE} {b:Option Blk}(h:e.k≠1):ur7 e b=b:=by
 unfold ur7
 split
 ·rename_i q;exact absurd (uac q) h
 ·rfl
theorem ut4 {e:SE} {b:Option Blk} {c:Blk}(h:ur7 e b=some c):b=some c:=by
 unfold ur7 at h
 split at h
 ·split at h
  ·split at h
   ·exact h
   ·cases h
  ·cases h
 ·exact h
def uw5 (g:Nat→Option To):Prop:=∀i,g i=none∨g i=some .gone
theorem ulH {g:Nat→Option To}(hg:uw5 g):∀s:SV,udh (s.sub g)=udh s∧(udh s=true→s.sub g=s):=by
 intro s
 apply SV.rec (motive_1:=fun s=>udh (s.sub g)=udh s∧(udh s=true→s.sub g=s)) (motive_2:=fun l=>ucL (SV.subL g l)=ucL l∧(ucL l=true→SV.subL g l=l))
 case nil=>exact⟨rfl,fun _=>rfl⟩
 case cons=>
  intro x l h1 h2
  simp only [SV.subL,ucL,h1.1,h2.1]
  refine⟨trivial,fun h=> ?_⟩
  split at h
  ·rename_i hc;rw [h1.2 hc,h2.2 h]
  ·cases h
 case clo=>
  intro fn a b h1 h2
  simp only [SV.sub,udh,h1.1,h2.1]
  refine⟨trivial,fun h=> ?_⟩
  split at h
  ·rename_i hc;rw [h1.2 hc,h2.2 h]
  ·cases h
 case agg=>intro l h;simp only [SV.sub,udh,h.1];exact⟨trivial,fun q=>by rw [h.2 q]⟩
 case tup=>intro l h;simp only [SV.sub,udh,h.1];exact⟨trivial,fun q=>by rw [h.2 q]⟩
 case own=>intro id off;rcases hg id with q|q<;>simp [SV.sub,udh,q]
 case owe=>intro id a b c d e;rcases hg id with q|q<;>simp [SV.sub,udh,q]
 case roe=>intro id a b c;rcases hg id with q|q<;>simp [SV.sub,udh,q]
 case row=>intro id;rcases hg id with q|q<;>simp [SV.sub,udh,q]
 case ows=>intro id a b c d;rcases hg id with q|q<;>simp [SV.sub,udh,q]
 case owd=>intro id a b c d;rcases hg id with q|q<;>simp [SV.sub,udh,q]
 case mp=>intro id;rcases hg id with q|q<;>simp [SV.sub,udh,q]
 all_goals (intros;first|exact⟨rfl,fun _=>rfl⟩|simp [SV.sub,udh])
theorem uk0 {g:Nat→Option To}(hg:uw5 g)(l:List SV):ucL (SV.subL g l)=ucL l∧(ucL l=true→SV.subL g l=l):=by
 have h:=ulH hg (.agg l)
 simp only [SV.sub,udh,SV.agg.injEq]at h
 exact h
theorem upk {g:Nat→Option To}(hg:uw5 g) {e:SE}(hk:e.k=1)(b:Option Blk):ur7 e (b.map (Blk.sub g))=ur7 e b:=by
 unfold ur7
 rw [hk]
 simp only [show Nat.beq 1 1=true from rfl]
 cases b with
 |none=>rfl
 | some b=>
  simp only [Option.map_some]
  cases b with
  | cells l ty=>
   have h:=uk0 hg l
   simp only [Blk.sub,urg,h.1]
   cases hc:ucL l with
   |true=>simp only [h.2 hc]
   |false=>rfl
  |row=>rfl
  |map=>rfl
  |it=>rfl
theorem unh {h:Nat→Option To} {x:Nat}(hh:∀i,h i=none∨(h i=some .gone∧i=x)):∀s:SV,(s.sub h).sub (uam [(x,.gone)])=s.sub (uam [(x,.gone)]):=by
 have hx:uam [(x,.gone)] x=some .gone:=by simp only [uam,lk,Nat.beq_refl]
 intro s
 apply SV.rec (motive_1:=fun s=>(s.sub h).sub (uam [(x,.gone)])=s.sub (uam [(x,.gone)])) (motive_2:=fun l=>SV.subL (uam [(x,.gone)]) (SV.subL h l)=SV.subL (uam [(x,.gone)]) l)
 case nil=>rfl
 case cons=>intro a l h1 h2;simp only [SV.subL,h1,h2]
 case clo=>intro fn a b h1 h2;simp only [SV.sub,h1,h2]
 case agg=>intro l h1;simp only [SV.sub,h1]
 case tup=>intro l h1;simp only [SV.sub,h1]
 case own=>intro id off;rcases hh id with q|⟨q,rfl⟩<;>simp [SV.sub,q,hx]
 case owe=>intro id a b c d e;rcases hh id with q|⟨q,rfl⟩<;>simp [SV.sub,q,hx]
 case roe=>intro id a b c;rcases hh id with q|⟨q,rfl⟩<;>simp [SV.sub,q,hx]
 case row=>intro id;rcases hh id with q|⟨q,rfl⟩<;>simp [SV.sub,q,hx]
 case ows=>intro id a b c d;rcases hh id with q|⟨q,rfl⟩<;>simp [SV.sub,q,hx]
 case owd=>intro id a b c d;rcases hh id with q|⟨q,rfl⟩<;>simp [SV.sub,q,hx]
 case mp=>intro id;rcases hh id with q|⟨q,rfl⟩<;>simp [SV.sub,q,hx]
 all_goals (intros;rfl)
theorem udL {x:Nat}:∀{l:List (Nat×To)},(∀p∈l,some x=some p.1∧p.2 = .gone)→∀i,uam l i=none∨(uam l i=some .gone∧i=x):=by
 intro l
 induction l with
 |nil=>intro _ i;exact .inl rfl
 | cons p l ih=>
  intro h i
  obtain⟨h1,h2⟩:=h p (by simp)
  obtain⟨id,t⟩:=p
  have h1:x=id:=Option.some.inj h1
  have h2:t = .gone:=h2
  subst h1 h2
  simp only [uam,lk]
  cases hb:Nat.beq x i with
  |true=>exact .inr ⟨rfl,(uac hb).symm⟩
  |false=>exact ih (fun q hq=>h q (List.mem_cons_of_mem _ hq)) i
theorem ueL (s:List (Nat×To))(E:Nat→SV)(k:Nat):ucX s E k=(E k).sub (uam s):=by
 cases s with
 | nil=>
  simp only [ucX,ue7]
  exact(uee _).symm
 |cons=>rfl
def ub6 (T:uar)(P:Program)(ops:List Oper)(base N:Nat):List SE→Sta→(Sta→Prop)→Prop
 |[],t,K=>K ⟨t.E,t.H,base+N⟩
 | e::rest,t,K=>match nth ops e.i with
  |some o=>uaK T P ops o (base+e.i) (uaW t.E e) (uaI t.H base e) e.ord e.g (fun u=>Wr base e u∧ub6 T P ops base N rest (t.upd o.dst u) K)
  |none=>False
section
variable {T:uar} {P:Program} {ops:List Oper} {base N:Nat} {K:Sta→Prop}
theorem uhF {K':LS→Prop}(hk:∀s,K' s→K s.fs):∀(l:List SE) (s:LS),s.nxt=base→udy T P ops N l s K'→ub6 T P ops base N l s.fs K:=by
 intro l
 induction l with
 | nil=>
  intro s hb h
  subst hb
  exact hk _ h
 | cons e l ih=>
  intro s hb h
  simp only [udy]at h
  simp only [ub6]
  cases ho:nth ops e.i with
  |none=>rw [ho]at h;exact h.elim
  | some o=>
   rw [ho]at h
   simp only at h⊢
   have hstep:∀u,udy T P ops N l (ub4 s o.dst u) K'→ub6 T P ops base N l (s.fs.upd o.dst u) K:=fun u hu=>by
    rw [←uaD]
    refine ih _ ?_ hu
    rw [←hb]
    unfold ub4
    cases u.sub<;>rfl
   have hno:udy T P ops N l ⟨ude s.env o.dst (.tup []),s.H,s.nxt⟩ K'→ub6 T P ops base N l (s.fs.upd o.dst (ua5 (.tup []))) K:=fun hu=>by
    have:=ih ⟨ude s.env o.dst (.tup []),s.H,s.nxt⟩ hb hu
    rw [←uaD]
    exact this
   have hsplit:∀u,ubq e.g u (fun u=>wrK s.nxt e u (udy T P ops N l (ub4 s o.dst u) K'))→ubq e.g u (fun u=>Wr s.nxt e u∧ub6 T P ops base N l (s.fs.upd o.dst u) K):=fun u hu=>by
    obtain⟨u',_,_,_,_,h3⟩:=ubC e.g u
    have hw:=upW ((h3 _).1 hu)
    exact(h3 _).2 ⟨hw.1,hstep u' hw.2⟩
   unfold unM at h
   unfold uaK
   subst hb
   show match ukK ops o (uaW (ubO s) e)with
    | .yes=>_
    | .no=>_
    | .ask _ f w=>_
    | .bad=>False
   split
   ·rename_i e;rw [e]at h;exact ub3 (fun u _=>hsplit u) h
   ·rename_i e;rw [e]at h;exact⟨up8 _ _ _ (by simp [SV.ids,SV.idsL]),hno h⟩
   ·rename_i e;rw [e]at h;exact⟨fun q=>ub3 (fun u _=>hsplit u) (h.1 q),fun q=>⟨up8 _ _ _ (by simp [SV.ids,SV.idsL]),hno (h.2 q)⟩⟩
   ·rename_i e;rw [e]at h;exact h
theorem uli {gH:Nat→Option Blk} {nxt:Nat} {e:SE}:∀id b,uaI gH nxt e id=some b→gH id=some b:=by
 intro id b h
 unfold uaI at h
 split at h
 ·exact ut4 h
 ·cases h
theorem ueW {nxt:Nat} {e:SE} {id:Nat}(h:ueh nxt e id=true):hid e id=false∧(id<nxt∨(e.k≠4∧(id=nxt+e.i∨(id-nxt)∈e.pre))):=by
 unfold ueh at h
 split at h
 ·cases h
 ·rename_i h0
  refine⟨h0,?_⟩
  split at h
  ·rename_i h1;exact .inl (ub1 h1)
  ·split at h
   ·cases h
   ·rename_i h4
    refine .inr ⟨fun q=>(by rw [q]at h4;cases h4),?_⟩
    split at h
    ·rename_i h2;exact .inl (uac h2)
    ·exact .inr (uan.1 h)
theorem und {t:Sta} {d:Option Nat} {u:Upd} {e1 e:SE}(hu:u.Calm (base+e1.i))(hne:e1.i≠e.i)(hpre:e1.i∉e.pre):uaI (t.upd d u).H base e=uaI t.H base e:=by
 funext id
 unfold uaI
 cases hs:ueh base e id with
 |false=>rfl
 | true=>
  have h:=(ueW hs).2
  have:id≠base+e1.i:=fun q=>by
   rcases h with h|⟨_,h|h⟩
   ·omega
   ·omega
   ·rw [show id-base=e1.i by omega]at h
    exact hpre h
  simp only [ulM hu this]
theorem upo {t:Sta} {d:Option Nat} {u:Upd} {e:SE} {x:Nat}(hs:∀p∈u.sub,some x=some p.1∧p.2 = .gone)(hh:∀p∈u.hs,some x=some p.1)(hk:e.k=1)(hx:e.x=some x):uaI (t.upd d u).H base e=uaI t.H base e:=by
 funext id
 unfold uaI
 cases hsn:ueh base e id with
 |false=>rfl
 | true=>
  have hid0:=(ueW hsn).1
  have hne:id≠x:=fun q=>by
   unfold hid at hid0
   rw [hk,hx,q]at hid0
   simp [uvH]at hid0
  simp only []
  have e1:(t.upd d u).H id=(t.H id).map (Blk.sub (uam u.sub)):=by
   show uao (uaJ u.sub t.H) u.hs id=_
   rw [ub7 _ _ fun p hp q=>hne ((Option.some.inj (hh p hp)).trans q).symm,ucg]
  rw [e1]
  exact upk (fun i=>(udL hs i).imp (fun q=>q) fun q=>q.1) hk _
theorem ulq {t:Sta} {o1 o:Oper} {e1 e:SE} {u:Upd}(hu:u.Calm (base+e1.i))(hne:e1.i≠e.i)(hpre:e1.i∉e.pre)(hl:∀d,o1.dst=some d→d∉ufY ops o) {KU:Upd→Prop}:
 uaK T P ops o (base+e.i) (uaW (t.upd o1.dst u).E e) (uaI (t.upd o1.dst u).H base e) e.ord e.g KU=uaK T P ops o (base+e.i) (uaW t.E e) (uaI t.H base e) e.ord e.g KU:=
 uby (fun k hk=>ucE (ulE hu fun e=>hl k e hk)) (und hu hne hpre)
structure Ind0 (ops:List Oper)(e1 e:SE)(o1 o:Oper):Prop where
 ap:Apart ops o1 o
 p1:e1.i∉e.pre
 p:e.i∉e1.pre
 ne:e1.i≠e.i
theorem Ind0.symm {ops:List Oper} {e1 e:SE} {o1 o:Oper}(h:Ind0 ops e1 e o1 o):Ind0 ops e e1 o o1:=
 ⟨⟨h.ap.xy,fun d hd e=>h.ap.dst d e hd,h.ap.yx⟩,h.p,h.p1,h.ne.symm⟩
structure Indep (ops:List Oper)(e1 e:SE)(o1 o:Oper):Prop extends Ind0 ops e1 e o1 o where
 kind:((e1.ord=false∧e.ord=false)∨((uco o1=true∧ugH o=true)∨(ugH o1=true∧uco o=true))∨(xB e1 e o1 o=true∨xB e e1 o o1=true))∨(uoO o1=true∧e1.g=false)∨(uoO o=true∧e.g=false)∨urC e1 e o1=true
 s:isS o1=true∨isS o=true
 w1:wOk e1 o1=true
 w:wOk e o=true
 w4:isS o1=true∨e.k≠4
def ujE (e1 e:SE)(o1 o:Oper):Prop:=(e1.ord=false∧e.ord=false)∨((uco o1=true∧ugH o=true)∨(ugH o1=true∧uco o=true))∨(xB e1 e o1 o=true∨xB e e1 o o1=true)
theorem ujE.symm {e1 e:SE} {o1 o:Oper}(h:ujE e1 e o1 o):ujE e e1 o o1:=h.elim (fun q=>.inl ⟨q.2,q.1⟩) fun q=>.inr (q.elim (fun q=>.inl (q.elim (fun q=>.inr ⟨q.2,q.1⟩) fun q=>.inl ⟨q.2,q.1⟩)) fun q=>.inr q.symm)
theorem udm {t:Sta} {d:Option Nat} {u:Upd}(hu:u.sub=[]) {k:Nat}(hk:d≠some k):(t.upd d u).E k=t.E k:=by
 simp only [Sta.upd,hu,ucX]
 cases d with
 |none=>rfl
 | some d=>
  simp only [uc0]
  rw [if_neg fun e=>hk (by rw [e])]
theorem ueX {t:Sta} {d d':Option Nat} {u u':Upd}(hu:u.sub=[])(hu':u'.sub=[])(hn:u.hs=[]∨u'.hs=[])(hd:∀k,d=some k→d'≠some k):
 (t.upd d u).upd d' u'=(t.upd d' u').upd d u:=by
 simp only [Sta.upd,hu,hu',ucX,uaJ]
 congr 1
 ·funext k
  cases d with
  |none=>rfl
  | some d=>
   cases d' with
   |none=>rfl
   | some d'=>
    have:d≠d':=fun e=>hd d rfl (by rw [e])
    simp only [uc0]
    by_cases e:k=d<;>by_cases e':k=d'<;>simp_all
 ·rcases hn with q|q<;>rw [q]<;>rfl
theorem ui1 {a b:Option Nat}(h:eqX a b=true):a=b:=by
 cases a<;>cases b<;>first|rfl|(cases h;done)|(rw [uac h])
theorem ufh {e1 e:SE} {o1 o:Oper}(h:xB e1 e o1 o=true):e1.k=2∧e1.x=e.x∧e.k=1∧e.ord=false∧isS o=true:=by
 simp only [xB,Bool.and_eq_true,Bool.not_eq_true']at h
 exact⟨uac h.1.1.1.1,ui1 h.2,uac h.1.1.1.2,h.1.1.2,h.1.2⟩
theorem ugw {e1 e:SE} {o1:Oper}(h:urC e1 e o1=true):((e1.k=4∧e.k=3)∨(e1.k=6∧e.k=2∧e1.x=e.x))∧umM o1=true∧e1.g=false:=by
 simp only [urC,Bool.and_eq_true,Bool.or_eq_true,Bool.not_eq_true']at h
 exact⟨h.1.1.imp (fun q=>⟨uac q.1,uac q.2⟩) fun q=>⟨uac q.1.1,uac q.1.2,ui1 q.2⟩,h.1.2,h.2⟩
theorem uxY {o:Oper}(h:umM o=true):isS o=true:=by
 obtain⟨dst,op,ty,pos,aft,gd⟩:=o
 cases gd<;>cases op<;>first|rfl|cases h
theorem uue {o:Oper}(h:umM o=true)(ge:Nat→SV):ukK ops o ge = .yes:=by
 obtain⟨dst,op,ty,pos,aft,gd⟩:=o
 cases gd with
 |none=>rfl
 |some _=>cases op<;>cases h
theorem uiQ (u:Upd)(K:Upd→Prop):ubq false u K=K u:=by unfold ubq;split<;>first|rfl|contradiction
theorem usa {o:Oper} {nid:Nat} {ge:Nat→SV} {gH:Nat→Option Blk} {ord g:Bool} {KU:Upd→Prop}(h:umM o=true)(hg:g=false)(hK:uaK T P ops o nid ge gH ord g KU):uaK T P ops o nid ge gH ord g fun u=>u.hs=[]∧u.sub=[]:=by
 subst hg
 unfold uaK at hK⊢
 simp only [uue h,uiQ]at hK⊢
 exact ub3 (fun u _ hk=>hk.2) (uga h hK)
theorem ul8 {S:Nat→Prop} {sub:List (Nat×To)}(h:∀p∈sub,¬S p.1) {id:Nat}(hid:S id):uam sub id=none:=by
 unfold uam
 induction sub with
 |nil=>rfl
 | cons p l ih=>
  obtain⟨k,x⟩:=p
  have hk:¬S k:=h (k,x) (by simp)
  have:Nat.beq k id=false:=by
   cases q:Nat.beq k id with
   |true=>have:=uac q;subst this;exact absurd hid hk
   |false=>rfl
  simp only [lk,this]
  exact ih fun p hp=>h p (List.mem_cons_of_mem _ hp)
theorem uho {g:Nat→Option To}:∀s:SV,(∀id∈s.ids,g id=none)→s.sub g=s:=by
 intro s
 apply SV.rec (motive_1:=fun s=>(∀id∈s.ids,g id=none)→s.sub g=s) (motive_2:=fun l=>(∀id∈SV.idsL l,g id=none)→SV.subL g l=l)
 case cons=>
  intro x l h1 h2 h
  simp only [SV.idsL,List.mem_append]at h
  simp only [SV.subL,h1 fun id hid=>h id (.inl hid),h2 fun id hid=>h id (.inr hid)]
 case clo=>
  intro fn a b h1 h2 h
  simp only [SV.ids,List.mem_append]at h
  simp only [SV.sub,h1 fun id hid=>h id (.inl hid),h2 fun id hid=>h id (.inr hid)]
 all_goals intros
 all_goals simp_all [SV.sub,SV.subL,SV.ids,SV.idsL]
theorem ukY {S:Nat→Prop} {sub:List (Nat×To)}(h:∀p∈sub,¬S p.1) {s:SV}(hs:∀id∈s.ids,S id):urk sub s=s:=by
 unfold urk
 split
 ·rfl
 ·exact uho s fun id hid=>ul8 h (hs id hid)
def ug1 :SV→Bool
 | .arr _ _=>true
 |_=>false
theorem ueT (g:Nat→Option To)(s:SV):ug1 (s.sub g)=ug1 s:=by
 cases s<;>simp only [SV.sub]<;>(repeat' split)<;>rfl
theorem ulc {s:SV}(h:ug1 s=false)(l:List SV)(o:Nat):ubN (s::l) (o+1)=ubN l o:=by
 cases s<;>first|rfl|cases h
theorem ukx {s:SV}(h:ug1 s=false)(l:List SV)(o:Nat):ubg (s::l) (o+1)=(ubg l o).map (s:: ·):=by
 cases s<;>first|(cases h;done)|(simp only [ubg];cases ubg l o<;>rfl)
theorem uks {s:SV}(h:ug1 s=false)(l:List SV)(o:Nat):udb (s::l) o=match o with
 |0=>some s
 |o+1=>udb l o:=by
 cases s<;>first|rfl|cases h
theorem uoE {s:SV}(h:ug1 s=false)(l:List SV)(o:Nat):uip (s::l) o=match o with
 |0=>none
 |o+1=>uip l o:=by
 cases s<;>first|rfl|cases h
theorem ulh {s:SV}(h:ug1 s=true):∃n f,s = .arr n f:=by
 cases s<;>first|exact⟨_,_,rfl⟩|cases h
theorem uo0 (g:Nat→Option To):∀(l:List SV) (o:Nat),ubN (SV.subL g l) o=(ubN l o).map (SV.subL g):=by
 intro l
 induction l with
 |nil=>intro o;cases o<;>rfl
 | cons s l ih=>
  intro o
  cases o with
  |zero=>simp only [SV.subL,ubN,Option.map_some]
  | succ o=>
   cases ha:ug1 s with
   | false=>
    simp only [SV.subL]
    rw [ulc ha,ulc (by rw [ueT];exact ha),ih]
   | true=>
    obtain⟨n,f,rfl⟩:=ulh ha
    simp only [SV.subL,SV.sub,ubN]
    split
    ·exact ih _
    ·simp only [Option.map_some,SV.subL,SV.sub]
theorem uoJ (g:Nat→Option To):∀(l:List SV) (o:Nat),ubg (SV.subL g l) o=(ubg l o).map (SV.subL g):=by
 intro l
 induction l with
 |nil=>intro o;cases o<;>rfl
 | cons s l ih=>
  intro o
  cases o with
  |zero=>simp only [SV.subL,ubg,Option.map_some]
  | succ o=>
   cases ha:ug1 s with
   | false=>
    simp only [SV.subL]
    rw [ukx ha,ukx (by rw [ueT];exact ha),ih]
    cases ubg l o<;>simp only [Option.map_none,Option.map_some,SV.subL]
   | true=>
    obtain⟨n,f,rfl⟩:=ulh ha
    simp only [SV.subL,SV.sub,ubg]
    split
    ·rw [ih]
     cases ubg l (o+1-n)<;>simp only [Option.map_none,Option.map_some,SV.subL,SV.sub]
    ·simp only [Option.map_some,SV.subL,SV.sub]
theorem umh (g:Nat→Option To)(l:List SV)(o m:Nat):ubn (SV.subL g l) o m=(ubn l o m).map (SV.subL g):=by
 unfold ubn
 rw [uo0]
 cases ubN l o with
 |none=>rfl
 |some t=>simp only [Option.map_some];exact uoJ g t m
theorem unE (g:Nat→Option To):∀(l:List SV) (o:Nat) (x:SV),udb l o=some x→udb (SV.subL g l) o=some x∨udb (SV.subL g l) o=some (x.sub g):=by
 intro l
 induction l with
 |nil=>intro o x h;cases h
 | cons s l ih=>
  intro o x h
  cases ha:ug1 s with
  | false=>
   simp only [SV.subL]
   rw [uks ha]at h
   rw [uks (by rw [ueT];exact ha)]
   cases o with
   |zero=>simp only [Option.some.injEq]at h;subst h;exact .inr rfl
   |succ o=>exact ih o x h
  | true=>
   obtain⟨n,f,rfl⟩:=ulh ha
   simp only [SV.subL,SV.sub,udb]at h⊢
   split at h
   ·rename_i hb
    exact ih _ x h
   ·rename_i hb
    exact .inl h
theorem uq6 (g:Nat→Option To):∀(l:List SV) (o:Nat),uip (SV.subL g l) o=uip l o:=by
 intro l
 induction l with
 |nil=>intro o;rfl
 | cons s l ih=>
  intro o
  cases ha:ug1 s with
  | false=>
   simp only [SV.subL]
   rw [uoE ha,uoE (by rw [ueT];exact ha)]
   cases o with
   |zero=>rfl
   |succ o=>exact ih o
  | true=>
   obtain⟨n,f,rfl⟩:=ulh ha
   simp only [SV.subL,SV.sub,uip]
   cases o with
   |zero=>rfl
   | succ o=>
    simp only []
    split
    ·exact ih _
    ·rfl
theorem uon {S:Nat→Prop} {ti:TI} {l:List SV} {off:Nat} {g:Nat→Option To}(hg:∀id,S id→g id=none) {KU:Upd→Prop}(h:ucG ti l off fun u'=>KU u'∧∀id∈u'.val.ids,S id):ucG ti (SV.subL g l) off KU:=by
 unfold ucG at h⊢
 split at h
 ·rename_i ha
  split at h
  ·rename_i c hc
   rw [umh,hc]
   have hl:SV.subL g c=c:=by
    have:=uho (g:=g) (.agg c) fun id hid=>hg id (h.2 id hid)
    simpa only [SV.sub,SV.agg.injEq]using this
   simp only [Option.map_some,hl]
   exact h.1
  ·exact h.elim
 ·rename_i ha
  split at h
  ·rename_i c hc
   have hl:c.sub g=c:=uho c fun id hid=>hg id (h.2 id hid)
   rcases unE g l off c hc with q|q
   ·rw [q];exact h.1
   ·rw [q,hl];exact h.1
  ·exact h.elim
theorem ug6 {ti:TI} {l:List SV} {off:Nat} {K1 K2:Upd→Prop}(hk:∀u,K1 u→K2 u)(h:ucG ti l off K1):ucG ti l off K2:=by
 unfold ucG at h⊢
 split at h<;>split at h<;>first|exact hk _ h|exact h
theorem us4 {S:Nat→Prop} {t:Sta} {e1 e:SE} {o1 o:Oper}(hi:Ind0 ops e1 e o1 o)(hl:umM o=true)(hk:e.k≠1)(hg:e.g=false) {u:Upd}(hS:∀id b,uaI t.H base e id=some b→S id)(hh:∀p∈u.hs,¬S p.1)(hs:∀p∈u.sub,¬S p.1) {KU:Upd→Prop}
 (h:uaK T P ops o (base+e.i) (uaW t.E e) (uaI t.H base e) e.ord e.g fun u'=>KU u'∧∀id∈u'.val.ids,S id):
 uaK T P ops o (base+e.i) (uaW (t.upd o1.dst u).E e) (uaI (t.upd o1.dst u).H base e) e.ord e.g KU:=by
 rw [uhZ hk]at h⊢
 rw [hg]at h⊢
 unfold uaK at h⊢
 simp only [uue hl,uiQ]at h⊢
 have hlook:=hi.ap.yx
 obtain⟨dst,op,ty,pos,aft,gd⟩:=o
 have hop:∀x:Operand,(∀k,x = .tmp k→k∈ufY ops ⟨dst,op,ty,pos,aft,gd⟩)→ev (t.upd o1.dst u).E x=urk u.sub (ev t.E x):=fun x hin=>by
  rw [←ueF]
  cases x with
  | tmp k=>
   show uc0 (ucX u.sub t.E) o1.dst u.val k=ucX u.sub t.E k
   cases hd:o1.dst with
   |none=>rfl
   | some d=>
    simp only [uc0]
    rw [if_neg fun e2=>hlook d hd (by rw [←e2];exact hin k rfl)]
  |_=>rfl
 have hH:∀id b,uaI t.H base e id=some b→S id∧uaI (t.upd o1.dst u).H base e id=some (b.sub (uam u.sub)):=fun id b hb=>by
  have hk1:e.k≠1:=hk
  have hid:S id:=hS id b hb
  unfold uaI at hb⊢
  cases hsn:ueh base e id with
  |false=>rw [hsn]at hb;cases hb
  | true=>
   rw [hsn]at hb
   simp only [usz hk1]at hb⊢
   refine⟨hid,?_⟩
   show uao (uaJ u.sub t.H) u.hs id=_
   rw [ub7 _ _ fun p hp q=>hh p hp (q▸hid),ucg,hb]
   rfl
 have hlow:∀id,S id→uam u.sub id=none:=fun id hid=>ul8 hs hid
 have hv:∀s:SV,(∀id∈s.ids,S id)→urk u.sub s=s:=fun s hs2=>ukY hs hs2
 cases gd<;>cases op<;>first|(cases hl;done)|skip
 case none.indexAddr tt x y=>
  have hx:=hop x (fun k hk=>by unfold ufY;simp [Op.operands,ueJ,hk])
  have hy:=hop y (fun k hk=>by subst hk;unfold ufY;cases x<;>simp [Op.operands,ueJ])
  simp only [opT]at h⊢
  rw [hx,hy]
  split at h
  ·rename_i ti k ix hte hY
   rw [hY,hv (.int k ix) (by simp [SV.ids])]
   try simp only [hte]
   split at h
   ·split at h
    ·rename_i te id off hte' hX
     rw [hX]
     split at h
     ·rename_i j hj
      split at h
      ·rename_i hb
       rw [hv _ (by simpa [ua5,SV.ids]using h.2)]
       simp only [hte',hj,hb]
       exact h.1
      ·exact h.elim
     ·rename_i hj
      rw [hv _ (by simpa [ua5,SV.ids]using h.2.2)]
      simp only [hte',hj]
      exact⟨h.1,h.2.1⟩
    ·rename_i te id off sz m jx hte' hX
     rw [hX]
     split at h
     ·rename_i hb
      rw [hv _ (by simpa [ua5,SV.ids]using h.2.2)]
      simp only [hte',hb]
      exact⟨h.1,h.2.1⟩
     ·exact h.elim
    ·exact h.elim
   ·split at h
    ·rename_i te sz n el hte' hX
     rw [hX,hv _ (by simp [SV.ids])]
     split at h
     ·rename_i hb
      simp only [hte',hb]
      exact⟨h.1,h.2.1⟩
     ·exact h.elim
    ·rename_i te id hte' hX
     rw [hX]
     split at h
     ·rename_i ety sz n e' hid
      obtain⟨q1,q2⟩:=hH _ _ hid
      rw [hv _ (by simpa [SV.ids]using q1)]
      split at h
      ·rename_i hb
       simp only [hte',q2,Blk.sub,hb]
       exact⟨h.1,h.2.1⟩
      ·exact h.elim
     ·exact h.elim
    ·rename_i te id off len cap sz hte' hX
     rw [hX]
     split at h
     ·rename_i j hb hj
      split at h
      ·rename_i hlt
       rw [hv _ (by simpa [ua5,SV.ids]using h.2)]
       simp only [hte',hb,hj,hlt]
       exact h.1
      ·exact h.elim
     ·rename_i hb hj
      rw [hv _ (by simpa [ua5,SV.ids]using h.2.2)]
      simp only [hte',hb,hj]
      exact⟨h.1,h.2.1⟩
     ·exact h.elim
    ·rename_i te id off sz m n hte' hX
     rw [hX]
     split at h
     ·rename_i hb
      rw [hv _ (by simpa [ua5,SV.ids]using h.2.2)]
      simp only [hte',hb]
      exact⟨h.1,h.2.1⟩
     ·exact h.elim
    ·exact h.elim
   ·exact h.elim
  ·exact h.elim
 rename_i tt x
 have hx:=hop x (fun k hk=>by unfold ufY;simp [Op.operands,ueJ,hk])
 simp only [opT]at h⊢
 split at h
 ·rename_i ti hte
  rw [hx]
  split at h
  ·rename_i id off hX
   rw [hX]
   split at h
   ·rename_i l ty' hid
    obtain⟨q1,q2⟩:=hH _ _ hid
    rw [hv _ (by simpa [SV.ids]using q1)]
    simp only [q2,Blk.sub]
    exact uon hlow h
   ·exact h.elim
  ·rename_i id off sz n ix o2 hX
   rw [hX]
   split at h
   ·rename_i l ty' hid hag
    obtain⟨q1,q2⟩:=hH _ _ hid
    rw [hv _ (by simpa [SV.ids]using q1)]
    simp only [q2,Blk.sub,hag,uq6]
    split at h
    ·rename_i m f hseg
     split at h
     ·rename_i a1 a2
      exact h.1
     ·exact h.elim
    ·exact h.elim
   ·exact h.elim
  ·rename_i id sz ix o2 hX
   rw [hX]
   split at h
   ·rename_i ety sz' n e' hid
    obtain⟨q1,q2⟩:=hH _ _ hid
    rw [hv _ (by simpa [SV.ids]using q1)]
    simp only [q2,Blk.sub]
    split at h
    ·rename_i hb
     exact⟨h.1,ug6 (fun _ q=>q.1) h.2⟩
    ·exact h.elim
   ·exact h.elim
  ·rename_i off c hX
   rw [hX,hv _ (by simp [SV.ids])]
   exact ug6 (fun _ q=>q.1) h
  ·rename_i sz n e' ix off hX
   rw [hX,hv _ (by simp [SV.ids])]
   exact ug6 (fun _ q=>q.1) h
  ·exact h.elim
 ·exact h.elim
theorem udM {t:Sta} {e1 e:SE} {o1 o:Oper}(hi:Ind0 ops e1 e o1 o)(hk:ujE e1 e o1 o) {u:Upd} {gH:Nat→Option Blk}(hg:u.Good (base+e1.i) gH e1.ord)(hinf:Info o1 u)(hw:Wr base e1 u) {KU:Upd→Prop}:
 uaK T P ops o (base+e.i) (uaW (t.upd o1.dst u).E e) (uaI (t.upd o1.dst u).H base e) e.ord e.g KU=uaK T P ops o (base+e.i) (uaW t.E e) (uaI t.H base e) e.ord e.g KU:=by
 rcases hk with⟨q,_⟩|(⟨q1,q2⟩|⟨q1,q2⟩)|(q|q)
 ·exact ulq (hg.2 q) hi.ne hi.p1 hi.ap.yx
 ·obtain⟨h1,h2⟩:=hinf.1 q1
  have hH:(t.upd o1.dst u).H=t.H:=by simp only [Sta.upd,h1,h2,uaJ,uao]
  rw [hH]
  exact uby (fun k hk=>ucE (udm h2 fun e=>hi.ap.yx k e hk)) rfl
 ·have h2:=hinf.2 q1
  rw [umu (gH':=uaI t.H base e) q2]
  exact uby (fun k hk=>ucE (udm h2 fun e=>hi.ap.yx k e hk)) rfl
 ·obtain⟨a1,a2,a3,a4,_⟩:=ufh q
  obtain⟨w1,w2⟩:=hw.two a1
  cases hx:e1.x with
  | none=>
   have b1:u.sub=[]:=List.eq_nil_iff_forall_not_mem.2 fun p hp=>by have:=(w1 p hp).1;rw [hx]at this;cases this
   have b2:u.hs=[]:=List.eq_nil_iff_forall_not_mem.2 fun p hp=>by have:=w2 p hp;rw [hx]at this;cases this
   have hH:(t.upd o1.dst u).H=t.H:=by simp only [Sta.upd,b1,b2,uaJ,uao]
   rw [hH]
   exact uby (fun k hk=>ucE (udm b1 fun e=>hi.ap.yx k e hk)) rfl
  | some x=>
   have hxe:e.x=some x:=a2▸hx
   rw [hx]at w1 w2
   refine uby (fun k hk=> ?_) (upo w1 w2 a3 hxe)
   have hE:(t.upd o1.dst u).E k=(t.E k).sub (uam u.sub):=by
    show uc0 (ucX u.sub t.E) o1.dst u.val k=_
    have:=hi.ap.yx
    cases hd:o1.dst with
    |none=>exact ueL _ _ _
    | some d=>
     simp only [uc0]
     rw [if_neg fun e=>hi.ap.yx k (by rw [hd,e]) hk,ueL]
   unfold uaW
   rw [a3,hxe]
   simp only [show Nat.beq 1 1=true from rfl]
   rw [hE]
   exact unh (udL w1) _
 ·obtain⟨_,_,_,a4,_⟩:=ufh q
  exact ulq (hg.2 a4) hi.ne hi.p1 hi.ap.yx
theorem uf2 {t:Sta} {e1 e:SE} {o1 o:Oper}(hi:Ind0 ops e1 e o1 o) {u:Upd}(hinf:u.hs=[]∧u.sub=[]) {KU:Upd→Prop}:
 uaK T P ops o (base+e.i) (uaW (t.upd o1.dst u).E e) (uaI (t.upd o1.dst u).H base e) e.ord e.g KU=uaK T P ops o (base+e.i) (uaW t.E e) (uaI t.H base e) e.ord e.g KU:=by
 obtain⟨h1,h2⟩:=hinf
 have hH:(t.upd o1.dst u).H=t.H:=by simp only [Sta.upd,h1,h2,uaJ,uao]
 rw [hH]
 exact uby (fun k hk=>ucE (udm h2 fun e=>hi.ap.yx k e hk)) rfl
theorem uht {e:SE} {o:Oper}(h:wOk e o=true)(hm:uoO o=true):e.k≠1:=fun hk=>by
 unfold wOk at h
 rw [hk,hm]at h
 simp at h
theorem ujo {t:Sta} {e1 e:SE} {o1 o:Oper}(hi:Ind0 ops e1 e o1 o)(hm:uoO o=true)(hk1:e.k≠1)(hg:e.g=false) {u:Upd} {KU:Upd→Prop}:
 uaK T P ops o (base+e.i) (uaW (t.upd o1.dst u).E e) (uaI (t.upd o1.dst u).H base e) e.ord e.g KU↔uaK T P ops o (base+e.i) (uaW t.E e) (uaI t.H base e) e.ord e.g fun u'=>KU (ukQ u.sub u'):=by
 rw [uhZ hk1,uhZ hk1,hg,←upV (gH:=uaI (t.upd o1.dst u).H base e) hm u.sub]
 refine Iff.of_eq (uby (fun k hk=> ?_) rfl)
 show uc0 (ucX u.sub t.E) o1.dst u.val k=_
 have:=hi.ap.yx
 cases hd:o1.dst with
 |none=>rfl
 | some d=>
  simp only [uc0]
  rw [if_neg fun e=>hi.ap.yx k (by rw [hd,e]) hk]
theorem ujq {t:Sta} {e1 e:SE} {o1 o:Oper}(hi:Ind0 ops e1 e o1 o) {u1 u:Upd}(hs:u1.hs=[])(hsub:u1.sub=[]):
 (t.upd o.dst u).upd o1.dst (ukQ u.sub u1)=(t.upd o1.dst u1).upd o.dst u:=by
 obtain⟨v1,hs1,sub1⟩:=u1
 cases hs;cases hsub
 obtain⟨v,hs,sub⟩:=u
 simp only [Sta.upd,ukQ,ucX,uaJ,uao]
 congr 1
 funext k
 have hd:=hi.ap.dst
 cases h1:o1.dst with
 |none=>rfl
 | some d1=>
  cases h:o.dst with
  | none=>
   cases sub with
   |nil=>rfl
   | cons p l=>
    show(if k=d1 then v1.sub (uam (p::l))else(t.E k).sub (uam (p::l)))=(if k=d1 then v1 else t.E k).sub (uam (p::l))
    by_cases e:k=d1
    ·rw [if_pos e,if_pos e]
    ·rw [if_neg e,if_neg e]
  | some d=>
   have hne:d1≠d:=fun e=>hd d1 h1 (by rw [h,e])
   cases sub with
   | nil=>
    show(if k=d1 then v1 else if k=d then v else t.E k)=(if k=d then v else if k=d1 then v1 else t.E k)
    by_cases e:k=d1
    ·rw [if_pos e,if_neg (fun q=>hne (e.symm.trans q)),if_pos e]
    ·rw [if_neg e,if_neg e]
   | cons p l=>
    show(if k=d1 then v1.sub (uam (p::l))else if k=d then v else(t.E k).sub (uam (p::l)))=(if k=d then v else(if k=d1 then v1 else t.E k).sub (uam (p::l)))
    by_cases e:k=d1
    ·rw [if_pos e,if_neg (fun q=>hne (e.symm.trans q)),if_pos e]
    ·rw [if_neg e,if_neg e]
theorem ul9 {e:SE} {o:Oper}(h:wOk e o=true)(hm:uoO o=true)(u:Upd):Wr base e u:=by
 have hs:=ugx (ubP hm)
 have h1:=uht h hm
 unfold wOk at h
 have hld:umM o=false:=by
  obtain⟨dst,op,ty,pos,aft,gd⟩:=o
  cases gd<;>cases op<;>first|rfl|cases hm
 refine⟨fun hk=>absurd hk h1,fun hk=> ?_,fun hk=> ?_,fun hk=> ?_,fun hk=> ?_⟩
 ·rw [hs,hk]at h;simp at h
 ·rw [hs,hk]at h;simp at h
 ·rw [hk,hld]at h
  simp at h
 ·rw [hk,hld]at h
  simp at h
theorem ul6 {t:Sta} {e1 e:SE} {o1 o:Oper}(hi:Indep ops e1 e o1 o) {u:Upd} {gH:Nat→Option Blk}(hg:u.Good (base+e1.i) gH e1.ord)(hinf:Info o1 u)(hw:Wr base e1 u):
 (uaK T P ops o (base+e.i) (uaW (t.upd o1.dst u).E e) (uaI (t.upd o1.dst u).H base e) e.ord e.g fun u=>Wr base e u)↔uaK T P ops o (base+e.i) (uaW t.E e) (uaI t.H base e) e.ord e.g fun u=>Wr base e u:=by
 rcases hi.kind with q|⟨q,_⟩|⟨q,q'⟩|q
 ·exact Iff.of_eq (udM hi.toInd0 q hg hinf hw)
 ·exact Iff.of_eq (uf2 hi.toInd0 (hinf.1 (ubP q)))
 ·rw [ujo hi.toInd0 q (uht hi.w q) q']
  exact⟨fun h=>ual (fun u _ _=>ul9 hi.w q u) h,fun h=>ual (fun u _ _=>ul9 hi.w q _) h⟩
 ·exact Iff.of_eq (uf2 hi.toInd0 (hinf.3 (ugw q).2.1))
theorem un8 {f:Blk→Blk} {k:Nat}:∀(hs:List (Nat×Option Blk)) (H:Nat→Option Blk),(∀p∈hs,∀b,p.2=some b→f b=b)→(uao H hs k).map f=uao (fun k=>(H k).map f) hs k:=by
 intro hs
 induction hs with
 |nil=>intro H _;rfl
 | cons p r ih=>
  intro H h
  obtain⟨id,b⟩:=p
  simp only [uao]
  rw [ih _ fun q hq=>h q (List.mem_cons_of_mem _ hq)]
  refine ubz _ _ _ ?_
  by_cases e:k=id
  ·simp only [e,if_true]
   cases b with
   |none=>rfl
   |some b=>simp only [Option.map_some];rw [h (id,some b) (by simp) b rfl]
  ·simp only [e,if_false]
theorem uhi {t:Sta} {d d':Option Nat} {u u':Upd} {x n:Nat}(hs:∀p∈u.sub,some x=some p.1∧p.2 = .gone)(hh:∀p∈u.hs,some x=some p.1)(hu':u'.Calm n)(hn:x≠n)(hv:x∉u'.val.ids)(hb:∀p∈u'.hs,∀b,p.2=some b→x∉ua9 b)(hd:∀k,d=some k→d'≠some k):
 (t.upd d u).upd d' u'=(t.upd d' u').upd d u:=by
 obtain⟨h3,h4⟩:=hu'
 have hg:∀i,i≠x→uam u.sub i=none:=fun i hi=>(udL hs i).elim id fun q=>absurd q.2 hi
 have hfix:∀s:SV,x∉s.ids→s.sub (uam u.sub)=s:=fun s hx=>uho s fun id hid=>hg id fun e=>hx (e▸hid)
 simp only [Sta.upd,h3]
 congr 1
 ·funext k
  cases d with
  | none=>
   cases d' with
   |none=>rfl
   | some d'=>
    simp only [uc0,ueL,ue7,uee]
    by_cases e:k=d'
    ·simp only [e,if_true];exact(hfix _ hv).symm
    ·simp only [e,if_false]
  | some d=>
   cases d' with
   |none=>simp only [uc0,ueL,ue7,uee]
   | some d'=>
    have hdd:d≠d':=fun e=>hd d rfl (by rw [e])
    simp only [uc0,ueL,ue7,uee]
    by_cases e:k=d'
    ·have e2:¬k=d:=fun q=>hdd (q.symm.trans e)
     simp only [if_pos e,if_neg e2]
     exact(hfix _ hv).symm
    ·simp only [if_neg e]
 ·funext k
  have hf:∀p∈u'.hs,∀b,p.2=some b→Blk.sub (uam u.sub) b=b:=fun p hp b hpb=>by
   cases b with
   | cells l ty=>
    have:=hb p hp _ hpb
    have h5:=hfix (.agg l) (by simpa [ua9,SV.ids]using this)
    simp only [SV.sub,SV.agg.injEq]at h5
    simp only [Blk.sub,h5]
   |row=>rfl
   |map=>rfl
   |it=>rfl
  have hS:uaJ u.sub (uao (uaJ [] t.H) u'.hs) k=uao (uaJ u.sub t.H) u'.hs k:=by
   rw [ucg,un8 _ _ hf]
   exact ubz _ _ _ (ucg _ _ _).symm
  show uao (uaJ [] (uao (uaJ u.sub t.H) u.hs)) u'.hs k=uao (uaJ u.sub (uao (uaJ [] t.H) u'.hs)) u.hs k
  rw [ubz u.hs _ _ hS]
  show uao (uao (uaJ u.sub t.H) u.hs) u'.hs k=uao (uao (uaJ u.sub t.H) u'.hs) u.hs k
  by_cases e:k=x
  ·rw [ub7 u'.hs _ fun p hp q=>hn (e.symm.trans (q.symm.trans (h4 p hp)))]
   exact ubz _ _ _ (ub7 _ _ fun p hp q=>hn (e.symm.trans (q.symm.trans (h4 p hp)))).symm
  ·rw [ub7 u.hs (uao (uaJ u.sub t.H) u'.hs) fun p hp q=>e (q.symm.trans (Option.some.inj (hh p hp)).symm)]
   exact ubz _ _ _ (ub7 _ _ fun p hp q=>e (q.symm.trans (Option.some.inj (hh p hp)).symm))
theorem ugM {t:Sta} {e1 e:SE} {o1 o:Oper}(hi:Ind0 ops e1 e o1 o)(hk:ujE e1 e o1 o) {u1 u:Upd} {gH1 gH:Nat→Option Blk}(hg1:u1.Good (base+e1.i) gH1 e1.ord)(hinf1:Info o1 u1)(hg:u.Good (base+e.i) gH e.ord)(hinf:Info o u)(hw1:Wr base e1 u1)(hw:Wr base e u)(hX:∀x,e.x=some x→x<base):
 (t.upd o1.dst u1).upd o.dst u=(t.upd o.dst u).upd o1.dst u1:=by
 rcases hk with⟨q,q'⟩|(⟨q1,q2⟩|⟨q1,q2⟩)|(q|q)
 ·exact uqe (hg1.2 q) (hg.2 q') (by have:=hi.ne;omega) hi.ap.dst
 ·exact ueX (hinf1.1 q1).2 (hinf.2 q2) (.inl (hinf1.1 q1).1) hi.ap.dst
 ·exact ueX (hinf1.2 q1) (hinf.1 q2).2 (.inr (hinf.1 q2).1) hi.ap.dst
 ·obtain⟨a1,a2,a3,a4,_⟩:=ufh q
  obtain⟨w1,w2⟩:=hw1.two a1
  cases hx:e1.x with
  | none=>
   have b1:u1.sub=[]:=List.eq_nil_iff_forall_not_mem.2 fun p hp=>by have:=(w1 p hp).1;rw [hx]at this;cases this
   have b2:u1.hs=[]:=List.eq_nil_iff_forall_not_mem.2 fun p hp=>by have:=w2 p hp;rw [hx]at this;cases this
   exact ueX b1 (hg.2 a4).1 (.inl b2) hi.ap.dst
  | some x=>
   rw [hx]at w1 w2
   have hxe:e.x=some x:=a2▸hx
   have o1:=hw.one a3 x hxe
   exact uhi w1 w2 (hg.2 a4) (by have:=hX x hxe;omega) o1.1 o1.2 hi.ap.dst
 ·obtain⟨a1,a2,a3,a4,_⟩:=ufh q
  obtain⟨w1,w2⟩:=hw.two a1
  cases hx:e.x with
  | none=>
   have b1:u.sub=[]:=List.eq_nil_iff_forall_not_mem.2 fun p hp=>by have:=(w1 p hp).1;rw [hx]at this;cases this
   have b2:u.hs=[]:=List.eq_nil_iff_forall_not_mem.2 fun p hp=>by have:=w2 p hp;rw [hx]at this;cases this
   exact ueX (hg1.2 a4).1 b1 (.inr b2) hi.ap.dst
  | some x=>
   rw [hx]at w1 w2
   have hxe:e1.x=some x:=a2.symm.trans hx
   have o1':=hw1.one a3 x hxe
   exact(uhi w1 w2 (hg1.2 a4) (by have:=hX x hx;omega) o1'.1 o1'.2 fun k hk e=>hi.ap.dst k e hk).symm
theorem ufd {l:List Nat} {n:Nat}(h:ud1 l n=false):n∉l:=fun hm=>by rw [uan.2 hm]at h;cases h
theorem ukh {e1 e:SE} {o1 o:Oper}(h1:nth ops e1.i=some o1)(h:nth ops e.i=some o)(hi:ugq ops e1 e=true):Indep ops e1 e o1 o:=by
 unfold ugq at hi
 rw [h1,h]at hi
 simp only [ufG]at hi
 split at hi
 ·rename_i a3 a4 a5 a6
  have hne:e1.i≠e.i:=fun q=>by rw [q,Nat.beq_refl]at a6;cases a6
  simp only [Bool.and_eq_true]at a3
  obtain⟨⟨⟨a3,w1⟩,w⟩,w4'⟩:=a3
  have w4:isS o1=true∨e.k≠4:=by
   unfold Go.Eng.w4 at w4'
   rw [Bool.or_eq_true,Bool.not_eq_true']at w4'
   exact w4'.imp id fun q h=>by rw [h]at q;cases q
  have i0:Ind0 ops e1 e o1 o:=⟨ukc a3,ufd a4,ufd a5,hne⟩
  split at hi
  ·rename_i a1 a2
   exact⟨i0,.inl (.inl ⟨a1,a2⟩),by rwa [Bool.or_eq_true]at hi,w1,w,w4⟩
  ·simp only [Bool.or_eq_true,Bool.and_eq_true,Bool.not_eq_true']at hi
   rcases hi with(hi|hi)|(hi|hi)
   ·exact⟨i0,.inl (.inr (.inl hi)),hi.elim (fun q=>.inl (ugx q.1)) fun q=>.inr (ugx q.2),w1,w,w4⟩
   ·exact⟨i0,.inr (hi.elim .inl fun q=>.inr (.inl q)),hi.elim (fun q=>.inl (ugx (ubP q.1))) fun q=>.inr (ugx (ubP q.1)),w1,w,w4⟩
   ·exact⟨i0,.inl (.inr (.inr hi)),hi.elim (fun q=>.inr (ufh q).2.2.2.2) fun q=>.inl (ufh q).2.2.2.2,w1,w,w4⟩
   ·exact⟨i0,.inr (.inr (.inr hi)),.inl (uxY (ugw hi).2.1),w1,w,w4⟩
 ·cases hi
theorem umS {t:Sta} {e1 e:SE} {o1 o:Oper}(hX:∀x,e.x=some x→x<base)(hi:Indep ops e1 e o1 o)(hM:isS o=true→uaK T P ops o (base+e.i) (uaW t.E e) (uaI t.H base e) e.ord e.g fun u=>Wr base e u)
 (h:uaK T P ops o1 (base+e1.i) (uaW t.E e1) (uaI t.H base e1) e1.ord e1.g fun u1=>Wr base e1 u1∧uaK T P ops o (base+e.i) (uaW (t.upd o1.dst u1).E e) (uaI (t.upd o1.dst u1).H base e) e.ord e.g fun u=>Wr base e u∧K ((t.upd o1.dst u1).upd o.dst u)):
 uaK T P ops o (base+e.i) (uaW t.E e) (uaI t.H base e) e.ord e.g fun u=>Wr base e u∧uaK T P ops o1 (base+e1.i) (uaW (t.upd o.dst u).E e1) (uaI (t.upd o.dst u).H base e1) e1.ord e1.g fun u1=>Wr base e1 u1∧K ((t.upd o.dst u).upd o1.dst u1):=by
 rcases hi.kind with hk1|⟨hm,_⟩|⟨hm,hgf⟩|hz
 ·rcases Bool.eq_false_or_eq_true (isS o1)with hs|hs0
  ·have h0:=ual (K':=fun u1=>(u1.Good (base+e1.i) (uaI t.H base e1) e1.ord∧Info o1 u1)∧Wr base e1 u1∧uaK T P ops o (base+e.i) (uaW (t.upd o1.dst u1).E e) (uaI (t.upd o1.dst u1).H base e) e.ord e.g fun u=>Wr base e u∧K ((t.upd o1.dst u1).upd o.dst u)) (fun u1 hg hk=>⟨⟨hg,hk.2⟩,hk.1⟩) (ubA h)
   obtain⟨u1,hu1⟩:=udW (T:=T) (P:=P) (ops:=ops) (nid:=base+e1.i) (ge:=uaW t.E e1) (gH:=uaI t.H base e1) (ord:=e1.ord) (g:=e1.g) hs (ual (fun _ _ _=>trivial) h0)
   obtain⟨⟨hg1,hinf1⟩,hw1,h1⟩:=(hu1 _).1 h0
   rw [udM hi.toInd0 hk1 hg1 hinf1 hw1]at h1
   refine ual (fun u hg hk=> ?_) (ubA h1)
   obtain⟨⟨hw,hk⟩,hinf⟩:=hk
   refine⟨hw,?_⟩
   rw [udM hi.toInd0.symm (ujE.symm hk1) hg hinf hw,hu1]
   exact⟨hw1,by rw [←ugM hi.toInd0 hk1 hg1 hinf1 hg hinf hw1 hw hX];exact hk⟩
  ·have hs:isS o=true:=hi.s.elim (fun q=>by rw [hs0]at q;cases q) id
   have hM':=ual (K':=fun u=>Wr base e u∧u.Good (base+e.i) (uaI t.H base e) e.ord∧Info o u) (fun u hg hk=>⟨hk.1,hg,hk.2⟩) (ubA (hM hs))
   obtain⟨u,hu⟩:=udW (T:=T) (P:=P) (ops:=ops) (nid:=base+e.i) (ge:=uaW t.E e) (gH:=uaI t.H base e) (ord:=e.ord) (g:=e.g) hs (ual (fun _ _ _=>trivial) hM')
   obtain⟨hw,hg,hinf⟩:=(hu _).1 hM'
   refine(hu _).2 ⟨hw,?_⟩
   rw [udM hi.toInd0.symm (ujE.symm hk1) hg hinf hw]
   refine ual (fun u1 hg1 hk=> ?_) (ubA h)
   obtain⟨⟨hw1,hk⟩,hinf1⟩:=hk
   rw [udM hi.toInd0 hk1 hg1 hinf1 hw1,hu]at hk
   exact⟨hw1,by rw [←ugM hi.toInd0 hk1 hg1 hinf1 hg hinf hw1 hw hX];exact hk.2⟩
 ·
  have h':=ubA h
  obtain⟨u1,hu1⟩:=udW (T:=T) (P:=P) (ops:=ops) (nid:=base+e1.i) (ge:=uaW t.E e1) (gH:=uaI t.H base e1) (ord:=e1.ord) (g:=e1.g) (ugx (ubP hm)) (ual (fun _ _ _=>trivial) h')
  obtain⟨⟨hw1,hA⟩,hinf⟩:=(hu1 _).1 h'
  rw [uf2 hi.toInd0 (hinf.1 (ubP hm))]at hA
  rename_i hg1
  refine ual (fun u hg hk=>⟨hk.1,?_⟩) hA
  rw [ujo hi.toInd0.symm hm (uht hi.w1 hm) hg1,hu1,ujq hi.toInd0 (hinf.1 (ubP hm)).1 (hinf.1 (ubP hm)).2]
  exact⟨ul9 hi.w1 hm _,hk.2⟩
 ·
  have hS:=ugx (ubP hm)
  have hM':=ubA (hM hS)
  obtain⟨u,hu⟩:=udW (T:=T) (P:=P) (ops:=ops) (nid:=base+e.i) (ge:=uaW t.E e) (gH:=uaI t.H base e) (ord:=e.ord) (g:=e.g) hS (ual (fun _ _ _=>trivial) hM')
  have hinf:=((hu _).1 hM').2
  refine(hu _).2 ⟨ul9 hi.w hm u,?_⟩
  rw [uf2 hi.toInd0.symm (hinf.1 (ubP hm))]
  refine ual (fun u1 hg hk=>⟨hk.1,?_⟩) h
  have hk:=hk.2
  rw [ujo hi.toInd0 hm (uht hi.w hm) hgf,hu,ujq hi.toInd0.symm (hinf.1 (ubP hm)).1 (hinf.1 (ubP hm)).2]at hk
  exact hk.2
 ·
  obtain⟨z14,z2,z3⟩:=ugw hz
  obtain ⟨S,hk1,hv1,h1S,h2S⟩:∃S:Nat→Prop,e1.k≠1∧(∀id b,uaI t.H base e1 id=some b→S id)∧(∀u,Wr base e u→(∀p∈u.hs,¬S p.1)∧∀p∈u.sub,¬S p.1)∧∀u,Wr base e1 u→∀id∈u.val.ids,S id:=by
   rcases z14 with⟨z1,z4⟩|⟨z1,z4,zx⟩
   ·refine⟨fun id=>id<base,by omega,fun id b hb=> ?_,fun u hu=> ?_,fun u hu=>hu.four z1⟩
    ·unfold uaI at hb
     split at hb
     ·rename_i hsn
      exact(ueW hsn).2.elim (fun q=>q) fun q=>absurd z1 q.1
     ·cases hb
    ·have h3:=hu.three z4
     exact⟨fun p hp q=>Nat.not_lt.2 (h3.1 p hp) q,fun p hp q=>Nat.not_lt.2 (h3.2 p hp) q⟩
   ·refine⟨fun id=>e1.x≠some id,by omega,fun id b hb=> ?_,fun u hu=> ?_,fun u hu id hid q=>hu.six z1 id q hid⟩
    ·unfold uaI at hb
     split at hb
     ·rename_i hsn
      have hh:=(ueW hsn).1
      intro q
      unfold hid at hh
      rw [z1,q]at hh
      simp [uvH]at hh
     ·cases hb
    ·have h2:=hu.two z4
     rw [zx]
     exact⟨fun p hp q=>q (h2.2 p hp),fun p hp q=>q (h2.1 p hp).1⟩
  obtain⟨u1,hu1⟩:=udW (T:=T) (P:=P) (ops:=ops) (nid:=base+e1.i) (ge:=uaW t.E e1) (gH:=uaI t.H base e1) (ord:=e1.ord) (g:=e1.g) (uxY z2) (ual (fun _ _ _=>trivial) h)
  obtain⟨hw1,hA⟩:=(hu1 _).1 h
  have hp1:u1.hs=[]∧u1.sub=[]:=(hu1 _).1 (usa z2 z3 ((hu1 (fun _=>True)).2 trivial))
  rw [uf2 hi.toInd0 hp1]at hA
  refine ual (fun u hg hk=>⟨hk.1,?_⟩) hA
  have h3:=h1S u hk.1
  have h1:uaK T P ops o1 (base+e1.i) (uaW t.E e1) (uaI t.H base e1) e1.ord e1.g fun u'=>u'=u1∧∀id∈u'.val.ids,S id:=(hu1 _).2 ⟨rfl,h2S u1 hw1⟩
  refine ual (fun u' _ hu'=> ?_) (us4 hi.toInd0.symm z2 hk1 z3 hv1 h3.1 h3.2 h1)
  subst hu'
  refine⟨hw1,?_⟩
  have hc:=ujq (t:=t) (u:=u) hi.toInd0 hp1.1 hp1.2
  have he:ukQ u.sub u'=u':=by
   obtain⟨v1,hs1,sub1⟩:=u'
   show Upd.mk (urk u.sub v1) hs1 sub1=_
   rw [ukY h3.2 (h2S _ hw1)]
  rw [he]at hc
  rw [hc]
  exact hk.2
theorem uva {e:SE} {o:Oper}(hX:∀x,e.x=some x→x<base)(ho:nth ops e.i=some o)(l2:List SE):∀(l1:List SE) (t:Sta),(∀e1∈l1,∃o1,nth ops e1.i=some o1∧Indep ops e1 e o1 o) →
 (isS o=true→uaK T P ops o (base+e.i) (uaW t.E e) (uaI t.H base e) e.ord e.g fun u=>Wr base e u) →
 ub6 T P ops base N (l1++e::l2) t K→uaK T P ops o (base+e.i) (uaW t.E e) (uaI t.H base e) e.ord e.g fun u=>Wr base e u∧ub6 T P ops base N (l1++l2) (t.upd o.dst u) K:=by
 intro l1
 induction l1 with
 | nil=>
  intro t _ _ h
  simp only [List.nil_append,ub6,ho]at h
  exact h
 | cons e1 l1 ih=>
  intro t hi hM h
  obtain⟨o1,ho1,hi1⟩:=hi e1 (by simp)
  simp only [List.cons_append,ub6,ho1]at h⊢
  refine umS (K:=fun t=>ub6 T P ops base N (l1++l2) t K) hX hi1 hM (ual (fun u1 hg hk=>⟨hk.1.1,?_⟩) (ubA h))
  refine ih _ (fun e2 he2=>hi e2 (List.mem_cons_of_mem _ he2)) (fun hs=> ?_) hk.1.2
  exact(ul6 hi1 hg hk.2 hk.1.1).2 (hM hs)
end
section
variable {P:Program} {T:uar} {W0:World} {B0:Nat→Prop} {R0:Bor} {N:Nat} {D:List Deferred}
variable {F:Fence} {n:Nat} {ops:Array Oper} {Q:Exit→Act→World→Prop} {base:Nat} {K:Sta→Prop}
theorem ukH {t:Sta} {μ:Mem} {ν:Vl} {a:Act} {W:World}(h:Sat W0 B0 R0 N D t μ ν a W)(e:SE):Sat W0 B0 R0 N D ⟨uaW t.E e,t.H,t.nxt⟩ μ ν a W:=by
 have hE:∀k,uaW t.E e k=t.E k∨∃x,uaW t.E e k=(t.E k).sub (uam [(x,.gone)]):=fun k=>by
  unfold uaW
  cases Nat.beq e.k 1 with
  |false=>exact .inl rfl
  | true=>cases e.x with
   |none=>exact .inl rfl
   |some x=>exact .inr ⟨x,rfl⟩
 refine⟨h.size,h.defers,fun k=> ?_,fun k id hid=> ?_,h.ms,h.mle,h.bor,h.mm⟩
 ·show Rel μ ν (uaW t.E e k) _
  rcases hE k with q|⟨x,q⟩
  ·rw [q];exact h.env k
  ·rw [q]
   refine(h.env k).sub (fun _ _ h=>h) _ _ fun j _=> ?_
   unfold uax
   rcases udL (x:=x) (l:=[(x,.gone)]) (fun p hp=>by rw [List.mem_singleton.1 hp];exact⟨rfl,rfl⟩) j with r|⟨r,_⟩
   ·rw [r];exact⟨rfl,rfl⟩
   ·rw [r];trivial
 ·have hid:id∈(uaW t.E e k).ids:=hid
  rcases hE k with q|⟨x,q⟩
  ·rw [q]at hid;exact h.wf k id hid
  ·rw [q]at hid
   rcases udw _ _ id hid with⟨r,_⟩|⟨i,_,r⟩
   ·exact h.wf k id r
   ·rcases udL (x:=x) (l:=[(x,.gone)]) (fun p hp=>by rw [List.mem_singleton.1 hp];exact⟨rfl,rfl⟩) i with s|⟨s,_⟩<;>(rw [s]at r;cases r)
def uvv (base:Nat)(l:List SE)(t:Sta):Prop:=∀e∈l,t.H (base+e.i)=none
theorem uhb {sub:List (Nat×To)} {H:Nat→Option Blk} {k:Nat}(h:H k=none):uaJ sub H k=none:=by rw [ucg,h];rfl
theorem ue4 {t:Sta} {d:Option Nat} {u:Upd} {nid:Nat} {gH:Nat→Option Blk} {ord:Bool}(hu:u.Good nid gH ord)(hv:∀id b,gH id=some b→t.H id=some b) {k:Nat}(hk:k≠nid)(h:t.H k=none):
 (t.upd d u).H k=none:=by
 show uao (uaJ u.sub t.H) u.hs k=none
 rw [ub7 _ _ fun p hp e=> ?_]
 ·exact uhb h
 ·rcases hu.1 p hp with q|q
  ·exact hk (e.symm.trans q)
  ·obtain⟨b,hb⟩:=Option.isSome_iff_exists.1 q
   have:=hv _ _ hb
   rw [e,h]at this;cases this
theorem uat {l:List SE} {i:Nat}:i∈ubv l↔∃e∈l,e.i=i:=by
 induction l with
 |nil=>simp [ubv]
 | cons x l ih=>
  simp only [ubv,List.mem_cons,ih]
  constructor
  ·rintro(h|⟨e,h1,h2⟩)
   ·exact⟨x,.inl rfl,h.symm⟩
   ·exact⟨e,.inr h1,h2⟩
  ·rintro⟨e,h1|h1,h2⟩
   ·subst h1;exact .inl h2.symm
   ·exact .inr ⟨e,h1,h2⟩
theorem uwO (hT:uc5 P T)(hdst:∀(j:Nat) (o:Oper) k,ops[j]? =some o→o.dst=some k→k<N) {e:SE} {o:Oper}(l2:List SE):∀(l1:List SE) (t:Sta) (μ:Mem) (ν:Vl) (a:Act) (W:World),
 nth ops.toList e.i=some o→(∀e1∈l1,∃o1,nth ops.toList e1.i=some o1∧Indep ops.toList e1 e o1 o)→uvv base (l1++e::l2) t→(ubv (l1++e::l2)).Nodup →
 ub6 T P ops.toList base ops.size (l1++e::l2) t K→Sat W0 B0 R0 N D t μ ν a W→uaK T P ops.toList o (base+e.i) (uaW t.E e) (uaI t.H base e) e.ord e.g fun u=>Wr base e u:=by
 intro l1
 induction l1 with
 | nil=>
  intro t μ ν a W ho _ _ _ h _
  simp only [List.nil_append,ub6,ho]at h
  exact ual (fun _ _ h=>h.1) h
 | cons e1 l1 ih=>
  intro t μ ν a W ho hi hfree hnd h hS
  obtain⟨o1,ho1,hi1⟩:=hi e1 (by simp)
  simp only [List.cons_append,ub6,ho1]at h
  have hv:=uli (gH:=t.H) (nxt:=base) (e:=e1)
  obtain⟨u1,μ',ν',a',W',⟨⟨hw,hk⟩,hinf⟩,hg,hS'⟩:=ujs hT hS (ukH hS e1) (hdst e1.i o1 · (by rw [←uaZ];exact ho1)) (hfree e1 (by simp)) hv (ubA h)
  have hnd':=List.nodup_cons.1 (show(e1.i::ubv (l1++e::l2)).Nodup from hnd)
  have:=ih (t.upd o1.dst u1) μ' ν' a' W' ho (fun e2 h2=>hi e2 (List.mem_cons_of_mem _ h2)) (fun e2 h2=>ue4 hg hv (fun q=>hnd'.1 (uat.2 ⟨e2,h2,by omega⟩)) (hfree e2 (List.mem_cons_of_mem _ h2))) hnd'.2 hk hS'
  exact(ul6 hi1 hg hinf hw).1 this
end
end Go.Eng

namespace Go.Eng
open Go
theorem uej {ops:List Oper} {l:List SE}(h:ueB ops l=true):l.Pairwise fun e1 e=>ugD ops e1 e=true:=by
 induction l with
 |nil=>exact .nil
 | cons e l ih=>
  simp only [ueB,Bool.and_eq_true,List.all_eq_true]at h
  exact .cons h.1 (ih h.2)
theorem ueQ (X Y:Option Nat)(e:SE):(e.setX X Y).i=e.i:=by unfold SE.setX;split<;>rfl
theorem ult (X Y:Option Nat)(e:SE):(e.setX X Y).ord=e.ord:=by unfold SE.setX;split<;>rfl
theorem udk (X Y:Option Nat)(e:SE):(e.setX X Y).pre=e.pre:=by unfold SE.setX;split<;>rfl
theorem urq (X Y:Option Nat)(e:SE):(e.setX X Y).g=e.g:=by unfold SE.setX;split<;>rfl
theorem ulb (X Y:Option Nat)(e:SE):(e.setX X Y).k=e.k:=by unfold SE.setX;split<;>rfl
theorem upH (a:Option Nat):eqX a a=true:=by cases a<;>simp [eqX]
theorem uri {X Y:Option Nat} {e1 e:SE}(h:eqX e1.x e.x=true):eqX (e1.setX X Y).x (e.setX X Y).x=true:=by
 unfold SE.setX
 rw [ui1 h]
 cases e.x<;>exact upH _
theorem unK {X Y:Option Nat} {e1 e:SE} {o1 o:Oper}(h:xB e1 e o1 o=true):xB (e1.setX X Y) (e.setX X Y) o1 o=true:=by
 simp only [xB,Bool.and_eq_true,ulb,ult]at h⊢
 exact⟨h.1,uri h.2⟩
theorem un4 {X Y:Option Nat} {e1 e:SE} {o1:Oper}(h:urC e1 e o1=true):urC (e1.setX X Y) (e.setX X Y) o1=true:=by
 simp only [urC,Bool.and_eq_true,Bool.or_eq_true,ulb,urq]at h⊢
 exact⟨⟨h.1.1.imp id fun q=>⟨q.1,uri q.2⟩,h.1.2⟩,h.2⟩
theorem ujn {ops:List Oper} {X Y:Option Nat} {e1 e:SE} {o1 o:Oper}(b:Bool):ufG ops (e1.setX X Y) (e.setX X Y) o1 o b=ufG ops e1 e o1 o b:=by
 unfold ufG wOk w4
 simp only [ueQ,ult,udk,urq,ulb]
theorem uk3 {ops:List Oper} {e1 e:SE} {o1 o:Oper} {b b':Bool}(hb:b=true→b'=true)(h:ufG ops e1 e o1 o b=true):ufG ops e1 e o1 o b'=true:=by
 cases b with
 |true=>rw [hb rfl];exact h
 | false=>
  cases b' with
  |false=>exact h
  | true=>
   unfold ufG at h⊢
   split at h
   ·split at h
    ·exact h
    ·simp
   ·cases h
theorem ujI {ops:List Oper} {X Y:Option Nat} {e1 e:SE}(h:ugq ops e1 e=true):ugq ops (e1.setX X Y) (e.setX X Y)=true:=by
 unfold ugq at h⊢
 rw [ueQ,ueQ]
 cases h1:nth ops e1.i with
 |none=>rw [h1]at h;cases h
 | some o1=>
  cases h2:nth ops e.i with
  |none=>rw [h1,h2]at h;cases h
  | some o=>
   rw [h1,h2]at h
   simp only at h⊢
   rw [ujn]
   refine uk3 (fun q=> ?_) h
   simp only [Bool.or_eq_true]at q⊢
   exact q.imp (fun q=>q.imp unK unK) un4
theorem ulu {ops:List Oper} {X Y:Option Nat} {e1 e:SE}(h:ugD ops e1 e=true):ugD ops (e1.setX X Y) (e.setX X Y)=true:=by
 unfold ugD at h⊢
 rw [ueQ,ueQ,udk,udk]
 split at h
 ·cases h
 ·simp only [Bool.or_eq_true]at h⊢
  exact h.imp id ujI
theorem ukf {ops:List Oper} {X Y:Option Nat}:∀{l:List SE},ueB ops l=true→ueB ops (l.map (SE.setX X Y))=true:=by
 intro l
 induction l with
 |nil=>intro _;rfl
 | cons e l ih=>
  simp only [List.map_cons,ueB,Bool.and_eq_true,List.all_map,List.all_eq_true]
  exact fun h=>⟨fun x hx=>ulu (h.1 x hx),ih h.2⟩
theorem uo3 (X Y:Option Nat):∀l:List SE,ubv (l.map (SE.setX X Y))=ubv l:=by
 intro l
 induction l with
 |nil=>rfl
 |cons e l ih=>simp only [List.map_cons,ubv,ih,ueQ]
theorem ujP (X Y:Option Nat)(l:List SE)(x:Nat):∀ds:List Nat,udX (l.map (SE.setX X Y)) x ds=udX l x ds:=by
 intro ds
 induction ds with
 |nil=>rfl
 | cons d r ih=>
  simp only [udX,ih,List.any_map]
  congr 2
  funext e
  simp only [Function.comp,ueQ,udk]
theorem uoS (ops:List Oper)(X Y:Option Nat)(l:List SE)(e:SE):preB ops (l.map (SE.setX X Y)) (e.setX X Y)=preB ops l e:=by
 unfold preB
 simp only [ueQ,udk,ujP]
theorem udq {ops:List Oper} {X Y:Option Nat} {l:List SE}(h:ubu ops l=true):ubu ops (l.map (SE.setX X Y))=true:=by
 simp only [ubu,Bool.and_eq_true]at h⊢
 rw [List.length_map,uo3]
 refine⟨⟨h.1.1,ukf h.1.2⟩,?_⟩
 have h2:=h.2
 rw [List.all_map]
 rw [List.all_eq_true]at h2⊢
 exact fun e he=>(uoS ops X Y l e).trans (h2 e he)
theorem ue2 {o:Oper} {x:Nat}:x∈deps o↔∃e∈o.after,ue3 e=true∧e.on=x:=by
 have:∀l:List Edge,x∈deps.go l↔∃e∈l,ue3 e=true∧e.on=x:=by
  intro l
  induction l with
  |nil=>simp [deps.go]
  | cons y l ih=>
   simp only [deps.go]
   cases h:ue3 y with
   | true=>
    simp only [List.mem_cons,ih]
    constructor
    ·rintro(e|⟨e,h1,h2⟩)
     ·exact⟨y,.inl rfl,h,e.symm⟩
     ·exact⟨e,.inr h1,h2⟩
    ·rintro⟨e,h1|h1,h2,h3⟩
     ·subst h1;exact .inl h3.symm
     ·exact .inr ⟨e,h1,h2,h3⟩
   | false=>
    simp only [List.mem_cons,ih]
    constructor
    ·rintro⟨e,h1,h2⟩;exact⟨e,.inr h1,h2⟩
    ·rintro⟨e,h1|h1,h2,h3⟩
     ·subst h1;rw [h]at h2;cases h2
     ·exact⟨e,h1,h2,h3⟩
 have h2:=this o.after.toList
 simpa [deps]using h2
theorem udd (e:Edge):Region.binds .any e=ue3 e:=by
 unfold Region.binds ue3
 cases e.ground<;>rfl
theorem umD {l0:List SE} {x:Nat}:∀{ds:List Nat},udX l0 x ds=true→∃d∈ds,∃e'∈l0,e'.i=d∧x∈e'.pre:=by
 intro ds
 induction ds with
 |nil=>intro h;simp [udX]at h
 | cons d r ih=>
  intro h
  simp only [udX,Bool.or_eq_true,List.any_eq_true,Bool.and_eq_true]at h
  rcases h with⟨e',h1,h2,h3⟩|h
  ·exact⟨d,by simp,e',h1,uac h2,uan.1 h3⟩
  ·obtain⟨d',h1,h2⟩:=ih h
   exact⟨d',List.mem_cons_of_mem _ h1,h2⟩
structure PreOk (ops:List Oper)(l0:List SE)(e:SE)(o:Oper):Prop where
 self:e.i∉e.pre
 deps:∀d∈deps o,d∈e.pre∧d<ops.length
 pre:∀x∈e.pre,x∈Eng.deps o∨∃d∈Eng.deps o,∃e'∈l0,e'.i=d∧x∈e'.pre
theorem ubH {ops:List Oper} {l0:List SE} {e:SE}(h:preB ops l0 e=true):∃o,nth ops e.i=some o∧PreOk ops l0 e o:=by
 unfold preB at h
 cases ho:nth ops e.i with
 |none=>rw [ho]at h;cases h
 | some o=>
  rw [ho]at h
  simp only at h
  cases hm:ud1 e.pre e.i with
  |true=>rw [hm]at h;cases h
  | false=>
   rw [hm]at h
   simp only [Bool.and_eq_true,List.all_eq_true,Bool.or_eq_true]at h
   refine⟨o,rfl,ufd hm,fun d hd=>⟨uan.1 (h.1 d hd).1,ub1 (h.1 d hd).2⟩,fun x hx=> ?_⟩
   rcases h.2 x hx with q|q
   ·exact .inl (uan.1 q)
   ·exact .inr (umD q)
theorem udR {l l':List SE}(h:l.Sublist l'):(ubv l).Sublist (ubv l'):=by
 induction h with
 |slnil=>exact .slnil
 |cons a h ih=>exact .cons _ ih
 |cons_cons a h ih=>exact .cons_cons _ ih
theorem ujx (l m:List SE):ubv (l++m)=ubv l++ubv m:=by
 induction l with
 |nil=>rfl
 |cons y l ih=>simp only [List.cons_append,ubv,ih]
theorem ubW {listed:Array Bool} {i:Nat}(hi:i<listed.size)(b:Bool):listed.getD i b=listed[i]:=by
 rw [Array.getD_eq_getD_getElem?,Array.getElem?_eq_getElem hi];rfl
section
variable {P:Program} {T:uar} {W0:World} {B0:Nat→Prop} {R0:Bor} {N:Nat} {D:List Deferred}
variable {F:Fence} {n:Nat} {ops:Array Oper} {Q:Exit→Act→World→Prop} {base:Nat} {K:Sta→Prop}
theorem uiq (hF:FenceOk F P)(hT:uc5 P T)(hdst:∀(j:Nat) (o:Oper) k,ops[j]? =some o→o.dst=some k→k<N) {l0:List SE}(hs:ubu ops.toList l0=true)(hX:∀e∈l0,∀x,e.x=some x→x<base)
 (r:List SE) (hQ:∀listed t μ ν a W,K t→(∀id,t.nxt≤id→t.H id=none)→Sat W0 B0 R0 N D t μ ν a W→listed.size=ops.size→(∀i,listed.getD i true=false↔i∈ubv r) →
  (∀e'∈l0,e'.i∉ubv r→∀x∈e'.pre,x∉ubv r)→wpAnyIn F n P .any ops Q r.length listed a W):
 ∀ (k:Nat) (l:List SE) (listed:Array Bool) (t:Sta) (μ:Mem) (ν:Vl) (a:Act) (W:World),l.length=k→(l++r).Sublist l0→listed.size=ops.size→(∀i,listed.getD i true=false↔i∈ubv (l++r)) →
  (∀e'∈l0,e'.i∉ubv (l++r)→∀x∈e'.pre,x∉ubv (l++r))→(∀e∈r,∀e1∈l,e1.i∈e.pre)→uvv base l t→(∀id,base+ops.size≤id→t.H id=none)→ub6 T P ops.toList base ops.size l t K→Sat W0 B0 R0 N D t μ ν a W →
  wpAnyIn F n P .any ops Q (k+r.length) listed a W:=by
 simp only [ubu,Bool.and_eq_true,List.all_eq_true]at hs
 obtain⟨⟨⟨hlen,hnd⟩,hpairs⟩,hpre⟩:=hs
 have hnd:=ud9 hnd
 have hpairs:=uej hpairs
 have hlt:∀e∈l0,e.i<ops.size:=fun e he=>by
  obtain⟨o,ho,_⟩:=ubH (hpre e he)
  rw [uaZ]at ho
  exact(Array.getElem?_eq_some_iff.1 ho).1
 intro k
 induction k with
 | zero=>
  intro l listed t μ ν a W hk hsub hsz hli hinv _ hfree htop hrun hS
  have hl:l=[]:=List.eq_nil_of_length_eq_zero hk
  subst hl
  rw [Nat.zero_add]
  exact hQ listed _ μ ν a W hrun (fun id hid=>htop id hid) ⟨hS.size,hS.defers,hS.env,hS.wf,hS.ms,hS.mle,hS.bor,hS.mm⟩ hsz (by simpa using hli) (by simpa using hinv)
 | succ k ih =>
  intro l listed t μ ν a W hk hsub hsz hli hinv hblk hfree htop hrun hS
  have hmem:∀e∈l++r,e∈l0:=fun e he=>hsub.subset he
  rw [show k+1+r.length=(k+r.length)+1 by omega]
  have hunl:∀d,d<ops.size→d∉ubv (l++r)→listed.getD d false=true:=fun d hd hnd=>by
   have:¬listed.getD d true=false:=fun q=>hnd ((hli d).1 q)
   rw [ubW (by omega)]at this⊢
   simpa using this
  refine⟨fun hnil=> ?_,fun i hi=> ?_⟩
  ·
   exfalso
   cases l with
   |nil=>simp at hk
   | cons e l=>
    obtain⟨o,ho,hp⟩:=ubH (hpre e (hmem e (by simp)))
    have:e.i∈Region.ready .any ops listed:=mem_ready.2 ⟨(hli e.i).2 (by simp [ubv]),o,by rw [←uaZ];exact ho,fun ed hed hb=>by
     rw [udd]at hb
     have hd:=hp.deps ed.on (ue2.2 ⟨ed,hed,hb,rfl⟩)
     refine hunl _ (by simpa using hd.2) fun hin=> ?_
     obtain⟨e',he',hi'⟩:=uat.1 hin
     rcases List.mem_cons.1 he' with q|q
     ·subst q;exact hp.self (by rw [hi'];exact hd.1)
     ·have hpw:=(List.pairwise_cons.1 (show(e::(l++r)).Pairwise _ from hpairs.sublist hsub)).1 e' q
      unfold ugD at hpw
      rw [hi',uan.2 hd.1]at hpw
      cases hpw⟩
    rw [hnil]at this;cases this
  ·obtain ⟨hiun,o,ho,hall⟩:=mem_ready.1 hi
   have hin:=(hli i).1 hiun
   obtain⟨e,he0,rfl⟩:=uat.1 hin
   obtain⟨o',ho',hp⟩:=ubH (hpre e (hmem e he0))
   have hoe:o'=o:=by rw [uaZ,ho]at ho';exact(Option.some.inj ho').symm
   subst hoe
   have hsz':e.i<listed.size:=by have:=hlt e (hmem e he0);omega
   have hdl:∀d∈deps o',d∉ubv (l++r):=fun d hd hin=>by
    obtain⟨ed,hed,hb,rfl⟩:=ue2.1 hd
    have h1:=hall ed hed (by rw [udd];exact hb)
    have h2:=(hli ed.on).2 hin
    have h3:ed.on<listed.size:=by have:=(hp.deps _ hd).2;simp at this;omega
    rw [ubW h3]at h1 h2
    rw [h1]at h2;cases h2
   have hprel:∀x∈e.pre,x∉ubv (l++r):=fun x hx=>by
    rcases hp.pre x hx with q|⟨d,hd,e',he',rfl,hx'⟩
    ·exact hdl x q
    ·exact hinv e' he' (hdl _ hd) x hx'
   have he:e∈l:=(List.mem_append.1 he0).resolve_right fun her=>by
    cases l with
    |nil=>simp at hk
    |cons e1 l=>exact hprel e1.i (hblk e her e1 (by simp)) (uat.2 ⟨e1,by simp,rfl⟩)
   obtain⟨l1,l2,rfl⟩:=List.append_of_mem he
   have hndr:(ubv (l1++e::l2++r)).Nodup:=hnd.sublist (udR hsub)
   have hndl:(ubv (l1++e::l2)).Nodup:=hndr.sublist (udR (List.sublist_append_left _ _))
   have hind:∀e1∈l1,∃o1,nth ops.toList e1.i=some o1∧Indep ops.toList e1 e o1 o':=fun e1 h1=>by
    obtain⟨o1,ho1,_⟩:=ubH (hpre e1 (hmem e1 (by simp [h1])))
    have hpw:=(List.pairwise_append.1 (hpairs.sublist ((List.sublist_append_left _ _).trans hsub))).2.2 e1 h1 e (by simp)
    refine⟨o1,ho1,ukh ho1 ho' ?_⟩
    unfold ugD at hpw
    cases hq:ud1 e1.pre e.i with
    |true=>rw [hq]at hpw;cases hpw
    | false=>
     rw [hq]at hpw
     simp only [Bool.or_eq_true]at hpw
     refine hpw.resolve_left fun q=>hprel e1.i (uan.1 q) (uat.2 ⟨e1,by simp [h1],rfl⟩)
   have hM:isS o'=true→uaK T P ops.toList o' (base+e.i) (uaW t.E e) (uaI t.H base e) e.ord e.g fun u=>Wr base e u:=fun _=>uwO hT hdst l2 l1 t μ ν a W ho' hind hfree hndl hrun hS
   have hfront:=uva (fun x q=>hX e (hmem e he0) x q) ho' l2 l1 t hind hM hrun
   have hv:=uli (gH:=t.H) (nxt:=base) (e:=e)
   have hsub':(l1++l2++r).Sublist (l1++e::l2++r):=List.Sublist.append_right (List.Sublist.append_left (List.sublist_cons_self _ _) _) _
   have hsub2:(l1++l2).Sublist (l1++e::l2):=List.Sublist.append_left (List.sublist_cons_self _ _) _
   have hne:∀e'∈l1++l2++r,e'.i≠e.i:=fun e' he' q=>by
    have hcount:ubv (l1++e::l2++r)=ubv l1++e.i::ubv (l2++r):=by rw [List.append_assoc];exact ujx l1 (e::(l2++r))
    have hndl:=hndr
    rw [hcount]at hndl
    have hidx:e.i∈ubv l1∨e.i∈ubv (l2++r):=by
     rw [List.append_assoc]at he'
     rcases List.mem_append.1 he' with h|h
     ·exact .inl (uat.2 ⟨e',h,q⟩)
     ·exact .inr (uat.2 ⟨e',h,q⟩)
    rw [List.nodup_append]at hndl
    rcases hidx with h|h
    ·exact hndl.2.2 _ h _ (by simp) rfl
    ·exact(List.nodup_cons.1 hndl.2.1).1 h
   have hidx:∀j,j∈ubv (l1++l2++r)↔j∈ubv (l1++e::l2++r)∧j≠e.i:=fun j=>by
    rw [uat,uat]
    constructor
    ·rintro⟨e',h1,rfl⟩
     exact⟨⟨e',hsub'.subset h1,rfl⟩,hne e' h1⟩
    ·rintro⟨⟨e',h1,rfl⟩,h2⟩
     refine⟨e',?_,rfl⟩
     rw [List.append_assoc]at h1⊢
     rcases List.mem_append.1 h1 with h|h
     ·exact List.mem_append_left _ h
     ·rcases List.mem_cons.1 (show e'∈e::(l2++r)from h)with q|q
      ·subst q;exact absurd rfl h2
      ·exact List.mem_append_right _ q
   have hfront':=ual (fun u hg hk=>(⟨hk.2,hg⟩:ub6 T P ops.toList base ops.size (l1++l2) (t.upd o'.dst u) K∧u.Good (base+e.i) (uaI t.H base e) e.ord)) hfront
   refine umf hF hT hS (ukH hS e) ho (hfree e he) hv hfront' ?_
   rintro u μ' ν' v W' ⟨hku,hg⟩ hU
   refine ih (l1++l2) _ _ μ' ν' _ W' (by simp at hk⊢;omega) (hsub'.trans hsub) (by simpa using hsz) (fun j=> ?_) (fun e' he' hn x hx=> ?_) (fun e' he' e1 h1=>hblk e' he' e1 (hsub2.subset h1)) (fun e' he'=> ?_) (fun id hid=> ?_) hku
    (uc7 hS hU fun k hk=>hdst e.i o' k ho hk)
   ·rw [hidx]
    by_cases q:j=e.i
    ·subst q
     have hls:=hsz'
     simp [Array.getD_eq_getD_getElem?,hls]
    ·have:(listed.setIfInBounds e.i true).getD j true=listed.getD j true:=by
      rw [Array.getD_eq_getD_getElem?,Array.getD_eq_getD_getElem?,Array.getElem?_setIfInBounds,if_neg (fun h=>q h.symm)]
     rw [this,hli]
     simp [q]
   ·rw [hidx] at hn⊢
    intro ⟨h1,h2⟩
    by_cases q:e'.i=e.i
    ·
     have:e'=e:=by
      have h1':=hmem e he0
      clear hinv
      have:∀{l:List SE},(ubv l).Nodup→e'∈l→e∈l→e'=e:=by
       intro l
       induction l with
       |nil=>intro _ h;cases h
       | cons y l ih=>
        intro hnd h h'
        have hnd':=List.nodup_cons.1 (show(y.i::ubv l).Nodup from hnd)
        rcases List.mem_cons.1 h with r|r
        ·rcases List.mem_cons.1 h' with r'|r'
         ·rw [r,r']
         ·exact absurd (uat.2 ⟨e,r',by rw [←q,r]⟩) hnd'.1
        ·rcases List.mem_cons.1 h' with r'|r'
         ·exact absurd (uat.2 ⟨e',r,by rw [q,r']⟩) hnd'.1
         ·exact ih hnd'.2 r r'
      exact this hnd he' h1'
     subst this
     exact hprel x hx h1
    ·exact hinv e' he' (fun h=>hn ⟨h,q⟩) x hx h1
   ·exact ue4 hg hv (fun q=>hne e' (List.mem_append_left _ he') (by omega)) (hfree e' (hsub2.subset he'))
   ·exact ue4 hg hv (by have:=hlt e (hmem e he0);omega) (htop id hid)
theorem ugV (hF:FenceOk F P)(hT:uc5 P T)(hdst:∀(j:Nat) (o:Oper) k,ops[j]? =some o→o.dst=some k→k<N) {l0:List SE}(hs:ubu ops.toList l0=true)(hX:∀e∈l0,∀x,e.x=some x→x<base)
 (hQ:∀t μ ν a W,K t→(∀id,t.nxt≤id→t.H id=none)→Sat W0 B0 R0 N D t μ ν a W→Q .normal a W):
 ∀ (k:Nat) (l:List SE) (listed:Array Bool) (t:Sta) (μ:Mem) (ν:Vl) (a:Act) (W:World),l.length=k→l.Sublist l0→listed.size=ops.size→(∀i,listed.getD i true=false↔i∈ubv l) →
  (∀e'∈l0,e'.i∉ubv l→∀x∈e'.pre,x∉ubv l)→uvv base l t→(∀id,base+ops.size≤id→t.H id=none)→ub6 T P ops.toList base ops.size l t K→Sat W0 B0 R0 N D t μ ν a W →
  wpAnyIn F n P .any ops Q k listed a W:=by
 intro k l listed t μ ν a W hk hsub hsz hli hinv hfree htop hrun hS
 refine uiq hF hT hdst hs hX [] (fun listed t μ ν a W hK hf hS hsz hli _=>⟨?_,hQ t μ ν a W hK hf hS⟩) k l listed t μ ν a W hk (by simpa using hsub) hsz (by simpa using hli) (by simpa using hinv) (fun e he=>by cases he) hfree htop hrun hS
 cases hr:Region.ready .any ops listed with
 |nil=>rfl
 | cons j rs=>
  have hj:j∈Region.ready .any ops listed:=by rw [hr];simp
  have:=(hli j).1 (mem_ready.1 hj).1
  simp [ubv]at this
end
end Go.Eng

namespace Go.Eng
open Go
def ues (N:Nat):List Oper→Bool
 |[]=>true
 | o ::l=>match o.dst with
  | some d=>match Nat.blt d N with
   |true=>ues N l
   |false=>false
  |none=>ues N l
theorem ud8 {N:Nat} {l:List Oper}(h:ues N l=true):∀o∈l,∀k,o.dst=some k→k<N:=by
 induction l with
 |nil=>intro o ho;cases ho
 | cons x l ih=>
  intro o ho k hk
  simp only [ues]at h
  cases hd:x.dst with
  | none=>
   rw [hd]at h
   rcases List.mem_cons.1 ho with rfl|ho
   ·rw [hd]at hk;cases hk
   ·exact ih h o ho k hk
  | some d=>
   rw [hd]at h
   simp only at h
   cases hb:Nat.blt d N with
   |false=>rw [hb]at h;cases h
   | true=>
    rw [hb]at h
    rcases List.mem_cons.1 ho with rfl|ho
    ·rw [hd]at hk;cases hk;exact ub1 hb
    ·exact ih h o ho k hk
def uaE (N:Nat)(sc:SC):Code→Bool
 | .region id ops draw=>match ues N ops.toList,draw with
  |true,false=>true
  | true,true=>match lk sc id with
   |some l=>ubu ops.toList l
   |none=>false
  |false,_=>false
 | .seq a b=>uaE N sc a&&uaE N sc b
 | .cond _ a b=>uaE N sc a&&uaE N sc b
 | .block _ c=>uaE N sc c
 | .loop c=>uaE N sc c
 | .rangeFunc _ ps a b=>ugJ ps.toList N&&(uaE N sc a&&uaE N sc b)
 | .scope c=>uaE N sc c
 |_=>true
def LS.Fresh (s:LS):Prop:=∀id,s.nxt≤id→lk s.H id=none
def uio (ro:Option Nat)(N0:Nat)(D:List Deferred)(W:World):Prop:=D.Pairwise (· ≠ ·)∧(∀d∈D,∃k,d={target:=.collected k,args:= #[]}∧N0≤k∧W.heap[k]? =some (.deferred (some []))) ∧
 ∀l0,ro=some l0→∃r,W.heap[l0]? =some (.loop r)
section
variable {P:Program} {T:uar} {W0:World} {B0:Nat→Prop} {R0:Bor} {N:Nat} {D:List Deferred} {t t':Sta} {μ μ':Mem} {ν ν':Vl} {a a':Act} {W W':World}
variable {F:Fence} {n:Nat} {Q:Exit→Act→World→Prop}
def uzd (t:Sta)(ν:Vl)(b:Nat):Prop:=∃id,(t.H id).isSome=true∧ν.b id=some b
def ujz (t:Sta)(ν:Vl)(μ:Mem)(b:Nat):Prop:=uzd t ν b∨uaz μ b
theorem ufW (B:Nat→Prop)(W:World):Frm B W W:=⟨rfl,rfl,rfl,Nat.le_refl _,fun _ _ _=>rfl⟩
theorem Sat.rebase (h:Sat W0 B0 R0 N D t μ ν a W):Sat W (ujz t ν μ) ⟨R0.tab,μ⟩ N D t μ ν a W:=
 ⟨h.size,h.defers,h.env,h.wf,⟨h.ms.mem,⟨h.ms.own.holds,h.ms.own.inj,h.ms.own.out,fun id _ hs hb=>.inr (.inl ⟨id,hs,hb⟩)⟩,ufW _ _,h.ms.wf⟩,MLe.refl _ _ _,h.bor,fun b hb=>.inr hb⟩
theorem Sat.unbase {D':List Deferred}(h:Sat W0 B0 R0 N D t μ ν a W)(h':Sat W (ujz t ν μ) ⟨R0.tab,μ⟩ N D' t' μ' ν' a' W'):Sat W0 B0 R0 N D' t' μ' ν' a' W':=by
 have hfr:=h.ms.frm
 have hfr':=h'.ms.frm
 have hown:∀b,ujz t ν μ b→W0.heap.size≤b∨B0 b:=fun b q=>q.elim (fun ⟨id,hs,hb⟩=>h.ms.own.place id b hs hb) fun q=>h.memoB q
 refine⟨h'.size,h'.defers,h'.env,h'.wf,⟨h'.ms.mem,⟨h'.ms.own.holds,h'.ms.own.inj,h'.ms.own.out,fun id b hs hb=> ?_⟩,⟨hfr'.os.trans hfr.os,hfr'.tape.trans hfr.tape,hfr'.output.trans hfr.output,Nat.le_trans hfr.size hfr'.size,fun b hb hB=> ?_⟩,h'.ms.wf⟩,h.mle.trans ⟨h'.mle.le,fun b c hc=>(h'.mle.new b c hc).elim .inl fun q=>.inr (q.elim (fun q=>.inl (Nat.le_trans hfr.size q)) (hown b))⟩,h'.bor,h.mm⟩
 ·rcases h'.ms.own.place id b hs hb with q|q
  ·exact .inl (Nat.le_trans hfr.size q)
  ·exact hown b q
 ·refine(hfr'.block b (by have:=hfr.size;omega) fun q=> ?_).trans (hfr.block b hb hB)
  rcases hown b q with q|q
  ·omega
  ·exact hB q
theorem Sat.defOk {D1:List Deferred}(h:Sat W0 B0 R0 N D t μ ν a W)(h':Sat W (ujz t ν μ) ⟨R0.tab,μ⟩ N D1 t' μ' ν' a' W') {ro:Option Nat} {N0:Nat} {D':List Deferred}(hd:uio ro N0 D' W):uio ro N0 D' W':=by
 have key:∀(k:Nat) (o:Obj),W.heap[k]? =some o→ugK o=false→W'.heap[k]? =some o:=fun k o hk hc=>by
  refine(h'.ms.frm.block k (uag hk) ?_).trans hk
  rintro(⟨id,hs,hb⟩|⟨kt,vt,sc,nk,F,hm⟩)
  ·obtain⟨blk,hblk⟩:=Option.isSome_iff_exists.1 hs
   obtain⟨o',h1,h2⟩:=(h.ms.own.holds id blk hblk).block hb
   rw [hk]at h1
   rw [←Option.some.inj h1,hc]at h2;cases h2
  ·obtain⟨es,clock,h1,_⟩:=h.ms.mem k _ hm
   rw [hk]at h1
   rw [Option.some.inj h1]at hc;cases hc
 refine⟨hd.1,fun d hdm=> ?_,fun l0 hl=> ?_⟩
 ·obtain⟨k,e,hn,hk⟩:=hd.2.1 d hdm
  exact⟨k,e,hn,key k _ hk rfl⟩
 ·obtain⟨r,hr⟩:=hd.2.2 l0 hl
  exact⟨r,key l0 _ hr rfl⟩
theorem Sat.world (h:Sat W0 B0 R0 N D t μ ν a W)(hh:W'.heap=W.heap)(ho:W'.os=W.os)(ht:W'.tape=W.tape)(hp:W'.output=W.output):Sat W0 B0 R0 N D t μ ν a W':=by
 have hfr:=h.ms.frm
 refine⟨h.size,h.defers,h.env,h.wf,⟨fun b c hb=> ?_,⟨fun id blk hb=>(h.ms.own.holds id blk hb).mono (fun _ _ h=>h) (fun _ _=>⟨rfl,rfl⟩) (fun b _=>by rw [hh]),h.ms.own.inj,h.ms.own.out,h.ms.own.place⟩,
  ⟨ho.trans hfr.os,ht.trans hfr.tape,hp.trans hfr.output,by rw [hh];exact hfr.size,fun b hb hB=>by rw [hh];exact hfr.block b hb hB⟩,h.ms.wf⟩,h.mle,h.bor,h.mm⟩
 exact(h.ms.mem b c hb).same (by rw [hh])
theorem Sat.put (h:Sat W0 B0 R0 N D t μ ν a W)(k:Nat) {x:SV}(hx:Rel μ ν x (a.tmps.getD k undef))(hi:∀id∈x.ids,(t.H id).isSome=true):Sat W0 B0 R0 N D ⟨uc0 t.E (some k) x,t.H,t.nxt⟩ μ ν a W:=by
 refine⟨h.size,h.defers,fun j=> ?_,fun j=> ?_,h.ms,h.mle,h.bor,h.mm⟩
 ·simp only [uc0]
  split
  ·rename_i e;subst e;exact hx
  ·exact h.env j
 ·simp only [uc0]
  split
  ·exact hi
  ·exact h.wf j
section seq
variable {ops:Array Oper} {K:LS→Prop}
theorem uiP (hF:FenceOk F P)(hT:uc5 P T) {K':Act→World→Prop} {KU:Upd→Prop}(h:Sat W0 B0 R0 N D t μ ν a W) {i nid:Nat} {o:Oper}(ho:ops[i]? =some o)(hnid:t.H nid=none)(hw:Region.wanted o (yielded ops a.tmps)=true)
 (hop:opT T P o nid t.E t.H true KU) (hn:∀u μ' ν' v W',KU u→u.Good nid t.H true→UpdOk W0 B0 t u μ ν μ' ν' v W'→K' (a.put o.dst v) W'):wpOpIn F n P ops Q i K' a W:=by
 unfold wpOpIn
 simp only [ho,hw,if_true]
 refine⟨fun f _=>hF.fn f,?_⟩
 rw [ufx hop]
 exact ucJ hF (ugo hT h hnid (fun _ _ h=>h) o (ub3 (K':=fun u=>KU u∧u.Good nid t.H true) (fun u hg hk=>⟨hk,hg⟩) hop)) fun u μ' ν' v W' ⟨hk,hg⟩ hU=>hn u μ' ν' v W' hk hg hU
theorem ulB (hF:FenceOk F P) {K':Act→World→Prop} {i:Nat} {o:Oper}(ho:ops[i]? =some o)(hw:Region.wanted o (yielded ops a.tmps)=false)(hn:K' (a.put o.dst undef) W):wpOpIn F n P ops Q i K' a W:=by
 unfold wpOpIn
 simp only [ho,hw,Bool.false_eq_true,if_false]
 exact⟨fun f _=>hF.fn f,hn⟩
theorem ujj (hF:FenceOk F P)(hT:uc5 P T)(hdst:ues N ops.toList=true)
 (hQ:∀s' μ' ν' a' W',K s'→s'.Fresh→Sat W0 B0 R0 N D s'.fs μ' ν' a' W'→Q .normal a' W'):
 ∀ (l:List Oper) (i nid:Nat) (s:LS) (μ:Mem) (ν:Vl) (a:Act) (W:World),ops.toList.drop i=l→(∀id,nid≤id→lk s.H id=none)→Sat W0 B0 R0 N D s.fs μ ν a W→ugS T P ops.toList l nid s K →
  wpOpsIn F n P ops Q (List.range' i l.length) a W:=by
 intro l
 induction l with
 | nil=>
  intro i nid s μ ν a W _ hfree hS hrun
  exact hQ _ μ ν a W hrun (fun id hid=>hfree id hid) ⟨hS.size,hS.defers,hS.env,hS.wf,hS.ms,hS.mle,hS.bor,hS.mm⟩
 | cons o l ih=>
  intro i nid s μ ν a W hdrop hfree hS hrun
  have ho:ops[i]? =some o:=by
   have:=congrArg (fun l=>l[0]?) hdrop
   simpa using this
  have hdrop':ops.toList.drop (i+1)=l:=by
   have:=congrArg (List.drop 1) hdrop
   simpa [List.drop_drop,Nat.add_comm]using this
  have hd:∀k,o.dst=some k→k<N:=ud8 hdst o (by
   have:=Array.mem_of_getElem? ho
   simpa using this)
  rw [List.length_cons,List.range'_succ,wpOpsIn_cons]
  simp only [ugS,uff]at hrun
  have hg:=ufl (ops:=ops) hS o
  have next:∀(s1:LS),(∀id,nid≤id→lk s1.H id=none)→Sat W0 B0 R0 N D s1.fs μ ν a W→∀u μ' ν' v W',ugS T P ops.toList l (nid+1) (ub4 s1 o.dst u) K→u.Good nid s1.fs.H true→UpdOk W0 B0 s1.fs u μ ν μ' ν' v W' →
   wpOpsIn F n P ops Q (List.range' (i+1) l.length) (a.put o.dst v) W':=fun s1 hf1 hS1 u μ' ν' v W' hk hgood hU=>by
   have hS2:=uc7 hS1 hU hd
   rw [←uaD]at hS2
   refine ih (i+1) (nid+1) _ μ' ν' _ W' hdrop' (fun id hid=> ?_) hS2 hk
   have:(s1.fs.upd o.dst u).H id=none:=ue4 hgood (fun _ _ h=>h) (by omega) (hf1 id (by omega))
   rw [←uaD]at this
   exact this
  have skip:∀(s1:LS),(∀id,nid≤id→lk s1.H id=none)→Sat W0 B0 R0 N D s1.fs μ ν a W→ugS T P ops.toList l (nid+1) ⟨ude s1.env o.dst (.tup []),s1.H,s1.nxt⟩ K →
   wpOpsIn F n P ops Q (List.range' (i+1) l.length) (a.put o.dst undef) W:=fun s1 hf1 hS1 hk=>
   next s1 hf1 hS1 (ua5 (.tup [])) μ ν undef W hk (ua7 _) (ubT hS1.ms udG (by simp [SV.ids,SV.idsL]))
  have lit:∀dj f w,ubO s dj = .bool (.sym f)→f ()=w→Sat W0 B0 R0 N D (⟨ude s.env (some dj) (.bool (.lit w)),s.H,s.nxt⟩:LS).fs μ ν a W:=fun dj f w he hf=>by
   have:=hS.put dj (x:=.bool (.lit w)) (by
    have:=hS.env dj
    rw [show s.fs.E dj = .bool (.sym f)from he]at this
    rw [ubm this]
    simp only [BX.den,hf]
    exact .bool ν (.lit w)) (by simp [SV.ids])
   have e:(⟨ude s.env (some dj) (.bool (.lit w)),s.H,s.nxt⟩:LS).fs=⟨uc0 s.fs.E (some dj) (.bool (.lit w)),s.fs.H,s.fs.nxt⟩:=by
    simp only [LS.fs]
    congr 1
    exact ucz s s.env (some dj) _ _ _
   rw [e];exact this
  have hE:s.fs.E=ubO s:=rfl
  rw [hE]at hg
  split at hrun
  ·rename_i e
   rw [e]at hg
   exact uiP hF hT hS ho (hfree nid (Nat.le_refl _)) hg hrun (next s hfree hS)
  ·rename_i e
   rw [e]at hg
   exact ulB hF ho hg (skip s hfree hS hrun)
  ·rename_i dj f w e
   rw [e]at hg
   by_cases hf:f ()=w
   ·have hSl:=lit dj f w hg.1 hf
    exact uiP hF hT hSl ho (hfree nid (Nat.le_refl _)) (by rw [hg.2,hf];simp) (hrun.1 hf) (next ⟨ude s.env (some dj) (.bool (.lit w)),s.H,s.nxt⟩ hfree hSl)
   ·have hf':f () = !w:=by cases h:f ()<;>cases w<;>simp_all
    have hSl:=lit dj f (!w) hg.1 hf'
    exact ulB hF ho (by rw [hg.2,hf'];cases w<;>rfl) (skip ⟨ude s.env (some dj) (.bool (.lit (!w))),s.H,s.nxt⟩ hfree hSl (hrun.2 hf'))
  ·exact hrun.elim
end seq
end
end Go.Eng

namespace Go.Eng
open Go
def udJ :List Nat→Nat
 |[]=>0
 |x::l=>Nat.lor (Nat.shiftLeft 1 x) (udJ l)
def inM (l:List Nat)(n:Nat):Bool:=Nat.beq (Nat.land (Nat.shiftRight (udJ l) n) 1) 1
theorem ueG {l:List Nat} {n:Nat}:(udJ l).testBit n=true↔n∈l:=by
 induction l with
 |nil=>simp [udJ]
 | cons x l ih=>
  have e:udJ (x::l)=(1 <<< x) |||udJ l:=rfl
  rw [e,Nat.testBit_or,Bool.or_eq_true,ih,List.mem_cons,Nat.one_shiftLeft,Nat.testBit_two_pow,decide_eq_true_eq]
  exact or_congr eq_comm Iff.rfl
theorem urL {l:List Nat} {n:Nat}:inM l n=true↔n∈l:=by
 rw [←ueG]
 unfold inM
 have e:Nat.land (Nat.shiftRight (udJ l) n) 1=(udJ l >>>n) &&& 1:=rfl
 rw [e,Nat.and_one_is_mod,Nat.shiftRight_eq_div_pow,Nat.testBit_eq_decide_div_mod_eq,decide_eq_true_eq]
 exact⟨fun h=>Nat.eq_of_beq_eq_true h,fun h=>by rw [h];rfl⟩
theorem ul7 (l:List Nat)(n:Nat):inM l n=ud1 l n:=by
 rw [Bool.eq_iff_iff,urL,uan]
def usy (ops:List Oper)(e1 e:SE):Bool:=match inM e1.pre e.i with
 |true=>false
 |false=>inM e.pre e1.i||ugq ops e1 e
def ukq (ops:List Oper):List SE→Bool
 |[]=>true
 |e::l=>l.all (usy ops e)&&ukq ops l
theorem uq7 (ops:List Oper)(e1 e:SE):usy ops e1 e=ugD ops e1 e:=by
 unfold usy ugD
 simp only [ul7]
 try rfl
 try (cases ud1 e1.pre e.i<;>rfl)
theorem umP (ops:List Oper)(l:List SE):ukq ops l=ueB ops l:=by
 induction l with
 |nil=>rfl
 | cons e l ih=>
  simp only [ukq,ueB,ih]
  congr 2
  exact funext fun e'=>uq7 ops e e'
def uly :List SE→Nat→Nat
 |[],_=>0
 | e::l,d=>match Nat.beq e.i d with
  |true=>udJ e.pre
  |false=>uly l d
def upz (l0:List SE):List Nat→Nat
 |[]=>0
 |d::r=>Nat.lor (uly l0 d) (upz l0 r)
def uxm (ops:List Oper)(l0:List SE)(e:SE):Bool:=match nth ops e.i with
 | some o=>match inM e.pre e.i with
  |true=>false
  |false=>(deps o).all (fun d=>inM e.pre d&&Nat.blt d ops.length)&&Nat.beq (Nat.lor (udJ e.pre) (Nat.lor (udJ (deps o)) (upz l0 (deps o)))) (Nat.lor (udJ (deps o)) (upz l0 (deps o)))
 |none=>false
theorem uih {d x:Nat}:∀{l0:List SE},(uly l0 d).testBit x=true→l0.any (fun e'=>Nat.beq e'.i d&&ud1 e'.pre x)=true
 |[],h=>by simp [uly]at h
 | e ::l,h=>by
  simp only [uly]at h
  rw [List.any_cons,Bool.or_eq_true]
  split at h
  ·rename_i hb
   exact .inl (by rw [hb,Bool.true_and,uan];exact ueG.1 h)
  ·exact .inr (uih h)
theorem ull {l0:List SE} {x:Nat}:∀{l:List Nat},(upz l0 l).testBit x=true→udX l0 x l=true
 |[],h=>by simp [upz]at h
 | d::r,h=>by
  have e:upz l0 (d::r)=uly l0 d |||upz l0 r:=rfl
  rw [e,Nat.testBit_or,Bool.or_eq_true]at h
  simp only [udX,Bool.or_eq_true]
  exact h.imp uih ull
theorem urD {ops:List Oper} {l0:List SE} {e:SE}(h:uxm ops l0 e=true):preB ops l0 e=true:=by
 unfold uxm at h
 unfold preB
 cases ho:nth ops e.i with
 |none=>rw [ho]at h;cases h
 | some o=>
  rw [ho]at h
  cases hi:ud1 e.pre e.i with
  | true=>
   have hi':inM e.pre e.i=true:=by rw [ul7];exact hi
   simp only [hi']at h
   cases h
  | false=>
   have hi':inM e.pre e.i=false:=by rw [ul7];exact hi
   simp only [hi']at h
   show((deps o).all (fun d=>ud1 e.pre d&&Nat.blt d ops.length)&&e.pre.all (fun x=>ud1 (deps o) x||udX l0 x (deps o)))=true
   rw [Bool.and_eq_true]at h⊢
   refine⟨?_,?_⟩
   ·have h1:=h.1
    simp only [ul7]at h1
    exact h1
   ·have h2:(udJ e.pre |||(udJ (deps o) |||upz l0 (deps o)))=(udJ (deps o) |||upz l0 (deps o)):=Nat.eq_of_beq_eq_true h.2
    rw [List.all_eq_true]
    intro x hx
    have h3:(udJ e.pre |||(udJ (deps o) |||upz l0 (deps o))).testBit x=true:=by
     rw [Nat.testBit_or,ueG.2 hx,Bool.true_or]
    rw [h2,Nat.testBit_or,Bool.or_eq_true]at h3
    rw [Bool.or_eq_true]
    exact h3.imp (fun q=>uan.2 (ueG.1 q)) ull
def up3 (ops:List Oper)(l:List SE):Bool:=Nat.beq l.length ops.length&&ui4 (ubv l)&&ukq ops l&&l.all (uxm ops l)
theorem upl {ops:List Oper} {l:List SE}(h:up3 ops l=true):ubu ops l=true:=by
 unfold up3 at h
 unfold ubu
 rw [Bool.and_eq_true,umP]at h
 rw [Bool.and_eq_true]
 refine⟨h.1,?_⟩
 rw [List.all_eq_true]
 intro e he
 exact urD (List.all_eq_true.1 h.2 e he)
def ud7 (N:Nat)(sc:SC):Code→Bool
 | .region id ops draw=>match ues N ops.toList,draw with
  |true,false=>true
  | true,true=>match lk sc id with
   |some l=>up3 ops.toList l
   |none=>false
  |false,_=>false
 | .seq a b=>ud7 N sc a&&ud7 N sc b
 | .cond _ a b=>ud7 N sc a&&ud7 N sc b
 | .block _ c=>ud7 N sc c
 | .loop c=>ud7 N sc c
 | .rangeFunc _ ps a b=>ugJ ps.toList N&&(ud7 N sc a&&ud7 N sc b)
 | .scope c=>ud7 N sc c
 |_=>true
theorem uhA {N:Nat} {sc:SC}:∀{c:Code},ud7 N sc c=true→uaE N sc c=true:=by
 intro c
 induction c with
 | region id ops draw=>
  intro h
  simp only [ud7]at h
  simp only [uaE]
  cases hb:ues N ops.toList with
  |false=>rw [hb]at h;cases draw<;>cases h
  | true=>
   rw [hb]at h
   cases draw with
   |false=>rfl
   | true=>
    cases hl:lk sc id with
    |none=>rw [hl]at h;cases h
    |some l=>rw [hl]at h;exact upl h
 |seq a b iha ihb=>intro h;simp only [ud7,uaE,Bool.and_eq_true]at h⊢;exact⟨iha h.1,ihb h.2⟩
 |cond c a b iha ihb=>intro h;simp only [ud7,uaE,Bool.and_eq_true]at h⊢;exact⟨iha h.1,ihb h.2⟩
 |block id c ih=>intro h;simp only [ud7,uaE]at h⊢;exact ih h
 |loop c ih=>intro h;simp only [ud7,uaE]at h⊢;exact ih h
 |rangeFunc x ps a b iha ihb=>intro h;simp only [ud7,uaE,Bool.and_eq_true]at h⊢;exact⟨h.1,iha h.2.1,ihb h.2.2⟩
 |scope c ih=>intro h;simp only [ud7,uaE]at h⊢;exact ih h
 |_=>intro _;simp only [uaE]
end Go.Eng

namespace Go.Eng
open Go
theorem ufA {H:List (Nat×Blk)} {id:Nat}:id∈upB H↔(lk H id).isSome=true:=by
 induction H with
 |nil=>simp [upB,lk]
 | cons x l ih=>
  obtain⟨k,b⟩:=x
  simp only [upB,lk,List.mem_cons]
  cases hb:Nat.beq k id with
  |true=>have:=uac hb;simp [this]
  | false=>
   have:¬id=k:=by rintro rfl;simp at hb
   simp [this,ih]
theorem ufn {l:List Nat} {n:Nat}(h:ugJ l n=true):∀x∈l,x<n:=by
 induction l with
 |nil=>intro x hx;cases hx
 | cons y l ih=>
  simp only [ugJ]at h
  cases hb:Nat.blt y n with
  |false=>rw [hb]at h;cases h
  | true=>
   rw [hb]at h
   intro x hx
   rcases List.mem_cons.1 hx with rfl|hx
   ·exact ub1 hb
   ·exact ih h x hx
theorem ujG {env:List (Nat×SV)} {k:Nat} {x:SV}(h:lk env k=some x):∀id∈x.ids,id∈ugL env:=by
 induction env with
 |nil=>simp [lk]at h
 | cons y l ih=>
  obtain⟨j,z⟩:=y
  simp only [lk]at h
  intro id hid
  simp only [ugL]
  cases hb:Nat.beq j k with
  |true=>rw [hb]at h;simp only [Option.some.injEq]at h;subst h;exact List.mem_append_left _ hid
  |false=>rw [hb]at h;exact List.mem_append_right _ (ih h id hid)
theorem upe {H:List (Nat×Blk)} {k:Nat} {x:Blk}(h:lk H k=some x):∀id∈ua9 x,id∈uvr H:=by
 induction H with
 |nil=>simp [lk]at h
 | cons y l ih=>
  obtain⟨j,z⟩:=y
  simp only [lk]at h
  intro id hid
  simp only [uvr]
  cases hb:Nat.beq j k with
  |true=>rw [hb]at h;simp only [Option.some.injEq]at h;subst h;exact List.mem_append_left _ hid
  |false=>rw [hb]at h;exact List.mem_append_right _ (ih h id hid)
theorem unO {ge:Nat→SV} {env:List (Nat×SV)}(h:ux1 ge env) {k:Nat} {x:SV}(hk:lk env k=some x):Le (ge k) x:=by
 induction env with
 |nil=>simp [lk]at hk
 | cons y l ih=>
  obtain⟨j,z⟩:=y
  simp only [lk]at hk
  cases hb:Nat.beq j k with
  | true=>
   rw [hb]at hk
   simp only [Option.some.injEq]at hk
   subst hk
   have:=uac hb
   subst this
   exact h.1 ()
  |false=>rw [hb]at hk;exact ih h.2 hk
theorem ud6 {gH:Nat→Option Blk} {H:List (Nat×Blk)}(h:uvx gH H) {k:Nat} {x:Blk}(hk:lk H k=some x):∃b,gH k=some b∧BLe b x:=by
 induction H with
 |nil=>simp [lk]at hk
 | cons y l ih=>
  obtain⟨j,z⟩:=y
  simp only [lk]at hk
  cases hb:Nat.beq j k with
  | true=>
   rw [hb]at hk
   simp only [Option.some.injEq]at hk
   subst hk
   have:=uac hb
   subst this
   have h1:=h.1
   cases hg:gH j with
   |none=>rw [hg]at h1;exact h1.elim
   |some b=>rw [hg]at h1;exact⟨b,rfl,h1 ()⟩
  |false=>rw [hb]at hk;exact ih h.2 hk
theorem BLe.isRow {a b:Blk}(h:BLe a b):b.isRow=a.isRow:=by
 cases a<;>cases b<;>first|rfl|exact h.elim
theorem BLe.holds {a b:Blk}(h:BLe a b) {μ:Mem} {ν:Vl} {W:World} {id:Nat}(ha:a.Holds μ ν W id):b.Holds μ ν W id:=by
 cases a with
 | cells l ty=>
  cases b with
  |row=>exact h.elim
  |map=>exact h.elim
  |it=>exact h.elim
  | cells l' ty'=>
   obtain⟨rfl,h2⟩:=h
   obtain⟨b,cs,q1,q2,q3⟩:=ha
   exact⟨b,cs,q1,q2,h2 _ _ _ q3⟩
 | row ety sz n e=>
  cases b with
  |cells=>exact h.elim
  |map=>exact h.elim
  |it=>exact h.elim
  | row ety' sz' n' e'=>
   obtain⟨rfl,rfl,h3,h4⟩:=h
   obtain⟨v,q1,q2⟩:=ha
   refine⟨v,q1,?_⟩
   rcases q2 with⟨p1,p2,p3⟩|⟨b,len,cap,cur,p1,p2,p3,p4,p5,p6,p7,p8⟩
   ·exact .inl ⟨p1,h3▸p2,p3⟩
   ·refine .inr ⟨b,len,cap,cur,p1,p2,h3▸p3,p4,p5,p6,p7,fun ix i0 i1=>h4 _ _ ix _ i0 (h3▸i1) fun jx hj=> ?_⟩
    have:=p8 jx (by omega) (by rw [hj,h3];exact i1)
    rw [hj]at this
    exact this
 | it sc nk R F la=>
  cases b with
  |cells=>exact h.elim
  |row=>exact h.elim
  |map=>exact h.elim
  | it sc' nk' R' F' la'=>
   obtain⟨rfl,rfl,h4,h5⟩:=h
   obtain⟨b,bm,es,clock,ueh,q1,q2,q3,q4⟩:=ha
   refine⟨b,bm,es,clock,ueh,q1,q2,q3,⟨q4.one,q4.once,q4.born,q4.clock,fun e he hs=> ?_,fun ks hk hr=>q4.all ks hk ((h5 ks hk).1.trans hr),fun ks hk=> ?_⟩⟩
   ·obtain⟨ks,p1,p2,p3,p4⟩:=q4.left e he hs
    exact⟨ks,p1,p2,(h5 ks p1).1.symm.trans p3,(h5 ks p1).2 _ _ _ p4⟩
   ·rcases h4 with h4|h4
    ·rw [h4]at hk;cases hk
    ·obtain⟨p0,e,s0,p1,p2,p3,p4⟩:=q4.last ks (h4▸hk)
     exact⟨p0,e,s0,p1,p2,p3,(h5 ks p0).2 _ _ _ p4⟩
 | map kt vt sc nk f=>
  cases b with
  |cells=>exact h.elim
  |row=>exact h.elim
  |it=>exact h.elim
  | map kt' vt' sc' nk' f'=>
   obtain⟨rfl,rfl,rfl,rfl,h5⟩:=h
   obtain⟨b,es,clock,q1,q2,q3⟩:=ha
   refine⟨b,es,clock,q1,q2,⟨q3.one,q3.keys,q3.once,q3.born,q3.clock,fun ks hk hn=> ?_,fun ks s hk hs=> ?_⟩⟩
   ·have:=h5 ks
    rw [hn]at this
    cases hf:f ks with
    |none=>exact q3.no ks hk hf
    |some s=>rw [hf]at this;exact this.elim
   ·have:=h5 ks
    rw [hs]at this
    cases hf:f ks with
    |none=>rw [hf]at this;exact this.elim
    | some s'=>
     rw [hf]at this
     obtain⟨e,e1,e2,e3⟩:=q3.yes ks s' hk hf
     exact⟨e,e1,e2,this _ _ _ e3⟩
section
variable {P:Program} {T:uar} {W0:World} {B0:Nat→Prop} {R0:Bor} {N:Nat} {D:List Deferred} {t t':Sta} {μ μ':Mem} {ν ν':Vl} {a a':Act} {W W':World}
variable {F:Fence} {n:Nat} {Q:Exit→Act→World→Prop}
theorem ueV {kp:List Nat} {s t:LS}(he:Ent kp s t)(hR:∀id,(R0 id).isSome=true→id∈kp)(h:Sat W0 B0 R0 N D s.fs μ ν a W):Sat W0 B0 R0 N D t.fs μ ν a W∧t.Fresh:=by
 obtain⟨hw,hk,hE,hH⟩:=he
 unfold wfB at hw
 split at hw
 ·rename_i w1 w2 w3
  have hdom:∀id,(lk t.H id).isSome=true→(lk s.H id).isSome=true:=fun id hs=>by
   obtain⟨x,hx⟩:=Option.isSome_iff_exists.1 hs
   obtain⟨b,hb,_⟩:=ud6 hH hx
   exact ua2 hb
  have hms:=h.ms
  refine⟨⟨h.size,h.defers,fun k=> ?_,fun k id hid=> ?_,⟨hms.mem,⟨fun id x hx=> ?_,fun id id' b hs hs'=>hms.own.inj id id' b (hdom id hs) (hdom id' hs'),fun id b hs=>hms.own.out id b (hdom id hs),fun id b hs=>hms.own.place id b (hdom id hs)⟩,hms.frm,fun i b hb id hid=> ?_⟩,h.mle,fun id r b hr=> ?_,h.mm⟩,fun id hid=> ?_⟩
  ·show Rel μ ν (ubO t k) _
   unfold ubO
   cases hl:lk t.env k with
   |none=>exact .any _ _
   |some x=>exact unO hE hl _ _ _ (h.env k)
  ·have hid':id∈(ubO t k).ids:=hid
   unfold ubO at hid'
   cases hl:lk t.env k with
   |none=>rw [hl]at hid';simp [udP,SV.ids]at hid'
   | some x=>
    rw [hl]at hid'
    exact ufA.1 (uaA w3 id (ujG hl id hid'))
  ·obtain⟨b,hb,hle⟩:=ud6 hH hx
   exact hle.holds (hms.own.holds id b hb)
  ·exact ufA.1 (uaA hw id (upe hb id hid))
  ·obtain⟨blk,q1,q2,q3⟩:=h.bor id r b hr
   have hd:=ufA.1 (uaA hk id (hR id (ua2 hr)))
   obtain⟨x,hx⟩:=Option.isSome_iff_exists.1 hd
   obtain⟨b',hb',hle⟩:=ud6 hH hx
   have:b'=blk:=Option.some.inj (hb'.symm.trans q1)
   subst this
   exact⟨x,hx,hle.isRow.trans q2,q3⟩
  ·cases hl:lk t.H id with
   |none=>rfl
   | some x=>
    have:=ufn w1 id (ufA.2 (ua2 hl))
    omega
 ·cases hw
theorem uiG {s:SV} {v:Value}(h:ukB s=true)(hr:Rel μ ν s v):∃ad,v = .slice ad 0 0:=by
 unfold ukB at h
 split at h
 ·exact⟨none,(ucY hr).1⟩
 ·obtain⟨b,_,hv⟩:=ucC hr
  exact⟨_,hv⟩
 ·cases h
theorem ukU {H:Nat→Option Blk}(h:MSat W0 B0 H μ ν W) {nid:Nat}(hn:H nid=none)(x:Seed)(ad:Option Addr):
 MSat W0 B0 (fun k=>if k=nid then some (ubs x)else H k) μ (ν.setR nid none (.slice ad 0 0)) W:=by
 have ua3:∀k,k≠nid→(ν.setR nid none (.slice ad 0 0)).b k=ν.b k∧(ν.setR nid none (.slice ad 0 0)).r k=ν.r k:=fun k hk=>by simp [Vl.setR,hk]
 have hdom:∀id,((fun k=>if k=nid then some (ubs x)else H k) id).isSome=true→id≠nid→(H id).isSome=true:=fun id hs hne=>by
  simp only [hne,if_false]at hs;exact hs
 refine ubY h (fun _=>none) (· =nid) (fun _ _ h=>h) h.mem h.frm (fun id blk hne hb=> ?_) (fun id hne _=>ua3 id hne) (fun _ _ _ _ _=>rfl) (fun id b0 _ _ hb j hj=>ua3 j ?_) (fun id b hne hs hb=>h.own.out id b (hdom id hs hne) hb)
  (fun id blk hne hb j hj=> ?_) (fun id blk he hb=> ?_)
 ·simp only [hne,if_false]at hb
  exact⟨blk,hb,(ubU blk).symm⟩
 ·intro e
  have:=h.wf id b0 hb j hj
  rw [e,hn]at this;cases this
 ·simp only [hne,if_false]at hb
  have:=h.wf id blk hb j hj
  by_cases e:j=nid
  ·simp [e]
  ·simp only [e,if_false];exact this
 ·subst he
  simp only [if_true,Option.some.injEq]at hb
  subst hb
  refine⟨⟨.slice ad 0 0,by simp [Vl.setR],.inl ⟨by simp [Vl.setR],rfl,ad,rfl⟩⟩,fun j hj=>by simp [ubs,ua9]at hj,fun b hb=> ?_⟩
  simp [Vl.setR]at hb
theorem ujp {s s':LS} {x:Seed}(hs:utm s x=some s')(hf:s.Fresh)(h:Sat W0 B0 R0 N D s.fs μ ν a W):∃ν',Sat W0 B0 R0 N D s'.fs μ ν' a W∧s'.Fresh:=by
 have hn:s.fs.H s.nxt=none:=hf s.nxt (Nat.le_refl _)
 have hagree:∀(ad:Option Addr) (ids:List Nat),(∀id∈ids,(s.fs.H id).isSome=true)→uhm ids ν (ν.setR s.nxt none (.slice ad 0 0)):=fun ad ids hi id hid=>by
  have:id≠s.nxt:=fun e=>by have:=hi id hid;rw [e,hn]at this;cases this
  simp [Vl.setR,this]
 have hborH:∀(ad:Option Addr) id r b,R0 id=some (r,b)→∃blk,s.fs.H id=some blk∧id≠s.nxt∧blk.isRow=r∧(r=false→((ν.setR s.nxt none (.slice ad 0 0)).b id,(ν.setR s.nxt none (.slice ad 0 0)).r id)=b):=fun ad id r b hr=>by
  obtain⟨blk,q1,q2,q3⟩:=h.bor id r b hr
  have hne:id≠s.nxt:=fun e=>by rw [e,hn]at q1;cases q1
  exact⟨blk,q1,hne,q2,fun e=>by simp only [Vl.setR,hne,if_false];exact q3 e⟩
 have hH:∀H:List (Nat×Blk),(fun k=>if k=s.nxt then some (ubs x)else lk H k)=lk ((s.nxt,ubs x)::H):=fun H=>by
  funext k
  simp only [lk,ueU]
  by_cases e:k=s.nxt<;>simp [e]
 unfold utm at hs
 split at hs
 ·rename_i k _
  split at hs
  ·rename_i hnil
   simp only [Option.some.injEq]at hs
   subst hs
   obtain⟨ad,hv⟩:=uiG hnil (h.env k)
   have hm:=ukU h.ms hn x ad
   rw [show s.fs.H=lk s.H from rfl,hH]at hm
   have hE:∀j,ubO ⟨ude s.env (some k) (.row s.nxt),(s.nxt,ubs x)::s.H,s.nxt+1⟩ j=if j=k then .row s.nxt else ubO s j:=fun j=>by
    rw [ucz s];rfl
   have hdom:∀id,(s.fs.H id).isSome=true→(lk ((s.nxt,ubs x)::s.H) id).isSome=true:=fun id hs=>by
    rw [←hH]
    by_cases e:id=s.nxt
    ·simp [e]
    ·simp only [e,if_false];exact hs
   refine⟨ν.setR s.nxt none (.slice ad 0 0),⟨h.size,h.defers,fun j=> ?_,fun j id hid=> ?_,hm,h.mle,fun id r b hr=> ?_,h.mm⟩,fun id hid=> ?_⟩
   ·show Rel _ _ (ubO _ j) _
    rw [hE]
    split
    ·rename_i e;subst e
     rw [hv]
     exact .row _ _ _ (by simp [Vl.setR]) rfl
    ·exact(h.env j).mono (fun _ _ h=>h) _ (hagree ad _ (h.wf j))
   ·have hid':id∈(ubO ⟨ude s.env (some k) (.row s.nxt),(s.nxt,ubs x)::s.H,s.nxt+1⟩ j).ids:=hid
    rw [hE]at hid'
    split at hid'
    ·simp only [SV.ids,List.mem_singleton]at hid'
     subst hid'
     show(lk _ _).isSome=true
     rw [←hH];simp
    ·exact hdom id (h.wf j id hid')
   ·obtain⟨blk,q1,q2,q3,q4⟩:=hborH ad id r b hr
    refine⟨blk,?_,q3,q4⟩
    show lk _ _=_
    rw [←hH]
    simp only [q2,if_false];exact q1
   ·show lk ((s.nxt,ubs x)::s.H) id=none
    rw [←hH]
    have hid':s.nxt+1≤id:=hid
    have:id≠s.nxt:=by omega
    simp only [this,if_false]
    exact hf id (by omega)
  ·cases hs
 ·rename_i id idx _
  split at hs
  ·rename_i l ty hid
   split at hs
   ·rename_i c hc
    split at hs
    ·rename_i l' hnil hput
     simp only [Option.some.injEq]at hs
     subst hs
     obtain⟨b,cs,r1,r2,r3⟩:=h.ms.own.holds id _ hid
     obtain⟨cv,p1,p2,p3⟩:=uge r3 hc
     have hnv:∃ad,cv = .slice ad 0 0:=uiG hnil p2
     obtain⟨ad,rfl⟩:=hnv
     have hm:=ukU h.ms hn x ad
     have hne:id≠s.nxt:=fun e=>by rw [show s.fs.H s.nxt=lk s.H s.nxt from rfl,←e,hid]at hn;cases hn
     have hm':=ukt (id0:=id) (l:=l) (l':=l') (ty:=ty) hm (by simp only [hne,if_false];exact hid) (b:=b) (by simp only [Vl.setR,hne,if_false];exact r1) r2 (cs':=cs) (by
      have hl:=r3.mono (fun _ _ h=>h) (ν.setR s.nxt none (.slice ad 0 0)) (hagree ad _ fun i hi=>h.ms.wf id _ hid i (by simpa [ua9,SV.ids]using hi))
      have hnew:ubp μ (ν.setR s.nxt none (.slice ad 0 0)) [.row s.nxt] [.slice ad 0 0]:=.cons _ _ _ _ _ (.row _ _ _ (by simp [Vl.setR]) rfl) rfl (.nil _)
      obtain⟨g1,g2⟩:=ucS (cs:=cs.toList) hl hnew hput
      have e:cs.toList.take idx++([Value.slice ad 0 0]++cs.toList.drop (idx+[Value.slice ad 0 0].length))=cs.toList:=by
       have hlt:idx<cs.toList.length:=(List.getElem?_eq_some_iff.1 p1).1
       have hx:cs.toList[idx] = .slice ad 0 0:=(List.getElem?_eq_some_iff.1 p1).2
       rw [←hx]
       show cs.toList.take idx++(cs.toList[idx]::cs.toList.drop (idx+1))=cs.toList
       rw [←List.drop_eq_getElem_cons hlt,List.take_append_drop]
      rw [e]at g1
      exact g1) (fun i hi=> ?_)
     ·rw [setRow_self W b cs ty (0,0) r2]at hm'
      have hH2:(fun k=>if k=id then some (Blk.cells l' ty)else if k=s.nxt then some (ubs x)else lk s.H k)=lk ((s.nxt,ubs x)::(id,.cells l' ty)::rm s.H id):=by
       funext k
       simp only [lk,ueU,uq9]
       by_cases e:k=id
       ·subst e;simp [hne,Ne.symm hne]
       ·by_cases e':k=s.nxt
        ·simp [e',Ne.symm hne]
        ·simp [e,e']
      have hm2:MSat W0 B0 (lk ((s.nxt,ubs x)::(id,.cells l' ty)::rm s.H id)) μ (ν.setR s.nxt none (.slice ad 0 0)) W:=by
       rw [←hH2];exact hm'
      have hdom:∀i,(s.fs.H i).isSome=true→(lk ((s.nxt,ubs x)::(id,.cells l' ty)::rm s.H id) i).isSome=true:=fun i hs=>by
       rw [←hH2]
       by_cases e:i=id
       ·simp [e]
       ·by_cases e':i=s.nxt
        ·simp [e',Ne.symm hne]
        ·simp only [e,e',if_false];exact hs
      refine⟨ν.setR s.nxt none (.slice ad 0 0),⟨h.size,h.defers,fun j=>(h.env j).mono (fun _ _ h=>h) _ (hagree ad _ (h.wf j)),fun j i hi=>hdom i (h.wf j i hi),hm2,h.mle,fun i r b hr=> ?_,h.mm⟩,fun i hi=> ?_⟩
      ·obtain⟨blk,q1,q2,q3,q4⟩:=hborH ad i r b hr
       show ∃blk,lk _ _=_∧_
       rw [←hH2]
       by_cases e:i=id
       ·subst e
        rw [show s.fs.H i=lk s.H i from rfl,hid]at q1
        cases q1
        exact⟨.cells l' ty,by simp,q3,q4⟩
       ·exact⟨blk,by simp only [e,q2,if_false];exact q1,q3,q4⟩
      ·have hi':s.nxt+1≤i:=hi
       show lk ((s.nxt,ubs x)::(id,.cells l' ty)::rm s.H id) i=none
       rw [←hH2]
       have e1:i≠s.nxt:=by omega
       have e2:i≠id:=fun e=>by
        have:=hf i (by omega)
        rw [e,hid]at this;cases this
       simp only [e1,e2,if_false]
       exact hf i (by omega)
     ·rcases uea hput i hi with q|q
      ·have:=h.ms.wf id _ hid i q
       by_cases e:i=s.nxt
       ·simp [e]
       ·simp only [e,if_false];exact this
      ·simp only [SV.idsL,SV.ids,List.append_nil,List.mem_singleton]at q
       simp [q]
    ·cases hs
   ·cases hs
  ·cases hs
theorem uch :∀(l:List Seed) {s s':LS} {ν:Vl},ucx l s=some s'→s.Fresh→Sat W0 B0 R0 N D s.fs μ ν a W→∃ν',Sat W0 B0 R0 N D s'.fs μ ν' a W∧s'.Fresh:=by
 intro l
 induction l with
 | nil=>
  intro s s' ν hs hf h
  simp only [ucx,Option.some.injEq]at hs
  subst hs
  exact⟨ν,h,hf⟩
 | cons x l ih=>
  intro s s' ν hs hf h
  simp only [ucx]at hs
  split at hs
  ·rename_i s1 hs1
   obtain⟨ν',h',hf'⟩:=ujp hs1 hf h
   exact ih hs hf' h'
  ·cases hs
end
end Go.Eng

namespace Go.Eng
open Go
section
variable {P:Program} {F:Fence} {n:Nat} {μ:Mem} {W:World} {a:Act} {Q:Exit→Act→World→Prop} {g:Operand} {ps:Array Tmp} {assign body:Code}
def ubK (fn:FuncId)(a:Act)(ps:Array Tmp)(assign body:Code)(D0:Nat)(st:LoopState)(pe:Option Code):Loop:=
 {state:=st,pending:=pe,fn,tmps:=a.tmps,params:=ps,assign,body,defers:=D0}
def ucU (lo hi:Nat)(mark:List Deferred)(W:World):Prop:=
 mark=[]∨∃k,mark=[{target:=.collected k,args:= #[]}]∧lo≤k∧k<hi∧W.heap[k]? =some (.deferred (some []))
theorem ucU.other {lo hi:Nat} {mark:List Deferred} {W W':World}(h:ucU lo hi mark W)(hs:∀k,lo≤k→k<hi→k<W.heap.size→W'.heap[k]? =W.heap[k]?):ucU lo hi mark W':=by
 rcases h with h|⟨k,h1,h2,h3,h4⟩
 ·exact .inl h
 ·exact .inr ⟨k,h1,h2,h3,(hs k h2 h3 (uag h4)).trans h4⟩
theorem un7 (hro:∀l0,F.round=some l0→∃r,W.heap[l0]? =some (.loop r))(fn:FuncId):∃l mark D0 W1,
 (Instr.enterLoop fn a.tmps ps assign body F.round).run P W = .ok (l,mark) W1∧W1.heap.size=l+1∧W.heap.size≤l∧Frm (fun _=>False) W W1 ∧
 W1.heap[l]? =some (.loop (ubK fn a ps assign body D0 .ready none))∧ucU W.heap.size l mark W1:=by
 cases h:F.round with
 | none=>
  refine⟨W.heap.size+1,[{target:=.collected W.heap.size,args:= #[]}],W.heap.size,(W.alloc (.deferred (some []))).alloc (.loop (ubK fn a ps assign body W.heap.size .ready none)),run_enterLoop_outer _ _ _ _ _,?_,by omega,⟨rfl,rfl,rfl,?_,fun b hb _=> ?_⟩,?_,.inr ⟨W.heap.size,rfl,Nat.le_refl _,by omega,?_⟩⟩
  ·rw [uaX,uaX]
  ·rw [uaX,uaX];omega
  ·rw [uau _ _ _ (by rw [uaX];omega),uau _ _ _ hb]
  ·have:=uaV (W.alloc (.deferred (some []))) (.loop (ubK fn a ps assign body W.heap.size .ready none))
   rwa [uaX]at this
  ·rw [uau _ _ _ (by rw [uaX];omega)]
   exact uaV W _
 | some l0=>
  obtain⟨r,hr⟩:=hro l0 h
  refine⟨W.heap.size,[],r.defers,W.alloc (.loop (ubK fn a ps assign body r.defers .ready none)),run_enterLoop_inner hr _ _ _ _ _,uaX _ _,Nat.le_refl _,⟨rfl,rfl,rfl,?_,fun b hb _=>uau _ _ _ hb⟩,uaV W _,.inl rfl⟩
  rw [uaX];omega
def uqG (fn:FuncId)(a:Act)(ps:Array Tmp)(assign body:Code)(D0 l lo:Nat)(mark:List Deferred)(μ:Mem)(Inv:Nat→(Nat→Prop)→World→Prop)(Ix:Code→(Nat→Prop)→World→Prop)(i:Nat)(K:Nat→Prop)(W':World):Exit→Act→World→Prop:=
 fun e _ w=>w.heap[l]? =some (.loop (ubK fn a ps assign body D0 .busy none))∧ucU lo l mark w∧Kept μ K W' w ∧
  match e with
  | .normal=>∀o,Inv (i+1) K (w.putObj l o)
  | .ret=>∀o,Ix .ret K (w.putObj l o)
  | .exit id=>∀o,Ix (.exit id) K (w.putObj l o)
  |_=>False
theorem Kept.put {μ:Mem} {K:Nat→Prop} {W W':World} {k:Nat} {o o':Obj}(h:Kept μ K W W')(hk:W'.heap[k]? =some o)(hc:ugK o=false)(hK:¬K k):Kept μ K W (W'.putObj k o'):=by
 refine⟨fun b c hb=> ?_,by have:=h.size;simp [World.putObj];exact this,fun b hb=> ?_,h.os,h.tape,h.output⟩
 ·refine(h.mem b c hb).same (World.putObj_heap_other ?_)
  rintro rfl
  have:=h.mem b c hb
  cases c with
  | arr c=>
   obtain⟨t,fr,q⟩:=this
   rw [hk]at q
   rw [Option.some.inj q]at hc;cases hc
  | mapx es clock=>
   have q:=this
   unfold ufH at q
   simp only at q
   rw [hk]at q
   rw [Option.some.inj q]at hc;cases hc
  | memo kt vt sc nk F=>
   obtain⟨es,clock,q,_⟩:=this
   rw [hk]at q
   rw [Option.some.inj q]at hc;cases hc
 ·rw [World.putObj_heap_other]
  ·exact h.kept b hb
  ·rintro rfl;exact hK hb
def ula (F:Fence):Fence:={F with round:=none}
theorem uof (h:FenceOk F P):FenceOk (ula F) P:=⟨h.fn,h.depth,h.calls⟩
theorem ul0 (h:FenceOk F P)(l:Nat):FenceOk (F.inRound l) P:=⟨h.fn,h.depth,h.calls⟩
theorem uhk (hF:FenceOk F P)(hro:∀l0,F.round=some l0→∃r,W.heap[l0]? =some (.loop r)) {gf:FuncId} {cs:Array Value}(hg:a.eval g = .func (.func gf) #[] cs) {caps:List SV} {L:Nat} {el:Nat→List SV}(hI:ugj P gf caps L el)
 (hmem:ubR μ W) (hcs:Rel μ Vl.nil (.tup caps) (.tuple cs)) (hps:∀i x,Rel μ Vl.nil (.tup (el i)) (.tuple x)→x.size=ps.size)
 (Inv:Nat→(Nat→Prop)→World→Prop) (Ix:Code→(Nat→Prop)→World→Prop)
 (hInv:∀i K W1 W2,Inv i K W1→Frm (fun b=>K b∨uaz μ b) W1 W2→ubR μ W2→(∀b,K b→b<W1.heap.size∧W.heap.size≤b)→Inv i (fun b=>K b∨(W1.heap.size≤b∧b<W2.heap.size)) W2)
 (hIx:∀c K W1 W2,Ix c K W1→Frm (fun b=>K b∨uaz μ b) W1 W2→ubR μ W2→(∀b,K b→b<W1.heap.size∧W.heap.size≤b)→Ix c (fun b=>K b∨(W1.heap.size≤b∧b<W2.heap.size)) W2)
 (h0:∀W1,Frm (fun _=>False) W W1→Inv 0 (fun _=>False) W1)
 (hround:∀fn l mark D0 i x K W',W.heap.size≤l→i<L→Rel μ Vl.nil (.tup (el i)) (.tuple x)→Inv i K W'→(∀b,K b→l<b∧b<W'.heap.size) →
  W'.heap[l]? =some (.loop (ubK fn a ps assign body D0 .ready none))→ucU W.heap.size l mark W' →
  assign.wpIn (F.inRound l) (n-1) P (Exit.then (fun a₁ w₁=>w₁.heap[l]? =some (.loop (ubK fn a ps assign body D0 .ready none)) ∧
   body.wpIn (F.inRound l) (n-1) P (uqG fn a ps assign body D0 l W.heap.size mark μ Inv Ix i K W') a₁ (w₁.putObj l (.loop (ubK fn a ps assign body D0 .busy none)))) (fun _ _ _=>False))
   {tmps:=(ps.zip x).foldl (fun t (p,v)=>t.setIfInBounds p v) a.tmps,defers:=[]} W')
 (hdone:∀fn l mark D0 K W',W.heap.size≤l→Inv L K W'→W'.heap[l]? =some (.loop (ubK fn a ps assign body D0 .ready none))→ucU W.heap.size l mark W' →
  Q .normal {a with defers:=mark++a.defers} (W'.putObj l (.loop (ubK fn a ps assign body D0 .exhausted none))))
 (hstop:∀fn l mark D0 c K W',W.heap.size≤l→Ix c K W'→W'.heap[l]? =some (.loop (ubK fn a ps assign body D0 .done (some c)))→ucU W.heap.size l mark W' →
  c.wpIn F n P Q {a with defers:=mark++a.defers} (W'.putObj l (.loop (ubK fn a ps assign body D0 .exhausted (some c))))):
 (Code.rangeFunc g ps assign body).wpIn F n P Q a W:=by
 refine wpIn_rangeFunc ?_
 intro fn hfn
 obtain⟨l,mark,D0,W1,hrun,hs1,hle,hfr1,hL1,hM1⟩:=un7 (P:=P) (F:=F) (a:=a) (ps:=ps) (assign:=assign) (body:=body) hro fn
 have hmem1:ubR μ W1:=fun b c hb=>by
  exact(hmem b c hb).same (hfr1.block b (hmem b c hb).lt id)
 refine⟨l,mark,W1,{target:=.fn (.func gf) cs,args:= #[.func (.yield l) #[] #[]]},W1,gf,#[.func (.yield l) #[] #[]]++cs,W1,hrun,?_,?_,?_,fun hd=> ?_,?_⟩
 ·simp only [resolve,hg]
  simp [go_sem]
 ·intro f' _;exact hF.fn f'
 ·simp [invoke,go_sem,hI.1]
 ·rw [hF.depth]at hd;cases hd
 ·have hcall:=hI.2 (ula F) (n-1) (uof hF) rfl μ W1 cs hmem1 hcs l
   (fun i K W'=>Inv i K W'∧W'.heap[l]? =some (.loop (ubK fn a ps assign body D0 .ready none))∧ucU W.heap.size l mark W'∧∀b,K b→l<b∧b<W'.heap.size)
   (fun K W'=>∃c,Ix c K W'∧W'.heap[l]? =some (.loop (ubK fn a ps assign body D0 .done (some c)))∧ucU W.heap.size l mark W'∧∀b,K b→l<b∧b<W'.heap.size)
   ?_ ?_ ?_ ⟨h0 W1 hfr1,hL1,hM1,fun b hb=>hb.elim⟩
  ·have hcall':CallsIn F (n-1) P gf (#[.func (.yield l) #[] #[]]++cs) W1 _:=hcall
   refine hcall'.mono ?_
   rintro e W2 ⟨⟨v,rfl⟩,K,(⟨hi,hl,hd,hK⟩|⟨c,hi,hl,hd,hK⟩)⟩
   ·exact⟨none,_,run_endLoop (P:=P) hl (by simp [ubK]),hdone fn l mark D0 K W2 hle hi hl hd⟩
   ·exact⟨some c,_,run_endLoop (P:=P) hl (by simp [ubK]),hstop fn l mark D0 c K W2 hle hi hl hd⟩
  ·rintro i K W2 W3 ⟨hi,hl,hd,hK⟩ hfr hmm hlt
   have hs:=uag hl
   have hml:∀k,W.heap.size≤k→¬uaz μ k:=fun k hk q=>by
    obtain⟨kt,vt,sc,nk,F,q⟩:=q
    have:=(hmem k _ q).lt;omega
   refine⟨hInv i K W2 W3 hi hfr hmm fun b hb=>⟨hlt b hb,by have:=hK b hb;omega⟩,?_,hd.other fun k h0 h1 h2=>hfr.block k h2 fun q=>q.elim (fun q=>by have:=hK _ q;omega) (hml k (by omega)),fun b hb=> ?_⟩
   ·rw [hfr.block _ hs fun q=>q.elim (fun q=>by have:=hK _ q;omega) (hml _ (by omega))];exact hl
   ·have:=hfr.size
    rcases hb with q|q
    ·have:=hK b q;omega
    ·omega
  ·rintro K W2 W3 ⟨c,hi,hl,hd,hK⟩ hfr hmm hlt
   have hs:=uag hl
   have hml:∀k,W.heap.size≤k→¬uaz μ k:=fun k hk q=>by
    obtain⟨kt,vt,sc,nk,F,q⟩:=q
    have:=(hmem k _ q).lt;omega
   refine⟨c,hIx c K W2 W3 hi hfr hmm fun b hb=>⟨hlt b hb,by have:=hK b hb;omega⟩,?_,hd.other fun k h0 h1 h2=>hfr.block k h2 fun q=>q.elim (fun q=>by have:=hK _ q;omega) (hml k (by omega)),fun b hb=> ?_⟩
   ·rw [hfr.block _ hs fun q=>q.elim (fun q=>by have:=hK _ q;omega) (hml _ (by omega))];exact hl
   ·have:=hfr.size
    rcases hb with q|q
    ·have:=hK b q;omega
    ·omega
  ·rintro i x K W2 hiL hx ⟨hi,hl,hd,hK⟩
   have hy:=run_yield (P:=P) (args:=x) hl (hps i x hx)
   refine⟨fn,_,assign,body,hy,roundIn_of_wpIn hfn ?_⟩
   refine wpIn_mono (hround fn l mark D0 i x K W2 hle hiL hx hi hK hl hd) ?_
   intro e a1 w1 hq
   cases e with
   | normal=>
    obtain⟨hl1,hbody⟩:=hq
    refine⟨_,run_beginRound hl1 rfl,?_⟩
    refine wpIn_mono hbody ?_
    have hKl:¬K l:=fun q=>by have:=hK _ q;omega
    have fin:∀(jump:Option Code) (w:World),w.heap[l]? =some (.loop (ubK fn a ps assign body D0 .busy none))→ucU W.heap.size l mark w→Kept μ K W2 w →
     (Instr.endRound l jump).run P w = .ok (.bool jump.isNone) (w.putObj l (.loop (ubK fn a ps assign body D0 (if jump.isNone then .ready else .done) jump))) ∧
     (w.putObj l (.loop (ubK fn a ps assign body D0 (if jump.isNone then .ready else .done) jump))).heap[l]? =some (.loop (ubK fn a ps assign body D0 (if jump.isNone then .ready else .done) jump)) ∧
     ucU W.heap.size l mark (w.putObj l (.loop (ubK fn a ps assign body D0 (if jump.isNone then .ready else .done) jump))) ∧
     Kept μ K W2 (w.putObj l (.loop (ubK fn a ps assign body D0 (if jump.isNone then .ready else .done) jump))) ∧
     (∀b,K b→l<b∧b<(w.putObj l (.loop (ubK fn a ps assign body D0 (if jump.isNone then .ready else .done) jump))).heap.size):=fun jump w h1 h2 h3=>
     ⟨run_endRound (P:=P) jump h1,World.putObj_heap_same (uag h1),h2.other fun k _ h1 _=>World.putObj_heap_other (by omega),h3.put h1 rfl hKl,fun b hb=>by
      have:=hK b hb
      have:=h3.size
      rw [World.putObj_size];omega⟩
    rintro e a3 w3 ⟨p1,p2,p3,p4⟩
    cases e with
    | normal=>
     obtain⟨q1,q2,q3,q4,q5⟩:=fin none w3 p1 p2 p3
     exact⟨_,_,q1,q4,.inl ⟨rfl,p4 _,q2,q3,q5⟩⟩
    | ret=>
     obtain⟨q1,q2,q3,q4,q5⟩:=fin (some .ret) w3 p1 p2 p3
     exact⟨_,_,q1,q4,.inr ⟨rfl,_,p4 _,q2,q3,q5⟩⟩
    | exit id=>
     obtain⟨q1,q2,q3,q4,q5⟩:=fin (some (.exit id)) w3 p1 p2 p3
     exact⟨_,_,q1,q4,.inr ⟨rfl,_,p4 _,q2,q3,q5⟩⟩
    |goto t=>exact p4.elim
    |panic ch=>exact p4.elim
    |outgrown=>exact p4.elim
   |_=>exact hq.elim
end
end Go.Eng

namespace Go.Eng
open Go
structure Alike (N0:Nat)(W W':World):Prop where
 os:W'.os=W.os
 tape:W'.tape=W.tape
 output:W'.output=W.output
 size:W'.heap.size=W.heap.size
 low:∀b,b<N0→W'.heap[b]? =W.heap[b]?
 data:∀(b:Nat) (o:Obj),W.heap[b]? =some o→ugK o=true→W'.heap[b]? =some o
theorem Alike.refl (N0:Nat)(W:World):Alike N0 W W:=⟨rfl,rfl,rfl,rfl,fun _ _=>rfl,fun _ _ h _=>h⟩
theorem Alike.trans {N0:Nat} {W W' W'':World}(h:Alike N0 W W')(h':Alike N0 W' W''):Alike N0 W W'':=
 ⟨h'.os.trans h.os,h'.tape.trans h.tape,h'.output.trans h.output,h'.size.trans h.size,fun b hb=>(h'.low b hb).trans (h.low b hb),fun b o hb ho=>h'.data b o (h.data b o hb ho) ho⟩
theorem Alike.putObj {N0 k:Nat} {W:World} {o o':Obj}(hk:W.heap[k]? =some o)(hc:ugK o=false)(hn:N0≤k):Alike N0 W (W.putObj k o'):=
 ⟨rfl,rfl,rfl,by simp [World.putObj],fun b hb=>World.putObj_heap_other (by omega),fun b o2 hb ho=>by
  have:b≠k:=fun e=>by
   rw [e,hk]at hb
   rw [Option.some.inj hb,ho]at hc;cases hc
  rw [World.putObj_heap_other this];exact hb⟩
section
variable {P:Program} {T:uar} {W0:World} {B0:Nat→Prop} {R0:Bor} {N:Nat} {D:List Deferred} {t t':Sta} {μ μ':Mem} {ν ν':Vl} {a a':Act} {W W':World}
variable {N0:Nat} {F:Fence} {n:Nat} {Q:Exit→Act→World→Prop} {sc:SC} {kp:List Nat}
theorem Sat.alike (h:Sat W0 B0 R0 N D t μ ν a W)(hh:Alike W0.heap.size W W'):Sat W0 B0 R0 N D t μ ν a W':=by
 have hfr:=h.ms.frm
 refine⟨h.size,h.defers,h.env,h.wf,⟨fun b c hb=> ?_,⟨fun id blk hb=>(h.ms.own.holds id blk hb).mono (fun _ _ h=>h) (fun _ _=>⟨rfl,rfl⟩) (fun b hb'=> ?_),h.ms.own.inj,h.ms.own.out,h.ms.own.place⟩,
  ⟨hh.os.trans hfr.os,hh.tape.trans hfr.tape,hh.output.trans hfr.output,by rw [hh.size];exact hfr.size,fun b hb hB=>(hh.low b hb).trans (hfr.block b hb hB)⟩,h.ms.wf⟩,h.mle,h.bor,h.mm⟩
 ·have:=h.ms.mem b c hb
  cases c with
  |arr c=>obtain⟨t,fr,h1⟩:=this;exact⟨t,fr,hh.data b _ h1 rfl⟩
  |mapx es clock=>exact hh.data b _ this rfl
  |memo kt vt sc nk F=>obtain⟨es,clock,h1,h2⟩:=this;exact⟨es,clock,hh.data b _ h1 rfl,h2⟩
 ·obtain⟨o,h1,h2⟩:=(h.ms.own.holds id blk hb).block hb'
  rw [h1];exact hh.data b o h1 h2
def uwQ (ro:Option Nat)(W0:World)(B0:Nat→Prop)(R0:Bor)(N N0:Nat)(Qs:Exit→LS→Prop)(Q:Exit→Act→World→Prop):Prop:=
 ∀D e s μ ν a W,Qs e s→s.Fresh→Sat W0 B0 R0 N D s.fs μ ν a W→uio ro N0 D W→Q e a W
def ugT (F:Fence)(n:Nat)(P:Program)(T:uar)(W0:World)(B0:Nat→Prop)(R0:Bor)(N N0:Nat)(sc:SC)(kp:List Nat)(c:Code):Prop:=
 ∀(s:LS) (Qs:Exit→LS→Prop) (Q:Exit→Act→World→Prop) D μ ν a W,vcC T P sc kp c s Qs→s.Fresh→Sat W0 B0 R0 N D s.fs μ ν a W→uio F.round N0 D W→uwQ F.round W0 B0 R0 N N0 Qs Q→c.wpIn F n P Q a W
def uoF (P:Program)(T:uar)(N:Nat)(sc:SC)(c:Code):Prop:=
 ∀F n W0 B0 R0 N0 kp,FenceOk F P→N0≤W0.heap.size→(∀id,(R0 id).isSome=true→id∈kp)→ugT F n P T W0 B0 R0 N N0 sc kp c
def ufL (W W':World):Prop:=∀(k:Nat) (o:Obj),W.heap[k]? =some o→ugK o=false→W'.heap[k]? =some o
theorem ufL.trans {W1 W2 W3:World}(h:ufL W1 W2)(h':ufL W2 W3):ufL W1 W3:=fun k o hk hc=>h' k o (h k o hk hc) hc
theorem Sat.still {D1:List Deferred}(h:Sat W0 B0 R0 N D t μ ν a W)(h':Sat W (ujz t ν μ) ⟨R0.tab,μ⟩ N D1 t' μ' ν' a' W'):ufL W W':=fun k o hk hc=>by
 refine(h'.ms.frm.block k (uag hk) ?_).trans hk
 rintro(⟨id,hs,hb⟩|⟨kt,vt,sc,nk,F,hm⟩)
 ·obtain⟨blk,hblk⟩:=Option.isSome_iff_exists.1 hs
  obtain⟨o',h1,h2⟩:=(h.ms.own.holds id blk hblk).block hb
  rw [hk]at h1
  rw [←Option.some.inj h1,hc]at h2;cases h2
 ·obtain⟨es,clock,h1,_⟩:=h.ms.mem k _ hm
  rw [hk]at h1
  rw [Option.some.inj h1]at hc;cases hc
theorem uiW {k:Nat} {o:Obj}(hk:W.heap.size≤k)(h:ufL W W'):ufL W (W'.putObj k o):=fun j o' hj hc=>by
 have:=uag hj
 rw [World.putObj_heap_other (by omega)]
 exact h j o' hj hc
theorem ugX {kp:List Nat} {s:LS} {H:List (Nat×Blk)} {nxt:Nat}(he:uvM kp s.H ⟨s.env,H,nxt⟩)(hR:∀id,(R0 id).isSome=true→id∈kp)(h:Sat W0 B0 R0 N D s.fs μ ν a W):
 Sat W0 B0 R0 N D (⟨s.env,H,nxt⟩:LS).fs μ ν a W∧(⟨s.env,H,nxt⟩:LS).Fresh∧∀id,(lk H id).isSome=true→(lk s.H id).isSome=true:=by
 obtain⟨hw,hk,hH⟩:=he
 unfold wfB at hw
 split at hw
 ·rename_i w1 w2 w3
  have hdom:∀id,(lk H id).isSome=true→(lk s.H id).isSome=true:=fun id hs=>by
   obtain⟨x,hx⟩:=Option.isSome_iff_exists.1 hs
   obtain⟨b,hb,_⟩:=ud6 hH hx
   exact ua2 hb
  have hms:=h.ms
  refine⟨⟨h.size,h.defers,fun k=>h.env k,fun k id hid=> ?_,⟨hms.mem,⟨fun id x hx=> ?_,fun id id' b hs hs'=>hms.own.inj id id' b (hdom id hs) (hdom id' hs'),fun id b hs=>hms.own.out id b (hdom id hs),fun id b hs=>hms.own.place id b (hdom id hs)⟩,hms.frm,fun i b hb id hid=> ?_⟩,h.mle,fun id r b hr=> ?_,h.mm⟩,fun id hid=> ?_,hdom⟩
  ·have hid':id∈(udP (lk s.env k)).ids:=hid
   cases hl:lk s.env k with
   |none=>rw [hl]at hid';simp [udP,SV.ids]at hid'
   | some x=>
    rw [hl]at hid'
    exact ufA.1 (uaA w3 id (ujG hl id hid'))
  ·obtain⟨b,hb,hle⟩:=ud6 hH hx
   exact hle.holds (hms.own.holds id b hb)
  ·exact ufA.1 (uaA hw id (upe hb id hid))
  ·obtain⟨blk,q1,q2,q3⟩:=h.bor id r b hr
   have hd:=ufA.1 (uaA hk id (hR id (ua2 hr)))
   obtain⟨x,hx⟩:=Option.isSome_iff_exists.1 hd
   obtain⟨b',hb',hle⟩:=ud6 hH hx
   have:b'=blk:=Option.some.inj (hb'.symm.trans q1)
   subst this
   exact⟨x,hx,hle.isRow.trans q2,q3⟩
  ·show lk H id=none
   cases hl:lk H id with
   |none=>rfl
   | some x=>
    have:=ufn w1 id (ufA.2 (ua2 hl))
    have hid':nxt≤id:=hid
    have this':id<nxt:=this
    omega
 ·cases hw
theorem Frm.mono {B B':Nat→Prop} {W W':World}(h:Frm B W W')(hb:∀b,B b→B' b):Frm B' W W':=⟨h.os,h.tape,h.output,h.size,fun b h1 h2=>h.block b h1 fun q=>h2 (hb b q)⟩
def urf (K:Nat→Prop)(μ:Mem)(ν:Vl)(H:Nat→Option Blk):Prop:=(∀b,K b→μ b=none)∧∀id b,(H id).isSome=true→ν.b id=some b→¬K b
theorem Sat.frm {K:Nat→Prop} {μ0:Mem}(h:Sat W0 B0 R0 N D t μ ν a W)(hf:Frm (fun b=>K b∨uaz μ0 b) W W')(h0:∀b c,μ0 b=some c→μ b=some c)(hm0:ubR μ0 W')(hap:urf K μ ν t.H)(hk:∀b,K b→W0.heap.size≤b):Sat W0 B0 R0 N D t μ ν a W':=by
 have hfr:=h.ms.frm
 refine⟨h.size,h.defers,h.env,h.wf,⟨fun b c hb=> ?_,⟨fun id blk hb=>(h.ms.own.holds id blk hb).mono (fun _ _ h=>h) (fun _ _=>⟨rfl,rfl⟩) (fun b hb'=> ?_),h.ms.own.inj,h.ms.own.out,h.ms.own.place⟩,
  ⟨hf.os.trans hfr.os,hf.tape.trans hfr.tape,hf.output.trans hfr.output,Nat.le_trans hfr.size hf.size,fun b hb hB=> ?_⟩,h.ms.wf⟩,h.mle,h.bor,h.mm⟩
 ·by_cases hm:uaz μ0 b
  ·obtain⟨kt,vt,sc,nk,F,q⟩:=hm
   have:=h0 _ _ q
   rw [hb]at this
   cases this
   exact hm0 _ _ q
  ·refine(h.ms.mem b c hb).same (hf.block b (h.ms.mem b c hb).lt fun q=> ?_)
   rcases q with q|q
   ·rw [hap.1 b q]at hb;cases hb
   ·exact hm q
 ·exact hf.block b (h.ms.own.lt (ua2 hb) hb') fun q=>q.elim (hap.2 id b (ua2 hb) hb') fun q=>(q.mono h0).no (h.ms.own.out id b (ua2 hb) hb')
 ·exact(hf.block b (by have:=hfr.size;omega) fun q=>q.elim (fun q=>by have:=hk b q;omega) fun q=>(h.memoB (q.mono h0)).elim (fun q=>by omega) hB).trans (hfr.block b hb hB)
theorem Sat.marks (h:Sat W0 B0 R0 N D t μ ν a W)(D':List Deferred):Sat W0 B0 R0 N D' t μ ν {a with defers:=D'} W:=⟨h.size,rfl,h.env,h.wf,h.ms,h.mle,h.bor,h.mm⟩
theorem uqh {H:List (Nat×Blk)} {nxt:Nat}:∀(ps:List Nat) (xs:List SV) (vs:List Value) (env:List (Nat×SV)) (tmps:Array Value),(∀p∈ps,p<N)→ps.length=xs.length→Rel μ Vl.nil (.tup xs) (.tuple ⟨vs⟩) →
 Sat W0 B0 R0 N D (⟨env,H,nxt⟩:LS).fs μ ν {tmps:=tmps,defers:=D} W →
 Sat W0 B0 R0 N D (⟨umz ps xs env,H,nxt⟩:LS).fs μ ν {tmps:=(ps.zip vs).foldl (fun t (pv:Nat×Value)=>t.setIfInBounds pv.1 pv.2) tmps,defers:=D} W:=by
 intro ps
 induction ps with
 |nil=>intro xs vs env tmps _ _ _ h;cases xs<;>exact h
 | cons p ps ih=>
  intro xs vs env tmps hp hl hr h
  cases xs with
  |nil=>cases hl
  | cons x xs=>
   cases hr with
   | tcons _ _ _ c rest h1 h2=>
    simp only [umz,List.zip_cons_cons,List.foldl_cons]
    refine ih xs rest _ _ (fun q hq=>hp q (List.mem_cons_of_mem _ hq)) (by simpa using hl) h2 ?_
    have hpN:=hp p (by simp)
    have hsz:tmps.size=N:=h.size
    have hget:∀k,(tmps.setIfInBounds p c).getD k undef=if k=p then c else tmps.getD k undef:=fun k=>
     ulj {tmps:=tmps,defers:=D} p c k (by show p<tmps.size;omega)
    have hE:∀k,ubO ⟨ude env (some p) x,H,nxt⟩ k=if k=p then x else ubO ⟨env,H,nxt⟩ k:=fun k=>by
     rw [ucz ⟨env,H,nxt⟩];rfl
    have hxi:x.ids=[]:=Rel.no_ids h1 rfl
    refine⟨by simp [hsz],rfl,fun k=> ?_,fun k id hid=> ?_,h.ms,h.mle,h.bor,h.mm⟩
    ·show Rel μ ν (ubO _ k) _
     simp only []at hget⊢
     rw [hE,hget]
     by_cases e:k=p
     ·simp only [e,if_true];exact Rel.closed h1 rfl ν
     ·simp only [e,if_false];exact h.env k
    ·have hid':id∈(ubO ⟨ude env (some p) x,H,nxt⟩ k).ids:=hid
     rw [hE]at hid'
     by_cases e:k=p
     ·simp only [e,if_true]at hid';rw [hxi]at hid';cases hid'
     ·simp only [e,if_false]at hid';exact h.wf k id hid'
theorem ugF {H:List (Nat×Blk)} {l:List Nat}(h:ueH H l=true):∀id∈l,∃c t,lk H id=some (.cells c t):=by
 induction l with
 |nil=>intro id hid;cases hid
 | cons x l ih=>
  simp only [ueH]at h
  split at h
  ·rename_i c t hx
   intro id hid
   rcases List.mem_cons.1 hid with rfl|hid
   ·exact⟨c,t,hx⟩
   ·exact ih h id hid
  ·cases h
theorem ugl (hF:FenceOk F P)(hN:N0≤W0.heap.size)(hR:∀id,(R0 id).isSome=true→id∈kp) {g:Operand} {ps:Array Tmp} {assign body:Code}(hps:ugJ ps.toList N=true)
 (hassign:uoF P T N sc assign) (hbody:uoF P T N sc body):ugT F n P T W0 B0 R0 N N0 sc kp (.rangeFunc g ps assign body):=by
 intro s Qs Q D μ ν00 a W h hf hS hD hE
 simp only [vcC]at h
 obtain⟨seeds,L,el,σ,I,h⟩:=h
 split at h
 ·rename_i s0 hs0
  obtain⟨ν,hS0,hf0⟩:=uch seeds hs0 hf hS
  split at h
  ·rename_i fn caps hg hco
   split at h
   ·rename_i hcaps
    obtain⟨hIE,⟨x0,hent0⟩,hrd,hdone⟩:=h
    obtain⟨hI,hel⟩:=hIE ()
    have hcell:=ugF hco
    have hgv:=uad hS0 g
    rw [show s0.fs.E=ubO s0 from rfl,hg]at hgv
    obtain⟨fs,cs,hgv1,hgv2,hgv3⟩:=uhG hgv
    have hfs:fs = #[]:=by
     obtain⟨l,e,hl⟩:=ugf hgv2
     injection e with e
     subst e
     cases l with
     |nil=>rfl
     |cons=>cases hl
    rw [hfs]at hgv1
    have hcs:Rel μ Vl.nil (.tup caps) (.tuple cs):=hgv3.strip (by simpa [SV.ids]using hcaps)
    obtain⟨R1,hR1d⟩:∃R1:Bor,R1=⟨fun id=>if id∈ugL s0.env then some (false,ν.b id,ν.r id)else R0 id,R0.mu⟩:=⟨_,rfl⟩
    have hR1:∀id,(R1 id).isSome=true→id∈kp++ugL s0.env:=fun id hs=>by
     subst hR1d
     simp only at hs
     by_cases e:id∈ugL s0.env
     ·exact List.mem_append_right _ e
     ·simp only [e,if_false]at hs
      exact List.mem_append_left _ (hR id hs)
    have hR1e:∀id,id∈ugL s0.env→R1 id=some (false,ν.b id,ν.r id):=fun id hid=>by subst hR1d;simp only [hid,if_true]
    have hmu:R1.mu=R0.mu:=by subst hR1d;rfl
    have hS1:Sat W0 B0 R1 N D s0.fs μ ν a W:=⟨hS0.size,hS0.defers,hS0.env,hS0.wf,hS0.ms,by rw [hmu];exact hS0.mle,fun id r b hr=>by
     by_cases e:id∈ugL s0.env
     ·rw [hR1e id e]at hr
      cases hr
      obtain⟨c,t,hc⟩:=hcell id e
      exact⟨_,hc,rfl,fun _=>rfl⟩
     ·subst hR1d
      simp only [e,if_false]at hr
      exact hS0.bor id r b hr,by rw [hmu];exact hS0.mm⟩
    have hext:∀{D' t μ' ν' a' W'},Sat W0 B0 R1 N D' t μ' ν' a' W'→Sat W0 B0 R0 N D' t μ' ν' a' W':=fun {D' t μ' ν' a' W'} h=>⟨h.size,h.defers,h.env,h.wf,h.ms,by rw [←hmu];exact h.mle,fun id r b hr=>by
     by_cases e:id∈ugL s0.env
     ·obtain⟨blk,q1,q2,q3⟩:=h.bor id _ _ (hR1e id e)
      obtain⟨blk0,p1,p2,p3⟩:=hS0.bor id r b hr
      obtain⟨c,t,hc⟩:=hcell id e
      have:blk0 = .cells c t:=Option.some.inj (p1.symm.trans hc)
      subst this
      have hrf:r=false:=p2.symm
      subst hrf
      exact⟨blk,q1,q2,fun _=>(q3 rfl).trans (p3 rfl)⟩
     ·exact h.bor id r b (by subst hR1d;simp only [e,if_false];exact hr),by rw [←hmu];exact h.mm⟩
    have hturn:∀{D2:List Deferred} {s2:LS} {μ2 ν2 a2 W2},Sat W0 B0 R1 N D2 s2.fs μ2 ν2 a2 W2→(∀b c,μ b=some c→μ2 b=some c)→Sat W0 B0 R1 N D (⟨s0.env,s2.H,s2.nxt⟩:LS).fs μ2 ν2 a W2:=fun {D2 s2 μ2 ν2 a2 W2} h2 hm=>by
     have hag:∀id∈ugL s0.env,∃blk,lk s2.H id=some blk∧ν2.b id=ν.b id∧ν2.r id=ν.r id:=fun id hid=>by
      obtain⟨blk,q1,q2,q3⟩:=h2.bor id _ _ (hR1e id hid)
      have:=q3 rfl
      simp only [Prod.mk.injEq]at this
      exact⟨blk,q1,this.1,this.2⟩
     have hidk:∀k,∀id∈(udP (lk s0.env k)).ids,id∈ugL s0.env:=fun k id hid=>by
      cases hl:lk s0.env k with
      |none=>rw [hl]at hid;simp [udP,SV.ids]at hid
      |some x=>rw [hl]at hid;exact ujG hl id hid
     refine⟨hS1.size,hS1.defers,fun k=> ?_,fun k id hid=> ?_,h2.ms,h2.mle,h2.bor,h2.mm⟩
     ·exact Rel.mono hm (hS1.env k) ν2 fun id hid=>by
       obtain⟨_,_,q1,q2⟩:=hag id (hidk k id hid)
       exact⟨q1,q2⟩
     ·obtain⟨blk,q,_⟩:=hag id (hidk k id hid)
      exact ua2 q
    let St:LS→(Nat→Prop)→World→Prop:=fun s' K W'=>∃μ' ν',Sat W0 B0 R1 N D s'.fs μ' ν' a W'∧s'.Fresh∧ufL W W'∧(∀b c,μ b=some c→μ' b=some c)∧urf K μ' ν' (lk s'.H)
    have hStx:∀s' K W1 W2,St s' K W1→Frm (fun b=>K b∨uaz μ b) W1 W2→ubR μ W2→(∀b,K b→b<W1.heap.size∧W.heap.size≤b)→St s' (fun b=>K b∨(W1.heap.size≤b∧b<W2.heap.size)) W2:=by
     rintro s' K W1 W2 ⟨μ',ν',q1,q2,q3,q4,q5⟩ hfr hmm hK
     refine⟨μ',ν',q1.frm hfr q4 hmm q5 (fun b hb=>by have:=hS.ms.frm.size;have:=hK b hb;omega),q2,fun k o hk hc=> ?_,q4,fun b hb=> ?_,fun id b hs hb=> ?_⟩
     ·have h1:=q3 k o hk hc
      have h2:=uag hk
      refine(hfr.block k (uag h1) fun q=> ?_).trans h1
      rcases q with q|⟨kt,vt,sc,nk,F,q⟩
      ·have:=hK k q;omega
      ·obtain⟨es,clock,h3,_⟩:=hS.ms.mem k _ q
       rw [hk]at h3
       rw [Option.some.inj h3]at hc;cases hc
     ·rcases hb with hb|hb
      ·exact q5.1 b hb
      ·cases hc:μ' b with
       |none=>rfl
       |some c=>have:=q1.ms.mem.lt hc;omega
     ·rintro(q|q)
      ·exact q5.2 id b hs hb q
      ·have:=q1.ms.own.lt hs hb;omega
    have hDef:∀{mark:List Deferred} {l:Nat} {W2:World} {o:Obj},W.heap.size≤l→ucU W.heap.size l mark W2→ufL W W2→uio F.round N0 (mark++D) (W2.putObj l o):=fun {mark l W2 o} hl hm hst=>by
     have hst':=uiW (o:=o) hl hst
     have ua3:∀d∈D,∃k,d={target:=.collected k,args:= #[]}∧N0≤k∧k<W.heap.size∧(W2.putObj l o).heap[k]? =some (.deferred (some [])):=fun d hd=>by
      obtain⟨k,e,h1,h2⟩:=hD.2.1 d hd
      exact⟨k,e,h1,uag h2,hst' k _ h2 rfl⟩
     have hrec:∀l0,F.round=some l0→∃r,(W2.putObj l o).heap[l0]? =some (.loop r):=fun l0 h0=>by
      obtain⟨r,hr⟩:=hD.2.2 l0 h0
      exact⟨r,hst' l0 _ hr rfl⟩
     rcases hm with rfl|⟨k,rfl,k1,k2,k3⟩
     ·exact⟨hD.1,fun d hd=>by obtain⟨k,e,h1,h2,h3⟩:=ua3 d hd;exact⟨k,e,h1,h3⟩,hrec⟩
     ·refine⟨List.pairwise_cons.2 ⟨fun d hd e=> ?_,hD.1⟩,fun d hd=> ?_,hrec⟩
      ·obtain⟨k',e',h1,h2,h3⟩:=ua3 d hd
       rw [e']at e
       have:k=k':=by injection e with e1;injection e1
       omega
      ·rcases List.mem_cons.1 hd with rfl|hd
       ·have:=hS.ms.frm.size
        exact⟨k,rfl,by omega,by rw [World.putObj_heap_other (by omega)];exact k3⟩
       ·obtain⟨k,e,h1,h2,h3⟩:=ua3 d hd;exact⟨k,e,h1,h3⟩
    have hWl:∀{l:Nat},W.heap.size≤l→W0.heap.size≤l:=fun hl=>by have:=hS.ms.frm.size;omega
    refine uhk (μ:=μ) (cs:=cs) (caps:=caps) (L:=L) (el:=el) hF hD.2.2 hgv1 hI hS.ms.mem hcs (fun i x hx=> ?_)
     (fun i K W'=>∃x,St ⟨s0.env,(I i x).1,(I i x).2⟩ K W')
     (fun c K W'=>∃e s2,((c = .ret∧e = .ret)∨∃j,c = .exit j∧e = .exit j)∧Qs e s2∧St s2 K W') ?_ ?_ ?_ ?_ ?_ ?_
    ·obtain⟨l,e,hl⟩:=ugf hx
     injection e with e
     subst e
     rw [←(hel i).1];exact hl
    ·rintro i K W1 W2 ⟨x,hx⟩ hfr hmm hK
     exact⟨x,hStx _ K W1 W2 hx hfr hmm hK⟩
    ·rintro c K W1 W2 ⟨e,s2,he,hq,hx⟩ hfr hmm hK
     exact⟨e,s2,he,hq,hStx _ K W1 W2 hx hfr hmm hK⟩
    ·intro W1 hfr
     obtain⟨q1,q2,q3⟩:=ugX hent0 hR1 hS1
     refine⟨x0,μ,ν,q1.frm (μ0:=fun _=>none) (hfr.mono fun _ h=>h.elim) (fun b c h=>by cases h) (fun b c h=>by cases h) ⟨fun b hb=>hb.elim,fun _ _ _ _ h=>h⟩ (fun b hb=>hb.elim),q2,fun k o hk _=>(hfr.block k (uag hk) id).trans hk,fun _ _ h=>h,fun b hb=>hb.elim,fun _ _ _ _ h=>h⟩
    ·rintro fn' l mark D0 i xs K W' hl hi hxs ⟨x,μ',ν',hS',hfr',hst',hmu',hap'⟩ hK hrec hmark
     have hvc:=hrd i x hi
     obtain⟨vs,hvs⟩:∃vs:List Value,xs=⟨vs⟩:=⟨xs.toList,rfl⟩
     subst hvs
     have hxs':Rel μ' Vl.nil (.tup (el i)) (.tuple ⟨vs⟩):=hxs.mono hmu' _ fun _ _=>⟨rfl,rfl⟩
     have hSb:=uqh (ν:=ν') ps.toList (el i) vs s0.env a.tmps (ufn hps) (by rw [(hel i).1];simp) hxs' (hS'.marks [])
     have hfold:(ps.zip ⟨vs⟩).foldl (fun t (pv:Nat×Value)=>t.setIfInBounds pv.1 pv.2) a.tmps=(ps.toList.zip vs).foldl (fun t (pv:Nat×Value)=>t.setIfInBounds pv.1 pv.2) a.tmps:=by
      rw [←Array.foldl_toList];simp
     have hgoal:({tmps:=(ps.zip ⟨vs⟩).foldl (fun t (p,v)=>t.setIfInBounds p v) a.tmps,defers:=[]}:Act)={tmps:=(ps.toList.zip vs).foldl (fun t (pv:Nat×Value)=>t.setIfInBounds pv.1 pv.2) a.tmps,defers:=[]}:=by
      rw [←hfold]
     rw [hgoal]
     have hown':∀b,ujz (⟨umz ps.toList (el i) s0.env,(I i x).1,(I i x).2⟩:LS).fs ν' μ' b→¬K b:=fun b q hk=>q.elim (fun ⟨id,hs,hb⟩=>hap'.2 id b hs hb hk) fun q=>q.no (hap'.1 b hk)
     refine hassign (F.inRound l) (n-1) W' (ujz (⟨umz ps.toList (el i) s0.env,(I i x).1,(I i x).2⟩:LS).fs ν' μ') ⟨R1.tab,μ'⟩ N0 (kp++ugL s0.env) (ul0 hF l)
      (by have:=hS'.ms.frm.size;omega) hR1 _ _ _ [] μ' ν' _ W' hvc hfr' hSb.rebase ⟨.nil,⟨fun d hd=>(by cases hd),fun l0 e=> ?_⟩⟩ ?_
     ·have:l=l0:=by injection e
      subst this
      exact⟨_,hrec⟩
     intro D1 e s1 μ1 ν1 a1 w1 hq hf1 hS1' hD1
     cases e with
     | normal=>
      simp only at hq
      have hst1:ufL W' w1:=hSb.still hS1'
      have hl1:w1.heap[l]? =some (.loop (ubK fn' a ps assign body D0 .ready none)):=hst1 l _ hrec rfl
      refine⟨hl1,?_⟩
      have hSu:=(hSb.unbase hS1').alike (Alike.putObj (o':=.loop (ubK fn' a ps assign body D0 .busy none)) hl1 rfl (hWl hl))
      obtain⟨w1',hw1'⟩:∃w1',w1.putObj l (.loop (ubK fn' a ps assign body D0 .busy none))=w1':=⟨_,rfl⟩
      rw [hw1']at hSu⊢
      have hl1':w1'.heap[l]? =some (.loop (ubK fn' a ps assign body D0 .busy none)):=by
       rw [←hw1'];exact World.putObj_heap_same (uag hl1)
      have hsz1:w1'.heap.size=w1.heap.size:=by rw [←hw1'];simp
      have hoth:∀k,k≠l→w1'.heap[k]? =w1.heap[k]? :=fun k hk=>by rw [←hw1'];exact World.putObj_heap_other hk
      have hW1:W'.heap.size≤w1.heap.size:=hS1'.ms.frm.size
      have hlt:l<W'.heap.size:=uag hrec
      refine hbody (F.inRound l) (n-1) w1' (ujz s1.fs ν1 μ1) ⟨R1.tab,μ1⟩ N0 (kp++ugL s0.env) (ul0 hF l)
       (by have:=hSu.ms.frm.size;omega) hR1 s1 _ _ D1 μ1 ν1 a1 w1' hq hf1 hSu.rebase ⟨hD1.1,fun d hd=> ?_,fun l0 e=> ?_⟩ ?_
      ·obtain⟨k,e,h1,h2⟩:=hD1.2.1 d hd
       refine⟨k,e,h1,(hoth k ?_).trans h2⟩
       rintro rfl
       rw [hl1]at h2;cases h2
      ·have:l=l0:=by injection e
       subst this
       exact⟨_,hl1'⟩
      intro D2 e s2 μ2 ν2 a2 w hq2 hf2 hS2 hD2
      have hst2:ufL w1' w:=hSu.still hS2
      have hSw:=hSu.unbase hS2
      have hm1:∀b c,μ b=some c→μ1 b=some c:=fun b c hb=>hS1'.mle.le b c (hmu' b c hb)
      have hm2:∀b c,μ b=some c→μ2 b=some c:=fun b c hb=>hS2.mle.le b c (hm1 b c hb)
      have hKm1:∀b,K b→μ1 b=none:=fun b hb=>by
       cases hc:μ1 b with
       |none=>rfl
       | some c=>
        rcases hS1'.mle.new b c hc with q|q|q
        ·rw [show(⟨R1.tab,μ'⟩:Bor).mu b=μ' b from rfl,hap'.1 b hb]at q;cases q
        ·have:=hK b hb;omega
        ·exact(hown' b q hb).elim
      have hKs1:∀b,K b→¬ujz s1.fs ν1 μ1 b:=fun b hb q=>by
       rcases q with⟨id,hs,hb'⟩|q
       rotate_left
       ·exact q.no (hKm1 b hb)
       rcases hS1'.ms.own.place id b hs hb' with q|q
       ·have:=hK b hb;omega
       ·exact hown' b q hb
      have hKs2:∀id b,(lk s2.H id).isSome=true→ν2.b id=some b→¬K b:=fun id b hs hb hk=>by
       rcases hS2.ms.own.place id b hs hb with q|q
       ·have:=hK b hk;omega
       ·exact hKs1 b hk q
      have hKm2:∀b,K b→μ2 b=none:=fun b hb=>by
       cases hc:μ2 b with
       |none=>rfl
       | some c=>
        rcases hS2.mle.new b c hc with q|q|q
        ·rw [show(⟨R1.tab,μ1⟩:Bor).mu b=μ1 b from rfl,hKm1 b hb]at q;cases q
        ·have:=hK b hb;omega
        ·exact(hKs1 b hb q).elim
      have hlw:w.heap[l]? =some (.loop (ubK fn' a ps assign body D0 .busy none)):=hst2 l _ hl1' rfl
      have hmk:ucU W.heap.size l mark w:=by
       rcases hmark with q|⟨k,q1,q2,q3,q4⟩
       ·exact .inl q
       ·exact .inr ⟨k,q1,q2,q3,hst2 k _ ((hoth k (by omega)).trans (hst1 k _ q4 rfl)) rfl⟩
      have hW2:w1'.heap.size≤w.heap.size:=hS2.ms.frm.size
      have hos1:w1'.os=w1.os∧w1'.tape=w1.tape∧w1'.output=w1.output:=by rw [←hw1'];exact⟨rfl,rfl,rfl⟩
      have hkept:Kept μ K W' w:=⟨fun b c hb=>hS2.ms.mem b c (hm2 b c hb),by omega,fun b hb=>by
       have hbK:=hK b hb
       exact(hS2.ms.frm.block b (by omega) (hKs1 b hb)).trans ((hoth b (by omega)).trans (hS1'.ms.frm.block b hbK.2 fun q=>hown' b q hb)),
       hS2.ms.frm.os.trans (hos1.1.trans hS1'.ms.frm.os),hS2.ms.frm.tape.trans (hos1.2.1.trans hS1'.ms.frm.tape),hS2.ms.frm.output.trans (hos1.2.2.trans hS1'.ms.frm.output)⟩
      have hstW:ufL W w:=fun k o hk hc=>by
       have h1:=hst1 k o (hst' k o hk hc) hc
       have h2:=uag hk
       exact hst2 k o ((hoth k (by omega)).trans h1) hc
      have hst3:∀o',St ⟨s0.env,s2.H,s2.nxt⟩ K (w.putObj l o'):=fun o'=>
       ⟨μ2,ν2,(hturn hSw hm2).alike (Alike.putObj hlw rfl (hWl hl)),hf2,uiW hl hstW,hm2,hKm2,hKs2⟩
      refine⟨hlw,hmk,hkept,?_⟩
      cases e with
      | normal=>
       obtain⟨y,hy⟩:=hq2
       intro o'
       obtain⟨μ3,ν3,p1,p2,p3,p4,p5⟩:=hst3 o'
       have hy':uvM (kp++ugL s0.env) (⟨s0.env,s2.H,s2.nxt⟩:LS).H ⟨(⟨s0.env,s2.H,s2.nxt⟩:LS).env,(I (i+1) y).1,(I (i+1) y).2⟩:=hy
       obtain⟨q1,q2,q3⟩:=ugX hy' hR1 p1
       exact⟨y,μ3,ν3,q1,q2,p3,p4,p5.1,fun id b hs hb=>p5.2 id b (q3 id hs) hb⟩
      |ret=>exact fun o'=>⟨.ret,_,.inl ⟨rfl,rfl⟩,hq2,hst3 o'⟩
      |exit j=>exact fun o'=>⟨.exit j,_,.inr ⟨j,rfl,rfl⟩,hq2,hst3 o'⟩
      |goto=>exact hq2.elim
      |panic=>exact hq2.elim
      |outgrown=>exact hq2.elim
     |_=>exact hq.elim
    ·rintro fn' l mark D0 K W' hl ⟨x,μ',ν',q1,q2,q3,q4,q5⟩ hrec hmark
     have hD':a.defers=D:=hS.defers
     rw [hD']
     exact hE (mark++D) .normal _ μ' ν' _ _ (hdone x) q2 ((hext (q1.alike (Alike.putObj hrec rfl (hWl hl)))).marks _) (hDef hl hmark q3)
    ·rintro fn' l mark D0 c K W' hl ⟨e,s2,he,hq,μ',ν',q1,q2,q3,q4,q5⟩ hrec hmark
     have hD':a.defers=D:=hS.defers
     rw [hD']
     have q1':=q1.alike (Alike.putObj (o':=.loop (ubK fn' a ps assign body D0 .exhausted (some c))) hrec rfl (hWl hl))
     have:=hE (mark++D) e _ μ' ν' _ _ hq q2 ((hext q1').marks _) (hDef hl hmark q3)
     rcases he with⟨rfl,rfl⟩|⟨j,rfl,rfl⟩
     ·exact wpIn_ret this
     ·exact wpIn_exit this
   ·exact h.elim
  ·exact h.elim
 ·exact h.elim
end
end Go.Eng

namespace Go.Eng
open Go
theorem uje :∀(m:Nat) (l:List Nat),l.Nodup→(∀x∈l,x<m)→l.length≤m:=by
 intro m
 induction m with
 | zero=>
  intro l _ h
  cases l with
  |nil=>simp
  |cons x l=>have:=h x (by simp);omega
 | succ m ih=>
  intro l hd h
  by_cases hm:m∈l
  ·have:=ih (l.erase m) (hd.erase m) (fun x hx=>by
    have h1:=h x (List.mem_of_mem_erase hx)
    have h2:x≠m:=fun e=>by
     rw [e]at hx
     exact(hd.mem_erase_iff.1 hx).1 rfl
    omega)
   rw [List.length_erase_of_mem hm]at this
   omega
  ·have:=ih l hd (fun x hx=>by
    have h1:=h x hx
    have h2:x≠m:=fun e=>hm (e▸hx)
    omega)
   omega
section
variable {P:Program} {T:uar} {W0:World} {B0:Nat→Prop} {R0:Bor} {N:Nat} {D:List Deferred} {t t':Sta} {μ μ':Mem} {ν ν':Vl} {a a':Act} {W W':World}
variable {N0:Nat} {F:Fence} {n:Nat} {Q:Exit→Act→World→Prop} {sc:SC} {kp:List Nat}
theorem uiR {s:LS} {id:Nat} {blk0:Blk} {to:To} {c0:Cel} {b:Nat}(hS:Sat W0 B0 R0 N D s.fs μ ν a W)(hid:lk s.H id=some blk0)(q1:ν.b id=some b)(q2:ufH W b c0)(hto:∀m,to≠ .id m)
 (ht:∀μ':Mem,(∀k c,μ k=some c→μ' k=some c)→μ' b=some c0→uax μ' ν ν (uam [(id,to)]) id) (hk:R0 id=none):
 ∃μ',Sat W0 B0 R0 N D (ub4 s none ⟨.any,[(id,none)],[(id,to)]⟩).fs μ' ν a W:=by
 have hout:=hS.ms.own.out id b (ua2 hid) q1
 have hle:∀k c,μ k=some c→(fun k=>if k=b then some (c0)else μ k:Mem) k=some c:=fun k c hk=>by
  have:k≠b:=fun e=>by rw [e,hout]at hk;cases hk
  simp only [this,if_false];exact hk
 have hnew:∀k c,(fun k=>if k=b then some (c0)else μ k:Mem) k=some c→μ k=some c∨(k=b∧c=c0):=fun k c hk=>by
  by_cases e:k=b
  ·simp only [e,if_true,Option.some.injEq]at hk;exact .inr ⟨e,hk.symm⟩
  ·simp only [e,if_false]at hk;exact .inl hk
 generalize hμ:(fun k=>if k=b then some (c0)else μ k:Mem)=μ' at hle hnew
 have hb:μ' b=some c0:=by rw [←hμ];simp
 have hg:∀j,j≠id→uam [(id,to)] j=none:=fun j hj=>by
  simp only [uam,lk]
  cases hb:Nat.beq id j with
  |true=>exact absurd (Nat.eq_of_beq_eq_true hb).symm hj
  |false=>rfl
 have hgid:uam [(id,to)] id=some to:=by
  simp only [uam,lk,Nat.beq_refl]
 have hturn:∀j,uax μ' ν ν (uam [(id,to)]) j:=fun j=>by
  unfold uax
  by_cases e:j=id
  ·subst e
   have:=ht μ' hle hb
   unfold uax at this
   exact this
  ·rw [hg j e]
   exact⟨rfl,rfl⟩
 have hno:∀s:SV,∀j∈(s.sub (uam [(id,to)])).ids,j≠id∧j∈s.ids:=fun s j hj=>by
  rcases udw _ s j hj with⟨k1,k2⟩|⟨i,_,k2⟩
  ·exact⟨fun e=>by rw [e,hgid]at k2;(cases k2),k1⟩
  ·exfalso
   by_cases e:i=id
   ·subst e;rw [hgid]at k2;exact hto _ (Option.some.inj k2)
   ·rw [hg i e]at k2;cases k2
 have hH:∀k,(s.fs.upd none (⟨.any,[(id,none)],[(id,to)]⟩)).H k=if k=id then none else(lk s.H k).map (Blk.sub (uam [(id,to)])):=fun k=>by
  show uao (uaJ [(id,to)] s.fs.H) [(id,none)] k=_
  simp only [uao,ucg]
  rfl
 have hHs:∀k,k≠id→(lk s.H k).isSome=true→((s.fs.upd none (⟨.any,[(id,none)],[(id,to)]⟩)).H k).isSome=true:=fun k hk hs=>by
  rw [hH,if_neg hk]
  cases hq:lk s.H k with
  |none=>rw [hq]at hs;cases hs
  |some b=>rfl
 have hHo:∀k,((s.fs.upd none (⟨.any,[(id,none)],[(id,to)]⟩)).H k).isSome=true→k≠id∧(lk s.H k).isSome=true:=fun k hs=>by
  rw [hH]at hs
  by_cases e:k=id
  ·rw [if_pos e]at hs;cases hs
  ·rw [if_neg e]at hs
   refine⟨e,?_⟩
   cases hq:lk s.H k with
   |none=>rw [hq]at hs;cases hs
   |some b=>rfl
 have hblk:∀blk,∀j∈ua9 (Blk.sub (uam [(id,to)]) blk),j≠id∧j∈ua9 blk:=fun blk j hj=>by
  cases blk with
  | cells l' ty=>
   have:=hno (.agg l') j (by simpa [ua9,Blk.sub,SV.sub,SV.ids]using hj)
   simpa [ua9,SV.ids]using this
  |row=>simp [ua9,Blk.sub]at hj
  |map=>simp [ua9,Blk.sub]at hj
  |it=>simp [ua9,Blk.sub]at hj
 have hkeep:∀k blk,(s.fs.upd none (⟨.any,[(id,none)],[(id,to)]⟩)).H k=some blk→∃b0,lk s.H k=some b0∧blk=b0.sub (uam [(id,to)]):=fun k blk h=>by
  rw [hH]at h
  by_cases e:k=id
  ·rw [if_pos e]at h;cases h
  ·rw [if_neg e]at h
   cases hq:lk s.H k with
   |none=>rw [hq]at h;cases h
   |some b0=>rw [hq]at h;exact⟨b0,rfl,(Option.some.inj h).symm⟩
 refine⟨μ',?_⟩
 rw [uaD]
 refine⟨hS.size,hS.defers,fun k=> ?_,fun k j hj=> ?_,?_,hS.mle.trans ⟨hle,fun k c hc=> ?_⟩,fun j r p hr=> ?_,hS.mm⟩
 ·show Rel μ' ν ((s.fs.E k).sub (uam [(id,to)])) _
  exact(hS.env k).sub hle _ ν fun j _=>hturn j
 ·have hj:j∈((s.fs.E k).sub (uam [(id,to)])).ids:=hj
  have:=hno _ j hj
  exact hHs j this.1 (hS.wf k j this.2)
 ·refine ubY hS.ms (uam [(id,to)]) (fun _=>False) hle (fun k c hc=> ?_) hS.ms.frm (fun k blk _ hb=>hkeep k blk hb) (fun k _ _=>⟨rfl,rfl⟩) (fun _ _ _ _ _=>rfl) (fun k b0 _ _ _ j _=>hturn j) (fun k b' _ hs hb'=> ?_) (fun k blk _ hb j hj=> ?_) (fun k blk hk=>hk.elim)
  ·rcases hnew k c hc with q|⟨rfl,rfl⟩
   ·exact hS.ms.mem k c q
   ·exact q2
  ·cases hm:μ' b' with
   |none=>rfl
   | some c=>
    have hs':=hHo k hs
    rcases hnew b' c hm with q|⟨q,_⟩
    ·rw [hS.ms.own.out k b' hs'.2 hb']at q;cases q
    ·exact absurd (hS.ms.own.inj k id b hs'.2 (ua2 hid) (q▸hb') q1) hs'.1
  ·obtain⟨b0,h1,rfl⟩:=hkeep k blk hb
   have:=hblk b0 j hj
   exact hHs j this.1 (hS.ms.wf k b0 h1 j this.2)
 ·rcases hnew k c hc with q|⟨rfl,_⟩
  ·exact .inl q
  ·exact .inr (hS.ms.own.place id k (ua2 hid) q1)
 ·obtain⟨blk,p1,p2,p3⟩:=hS.bor j r p hr
  have hne:j≠id:=fun e=>by rw [e,hk]at hr;cases hr
  refine⟨blk.sub (uam [(id,to)]),?_,by rw [←p2];cases blk<;>rfl,p3⟩
  rw [hH,if_neg hne,show lk s.H j=some blk from p1];rfl
theorem ur1 {s:LS} {id:Nat} {l:List SV} {ty:TypeId}(hS:Sat W0 B0 R0 N D s.fs μ ν a W)(hid:lk s.H id=some (.cells l ty))(hl:SV.idsL l=[])(hk:R0 id=none):
 ∃μ',Sat W0 B0 R0 N D (ub4 s none (uvh l id)).fs μ' ν a W:=by
 obtain⟨b,cs,q1,q2,q3⟩:=hS.ms.own.holds id _ hid
 refine uiR (c0:=.arr cs) hS hid q1 ⟨_,_,q2⟩ (fun m=>by simp) (fun μ' hle hb=> ?_) hk
 have hrel:Rel μ' Vl.nil (.agg l) (.agg cs):=(q3.mono hle Vl.nil (by rw [show(SV.agg l).ids=[] by simp only [SV.ids,hl]];intro i hi;cases hi))
 unfold uax
 simp only [uam,lk,Nat.beq_refl]
 intro b' off hb'
 rw [q1]at hb'
 cases hb'
 have:=Rel.pp (μ:=μ') ν off l b 0 cs.size cs hb (by omega) (by simpa using hrel)
 simpa using this
theorem up6 {s:LS} {id:Nat} {kt vt:TypeId} {sc:Bool} {nk:Nat} {f:List Int→Option SV}(hS:Sat W0 B0 R0 N D s.fs μ ν a W)(hid:lk s.H id=some (.map kt vt sc nk f))(hk:R0 id=none):
 ∃μ',Sat W0 B0 R0 N D (ub4 s none (uuM kt vt sc nk f id)).fs μ' ν a W:=by
 obtain⟨b,es,clock,q1,q2,q3⟩:=hS.ms.own.holds id _ hid
 refine uiR (c0:=.mapx es clock) hS hid q1 q2 (fun m=>by simp) (fun μ' hle hb=> ?_) hk
 obtain⟨w,k1,k2⟩:=unN q3
 unfold uax
 simp only [uam,lk,Nat.beq_refl]
 intro b' hb'
 rw [q1]at hb'
 cases hb'
 exact .mapx ν _ _ _ _ _ _ b es clock w hb k1 fun ks a c=>(k2 ks a c).mono hle _ (fun _ _=>⟨rfl,rfl⟩)
theorem udK {kp:List Nat}(hR:∀id,(R0 id).isSome=true→id∈kp):∀(l:List Nat) {s s':LS} {μ:Mem} {ν:Vl} {nid:Nat},ubj kp l s=some s'→(∀id,nid≤id→lk s.H id=none)→Sat W0 B0 R0 N D s.fs μ ν a W→∃μ' ν',Sat W0 B0 R0 N D s'.fs μ' ν' a W∧∀id,nid≤id→lk s'.H id=none:=by
 intro l
 induction l with
 | nil=>
  intro s s' μ ν nid h hf hS
  simp only [ubj,Option.some.injEq]at h
  subst h
  exact⟨μ,ν,hS,hf⟩
 | cons id l ih=>
  intro s s' μ ν nid h hf hS
  have hfr:∀(u:Upd),u.hs.map (·.1)=[id]→(lk s.H id).isSome=true→∀k,nid≤k→lk (ub4 s none u).H k=none:=fun u hu hs k hk'=>by
   have hne:k≠id:=fun q=>by
    rw [←q,hf k hk']at hs;cases hs
   have e1:lk (ub4 s none u).H k=(s.fs.upd none u).H k:=by rw [←uaD];rfl
   rw [e1]
   show uao (uaJ u.sub s.fs.H) u.hs k=none
   rw [ub7 _ _ fun p hp q=>hne (by
    have:p.1∈u.hs.map (·.1):=List.mem_map.2 ⟨p,hp,rfl⟩
    rw [hu,List.mem_singleton]at this
    exact q.symm.trans this)]
   exact uhb (hf k hk')
  simp only [ubj]at h
  split at h
  ·rename_i ety sz n e hid
   obtain⟨μ2,ν2,v0,hU,_,_⟩:=ufy hS.ms (id:=id) hid
   have h2:=uc7 hS hU (d:=none) (fun k hk=>by cases hk)
   have hU2:(s.fs.upd none ⟨.sl sz n e,[(id,some (.row ety sz (.lit 0) fun _=>[]))],[(id,.sl sz n e)]⟩)=(ub4 s none (uoT ety sz n e id)).fs:=by
    rw [uaD];rfl
   rw [hU2]at h2
   exact ih h (hfr _ rfl (ua2 hid)) h2
  ·rename_i c ty hid
   split at h
   ·rename_i hc hk
    have hk0:R0 id=none:=by
     cases hq:R0 id with
     |none=>rfl
     | some x=>
      have:=hR id (ua2 hq)
      rw [uan.2 this]at hk;cases hk
    obtain⟨μ2,h2⟩:=ur1 hS hid hc hk0
    exact ih h (hfr _ rfl (ua2 hid)) h2
   ·cases h
  ·rename_i kt vt sc nk f hid
   split at h
   ·rename_i hk
    have hk0:R0 id=none:=by
     cases hq:R0 id with
     |none=>rfl
     | some x=>
      have:=hR id (ua2 hq)
      rw [uan.2 this]at hk;cases hk
    obtain⟨μ2,h2⟩:=up6 hS hid hk0
    exact ih h (hfr _ rfl (ua2 hid)) h2
   ·cases h
  ·cases h
theorem uhT {kp:List Nat}:∀(l:List Nat) {s s':LS},ubj kp l s=some s'→s'.nxt=s.nxt:=by
 intro l
 induction l with
 |nil=>intro s s' h;simp only [ubj,Option.some.injEq]at h;rw [h]
 | cons id l ih=>
  intro s s' h
  simp only [ubj]at h
  split at h
  ·exact(ih h).trans rfl
  ·split at h
   ·exact(ih h).trans rfl
   ·cases h
  ·split at h
   ·exact(ih h).trans rfl
   ·cases h
  ·cases h
theorem uqL (hF:FenceOk F P) {K:LS→Prop} {ops:Array Oper} {K':Act→World→Prop} {s:LS}(h:Sat W0 B0 R0 N D s.fs μ ν a W) {i nid:Nat} {o:Oper}(ho:ops[i]? =some o)(hnid:lk s.H nid=none)
 (hc:urJ P ops.toList o nid s K) (hn:∀u μ' ν' v W',K (ub4 s o.dst u)→(∀id,nid<id→lk s.H id=none→(s.fs.upd o.dst u).H id=none)→UpdOk W0 B0 s.fs u μ ν μ' ν' v W'→K' (a.put o.dst v) W'):wpOpIn F n P ops Q i K' a W:=by
 have hg:=ufl (ops:=ops) h o
 have hE:s.fs.E=ubO s:=rfl
 rw [hE]at hg
 unfold urJ at hc
 split at hc
 rotate_left
 ·exact hc.elim
 rename_i c hgd hop
 rw [hgd]at hg
 split at hc
 rotate_left
 ·exact hc.elim
 rename_i f hcal
 split at hc
 rotate_left
 ·exact hc.elim
 rename_i fn first caps hev
 split at hc
 rotate_left
 ·exact hc.elim
 rename_i hids
 obtain⟨e,hc⟩:=hc
 split at hc
 rotate_left
 ·exact hc.elim
 rename_i hlt hfree
 obtain⟨post,hS,hK⟩:=hc
 have hlt:=ub1 hlt
 unfold wpOpIn
 have hw:Region.wanted o (yielded ops a.tmps)=true:=hg
 simp only [ho,hw,if_true]
 refine⟨fun f _=>hF.fn f,?_⟩
 rw [Oper.semAt_eq _ _ o fun c' hc'=>by rw [hop]at hc';cases hc']
 have hrel:=uad h f
 rw [hE,hev]at hrel
 obtain⟨fs,cs,hval,hr1,hr2⟩:=uhG hrel
 obtain⟨hr3,_⟩:=ufp h c.args.toList
 rw [hE]at hr3
 have hargs:Rel μ ν (.tup (first++(evs (ubO s) c.args.toList++caps))) (.tuple (fs++c.args.map a.eval++cs)):=by
  have:=uhz (cs:=fs.toList) (ds:=c.args.toList.map a.eval++cs.toList) hr1 (uhz hr3 hr2)
  have e:(fs++c.args.map a.eval++cs)=⟨fs.toList++(c.args.toList.map a.eval++cs.toList)⟩:=by apply Array.ext';simp
  rw [e];exact this
 have hgo:ubt P W0 B0 s.fs μ ν (fun u=>K (ub4 s o.dst u)∧∀id,nid<id→lk s.H id=none→(s.fs.upd o.dst u).H id=none) ((execOp a.eval o).run P W):=by
  obtain⟨dst,op,ty,pos,aft,gd⟩:=o
  simp only at hop
  subst hop
  refine uiS (gH:=s.fs.H) h (fun _ _ h=>h) hargs (bor:=[]) (bl:=[]) (ex:=[nid,e]) rfl (by rw [hids];rfl) rfl rfl (by simp;omega) (fun x hx=> ?_) hS (fun r bs hp _=> ?_) (ujd hcal hval hS.1)
  ·rcases List.mem_cons.1 hx with rfl|hx
   ·exact hnid
   ·rw [List.mem_singleton.1 hx];exact hfree
  ·have q:=hK r bs hp
   refine⟨q.1,q.2,fun id hid hz=> ?_⟩
   show uao (uaJ [] s.fs.H) (ui5 _ ([]++[nid,e]) bs) id=none
   rw [uhW _ id _ _ _ (by simp;omega)]
   exact hz
 exact ucJ hF hgo fun u μ' ν' v W' ⟨hk,hf⟩ hU=>hn u μ' ν' v W' hk hf hU
theorem urB (hF:FenceOk F P)(hT:uc5 P T) {K:LS→Prop} {ops:Array Oper} {K':Act→World→Prop} {s:LS}(h:Sat W0 B0 R0 N D s.fs μ ν a W) {i nid:Nat} {o:Oper}(ho:ops[i]? =some o)(hnid:lk s.H nid=none)
 (hc:uxo T ops.toList o nid s K) (hn:∀u μ' ν' v W',K (ub4 s o.dst u)→(∀id,nid<id→lk s.H id=none→(s.fs.upd o.dst u).H id=none)→UpdOk W0 B0 s.fs u μ ν μ' ν' v W'→K' (a.put o.dst v) W'):wpOpIn F n P ops Q i K' a W:=by
 have hg:=ufl (ops:=ops) h o
 have hE:s.fs.E=ubO s:=rfl
 rw [hE]at hg
 unfold uxo at hc
 split at hc
 rotate_left
 ·exact hc.elim
 rename_i t len ps hgd hop
 rw [hgd]at hg
 unfold wpOpIn
 have hw:Region.wanted o (yielded ops a.tmps)=true:=hg
 simp only [ho,hw,if_true]
 refine⟨fun f _=>hF.fn f,?_⟩
 rw [Oper.semAt_eq _ _ o fun c' hc'=>by rw [hop]at hc';cases hc']
 have hgo:ubt P W0 B0 s.fs μ ν (fun u=>K (ub4 s o.dst u)∧∀id,nid<id→lk s.H id=none→(s.fs.upd o.dst u).H id=none) ((execOp a.eval o).run P W):=by
  obtain⟨dst,op,ty,pos,aft,gd⟩:=o
  simp only at hop
  subst hop
  refine umn hT h hnid t len ps (unS (fun s2 l e2 hk=>⟨hk,fun id hid hz=> ?_⟩) hc)
  show uao (uaJ [] s.fs.H) [(nid,some (.cells l e2))] id=none
  have hz2:s.fs.H id=none:=hz
  have hne:¬id=nid:=by omega
  simp [uao,uaJ,hne,hz2]
 exact ucJ hF hgo fun u μ' ν' v W' ⟨hk,hf⟩ hU=>hn u μ' ν' v W' hk hf hU
theorem uhv {kp ix:List Nat} {K:LS→Prop} {ops:Array Oper}(hR:∀id,(R0 id).isSome=true→id∈kp)(hF:FenceOk F P)(hT:uc5 P T)(hdst:ues N ops.toList=true)
 (hQ:∀s' μ' ν' a' W',K s'→s'.Fresh→Sat W0 B0 R0 N D s'.fs μ' ν' a' W'→Q .normal a' W'):
 ∀ (l:List Oper) (i nid:Nat) (s:LS) (μ:Mem) (ν:Vl) (a:Act) (W:World),ops.toList.drop i=l→(∀id,nid≤id→lk s.H id=none)→Sat W0 B0 R0 N D s.fs μ ν a W→uca T P kp ix ops.toList l i nid s K →
  wpOpsIn F n P ops Q (List.range' i l.length) a W:=by
 intro l
 induction l with
 | nil=>
  intro i nid s μ ν a W _ hfree hS hrun
  exact hQ _ μ ν a W hrun (fun id hid=>hfree id hid) ⟨hS.size,hS.defers,hS.env,hS.wf,hS.ms,hS.mle,hS.bor,hS.mm⟩
 | cons o l ih=>
  intro i nid s μ ν a W hdrop hfree hS hrun
  have ho:ops[i]? =some o:=by
   have:=congrArg (fun l=>l[0]?) hdrop
   simpa using this
  have hdrop':ops.toList.drop (i+1)=l:=by
   have:=congrArg (List.drop 1) hdrop
   simpa [List.drop_drop,Nat.add_comm]using this
  have hd:∀k,o.dst=some k→k<N:=ud8 hdst o (by
   have:=Array.mem_of_getElem? ho
   simpa using this)
  rw [List.length_cons,List.range'_succ,wpOpsIn_cons]
  cases hm2:ud1 ix (i+1000)with
  | true=>
   simp only [uca,hm2]at hrun
   refine uqL hF hS ho (hfree nid (Nat.le_refl _)) hrun fun u μ' ν' v W' hk hf hU=> ?_
   have hS2:=uc7 hS hU hd
   rw [←uaD]at hS2
   refine ih (i+1) (nid+1) _ μ' ν' _ W' hdrop' (fun id hid=> ?_) hS2 hk
   have:=hf id (by omega) (hfree id (by omega))
   rw [←uaD]at this
   exact this
  |false=>
  cases hm3:ud1 ix (i+2000)with
  | true=>
   simp only [uca,hm2,hm3]at hrun
   refine urB hF hT hS ho (hfree nid (Nat.le_refl _)) hrun fun u μ' ν' v W' hk hf hU=> ?_
   have hS2:=uc7 hS hU hd
   rw [←uaD]at hS2
   refine ih (i+1) (nid+1) _ μ' ν' _ W' hdrop' (fun id hid=> ?_) hS2 hk
   have:=hf id (by omega) (hfree id (by omega))
   rw [←uaD]at this
   exact this
  |false=>
  obtain⟨s,μ,ν,hfree,hS,hrun⟩:∃(s0:LS) (μ0:Mem) (ν0:Vl),(∀id,nid≤id→lk s0.H id=none)∧Sat W0 B0 R0 N D s0.fs μ0 ν0 a W∧uff T P ops.toList o nid s0 (fun s'=>uca T P kp ix ops.toList l (i+1) (nid+1) s' K):=by
   simp only [uca,hm2,hm3]at hrun
   split at hrun
   ·exact⟨s,μ,ν,hfree,hS,hrun⟩
   ·obtain⟨ids,hrun⟩:=hrun
    split at hrun
    ·rename_i s1 hs1
     obtain⟨μ2,ν2,hS2,hf2⟩:=udK hR ids hs1 hfree hS
     exact⟨s1,μ2,ν2,hf2,hS2,hrun⟩
    ·exact hrun.elim
  simp only [uff]at hrun
  have hg:=ufl (ops:=ops) hS o
  have next:∀(s1:LS),(∀id,nid≤id→lk s1.H id=none)→Sat W0 B0 R0 N D s1.fs μ ν a W→∀u μ' ν' v W',uca T P kp ix ops.toList l (i+1) (nid+1) (ub4 s1 o.dst u) K→u.Good nid s1.fs.H true→UpdOk W0 B0 s1.fs u μ ν μ' ν' v W' →
   wpOpsIn F n P ops Q (List.range' (i+1) l.length) (a.put o.dst v) W':=fun s1 hf1 hS1 u μ' ν' v W' hk hgood hU=>by
   have hS2:=uc7 hS1 hU hd
   rw [←uaD]at hS2
   refine ih (i+1) (nid+1) _ μ' ν' _ W' hdrop' (fun id hid=> ?_) hS2 hk
   have:(s1.fs.upd o.dst u).H id=none:=ue4 hgood (fun _ _ h=>h) (by omega) (hf1 id (by omega))
   rw [←uaD]at this
   exact this
  have skip:∀(s1:LS),(∀id,nid≤id→lk s1.H id=none)→Sat W0 B0 R0 N D s1.fs μ ν a W→uca T P kp ix ops.toList l (i+1) (nid+1) ⟨ude s1.env o.dst (.tup []),s1.H,s1.nxt⟩ K →
   wpOpsIn F n P ops Q (List.range' (i+1) l.length) (a.put o.dst undef) W:=fun s1 hf1 hS1 hk=>
   next s1 hf1 hS1 (ua5 (.tup [])) μ ν undef W hk (ua7 _) (ubT hS1.ms udG (by simp [SV.ids,SV.idsL]))
  have lit:∀dj f w,ubO s dj = .bool (.sym f)→f ()=w→Sat W0 B0 R0 N D (⟨ude s.env (some dj) (.bool (.lit w)),s.H,s.nxt⟩:LS).fs μ ν a W:=fun dj f w he hf=>by
   have:=hS.put dj (x:=.bool (.lit w)) (by
    have:=hS.env dj
    rw [show s.fs.E dj = .bool (.sym f)from he]at this
    rw [ubm this]
    simp only [BX.den,hf]
    exact .bool ν (.lit w)) (by simp [SV.ids])
   have e:(⟨ude s.env (some dj) (.bool (.lit w)),s.H,s.nxt⟩:LS).fs=⟨uc0 s.fs.E (some dj) (.bool (.lit w)),s.fs.H,s.fs.nxt⟩:=by
    simp only [LS.fs]
    congr 1
    exact ucz s s.env (some dj) _ _ _
   rw [e];exact this
  have hE:s.fs.E=ubO s:=rfl
  rw [hE]at hg
  split at hrun
  ·rename_i e
   rw [e]at hg
   exact uiP hF hT hS ho (hfree nid (Nat.le_refl _)) hg hrun (next s hfree hS)
  ·rename_i e
   rw [e]at hg
   exact ulB hF ho hg (skip s hfree hS hrun)
  ·rename_i dj f w e
   rw [e]at hg
   by_cases hf:f ()=w
   ·have hSl:=lit dj f w hg.1 hf
    exact uiP hF hT hSl ho (hfree nid (Nat.le_refl _)) (by rw [hg.2,hf];simp) (hrun.1 hf) (next ⟨ude s.env (some dj) (.bool (.lit w)),s.H,s.nxt⟩ hfree hSl)
   ·have hf':f () = !w:=by cases h:f ()<;>cases w<;>simp_all
    have hSl:=lit dj f (!w) hg.1 hf'
    exact ulB hF ho (by rw [hg.2,hf'];cases w<;>rfl) (skip ⟨ude s.env (some dj) (.bool (.lit (!w))),s.H,s.nxt⟩ hfree hSl (hrun.2 hf'))
  ·exact hrun.elim
theorem uqw (l:List SE)(k:Nat):∀e:List (Nat×SV),lk (uhR l e) k=none∨lk (uhR l e) k=lk e k:=by
 intro e
 induction e with
 |nil=>exact .inl rfl
 | cons p r ih=>
  obtain⟨j,x⟩:=p
  simp only [uhR]
  cases hm:uvD l j with
  | true=>
   simp only [lk]
   cases hj:Nat.beq j k with
   |true=>exact .inr rfl
   |false=>exact ih
  | false =>
   simp only [lk]
   cases hj:Nat.beq j k with
   | true=>
    have e:j=k:=Nat.eq_of_beq_eq_true hj
    subst e
    left
    clear ih
    induction r with
    |nil=>rfl
    | cons q r ih=>
     obtain⟨i,y⟩:=q
     simp only [uhR]
     cases hi:uvD l i with
     |false=>exact ih
     | true=>
      simp only [lk]
      cases hij:Nat.beq i j with
      | true=>
       have:=Nat.eq_of_beq_eq_true hij
       subst this
       rw [hm]at hi;cases hi
      |false=>exact ih
   |false=>exact ih
theorem ui7 (o:Option (List SE)) {s:LS}(h:Sat W0 B0 R0 N D s.fs μ ν a W):Sat W0 B0 R0 N D (ug0 o s).fs μ ν a W:=by
 cases o with
 |none=>exact h
 | some l=>
  have hE:∀k,ubO (ug0 (some l) s) k = .any∨ubO (ug0 (some l) s) k=ubO s k:=fun k=>by
   unfold ubO ug0
   rcases uqw l k s.env with q|q
   ·exact .inl (by show udP (lk (uhR l s.env) k)=_;rw [q];rfl)
   ·exact .inr (by show udP (lk (uhR l s.env) k)=_;rw [q])
  refine⟨h.size,h.defers,fun k=> ?_,fun k id hid=> ?_,h.ms,h.mle,h.bor,h.mm⟩
  ·rcases hE k with q|q
   ·show Rel μ ν (ubO (ug0 (some l) s) k) _
    rw [q];exact .any ν _
   ·show Rel μ ν (ubO (ug0 (some l) s) k) _
    rw [q];exact h.env k
  ·have hid':id∈(ubO (ug0 (some l) s) k).ids:=hid
   rcases hE k with q|q
   ·rw [q]at hid';simp [SV.ids]at hid'
   ·rw [q]at hid';exact h.wf k id hid'
theorem ugP (o:Option (List SE)) {s:LS}(h:s.Fresh):(ug0 o s).Fresh:=by
 cases o with
 |none=>exact h
 |some l=>exact h
theorem ufM (hR:∀id,(R0 id).isSome=true→id∈kp)(hF:FenceOk F P)(hT:uc5 P T) {id:Nat} {ops:Array Oper}(hdst:ues N ops.toList=true):ugT F n P T W0 B0 R0 N N0 sc kp (.region id ops false):=by
 intro s Qs Q D μ ν a W h hf hS hD hE
 simp only [vcC]at h
 replace hS:=ui7 (lk sc (id+150)) hS
 replace hf:=ugP (lk sc (id+150)) hf
 generalize ug0 (lk sc (id+150)) s=s at h hf hS
 simp only [vcR]at h
 refine wpIn_region ?_
 have hl:List.range ops.size=List.range' 0 ops.toList.length:=by simp [List.range_eq_range']
 rw [hl]
 split at h
 rotate_left
 ·exact uhv (W0:=W) (B0:=ujz s.fs ν μ) (R0:=⟨R0.tab,μ⟩) (D:=D) hR hF hT hdst (fun s' μ' ν' a' W' hk hf' hS'=>hE D .normal s' μ' ν' a' W' hk hf' (hS.unbase hS') (hS.defOk hS' hD)) ops.toList 0 s.nxt s μ ν a W rfl hf hS.rebase h
 exact ujj (W0:=W) (B0:=ujz s.fs ν μ) (R0:=⟨R0.tab,μ⟩) (D:=D) hF hT hdst (fun s' μ' ν' a' W' hk hf' hS'=>hE D .normal s' μ' ν' a' W' hk hf' (hS.unbase hS') (hS.defOk hS' hD)) ops.toList 0 s.nxt s μ ν a W rfl hf hS.rebase h
theorem udI (hF:FenceOk F P)(hT:uc5 P T)(hmix:P.follows .mixedOrders=true) {id:Nat} {ops:Array Oper}(hdst:ues N ops.toList=true) {l:List SE}(hsc:ubu ops.toList l=true):
 ∀ (s:LS) (Qs:LS→Prop) (Q:Exit→Act→World→Prop) D μ ν a W,udy T P ops.toList ops.toList.length l s Qs→(∀e∈l,∀x,e.x=some x→x<s.nxt)→s.Fresh→Sat W0 B0 R0 N D s.fs μ ν a W →
  (∀s' μ' ν' a' W',Qs s'→s'.Fresh→Sat W (ujz s.fs ν μ) ⟨R0.tab,μ⟩ N D s'.fs μ' ν' a' W'→Q .normal a' W')→(Code.region id ops true).wpIn F n P Q a W:=by
 intro s Qs Q D μ ν a W h hX hf hS hE
 refine wpIn_region_any hmix ?_
 have hlen:l.length=ops.size:=by
  have h':=hsc
  simp only [ubu,Bool.and_eq_true]at h'
  simpa using uac h'.1.1.1
 have hnd:(ubv l).Nodup:=by
  have h':=hsc
  simp only [ubu,Bool.and_eq_true]at h'
  exact ud9 h'.1.1.2
 have hpre:∀e∈l,e.i<ops.size:=fun e he=>by
  have h':=hsc
  simp only [ubu,Bool.and_eq_true,List.all_eq_true]at h'
  obtain⟨o,ho,_⟩:=ubH (h'.2 e he)
  rw [uaZ]at ho
  exact(Array.getElem?_eq_some_iff.1 ho).1
 have hall:∀i,i<ops.size→i∈ubv l:=fun i hi=>by
  have hil:(ubv l).length=ops.size:=by
   rw [←hlen]
   clear hnd hpre hsc h hX hlen
   induction l with
   |nil=>rfl
   |cons e l ih=>simp [ubv,ih]
  refine Classical.byContradiction fun hni=> ?_
  have:=uje ops.size (i::ubv l) (List.nodup_cons.2 ⟨hni,hnd⟩) (fun x hx=>by
   rcases List.mem_cons.1 hx with q|q
   ·omega
   ·obtain⟨e,he,rfl⟩:=uat.1 q
    exact hpre e he)
  simp only [List.length_cons]at this
  omega
 have hrun:ub6 T P ops.toList s.nxt ops.size l s.fs (fun t=>∃s',t=s'.fs∧Qs s'):=by
  have:=uhF (T:=T) (P:=P) (ops:=ops.toList) (base:=s.nxt) (N:=ops.toList.length) (K:=fun t=>∃s',t=s'.fs∧Qs s') (fun s' hs'=>⟨s',rfl,hs'⟩) l s rfl h
  simpa using this
 let Wd:World:={W with drawn:=W.drawn+1}
 have hSd:Sat W (ujz s.fs ν μ) ⟨R0.tab,μ⟩ N D s.fs μ ν a Wd:=hS.rebase.world rfl rfl rfl rfl
 refine ugV (W0:=W) (B0:=ujz s.fs ν μ) (R0:=⟨R0.tab,μ⟩) (D:=D) (K:=fun t=>∃s',t=s'.fs∧Qs s') hF hT (fun j o k ho hk=>ud8 hdst o (by
  have:=Array.mem_of_getElem? ho
  simpa using this) k hk) hsc hX ?_ ops.size l _ s.fs μ ν a Wd hlen (List.Sublist.refl _) (by simp) (fun i=> ?_) (fun e' he' hn=>absurd (uat.2 ⟨e',he',rfl⟩) hn) (fun e _=>hf _ (Nat.le_add_right _ _)) (fun id hid=>hf id (by omega)) hrun hSd
 ·rintro t' μ' ν' a' W' ⟨s',rfl,hq⟩ hfr hS'
  exact hE s' μ' ν' a' W' hq (fun id hid=>hfr id hid) hS'
 ·constructor
  ·intro hq
   refine hall i ?_
   by_cases hi:i<ops.size
   ·exact hi
   ·simp [Array.getD_eq_getD_getElem?,hi]at hq
  ·intro hi
   obtain⟨e,he,rfl⟩:=uat.1 hi
   have:=hpre e he
   simp [Array.getD_eq_getD_getElem?,this]
theorem ucZ (hF:FenceOk F P)(hT:uc5 P T)(hmix:P.follows .mixedOrders=true) {id:Nat} {ops:Array Oper}(hdst:ues N ops.toList=true) {l:List SE}(hl:lk sc id=some l)(hsc:ubu ops.toList l=true):
 ∀ (s:LS) (Qs:LS→Prop) (Q:Exit→Act→World→Prop) D μ ν a W,uiD T P ops.toList ops.toList.length l s Qs→s.Fresh→Sat W0 B0 R0 N D s.fs μ ν a W →
  (∀s' μ' ν' a' W',Qs s'→s'.Fresh→Sat W (ujz s.fs ν μ) ⟨R0.tab,μ⟩ N D s'.fs μ' ν' a' W'→Q .normal a' W')→(Code.region id ops true).wpIn F n P Q a W:=by
 intro s Qs Q D μ ν a W h hf hS hE
 unfold uiD at h
 split at h
 ·exact udI hF hT hmix hdst (udq hsc) s Qs Q D μ ν a W h (fun e he x q=>by
   obtain⟨e',_,rfl⟩:=List.mem_map.1 he
   unfold SE.setX at q
   split at q<;>cases q) hf hS hE
 ·obtain ⟨X,h⟩:=h
  split at h
  ·rename_i hb
   split at h
   ·exact udI hF hT hmix hdst (udq hsc) s Qs Q D μ ν a W h (fun e he x q=>by
     obtain⟨e',_,rfl⟩:=List.mem_map.1 he
     unfold SE.setX at q
     split at q<;>cases q
     exact ub1 hb) hf hS hE
   ·obtain⟨Y,h⟩:=h
    split at h
    ·rename_i hy
     exact udI hF hT hmix hdst (udq hsc) s Qs Q D μ ν a W h (fun e he x q=>by
      obtain⟨e',_,rfl⟩:=List.mem_map.1 he
      unfold SE.setX at q
      split at q<;>cases q
      ·exact ub1 hb
      ·exact ub1 hy) hf hS hE
    ·exact h.elim
  ·exact h.elim
theorem ufK (hR:∀id,(R0 id).isSome=true→id∈kp)(hF:FenceOk F P)(hT:uc5 P T)(hmix:P.follows .mixedOrders=true) {id:Nat} {ops:Array Oper}(hdst:ues N ops.toList=true) {l:List SE}(hl:lk sc id=some l)(hsc:ubu ops.toList l=true):
 ugT F n P T W0 B0 R0 N N0 sc kp (.region id ops true):=by
 intro s Qs Q D μ ν a W h hf hS hD hE
 simp only [vcC]at h
 replace hS:=ui7 (lk sc (id+150)) hS
 replace hf:=ugP (lk sc (id+150)) hf
 generalize ug0 (lk sc (id+150)) s=s at h hf hS
 simp only [vcR,hl]at h
 split at h
 ·exact ucZ (n:=n) (id:=id) hF hT hmix hdst hl hsc s _ Q D μ ν a W h hf hS fun s' μ' ν' a' W' hq hf' hS'=>hE D .normal s' μ' ν' a' W' hq hf' (hS.unbase hS') (hS.defOk hS' hD)
 ·obtain⟨ids,h⟩:=h
  split at h
  ·rename_i s1 hs1
   obtain⟨μ2,ν2,hS2,hf2⟩:=udK hR ids hs1 (nid:=s.nxt) hf hS
   have hnx:s1.nxt=s.nxt:=uhT ids hs1
   exact ucZ (n:=n) (id:=id) hF hT hmix hdst hl hsc s1 _ Q D μ2 ν2 a W h (fun k hk=>hf2 k (by rw [←hnx];exact hk)) hS2 fun s' μ' ν' a' W' hq hf' hS'=>hE D .normal s' μ' ν' a' W' hq hf' (hS2.unbase hS') (hS2.defOk hS' hD)
  ·exact h.elim
theorem ubQ {b:Frame} {c:Code} {k:List Item} {cs:List Frame} {w:World}:step P (lone (b.atR a (.code (.scope c)::k)) cs w) = .next (lone (b.atR a (.code c:: .inScope c::k)) cs w):=
 step_lone_go (by simp [stepG,stepG.exec,Frame.atR])
theorem uhs {b:Frame} {c:Code} {k:List Item} {cs:List Frame} {w:World}:step P (lone (b.atR a (.inScope c::k)) cs w) = .next (lone (b.atR a k) cs w):=
 step_lone_go (by simp [stepG,stepG.exec,Frame.atR])
theorem ump {c:Code} {w:World}(h:c.wpIn F n P (Exit.noGoto Q) a w):(Code.scope c).wpIn F n P Q a w:=by
 intro b k cs hro hb hr
 have h0:(lone (b.atR a (.code (.scope c)::k)) cs w).fenced P F:=fenced_calm hb hr rfl
 obtain⟨e,a₁,w₁,hq,harr⟩:=h b (.inScope c::k) cs hro hb hr
 cases e with
 |normal=>exact⟨.normal,a₁,w₁,hq,.head h0 ubQ (StepsIn.trans harr (.one (fenced_calm hb hr rfl) uhs))⟩
 | exit id=>
  have hx:exitTo id (.inScope c::k)=exitTo id k:=by simp [exitTo]
  exact⟨_,a₁,w₁,hq,fun k' hk=>.head h0 ubQ (harr.1 k' (by rw [hx];exact hk)),fun hr' hk=>let ⟨k₁,h1,h2⟩:=harr.2 hr' (by rw [hx];exact hk);⟨k₁,h1,.head h0 ubQ h2⟩⟩
 |goto l=>exact hq.elim
 |ret=>exact⟨_,a₁,w₁,hq,.of_steps (.one h0 ubQ) harr⟩
 |panic ch=>exact⟨_,a₁,w₁,hq,.of_steps (.one h0 ubQ) harr⟩
 |outgrown=>exact⟨_,a₁,w₁,hq,.of_steps (.one h0 ubQ) harr⟩
theorem uiH {c:Code}(hc:ugT F n P T W0 B0 R0 N N0 sc kp c) {Qs:Exit→LS→Prop}(hE:uwQ F.round W0 B0 R0 N N0 Qs Q):
 ∀(k:Nat) (s:LS) D μ ν a W,uou (vcC T P sc kp c) k s Qs→s.Fresh→Sat W0 B0 R0 N D s.fs μ ν a W→uio F.round N0 D W→Code.roundsIn F n P c Q k a W:=by
 intro k
 induction k with
 |zero=>intro s D μ ν a W h;exact h.elim
 | succ k ih=>
  intro s D μ ν a W h hf hS hD
  rw [roundsIn_succ]
  refine hc s _ _ D μ ν a W h hf hS hD ?_
  intro D' e s' μ' ν' a' W' hq hf' hS' hD'
  cases e with
  |normal=>exact ih s' D' μ' ν' a' W' hq hf' hS' hD'
  |_=>exact hE D' _ s' μ' ν' a' W' hq hf' hS' hD'
theorem ulU {c:Code}(hc:ugT F n P T W0 B0 R0 N N0 sc kp c)(hR:∀id,(R0 id).isSome=true→id∈kp) {Qs:Exit→LS→Prop}(hE:uwQ F.round W0 B0 R0 N N0 Qs Q) {σ:Type} {I:σ→LS} {m:σ→Nat}
 (hI :∀x,vcC T P sc kp c (I x) (fun e s'=>match e with
     | .normal=>∃y,m y<m x∧Ent kp s' (I y)
     |e=>Qs e s')):
 ∀(k:Nat) (x:σ) D μ ν a W,m x<k→(I x).Fresh→Sat W0 B0 R0 N D (I x).fs μ ν a W→uio F.round N0 D W→Code.roundsIn F n P c Q k a W:=by
 intro k
 induction k with
 |zero=>intro x D μ ν a W h;omega
 | succ k ih=>
  intro x D μ ν a W h hf hS hD
  rw [roundsIn_succ]
  refine hc (I x) _ _ D μ ν a W (hI x) hf hS hD ?_
  intro D' e s' μ' ν' a' W' hq hf' hS' hD'
  cases e with
  | normal=>
   obtain⟨y,hy,hent⟩:=hq
   obtain⟨hS2,hf2⟩:=ueV hent hR hS'
   exact ih y D' μ' ν' a' W' (by omega) hf2 hS2 hD'
  |_=>exact hE D' _ s' μ' ν' a' W' hq hf' hS' hD'
theorem up7 (hT:uc5 P T)(hmix:P.follows .mixedOrders=true):∀(c:Code),uaE N sc c=true→uoF P T N sc c:=by
 intro c
 induction c with
 | skip=>
  intro _ F n W0 B0 R0 N0 kp hF hN hR s Qs Q D μ ν a W h hf hS hD hE
  exact wpIn_skip (hE D .normal s μ ν a W h hf hS hD)
 | region id ops draw=>
  intro hok F n W0 B0 R0 N0 kp hF hN hR
  simp only [uaE]at hok
  split at hok
  ·rename_i h1
   exact ufM hR hF hT h1
  ·rename_i h1
   split at hok
   ·rename_i l hl
    exact ufK hR hF hT hmix h1 hl hok
   ·cases hok
  ·cases hok
 | seq x y ihx ihy=>
  intro hok F n W0 B0 R0 N0 kp hF hN hR s Qs Q D μ ν a W h hf hS hD hE
  simp only [uaE,Bool.and_eq_true]at hok
  refine wpIn_seq ((ihx hok.1 F n W0 B0 R0 N0 kp hF hN hR) s _ _ D μ ν a W h hf hS hD ?_)
  intro D' e s' μ' ν' a' W' hq hf' hS' hD'
  cases e with
  |normal=>exact(ihy hok.2 F n W0 B0 R0 N0 kp hF hN hR) s' Qs Q D' μ' ν' a' W' hq hf' hS' hD' hE
  |_=>exact hE D' _ s' μ' ν' a' W' hq hf' hS' hD'
 | cond c x y ihx ihy=>
  intro hok F n W0 B0 R0 N0 kp hF hN hR s Qs Q D μ ν a W h hf hS hD hE
  simp only [uaE,Bool.and_eq_true]at hok
  simp only [vcC]at h
  split at h
  ·rename_i hc
   exact wpIn_cond_true (uc6 hS hc) ((ihx hok.1 F n W0 B0 R0 N0 kp hF hN hR) s Qs Q D μ ν a W h hf hS hD hE)
  ·rename_i hc
   exact wpIn_cond_false (uc6 hS hc) ((ihy hok.2 F n W0 B0 R0 N0 kp hF hN hR) s Qs Q D μ ν a W h hf hS hD hE)
  ·rename_i f hc
   refine wpIn_cond_split (uc6 hS hc) (fun hb=> ?_) (fun hb=> ?_)
   ·exact(ihx hok.1 F n W0 B0 R0 N0 kp hF hN hR) s Qs Q D μ ν a W (h.1 hb) hf hS hD hE
   ·exact(ihy hok.2 F n W0 B0 R0 N0 kp hF hN hR) s Qs Q D μ ν a W (h.2 hb) hf hS hD hE
  ·exact h.elim
 | block id c ih=>
  intro hok F n W0 B0 R0 N0 kp hF hN hR s Qs Q D μ ν a W h hf hS hD hE
  simp only [uaE]at hok
  refine wpIn_block ((ih hok F n W0 B0 R0 N0 kp hF hN hR) s _ _ D μ ν a W h hf hS hD ?_)
  intro D' e s' μ' ν' a' W' hq hf' hS' hD'
  cases e with
  | exit j=>
   simp only at hq
   simp only [Exit.inBlock]
   cases hb:Nat.beq j id with
   | true=>
    rw [hb]at hq
    rw [if_pos (uac hb)]
    exact hE D' .normal s' μ' ν' a' W' hq hf' hS' hD'
   | false=>
    rw [hb]at hq
    rw [if_neg (by rintro rfl;simp at hb)]
    exact hE D' _ s' μ' ν' a' W' hq hf' hS' hD'
  |_=>exact hE D' _ s' μ' ν' a' W' hq hf' hS' hD'
 | loop c ih=>
  intro hok F n W0 B0 R0 N0 kp hF hN hR s Qs Q D μ ν a W h hf hS hD hE
  simp only [uaE]at hok
  obtain⟨un,h⟩:=h
  cases un with
  |some k=>exact wpIn_loop_rounds k (uiH (ih hok F n W0 B0 R0 N0 kp hF hN hR) hE k s D μ ν a W h hf hS hD)
  | none=>
   obtain⟨seeds,σ,I,m,h0,hI⟩:=h
   cases hs:ucx seeds s with
   |none=>rw [hs]at h0;exact h0.elim
   | some s0=>
    rw [hs]at h0
    obtain⟨x,hent⟩:=h0
    obtain⟨ν',hS',hf'⟩:=uch seeds hs hf hS
    obtain⟨hS2,hf2⟩:=ueV hent hR hS'
    exact wpIn_loop_rounds (m x+1) (ulU (ih hok F n W0 B0 R0 N0 kp hF hN hR) hR hE hI (m x+1) x D μ ν' a W (by omega) hf2 hS2 hD)
 | rangeFunc g ps x y ihx ihy=>
  intro hok F n W0 B0 R0 N0 kp hF hN hR
  simp only [uaE,Bool.and_eq_true]at hok
  exact ugl hF hN hR hok.1 (ihx hok.2.1) (ihy hok.2.2)
 | exit id=>
  intro _ F n W0 B0 R0 N0 kp hF hN hR s Qs Q D μ ν a W h hf hS hD hE
  exact wpIn_exit (hE D _ s μ ν a W h hf hS hD)
 | scope c ih=>
  intro hok F n W0 B0 R0 N0 kp hF hN hR s Qs Q D μ ν a W h hf hS hD hE
  simp only [uaE]at hok
  refine ump ((ih hok F n W0 B0 R0 N0 kp hF hN hR) s _ _ D μ ν a W h hf hS hD ?_)
  intro D' e s' μ' ν' a' W' hq hf' hS' hD'
  cases e with
  |goto l=>exact hq.elim
  |_=>exact hE D' _ s' μ' ν' a' W' hq hf' hS' hD'
 | label l=>
  intro _ F n W0 B0 R0 N0 kp hF hN hR s Qs Q D μ ν a W h hf hS hD hE
  exact wpIn_label (hE D .normal s μ ν a W h hf hS hD)
 |goto l=>intro _ F n W0 B0 R0 N0 kp hF hN hR s Qs Q D μ ν a W h;exact h.elim
 | ret=>
  intro _ F n W0 B0 R0 N0 kp hF hN hR s Qs Q D μ ν a W h hf hS hD hE
  exact wpIn_ret (hE D _ s μ ν a W h hf hS hD)
 |refuse=>intro _ F n W0 B0 R0 N0 kp hF hN hR s Qs Q D μ ν a W h;exact h.elim
end
end Go.Eng

namespace Go.Eng
open Go
section
variable {P:Program} {T:uar} {W0:World} {B0:Nat→Prop} {R0:Bor} {N:Nat} {D:List Deferred} {t t':Sta} {μ μ':Mem} {ν ν':Vl} {a a':Act} {W W':World}
variable {F:Fence} {n:Nat} {Q:Exit→Act→World→Prop} {sc:SC} {kp:List Nat}
theorem ufE {fn:Func} {tmps:Array Value} {R:Ending→World→Prop} {ro:Option Nat} {N0:Nat}:∀(D:List Deferred) (W:World),uio ro N0 D W →
 (∀W',Alike N0 W W'→∃v,(results fn tmps).run P W' = .ok v W'∧R (.returned v) W')→LeavesInM F n P fn tmps R D .returning W:=by
 intro D
 induction D with
 |nil=>intro W _ h;exact h W (Alike.refl _ _)
 | cons d D ih=>
  intro W hD h
  obtain⟨k,e,hn,hk⟩:=hD.2.1 d (by simp)
  refine⟨by simp,.inl ⟨k,_,by rw [e],run_takeDeferred hk,?_⟩⟩
  have hal:Alike N0 W (W.putObj k (.deferred none)):=Alike.putObj hk rfl hn
  have hpw:=List.pairwise_cons.1 hD.1
  refine ih _ ⟨hpw.2,⟨fun d' hd'=> ?_,fun l0 hl=> ?_⟩⟩ fun W' hW'=>h W' (hal.trans hW')
  ·obtain⟨k',e',hn',hk'⟩:=hD.2.1 d' (List.mem_cons_of_mem _ hd')
   refine⟨k',e',hn',?_⟩
   have:k'≠k:=fun q=>hpw.1 d' hd' (by rw [e,e',q])
   rw [World.putObj_heap_other this];exact hk'
  ·obtain⟨r,hr⟩:=hD.2.2 l0 hl
   refine⟨r,?_⟩
   rw [World.putObj_heap_other (by rintro rfl;rw [hk]at hr;cases hr)];exact hr
def uro (tmps:Array Value):ResultVar→Sem Value
 | .tmp t=>pure (tmps.getD t undef)
 | .cell a t=>do loadVar t (←asAddr (tmps.getD a undef))
theorem ufj {e:TypeId} {ti:TI}(h:TyOk1 P e ti)(W:World)(b o:Nat)(cs:Array Value)(ty:TypeId)(fr:Nat×Nat)(hb:W.heap[b]? =some (.cells cs ty fr))(hl:o+ti.size≤cs.size):
 (loadVar e ⟨b,o,none⟩).run P W = .ok (uiF ti cs.toList o) W:=by
 have:=udC h W b o cs ty fr hb hl
 simpa only [Instr.loadAt,Instr.sureAddr,Sem.run_bind,Sem.run_pure,Result.andThen_ok]using this
theorem ugW (hT:uc5 P T) {s:LS}(h:Sat W0 B0 R0 N D s.fs μ ν a W):∀(rl:List ResultVar) (l:List SV),urv T s rl=some l →
 ∃vs:List Value,vs.length=l.length∧Rel μ ν (.tup l) (.tuple ⟨vs⟩)∧(∀id∈SV.idsL l,(s.fs.H id).isSome=true)∧(rl.mapM (m:=Sem) (uro a.tmps)).run P W = .ok vs W:=by
 intro rl
 induction rl with
 | nil=>
  intro l hl
  simp only [urv,Option.some.injEq]at hl
  subst hl
  exact⟨[],rfl,.tnil ν,by simp [SV.idsL],by simp⟩
 | cons x rl ih=>
  intro l hl
  cases x with
  | tmp k=>
   simp only [urv]at hl
   split at hl
   ·rename_i r hr
    simp only [Option.some.injEq]at hl
    subst hl
    obtain⟨vs,h1,h2,h3,h4⟩:=ih r hr
    refine⟨a.tmps.getD k undef::vs,by simp [h1],.tcons ν _ _ _ _ (h.env k) h2,fun id hid=> ?_,?_⟩
    ·simp only [SV.idsL]at hid
     rcases List.mem_append.1 hid with q|q
     ·exact h.wf k id q
     ·exact h3 id q
    ·rw [List.mapM_cons]
     simp only [uro,Sem.run_bind,Sem.run_pure,Result.andThen_ok,h4]
   ·cases hl
  | cell k e=>
   simp only [urv]at hl
   split at hl
   ·rename_i id off ti r hk hte hr
    split at hl
    ·rename_i c e' hid
     have ht:=hT e ti hte
     have hrel:=h.env k
     rw [show s.fs.E k = .own id off from hk]at hrel
     obtain⟨b,hb,hval⟩:=udp hrel
     obtain⟨b',cs,q1,q2,q3⟩:=h.ms.own.holds id _ hid
     have hbb:b'=b:=Option.some.inj (q1.symm.trans hb)
     subst hbb
     obtain⟨vs,h1,h2,h3,h4⟩:=ih r hr
     have hids:∀j∈SV.idsL c,(s.fs.H j).isSome=true:=fun j hj=>h.ms.wf id _ hid j hj
     have fin:∀(x:SV),off+ti.size≤cs.size→Rel μ ν x (uiF ti cs.toList off)→(∀j∈x.ids,(s.fs.H j).isSome=true)→l=x::r →
      ∃vs:List Value,vs.length=l.length∧Rel μ ν (.tup l) (.tuple ⟨vs⟩)∧(∀id∈SV.idsL l,(s.fs.H id).isSome=true)∧((ResultVar.cell k e::rl).mapM (m:=Sem) (uro a.tmps)).run P W = .ok vs W:=fun x hsz hx hxi hle=>by
      subst hle
      refine⟨uiF ti cs.toList off::vs,by simp [h1],.tcons ν _ _ _ _ hx h2,fun j hj=> ?_,?_⟩
      ·simp only [SV.idsL]at hj
       rcases List.mem_append.1 hj with q|q
       ·exact hxi j q
       ·exact h3 j q
      ·rw [List.mapM_cons]
       simp only [uro,Sem.run_bind,Sem.run_pure,Result.andThen_ok,hval,asAddr,ufj ht W b' off cs e' (0,0) q2 hsz,h4]
     split at hl
     ·rename_i hag
      split at hl
      ·rename_i x hx
       simp only [Option.some.injEq]at hl
       obtain⟨p1,p2⟩:=ubb q3 hx
       refine fin (.agg x) (by simpa using p2) ?_ (fun j hj=>hids j (uh4 hx j (by simpa [SV.ids]using hj))) hl.symm
       unfold uiF
       rw [hag]
       exact p1
      ·cases hl
     ·rename_i hag
      split at hl
      ·rename_i x hx
       simp only [Option.some.injEq]at hl
       obtain⟨cv,p1,p2,p3⟩:=uge q3 hx
       have hlt:=(List.getElem?_eq_some_iff.1 p1).1
       have hlv:uiF ti cs.toList off=cv:=by
        unfold uiF
        rw [hag]
        show cs.toList.getD off undef=cv
        rw [List.getD_eq_getElem?_getD,p1];rfl
       refine fin x (by rw [ht.one hag];simp at hlt;omega) (by rw [hlv];exact p2) (fun j hj=> ?_) hl.symm
       rcases uji q3 hx with q|⟨v,q⟩
       ·exact hids j (q j hj)
       ·rw [Rel.no_ids q rfl]at hj;cases hj
      ·cases hl
    ·cases hl
   ·cases hl
def utv :List Value→Value
 |[v]=>v
 |l=>.tuple ⟨l⟩
theorem uew {fn:Func} {vs:List Value}(h:(fn.results.toList.mapM (m:=Sem) (uro a.tmps)).run P W = .ok vs W):
 (results fn a.tmps).run P W = .ok (utv vs) W:=by
 have e:(results fn a.tmps)=(do let vs ←fn.results.mapM (m:=Sem) (uro a.tmps);pure (if h:vs.size=1 then vs[0]else .tuple vs)):=by
  unfold results
  congr 1
 have hm:(fn.results.mapM (m:=Sem) (uro a.tmps)).run P W = .ok vs.toArray W:=by
  rw [Array.mapM_eq_mapM_toList]
  show Sem.run P (List.mapM (uro a.tmps) fn.results.toList >>=fun x=>pure x.toArray) W=_
  rw [Sem.run_bind,h]
  rfl
 rw [e,Sem.run_bind,hm]
 match vs with
 |[]=>rfl
 |[v]=>rfl
 | v::w::r=>
  have:¬(v::w::r).toArray.size=1:=by simp
  simp only [Result.andThen_ok,dif_neg this,Sem.run_pure,utv]
section
variable {H:Nat→Option Blk} {kp:Nat→Bool}
theorem ucV (h:MSat W0 B0 H μ ν W)(m:Nat)(j:Nat):uax (uhq μ ν H kp W) ν ν (uef H kp (m+1) true) j:=by
 have:=uqt (kp:=kp) h (m+1) ν j
 unfold uax at this⊢
 simp only [uef]at this⊢
 cases hb:kp j with
 |true=>exact⟨trivial,trivial⟩
 | false=>
  rw [hb]at this
  exact this
end
theorem uls :∀(l:List SV) (n k:Nat),lk (ufN n l) (n+k)=l[k]? :=by
 intro l
 induction l with
 |nil=>intro n k;rfl
 | cons x l ih=>
  intro n k
  simp only [ufN,lk]
  cases k with
  |zero=>simp
  | succ k=>
   have:Nat.beq n (n+(k+1))=false:=by
    cases h:Nat.beq n (n+(k+1))with
    |false=>rfl
    |true=>have:=uac h;omega
   rw [this]
   have:=ih (n+1) k
   rw [show n+1+k=n+(k+1) by omega]at this
   simpa using this
theorem utX :∀(l:List Blk) (n k:Nat),lk (hOf n l) (n+k)=l[k]? :=by
 intro l
 induction l with
 |nil=>intro n k;rfl
 | cons x l ih=>
  intro n k
  simp only [hOf,lk]
  cases k with
  |zero=>simp
  | succ k=>
   have:Nat.beq n (n+(k+1))=false:=by
    cases h:Nat.beq n (n+(k+1))with
    |false=>rfl
    |true=>have:=uac h;omega
   rw [this]
   have:=ih (n+1) k
   rw [show n+1+k=n+(k+1) by omega]at this
   simpa using this
theorem uj4 {gH:Nat→Option Blk}:∀{n:Nat} {bs:List Blk},uty gH n=some bs→bs.length=n∧∀j,j<n→gH j=bs[j]? :=by
 intro n
 induction n with
 |zero=>intro bs h;simp only [uty,Option.some.injEq]at h;subst h;exact⟨rfl,fun j h=>by omega⟩
 | succ n ih=>
  intro bs h
  simp only [uty]at h
  split at h
  ·rename_i l b hl hb
   simp only [Option.some.injEq]at h
   subst h
   obtain⟨h1,h2⟩:=ih hl
   refine⟨by simp [h1],fun j hj=> ?_⟩
   by_cases e:j=n
   ·subst e
    rw [hb,List.getElem?_append_right (by omega),h1];simp
   ·rw [h2 j (by omega),List.getElem?_append_left (by omega)]
  ·cases h
theorem ucv {l:List Blk} {b:Blk} {i:Nat}(hb:b∈l)(hi:i∈ua9 b):i∈ubr l:=by
 induction l with
 |nil=>cases hb
 | cons y l ih=>
  simp only [ubr]
  rcases List.mem_cons.1 hb with rfl|hb
  ·exact List.mem_append_left _ hi
  ·exact List.mem_append_right _ (ih hb)
theorem uku {l:List SV} {x:SV} {i:Nat}(hx:x∈l)(hi:i∈x.ids):i∈SV.idsL l:=by
 induction l with
 |nil=>cases hx
 | cons y l ih=>
  simp only [SV.idsL]
  rcases List.mem_cons.1 hx with rfl|hx
  ·exact List.mem_append_left _ hi
  ·exact List.mem_append_right _ (ih hx)
theorem um0 (P:Program):FenceOk Fence.wide P:=⟨fun _=>trivial,rfl,fun _ _ _ _ _ h=>callsIn_wide.2 h⟩
theorem up1 {g:Nat→Option To} {l:List SV} {vs:List Value}(h:Rel μ ν (.tup (SV.subL g l)) (.tuple ⟨vs⟩)):Rel μ ν (one (SV.subL g l)) (utv vs):=by
 cases l with
 |nil=>cases h;exact .tnil ν
 | cons x l=>
  cases l with
  | nil=>
   simp only [SV.subL]at h⊢
   cases h with
   |tcons _ _ _ c rest h1 h2=>cases h2;exact h1
  | cons y l=>
   simp only [SV.subL]at h⊢
   cases h with
   | tcons _ _ _ c rest h1 h2=>
    cases h2 with
    |tcons _ _ _ c' rest' h3 h4=>exact .tcons ν _ _ _ _ h1 (.tcons ν _ _ _ _ h3 h4)
def utq (bor:List Blk)(μ:Mem)(ν:Vl):Bor:=⟨fun id=>bor[id]?.map fun blk=>(blk.isRow,ν.b id,ν.r id),μ⟩
theorem Sat.place0 {B:Nat→Prop} {R0:Bor} {N:Nat} {D:List Deferred} {t:Sta} {μ:Mem} {ν:Vl} {a:Act} {W W1:World}(h:Sat W (fun b=>B b∨uaz R0.mu b) R0 N D t μ ν a W1) {id b:Nat}(hs:(t.H id).isSome=true)(hb:ν.b id=some b):W.heap.size≤b∨B b:=by
 rcases h.ms.own.place id b hs hb with q|q|q
 ·exact .inl q
 ·exact .inr q
 ·exact((q.mono h.mle.le).no (h.ms.own.out id b hs hb)).elim
theorem Sat.new0 {B:Nat→Prop} {R0:Bor} {N:Nat} {D:List Deferred} {t:Sta} {μ:Mem} {ν:Vl} {a:Act} {W W1:World}(h:Sat W (fun b=>B b∨uaz R0.mu b) R0 N D t μ ν a W1) {b:Nat} {c:Cel}(hc:μ b=some c):R0.mu b=some c∨W.heap.size≤b∨B b:=by
 rcases h.mle.new b c hc with q|q|q|⟨kt,vt,sc,nk,F,q⟩
 ·exact .inl q
 ·exact .inr (.inl q)
 ·exact .inr (.inr q)
 ·have:=h.mle.le _ _ q
  rw [hc]at this
  rw [Option.some.inj this];exact .inl q
theorem unP (hT:uc5 P T)(hmix:P.follows .mixedOrders=true) {f:FuncId} {fn:Func} {c:Code}(hf:P.funcs[f]? =some fn)(hb:fn.body=some c)
 (hok:uaE fn.ntmps sc c=true) {args:List SV} {bor:List Blk} {E:LS→Prop} (hlen:args.length≤fn.ntmps)
 (h:subset (SV.idsL args++ubr bor) (List.range bor.length)=true∧vcC T P sc (List.range bor.length) c (ulI args bor) (fun e s=>match e with
  | .normal=>E s
  | .ret=>E s
  |_=>False)) (μ:Mem) (ν:Vl) (W:World) (vs:Array Value) (hmem:ubR μ W) (hown:OwnOk W.heap.size (ubo ν bor.length) μ ν (fun id=>bor[id]?) W) (hargs:Rel μ ν (.tup args) (.tuple vs))
 {R:Ending→World→Prop} (fin:∀D' s' μ1 ν1 a1 W1,E s'→s'.Fresh→Sat W (fun b=>ubo ν bor.length b∨uaz μ b) (utq bor μ ν) fn.ntmps D' s'.fs μ1 ν1 a1 W1→∃v,(results fn a1.tmps).run P W1 = .ok v W1∧R (.returned v) W1):Calls P f vs W R:=by
 obtain⟨hwf,h⟩:=h
 have hvl:vs.size=args.length:=by
  obtain⟨cs,e,hl⟩:=ugf hargs
  injection e with e
  subst e
  exact hl
 have hids:∀id∈SV.idsL args++ubr bor,id<bor.length:=fun id hid=>List.mem_range.1 (uaA hwf id hid)
 have hH:∀id,lk (hOf 0 bor) id=bor[id]? :=fun id=>by have:=utX bor 0 id;simpa using this
 have hE:∀k,lk (ufN 0 args) k=args[k]? :=fun k=>by have:=uls args 0 k;simpa using this
 let R0:Bor:=utq bor μ ν
 have hS :Sat W (fun b=>ubo ν bor.length b∨uaz μ b) R0 fn.ntmps [] (ulI args bor).fs μ ν {tmps:=vs++Array.replicate (fn.ntmps-vs.size) undef,defers:=[]} W:=by
  refine⟨by simp;omega,rfl,fun k=> ?_,fun k id hid=> ?_,⟨hmem,⟨fun id blk hb=> ?_,fun id id' b hs hs'=> ?_,fun id b hs=> ?_,fun id b hs=> ?_⟩,ufW _ _,fun i b hb id hid=> ?_⟩,MLe.refl _ _ _,fun id r b hr=> ?_,fun b hb=>.inr hb⟩
  ·show Rel μ ν (udP (lk (ufN 0 args) k)) _
   rw [hE]
   cases hk:args[k]? with
   |none=>exact .any _ _
   | some x=>
    have hlt:=(List.getElem?_eq_some_iff.1 hk).1
    obtain⟨cv,q1,q2⟩:=ujU (cs:=vs.toList) hargs (by rw [uhc];exact hk)
    have:(vs++Array.replicate (fn.ntmps-vs.size) undef).getD k undef=cv:=by
     rw [Array.getD_eq_getD_getElem?,Array.getElem?_append_left (by omega)]
     simp only [Array.getElem?_toList]at q1
     rw [q1];rfl
    rw [this];exact q2
  ·have hid':id∈(udP (lk (ufN 0 args) k)).ids:=hid
   rw [hE]at hid'
   cases hk:args[k]? with
   |none=>rw [hk]at hid';simp [udP,SV.ids]at hid'
   | some x=>
    rw [hk]at hid'
    have:=hids id (List.mem_append_left _ (uku (List.mem_of_getElem? hk) hid'))
    show(lk (hOf 0 bor) id).isSome=true
    rw [hH,List.getElem?_eq_getElem this];rfl
  ·have hb':lk (hOf 0 bor) id=some blk:=hb
   rw [hH]at hb'
   exact hown.holds id blk hb'
  ·have e1:lk (hOf 0 bor) id=bor[id]? :=hH id
   have e2:lk (hOf 0 bor) id'=bor[id']? :=hH id'
   exact hown.inj id id' b (by rw [←e1];exact hs) (by rw [←e2];exact hs')
  ·have e1:lk (hOf 0 bor) id=bor[id]? :=hH id
   exact hown.out id b (by rw [←e1];exact hs)
  ·have e1:lk (hOf 0 bor) id=bor[id]? :=hH id
   exact fun hb=>(hown.place id b (by rw [←e1];exact hs) hb).imp (fun q=>q) .inl
  ·have hb':lk (hOf 0 bor) i=some b:=hb
   rw [hH]at hb'
   have:=hids id (List.mem_append_right _ (ucv (List.mem_of_getElem? hb') hid))
   show(lk (hOf 0 bor) id).isSome=true
   rw [hH,List.getElem?_eq_getElem this];rfl
  ·have hr:(bor[id]?.map fun blk=>(blk.isRow,ν.b id,ν.r id))=some (r,b):=hr
   cases hq:bor[id]? with
   |none=>rw [hq]at hr;cases hr
   | some blk=>
    rw [hq]at hr
    simp only [Option.map_some,Option.some.injEq,Prod.mk.injEq]at hr
    obtain⟨rfl,rfl⟩:=hr
    exact⟨blk,(hH id).trans hq,rfl,fun _=>rfl⟩
 have hFresh:(ulI args bor).Fresh:=fun id hid=>by
  have hid':bor.length≤id:=hid
  show lk (hOf 0 bor) id=none
  rw [hH]
  exact List.getElem?_eq_none hid'
 have hR:∀id,(R0 id).isSome=true→id∈List.range bor.length:=fun id hs=>by
  have hs:(bor[id]?.map fun blk=>(blk.isRow,ν.b id,ν.r id)).isSome=true:=hs
  cases hq:bor[id]? with
  |none=>rw [hq]at hs;cases hs
  |some blk=>exact List.mem_range.2 (List.getElem?_eq_some_iff.1 hq).1
 refine callsIn_wide.1 (callsIn_of_wp_marks (F:=Fence.wide) (n:=0) hf hb trivial ?_)
 refine up7 hT hmix c hok Fence.wide 0 W (fun b=>ubo ν bor.length b∨uaz μ b) R0 W.heap.size _ (um0 P) (Nat.le_refl _) hR (ulI args bor) _ _ [] μ ν _ W h hFresh hS ⟨.nil,⟨fun d hd=>(by cases hd),fun l0 e=>(by cases e)⟩⟩ ?_
 intro D' e s' μ1 ν1 a1 W1 hq hf1 hS1 hD1
 have key:∀R,(∀W2,Alike W.heap.size W1 W2→∃v,(results fn a1.tmps).run P W2 = .ok v W2∧R (.returned v) W2)→LeavesInM Fence.wide 0 P fn a1.tmps R a1.defers .returning W1:=fun R hR=>by
  rw [hS1.defers]
  exact ufE D' W1 hD1 hR
 cases e with
 |normal=>exact key _ fun W2 hW2=>fin D' s' μ1 ν1 a1 W2 hq hf1 (hS1.alike hW2)
 |ret=>exact key _ fun W2 hW2=>fin D' s' μ1 ν1 a1 W2 hq hf1 (hS1.alike hW2)
 |_=>exact hq.elim
theorem ujQ (hT:uc5 P T)(hmix:P.follows .mixedOrders=true) {f:FuncId} {fn:Func} {c:Code}(hf:P.funcs[f]? =some fn)(hb:fn.body=some c)(hent:∀args w,(callFunc f args).run P w = .ok (.enter f args) w)
 (hok:uaE fn.ntmps sc c=true) {args:List SV} {bor:List Blk} {post:SV→List Blk→Prop} (hlen:args.length≤fn.ntmps) (h:vcF T P sc fn c args bor post):ua0 P f args bor post:=by
 refine⟨hent,fun μ ν W vs hmem hown hargs=> ?_⟩
 refine unP hT hmix hf hb hok hlen h μ ν W vs hmem hown hargs (fun D' s' μ1 ν1 a1 W1 hq _ hS1=> ?_)
 unfold uvN at hq
 split at hq
 ·rename_i l bs0 hres hgr
  obtain⟨hbl,hget⟩:=uj4 hgr
  split at hq
  ·rename_i hnil hsub
   obtain⟨vs1,p1,p2,p3,p4⟩:=ugW hT hS1 _ _ hres
   have hgid:∀id,id<bor.length→lk s'.H id=bs0[id]? :=hget
   have hm:=hS1.ms
   have hpl:∀{id b:Nat},(lk s'.H id).isSome=true→ν1.b id=some b→W.heap.size≤b∨ubo ν bor.length b:=fun {id b} hs hb=>Sat.place0 (B:=ubo ν bor.length) (R0:=utq bor μ ν) hS1 hs hb
   have hnw:∀{b:Nat} {c:Cel},μ1 b=some c→μ b=some c∨W.heap.size≤b∨ubo ν bor.length b:=fun {b c} hc=>Sat.new0 (B:=ubo ν bor.length) (R0:=utq bor μ ν) hS1 hc
   have hsubv:=p2.sub (fun _ _ h=>ubM (H:=lk s'.H) (kp:=fun id=>Nat.blt id bor.length) (ν:=ν1) (W:=W1) h) (uef (lk s'.H) (fun id=>Nat.blt id bor.length) 6 true) ν1 (fun j _=>ucV hm 5 j)
   simp only [SV.sub]at hsubv
   have hone:=up1 hsubv
   have hids0:(one (SV.subL (uef (lk s'.H) (fun id=>Nat.blt id bor.length) 6 true) l)).ids=[]:=by
    generalize SV.subL (uef (lk s'.H) (fun id=>Nat.blt id bor.length) 6 true) l=l' at hnil
    match l' with
    |[]=>rfl
    |[x]=>simpa [one,SV.idsL]using hnil
    |x::y::r=>simpa [one,SV.ids]using hnil
   have hbsub:∀j,(bs0.map (Blk.sub (uef (lk s'.H) (fun id=>Nat.blt id bor.length) 6 true)))[j]? =(bs0[j]?).map (Blk.sub (uef (lk s'.H) (fun id=>Nat.blt id bor.length) 6 true)):=fun j=>by rw [List.getElem?_map]
   have hsome:∀{j:Nat},((bs0.map (Blk.sub (uef (lk s'.H) (fun id=>Nat.blt id bor.length) 6 true)))[j]?).isSome=true→j<bor.length∧(lk s'.H j).isSome=true:=fun {j} hs=>by
    rw [hbsub]at hs
    have hj:j<bor.length:=by
     rw [←hbl]
     cases hq':bs0[j]? with
     |none=>rw [hq']at hs;cases hs
     |some b=>exact(List.getElem?_eq_some_iff.1 hq').1
    refine⟨hj,?_⟩
    rw [hgid j hj]
    cases hq':bs0[j]? with
    |none=>rw [hq']at hs;cases hs
    |some b=>rfl
   have hbor:∀(j:Nat) (blk:Blk),bor[j]? =some blk→∃b,lk s'.H j=some b∧bs0[j]? =some b∧b.isRow=blk.isRow∧(blk.isRow=false→(ν1.b j,ν1.r j)=(ν.b j,ν.r j)):=fun j blk hj=>by
    have hlt:=(List.getElem?_eq_some_iff.1 hj).1
    obtain⟨b,q1,q2,q3⟩:=hS1.bor j blk.isRow (ν.b j,ν.r j) (by show bor[j]?.map _=_;rw [hj];rfl)
    have q1':lk s'.H j=some b:=q1
    exact⟨b,q1',by rw [←hgid j hlt];exact q1',q2,q3⟩
   refine⟨utv vs1,uew p4,_,_,_,uhq μ1 ν1 (lk s'.H) (fun id=>Nat.blt id bor.length) W1,ν1,rfl,hq,hone.strip hids0,⟨by simp [hbl],fun b c hc=> ?_,fun b c hc=> ?_,fun b c hc=> ?_,⟨fun j b hb=> ?_,fun j j' b hs hs' hb hb'=> ?_,fun j b hs hb=> ?_,fun j b hs hb=> ?_⟩,?_,fun j b hb i hi=> ?_,fun j blk hj hrow=> ?_,hm.frm⟩⟩
   ·exact ubM (hS1.mle.le b c hc)
   ·rcases ucO hc with q|⟨id,q1,q2,q3,_⟩
    ·exact hnw q
    ·exact .inr (hpl q2 q3)
   ·rcases ucO hc with q|⟨id,q1,q2,q3,⟨c',rfl,e,fr,q4⟩|⟨es,clock,rfl,q4⟩⟩
    ·exact hm.mem b c q
    ·exact⟨e,fr,q4⟩
    ·exact q4
   ·rw [hbsub]at hb
    cases hq':bs0[j]? with
    |none=>rw [hq']at hb;cases hb
    | some b0=>
     rw [hq']at hb
     cases hb
     have hj:j<bor.length:=by rw [←hbl];exact(List.getElem?_eq_some_iff.1 hq').1
     exact(hm.own.holds j b0 ((hgid j hj).trans hq')).turn (fun _ _ h=>ubM h) _ ⟨rfl,rfl⟩ (fun i _=>ucV hm 5 i) (fun _ _=>rfl)
   ·obtain⟨_,h1⟩:=hsome hs
    obtain⟨_,h2⟩:=hsome hs'
    exact hm.own.inj j j' b h1 h2 hb hb'
   ·obtain⟨hj,h1⟩:=hsome hs
    cases hq':uhq μ1 ν1 (lk s'.H) (fun id=>Nat.blt id bor.length) W1 b with
    |none=>rfl
    | some c=>
     rcases ucO hq' with q|⟨id,q1,q2,q3,_⟩
     ·rw [hm.own.out j b h1 hb]at q;cases q
     ·have:=hm.own.inj j id b h1 q2 hb q3
      subst this
      have q5:Nat.blt j bor.length=true:=Nat.ble_eq_true_of_le hj
      rw [q5]at q1;cases q1
   ·obtain⟨_,h1⟩:=hsome hs
    exact hpl h1 hb
   ·apply List.ext_getElem?
    intro j
    rw [List.getElem?_map,List.getElem?_map (l:=bor),hbsub]
    cases hj:bor[j]? with
    | none=>
     have:bor.length≤j:=List.getElem?_eq_none_iff.1 hj
     rw [List.getElem?_eq_none (by omega:bs0.length≤j)];rfl
    | some blk=>
     obtain⟨b,_,q2,q3,_⟩:=hbor j blk hj
     rw [q2]
     simp [ubD,q3]
   ·exact List.mem_range.1 (uaA hsub i (ucv (List.mem_of_getElem? hb) hi))
   ·obtain⟨b,_,_,_,q4⟩:=hbor j blk hj
    exact q4 hrow
  ·exact hq.elim
 ·exact hq.elim
def umy (n k:Nat)(id:Nat):Option To:=match Nat.beq id n with
 |true=>some (.id k)
 |false=>none
def uuQ (T:uar)(fn:Func)(k n:Nat)(post:SV→List Blk→Prop)(s:LS):Prop:=
 match Nat.ble k n,urv T s fn.results.toList,uty (lk s.H) k,lk s.H n with
 | true,some l,some bs,some bn=>match subset (SV.idsL (SV.subL (umy n k) (SV.subL (uef (lk s.H) (fun id=>Nat.blt id k||Nat.beq id n) 6 true) l))) (List.range (k+1)),
  subset (ubr ((bs++[bn]).map (fun b=>(b.sub (uef (lk s.H) (fun id=>Nat.blt id k||Nat.beq id n) 6 true)).sub (umy n k)))) (List.range (k+1))with
  |true,true=>post (one (SV.subL (umy n k) (SV.subL (uef (lk s.H) (fun id=>Nat.blt id k||Nat.beq id n) 6 true) l))) ((bs++[bn]).map (fun b=>(b.sub (uef (lk s.H) (fun id=>Nat.blt id k||Nat.beq id n) 6 true)).sub (umy n k)))
  |_,_=>False
 |_,_,_,_=>False
theorem uow {gH:Nat→Option Blk} {kp:Nat→Bool} {m:Nat} {s:SV}:∀j∈(s.sub (uef gH kp (m+1) true)).ids,kp j=true:=by
 intro j hj
 have key:∀i:Nat,(uef gH kp (m+1) true i=none→kp i=true)∧∀x,uef gH kp (m+1) true i≠some (.id x):=fun i=>by
  simp only [uef]
  cases kp i with
  |true=>exact⟨fun _=>rfl,fun x e=>by cases e⟩
  | false=>
   refine⟨fun e=> ?_,fun x e=> ?_⟩
   ·revert e;simp only [];split<;>intro e<;>cases e
   ·revert e;simp only [];split<;>intro e<;>cases e
 rcases udw _ s j hj with⟨_,q⟩|⟨i,_,q⟩
 ·exact(key j).1 q
 ·exact absurd q ((key i).2 j)
theorem umm {gH:Nat→Option Blk} {kp:Nat→Bool} {m:Nat} {b:Blk}:∀j∈ua9 (b.sub (uef gH kp (m+1) true)),kp j=true:=by
 cases b with
 |cells l ty=>intro j hj;exact uow (s:=.agg l) j (by simpa [ua9,Blk.sub,SV.sub,SV.ids]using hj)
 |row=>intro j hj;simp [ua9,Blk.sub]at hj
 |map=>intro j hj;simp [ua9,Blk.sub]at hj
 |it=>intro j hj;simp [ua9,Blk.sub]at hj
def urM (T:uar)(fn:Func)(k:Nat)(post:SV→List Blk→Prop)(s:LS):Prop:=
 ∃ (seeds:List Seed) (n:Nat),match ucx seeds s with
  |some s0=>uuQ T fn k n post s0
  |none=>False
def uxL (T:uar)(P:Program)(sc:SC)(fn:Func)(c:Code)(args:List SV)(bor:List Blk)(post:SV→List Blk→Prop):Prop:=
 subset (SV.idsL args++ubr bor) (List.range bor.length)=true∧vcC T P sc (List.range bor.length) c (ulI args bor) (fun e s=>match e with
  | .normal=>urM T fn bor.length post s
  | .ret=>urM T fn bor.length post s
  |_=>False)
theorem uja (hT:uc5 P T)(hmix:P.follows .mixedOrders=true) {f:FuncId} {fn:Func} {c:Code}(hf:P.funcs[f]? =some fn)(hb:fn.body=some c)(hent:∀args w,(callFunc f args).run P w = .ok (.enter f args) w)
 (hok:uaE fn.ntmps sc c=true) {args:List SV} {bor:List Blk} {post:SV→List Blk→Prop} (hlen:args.length≤fn.ntmps) (h:uxL T P sc fn c args bor post):uaU P f args bor post:=by
 refine⟨hent,fun μ ν W vs hmem hown hargs=> ?_⟩
 refine unP (E:=fun s=>urM T fn bor.length post s) hT hmix hf hb hok hlen h μ ν W vs hmem hown hargs (fun D' s0' μ1 ν0 a1 W1 hq hf1 hS0=> ?_)
 obtain⟨seeds,n,hq⟩:=hq
 cases hsd:ucx seeds s0' with
 |none=>rw [hsd]at hq;exact hq.elim
 |some s'=>
 rw [hsd]at hq
 simp only at hq
 obtain⟨ν1,hS1,_⟩:=uch seeds hsd hf1 hS0
 unfold uuQ at hq
 split at hq
 ·rename_i l bs0 bn hkn hres hgr hbn
  have hkn:bor.length≤n:=Nat.le_of_ble_eq_true hkn
  obtain⟨hbl,hget⟩:=uj4 hgr
  obtain⟨kp,hkp⟩:∃kp:Nat→Bool,kp=fun id=>Nat.blt id bor.length||Nat.beq id n:=⟨_,rfl⟩
  have hkt:∀id,kp id=true↔id<bor.length∨id=n:=fun id=>by
   rw [hkp]
   simp only [Bool.or_eq_true]
   constructor
   ·rintro(q|q)
    ·exact .inl (ub1 q)
    ·exact .inr (uac q)
   ·rintro(q|q)
    ·exact .inl (Nat.ble_eq_true_of_le q)
    ·exact .inr (by rw [q];exact Nat.beq_refl _)
  rw [←hkp]at hq
  split at hq
  ·rename_i hnil hsub
   obtain⟨vs1,p1,p2,p3,p4⟩:=ugW hT hS1 _ _ hres
   have hm:=hS1.ms
   have hpl:∀{id b:Nat},(lk s'.H id).isSome=true→ν1.b id=some b→W.heap.size≤b∨ubo ν bor.length b:=fun {id b} hs hb=>Sat.place0 (B:=ubo ν bor.length) (R0:=utq bor μ ν) hS1 hs hb
   have hnw:∀{b:Nat} {c:Cel},μ1 b=some c→μ b=some c∨W.heap.size≤b∨ubo ν bor.length b:=fun {b c} hc=>Sat.new0 (B:=ubo ν bor.length) (R0:=utq bor μ ν) hS1 hc
   let ν2:Vl:=⟨fun id=>if id=bor.length then ν1.b n else ν1.b id,fun id=>if id=bor.length then ν1.r n else ν1.r id⟩
   have hν:∀id,id≠bor.length→ν2.b id=ν1.b id∧ν2.r id=ν1.r id:=fun id hid=>by simp [ν2,hid]
   have hνk:ν2.b bor.length=ν1.b n∧ν2.r bor.length=ν1.r n:=by simp [ν2]
   have hren:∀{μ':Mem} (id:Nat),kp id=true→uax μ' ν1 ν2 (umy n bor.length) id:=fun {μ'} id hid=>by
    unfold uax umy
    cases hb2:Nat.beq id n with
    | true=>
     have:=uac hb2
     subst this
     exact hνk
    | false=>
     refine hν id fun e=> ?_
     rcases(hkt id).1 hid with q|q
     ·omega
     ·rw [q,Nat.beq_refl]at hb2;cases hb2
   have hsubv:=p2.sub (fun _ _ h=>ubM (H:=lk s'.H) (kp:=kp) (ν:=ν1) (W:=W1) h) (uef (lk s'.H) kp 6 true) ν1 (fun j _=>ucV hm 5 j)
   have hsubv2:=hsubv.sub (fun _ _ h=>h) (umy n bor.length) ν2 (fun j hj=>hren j (uow j hj))
   simp only [SV.sub]at hsubv2
   have hone:=up1 hsubv2
   have hids0:∀id∈(one (SV.subL (umy n bor.length) (SV.subL (uef (lk s'.H) kp 6 true) l))).ids,id<bor.length+1:=fun id hid=>by
    refine List.mem_range.1 (uaA hnil id ?_)
    generalize SV.subL (umy n bor.length) (SV.subL (uef (lk s'.H) kp 6 true) l)=l' at hid
    match l' with
    |[]=>exact hid
    |[x]=>simpa [one,SV.idsL]using hid
    |x::y::r=>simpa [one,SV.ids]using hid
   obtain⟨G,hG⟩:∃G,G=uef (lk s'.H) kp 6 true:=⟨_,rfl⟩
   have hlen1:((bs0++[bn]).map (fun b=>(b.sub G).sub (umy n bor.length))).length=bor.length+1:=by simp [hbl]
   have hj2:∀{j:Nat} {b:Blk},((bs0++[bn]).map (fun b=>(b.sub G).sub (umy n bor.length)))[j]? =some b→∃j' b0,(j<bor.length∧j'=j∨j=bor.length∧j'=n)∧lk s'.H j'=some b0∧b=(b0.sub G).sub (umy n bor.length)∧(bs0++[bn])[j]? =some b0∧(ν2.b j=ν1.b j'∧ν2.r j=ν1.r j'):=fun {j b} hb=>by
    rw [List.getElem?_map]at hb
    cases hq':(bs0++[bn])[j]? with
    |none=>rw [hq']at hb;cases hb
    | some b0=>
     rw [hq']at hb
     cases hb
     by_cases hj:j<bor.length
     ·refine⟨j,b0,.inl ⟨hj,rfl⟩,?_,rfl,rfl,hν j (by omega)⟩
      rw [hget j hj,←hq',List.getElem?_append_left (by omega)]
     ·have hjl:=(List.getElem?_eq_some_iff.1 hq').1
      simp [hbl]at hjl
      have hje:j=bor.length:=by omega
      subst hje
      refine⟨n,b0,.inr ⟨rfl,rfl⟩,?_,rfl,rfl,hνk⟩
      rw [List.getElem?_append_right (by omega),hbl]at hq'
      simp at hq'
      rw [←hq']
      exact hbn
   have hs2:∀{j:Nat},(((bs0++[bn]).map (fun b=>(b.sub G).sub (umy n bor.length)))[j]?).isSome=true→∃j',(j<bor.length∧j'=j∨j=bor.length∧j'=n)∧(lk s'.H j').isSome=true∧ν2.b j=ν1.b j'∧kp j'=true:=fun {j} hs=>by
    obtain⟨b,hb⟩:=Option.isSome_iff_exists.1 hs
    obtain⟨j',b0,h1,h2,_,_,h4,_⟩:=hj2 hb
    refine⟨j',h1,ua2 h2,h4,(hkt j').2 ?_⟩
    rcases h1 with⟨q1,q2⟩|⟨q1,q2⟩
    ·exact .inl (by omega)
    ·exact .inr q2
   have hbor:∀(j:Nat) (blk:Blk),bor[j]? =some blk→∃b,lk s'.H j=some b∧bs0[j]? =some b∧b.isRow=blk.isRow∧(blk.isRow=false→(ν1.b j,ν1.r j)=(ν.b j,ν.r j)):=fun j blk hj=>by
    have hlt:=(List.getElem?_eq_some_iff.1 hj).1
    obtain⟨b,q1,q2,q3⟩:=hS1.bor j blk.isRow (ν.b j,ν.r j) (by show bor[j]?.map _=_;rw [hj];rfl)
    have q1':lk s'.H j=some b:=q1
    exact⟨b,q1',by rw [←hget j hlt];exact q1',q2,q3⟩
   rw [←hG]at hq hsub
   refine⟨utv vs1,uew p4,_,_,_,uhq μ1 ν1 (lk s'.H) kp W1,ν2,rfl,hq,by rw [hG];exact hone,fun id hid=>by rw [hlen1];rw [hG]at hid;exact hids0 id hid,⟨by rw [hlen1];omega,fun b c hc=> ?_,fun b c hc=> ?_,fun b c hc=> ?_,⟨fun j b hb=> ?_,fun j j' b hs hs' hb hb'=> ?_,fun j b hs hb=> ?_,fun j b hs hb=> ?_⟩,?_,fun j b hb i hi=> ?_,fun j blk hj hrow=> ?_,hm.frm⟩⟩
   ·exact ubM (hS1.mle.le b c hc)
   ·rcases ucO hc with q|⟨id,q1,q2,q3,_⟩
    ·exact hnw q
    ·exact .inr (hpl q2 q3)
   ·rcases ucO hc with q|⟨id,q1,q2,q3,⟨c',rfl,e,fr,q4⟩|⟨es,clock,rfl,q4⟩⟩
    ·exact hm.mem b c q
    ·exact⟨e,fr,q4⟩
    ·exact q4
   ·obtain⟨j',b0,h1,h2,rfl,_,h4⟩:=hj2 hb
    have hh:=(hm.own.holds j' b0 h2).turn (μ':=uhq μ1 ν1 (lk s'.H) kp W1) (W':=W1) (fun _ _ h=>ubM h) G ⟨rfl,rfl⟩ (fun i _=>by rw [hG];exact ucV hm 5 i) (fun _ _=>rfl)
    exact hh.turn (fun _ _ h=>h) _ h4 (fun i hi=>hren i (by rw [hG]at hi;exact umm i hi)) (fun _ _=>rfl)
   ·obtain⟨i,q1,q2,q3,_⟩:=hs2 hs
    obtain⟨i',r1,r2,r3,_⟩:=hs2 hs'
    rw [q3]at hb
    rw [r3]at hb'
    have:=hm.own.inj i i' b q2 r2 hb hb'
    omega
   ·obtain⟨i,q1,q2,q3,q4⟩:=hs2 hs
    rw [q3]at hb
    cases hq':uhq μ1 ν1 (lk s'.H) kp W1 b with
    |none=>rfl
    | some c=>
     rcases ucO hq' with q|⟨id,r1,r2,r3,_⟩
     ·rw [hm.own.out i b q2 hb]at q;cases q
     ·have:=hm.own.inj i id b q2 r2 hb r3
      subst this
      rw [q4]at r1;cases r1
   ·obtain⟨i,q1,q2,q3,q4⟩:=hs2 hs
    rw [q3]at hb
    exact hpl q2 hb
   ·apply List.ext_getElem?
    intro j
    rw [List.getElem?_map,List.getElem?_map (l:=bor),List.getElem?_take,List.getElem?_map]
    cases hj:bor[j]? with
    | none=>
     have:bor.length≤j:=List.getElem?_eq_none_iff.1 hj
     rw [if_neg (by omega)]
    | some blk=>
     have hjl:=(List.getElem?_eq_some_iff.1 hj).1
     obtain⟨b,_,q2,q3,_⟩:=hbor j blk hj
     rw [if_pos hjl,List.getElem?_append_left (by omega),q2]
     simp [ubD,q3]
   ·rw [hlen1]
    exact List.mem_range.1 (uaA hsub i (ucv (List.mem_of_getElem? hb) hi))
   ·obtain⟨b,_,_,_,q4⟩:=hbor j blk hj
    have:=(List.getElem?_eq_some_iff.1 hj).1
    rw [(hν j (by omega)).1,(hν j (by omega)).2]
    exact q4 hrow
  ·exact hq.elim
 ·exact hq.elim
end
end Go.Eng

namespace Go.Eng
open Go
def uss :TypeDesc→TK
 | .int k=>.int k
 | .bool=>.bool
 | .slice e=>.sli e
 | .array n e=>.arr n e
 | .struct fs=>.str (fs.toList.map fun f=>(f.offset,f.type))
 | d=>match d.isRow with
  |false=>.one
  |true=>.arr 0 0
def ulf (P:Program):TK→Bool
 | .str fs=>fs.all fun f=>match P.info? f.2 with
  |some i=> !Nat.beq i.size 0
  |none=>false
 |_=>true
def tyC (P:Program)(t:Nat)(ti:TI):Option (Nat×Nat×Option Value)×Option TK×Bool:=((P.info? t).map fun i=>(i.size,i.bytes,i.zero),(P.underlying t).map uss,ulf P ti.k)
def tyE (ti:TI):Option (Nat×Nat×Option Value)×Option TK×Bool:=(some (ti.size,ti.bytes,some (ugE ti)),some ti.k,true)
def tyB (ti:TI):Bool:=Nat.beq (zvs ti.zero).length ti.size&&(ti.isAgg||Nat.beq ti.size 1)
theorem uur {α:Type} {l:List (Nat×α)} {t:Nat} {x:α}(h:lk l t=some x):(t,x)∈l:=by
 induction l with
 |nil=>simp [lk]at h
 | cons y l ih=>
  obtain⟨k,z⟩:=y
  simp only [lk]at h
  cases hb:Nat.beq k t with
  | true=>
   rw [hb]at h
   simp only [Option.some.injEq]at h
   have:=uac hb
   subst this;subst h;simp
  |false=>rw [hb]at h;exact List.mem_cons_of_mem _ (ih h)
theorem uq1 {P:Program} {t:Nat} {ti:TI}(h:tyC P t ti=tyE ti)(hb:tyB ti=true):TyOk1 P t ti:=by
 simp only [tyC,tyE,Prod.mk.injEq]at h
 obtain⟨h1,h2,h3⟩:=h
 simp only [tyB,Bool.and_eq_true,Bool.or_eq_true]at hb
 obtain⟨b1,b2⟩:=hb
 cases hi:P.info? t with
 |none=>rw [hi]at h1;cases h1
 | some i=>
  rw [hi]at h1
  simp only [Option.map_some,Option.some.injEq,Prod.mk.injEq]at h1
  obtain⟨e1,e2,e3⟩:=h1
  refine⟨⟨i,hi,e1,e2,e3⟩,uac b1,?_,fun ha=> ?_⟩
  ·cases hu:P.underlying t with
   |none=>rw [hu]at h2;cases h2
   | some d=>
    rw [hu]at h2
    simp only [Option.map_some,Option.some.injEq]at h2
    rw [←h2]
    rw [←h2]at h3
    cases d<;>simp only [uss]<;>first|rfl|skip
    case struct fs=>
     refine⟨fs,rfl,rfl,fun f hf=> ?_⟩
     simp only [uss,ulf,List.all_eq_true,List.mem_map,forall_exists_index,and_imp,forall_apply_eq_imp_iff₂]at h3
     have:=h3 f hf
     cases hq:P.info? f.type with
     |none=>rw [hq]at this;cases this
     | some j=>
      rw [hq]at this
      refine⟨j,rfl,fun e=> ?_⟩
      simp only [e]at this
      cases this
    all_goals first|exact⟨_,rfl,rfl⟩|(simp [TypeDesc.isRow];done)|skip
  ·rcases b2 with q|q
   ·rw [ha]at q;cases q
   ·exact uac q
theorem us2 {P:Program} {l:List (Nat×TI)}(h:l.map (fun p=>tyC P p.1 p.2)=l.map (fun p=>tyE p.2))(hb:l.all (fun p=>tyB p.2)=true):uc5 P (fun t=>lk l t):=by
 intro t ti hl
 have hm:=uur hl
 refine uq1 ?_ ((List.all_eq_true.1 hb) _ hm)
 exact List.map_inj_left.1 h _ hm
end Go.Eng

namespace Go.Eng
open Go
structure Fit (a b:SV):Prop where
 le:Le a b
theorem Fit.refl (a:SV):Fit a a:=⟨fun _ _ _ h=>h⟩
theorem Fit.trans {a b c:SV}(h:Fit a b)(h':Fit b c):Fit a c:=⟨fun μ ν v q=>h'.le μ ν v (h.le μ ν v q)⟩
theorem qE {k:IntKind} {x y:IX}(h:x.den=y.den):Fit (.int k x) (.int k y):=⟨fun μ ν v q=>by rw [udg q,h];exact .int ν k y⟩
theorem qF {x y:BX}(h:x.den=y.den):Fit (.bool x) (.bool y):=⟨fun μ ν v q=>by rw [ubm q,h];exact .bool ν y⟩
theorem qG (a:SV):Fit a .any:=⟨fun _ ν v _=>.any ν v⟩
theorem qB :Fit (.tup []) (.tup []):=.refl _
theorem qD {a b:SV} {l m:List SV}(h:Fit a b)(h':Fit (.tup l) (.tup m)):Fit (.tup (a::l)) (.tup (b::m)):=⟨fun μ ν v q=>by
 cases q with
 |tcons _ _ _ c rest h1 h2=>exact .tcons ν _ _ c rest (h.le _ _ _ h1) (h'.le _ _ _ h2)⟩
theorem qA :Fit (.agg []) (.agg []):=.refl _
theorem qC {a b:SV} {l m:List SV}(h:Fit a b)(ha:udB a=true)(h':Fit (.agg l) (.agg m)):Fit (.agg (a::l)) (.agg (b::m)):=⟨fun μ ν v q=>by
 cases q with
 |arr=>cases ha
 |cons _ _ _ c rest h1 h2 h3=>exact .cons ν _ _ c rest (h.le _ _ _ h1) h2 (h'.le _ _ _ h3)⟩
theorem ua1 {sz:Nat} {n m:IX} {e e':IX→List SV}(hn:n.den=m.den)(he:∀ix:IX,0≤ix.den→ix.den<n.den→Fit (.agg (e ix)) (.agg (e' ix))):Fit (.sl sz n e) (.sl sz m e'):=⟨fun μ ν v q=>by
 cases q with
 |slnil _ _ _ _ ad cap h1 h2=>exact .slnil ν sz m e' ad cap (hn▸h1) h2
 |sl _ _ _ _ b o len cap c h1 h2 h3 h4 h5 h6 h7=>exact .sl ν sz m e' b o len cap c h1 (hn▸h2) h3 h4 h5 (fun ix i0 i1=>(he ix i0 (by omega)).le _ _ _ (h6 ix i0 (by omega))) h7⟩
theorem upX {kt vt:Nat} {sc:Bool} {nk:Nat} {D D':List Int→Bool} {F F':List Int→SV}(hD:∀ks:List Int,ks.length=nk→D ks=D' ks)(hF:∀ks:List Int,ks.length=nk→D ks=true→Fit (F ks) (F' ks)):Fit (.mapx kt vt sc nk D F) (.mapx kt vt sc nk D' F'):=⟨fun μ ν v q=>by
 cases q with
 | mapx _ _ _ _ _ _ _ b es clock w h1 h2 h3=>
  exact .mapx ν kt vt sc nk D' F' b es clock w h1 ⟨h2.one,h2.keys,h2.once,h2.born,h2.clock,fun ks a c=>h2.no ks a (by rw [hD ks a];exact c),fun ks a c=>h2.yes ks a (by rw [hD ks a];exact c)⟩ fun ks a c=>
   (hF ks a (by rw [hD ks a];exact c)).le _ _ _ (h3 ks a (by rw [hD ks a];exact c))⟩
theorem qP {sz:Nat} {m:IX} {e':IX→List SV}(hm:m.den=0):Fit (.val (.slice none 0 0)) (.sl sz m e'):=⟨fun μ ν v q=>by
 rw [(ucY q).1]
 exact .slnil ν sz m e' none 0 hm (Nat.zero_le _)⟩
def uap (p:Prop):Prop:=p
theorem ua3 {p q:Prop}(h1:uap p)(h2:q):(∀_:Unit,p)∧q:=⟨fun _=>h1,h2⟩
theorem uov {a b:Int} {k:IntKind} {K:Int→Prop}(hb:uap (b≠0))(hr:uap (inR k (a.tdiv b)))(h:K (a.tdiv b)):∃q,(∀_:Unit,ut6 a b q∧inR k q)∧K q:=⟨_,fun _=>⟨⟨hb,rfl⟩,hr⟩,h⟩
theorem umi {P:Program} {f:FuncId} {args args':List SV} {K:SV→Prop} {R:SV} {NN:Prop}(hF:ua0 P f args' [] fun r _=>r=R)(ha:Fit (.tup args) (.tup args'))(h:K R):
 (∃post:SV→Prop,ua0 P f args [] (fun r _=>post r)∧∀r,post r→K r)∨NN:=
 .inl ⟨fun r=>r=R,⟨hF.1,fun μ ν W vs hm ho hr=>hF.2 μ ν W vs hm ho (ha.le _ _ _ hr)⟩,fun r hr=>by rw [hr];exact h⟩
theorem qQ {P:Program} {f:FuncId} {args args':List SV} {K:SV→Prop} {R:SV} {NN:Prop}(h:K R)(hF:ua0 P f args' [] fun r _=>r=R)(ha:Fit (.tup args) (.tup args')):
 (∃post:SV→Prop,ua0 P f args [] (fun r _=>post r)∧∀r,post r→K r)∨NN:=umi hF ha h
theorem qT {a b:Int} {k:IntKind} {K:Int→Prop}(h:K (a.tdiv b))(hb:uap (b≠0))(hr:uap (inR k (a.tdiv b))):∃q,(∀_:Unit,ut6 a b q∧inR k q)∧K q:=uov hb hr h
def uvm :List Blk→List Blk→Prop
 |[],[]=>True
 |b::l,b'::l'=>BLe b b'∧uvm l l'
 |_,_=>False
structure FitS (l l':List Blk):Prop where
 h:uvm l l'
structure FitK (b b':Blk):Prop where
 h:BLe b b'
theorem qH :FitS [] []:=⟨trivial⟩
theorem qI {b b':Blk} {l l':List Blk}(h:FitK b b')(h':FitS l l'):FitS (b::l) (b'::l'):=⟨⟨h.h,h'.h⟩⟩
theorem qJ {l l':List SV} {ty:TypeId}(h:Fit (.agg l) (.agg l')):FitK (.cells l ty) (.cells l' ty):=⟨⟨rfl,h.le⟩⟩
theorem ua8 {ety sz:Nat} {n n':IX} {e e':IX→List SV}(hn:n.den=n'.den)(h:∀ix:IX,0≤ix.den→ix.den<n.den→Fit (.agg (e ix)) (.agg (e' ix))):FitK (.row ety sz n e) (.row ety sz n' e'):=⟨⟨rfl,rfl,hn,fun _ _ ix c h0 h1 q=>(h ix h0 h1).le _ _ _ (q ix rfl)⟩⟩
theorem qK' (b:Blk):BLe b b:=by
 cases b with
 |cells l ty=>exact⟨rfl,fun _ _ _ h=>h⟩
 |row ety sz n e=>exact⟨rfl,rfl,rfl,fun _ _ ix _ _ _ h=>h ix rfl⟩
 |map kt vt sc nk f=>exact⟨rfl,rfl,rfl,rfl,fun ks=>by cases f ks<;>first|trivial|exact fun _ _ _ h=>h⟩
 |it sc nk R F la=>exact⟨rfl,rfl,.inr rfl,fun ks _=>⟨rfl,fun _ _ _ h=>h⟩⟩
theorem qK (b:Blk):FitK b b:=⟨qK' b⟩
theorem uvm.spec :∀{l l':List Blk},uvm l l'→l'.length=l.length∧∀(j:Nat) (b:Blk),l[j]? =some b→∃b',l'[j]? =some b'∧BLe b b':=by
 intro l
 induction l with
 | nil=>intro l' h;cases l' with
  |nil=>exact⟨rfl,fun j b h=>by simp at h⟩
  |cons=>exact h.elim
 | cons x l ih=>
  intro l' h
  cases l' with
  |nil=>exact h.elim
  | cons x' l'=>
   obtain⟨h1,h2⟩:=h
   obtain⟨q1,q2⟩:=ih h2
   refine⟨by simp [q1],fun j b hj=> ?_⟩
   cases j with
   |zero=>simp only [List.getElem?_cons_zero,Option.some.injEq]at hj;subst hj;exact⟨x',by simp,h1⟩
   |succ j=>simpa using q2 j b (by simpa using hj)
theorem ua0.preB {P:Program} {f:FuncId} {args args':List SV} {bl bl':List Blk} {post:SV→List Blk→Prop}(h:ua0 P f args' bl' post)(ha:Fit (.tup args) (.tup args'))(hb:FitS bl bl'):ua0 P f args bl post:=by
 obtain⟨hl,hb⟩:=hb.h.spec
 have hback:∀j b',bl'[j]? =some b'→∃b,bl[j]? =some b∧BLe b b':=fun j b' hj=>by
  have hlt:j<bl.length:=by have:=(List.getElem?_eq_some_iff.1 hj).1;omega
  obtain⟨b2,q1,q2⟩:=hb j _ (List.getElem?_eq_getElem hlt)
  rw [hj]at q1
  exact⟨_,List.getElem?_eq_getElem hlt,by rw [Option.some.inj q1];exact q2⟩
 have hkind:bl'.map Blk.isRow=bl.map Blk.isRow:=by
  apply List.ext_getElem?
  intro j
  rw [List.getElem?_map,List.getElem?_map]
  cases hj:bl[j]? with
  |none=>rw [List.getElem?_eq_none (by have:=List.getElem?_eq_none_iff.1 hj;omega)]
  | some b=>
   obtain⟨b',q1,q2⟩:=hb j b hj
   rw [q1]
   simp [q2.isRow]
 refine⟨h.1,fun μ ν W vs hm ho hr=> ?_⟩
 have hso:∀id,(bl'[id]?).isSome=true→(bl[id]?).isSome=true:=fun id hs=>by
  obtain⟨b',hb'⟩:=Option.isSome_iff_exists.1 hs
  obtain⟨b,q,_⟩:=hback id b' hb'
  exact ua2 q
 refine(h.2 μ ν W vs hm ⟨fun id b' hb'=> ?_,fun id id' b hs hs'=>ho.inj id id' b (hso id hs) (hso id' hs'),fun id b hs=>ho.out id b (hso id hs),fun id b hs hbb=>by rw [hl];exact ho.place id b (hso id hs) hbb⟩ (ha.le _ _ _ hr)).mono ?_
 ·obtain⟨b,q1,q2⟩:=hback id b' hb'
  exact q2.holds (ho.holds id b q1)
 ·rintro e W' ⟨v,r,bs,μ',ν',he,hp,hrel,hA⟩
  refine⟨v,r,bs,μ',ν',he,hp,hrel,⟨hA.len.trans hl,hA.le,by rw [←hl];exact hA.new,hA.mem,by rw [←hl];exact hA.own,hA.kind.trans hkind,by rw [←hl];exact hA.wf,fun id blk hb' hrow=> ?_,by rw [←hl];exact hA.frm⟩⟩
  obtain⟨b',q1,q2⟩:=hb id blk hb'
  exact hA.same id b' q1 (by rw [q2.isRow];exact hrow)
theorem qS {P:Program} {f:FuncId} {args args':List SV} {K:SV→Prop} {R:SV}(h:K R)(hF:ua0 P f args' [] fun r _=>r=R)(hp:ubf R=true)(ha:Fit (.tup args) (.tup args')):
 ∃post:SV→Prop,ua0 P f args [] (fun r _=>post r)∧∀r,post r→(∀_:Unit,uc2 r)∧K r:=
 ⟨fun r=>r=R,⟨hF.1,fun μ ν W vs hm ho hr=>hF.2 μ ν W vs hm ho (ha.le _ _ _ hr)⟩,fun r hr=>by rw [hr];exact⟨fun _=>upn hp,h⟩⟩
theorem ua0.toN {P:Program} {f:FuncId} {args:List SV} {bl:List Blk} {post:SV→List Blk→Prop}(h:ua0 P f args bl post):uaU P f args bl fun r bs=>post r bs∧bs.length=bl.length:=
 ⟨h.1,fun μ ν W vs hm ho hr=>(h.2 μ ν W vs hm ho hr).mono fun e W' ⟨v,r,bs,μ',ν',he,hp,hrel,hA⟩=>⟨v,r,bs,μ',ν',he,⟨hp,hA.len⟩,hrel.closed rfl ν',fun id hid=>(by rw [Rel.no_ids hrel rfl]at hid;cases hid),hA.toN⟩⟩
theorem qR {P:Program} {f:FuncId} {args args':List SV} {bl bl':List Blk} {X:List Blk→Prop} {n:Nat} {K:SV→List Blk→Prop} {R:SV} {B:List Blk}(h:K R B)(hF:ua0 P f args' bl' fun r bs=>r=R∧bs=B)(ha:Fit (.tup args) (.tup args'))(hb:FitS bl bl')(hl:Nat.ble bl.length n=true:=by rfl):
 ∃post:SV→List Blk→Prop,uaU P f args bl post∧∀r bs,post r bs→(∀_:Unit,X bs)→(∀_:Unit,bs.length≤n)∧K r bs:=
 ⟨fun r bs=>(r=R∧bs=B)∧bs.length=bl.length,(hF.preB ha hb).toN,fun r bs ⟨⟨h1,h2⟩,h3⟩ _=>⟨fun _=>by rw [h3];exact Nat.le_of_ble_eq_true hl,by rw [h1,h2];exact h⟩⟩
theorem uaU.preB {P:Program} {f:FuncId} {args args':List SV} {bl bl':List Blk} {post:SV→List Blk→Prop}(h:uaU P f args' bl' post)(ha:Fit (.tup args) (.tup args'))(hb:FitS bl bl'):uaU P f args bl post:=by
 obtain⟨hl,hb⟩:=hb.h.spec
 have hback:∀j b',bl'[j]? =some b'→∃b,bl[j]? =some b∧BLe b b':=fun j b' hj=>by
  have hlt:j<bl.length:=by have:=(List.getElem?_eq_some_iff.1 hj).1;omega
  obtain⟨b2,q1,q2⟩:=hb j _ (List.getElem?_eq_getElem hlt)
  rw [hj]at q1
  exact⟨_,List.getElem?_eq_getElem hlt,by rw [Option.some.inj q1];exact q2⟩
 have hkind:bl'.map Blk.isRow=bl.map Blk.isRow:=by
  apply List.ext_getElem?
  intro j
  rw [List.getElem?_map,List.getElem?_map]
  cases hj:bl[j]? with
  |none=>rw [List.getElem?_eq_none (by have:=List.getElem?_eq_none_iff.1 hj;omega)]
  | some b=>
   obtain⟨b',q1,q2⟩:=hb j b hj
   rw [q1]
   simp [q2.isRow]
 have hso:∀id,(bl'[id]?).isSome=true→(bl[id]?).isSome=true:=fun id hs=>by
  obtain⟨b',hb'⟩:=Option.isSome_iff_exists.1 hs
  obtain⟨b,q,_⟩:=hback id b' hb'
  exact ua2 q
 refine⟨h.1,fun μ ν W vs hm ho hr=> ?_⟩
 refine(h.2 μ ν W vs hm ⟨fun id b' hb'=> ?_,fun id id' b hs hs'=>ho.inj id id' b (hso id hs) (hso id' hs'),fun id b hs=>ho.out id b (hso id hs),fun id b hs hbb=>by rw [hl];exact ho.place id b (hso id hs) hbb⟩ (ha.le _ _ _ hr)).mono ?_
 ·obtain⟨b,q1,q2⟩:=hback id b' hb'
  exact q2.holds (ho.holds id b q1)
 ·rintro e W' ⟨v,r,bs,μ',ν',he,hp,hrel,hri,hA⟩
  refine⟨v,r,bs,μ',ν',he,hp,hrel,hri,⟨hl▸hA.len,hA.le,by rw [←hl];exact hA.new,hA.mem,by rw [←hl];exact hA.own,by rw [←hl];exact hA.kind.trans hkind,hA.wf,fun id blk hb' hrow=> ?_,by rw [←hl];exact hA.frm⟩⟩
  obtain⟨b',q1,q2⟩:=hb id blk hb'
  exact hA.same id b' q1 (by rw [q2.isRow];exact hrow)
theorem qW {P:Program} {f:FuncId} {args args':List SV} {bl bl':List Blk} {X:List Blk→Prop} {n:Nat} {K:SV→List Blk→Prop} {R:SV} {B:List Blk}(h:K R B)(hF:uaU P f args' bl' fun r bs=>r=R∧bs=B)(ha:Fit (.tup args) (.tup args'))(hb:FitS bl bl')(hl:Nat.ble B.length n=true:=by rfl):
 ∃post:SV→List Blk→Prop,uaU P f args bl post∧∀r bs,post r bs→(∀_:Unit,X bs)→(∀_:Unit,bs.length≤n)∧K r bs:=
 ⟨fun r bs=>r=R∧bs=B,hF.preB ha hb,fun r bs ⟨h1,h2⟩ _=>⟨fun _=>by rw [h2];exact Nat.le_of_ble_eq_true hl,by rw [h1,h2];exact h⟩⟩
theorem uaU.is {P:Program} {f:FuncId} {args:List SV} {bl:List Blk} {R:SV} {B:List Blk}(hR:subset R.ids (List.range B.length)=true)(hB:subset (ubr B) (List.range B.length)=true)(h:∀R' B',R'=R→B'=B→uaU P f args bl fun r bs=>Fit r R'∧FitS bs B'):uaU P f args bl fun r bs=>r=R∧bs=B:=by
 have h:=h R B rfl rfl
 refine⟨h.1,fun μ ν W vs hm ho hr=>(h.2 μ ν W vs hm ho hr).mono ?_⟩
 rintro e W' ⟨v,r,bs,μ',ν',he,⟨hf,hb⟩,hrel,hri,hA⟩
 obtain⟨hl,hb⟩:=hb.h.spec
 have hback:∀(j:Nat) (b':Blk),B[j]? =some b'→∃b,bs[j]? =some b∧BLe b b':=fun j b' hj=>by
  have hlt:j<bs.length:=by have:=(List.getElem?_eq_some_iff.1 hj).1;omega
  obtain⟨b2,q1,q2⟩:=hb j _ (List.getElem?_eq_getElem hlt)
  rw [hj]at q1
  exact⟨_,List.getElem?_eq_getElem hlt,by rw [Option.some.inj q1];exact q2⟩
 have hso:∀id,(B[id]?).isSome=true→(bs[id]?).isSome=true:=fun id hs=>by
  obtain⟨b',hb'⟩:=Option.isSome_iff_exists.1 hs
  obtain⟨b,q,_⟩:=hback id b' hb'
  exact ua2 q
 have hkind:B.map Blk.isRow=bs.map Blk.isRow:=by
  apply List.ext_getElem?
  intro j
  rw [List.getElem?_map,List.getElem?_map]
  cases hj:bs[j]? with
  |none=>rw [List.getElem?_eq_none (by have:=List.getElem?_eq_none_iff.1 hj;omega)]
  | some b=>
   obtain⟨b',q1,q2⟩:=hb j b hj
   rw [q1]
   simp [q2.isRow]
 refine⟨v,R,B,μ',ν',he,⟨rfl,rfl⟩,hf.le _ _ _ hrel,fun id hid=>List.mem_range.1 (uaA hR id hid),⟨hl▸hA.len,hA.le,hA.new,hA.mem,⟨fun id b' hb'=> ?_,fun id id' b hs hs'=>hA.own.inj id id' b (hso id hs) (hso id' hs'),fun id b hs=>hA.own.out id b (hso id hs),fun id b hs=>hA.own.place id b (hso id hs)⟩,
  by rw [List.map_take,hkind,←List.map_take];exact hA.kind,fun j blk hj i hi=> ?_,hA.same,hA.frm⟩⟩
 ·obtain⟨b,q1,q2⟩:=hback id b' hb'
  exact q2.holds (hA.own.holds id b q1)
 ·exact List.mem_range.1 (uaA hB i (ucv (List.mem_of_getElem? hj) hi))
theorem ua0.isB {P:Program} {f:FuncId} {args:List SV} {bl:List Blk} {R:SV} {B:List Blk}(hB:subset (ubr B) (List.range bl.length)=true)(h:∀R' B',R'=R→B'=B→ua0 P f args bl fun r bs=>Fit r R'∧FitS bs B'):ua0 P f args bl fun r bs=>r=R∧bs=B:=by
 have h:=h R B rfl rfl
 refine⟨h.1,fun μ ν W vs hm ho hr=>(h.2 μ ν W vs hm ho hr).mono ?_⟩
 rintro e W' ⟨v,r,bs,μ',ν',he,⟨hf,hb⟩,hrel,hA⟩
 obtain⟨hl,hb⟩:=hb.h.spec
 have hback:∀(j:Nat) (b':Blk),B[j]? =some b'→∃b,bs[j]? =some b∧BLe b b':=fun j b' hj=>by
  have hlt:j<bs.length:=by have:=(List.getElem?_eq_some_iff.1 hj).1;omega
  obtain⟨b2,q1,q2⟩:=hb j _ (List.getElem?_eq_getElem hlt)
  rw [hj]at q1
  exact⟨_,List.getElem?_eq_getElem hlt,by rw [Option.some.inj q1];exact q2⟩
 have hso:∀id,(B[id]?).isSome=true→(bs[id]?).isSome=true:=fun id hs=>by
  obtain⟨b',hb'⟩:=Option.isSome_iff_exists.1 hs
  obtain⟨b,q,_⟩:=hback id b' hb'
  exact ua2 q
 have hkind:B.map Blk.isRow=bs.map Blk.isRow:=by
  apply List.ext_getElem?
  intro j
  rw [List.getElem?_map,List.getElem?_map]
  cases hj:bs[j]? with
  |none=>rw [List.getElem?_eq_none (by have:=List.getElem?_eq_none_iff.1 hj;omega)]
  | some b=>
   obtain⟨b',q1,q2⟩:=hb j b hj
   rw [q1]
   simp [q2.isRow]
 refine⟨v,R,B,μ',ν',he,⟨rfl,rfl⟩,hf.le _ _ _ hrel,⟨hl.trans hA.len,hA.le,hA.new,hA.mem,⟨fun id b' hb'=> ?_,fun id id' b hs hs'=>hA.own.inj id id' b (hso id hs) (hso id' hs'),fun id b hs=>hA.own.out id b (hso id hs),fun id b hs=>hA.own.place id b (hso id hs)⟩,
  hkind.trans hA.kind,fun j blk hj i hi=> ?_,hA.same,hA.frm⟩⟩
 ·obtain⟨b,q1,q2⟩:=hback id b' hb'
  exact q2.holds (hA.own.holds id b q1)
 ·exact List.mem_range.1 (uaA hB i (ucv (List.mem_of_getElem? hj) hi))
def zi (n:Nat):Int:=n
theorem uaw (n:Nat):zi n=(n:Int):=rfl
theorem qX (n:Nat): @NatCast.natCast Int instNatCastInt n=zi n:=rfl
theorem ugt (f:Unit→Int):(IX.sym f).den=f ():=rfl
theorem den_lit (n:Int):(IX.lit n).den=n:=rfl
theorem qO {n:Int}(h: -9223372036854775808≤n∧n≤9223372036854775807):uap (inR .i64 n):=h
theorem qN {a b:SV}(h:Fit a b):uap (Le a b):=h.le
theorem qL {a b:Blk}(h:FitK a b):uap (BLe a b):=h.h
theorem zA (f:Unit→Int):(IX.sym f).den=f ():=rfl
theorem zB (n:Int):(IX.lit n).den=n:=rfl
theorem zC (f:Unit→Bool):(BX.sym f).den=f ():=rfl
theorem zD (b:Bool):(BX.lit b).den=b:=rfl
theorem zE (x y:Int):upG x y=x+y:=rfl
theorem zF (x y:Int):utt x y=x-y:=rfl
theorem zG (x y:Int):uuI x y=x*y:=rfl
theorem zH (x y:Int):eqB x y=decide (x=y):=rfl
theorem zI (x y:Int):neB x y = !decide (x=y):=rfl
theorem zJ (x y:Int):ltB x y=decide (x<y):=rfl
theorem zK (x y:Int):leB x y=decide (x≤y):=rfl
theorem zL (x y:Int):gtB x y=decide (y<x):=rfl
theorem zM (x y:Int):geB x y=decide (y≤x):=rfl
theorem zN :(!true)=false:=rfl
theorem zO :(!false)=true:=rfl
theorem zP :(∀(p:Prop) [Decidable p],(decide p=true)=p)∧(∀(p:Prop) [Decidable p],(decide p=false)↔¬p)∧(∀b:Bool,((!b)=true)=(b=false))∧(∀b:Bool,((!b)=false)=(b=true)):=
 ⟨fun _ _=>decide_eq_true_eq,fun _ _=>decide_eq_false_iff_not,fun b=>by cases b<;>simp,fun b=>by cases b<;>simp⟩
theorem zQ (n:Nat):zi n=(n:Int):=rfl
theorem zR (n:Nat):(n:Int).toNat=n:=rfl
theorem zS (n:Nat):((n:Int)+1).toNat=n+1:=rfl
section
variable {P:Program} {f:FuncId} {args args':List SV}
theorem ua0.pre {post:SV→List Blk→Prop}(h:ua0 P f args' [] post)(ha:Fit (.tup args) (.tup args')):ua0 P f args [] post:=
 ⟨h.1,fun μ ν W vs hm ho hr=>h.2 μ ν W vs hm ho (ha.le _ _ _ hr)⟩
theorem ua0.post {bor:List Blk} {post post':SV→List Blk→Prop}(h:ua0 P f args bor post)(hp:∀r bs,post r bs→∃r',Fit r r'∧post' r' bs):ua0 P f args bor post':=
 ⟨h.1,fun μ ν W vs hm ho hr=>(h.2 μ ν W vs hm ho hr).mono fun e W' ⟨v,r,bs,μ',ν',he,hpo,hrel,hA⟩=>
  let ⟨r',hf,hp'⟩:=hp r bs hpo
  ⟨v,r',bs,μ',ν',he,hp',hf.le _ _ _ hrel,hA⟩⟩
theorem ua0.one {R:SV}(h:ua0 P f args [] fun r _=>Fit r R):ua0 P f args [] fun r _=>r=R:=h.post fun r _ hr=>⟨R,hr,rfl⟩
theorem ua0.is {R:SV}(h:∀R',R'=R→ua0 P f args [] fun r _=>Fit r R'):ua0 P f args [] fun r _=>r=R:=(h R rfl).one
theorem ua0.some {Rs:SV→Prop}(h:ua0 P f args [] fun r _=>∃R,Fit r R∧Rs R):ua0 P f args [] fun r _=>Rs r:=h.post fun r _ ⟨R,hf,hr⟩=>⟨R,hf,hr⟩
theorem qY {T:uar} {sc:SC}(hT:uc5 P T)(hmix:P.follows .mixedOrders=true) {fn:Func} {c:Code}(hf:P.funcs[f]? =some fn)(hb:fn.body=some c)(hent:∀args w,(callFunc f args).run P w = .ok (.enter f args) w)
 (hok:ud7 fn.ntmps sc c=true) {bor:List Blk} {post:SV→List Blk→Prop} (hlen:Nat.ble args.length fn.ntmps=true) (h:vcF T P sc fn c args bor post):ua0 P f args bor post:=
 ujQ hT hmix hf hb hent (uhA hok) (Nat.le_of_ble_eq_true hlen) h
theorem ud3 {T:uar} {sc:SC}(hT:uc5 P T)(hmix:P.follows .mixedOrders=true) {fn:Func} {c:Code}(hf:P.funcs[f]? =some fn)(hb:fn.body=some c)(hent:∀args w,(callFunc f args).run P w = .ok (.enter f args) w)
 (hok:ud7 fn.ntmps sc c=true) {bor:List Blk} {post:SV→List Blk→Prop} (hlen:Nat.ble args.length fn.ntmps=true) (h:uxL T P sc fn c args bor post):uaU P f args bor post:=
 uja hT hmix hf hb hent (uhA hok) (Nat.le_of_ble_eq_true hlen) h
end
end Go.Eng

namespace Go.Eng
open Go
inductive Gh where
 |atg (f:Unit→Nat)
 |stop
def GEq (g g':Gh):Prop:=match g,g' with
 | .atg f,.atg f'=>f ()=f' ()
 | .stop,.stop=>True
 |_,_=>False
def umv (ge:Nat→SV)(o:Oper):Option (Nat×List SV):=match o.op with
 | .call c=>match c.callee with
  | .value f=>match ge' f with
   | .val (.func (.yield l) ⟨[]⟩ ⟨[]⟩)=>some (l,evs ge c.args.toList)
   |_=>none
  |_=>none
 |_=>none
 where ge':Operand→SV
 | .tmp t=>ge t
 |_=>.any
def uey :List SE→List SE×Option (SE×List SE)
 |[]=>([],none)
 | e ::l=>match Nat.beq e.k 5 with
  |true=>([],some (e,l))
  | false=>match uey l with
   |(a,r)=>(e::a,r)
def uig (pre:List Nat):List SE→Option Bool
 |[]=>none
 | e ::l=>match Nat.beq e.k 5 with
  | true=>match pre.all (ud1 e.pre)&&l.all (fun e'=>ud1 e'.pre e.i&&pre.all (ud1 e'.pre)),uig [] l with
   |true,some b=>some b
   |true,none=>some true
   |false,_=>some false
  |false=>uig (e.i::pre) l
section defs
variable (T:uar) (P:Program) (sc:SC) (kp:List Nat) (l:Nat) (L:Nat) (el:Nat→List SV)
def umb (o:Oper)(nid:Nat)(g:Gh)(s:LS)(K:Gh→LS→Prop):Prop:=match umv (ubO s) o with
 |none=>opT T P o nid (ubO s) (lk s.H) true (fun u=>K g (ub4 s o.dst u))
 | some (l',args)=>match g,SV.idsL args with
  | .atg f,[]=>(∀_:Unit,l'=l∧f ()<L∧Le (.tup args) (.tup (el (f ())))) ∧
   K (.atg fun _=>f ()+1) ⟨ude s.env o.dst (.bool (.lit true)),s.H,s.nxt⟩∧K .stop ⟨ude s.env o.dst (.bool (.lit false)),s.H,s.nxt⟩
  |_,_=>False
def ueg (ops:List Oper)(o:Oper)(nid:Nat)(g:Gh)(s:LS)(K:Gh→LS→Prop):Prop:=
 match ukK ops o (ubO s)with
 | .yes=>umb T P l L el o nid g s K
 | .no=>K g ⟨ude s.env o.dst (.tup []),s.H,s.nxt⟩
 | .ask dj f w=>
  (∀_:f ()=w,umb T P l L el o nid g ⟨ude s.env (some dj) (.bool (.lit w)),s.H,s.nxt⟩ K) ∧
  (∀_:f () = !w,K g ⟨ude (ude s.env (some dj) (.bool (.lit (!w)))) o.dst (.tup []),s.H,s.nxt⟩)
 | .bad=>False
def uvu (ops:List Oper):List Oper→Nat→Gh→LS→(Gh→LS→Prop)→Prop
 |[],nid,g,s,K=>K g ⟨s.env,s.H,nid⟩
 |o::rest,nid,g,s,K=>ueg T P l L el ops o nid g s (fun g' s'=>uvu ops rest (nid+1) g' s' K)
def ukg (step:Gh→LS→(Exit→Gh→LS→Prop)→Prop):Nat→Gh→LS→(Exit→Gh→LS→Prop)→Prop
 |0,_,_,_=>False
 | n+1,g,s,Q=>step g s (fun e g' s'=>match e with
  | .normal=>ukg step n g' s' Q
  |e=>Q e g' s')
def ueq (ops:List Oper)(N:Nat):Nat→List SE→Gh→LS→(Gh→LS→Prop)→Prop
 |0,_,_,_,_=>False
 | n +1,sl,g,s,K=>match uey sl with
  |(seg,none)=>udy T P ops N seg s (fun s'=>K g s')
  | (seg,some (y,rest))=>udy T P ops N seg s (fun s'=>match nth ops y.i with
   |some o=>ueg T P l L el ops o s'.nxt g s' (fun g' s2=>ueq ops N n rest g' ⟨s2.env,s2.H,s'.nxt+1⟩ K)
   |none=>False)
def vcY :Code→Gh→LS→(Exit→Gh→LS→Prop)→Prop
 | .skip,g,s,Q=>Q .normal g s
 | .region id ops draw,g,s,Q=>match draw with
  |false=>uvu T P l L el ops.toList ops.toList s.nxt g s (fun g' s'=>Q .normal g' s')
  | true=>match lk sc id with
   | some sl=>match uig [] sl with
    |none=>uiD T P ops.toList ops.toList.length sl s (fun s'=>Q .normal g s')
    |some true=>ueq T P l L el ops.toList ops.toList.length (sl.length+1) (sl.map (SE.setX none none)) g s (fun g' s'=>Q .normal g' s')
    |some false=>False
   |none=>False
 | .seq a b,g,s,Q=>vcY a g s (fun e g' s'=>match e with
  | .normal=>vcY b g' s' Q
  |e=>Q e g' s')
 | .cond c a b,g,s,Q=>match ev (ubO s) c with
  | .bool (.lit true)=>vcY a g s Q
  | .bool (.lit false)=>vcY b g s Q
  | .bool (.sym f)=>(∀_:f ()=true,vcY a g s Q)∧(∀_:f ()=false,vcY b g s Q)
  |_=>False
 | .block id c,g,s,Q=>vcY c g s (fun e g' s'=>match e with
  | .exit j=>match Nat.beq j id with
   |true=>Q .normal g' s'
   |false=>Q (.exit j) g' s'
  |e=>Q e g' s')
 | .loop c,g,s,Q=>∃un:Option Nat,match un with
  |some n=>ukg (vcY c) n g s Q
  |none=>∃(seeds:List Seed) (σ:Type) (G:σ→Gh) (I:σ→LS) (m:σ→Nat),(match ucx seeds s with
   |some s0=>∃x,(∀_:Unit,GEq g (G x))∧Ent kp s0 (I x)
   |none=>False)∧∀x,vcY c (G x) (I x) (fun e g' s'=>match e with
   | .normal=>∃y,m y<m x∧(∀_:Unit,GEq g' (G y))∧Ent kp s' (I y)
   |e=>Q e g' s')
 | .exit id,g,s,Q=>Q (.exit id) g s
 | .ret,g,s,Q=>Q .ret g s
 | .label _,g,s,Q=>Q .normal g s
 |_,_,_,_=>False
def upS (g:Gh):Prop:=match g with
 | .atg f=>∀_:Unit,f ()=L
 | .stop=>True
def vcI (fn:Func)(c:Code)(caps:List SV):Prop:=
 SV.idsL caps=[]∧fn.results.toList=[]∧(∀i,ubf (.tup (el i))=true)∧vcY T P sc [] l L el c (.atg fun _=>0) ⟨ufN 0 (.val (.func (.yield l) ⟨[]⟩ ⟨[]⟩)::caps),[],0⟩ (fun e g _=>match e with
  | .normal=>upS L g
  | .ret=>upS L g
  |_=>False)
end defs
section
variable {P:Program} {T:uar} {R0:Bor} {N:Nat} {μ μ':Mem} {ν ν':Vl} {a a':Act} {W W' W0:World} {K:Nat→Prop}
variable {F:Fence} {n:Nat} {sc:SC} {kp:List Nat} {l L:Nat} {el:Nat→List SV} {J:Nat→(Nat→Prop)→World→Prop} {Jx:(Nat→Prop)→World→Prop}
def Bas (J:Nat→(Nat→Prop)→World→Prop)(Jx:(Nat→Prop)→World→Prop)(g:Gh)(W:World)(K:Nat→Prop):Prop:=(∀b,K b→b<W.heap.size)∧match g with
 | .atg f=>J (f ()) K W
 | .stop=>Jx K W
theorem Bas.eq {g g':Gh}(h:Bas J Jx g W K)(e:GEq g g'):Bas J Jx g' W K:=by
 cases g with
 | atg f=>
  cases g' with
  | atg f'=>
   have e':f ()=f' ():=e
   refine⟨h.1,?_⟩
   show J (f' ()) K W
   rw [←e'];exact h.2
  |stop=>exact False.elim e
 | stop=>
  cases g' with
  |atg f'=>exact False.elim e
  |stop=>exact h
def ucF (K:Nat→Prop)(R0:Bor)(b:Nat):Prop:=K b∨uaz R0.mu b
def usR (J:Nat→(Nat→Prop)→World→Prop)(Jx:(Nat→Prop)→World→Prop)(R0:Bor)(N:Nat)(Qs:Exit→Gh→LS→Prop)(Q:Exit→Act→World→Prop):Prop:=
 ∀e g s μ ν a W W0 K,Qs e g s→s.Fresh→Bas J Jx g W0 K→Sat W0 (ucF K R0) R0 N [] s.fs μ ν a W→Q e a W
def upb (F:Fence)(n:Nat)(P:Program)(T:uar)(R0:Bor)(N:Nat)(sc:SC)(kp:List Nat)(l L:Nat)(el:Nat→List SV)(J:Nat→(Nat→Prop)→World→Prop)(Jx:(Nat→Prop)→World→Prop)(c:Code):Prop:=
 ∀g s Qs Q μ ν a W W0 K,vcY T P sc kp l L el c g s Qs→s.Fresh→Bas J Jx g W0 K→Sat W0 (ucF K R0) R0 N [] s.fs μ ν a W→usR J Jx R0 N Qs Q→c.wpIn F n P Q a W
structure Given (F:Fence)(n:Nat)(P:Program)(l L:Nat)(el:Nat→List SV)(μ0:Mem)(J:Nat→(Nat→Prop)→World→Prop)(Jx:(Nat→Prop)→World→Prop):Prop where
 ext:∀i K W1 W2,J i K W1→Frm (fun b=>K b∨uaz μ0 b) W1 W2→ubR μ0 W2→(∀b,K b→b<W1.heap.size)→J i (fun b=>K b∨(W1.heap.size≤b∧b<W2.heap.size)) W2
 extx:∀K W1 W2,Jx K W1→Frm (fun b=>K b∨uaz μ0 b) W1 W2→ubR μ0 W2→(∀b,K b→b<W1.heap.size)→Jx (fun b=>K b∨(W1.heap.size≤b∧b<W2.heap.size)) W2
 plain:∀i,ubf (.tup (el i))=true
 round:∀i x K W1,i<L→Rel μ0 Vl.nil (.tup (el i)) (.tuple x)→J i K W1 →
  YieldAt F n P l x W1 fun e W2=>Kept μ0 K W1 W2∧((e = .returned (.bool true)∧J (i+1) K W2)∨(e = .returned (.bool false)∧Jx K W2))
theorem Bas.ext (hG:Given F n P l L el μ J Jx) {g:Gh}(h:Bas J Jx g W0 K)(hf:Frm (fun b=>K b∨uaz μ b) W0 W)(hm:ubR μ W):Bas J Jx g W (fun b=>K b∨(W0.heap.size≤b∧b<W.heap.size)):=by
 have hs:=hf.size
 cases g with
 |atg f=>exact⟨fun b hb=>hb.elim (fun q=>by have:=h.1 b q;omega) (fun q=>q.2),hG.ext _ _ _ _ h.2 hf hm h.1⟩
 |stop=>exact⟨fun b hb=>hb.elim (fun q=>by have:=h.1 b q;omega) (fun q=>q.2),hG.extx _ _ _ h.2 hf hm h.1⟩
theorem Sat.moved {t:Sta}(h:Sat W0 (ucF K R0) R0 N [] t μ ν a W)(hk:Kept R0.mu (fun b=>K b∨(W0.heap.size≤b∧b<W.heap.size)) W W'):Sat W' (ucF (fun b=>K b∨(W0.heap.size≤b∧b<W.heap.size)) R0) R0 N [] t μ ν a W':=by
 have hown:∀id b,(t.H id).isSome=true→ν.b id=some b→(K b∨(W0.heap.size≤b∧b<W.heap.size)):=fun id b hs hb=>by
  rcases h.place0 hs hb with q|q
  ·exact .inr ⟨q,h.ms.own.lt hs hb⟩
  ·exact .inl q
 refine⟨h.size,h.defers,h.env,h.wf,⟨fun b c hb=> ?_,⟨fun id blk hb=>(h.ms.own.holds id blk hb).mono (fun _ _ h=>h) (fun _ _=>⟨rfl,rfl⟩) (fun b hb'=>hk.kept b (hown id b (ua2 hb) hb')),h.ms.own.inj,h.ms.own.out,fun id b hs hb=>.inr (.inl (hown id b hs hb))⟩,ufW _ _,h.ms.wf⟩,
  ⟨h.mle.le,fun b c hc=> ?_⟩,h.bor,fun b hb=>.inr hb⟩
 ·have h1:=h.ms.mem b c hb
  rcases h.new0 hb with q|q|q
  ·exact hk.mem b c q
  ·exact h1.same (hk.kept b (.inr ⟨q,h1.lt⟩))
  ·exact h1.same (hk.kept b (.inl q))
 ·rcases h.new0 hc with q|q|q
  ·exact .inl q
  ·exact .inr (.inr (.inl (.inr ⟨q,h.ms.mem.lt hc⟩)))
  ·exact .inr (.inr (.inl (.inl q)))
theorem umj {B0:Nat→Prop} {t:Sta}(h:Sat W0 B0 R0 N [] t μ ν a W) {o:Oper} {l':Nat} {args:List SV}(hy:umv t.E o=some (l',args)):
 (o.semAt F.round a.eval)=execOp a.eval o∧∃vs:List Value,Rel μ ν (.tup args) (.tuple ⟨vs⟩)∧(execOp a.eval o).run P W=(Instr.yield l' ⟨vs⟩).run P W:=by
 obtain⟨dst,op,ty,pos,aft,gd⟩:=o
 unfold umv at hy
 simp only at hy
 split at hy
 ·rename_i c
  split at hy
  ·rename_i f hc
   split at hy
   ·rename_i l'' hf
    simp only [Option.some.injEq,Prod.mk.injEq]at hy
    obtain⟨rfl,rfl⟩:=hy
    have hev:a.eval f = .func (.yield l'') ⟨[]⟩ ⟨[]⟩:=by
     cases f with
     | tmp k=>
      simp only [umv.ge']at hf
      have:=uad h (.tmp k)
      simp only [ev]at this
      rw [hf]at this
      exact(ucY this).1
     |_=>simp [umv.ge']at hf
    obtain⟨hr,_⟩:=ufp h c.args.toList
    refine⟨Oper.semAt_eq _ _ _ (fun c' e=>(by cases e)),_,hr,?_⟩
    simp only [execOp,resolve,hc,hev,Deferred.ofValue,Sem.run_bind,Sem.run_pure,Result.andThen_ok,invoke]
    congr 2
    apply Array.ext'
    simp
   ·cases hy
  ·cases hy
 ·cases hy
theorem usT {n m:Nat}(hF:FenceOk F P) {l:Nat} {f:FuncId} {tmps:Array Value} {assign body:Code} {w:World} {R:Ending→World→Prop}(h:RoundIn F n P l f tmps assign body w R):RoundIn F m P l f tmps assign body w R:=
 ⟨h.1,fun c cs _=>h.2 c cs (by simp [Fence.room,hF.depth])⟩
section seq
variable {ops:Array Oper} {Kc:Gh→LS→Prop} {Q:Exit→Act→World→Prop}
theorem uqH (hF:FenceOk F P)(hG:Given F n P l L el R0.mu J Jx) {K':Act→World→Prop} {t:Sta}(h:Sat W0 (ucF K R0) R0 N [] t μ ν a W) {i:Nat} {o:Oper}(ho:ops[i]? =some o)(hw:Region.wanted o (yielded ops a.tmps)=true)
 {args:List SV} (hy:umv t.E o=some (l,args)) {f:Unit→Nat} (hb:Bas J Jx (.atg f) W0 K) (hL:f ()<L) (hle:Le (.tup args) (.tup (el (f ()))))
 (hn:∀(b:Bool) W' K1,Bas J Jx (if b then .atg fun _=>f ()+1 else .stop) W' K1→Sat W' (ucF K1 R0) R0 N [] t μ ν a W'→K' (a.put o.dst (.bool b)) W'):wpOpIn F n P ops Q i K' a W:=by
 unfold wpOpIn
 simp only [ho,hw,if_true]
 refine⟨fun f _=>hF.fn f,?_⟩
 obtain⟨hs,vs,hr,hrun⟩:=umj (F:=F) (P:=P) h hy
 rw [hs,hrun]
 have hr':Rel R0.mu Vl.nil (.tup (el (f ()))) (.tuple ⟨vs⟩):=ukO (hle _ _ _ hr) (hG.plain _)
 have hb1:=hb.ext hG h.ms.frm (fun b c hc=>h.ms.mem b c (h.mle.le b c hc))
 obtain⟨fn,tmps,assign,body,hyr,hround⟩:=hG.round (f ()) ⟨vs⟩ _ W hL hr' hb1.2
 rw [hyr,Oper.uponIn_round]
 refine⟨fun hd=>(by rw [hF.depth]at hd;cases hd),(usT hF hround).mono ?_⟩
 rintro e W' ⟨hk,(⟨rfl,hj⟩|⟨rfl,hj⟩)⟩
 ·refine hn true W' _ ⟨fun b hb=> ?_,hj⟩ (h.moved hk)
  have:=hb1.1 b hb
  have:=hk.size
  omega
 ·refine hn false W' _ ⟨fun b hb=> ?_,hj⟩ (h.moved hk)
  have:=hb1.1 b hb
  have:=hk.size
  omega
theorem ugc (hF:FenceOk F P)(hT:uc5 P T)(hG:Given F n P l L el R0.mu J Jx) {K':Act→World→Prop} {s:LS} {g:Gh}(hb:Bas J Jx g W0 K)(h:Sat W0 (ucF K R0) R0 N [] s.fs μ ν a W) {i nid:Nat} {o:Oper}(hd:∀k,o.dst=some k→k<N)(ho:ops[i]? =some o)
 (hfree:∀id,nid≤id→lk s.H id=none) (hw:Region.wanted o (yielded ops a.tmps)=true) (hst:umb T P l L el o nid g s Kc)
 (hn:∀g' s' μ' ν' v W' W0' K1,Kc g' s'→(∀id,nid+1≤id→lk s'.H id=none)→Bas J Jx g' W0' K1→Sat W0' (ucF K1 R0) R0 N [] s'.fs μ' ν' (a.put o.dst v) W'→K' (a.put o.dst v) W'):wpOpIn F n P ops Q i K' a W:=by
 unfold umb at hst
 split at hst
 ·refine uiP hF hT h ho (hfree nid (Nat.le_refl _)) hw hst fun u μ' ν' v W' hk hgood hU=> ?_
  have hS2:=uc7 h hU hd
  rw [←uaD]at hS2
  refine hn g _ μ' ν' v W' W0 K hk (fun id hid=> ?_) hb hS2
  have:(s.fs.upd o.dst u).H id=none:=ue4 hgood (fun _ _ h=>h) (by omega) (hfree id (by omega))
  rw [←uaD]at this
  exact this
 ·rename_i l' args hy
  split at hst
  ·rename_i f hids
   obtain⟨hob,h1,h2⟩:=hst
   obtain⟨rfl,hL,hle⟩:=hob ()
   refine uqH hF hG h ho hw hy hb hL hle fun b W' K1 hb' hS'=> ?_
   have hput:∀x:Bool,Sat W' (ucF K1 R0) R0 N [] (⟨ude s.env o.dst (.bool (.lit x)),s.H,s.nxt⟩:LS).fs μ ν (a.put o.dst (.bool x)) W':=fun x=>by
    have hU:UpdOk W' (ucF K1 R0) s.fs (ua5 (.bool (.lit x))) μ ν μ ν (.bool x) W':=ubT hS'.ms (.bool ν (.lit x)) (by simp [SV.ids])
    have hS2:=uc7 hS' hU hd
    rw [←uaD]at hS2
    exact hS2
   cases b with
   |true=>exact hn _ _ μ ν _ W' W' K1 h1 (fun id hid=>hfree id (by omega)) hb' (hput true)
   |false=>exact hn _ _ μ ν _ W' W' K1 h2 (fun id hid=>hfree id (by omega)) hb' (hput false)
  ·exact hst.elim
theorem uek (hF:FenceOk F P)(hT:uc5 P T)(hG:Given F n P l L el R0.mu J Jx) {K':Act→World→Prop} {s:LS} {g:Gh}(hb:Bas J Jx g W0 K)(hS:Sat W0 (ucF K R0) R0 N [] s.fs μ ν a W) {i nid:Nat} {o:Oper}(hd:∀k,o.dst=some k→k<N)(ho:ops[i]? =some o)
 (hfree:∀id,nid≤id→lk s.H id=none) (hrun:ueg T P l L el ops.toList o nid g s Kc)
 (next:∀g' s' μ' ν' v W' W0' K1,Kc g' s'→(∀id,nid+1≤id→lk s'.H id=none)→Bas J Jx g' W0' K1→Sat W0' (ucF K1 R0) R0 N [] s'.fs μ' ν' (a.put o.dst v) W'→K' (a.put o.dst v) W'):wpOpIn F n P ops Q i K' a W:=by
 simp only [ueg]at hrun
 have hg:=ufl (ops:=ops) hS o
 have skip:∀(s1:LS),(∀id,nid≤id→lk s1.H id=none)→Sat W0 (ucF K R0) R0 N [] s1.fs μ ν a W→Kc g ⟨ude s1.env o.dst (.tup []),s1.H,s1.nxt⟩→K' (a.put o.dst undef) W:=fun s1 hf1 hS1 hk=>by
  have hU:UpdOk W0 (ucF K R0) s1.fs (ua5 (.tup [])) μ ν μ ν undef W:=ubT hS1.ms udG (by simp [SV.ids,SV.idsL])
  have hS2:=uc7 hS1 hU hd
  rw [←uaD]at hS2
  exact next g _ μ ν undef W W0 K hk (fun id hid=>hf1 id (by omega)) hb hS2
 have lit:∀dj f w,ubO s dj = .bool (.sym f)→f ()=w→Sat W0 (ucF K R0) R0 N [] (⟨ude s.env (some dj) (.bool (.lit w)),s.H,s.nxt⟩:LS).fs μ ν a W:=fun dj f w he hf=>by
  have:=hS.put dj (x:=.bool (.lit w)) (by
   have:=hS.env dj
   rw [show s.fs.E dj = .bool (.sym f)from he]at this
   rw [ubm this]
   simp only [BX.den,hf]
   exact .bool ν (.lit w)) (by simp [SV.ids])
  have e:(⟨ude s.env (some dj) (.bool (.lit w)),s.H,s.nxt⟩:LS).fs=⟨uc0 s.fs.E (some dj) (.bool (.lit w)),s.fs.H,s.fs.nxt⟩:=by
   simp only [LS.fs]
   congr 1
   exact ucz s s.env (some dj) _ _ _
  rw [e];exact this
 have hE:s.fs.E=ubO s:=rfl
 rw [hE]at hg
 split at hrun
 ·rename_i e
  rw [e]at hg
  exact ugc hF hT hG hb hS hd ho hfree hg hrun next
 ·rename_i e
  rw [e]at hg
  exact ulB hF ho hg (skip s hfree hS hrun)
 ·rename_i dj f w e
  rw [e]at hg
  by_cases hf:f ()=w
  ·have hSl:=lit dj f w hg.1 hf
   exact ugc (s:=⟨ude s.env (some dj) (.bool (.lit w)),s.H,s.nxt⟩) hF hT hG hb hSl hd ho hfree (by rw [hg.2,hf];simp) (hrun.1 hf) next
  ·have hf':f () = !w:=by cases h:f ()<;>cases w<;>simp_all
   have hSl:=lit dj f (!w) hg.1 hf'
   exact ulB hF ho (by rw [hg.2,hf'];cases w<;>rfl) (skip ⟨ude s.env (some dj) (.bool (.lit (!w))),s.H,s.nxt⟩ hfree hSl (hrun.2 hf'))
 ·exact hrun.elim
theorem umH (hF:FenceOk F P)(hT:uc5 P T)(hG:Given F n P l L el R0.mu J Jx)(hdst:ues N ops.toList=true)
 (hQ:∀g' s' μ' ν' a' W' W0' K1,Kc g' s'→s'.Fresh→Bas J Jx g' W0' K1→Sat W0' (ucF K1 R0) R0 N [] s'.fs μ' ν' a' W'→Q .normal a' W'):
 ∀ (ol:List Oper) (i nid:Nat) (g:Gh) (s:LS) (μ:Mem) (ν:Vl) (a:Act) (W W0:World) (K:Nat→Prop),ops.toList.drop i=ol→(∀id,nid≤id→lk s.H id=none)→Bas J Jx g W0 K→Sat W0 (ucF K R0) R0 N [] s.fs μ ν a W→uvu T P l L el ops.toList ol nid g s Kc →
  wpOpsIn F n P ops Q (List.range' i ol.length) a W:=by
 intro ol
 induction ol with
 | nil=>
  intro i nid g s μ ν a W W0 K _ hfree hb hS hrun
  exact hQ _ _ μ ν a W W0 K hrun (fun id hid=>hfree id hid) hb ⟨hS.size,hS.defers,hS.env,hS.wf,hS.ms,hS.mle,hS.bor,hS.mm⟩
 | cons o ol ih=>
  intro i nid g s μ ν a W W0 K hdrop hfree hb hS hrun
  have ho:ops[i]? =some o:=by
   have:=congrArg (fun l=>l[0]?) hdrop
   simpa using this
  have hdrop':ops.toList.drop (i+1)=ol:=by
   have:=congrArg (List.drop 1) hdrop
   simpa [List.drop_drop,Nat.add_comm]using this
  have hd:∀k,o.dst=some k→k<N:=ud8 hdst o (by
   have:=Array.mem_of_getElem? ho
   simpa using this)
  rw [List.length_cons,List.range'_succ,wpOpsIn_cons]
  simp only [uvu]at hrun
  exact uek hF hT hG hb hS hd ho hfree hrun fun g' s' μ' ν' v W' W0' K1 hk hf hb' hS'=>ih (i+1) (nid+1) g' s' μ' ν' _ W' W0' K1 hdrop' hf hb' hS' hk
theorem uel :∀{sl seg:List SE} {r:Option (SE×List SE)},uey sl=(seg,r)→match r with
 |none=>sl=seg
 |some (y,rest)=>sl=seg++y::rest:=by
 intro sl
 induction sl with
 |nil=>intro seg r h;cases h;rfl
 | cons e sl ih=>
  intro seg r h
  simp only [uey]at h
  split at h
  ·cases h;rfl
  ·cases hq:uey sl with
   | mk a r'=>
    rw [hq]at h
    cases h
    have:=ih hq
    cases r' with
    |none=>simp only at this⊢;rw [this]
    |some p=>simp only at this⊢;rw [this];rfl
inductive BarOk :List SE→Prop where
 |none (sl seg:List SE):uey sl=(seg,none)→BarOk sl
 |some (sl seg:List SE) (y:SE) (rest:List SE):uey sl=(seg,some (y,rest))→(∀e1∈seg,e1.i∈y.pre)→(∀e∈rest,y.i∈e.pre∧∀e1∈seg,e1.i∈e.pre)→BarOk rest→BarOk sl
theorem unb :∀(sl:List SE) (pre:List Nat),(uig pre sl = .none∨uig pre sl = .some true)→∃seg r,uey sl=(seg,r)∧match r with
 | .none=>True
 | .some (y,rest)=>(∀x∈pre,x∈y.pre∧∀e∈rest,x∈e.pre)∧(∀e1∈seg,e1.i∈y.pre)∧(∀e∈rest,y.i∈e.pre∧∀e1∈seg,e1.i∈e.pre)∧(uig [] rest = .none∨uig [] rest = .some true):=by
 intro sl
 induction sl with
 |nil=>intro pre _;exact⟨[],.none,rfl,trivial⟩
 | cons e sl ih=>
  intro pre h
  simp only [uig]at h
  simp only [uey]
  split at h
  ·rename_i hk
   refine⟨[],.some (e,sl),by simp only [hk],?_⟩
   have key:(pre.all (ud1 e.pre)&&sl.all (fun e'=>ud1 e'.pre e.i&&pre.all (ud1 e'.pre)))=true∧(uig [] sl = .none∨uig [] sl = .some true):=by
    split at h
    ·rename_i h1 h2
     rcases h with h|h
     ·cases h
     ·exact⟨h1,.inr (h2.trans h)⟩
    ·rename_i h1 h2;exact⟨h1,.inl h2⟩
    ·rcases h with h|h<;>cases h
   obtain⟨h1,h2⟩:=key
   simp only [Bool.and_eq_true,List.all_eq_true]at h1
   exact⟨fun x hx=>⟨uan.1 (h1.1 x hx),fun e' he'=>uan.1 ((h1.2 e' he').2 x hx)⟩,fun e1 h=>(by cases h),fun e' he'=>⟨uan.1 (h1.2 e' he').1,fun e1 h=>(by cases h)⟩,h2⟩
  ·rename_i hk
   obtain⟨seg,r,q1,q2⟩:=ih _ h
   refine⟨e::seg,r,by simp only [hk,q1],?_⟩
   cases r with
   |none=>trivial
   | some p=>
    obtain⟨y,rest⟩:=p
    obtain⟨p1,p2,p3,p4⟩:=q2
    refine⟨fun x hx=>p1 x (List.mem_cons_of_mem _ hx),fun e1 h1=> ?_,fun e' he'=>⟨(p3 e' he').1,fun e1 h1=> ?_⟩,p4⟩
    ·rcases List.mem_cons.1 h1 with rfl|h1
     ·exact(p1 _ (by simp)).1
     ·exact p2 e1 h1
    ·rcases List.mem_cons.1 h1 with rfl|h1
     ·exact(p1 _ (by simp)).2 e' he'
     ·exact(p3 e' he').2 e1 h1
theorem uqE :∀(n:Nat) (sl:List SE),sl.length≤n→(uig [] sl = .none∨uig [] sl = .some true)→BarOk sl:=by
 intro n
 induction n with
 | zero=>
  intro sl hl _
  cases sl with
  |nil=>exact .none [] [] rfl
  |cons=>simp at hl
 | succ n ih=>
  intro sl hl h
  obtain⟨seg,r,q1,q2⟩:=unb sl [] h
  cases r with
  |none=>exact .none sl seg q1
  | some p=>
   obtain⟨y,rest⟩:=p
   obtain⟨_,p2,p3,p4⟩:=q2
   have:=uel q1
   simp only at this
   exact .some sl seg y rest q1 p2 p3 (ih rest (by rw [this]at hl;simp at hl;omega) p4)
theorem umZ :∀(sl:List SE) (pre:List Nat),uig pre (sl.map (SE.setX none none))=uig pre sl:=by
 intro sl
 induction sl with
 |nil=>intro pre;rfl
 | cons e sl ih=>
  intro pre
  have hf:((fun e':SE=>ud1 e'.pre e.i&&pre.all (ud1 e'.pre))∘SE.setX none none)=fun e'=>ud1 e'.pre e.i&&pre.all (ud1 e'.pre):=by
   funext e'
   simp only [Function.comp,udk]
  simp only [List.map_cons,uig,ih,List.all_map,ueQ,ulb,udk,hf]
theorem uoy {ops:Array Oper} {sl:List SE}(hsc:ubu ops.toList sl=true):sl.length=ops.size∧∀i,i<ops.size→i∈ubv sl:=by
 have h':=hsc
 simp only [ubu,Bool.and_eq_true,List.all_eq_true]at h'
 have hlen:sl.length=ops.size:=by simpa using uac h'.1.1.1
 have hnd:=ud9 h'.1.1.2
 refine⟨hlen,fun i hi=> ?_⟩
 have hil:(ubv sl).length=ops.size:=by
  rw [←hlen]
  clear h' hsc hlen hnd
  induction sl with
  |nil=>rfl
  |cons e l ih=>simp [ubv,ih]
 refine Classical.byContradiction fun hni=> ?_
 have:=uje ops.size (i::ubv sl) (List.nodup_cons.2 ⟨hni,hnd⟩) (fun x hx=>by
  rcases List.mem_cons.1 hx with q|q
  ·omega
  ·obtain⟨e,he,rfl⟩:=uat.1 q
   obtain⟨o,ho,_⟩:=ubH (h'.2 e he)
   rw [uaZ]at ho
   exact(Array.getElem?_eq_some_iff.1 ho).1)
 simp only [List.length_cons]at this
 omega
theorem um1 (hF:FenceOk F P)(hT:uc5 P T)(hG:Given F n P l L el R0.mu J Jx)(hdst:ues N ops.toList=true) {l0:List SE}(hs:ubu ops.toList l0=true)(hx:∀e∈l0,e.x=none)
 (hQ:∀g' s' μ' ν' a' W' W0' K1,Kc g' s'→s'.Fresh→Bas J Jx g' W0' K1→Sat W0' (ucF K1 R0) R0 N [] s'.fs μ' ν' a' W'→Q .normal a' W'):
 ∀ (m:Nat) (sl:List SE) (listed:Array Bool) (g:Gh) (s:LS) (μ:Mem) (ν:Vl) (a:Act) (W W0:World) (K:Nat→Prop),BarOk sl→sl.Sublist l0→listed.size=ops.size→(∀i,listed.getD i true=false↔i∈ubv sl) →
  (∀e'∈l0,e'.i∉ubv sl→∀x∈e'.pre,x∉ubv sl)→s.Fresh→Bas J Jx g W0 K→Sat W0 (ucF K R0) R0 N [] s.fs μ ν a W→ueq T P l L el ops.toList ops.toList.length m sl g s Kc →
  wpAnyIn F n P .any ops Q sl.length listed a W:=by
 have hd':∀(j:Nat) (o:Oper) k,ops[j]? =some o→o.dst=some k→k<N:=fun j o k ho hk=>ud8 hdst o (by
  have:=Array.mem_of_getElem? ho
  simpa using this) k hk
 intro m
 induction m with
 |zero=>intro sl listed g s μ ν a W W0 K _ _ _ _ _ _ _ _ h;exact h.elim
 | succ m ih =>
  intro sl listed g s μ ν a W W0 K hbar hsub hsz hli hinv hf hb hS hrun
  have hfree:∀sg:List SE,uvv s.nxt sg s.fs:=fun sg e _=>hf _ (Nat.le_add_right _ _)
  have htop:∀id,s.nxt+ops.size≤id→s.fs.H id=none:=fun id hid=>hf id (by omega)
  simp only [ueq]at hrun
  cases hbar with
  | none _ seg hsp=>
   rw [hsp]at hrun
   simp only at hrun
   have e:=uel hsp
   simp only at e
   subst e
   have hrunF:ub6 T P ops.toList s.nxt ops.size sl s.fs (fun t=>∃s',t=s'.fs∧Kc g s'):=by
    have:=uhF (T:=T) (P:=P) (ops:=ops.toList) (base:=s.nxt) (N:=ops.toList.length) (K:=fun t=>∃s',t=s'.fs∧Kc g s') (fun s' hs'=>⟨s',rfl,hs'⟩) sl s rfl hrun
    simpa using this
   refine ugV hF hT hd' hs (fun e he x q=>by rw [hx e he]at q;cases q) ?_ sl.length sl listed s.fs μ ν a W rfl hsub hsz hli hinv (hfree sl) htop hrunF hS
   rintro t' μ' ν' a' W' ⟨s',rfl,hq⟩ hfr hS'
   exact hQ g s' μ' ν' a' W' W0 K hq (fun id hid=>hfr id hid) hb hS'
  | some _ seg y rest hsp hy hrest hbar'=>
   rw [hsp]at hrun
   simp only at hrun
   have e:=uel hsp
   simp only at e
   subst e
   have hrunF:ub6 T P ops.toList s.nxt ops.size seg s.fs (fun t=>∃s',t=s'.fs∧match nth ops.toList y.i with
    |some o=>ueg T P l L el ops.toList o s'.nxt g s' (fun g' s2=>ueq T P l L el ops.toList ops.toList.length m rest g' ⟨s2.env,s2.H,s'.nxt+1⟩ Kc)
    |none=>False):=by
    have:=uhF (T:=T) (P:=P) (ops:=ops.toList) (base:=s.nxt) (N:=ops.toList.length) (K:=fun t=>∃s',t=s'.fs∧match nth ops.toList y.i with
     |some o=>ueg T P l L el ops.toList o s'.nxt g s' (fun g' s2=>ueq T P l L el ops.toList ops.toList.length m rest g' ⟨s2.env,s2.H,s'.nxt+1⟩ Kc)
     |none=>False) (fun s' hs'=>⟨s',rfl,hs'⟩) seg s rfl hrun
    simpa using this
   have hs':=hs
   simp only [ubu,Bool.and_eq_true,List.all_eq_true]at hs'
   obtain⟨⟨⟨hlen,hnd⟩,hpairs⟩,hpre⟩:=hs'
   have hnd:=ud9 hnd
   have hpairs:=uej hpairs
   have hmem:∀e∈y::rest,e∈l0:=fun e he=>hsub.subset (List.mem_append_right _ he)
   have hsubr:(y::rest).Sublist l0:=(List.sublist_append_right _ _).trans hsub
   obtain⟨o,ho,hp⟩:=ubH (hpre y (hmem y (by simp)))
   have hlt:y.i<ops.size:=by
    rw [uaZ]at ho
    exact(Array.getElem?_eq_some_iff.1 ho).1
   rw [List.length_append]
   refine uiq hF hT hd' hs (fun e he x q=>by rw [hx e he]at q;cases q) (y::rest) ?_ seg.length seg listed s.fs μ ν a W rfl hsub hsz hli hinv (fun e he e1 h1=> ?_) (hfree seg) htop hrunF hS
   rotate_left
   ·rcases List.mem_cons.1 he with rfl|he
    ·exact hy e1 h1
    ·exact(hrest e he).2 e1 h1
   rintro listed2 t2 μ2 ν2 a2 W2 ⟨s2,rfl,hk⟩ hfr2 hS2 hsz2 hli2 hinv2
   rw [ho]at hk
   simp only at hk
   rw [uaZ]at ho
   have hunl:∀d,d<ops.size→d∉ubv (y::rest)→listed2.getD d false=true:=fun d hd hnd=>by
    have:¬listed2.getD d true=false:=fun q=>hnd ((hli2 d).1 q)
    rw [ubW (by omega)]at this⊢
    simpa using this
   have hpw:=(List.pairwise_cons.1 (hpairs.sublist hsubr)).1
   have hidy:∀{e:SE},e∈rest→e.i≠y.i:=fun {e} he q=>by
    have h1:(y.i::ubv rest).Nodup:=hnd.sublist (udR hsubr)
    exact(List.nodup_cons.1 h1).1 (uat.2 ⟨e,he,q⟩)
   refine⟨fun hnil=> ?_,fun i hi=> ?_⟩
   ·have:y.i∈Region.ready .any ops listed2:=mem_ready.2 ⟨(hli2 y.i).2 (by simp [ubv]),o,ho,fun ed hed hb=>by
     rw [udd]at hb
     have hd:=hp.deps ed.on (ue2.2 ⟨ed,hed,hb,rfl⟩)
     refine hunl _ (by simpa using hd.2) fun hin=> ?_
     obtain⟨e',he',hi'⟩:=uat.1 hin
     rcases List.mem_cons.1 he' with q|q
     ·subst q;exact hp.self (by rw [hi'];exact hd.1)
     ·have hpw:=hpw e' q
      unfold ugD at hpw
      rw [hi',uan.2 hd.1]at hpw
      cases hpw⟩
    rw [hnil]at this;cases this
   ·obtain ⟨hiun,o',ho',hall⟩:=mem_ready.1 hi
    have hin:=(hli2 i).1 hiun
    obtain⟨e,he,rfl⟩:=uat.1 hin
    have hey:e=y:=by
     rcases List.mem_cons.1 he with q|q
     ·exact q
     ·exfalso
      obtain⟨oe,hoe,hpe⟩:=ubH (hpre e (hmem e he))
      rw [uaZ,ho']at hoe
      cases hoe
      have hdl:∀d∈deps o',d∉ubv (y::rest):=fun d hd hin=>by
       obtain⟨ed,hed,hb,rfl⟩:=ue2.1 hd
       have h1:=hall ed hed (by rw [udd];exact hb)
       have h2:=(hli2 ed.on).2 hin
       have h3:ed.on<listed2.size:=by have:=(hpe.deps _ hd).2;simp at this;omega
       rw [ubW h3]at h1 h2
       rw [h1]at h2;cases h2
      have hyin:y.i∈ubv (y::rest):=by simp [ubv]
      rcases hpe.pre y.i (hrest e q).1 with r|⟨d,hd,e',he',rfl,hx'⟩
      ·exact hdl _ r hyin
      ·exact hinv2 e' he' (hdl _ hd) y.i hx' hyin
    subst hey
    rw [ho]at ho'
    cases ho'
    refine uek (Kc:=fun g' s3=>ueq T P l L el ops.toList ops.toList.length m rest g' ⟨s3.env,s3.H,s2.nxt+1⟩ Kc) (nid:=s2.nxt) hF hT hG hb hS2 (fun k hk=>hd' _ o k ho hk) ho (fun id hid=>hfr2 id hid) hk ?_
    intro g' s3 μ3 ν3 v W3 W03 K3 hk3 hf3 hb3 hS3
    have hyi:e.i<listed2.size:=by omega
    have hset:∀j,(listed2.setIfInBounds e.i true).getD j true=if j=e.i then true else listed2.getD j true:=fun j=>by
     by_cases q:j=e.i
     ·subst q;simp [Array.getD_eq_getD_getElem?,hyi]
     ·rw [if_neg q,Array.getD_eq_getD_getElem?,Array.getD_eq_getD_getElem?,Array.getElem?_setIfInBounds,if_neg (fun h=>q h.symm)]
    have hidx:∀j,j∈ubv rest↔j∈ubv (e::rest)∧j≠e.i:=fun j=>by
     simp only [ubv,List.mem_cons]
     constructor
     ·intro hj
      refine⟨.inr hj,fun q=> ?_⟩
      obtain⟨e',h1,h2⟩:=uat.1 hj
      exact hidy h1 (h2.trans q)
     ·rintro⟨q|q,h⟩
      ·exact absurd q h
      ·exact q
    refine ih rest _ g' ⟨s3.env,s3.H,s2.nxt+1⟩ μ3 ν3 _ W3 W03 K3 hbar' ((List.sublist_cons_self _ _).trans hsubr) (by simpa using hsz2) (fun j=> ?_) (fun e' he' hn x hx=> ?_) (fun id hid=>hf3 id hid) hb3 ⟨hS3.size,hS3.defers,hS3.env,hS3.wf,hS3.ms,hS3.mle,hS3.bor,hS3.mm⟩ hk3
    ·rw [hset,hidx]
     by_cases q:j=e.i
     ·simp [q]
     ·simp only [q,if_false,ne_eq,not_false_eq_true,and_true];exact hli2 j
    ·rw [hidx] at hn⊢
     rintro⟨h1,h2⟩
     by_cases q:e'.i=e.i
     ·have:e'=e:=by
       have h1':=hmem e (by simp)
       have:∀{l:List SE},(ubv l).Nodup→e'∈l→e∈l→e'=e:=by
        intro l
        induction l with
        |nil=>intro _ h;cases h
        | cons y l ih=>
         intro hnd h h'
         have hnd':=List.nodup_cons.1 (show(y.i::ubv l).Nodup from hnd)
         rcases List.mem_cons.1 h with r|r
         ·rcases List.mem_cons.1 h' with r'|r'
          ·rw [r,r']
          ·exact absurd (uat.2 ⟨e,r',by rw [←q,r]⟩) hnd'.1
         ·rcases List.mem_cons.1 h' with r'|r'
          ·exact absurd (uat.2 ⟨e',r,by rw [q,r']⟩) hnd'.1
          ·exact ih hnd'.2 r r'
       exact this hnd he' h1'
      subst this
      rcases hp.pre x hx with r|⟨d,hd,e2,he2,rfl,hx2⟩
      ·obtain⟨ed,hed,hb2,rfl⟩:=ue2.1 r
       have a1:=hall ed hed (by rw [udd];exact hb2)
       have a2:=(hli2 ed.on).2 h1
       have a3:ed.on<listed2.size:=by have:=(hp.deps _ r).2;simp at this;omega
       rw [ubW a3]at a1 a2
       rw [a1]at a2;cases a2
      ·refine hinv2 e2 he2 (fun hin=> ?_) x hx2 h1
       obtain⟨ed,hed,hb2,hq⟩:=ue2.1 hd
       have a1:=hall ed hed (by rw [udd];exact hb2)
       have a2:=(hli2 ed.on).2 (by rw [hq];exact hin)
       have a3:ed.on<listed2.size:=by have:=(hp.deps _ hd).2;rw [←hq]at this;simp at this;omega
       rw [ubW a3]at a1 a2
       rw [a1]at a2;cases a2
     ·exact hinv2 e' he' (fun h=>hn ⟨h,q⟩) x hx h1
end seq
variable {Q:Exit→Act→World→Prop}
theorem uhJ {c:Code}(hc:upb F n P T R0 N sc kp l L el J Jx c) {Qs:Exit→Gh→LS→Prop}(hE:usR J Jx R0 N Qs Q):
 ∀(k:Nat) (g:Gh) (s:LS) μ ν a W W0 K,ukg (vcY T P sc kp l L el c) k g s Qs→s.Fresh→Bas J Jx g W0 K→Sat W0 (ucF K R0) R0 N [] s.fs μ ν a W→Code.roundsIn F n P c Q k a W:=by
 intro k
 induction k with
 |zero=>intro g s μ ν a W W0 K h;exact h.elim
 | succ k ih=>
  intro g s μ ν a W W0 K h hf hb hS
  rw [roundsIn_succ]
  refine hc g s _ _ μ ν a W W0 K h hf hb hS ?_
  intro e g' s' μ' ν' a' W' W0' K1 hq hf' hb' hS'
  cases e with
  |normal=>exact ih g' s' μ' ν' a' W' W0' K1 hq hf' hb' hS'
  |_=>exact hE _ g' s' μ' ν' a' W' W0' K1 hq hf' hb' hS'
theorem ujy {c:Code}(hc:upb F n P T R0 N sc kp l L el J Jx c)(hR:∀id,(R0 id).isSome=true→id∈kp) {Qs:Exit→Gh→LS→Prop}(hE:usR J Jx R0 N Qs Q) {σ:Type} {G:σ→Gh} {I:σ→LS} {m:σ→Nat}
 (hI :∀x,vcY T P sc kp l L el c (G x) (I x) (fun e g' s'=>match e with
     | .normal=>∃y,m y<m x∧(∀_:Unit,GEq g' (G y))∧Ent kp s' (I y)
     |e=>Qs e g' s')):
 ∀(k:Nat) (x:σ) μ ν a W W0 K,m x<k→(I x).Fresh→Bas J Jx (G x) W0 K→Sat W0 (ucF K R0) R0 N [] (I x).fs μ ν a W→Code.roundsIn F n P c Q k a W:=by
 intro k
 induction k with
 |zero=>intro x μ ν a W W0 K h;omega
 | succ k ih=>
  intro x μ ν a W W0 K h hf hb hS
  rw [roundsIn_succ]
  refine hc (G x) (I x) _ _ μ ν a W W0 K (hI x) hf hb hS ?_
  intro e g' s' μ' ν' a' W' W0' K1 hq hf' hb' hS'
  cases e with
  | normal=>
   obtain⟨y,hy,hge,hent⟩:=hq
   obtain⟨hS2,hf2⟩:=ueV hent hR hS'
   exact ih y μ' ν' a' W' W0' K1 (by omega) hf2 (hb'.eq (hge ())) hS2
  |_=>exact hE _ g' s' μ' ν' a' W' W0' K1 hq hf' hb' hS'
theorem unJ (hF:FenceOk F P)(hT:uc5 P T)(hmix:P.follows .mixedOrders=true)(hR:∀id,(R0 id).isSome=true→id∈kp)(hG:Given F n P l L el R0.mu J Jx):
 ∀(c:Code),uaE N sc c=true→upb F n P T R0 N sc kp l L el J Jx c:=by
 intro c
 induction c with
 | skip=>
  intro _ g s Qs Q μ ν a W W0 K h hf hb hS hE
  exact wpIn_skip (hE .normal g s μ ν a W W0 K h hf hb hS)
 | region id ops draw=>
  intro hok
  simp only [uaE]at hok
  split at hok
  ·rename_i h1
   intro g s Qs Q μ ν a W W0 K h hf hb hS hE
   simp only [vcY]at h
   refine wpIn_region ?_
   have hl:List.range ops.size=List.range' 0 ops.toList.length:=by simp [List.range_eq_range']
   rw [hl]
   exact umH hF hT hG h1 (fun g' s' μ' ν' a' W' W0' K1 hk hf' hb' hS'=>hE .normal g' s' μ' ν' a' W' W0' K1 hk hf' hb' hS') ops.toList 0 s.nxt g s μ ν a W W0 K rfl hf hb hS h
  ·rename_i h1
   split at hok
   ·rename_i sl hl
    intro g s Qs Q μ ν a W W0 K h hf hb hS hE
    simp only [vcY,hl]at h
    split at h
    ·exact ucZ (n:=n) (id:=id) hF hT hmix h1 hl hok s _ Q [] μ ν a W h hf hS fun s' μ' ν' a' W' hq hf' hS'=>hE .normal g s' μ' ν' a' W' W0 K hq hf' hb (hS.unbase hS')
    ·rename_i hbar
     refine wpIn_region_any hmix ?_
     have hbar':uig [] (sl.map (SE.setX none none))=uig [] sl:=umZ sl []
     have hok':ubu ops.toList (sl.map (SE.setX none none))=true:=udq hok
     obtain⟨hlen,hall⟩:=uoy hok'
     rw [←hlen]
     refine um1 (Kc:=fun g' s'=>Qs .normal g' s') hF hT hG h1 hok' (fun e he=>by
      obtain⟨e',_,rfl⟩:=List.mem_map.1 he
      unfold SE.setX
      split<;>rfl) (fun g' s' μ' ν' a' W' W0' K1 hk hf' hb' hS'=>hE .normal g' s' μ' ν' a' W' W0' K1 hk hf' hb' hS') _ (sl.map (SE.setX none none)) _ g s μ ν a _ W0 K (uqE _ _ (Nat.le_refl _) (by rw [hbar'];exact .inr hbar)) (List.Sublist.refl _) (by rw [hlen];simp) (fun i=> ?_) (fun e' he' hn=>absurd (uat.2 ⟨e',he',rfl⟩) hn) hf hb (hS.world rfl rfl rfl rfl) h
     constructor
     ·intro hq
      refine hall i ?_
      by_cases hi:i<ops.size
      ·exact hi
      ·rw [hlen]at hq;simp [Array.getD_eq_getD_getElem?,hi]at hq
     ·intro hi
      have hi':i<ops.size:=by
       obtain⟨e,he,rfl⟩:=uat.1 hi
       have h':=hok'
       simp only [ubu,Bool.and_eq_true,List.all_eq_true]at h'
       obtain⟨o,ho,_⟩:=ubH (h'.2 e he)
       rw [uaZ]at ho
       exact(Array.getElem?_eq_some_iff.1 ho).1
      rw [hlen];simp [Array.getD_eq_getD_getElem?,hi']
    ·exact h.elim
   ·cases hok
  ·cases hok
 | seq x y ihx ihy=>
  intro hok g s Qs Q μ ν a W W0 K h hf hb hS hE
  simp only [uaE,Bool.and_eq_true]at hok
  refine wpIn_seq (ihx hok.1 g s _ _ μ ν a W W0 K h hf hb hS ?_)
  intro e g' s' μ' ν' a' W' W0' K1 hq hf' hb' hS'
  cases e with
  |normal=>exact ihy hok.2 g' s' Qs Q μ' ν' a' W' W0' K1 hq hf' hb' hS' hE
  |_=>exact hE _ g' s' μ' ν' a' W' W0' K1 hq hf' hb' hS'
 | cond c x y ihx ihy=>
  intro hok g s Qs Q μ ν a W W0 K h hf hb hS hE
  simp only [uaE,Bool.and_eq_true]at hok
  simp only [vcY]at h
  split at h
  ·rename_i hc
   exact wpIn_cond_true (uc6 hS hc) (ihx hok.1 g s Qs Q μ ν a W W0 K h hf hb hS hE)
  ·rename_i hc
   exact wpIn_cond_false (uc6 hS hc) (ihy hok.2 g s Qs Q μ ν a W W0 K h hf hb hS hE)
  ·rename_i f hc
   refine wpIn_cond_split (uc6 hS hc) (fun hb'=> ?_) (fun hb'=> ?_)
   ·exact ihx hok.1 g s Qs Q μ ν a W W0 K (h.1 hb') hf hb hS hE
   ·exact ihy hok.2 g s Qs Q μ ν a W W0 K (h.2 hb') hf hb hS hE
  ·exact h.elim
 | block id c ih=>
  intro hok g s Qs Q μ ν a W W0 K h hf hb hS hE
  simp only [uaE]at hok
  refine wpIn_block (ih hok g s _ _ μ ν a W W0 K h hf hb hS ?_)
  intro e g' s' μ' ν' a' W' W0' K1 hq hf' hb' hS'
  cases e with
  | exit j=>
   simp only at hq
   simp only [Exit.inBlock]
   cases hbj:Nat.beq j id with
   | true=>
    rw [hbj]at hq
    rw [if_pos (uac hbj)]
    exact hE .normal g' s' μ' ν' a' W' W0' K1 hq hf' hb' hS'
   | false=>
    rw [hbj]at hq
    rw [if_neg (by rintro rfl;simp at hbj)]
    exact hE _ g' s' μ' ν' a' W' W0' K1 hq hf' hb' hS'
  |_=>exact hE _ g' s' μ' ν' a' W' W0' K1 hq hf' hb' hS'
 | loop c ih=>
  intro hok g s Qs Q μ ν a W W0 K h hf hb hS hE
  simp only [uaE]at hok
  obtain⟨un,h⟩:=h
  cases un with
  |some k=>exact wpIn_loop_rounds k (uhJ (ih hok) hE k g s μ ν a W W0 K h hf hb hS)
  | none=>
   obtain⟨seeds,σ,G,I,m,h0,hI⟩:=h
   cases hs:ucx seeds s with
   |none=>rw [hs]at h0;exact h0.elim
   | some s0=>
    rw [hs]at h0
    obtain⟨x,hge,hent⟩:=h0
    obtain⟨ν',hS',hf'⟩:=uch seeds hs hf hS
    obtain⟨hS2,hf2⟩:=ueV hent hR hS'
    exact wpIn_loop_rounds (m x+1) (ujy (ih hok) hR hE hI (m x+1) x μ ν' a W W0 K (by omega) hf2 (hb.eq (hge ())) hS2)
 |rangeFunc=>intro _ g s Qs Q μ ν a W W0 K h;exact h.elim
 | exit id=>
  intro _ g s Qs Q μ ν a W W0 K h hf hb hS hE
  exact wpIn_exit (hE _ g s μ ν a W W0 K h hf hb hS)
 |scope=>intro _ g s Qs Q μ ν a W W0 K h;exact h.elim
 | label l=>
  intro _ g s Qs Q μ ν a W W0 K h hf hb hS hE
  exact wpIn_label (hE .normal g s μ ν a W W0 K h hf hb hS)
 |goto l=>intro _ g s Qs Q μ ν a W W0 K h;exact h.elim
 | ret=>
  intro _ g s Qs Q μ ν a W W0 K h hf hb hS hE
  exact wpIn_ret (hE _ g s μ ν a W W0 K h hf hb hS)
 |refuse=>intro _ g s Qs Q μ ν a W W0 K h;exact h.elim
theorem ufX (hT:uc5 P T)(hmix:P.follows .mixedOrders=true) {f:FuncId} {fn:Func} {c:Code}(hf:P.funcs[f]? =some fn)(hbody:fn.body=some c)(hent:∀args w,(callFunc f args).run P w = .ok (.enter f args) w)
 (hok:ud7 fn.ntmps sc c=true) {caps:List SV} {L:Nat} {el:Nat→List SV} (hlen:Nat.ble (caps.length+1) fn.ntmps=true) (h:∀l,vcI T P sc l L el fn c caps):ugj P f caps L el:=by
 refine⟨hent,fun F n hF hro μ W cs hmem hcs l J Jx hext hextx hround hJ0=> ?_⟩
 obtain⟨hidc,hres,hpl,h⟩:=h l
 have hcl:cs.size=caps.length:=by
  obtain⟨l,e,hl⟩:=ugf hcs
  injection e with e
  subst e
  exact hl
 have hlen':=Nat.le_of_ble_eq_true hlen
 let R0:Bor:=⟨fun _=>none,μ⟩
 have hG:Given F n P l L el R0.mu J Jx:=⟨hext,hextx,hpl,hround⟩
 have hrel:Rel μ Vl.nil (.tup (.val (.func (.yield l) ⟨[]⟩ ⟨[]⟩)::caps)) (.tuple ⟨.func (.yield l) ⟨[]⟩ ⟨[]⟩::cs.toList⟩):=.tcons _ _ _ _ _ (.val _ _ rfl) (by simpa using hcs)
 have hE:∀k,lk (ufN 0 (.val (.func (.yield l) ⟨[]⟩ ⟨[]⟩)::caps)) k=(SV.val (.func (.yield l) ⟨[]⟩ ⟨[]⟩)::caps)[k]? :=fun k=>by have:=uls (.val (.func (.yield l) ⟨[]⟩ ⟨[]⟩)::caps) 0 k;simpa using this
 have hS :Sat W (ucF (fun _=>False) R0) R0 fn.ntmps [] (⟨ufN 0 (.val (.func (.yield l) ⟨[]⟩ ⟨[]⟩)::caps),[],0⟩:LS).fs μ Vl.nil {tmps:=(#[Value.func (.yield l) #[] #[]]++cs)++Array.replicate (fn.ntmps-(#[Value.func (.yield l) #[] #[]]++cs).size) undef,defers:=[]} W:=by
  refine⟨by simp;omega,rfl,fun k=> ?_,fun k id hid=> ?_,⟨hmem,⟨fun id blk hb=>(by cases hb),fun id id' b hs hs'=>(by cases hs),fun id b hs=>(by cases hs),fun id b hs=>(by cases hs)⟩,ufW _ _,fun i b hb id hid=>(by cases hb)⟩,MLe.refl _ _ _,fun id r b hr=>(by cases hr),fun b hb=>.inr hb⟩
  ·show Rel μ Vl.nil (udP (lk (ufN 0 (.val (.func (.yield l) ⟨[]⟩ ⟨[]⟩)::caps)) k)) _
   rw [hE]
   cases hk:(SV.val (.func (.yield l) ⟨[]⟩ ⟨[]⟩)::caps)[k]? with
   |none=>exact .any _ _
   | some x=>
    have hlt:=(List.getElem?_eq_some_iff.1 hk).1
    simp only [List.length_cons]at hlt
    obtain⟨cv,q1,q2⟩:=ujU hrel (by rw [uhc];exact hk)
    have:((#[Value.func (.yield l) #[] #[]]++cs)++Array.replicate (fn.ntmps-(#[Value.func (.yield l) #[] #[]]++cs).size) undef).getD k undef=cv:=by
     rw [Array.getD_eq_getD_getElem?,Array.getElem?_append_left (by simp;omega)]
     rw [←Array.getElem?_toList]
     simp only [Array.toList_append]
     rw [show(#[Value.func (.yield l) #[] #[]]).toList++cs.toList = .func (.yield l) ⟨[]⟩ ⟨[]⟩::cs.toList from rfl,q1];rfl
    rw [this];exact q2
  ·have hid':id∈(udP (lk (ufN 0 (.val (.func (.yield l) ⟨[]⟩ ⟨[]⟩)::caps)) k)).ids:=hid
   rw [hE]at hid'
   cases hk:(SV.val (.func (.yield l) ⟨[]⟩ ⟨[]⟩)::caps)[k]? with
   |none=>rw [hk]at hid';simp [udP,SV.ids]at hid'
   | some x=>
    rw [hk]at hid'
    have:=uku (List.mem_of_getElem? hk) hid'
    simp only [SV.idsL,SV.ids,hidc,List.append_nil]at this
    cases this
 have fin:∀g W0 K W1,upS L g→Bas J Jx g W0 K→Frm (fun b=>K b∨uaz μ b) W0 W1→ubR μ W1→∃K,J L K W1∨Jx K W1:=fun g W0 K W1 hd hb hfr hm=>by
  have hb1:=hb.ext hG hfr hm
  cases g with
  | atg f=>
   have e:f ()=L:=hd ()
   have:=hb1.2
   simp only [e]at this
   exact⟨_,.inl this⟩
  |stop=>exact⟨_,.inr hb1.2⟩
 refine callsIn_of_wp_marks (F:=F) (n:=n) hf hbody (hF.fn f) ?_ hro
 refine unJ hF hT hmix (kp:=[]) (fun id hs=>by cases hs) hG c (uhA hok) (.atg fun _=>0) _ _ _ μ Vl.nil _ W W (fun _=>False) h (fun id _=>rfl) ⟨fun b hb=>hb.elim,hJ0⟩ hS ?_
 intro e g s μ1 ν1 a1 W1 W0 K hq hf1 hb hS1
 have key:∀R,(∀W2,Alike W1.heap.size W1 W2→∃v,(results fn a1.tmps).run P W2 = .ok v W2∧R (.returned v) W2)→LeavesInM F n P fn a1.tmps R a1.defers .returning W1:=fun R hR=>by
  rw [hS1.defers]
  exact ufE (ro:=none) [] W1 ⟨.nil,⟨fun d hd=>(by cases hd),fun l0 e=>(by cases e)⟩⟩ hR
 have hrun:∀W2,(results fn a1.tmps).run P W2 = .ok (utv []) W2:=fun W2=>uew (a:=a1) (by rw [hres];simp)
 have hend:upS L g→LeavesInM F n P fn a1.tmps (fun e W'=>(∃v,e = .returned v)∧∃K,J L K W'∨Jx K W') a1.defers .returning W1:=fun hd=>by
  refine key _ fun W2 hW2=>⟨_,hrun W2,⟨_,rfl⟩,fin g W0 K W2 hd hb ?_ (fun b c hc=>(hS1.alike ⟨hW2.os,hW2.tape,hW2.output,hW2.size,fun b hb=>hW2.low b (by have:=hS1.ms.frm.size;omega),hW2.data⟩).ms.mem b c (hS1.mle.le b c hc))⟩
  have hfr:=hS1.ms.frm
  exact⟨hW2.os.trans hfr.os,hW2.tape.trans hfr.tape,hW2.output.trans hfr.output,by rw [hW2.size];exact hfr.size,fun b hb' hB=>(hW2.low b (by have:=hfr.size;omega)).trans (hfr.block b hb' hB)⟩
 cases e with
 |normal=>exact hend hq
 |ret=>exact hend hq
 |_=>exact hq.elim
end
end Go.Eng

namespace Go.Eng
open Go
theorem uaH {n m b:Int} {e new e':IX→List SV}(h0:∀ix jx:IX,0≤ix.den→ix.den<n→jx.den=ix.den→Fit (.agg (e ix)) (.agg (e' jx)))
 (h1:∀ix jx:IX,0≤ix.den→ix.den<m→jx.den=n+ix.den→Fit (.agg (new ix)) (.agg (e' jx))) (hb:0≤n∧0≤m∧(n+m)*b≤140737488355328):
 uap (ucI n e m new e'∧0≤n∧0≤m∧(n+m)*b≤140737488355328):=
 ⟨⟨fun μ ν ix c i0 i1 q jx hj=>(h0 ix jx i0 i1 hj).le _ _ _ q,fun μ ν ix c i0 i1 q jx hj=>(h1 ix jx i0 i1 hj).le _ _ _ q⟩,hb⟩
theorem ubS {n ix:Int} {f f':IX→SV} {x:SV}(h1:∀jx:IX,0≤jx.den→jx.den<n→jx.den=ix→Fit x (f' jx))(h2:∀jx:IX,0≤jx.den→jx.den<n→jx.den≠ix→Fit (f jx) (f' jx)):
 uap (ul1 n f ix x f'):=⟨fun jx a b c=>(h1 jx a b c).le,fun jx a b c=>(h2 jx a b c).le⟩
theorem uem {n:Nat} {f f':IX→SV} {l l':List SV}(h:∀ix:IX,0≤ix.den→ix.den<(n:Int)→Fit (f ix) (f' ix))(h':Fit (.agg l) (.agg l')):Fit (.agg (.arr n f::l)) (.agg (.arr n f'::l')):=⟨fun μ ν v q=>by
 cases q with
 |arr _ _ _ _ cs rest h1 h2 h3 h4=>exact .arr ν n f' l' cs rest h1 (fun ix i0 i1=>(h ix i0 i1).le _ _ _ (h2 ix i0 i1)) h3 (h'.le _ _ _ h4)
 |cons _ _ _ c rest h1=>cases h1⟩
theorem uv0 {off:Nat} {a b:List SV}(h:Fit (.agg a) (.agg b)):Fit (.pp off a) (.pp off b):=⟨fun μ ν v q=>by
 cases q with
 |pp _ _ _ b o m c h1 h2 h3=>exact .pp ν off _ b o m c h1 h2 (h.le _ _ _ h3)⟩
end Go.Eng
