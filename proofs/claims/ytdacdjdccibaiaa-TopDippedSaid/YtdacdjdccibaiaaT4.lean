/- Contracts of the functions that the laws come to. No condition. -/
import Derived.Test.YtdacdjdccibaiaaE3
import Derived.Test.YtdacdjdccibaiaaProg
set_option linter.unusedVariables false
set_option linter.unusedSimpArgs false
set_option linter.deprecated false

namespace Go.Proofs.Ytdacdjdccibaiaa
open Go Go.Eng Go.Proofs
def ti3 :TI:=⟨.int .i64,1,8,[.one (.int .i64)]⟩
def ti4 :TI:=⟨.bool,1,1,[.one .bool]⟩
def ti5 :TI:=⟨.int .u8,1,1,[.one (.int .u8)]⟩
def ti22 :TI:=⟨.sli 3,1,24,[.one .sli]⟩
def ti23 :TI:=⟨.sli 22,1,24,[.one .sli]⟩
def ti25 :TI:=⟨.str [(0,22),(1,22),(2,23)],3,72,[.one .sli,.one .sli,.one .sli]⟩
def ti26 :TI:=⟨.sli 36,1,24,[.one .sli]⟩
def ti28 :TI:=⟨.str [(0,25),(3,3),(4,26)],5,104,[.one .sli,.one .sli,.one .sli,.one (.int .i64),.one .sli]⟩
def ti29 :TI:=⟨.sli 5,1,24,[.one .sli]⟩
def ti34 :TI:=⟨.str [(0,3),(1,3)],2,16,[.one (.int .i64),.one (.int .i64)]⟩
def ti36 :TI:=⟨.str [(0,3),(1,34),(3,34)],5,40,[.one (.int .i64),.one (.int .i64),.one (.int .i64),.one (.int .i64),.one (.int .i64)]⟩
def ti37 :TI:=⟨.int .i64,1,8,[.one (.int .i64)]⟩
def ti40 :TI:=⟨.str [(0,22),(1,22),(2,23)],3,72,[.one .sli,.one .sli,.one .sli]⟩
def ti44 :TI:=⟨.str [(0,3),(1,3)],2,16,[.one (.int .i64),.one (.int .i64)]⟩
def ti46 :TI:=⟨.sli 64,1,24,[.one .sli]⟩
def ti48 :TI:=⟨.str [(0,40),(3,3),(4,46)],5,104,[.one .sli,.one .sli,.one .sli,.one (.int .i64),.one .sli]⟩
def ti51 :TI:=⟨.str [(0,3),(1,3)],2,16,[.one (.int .i64),.one (.int .i64)]⟩
def ti54 :TI:=⟨.sli 56,1,24,[.one .sli]⟩
def ti56 :TI:=⟨.str [(0,3),(1,3)],2,16,[.one (.int .i64),.one (.int .i64)]⟩
def ti64 :TI:=⟨.str [(0,3),(1,51),(3,51)],5,40,[.one (.int .i64),.one (.int .i64),.one (.int .i64),.one (.int .i64),.one (.int .i64)]⟩
def ti67 :TI:=⟨.one,1,8,[.one .fn]⟩
def ti74 :TI:=⟨.one,1,8,[.one .ptr]⟩
def ti77 :TI:=⟨.one,1,8,[.one .fn]⟩
def ti80 :TI:=⟨.arr 6 3,6,48,[.rep 6 (.int .i64)]⟩
def ti82 :TI:=⟨.sli 51,1,24,[.one .sli]⟩
def ti84 :TI:=⟨.str [(0,48),(5,82),(6,80),(12,80)],18,224,[.one .sli,.one .sli,.one .sli,.one (.int .i64),.one .sli,.one .sli,.rep 6 (.int .i64),.rep 6 (.int .i64)]⟩
def ti86 :TI:=⟨.one,1,8,[.one .fn]⟩
def ti87 :TI:=⟨.one,1,8,[.one .mp]⟩
def ti92 :TI:=⟨.str [(0,3),(1,3),(2,3)],3,24,[.one (.int .i64),.one (.int .i64),.one (.int .i64)]⟩
def ti93 :TI:=⟨.sli 92,1,24,[.one .sli]⟩
def ti99 :TI:=⟨.one,1,8,[.one .fn]⟩
def tabL :List (Nat×TI):=[(3,ti3),(4,ti4),(5,ti5),(22,ti22),(23,ti23),(25,ti25),(26,ti26),(28,ti28),(29,ti29),(34,ti34),(36,ti36),(37,ti37),(40,ti40),(44,ti44),(46,ti46),(48,ti48),(51,ti51),(54,ti54),(56,ti56),(64,ti64),(67,ti67),(74,ti74),(77,ti77),(80,ti80),(82,ti82),(84,ti84),(86,ti86),(87,ti87),(92,ti92),(93,ti93),(99,ti99)]
def tab :TyTab:=fun t=>lk tabL t
def qr (n:Nat):List Nat:=List.range n
def qs (a n:Nat):List Nat:=List.range' a n
def qa (i:Nat)(p:List Nat):SE:=⟨i,false,p,false,0,none⟩
def qb (i:Nat)(p:List Nat):SE:=⟨i,true,p,false,0,none⟩
def sc3 :SC:=[(9,[qa 0 [],qa 1 [],qa 2 [1],qa 3 [],qa 4 [3],qa 5 (qs 1 4),qa 6 (qr 6),qa 7 (qr 7),qa 8 (qr 8),qa 9 [],qa 10 [],qa 11 [10],qa 12 [10,11],qa 13 [],qa 14 [13],qa 15 (qs 10 5),qa 16 (qs 9 7),qa 17 (qs 9 8),qa 18 (qs 9 9),qa 19 (qr 9),qb 20 (qr 20)]),(10,[qa 0 [],qa 1 [0],qa 2 [0,1],qa 3 [],qa 4 [],qa 5 [4],qa 6 [4,5],qa 7 [],qa 8 [7],qa 9 [7,8],qa 10 (qs 4 6),qa 11 (qs 4 7),qa 12 (qs 3 9),qa 13 (qr 13),qa 14 [],qa 15 [14],qa 16 [14,15],qa 17 [],qa 18 [],qa 19 [18],qa 20 [18,19],qa 21 [],qa 22 [21],qa 23 [21,22],qa 24 (qs 18 6),qa 25 (qs 18 7),qa 26 (qs 17 9),qa 27 (qs 14 13),qa 28 (qr 14),qb 29 (qr 29)]),(12,[qa 0 [],qa 1 [0],qa 3 [],qa 4 [3],qa 5 [3,4],qa 6 [],qa 7 [6],qa 8 [6,7],qa 9 (qs 3 6),qa 10 [],qa 11 [],qa 12 [10,11],qa 2 [0,1],qb 13 (qr 13),qb 14 (qr 14),qa 15 (qr 15),qa 16 (qr 15),qa 17 (qr 16),qb 18 (qr 18)])]
def sc4 :SC:=[]
def sc5 :SC:=[]
def sc7 :SC:=[]
def sc8 :SC:=[(1,[qa 0 [],qa 1 [0],qa 3 [],qa 4 [3],qa 7 [],qa 2 [0,1],qa 5 (qr 5),qa 6 (qr 6),qb 8 (qr 8)]),(5,[qa 0 [],qa 1 [0],qa 2 [],qa 3 [2],qa 4 [],qa 5 [2,3,4],qa 6 (qs 2 4),qa 7 (qs 2 5),qa 8 (qs 2 6),qb 9 (qr 9),qb 10 (qr 10),qb 11 (qr 11)])]
def sc9 :SC:=[(4,[qa 0 [],qa 1 [0],qa 3 [],qa 2 [0,1],qb 4 (qr 4),qb 5 (qr 5),⟨6,true,(qr 6),true,0,none⟩,qa 7 (qr 7),qa 8 (qr 8),qa 9 (qr 7),qa 10 (qs 0 7++qs 9 1),qb 11 (qr 11),qb 12 (qr 12)]),(7,[qa 0 [],qa 1 [],qa 2 [],qa 3 [2],qa 4 [2,3],qb 5 (qr 5)])]
def sc10 :SC:=[(10,[qa 0 [],qa 1 [],qa 2 [1],qa 3 [],qa 4 [],qa 5 [3,4],qa 6 [3,4,5],qa 7 (qs 1 6),qa 8 (qs 1 7),qb 9 (qr 9),qb 10 (qr 10)])]
def sc11 :SC:=[(1,[qa 0 [],qa 1 [0],qa 3 [],qa 4 [3],qa 6 [],qa 2 [0,1],qa 5 (qr 5),qb 7 (qr 7)]),(6,[qa 0 [],qa 1 [0],qa 2 [],qa 3 [2],qa 4 [],qa 5 [4],qa 7 [],qa 8 [7],qa 6 [4,5],qa 9 (qs 4 5),qa 10 (qs 2 8),qa 11 (qs 2 9),qb 12 (qr 12),qb 13 (qr 13),qb 14 (qr 14)])]
def sc12 :SC:=[]
def sc13 :SC:=[(5,[qa 0 [],qa 1 [0],qa 2 [0,1],qa 3 [0,1,2],qa 4 [],qa 5 [4],qa 6 [4,5],qa 7 [4,5,6],qb 8 (qr 8)])]
def sc14 :SC:=[]
def sc15 :SC:=[]
def sc16 :SC:=[(8,[qa 0 [],qa 1 [0],qa 2 [],qa 3 [0,1,2],qa 4 (qr 4),qa 5 (qr 5),qa 6 [],qa 7 [6],qa 8 [6,7],qb 9 (qr 9)])]
def sc17 :SC:=[]
def sc18 :SC:=[(1,[qa 0 [],qa 1 [0],qa 2 [],qa 3 [2],qb 4 (qr 4),⟨5,true,(qr 5),true,0,none⟩,qa 6 (qr 6),qa 7 (qr 7),qa 8 (qr 6),qa 9 (qs 0 6++qs 8 1),qa 10 (qs 0 6++qs 8 2),qb 11 (qr 11),qb 12 (qr 12),⟨13,true,(qr 13),true,0,none⟩,qa 14 (qr 14),qa 15 (qr 15),qa 16 (qr 14),qa 17 (qs 0 14++qs 16 1),qb 18 (qr 18),qb 19 (qr 19),qb 20 (qr 20)])]
def sc19 :SC:=[]
def sc20 :SC:=[(1,[qa 0 [],qa 1 [0],qa 2 [0,1],qa 3 [],qa 4 [],qa 5 [4],qa 6 [4,5],qa 7 (qs 3 4),qa 8 (qs 3 5),qb 9 (qr 9),qb 10 (qr 10)])]
def sc21 :SC:=[]
def sc22 :SC:=[(1,[qa 0 [],qa 1 [0],qa 2 [],qa 4 [],qa 5 [4],qa 6 [],qa 3 [0,1,2],qb 7 (qr 7),qb 8 (qr 8),qb 9 (qr 9)]),(2,[qa 0 [],qa 1 [],qa 2 [1],qa 3 [],qa 4 [1,2,3],qa 5 (qs 1 4),qa 6 (qr 6),qa 7 [],qa 8 [],qa 9 [8],qa 10 [],qa 11 [8,9,10],qa 12 (qs 8 4),qa 13 (qs 7 6),qa 14 (qr 7),qb 15 (qr 15)]),(3,[qa 0 [],qa 1 [0],qa 2 [],qa 3 [2],qa 4 (qr 4),qa 5 (qr 5),qa 6 [],qa 7 [6],qa 8 [],qa 9 [6,7,8],qa 10 (qs 6 4),qa 11 (qr 11),qa 12 [],qa 13 [12],qa 14 [],qa 15 [14],qa 16 (qs 12 4),qa 17 (qs 12 5),qa 18 [],qa 19 [18],qa 20 [],qa 21 [18,19,20],qa 22 (qs 18 4),qa 23 (qs 12 11),qa 24 (qr 12),qb 25 (qr 25)]),(8,[qa 0 [],qa 1 [],qa 2 [1],qa 3 [],qa 4 [3],qa 5 (qs 1 4),qa 6 (qs 1 5),qa 7 [],qa 8 [7],qa 9 (qs 1 8),qa 10 (qs 1 9),qa 11 [],qa 12 [11],qa 13 (qs 1 12),qb 14 (qr 14),qb 15 (qr 15)])]
def sc23 :SC:=[]
def sc24 :SC:=[]
def sc25 :SC:=[]
def sc27 :SC:=[(9,[qa 0 [],qa 1 [],qa 2 [1],qa 3 [1,2],qa 4 [1,2,3],qa 5 [],qa 6 [5],qb 7 (qs 1 6),qb 8 (qr 8),qb 9 (qr 9),qb 10 (qr 10)]),(10,[qa 0 [],qa 1 [],qa 2 [],qa 3 [],qa 4 [],qa 5 [4],qa 6 [],⟨7,false,[6],false,1,none⟩,qa 8 [0],qa 9 [0,8],qa 10 (qs 0 2++qs 4 2++qs 8 2),qa 12 [2],qa 13 [2,12],⟨11,true,(qs 0 2++qs 4 2++qs 8 3),false,2,none⟩,qb 14 (qr 14),qb 15 (qr 15)])]
def sc28 :SC:=[(6,[qa 0 [],qa 1 [],qa 2 [0,1],qa 3 [0,1,2],qa 4 [],qa 5 [4],qa 6 [],qa 7 [6],qb 8 (qr 8),qb 9 (qr 9)])]
def sc29 :SC:=[]
def sc30 :SC:=[]
def sc31 :SC:=[(4,[qa 0 [],qa 1 [],qa 2 [1],qa 3 [1,2],qa 4 [1,2,3],qa 5 [],qa 6 [5],qa 7 [],qa 8 [7],qa 9 [7,8],qa 10 (qs 5 5),qa 11 (qs 1 10),qb 12 (qr 12),qb 13 (qr 13)])]
def sc32 :SC:=[]
def sc33 :SC:=[(1,[qa 0 [],qa 1 [0],qa 2 [],qa 3 [2],qa 4 [2,3],qa 5 [2,3,4],qa 6 (qs 2 4),qa 7 (qs 2 5),qa 8 (qs 2 6),qb 9 (qr 9),qb 10 (qr 10)])]
def sc34 :SC:=[]
def sc35 :SC:=[(4,[qa 0 [],qa 1 [],qa 2 [0,1],qa 3 [0,1,2],qa 4 [],qb 5 (qr 5),qb 6 (qr 6),⟨7,true,(qr 7),true,0,none⟩,qb 8 (qr 8),qb 9 (qr 9),⟨10,true,(qr 10),true,0,none⟩,qa 11 (qr 11),qa 12 (qr 11),qa 13 (qr 13),qa 14 (qr 14),qa 15 (qr 11),qa 16 (qr 11),qa 17 (qs 0 11++qs 16 1),qa 18 (qs 0 11++qs 15 3),qa 19 (qs 0 11++qs 15 4),qb 20 (qr 20),qb 21 (qr 21),qb 22 (qr 22)])]
def sc36 :SC:=[]
def sc37 :SC:=[]
def sc38 :SC:=[]
def sc39 :SC:=[]
def sc40 :SC:=[]
def sc41 :SC:=[]
def sc42 :SC:=[]
def sc43 :SC:=[]
def sc44 :SC:=[(1,[qa 0 [],qa 1 [0],qa 2 [],qa 3 [2],qa 5 [],qa 6 [5],qa 12 [],qa 4 [2,3],qa 7 (qs 2 5),qa 8 (qr 8),qa 9 (qr 9),qa 10 (qr 10),qa 11 (qr 10),qb 13 (qs 0 11++qs 12 1),qb 14 (qr 14)])]
def sc45 :SC:=[]
def sc46 :SC:=[]
def sc47 :SC:=[]
def sc48 :SC:=[]
def sc49 :SC:=[]
def sc50 :SC:=[]
def sc51 :SC:=[]
def sc52 :SC:=[]
def sc53 :SC:=[]
def sc54 :SC:=[]
def sc55 :SC:=[(4,[qa 0 [],qa 1 [0],qa 3 [],qa 2 [0,1],qb 4 (qr 4),qb 5 (qr 5),⟨6,true,(qr 6),true,0,none⟩,qa 7 (qr 7),qa 8 (qr 8),qa 10 (qr 7),qa 9 (qr 9),qb 11 (qr 11),qb 12 (qr 12),qb 13 (qr 13)]),(9,[qa 0 [],qa 1 [0],qa 2 [],qa 3 [0,1,2],qa 5 [],qa 6 [5],qa 7 [],qa 8 [5,6,7],qa 4 (qr 4),qb 9 (qr 9),qb 10 (qr 10)])]
def sc56 :SC:=[]
def sc57 :SC:=[]
def sc58 :SC:=[]
def sc59 :SC:=[]
def sc60 :SC:=[]
def sc61 :SC:=[]
def sc62 :SC:=[]
def sc63 :SC:=[]
def sc64 :SC:=[]
def sc65 :SC:=[]
def sc66 :SC:=[]
theorem tyok :TyOk Try.prog tab:=tyOk_of (l:=tabL) (by kernel_rfl) (by kernel_rfl)
theorem mix :Try.prog.follows .mixedOrders=true:=by kernel_rfl
end Go.Proofs.Ytdacdjdccibaiaa

namespace Go.Proofs.Ytdacdjdccibaiaa
def cellN (l:List Int)(n:Int):Nat→Nat→Nat
  |0,i=>i
  |f+1,i=>if i+2<l.length∧l.getD (i+1) 0≤n then cellN l n f (i+1)else i
def risingAt (l:List Int)(most:Int)(i:Nat):Prop:=0≤l.getD i 0∧l.getD i 0≤most∧(0<i→l.getD (i-1) 0<l.getD i 0)
instance (l:List Int) (most:Int) (i:Nat):Decidable (risingAt l most i):=by unfold risingAt;infer_instance
def rising (l:List Int)(most:Int):Bool:=decide (∀i,i<l.length→risingAt l most i)
theorem rising_spec {l:List Int} {most:Int}(h:rising l most=true):∀i,i<l.length→risingAt l most i:=of_decide_eq_true h
theorem rising_lt {l:List Int} {most:Int}(h:rising l most=true):∀{i j:Nat},i<j→j<l.length→l.getD i 0<l.getD j 0:=by
  intro i j hij
  induction j with
  |zero=>omega
  | succ j ih=>
    intro hj
    have h1:=(rising_spec h (j+1) hj).2.2 (by omega)
    rw [Nat.add_sub_cancel]at h1
    by_cases e:i=j
    · subst e;exact h1
    · have:=ih (by omega) (by omega);omega
structure InCell (l:List Int)(n:Int)(i:Nat):Prop where
  lt:i+2≤l.length
  lo:l.getD i 0≤n
  hi:i+2=l.length∨n<l.getD (i+1) 0
theorem cellN_in {l:List Int} {n:Int}:∀(f i:Nat),i+2≤l.length→l.length≤f+i+1→l.getD i 0≤n→InCell l n (cellN l n f i):=by
  intro f
  induction f with
  |zero=>intro i h1 h2 h3;omega
  | succ f ih=>
    intro i h1 h2 h3
    unfold cellN
    split
    · rename_i h
      exact ih (i+1) (by omega) (by omega) h.2
    · rename_i h
      refine⟨h1,h3,?_⟩
      by_cases e:i+2=l.length
      · exact .inl e
      · right
        refine Int.not_le.1 fun q=>h ⟨by omega,q⟩
theorem cell_in {l:List Int} {n:Int}(h2:2≤l.length)(h0:l.getD 0 0≤n):InCell l n (cellN l n l.length 0):=cellN_in l.length 0 (by omega) (by omega) h0
def mixAt (a b c d v00 v10 v01 v11 w m:Int):Int:=
  (2*(0+(v00*((b-a-(w-a))*(d-c-(m-c))))+(v10*((w-a)*(d-c-(m-c))))+(v01*((b-a-(w-a))*(m-c)))+(v11*((w-a)*(m-c))))+(b-a)*(d-c)).tdiv (2*(b-a)*(d-c))
def atI (tw tm:List Int)(tv:List (List Int))(w m:Int)(i k:Nat):Int:=
  mixAt (tw.getD i 0) (tw.getD (i+1) 0) (tm.getD k 0) (tm.getD (k+1) 0) ((tv.getD i []).getD k 0) ((tv.getD (i+1) []).getD k 0) ((tv.getD i []).getD (k+1) 0) ((tv.getD (i+1) []).getD (k+1) 0) w m
def atS (tw tm:List Int)(tv:List (List Int))(w m:Int):Int:=atI tw tm tv w m (cellN tw w tw.length 0) (cellN tm m tm.length 0)
def faultT (tw tm:List Int)(tv:List (List Int)):Int:=
  if 5<tw.length∨5<tm.length∨5<tv.length then 3
  else if tw.length<2∨tm.length<2∨rising tw 40=false∨rising tm 60=false∨tv.length≠tw.length then 1
  else if ∀i,i<tv.length→(tv.getD i []).length=tm.length∧∀k,k<tm.length→0≤(tv.getD i []).getD k 0∧(tv.getD i []).getD k 0≤2000 then 0 else 1
structure TOk (tw tm:List Int)(tv:List (List Int)):Prop where
  w5:tw.length≤5
  m5:tm.length≤5
  w2:2≤tw.length
  m2:2≤tm.length
  rw:rising tw 40=true
  rm:rising tm 60=true
  len:tv.length=tw.length
  row:∀i,i<tv.length→(tv.getD i []).length=tm.length
  val:∀i,i<tv.length→∀k,k<tm.length→0≤(tv.getD i []).getD k 0∧(tv.getD i []).getD k 0≤2000
theorem faultT_zero {tw tm:List Int} {tv:List (List Int)}(h:faultT tw tm tv=0):TOk tw tm tv:=by
  unfold faultT at h
  split at h
  · omega
  · rename_i h1
    split at h
    · omega
    · rename_i h2
      split at h
      · rename_i h3
        refine⟨by omega,by omega,by omega,by omega,?_,?_,by omega,fun i hi=>(h3 i hi).1,fun i hi=>(h3 i hi).2⟩
        · cases hr:rising tw 40 with
          |true=>rfl
          |false=>exact absurd (.inr (.inr (.inl hr))) h2
        · cases hr:rising tm 60 with
          |true=>rfl
          |false=>exact absurd (.inr (.inr (.inr (.inl hr)))) h2
      · omega
theorem faultT_ok {tw tm:List Int} {tv:List (List Int)}(h:TOk tw tm tv):faultT tw tm tv=0:=by
  unfold faultT
  have a:=h.w5;have b:=h.m5;have c:=h.w2;have d:=h.m2;have e:=h.len
  rw [if_neg (by omega),if_neg (by simp only [h.rw,h.rm];simp;omega),if_pos (fun i hi=>⟨h.row i hi,h.val i hi⟩)]
def fidx (p:Nat→Bool):Nat→Nat→Int
  |0,_=> -1
  |n+1,i=>if p i=true then fidx p n (i+1)else i
theorem fidx_stop {p:Nat→Bool} {n i:Nat}(hn:0<n)(h:p i=false):fidx p n i=i:=by
  cases n with
  |zero=>omega
  |succ n=>simp [fidx,h]
theorem fidx_go {p:Nat→Bool} {n i:Nat}(hn:0<n)(h:p i=true):fidx p n i=fidx p (n-1) (i+1):=by
  cases n with
  |zero=>omega
  |succ n=>simp [fidx,h]
theorem fidx_iff {p:Nat→Bool}:∀{n i:Nat},0≤fidx p n i↔∃j,i≤j∧j<i+n∧p j=false:=by
  intro n
  induction n with
  | zero => intro i;simp only [fidx];constructor
            · intro h;omega
            · rintro⟨j,h1,h2,_⟩;omega
  | succ n ih=>
    intro i
    cases h:p i with
    | true=>
      rw [fidx_go (by omega) h,Nat.add_sub_cancel,ih]
      constructor
      · rintro⟨j,h1,h2,h3⟩;exact⟨j,by omega,by omega,h3⟩
      · rintro⟨j,h1,h2,h3⟩
        refine⟨j,?_,by omega,h3⟩
        by_cases e:j=i
        · subst e;rw [h]at h3;cases h3
        · omega
    | false=>
      rw [fidx_stop (by omega) h]
      exact⟨fun _=>⟨i,by omega,by omega,h⟩,fun _=>by omega⟩
theorem all_iff {p:Nat→Bool} {n:Nat}:(!(decide (0≤fidx p n 0)))=decide (∀i,i<n→p i=true):=by
  rw [Bool.eq_iff_iff]
  simp only [Bool.not_eq_true',decide_eq_false_iff_not,decide_eq_true_eq,fidx_iff]
  constructor
  · intro h i hi
    cases hp:p i with
    |true=>rfl
    |false=>exact absurd ⟨i,by omega,by omega,hp⟩ h
  · rintro h ⟨j,_,h2,h3⟩
    rw [h j (by omega)]at h3;cases h3
structure Pt (tw tm:List Int)(w m:Int):Prop where
  w0:tw.getD 0 0≤w
  w1:w≤tw.getD (tw.length-1) 0
  m0:tm.getD 0 0≤m
  m1:m≤tm.getD (tm.length-1) 0
theorem InCell.le_hi {l:List Int} {n:Int} {i:Nat}(h:InCell l n i)(h1:n≤l.getD (l.length-1) 0):n≤l.getD (i+1) 0:=by
  rcases h.hi with q|q
  · rw [show i+1=l.length-1 by omega];exact h1
  · omega
theorem mix_eq (a b c d v00 v10 v01 v11 w m:Int):0+(v00*((b-a-(w-a))*(d-c-(m-c))))+(v10*((w-a)*(d-c-(m-c))))+(v01*((b-a-(w-a))*(m-c)))+(v11*((w-a)*(m-c))) =
    v00*(b-w)*(d-m)+v10*(w-a)*(d-m)+v01*(b-w)*(m-c)+v11*(w-a)*(m-c):=by
  rw [show b-a-(w-a)=b-w by omega,show d-c-(m-c)=d-m by omega,Int.zero_add]
  simp only [Int.mul_assoc]
end Go.Proofs.Ytdacdjdccibaiaa

namespace Go.Proofs.Ytdacdjdccibaiaa
open Go Go.Eng Go.Proofs
set_option maxRecDepth 10000
theorem within113 (n lo hi:Int):FSpec Try.prog 40 [(.int .i64 (.sym fun _=>n)),(.int .i64 (.sym fun _=>lo)),(.int .i64 (.sym fun _=>hi))] [] (fun r _=>r=(.bool (.sym fun _=>decide (lo≤n)&&decide (n≤hi)))):=by
  refine FSpec.is fun R hR=>qW (sc:=sc40) tyok mix Try.func40 rfl Try.call40 (by kernel_rfl) (by kernel_rfl) ?_
  generalize Try.prog=P
  cbv
  repeat' (first
    |with_reducible refine hold ?_ ?_
    |with_reducible refine And.intro ?_ ?_
    |(with_reducible refine quo_intro ?_ ?_ ?k;case' k=>try cbv)
    |(with_reducible refine rem_intro ?_ ?k;case' k=>try cbv)
    |(with_reducible intro _;try cbv))
  all_goals subst hR
  all_goals refine qF ?_
  all_goals simp only [IX.den,BX.den,addI_den,subI_den,mulI_den,eqB_den,neB_den,ltB_den,leB_den,gtB_den,geB_den]at *
  all_goals simp_all
  all_goals (try omega)
theorem within64 (n lo hi:Int):FSpec Try.prog 34 [(.int .i64 (.sym fun _=>n)),(.int .i64 (.sym fun _=>lo)),(.int .i64 (.sym fun _=>hi))] [] (fun r _=>r=(.bool (.sym fun _=>decide (lo≤n)&&decide (n≤hi)))):=by
  refine FSpec.is fun R hR=>qW (sc:=sc34) tyok mix Try.func34 rfl Try.call34 (by kernel_rfl) (by kernel_rfl) ?_
  generalize Try.prog=P
  cbv
  repeat' (first
    |with_reducible refine hold ?_ ?_
    |with_reducible refine And.intro ?_ ?_
    |(with_reducible refine quo_intro ?_ ?_ ?k;case' k=>try cbv)
    |(with_reducible refine rem_intro ?_ ?k;case' k=>try cbv)
    |(with_reducible intro _;try cbv))
  all_goals subst hR
  all_goals refine qF ?_
  all_goals simp only [IX.den,BX.den,addI_den,subI_den,mulI_den,eqB_den,neB_den,ltB_den,leB_den,gtB_den,geB_den]at *
  all_goals simp_all
  all_goals (try omega)
theorem tenths75 (g s:Int)(h:inR .i64 (g*s)∧inR .i64 ((g*s).tdiv 100)):FSpec Try.prog 29 [(.int .i64 (.sym fun _=>g)),(.int .i64 (.sym fun _=>s))] [] (fun r _=>r=(.int .i64 (.sym fun _=>(g*s).tdiv 100))):=by
  refine FSpec.is fun R hR=>qW (sc:=sc29) tyok mix Try.func29 rfl Try.call29 (by kernel_rfl) (by kernel_rfl) ?_
  generalize Try.prog=P
  cbv
  repeat' (first
    |with_reducible refine hold ?_ ?_
    |with_reducible refine And.intro ?_ ?_
    |(with_reducible refine quo_intro ?_ ?_ ?k;case' k=>try cbv)
    |(with_reducible refine rem_intro ?_ ?k;case' k=>try cbv)
    |(with_reducible intro _;try cbv))
  all_goals (try subst hR)
  all_goals first
    |exact qE rfl
    |exact h.1
    |exact h.2
    |(show(100:Int)≠0;decide)
theorem has124 (lo hi n:Int):FSpec Try.prog 21 [(.agg [(.int .i64 (.sym fun _=>lo)),(.int .i64 (.sym fun _=>hi))]),(.int .i64 (.sym fun _=>n))] [] (fun r _=>r=(.bool (.sym fun _=>decide (lo≤n)&&decide (n≤hi)))):=by
  have c113:= @within113
  refine FSpec.is fun R hR=>qW (sc:=sc21) tyok mix Try.func21 rfl Try.call21 (by kernel_rfl) (by kernel_rfl) ?_
  generalize Try.prog=P at c113⊢
  cbv
  repeat' (first
    |with_reducible refine hold ?_ ?_
    |with_reducible refine And.intro ?_ ?_
    |(with_reducible refine quo_intro ?_ ?_ ?k;case' k=>try cbv)
    |(with_reducible refine rem_intro ?_ ?k;case' k=>try cbv)
    |(with_reducible intro _;try cbv)
    |(refine call_intro (c113 _ _ _) (by(repeat' (first|exact qB|refine qD ?_ ?_|exact qE rfl|exact qF rfl|exact Fit.refl _|exact qA|refine qC ?_ rfl ?_))) ?_;try cbv))
  subst hR
  exact qF rfl
end Go.Proofs.Ytdacdjdccibaiaa

namespace Go.Proofs.Ytdacdjdccibaiaa
open Go Go.Eng Go.Proofs
set_option maxRecDepth 10000
theorem cell128 (l:List Int)(n:Int)(h:2≤l.length∧l.length≤1000):FSpec Try.prog 41 [(.sl 1 (.sym fun _=>zi l.length) (fun ix=>[.int .i64 (.sym fun _=>l.getD ix.den.toNat 0)])),.int .i64 (.sym fun _=>n)] [] (fun r _=>r = .int .i64 (.sym fun _=>zi (cellN l n l.length 0))):=by
  refine FSpec.is fun R hR=>qW (sc:=sc41) tyok mix Try.func41 rfl Try.call41 (by kernel_rfl) (by kernel_rfl) ?_
  generalize Try.prog=P
  cbv
  refine⟨none,[],{i:Nat // i<l.length∧cellN l n l.length 0=cellN l n (l.length-i) i},fun i=>⟨[(5,.int .i64 (.sym fun _=>zi i.1)),(0,(.sl 1 (.sym fun _=>zi l.length) (fun ix=>[.int .i64 (.sym fun _=>l.getD ix.den.toNat 0)]))),(1,.int .i64 (.sym fun _=>n))],[],1⟩,fun i=>l.length-i.1,?_,?_⟩
  · refine⟨⟨0,by omega,rfl⟩,?_⟩
    cbv
    repeat' (first
      |with_reducible refine hold ?_ ?_
      |with_reducible refine And.intro ?_ ?_)
    all_goals first
      |trivial
      |exact qM (qE (by rfl))
      |exact qM (Fit.refl _)
  · rintro⟨i,hi⟩
    have hf:∃f,l.length-i=f+1:=⟨l.length-i-1,by omega⟩
    obtain⟨f,hf⟩:=hf
    have hc:=hi.2
    rw [hf,cellN]at hc
    cbv
    repeat' (first
    |with_reducible refine hold ?_ ?_
    |with_reducible refine And.intro ?_ ?_
    |(with_reducible refine quo_intro ?_ ?_ ?k;case' k=>try cbv)
    |(with_reducible refine rem_intro ?_ ?k;case' k=>try cbv)
    |(with_reducible intro _;try cbv))
    all_goals simp only [zi_den,den_sym,den_lit,bden_sym,bden_lit,addI_den,subI_den,mulI_den,eqB_den,neB_den,ltB_den,leB_den,gtB_den,geB_den,decide_eq_true_eq,decide_eq_false_iff_not,Bool.not_true]at *
    all_goals first
      |(refine qN ?_;omega)
      |(simp only [Hold];omega)
      |skip
    · rename_i h1 h2
      have e:(((i:Int)+1).toNat)=i+1:=by omega
      rw [e]at h2
      rw [if_pos ⟨by omega,h2⟩]at hc
      refine⟨⟨i+1,by omega,by rw [show l.length-(i+1)=f by omega];exact hc⟩,by simp only [];omega,?_⟩
      cbv
      repeat' (first
        |with_reducible refine hold ?_ ?_
        |with_reducible refine And.intro ?_ ?_)
      all_goals first
        |trivial
        |exact qM (qE (by rfl))
        |exact qM (Fit.refl _)
    · rename_i h1 h2
      have e:(((i:Int)+1).toNat)=i+1:=by omega
      rw [e]at h2
      rw [if_neg (fun q=>by omega)]at hc
      subst hR
      exact qE (by rw [den_sym,den_sym,hc])
    · rename_i h1
      rw [if_neg (fun q=>by omega)]at hc
      subst hR
      exact qE (by rw [den_sym,den_sym,hc])
end Go.Proofs.Ytdacdjdccibaiaa

namespace Go.Proofs.Ytdacdjdccibaiaa
open Go Go.Eng Go.Proofs
set_option maxRecDepth 10000
theorem in31 (n lo hi:Int):FSpec Try.prog 17 [(.int .i64 (.sym fun _=>n)),(.int .i64 (.sym fun _=>lo)),(.int .i64 (.sym fun _=>hi))] [] (fun r _=>r=(.bool (.sym fun _=>decide (lo≤n)&&decide (n≤hi)))):=by
  refine FSpec.is fun R hR=>qW (sc:=sc17) tyok mix Try.func17 rfl Try.call17 (by kernel_rfl) (by kernel_rfl) ?_
  generalize Try.prog=P
  cbv
  repeat' (first
    |with_reducible refine hold ?_ ?_
    |with_reducible refine And.intro ?_ ?_
    |(with_reducible refine quo_intro ?_ ?_ ?k;case' k=>try cbv)
    |(with_reducible refine rem_intro ?_ ?k;case' k=>try cbv)
    |(with_reducible intro _;try cbv))
  all_goals (try subst hR)
  all_goals refine qF ?_
  all_goals (try simp only [zi_den,den_sym,den_lit,bden_sym,bden_lit,addI_den,subI_den,mulI_den,eqB_den,neB_den,ltB_den,leB_den,gtB_den,geB_den,decide_eq_true_eq,decide_eq_false_iff_not,Bool.not_true]at *)
  all_goals simp_all
  all_goals (try omega)
theorem entry103 (a b:Int):FSpec Try.prog 56 [(.agg [(.int .i64 (.sym fun _=>a)),(.int .i64 (.sym fun _=>b))])] [] (fun r _=>r=(.agg [(.int .i64 (.sym fun _=>a)),(.int .i64 (.sym fun _=>b))])):=by
  refine FSpec.is fun R hR=>qW (sc:=sc56) tyok mix Try.func56 rfl Try.call56 (by kernel_rfl) (by kernel_rfl) ?_
  generalize Try.prog=P
  cbv
  repeat' (first
    |with_reducible refine hold ?_ ?_
    |with_reducible refine And.intro ?_ ?_
    |(with_reducible refine quo_intro ?_ ?_ ?k;case' k=>try cbv)
    |(with_reducible refine rem_intro ?_ ?k;case' k=>try cbv)
    |(with_reducible intro _;try cbv))
  all_goals (try subst hR)
  all_goals (try simp only [zi_den,den_sym,den_lit,bden_sym,bden_lit,addI_den,subI_den,mulI_den,eqB_den,neB_den,ltB_den,leB_den,gtB_den,geB_den,decide_eq_true_eq,decide_eq_false_iff_not,Bool.not_true]at *)
  all_goals first
    |(refine qN ?_;omega)
    |(simp only [Hold];omega)
    |(simp [Hold];omega)
    |skip
  all_goals (repeat' (first|exact qA|exact qB|refine qC ?_ rfl ?_|refine qD ?_ ?_|exact qE (by rfl)|exact qF (by rfl)|exact Fit.refl _))
theorem to25 (a b:Int):FSpec Try.prog 30 [(.agg [(.int .i64 (.sym fun _=>a)),(.int .i64 (.sym fun _=>b))])] [] (fun r _=>r=(.agg [(.int .i64 (.sym fun _=>a)),(.int .i64 (.sym fun _=>b))])):=by
  refine FSpec.is fun R hR=>qW (sc:=sc30) tyok mix Try.func30 rfl Try.call30 (by kernel_rfl) (by kernel_rfl) ?_
  generalize Try.prog=P
  cbv
  repeat' (first
    |with_reducible refine hold ?_ ?_
    |with_reducible refine And.intro ?_ ?_
    |(with_reducible refine quo_intro ?_ ?_ ?k;case' k=>try cbv)
    |(with_reducible refine rem_intro ?_ ?k;case' k=>try cbv)
    |(with_reducible intro _;try cbv))
  all_goals (try subst hR)
  all_goals (try simp only [zi_den,den_sym,den_lit,bden_sym,bden_lit,addI_den,subI_den,mulI_den,eqB_den,neB_den,ltB_den,leB_den,gtB_den,geB_den,decide_eq_true_eq,decide_eq_false_iff_not,Bool.not_true]at *)
  all_goals first
    |(refine qN ?_;omega)
    |(simp only [Hold];omega)
    |(simp [Hold];omega)
    |skip
  all_goals (repeat' (first|exact qA|exact qB|refine qC ?_ rfl ?_|refine qD ?_ ?_|exact qE (by rfl)|exact qF (by rfl)|exact Fit.refl _))
theorem value111 (n:Int):FSpec Try.prog 49 [(.int .i64 (.sym fun _=>n))] [] (fun r _=>r=(.bool (.sym fun _=>decide (0≤n)&&decide (n≤2000)))):=by
  have c113:= @within113
  refine FSpec.is fun R hR=>qW (sc:=sc49) tyok mix Try.func49 rfl Try.call49 (by kernel_rfl) (by kernel_rfl) ?_
  generalize Try.prog=P at c113⊢
  cbv
  repeat' (first
    |with_reducible refine hold ?_ ?_
    |with_reducible refine And.intro ?_ ?_
    |(with_reducible refine quo_intro ?_ ?_ ?k;case' k=>try cbv)
    |(with_reducible refine rem_intro ?_ ?k;case' k=>try cbv)
    |(with_reducible intro _;try cbv)
    |(refine call_intro (c113 _ _ _) (by(repeat' (first|exact qB|refine qD ?_ ?_|exact qE (by rfl)|exact qF (by rfl)|exact Fit.refl _|exact qA|refine qC ?_ rfl ?_))) ?_;try cbv))
  all_goals (try subst hR)
  all_goals (try simp only [zi_den,den_sym,den_lit,bden_sym,bden_lit,addI_den,subI_den,mulI_den,eqB_den,neB_den,ltB_den,leB_den,gtB_den,geB_den,decide_eq_true_eq,decide_eq_false_iff_not,Bool.not_true]at *)
  all_goals first
    |(refine qN ?_;omega)
    |(simp only [Hold];omega)
    |(simp [Hold];omega)
    |skip
  all_goals (repeat' (first|exact qA|exact qB|refine qC ?_ rfl ?_|refine qD ?_ ?_|exact qE (by rfl)|exact qF (by rfl)|exact Fit.refl _))
theorem last50 (l:List Int)(h:1≤l.length∧l.length≤1000):FSpec Try.prog 36 [(.sl 1 (.sym fun _=>zi (l).length) (fun ix=>[.int .i64 (.sym fun _=>(l).getD ix.den.toNat 0)]))] [] (fun r _=>r=(.int .i64 (.sym fun _=>l.getD (l.length-1) 0))):=by
  refine FSpec.is fun R hR=>qW (sc:=sc36) tyok mix Try.func36 rfl Try.call36 (by kernel_rfl) (by kernel_rfl) ?_
  generalize Try.prog=P
  cbv
  repeat' (first
    |with_reducible refine hold ?_ ?_
    |with_reducible refine And.intro ?_ ?_
    |(with_reducible refine quo_intro ?_ ?_ ?k;case' k=>try cbv)
    |(with_reducible refine rem_intro ?_ ?k;case' k=>try cbv)
    |(with_reducible intro _;try cbv))
  all_goals (try subst hR)
  all_goals (try simp only [zi_den,den_sym,den_lit,bden_sym,bden_lit,addI_den,subI_den,mulI_den,eqB_den,neB_den,ltB_den,leB_den,gtB_den,geB_den,decide_eq_true_eq,decide_eq_false_iff_not,Bool.not_true]at *)
  all_goals first
    |(refine qN ?_;omega)
    |(simp only [Hold];omega)
    |(simp [Hold];omega)
    |skip
  · refine qE ?_
    rw [den_sym,den_sym]
    congr 1
    omega
theorem span117 (l:List Int)(h:1≤l.length∧l.length≤1000):FSpec Try.prog 20 [(.sl 1 (.sym fun _=>zi (l).length) (fun ix=>[.int .i64 (.sym fun _=>(l).getD ix.den.toNat 0)]))] [] (fun r _=>r=(.agg [(.int .i64 (.sym fun _=>l.getD 0 0)),(.int .i64 (.sym fun _=>l.getD (l.length-1) 0))])):=by
  refine FSpec.is fun R hR=>qW (sc:=sc20) tyok mix Try.func20 rfl Try.call20 (by kernel_rfl) (by kernel_rfl) ?_
  generalize Try.prog=P
  cbv
  repeat' (first
    |with_reducible refine hold ?_ ?_
    |with_reducible refine And.intro ?_ ?_
    |(with_reducible refine quo_intro ?_ ?_ ?k;case' k=>try cbv)
    |(with_reducible refine rem_intro ?_ ?k;case' k=>try cbv)
    |(with_reducible intro _;try cbv))
  all_goals (try subst hR)
  all_goals (try simp only [zi_den,den_sym,den_lit,bden_sym,bden_lit,addI_den,subI_den,mulI_den,eqB_den,neB_den,ltB_den,leB_den,gtB_den,geB_den,decide_eq_true_eq,decide_eq_false_iff_not,Bool.not_true]at *)
  all_goals first
    |(refine qN ?_;omega)
    |(simp only [Hold];omega)
    |(simp [Hold];omega)
    |skip
  · refine qC (qE (by rfl)) rfl (qC (qE ?_) rfl qA)
    rw [den_sym,den_sym]
    congr 1
    omega
theorem holds118 (a b c d:Int):FSpec Try.prog 24 [(.agg [(.int .i64 (.sym fun _=>a)),(.int .i64 (.sym fun _=>b))]),(.agg [(.int .i64 (.sym fun _=>c)),(.int .i64 (.sym fun _=>d))])] [] (fun r _=>r=(.bool (.sym fun _=>decide (c≤d)&&(decide (a≤c)&&decide (c≤b))&&(decide (a≤d)&&decide (d≤b))))):=by
  have c124:= @has124
  refine FSpec.is fun R hR=>qW (sc:=sc24) tyok mix Try.func24 rfl Try.call24 (by kernel_rfl) (by kernel_rfl) ?_
  generalize Try.prog=P at c124⊢
  cbv
  repeat' (first
    |with_reducible refine hold ?_ ?_
    |with_reducible refine And.intro ?_ ?_
    |(with_reducible refine quo_intro ?_ ?_ ?k;case' k=>try cbv)
    |(with_reducible refine rem_intro ?_ ?k;case' k=>try cbv)
    |(with_reducible intro _;try cbv)
    |(refine call_intro (c124 _ _ _) (by(repeat' (first|exact qB|refine qD ?_ ?_|exact qE (by rfl)|exact qF (by rfl)|exact Fit.refl _|exact qA|refine qC ?_ rfl ?_))) ?_;try cbv))
  all_goals (try subst hR)
  all_goals refine qF ?_
  all_goals (try simp only [zi_den,den_sym,den_lit,bden_sym,bden_lit,addI_den,subI_den,mulI_den,eqB_den,neB_den,ltB_den,leB_den,gtB_den,geB_den,decide_eq_true_eq,decide_eq_false_iff_not,Bool.not_true]at *)
  all_goals simp_all
  all_goals (try omega)
theorem list87 (l:List Int)(h:l.length≤1000):FSpec Try.prog 23 [(.sl 1 (.sym fun _=>zi (l).length) (fun ix=>[.int .i64 (.sym fun _=>(l).getD ix.den.toNat 0)]))] [] (fun r _=>r=(.sl 1 (.sym fun _=>zi (l).length) (fun ix=>[.int .i64 (.sym fun _=>(l).getD ix.den.toNat 0)]))):=by
  refine FSpec.is fun R hR=>qW (sc:=sc23) tyok mix Try.func23 rfl Try.call23 (by kernel_rfl) (by kernel_rfl) ?_
  generalize Try.prog=P
  cbv
  repeat' (first
    |with_reducible refine hold ?_ ?_
    |with_reducible refine And.intro ?_ ?_
    |(with_reducible refine quo_intro ?_ ?_ ?k;case' k=>try cbv)
    |(with_reducible refine rem_intro ?_ ?k;case' k=>try cbv)
    |(with_reducible intro _;try cbv))
  all_goals (try subst hR)
  all_goals (try simp only [zi_den,den_sym,den_lit,bden_sym,bden_lit,addI_den,subI_den,mulI_den,eqB_den,neB_den,ltB_den,leB_den,gtB_den,geB_den,decide_eq_true_eq,decide_eq_false_iff_not,Bool.not_true]at *)
  all_goals first
    |(refine qN ?_;omega)
    |(simp only [Hold];omega)
    |(simp [Hold];omega)
    |skip
  all_goals (repeat' (first|exact qA|exact qB|refine qC ?_ rfl ?_|refine qD ?_ ?_|exact qE (by rfl)|exact qF (by rfl)|exact Fit.refl _))
end Go.Proofs.Ytdacdjdccibaiaa

namespace Go.Proofs.Ytdacdjdccibaiaa
open Go Go.Eng Go.Proofs
set_option maxRecDepth 10000
theorem rising101 (l:List Int)(most:Int)(h:l.length≤1000):FSpec Try.prog 35 [(.sl 1 (.sym fun _=>zi (l).length) (fun ix=>[.int .i64 (.sym fun _=>(l).getD ix.den.toNat 0)])),(.int .i64 (.sym fun _=>most))] [] (fun r _=>r=(.bool (.sym fun _=>rising l most))):=by
  have c31:= @in31
  refine FSpec.is fun R hR=>qW (sc:=sc35) tyok mix Try.func35 rfl Try.call35 (by kernel_rfl) (by kernel_rfl) ?_
  generalize Try.prog=P at c31⊢
  cbv
  refine⟨none,[],{i:Nat // i≤l.length∧∀j,j<i→risingAt l most j},fun x=>⟨[(5,(.int .i64 (.sym fun _=>zi x.1))),(0,(.sl 1 (.sym fun _=>zi (l).length) (fun ix=>[.int .i64 (.sym fun _=>(l).getD ix.den.toNat 0)]))),(1,(.int .i64 (.sym fun _=>most)))],[],2⟩,fun x=>l.length-x.1,?_,?_⟩
  · refine⟨⟨0,by omega,fun j hj=>by omega⟩,?_⟩
    cbv
    repeat' (first
      |with_reducible refine hold ?_ ?_
      |with_reducible refine And.intro ?_ ?_)
    all_goals first
      |trivial
      |exact qM (qE (by rfl))
      |exact qM (qF (by rfl))
      |exact qM (Fit.refl _)
      |skip
  · rintro⟨i,hi,hr⟩
    cbv
    repeat' (first
      |with_reducible refine hold ?_ ?_
      |with_reducible refine And.intro ?_ ?_
      |(with_reducible refine quo_intro ?_ ?_ ?k;case' k=>try cbv)
      |(with_reducible refine rem_intro ?_ ?k;case' k=>try cbv)
      |(with_reducible intro _;try cbv)
      | (refine call_intro (c31 _ _ _) (by(repeat' (first|exact qB|refine qD ?_ ?_|exact qE (by rfl)|exact qF (by rfl)|exact Fit.refl _|exact qA|refine qC ?_ rfl ?_))) ?_
         try cbv))
    all_goals simp only [zi_den,den_sym,den_lit,bden_sym,bden_lit,addI_den,subI_den,mulI_den,eqB_den,neB_den,ltB_den,leB_den,gtB_den,geB_den,decide_eq_true_eq,decide_eq_false_iff_not,Bool.not_true,Bool.not_eq_true',Bool.not_eq_false',Bool.and_eq_true,Bool.and_eq_false_iff]at *
    all_goals (have ei:((i:Int)).toNat=i:=by omega)
    all_goals (have ei1:((i:Int)-1).toNat=i-1:=by omega)
    all_goals simp only [ei,ei1]at *
    all_goals (try simp only [decide_eq_true_eq,decide_eq_false_iff_not]at *)
    all_goals clear ei ei1
    all_goals first
      |(refine qN ?_;omega)
      |(simp only [Hold];omega)
      | (subst hR
         refine qF ?_
         rw [bden_lit,bden_sym]
         refine(decide_eq_false ?_).symm
         intro hall
         have:=hall i (by omega)
         simp only [risingAt]at this
         omega)
      | (subst hR
         refine qF ?_
         rw [bden_lit,bden_sym]
         exact(decide_eq_true (fun j hj=>hr j (by omega))).symm)
      |skip
    all_goals (have hnew:risingAt l most i:=by simp only [risingAt];omega)
    all_goals refine⟨⟨i+1,by omega,fun j hj=>(Nat.lt_or_ge j i).elim (hr j) (fun q=>by rw [show j=i by omega];exact hnew)⟩,by simp only [];omega,?_⟩
    all_goals cbv
    repeat' (first
      |with_reducible refine hold ?_ ?_
      |with_reducible refine And.intro ?_ ?_)
    all_goals first
      |trivial
      |exact qM (qE (by rfl))
      |exact qM (qF (by rfl))
      |exact qM (Fit.refl _)
      |skip
end Go.Proofs.Ytdacdjdccibaiaa

namespace Go.Proofs.Ytdacdjdccibaiaa
open Go Go.Eng Go.Proofs
set_option maxRecDepth 10000
theorem min127 (a b:Int):FSpec Try.prog 66 [(.sl 1 (.lit 2) (fun ix=>cellsAt [(.int .i64 (.sym fun _=>a)),(.int .i64 (.sym fun _=>b))] (0+ix.den.toNat*1) 1))] [] (fun r _=>r=(.int .i64 (.sym fun _=>min a b))):=by
  refine FSpec.is fun R hR=>qW (sc:=sc66) tyok mix Try.func66 rfl Try.call66 (by kernel_rfl) (by kernel_rfl) ?_
  generalize Try.prog=P
  cbv
  repeat' (first
      |with_reducible refine hold ?_ ?_
      |with_reducible refine And.intro ?_ ?_
      | (with_reducible refine qS ?_ ?_ ?_
         try cbv)
      | (with_reducible refine qT ?_ ?_
         try cbv)
      |(with_reducible intro hcd;(try simp only [zA,zB,zC,zD,zE,zF,zG,zH,zI,zJ,zK,zL,zM,zN,zO,zP]at hcd);try cbv)
      |fail)
  all_goals first|(refine⟨some 3,?_⟩;cbv)|skip
  repeat' (first
      |with_reducible refine hold ?_ ?_
      |with_reducible refine And.intro ?_ ?_
      | (with_reducible refine qS ?_ ?_ ?_
         try cbv)
      | (with_reducible refine qT ?_ ?_
         try cbv)
      |(with_reducible intro hcd;(try simp only [zA,zB,zC,zD,zE,zF,zG,zH,zI,zJ,zK,zL,zM,zN,zO,zP]at hcd);try cbv)
      |fail)
  all_goals first
    |trivial
    |((try simp only [qV]at *);(try simp only [zQ,zA,zB,zC,zD,zE,zF,zG,zH,zI,zJ,zK,zL,zM,zN,zO,zP,zR,zS]at *);first|(refine qN ?_;omega)|(simp only [Hold];omega))
    |(subst hR;(refine qE ?_;simp only [zQ,zA,zB,zC,zD,zE,zF,zG,zH,zI,zJ,zK,zL,zM,zN,zO,zP,zR,zS];omega);done)
    |skip
theorem minimum120 (a b:Int):FSpec Try.prog 63 [(.sl 1 (.lit 2) (fun ix=>cellsAt [(.int .i64 (.sym fun _=>a)),(.int .i64 (.sym fun _=>b))] (0+ix.den.toNat*1) 1))] [] (fun r _=>r=(.int .i64 (.sym fun _=>min a b))):=by
  have c127:= @min127
  refine FSpec.is fun R hR=>qW (sc:=sc63) tyok mix Try.func63 rfl Try.call63 (by kernel_rfl) (by kernel_rfl) ?_
  generalize Try.prog=P at c127⊢
  cbv
  repeat' (first
      |with_reducible refine hold ?_ ?_
      |with_reducible refine And.intro ?_ ?_
      | (with_reducible refine qS ?_ ?_ ?_
         try cbv)
      | (with_reducible refine qT ?_ ?_
         try cbv)
      |(with_reducible intro hcd;(try simp only [zA,zB,zC,zD,zE,zF,zG,zH,zI,zJ,zK,zL,zM,zN,zO,zP]at hcd);try cbv)
      | (refine qP ?_ (c127 _ _) (by(repeat' (first|exact qB|refine qD ?_ ?_|exact qE (by rfl)|exact qF (by rfl)|exact Fit.refl _|exact qA|refine qC ?_ rfl ?_)))
         try cbv)
      |fail)
  all_goals first
    |trivial
    |((try simp only [qV]at *);(try simp only [zQ,zA,zB,zC,zD,zE,zF,zG,zH,zI,zJ,zK,zL,zM,zN,zO,zP,zR,zS]at *);first|(refine qN ?_;omega)|(simp only [Hold];omega))
    |(subst hR;(repeat' (first|exact qA|exact qB|refine qC ?_ rfl ?_|refine qD ?_ ?_|exact qE (by rfl)|exact qF (by rfl)|exact Fit.refl _|exact qG _|(refine qE ?_;(try simp only [qV]at *);simp only [zQ,zA,zB,zC,zD,zE,zF,zG,zH,zI,zJ,zK,zL,zM,zN,zO,zP,zR,zS]at *;omega)));done)
    |skip
end Go.Proofs.Ytdacdjdccibaiaa

namespace Go.Proofs.Ytdacdjdccibaiaa
open Go Go.Eng Go.Proofs
set_option maxRecDepth 10000
theorem owed86 (rate n:Int)(h:0≤n*rate∧n*rate≤1000000000):FSpec Try.prog 45 [.agg [.any,.any,.any,(.int .i64 (.sym fun _=>rate)),.any],(.int .i64 (.sym fun _=>n))] [] (fun r _=>r=(.int .i64 (.sym fun _=>(n*rate+10-1).tdiv 10))):=by
  refine FSpec.is fun R hR=>qW (sc:=sc45) tyok mix Try.func45 rfl Try.call45 (by kernel_rfl) (by kernel_rfl) ?_
  generalize Try.prog=P
  cbv
  repeat' (first
    |with_reducible refine hold ?_ ?_
    |with_reducible refine And.intro ?_ ?_
    |(with_reducible refine quo_intro ?_ ?_ ?k;case' k=>try cbv)
    |(with_reducible refine rem_intro ?_ ?k;case' k=>try cbv)
    |(with_reducible intro _;try cbv))
  all_goals (try subst hR)
  all_goals (try simp only [zi_den,den_sym,den_lit,bden_sym,bden_lit,addI_den,subI_den,mulI_den,eqB_den,neB_den,ltB_den,leB_den,gtB_den,geB_den,decide_eq_true_eq,decide_eq_false_iff_not,Bool.not_true]at *)
  all_goals first
    |exact qE (by rfl)
    |(refine qN ?_;omega)
    |(simp only [Hold];omega)
    |(refine qN ?_;have:=Int.tdiv_eq_ediv_of_nonneg (a:=n*rate+10-1) (b:=10) (by omega);rw [this];omega)
end Go.Proofs.Ytdacdjdccibaiaa

namespace Go.Proofs.Ytdacdjdccibaiaa
open Go Go.Eng Go.Proofs
set_option maxRecDepth 10000
theorem mul_bd {x y:Int}(A B:Int)(hx:0≤x∧x≤A)(hy:0≤y∧y≤B):0≤x*y∧x*y≤A*B:=
  ⟨Int.mul_nonneg hx.1 hy.1,Int.mul_le_mul hx.2 hy.2 hy.1 (Int.le_trans hx.1 hx.2)⟩
theorem at126x (tw tm:List Int)(tv:List (List Int))(w m a b c d v00 v10 v01 v11:Int)(i k:Nat)(hl:2≤tw.length∧tw.length≤1000∧2≤tm.length∧tm.length≤1000)(hi:cellN tw w tw.length 0=i)(hk:cellN tm m tm.length 0=k)(ha:tw.getD i 0=a)(hb:tw.getD (i+1) 0=b)(hc:tm.getD k 0=c)(hd:tm.getD (k+1) 0=d)(h00:(tv.getD i []).getD k 0=v00)(h10:(tv.getD (i+1) []).getD k 0=v10)(h01:(tv.getD i []).getD (k+1) 0=v01)(h11:(tv.getD (i+1) []).getD (k+1) 0=v11)(hil:i+1<tw.length∧k+1<tm.length∧i+1<tv.length∧k+1<(tv.getD i []).length∧k+1<(tv.getD (i+1) []).length)(hbd:0≤a∧a≤w∧w≤b∧a<b∧b≤40∧0≤c∧c≤m∧m≤d∧c<d∧d≤60)(hv:0≤v00∧v00≤2000∧0≤v10∧v10≤2000∧0≤v01∧v01≤2000∧0≤v11∧v11≤2000):FSpec Try.prog 22 [(.agg [(.sl 1 (.sym fun _=>zi (tw).length) (fun ix=>[.int .i64 (.sym fun _=>(tw).getD ix.den.toNat 0)])),(.sl 1 (.sym fun _=>zi (tm).length) (fun ix=>[.int .i64 (.sym fun _=>(tm).getD ix.den.toNat 0)])),(.sl 1 (.sym fun _=>zi (tv).length) (fun ix=>[(.sl 1 (.sym fun _=>zi ((tv).getD ix.den.toNat []).length) (fun jx=>[.int .i64 (.sym fun _=>((tv).getD ix.den.toNat []).getD jx.den.toNat 0)]))]))]),(.int .i64 (.sym fun _=>w)),(.int .i64 (.sym fun _=>m))] [] (fun r _=>r=(.int .i64 (.sym fun _=>((2*(0+(v00*((b-a-(w-a))*(d-c-(m-c))))+(v10*((w-a)*(d-c-(m-c))))+(v01*((b-a-(w-a))*(m-c)))+(v11*((w-a)*(m-c))))+(b-a)*(d-c)).tdiv (2*(b-a)*(d-c)))))):=by
  have c128:= @cell128
  have p1:=mul_bd (x:=b-a-(w-a)) (y:=d-c-(m-c)) 40 60 (by omega) (by omega)
  have p2:=mul_bd (x:=w-a) (y:=d-c-(m-c)) 40 60 (by omega) (by omega)
  have p3:=mul_bd (x:=b-a-(w-a)) (y:=m-c) 40 60 (by omega) (by omega)
  have p4:=mul_bd (x:=w-a) (y:=m-c) 40 60 (by omega) (by omega)
  have p5:=mul_bd (x:=b-a) (y:=d-c) 40 60 (by omega) (by omega)
  have p6:1≤(b-a)*(d-c):=Int.mul_pos (by omega) (by omega)
  have q1:=mul_bd (x:=v00) 2000 2400 (by omega) p1
  have q2:=mul_bd (x:=v10) 2000 2400 (by omega) p2
  have q3:=mul_bd (x:=v01) 2000 2400 (by omega) p3
  have q4:=mul_bd (x:=v11) 2000 2400 (by omega) p4
  have p7:2*(b-a)*(d-c)=2*((b-a)*(d-c)):=Int.mul_assoc _ _ _
  have ei:((i:Int)+1).toNat=i+1:=by omega
  have ek:((k:Int)+1).toNat=k+1:=by omega
  have ei0:(i:Int).toNat=i:=by omega
  have ek0:(k:Int).toNat=k:=by omega
  refine FSpec.is fun R hR=>qW (sc:=sc22) tyok mix Try.func22 rfl Try.call22 (by kernel_rfl) (by kernel_rfl) ?_
  generalize Try.prog=P at c128⊢
  cbv
  repeat' (first
      |with_reducible refine hold ?_ ?_
      |with_reducible refine And.intro ?_ ?_
      | (with_reducible refine qS ?_ ?_ ?_
         try cbv)
      | (with_reducible refine qT ?_ ?_
         try cbv)
      |(with_reducible intro hcd;(try simp only [zA,zB,zC,zD,zE,zF,zG,zH,zI,zJ,zK,zL,zM,zN,zO,zP]at hcd);try cbv)
      | (refine qP ?_ (c128 _ _ (show Hold _ from ?_)) (by(repeat' (first|exact qB|refine qD ?_ ?_|exact qE (by rfl)|exact qF (by rfl)|exact Fit.refl _|exact qA|refine qC ?_ rfl ?_)))
         try cbv)
      |fail)
  all_goals try (refine⟨some 5,?_⟩;cbv)
  repeat' (first
      |with_reducible refine hold ?_ ?_
      |with_reducible refine And.intro ?_ ?_
      | (with_reducible refine qS ?_ ?_ ?_
         try cbv)
      | (with_reducible refine qT ?_ ?_
         try cbv)
      |(with_reducible intro hcd;(try simp only [zA,zB,zC,zD,zE,zF,zG,zH,zI,zJ,zK,zL,zM,zN,zO,zP]at hcd);try cbv)
      | (refine qP ?_ (c128 _ _ (show Hold _ from ?_)) (by(repeat' (first|exact qB|refine qD ?_ ?_|exact qE (by rfl)|exact qF (by rfl)|exact Fit.refl _|exact qA|refine qC ?_ rfl ?_)))
         try cbv)
      |fail)
  all_goals (try simp only [zQ,zA,zB,zC,zD,zE,zF,zG,zH,zI,zJ,zK,zL,zM,zN,zO,zP,zR,zS,hi,hk,ei,ek,ei0,ek0,ha,hb,hc,hd,h00,h10,h01,h11])
  all_goals first
    |(refine qN ?_;omega)
    |(simp only [Hold];omega)
    |(refine qN ?_;rw [p7,Int.tdiv_eq_ediv_of_nonneg (by omega)];refine⟨?_,?_⟩;exact Int.le_trans (by omega) (Int.ediv_nonneg (by omega) (by omega));exact Int.le_trans (Int.ediv_le_self _ (by omega)) (by omega))
    |(subst hR;exact qE (by rfl))
    |(simp only [Hold];decide)
    |skip
  trace_state
end Go.Proofs.Ytdacdjdccibaiaa

namespace Go.Proofs.Ytdacdjdccibaiaa
open Go Go.Eng Go.Proofs
set_option maxRecDepth 10000
theorem at126 (tw tm:List Int)(tv:List (List Int))(w m:Int)(h:TOk tw tm tv∧Pt tw tm w m):FSpec Try.prog 22 [(.agg [(.sl 1 (.sym fun _=>zi (tw).length) (fun ix=>[.int .i64 (.sym fun _=>(tw).getD ix.den.toNat 0)])),(.sl 1 (.sym fun _=>zi (tm).length) (fun ix=>[.int .i64 (.sym fun _=>(tm).getD ix.den.toNat 0)])),(.sl 1 (.sym fun _=>zi (tv).length) (fun ix=>[(.sl 1 (.sym fun _=>zi ((tv).getD ix.den.toNat []).length) (fun jx=>[.int .i64 (.sym fun _=>((tv).getD ix.den.toNat []).getD jx.den.toNat 0)]))]))]),(.int .i64 (.sym fun _=>w)),(.int .i64 (.sym fun _=>m))] [] (fun r _=>r=(.int .i64 (.sym fun _=>atS tw tm tv w m))):=by
  obtain⟨h,hp⟩:=h
  have hi:=cell_in h.w2 hp.w0
  have hk:=cell_in h.m2 hp.m0
  have hr:=rising_spec h.rw
  have hs:=rising_spec h.rm
  have l1:=hi.lt
  have l2:=hk.lt
  have a1:=hr (cellN tw w tw.length 0) (by omega)
  have a2:=hr (cellN tw w tw.length 0+1) (by omega)
  have a3:=hs (cellN tm m tm.length 0) (by omega)
  have a4:=hs (cellN tm m tm.length 0+1) (by omega)
  simp only [risingAt,Nat.add_sub_cancel]at a1 a2 a3 a4
  have e:=h.len
  have r1:=h.row (cellN tw w tw.length 0) (by omega)
  have r2:=h.row (cellN tw w tw.length 0+1) (by omega)
  have v1:=h.val (cellN tw w tw.length 0) (by omega) (cellN tm m tm.length 0) (by omega)
  have v2:=h.val (cellN tw w tw.length 0+1) (by omega) (cellN tm m tm.length 0) (by omega)
  have v3:=h.val (cellN tw w tw.length 0) (by omega) (cellN tm m tm.length 0+1) (by omega)
  have v4:=h.val (cellN tw w tw.length 0+1) (by omega) (cellN tm m tm.length 0+1) (by omega)
  have b1:=hi.le_hi hp.w1
  have b2:=hk.le_hi hp.m1
  have c1:=hi.lo
  have c2:=hk.lo
  have d1:=h.w5;have d2:=h.m5;have d3:=h.w2;have d4:=h.m2
  exact at126x tw tm tv w m _ _ _ _ _ _ _ _ _ _ (by omega) rfl rfl rfl rfl rfl rfl rfl rfl rfl rfl (by omega) (by omega) (by omega)
end Go.Proofs.Ytdacdjdccibaiaa

namespace Go.Proofs.Ytdacdjdccibaiaa
def lastAt (l:List Int)(i:Nat):Int:=if i=0 then -1 else l.getD (i-1) 0
theorem lastAt_zero (l:List Int):lastAt l 0 = -1:=rfl
theorem lastAt_succ (l:List Int)(i:Nat):lastAt l (i+1)=l.getD i 0:=by simp [lastAt]
def entP (l:List Int)(most:Int)(i:Nat):Bool:=decide (lastAt l i+1≤l.getD i 0)&&decide (l.getD i 0≤most)
theorem entP_bd {l:List Int} {most:Int} {i:Nat}(h:∀j,j<i→entP l most j=true): -1≤lastAt l i∧(lastAt l i≤most∨lastAt l i = -1):=by
  induction i with
  |zero=>rw [lastAt_zero];omega
  | succ i ih=>
    have:=ih fun j hj=>h j (by omega)
    have h2:=h i (by omega)
    simp only [entP,Bool.and_eq_true,decide_eq_true_eq]at h2
    rw [lastAt_succ];omega
theorem ent_rising (l:List Int)(most:Int):decide (∀i,i<l.length→entP l most i=true)=rising l most:=by
  rw [Bool.eq_iff_iff]
  simp only [rising,decide_eq_true_eq]
  constructor
  · intro h i hi
    have h1:=h i hi
    simp only [entP,Bool.and_eq_true,decide_eq_true_eq]at h1
    have h2:=entP_bd (i:=i) fun j hj=>h j (by omega)
    refine⟨by omega,by omega,fun h0=> ?_⟩
    obtain⟨k,rfl⟩:∃k,i=k+1:=⟨i-1,by omega⟩
    rw [lastAt_succ]at h1
    rw [Nat.add_sub_cancel];omega
  · intro h i hi
    have h1:=h i hi
    simp only [risingAt]at h1
    simp only [entP,Bool.and_eq_true,decide_eq_true_eq]
    refine⟨?_,h1.2.1⟩
    by_cases e:i=0
    · subst e;rw [lastAt_zero];omega
    · have:=h1.2.2 (by omega)
      simp only [lastAt,e,if_false];omega
def valOk (l:List Int):Bool:=decide (∀i,i<l.length→(decide (0≤l.getD i 0)&&decide (l.getD i 0≤2000))=true)
def rowOk (n:Nat)(l:List Int):Bool:=decide (l.length=n)&&valOk l
def rowsOk (tm:List Int)(tv:List (List Int)):Bool:=decide (∀i,i<tv.length→rowOk tm.length (tv.getD i [])=true)
theorem rowsOk_iff (tm:List Int)(tv:List (List Int)):rowsOk tm tv=true↔∀i,i<tv.length→(tv.getD i []).length=tm.length∧∀k,k<tm.length→0≤(tv.getD i []).getD k 0∧(tv.getD i []).getD k 0≤2000:=by
  simp only [rowsOk,rowOk,valOk,decide_eq_true_eq,Bool.and_eq_true]
  constructor
  · intro h i hi
    obtain⟨h1,h2⟩:=h i hi
    exact⟨h1,fun k hk=>h2 k (by omega)⟩
  · intro h i hi
    obtain⟨h1,h2⟩:=h i hi
    exact⟨h1,fun k hk=>h2 k (by omega)⟩
theorem faultT_eq (tw tm:List Int)(tv:List (List Int)):faultT tw tm tv=if 5<tw.length∨5<tm.length∨5<tv.length then 3
    else if tw.length<2∨tm.length<2∨rising tw 40=false∨rising tm 60=false∨tv.length≠tw.length∨rowsOk tm tv=false then 1 else 0:=by
  unfold faultT
  split
  · rfl
  · by_cases h:rowsOk tm tv=true
    · have h':=(rowsOk_iff tm tv).1 h
      simp only [h,Bool.true_eq_false,or_false]
      split
      · rfl
      · first|rfl|rw [if_pos h']
    · have h':=fun q=>h ((rowsOk_iff tm tv).2 q)
      have hf:rowsOk tm tv=false:=by simpa using h
      simp only [hf,or_true,if_true]
      split
      · rfl
      · first|rfl|rw [if_neg h']
end Go.Proofs.Ytdacdjdccibaiaa

namespace Go.Proofs.Ytdacdjdccibaiaa
open Go Go.Eng Go.Proofs
set_option maxRecDepth 10000
theorem lam122_val (l:List Int)(hfew:l.length≤1000)(i:Nat)(hi:i<l.length∧∀j,j<i→(decide (0≤l.getD (j) 0)&&decide (l.getD (j) 0≤2000))=true):FSpec Try.prog 59 [(.int .i64 (.sym fun _=>l.getD (i) 0)),.own 0 0] [.cells [.clo 49 [] []] 67] (fun r bs=>r=(.bool (.sym fun _=> !(decide (0≤l.getD (i) 0)&&decide (l.getD (i) 0≤2000))))∧bs=[.cells [.clo 49 [] []] 67]):=by
  have cf:=value111 (l.getD i 0)
  refine FSpec.isB rfl fun R B hR hB=>qW (sc:=sc59) tyok mix Try.func59 rfl Try.call59 (by kernel_rfl) (by kernel_rfl) ?_
  generalize Try.prog=P at cf⊢
  cbv
  repeat' (first
      |with_reducible refine hold ?_ ?_
      |with_reducible refine And.intro ?_ ?_
      | (with_reducible refine qS ?_ ?_ ?_
         try cbv)
      | (with_reducible refine qT ?_ ?_
         try cbv)
      |(with_reducible intro hcd;(try simp only [zA,zB,zC,zD,zE,zF,zG,zH,zI,zJ,zK,zL,zM,zN,zO,zP]at hcd);try cbv)
      | (refine qP ?_ (cf) (by(repeat' (first|exact qB|refine qD ?_ ?_|exact qE (by rfl)|exact qF (by rfl)|exact Fit.refl _|exact qA|refine qC ?_ rfl ?_)))
         try cbv)
      |fail)
  all_goals first
    |trivial
    |((try simp only [qV]at *);(try simp only [zQ,zA,zB,zC,zD,zE,zF,zG,zH,zI,zJ,zK,zL,zM,zN,zO,zP,zR,zS]at *);first|(refine qN ?_;omega)|(simp only [Hold];omega))
    |(subst hR;(repeat' (first|exact qA|exact qB|refine qC ?_ rfl ?_|refine qD ?_ ?_|exact qE (by rfl)|exact qF (by rfl)|exact Fit.refl _|exact qG _|(refine qE ?_;(try simp only [qV]at *);simp only [zQ,zA,zB,zC,zD,zE,zF,zG,zH,zI,zJ,zK,zL,zM,zN,zO,zP,zR,zS]at *;omega)));done)
    |(subst hB;(repeat' (first|exact qH|refine qI ?_ ?_|exact qK _|refine qJ ?_|exact qA|exact qE (by rfl)|exact qF (by rfl)|exact Fit.refl _|exact qG _|refine qC ?_ rfl ?_));done)
    |skip
theorem idx121_val (l:List Int)(hfew:l.length≤1000):FSpec Try.prog 64 [(.sl 1 (.sym fun _=>zi (l).length) (fun ix=>[.int .i64 (.sym fun _=>(l).getD ix.den.toNat 0)])),.clo 59 [] [.own 0 0]] [.cells [.clo 49 [] []] 67] (fun r bs=>r=(.int .i64 (.sym fun _=>fidx (fun i=>decide (0≤l.getD (i) 0)&&decide (l.getD (i) 0≤2000)) (l.length) 0))∧bs=[.cells [.clo 49 [] []] 67]):=by
  have cl:=lam122_val l hfew
  refine FSpec.isB rfl fun R B hR hB=>qW (sc:=sc64) tyok mix Try.func64 rfl Try.call64 (by kernel_rfl) (by kernel_rfl) ?_
  generalize Try.prog=P at cl⊢
  cbv
  repeat' (first
      |with_reducible refine hold ?_ ?_
      |with_reducible refine And.intro ?_ ?_
      | (with_reducible refine qS ?_ ?_ ?_
         try cbv)
      | (with_reducible refine qT ?_ ?_
         try cbv)
      |(with_reducible intro hcd;(try simp only [zA,zB,zC,zD,zE,zF,zG,zH,zI,zJ,zK,zL,zM,zN,zO,zP]at hcd);try cbv)
      |fail)
  all_goals first
    |trivial
    |((try simp only [qV]at *);(try simp only [zQ,zA,zB,zC,zD,zE,zF,zG,zH,zI,zJ,zK,zL,zM,zN,zO,zP,zR,zS]at *);first|(refine qN ?_;omega)|(simp only [Hold];omega))
    |skip
  refine⟨none,[],{i:Nat // i≤l.length∧fidx (fun i=>decide (0≤l.getD (i) 0)&&decide (l.getD (i) 0≤2000)) (l.length) 0=fidx (fun i=>decide (0≤l.getD (i) 0)&&decide (l.getD (i) 0≤2000)) (l.length-i) i∧∀j,j<i→(decide (0≤l.getD (j) 0)&&decide (l.getD (j) 0≤2000))=true},fun x=>⟨[(0,(.sl 1 (.sym fun _=>zi (l).length) (fun ix=>[.int .i64 (.sym fun _=>(l).getD ix.den.toNat 0)]))),(1,.clo 59 [] [.own 0 0]),(7,(.int .i64 (.sym fun _=>zi (l.length)))),(8,(.int .i64 (.sym fun _=>zi x.1)))],[(0,.cells [.clo 49 [] []] 67)],20⟩,fun x=>l.length-x.1,?_,?_⟩
  · refine⟨⟨0,by omega,rfl,fun j hj=>by omega⟩,?_⟩
    cbv
    repeat' (first
      |with_reducible refine hold ?_ ?_
      |with_reducible refine And.intro ?_ ?_)
    all_goals first
      |trivial
      |exact qM (qE (by rfl))
      |exact qM (qF (by rfl))
      |exact qM (Fit.refl _)
      |exact qL (qK _)
      |(refine qM (qE ?_);(try simp only [qV]at *);simp only [zQ,zA,zB,zC,zD,zE,zF,zG,zH,zI,zJ,zK,zL,zM,zN,zO,zP,zR,zS]at *;omega)
      |(refine qL (qJ ?_);(repeat' (first|exact qA|exact qB|refine qC ?_ rfl ?_|refine qD ?_ ?_|exact qE (by rfl)|exact qF (by rfl)|exact Fit.refl _|exact qG _|(refine qE ?_;(try simp only [qV]at *);simp only [zQ,zA,zB,zC,zD,zE,zF,zG,zH,zI,zJ,zK,zL,zM,zN,zO,zP,zR,zS]at *;omega)));done)
      |skip
  · rintro ⟨i,hi,hr,hq⟩
    cbv
    repeat' (first
        |with_reducible refine hold ?_ ?_
        |with_reducible refine And.intro ?_ ?_
        | (with_reducible refine qS ?_ ?_ ?_
           try cbv)
        | (with_reducible refine qT ?_ ?_
           try cbv)
        |(with_reducible intro hcd;(try simp only [zA,zB,zC,zD,zE,zF,zG,zH,zI,zJ,zK,zL,zM,zN,zO,zP]at hcd);try cbv)
        | (refine⟨some [0],?_⟩
           cbv
           refine qQ ?_ (cl i ⟨by(try simp only [qV]at *);simp only [zi_den]at *;omega,hq⟩) (by cbv;(repeat' (first|exact qB|refine qD ?_ ?_|exact qE (by rfl)|exact qF (by rfl)|exact Fit.refl _|exact qA|refine qC ?_ rfl ?_))) (by cbv;(repeat' (first|exact qH|refine qI ?_ ?_|exact qK _|refine qJ ?_|exact qA|exact qE (by rfl)|exact qF (by rfl)|exact Fit.refl _|exact qG _|refine qC ?_ rfl ?_)))
           try cbv)
        |fail)
    all_goals first
      |trivial
      |((try simp only [qV]at *);(try simp only [zQ,zA,zB,zC,zD,zE,zF,zG,zH,zI,zJ,zK,zL,zM,zN,zO,zP,zR,zS]at *);first|(refine qN ?_;omega)|(simp only [Hold];omega))
      |(subst hR;(refine qE ?_;simp only [zQ,zA,zB,zC,zD,zE,zF,zG,zH,zI,zJ,zK,zL,zM,zN,zO,zP,zR,zS]at *;rw [hr,fidx_stop (by omega) hcd]);done)
      |(subst hR;(refine qE ?_;simp only [zQ,zA,zB,zC,zD,zE,zF,zG,zH,zI,zJ,zK,zL,zM,zN,zO,zP,zR,zS]at *;rw [hr,show l.length-i=0 by omega];rfl);done)
      |(subst hB;(repeat' (first|exact qH|refine qI ?_ ?_|exact qK _|refine qJ ?_|exact qA|exact qE (by rfl)|exact qF (by rfl)|exact Fit.refl _|exact qG _|refine qC ?_ rfl ?_));done)
      |((try simp only [zQ,zA,zB,zC,zD,zE,zF,zG,zH,zI,zJ,zK,zL,zM,zN,zO,zP,zR,zS]at *);refine⟨⟨i+1,by omega,by rw [hr,fidx_go (by omega) hcd];(try congr 1)<;>omega,fun j hj=>(Nat.lt_or_ge j i).elim (hq j) (fun q=>by rw [show j=i by omega];exact hcd)⟩,by simp only [];omega,?_⟩;cbv;(repeat' (first|with_reducible refine hold ?_ ?_|with_reducible refine And.intro ?_ ?_));(all_goals first|trivial|exact qM (qE (by rfl))|exact qM (qF (by rfl))|exact qM (Fit.refl _)|exact qL (qK _)|(refine qM (qE ?_);(try simp only [qV]at *);simp only [zQ,zA,zB,zC,zD,zE,zF,zG,zH,zI,zJ,zK,zL,zM,zN,zO,zP,zR,zS]at *;omega)|(refine qL (qJ ?_);(repeat' (first|exact qA|exact qB|refine qC ?_ rfl ?_|refine qD ?_ ?_|exact qE (by rfl)|exact qF (by rfl)|exact Fit.refl _|exact qG _|(refine qE ?_;(try simp only [qV]at *);simp only [zQ,zA,zB,zC,zD,zE,zF,zG,zH,zI,zJ,zK,zL,zM,zN,zO,zP,zR,zS]at *;omega)));done)|skip))
      |skip
theorem cont104_val (l:List Int)(hfew:l.length≤1000):FSpec Try.prog 58 [(.sl 1 (.sym fun _=>zi (l).length) (fun ix=>[.int .i64 (.sym fun _=>(l).getD ix.den.toNat 0)])),.clo 59 [] [.own 0 0]] [.cells [.clo 49 [] []] 67] (fun r bs=>r=(.bool (.sym fun _=>decide (0≤fidx (fun i=>decide (0≤l.getD (i) 0)&&decide (l.getD (i) 0≤2000)) (l.length) 0)))∧bs=[.cells [.clo 49 [] []] 67]):=by
  have ci:=idx121_val l hfew
  refine FSpec.isB rfl fun R B hR hB=>qW (sc:=sc58) tyok mix Try.func58 rfl Try.call58 (by kernel_rfl) (by kernel_rfl) ?_
  generalize Try.prog=P at ci⊢
  cbv
  repeat' (first
      |with_reducible refine hold ?_ ?_
      |with_reducible refine And.intro ?_ ?_
      | (with_reducible refine qS ?_ ?_ ?_
         try cbv)
      | (with_reducible refine qT ?_ ?_
         try cbv)
      |(with_reducible intro hcd;(try simp only [zA,zB,zC,zD,zE,zF,zG,zH,zI,zJ,zK,zL,zM,zN,zO,zP]at hcd);try cbv)
      | (refine⟨some [0],?_⟩
         cbv
         refine qQ ?_ (ci) (by cbv;(repeat' (first|exact qB|refine qD ?_ ?_|exact qE (by rfl)|exact qF (by rfl)|exact Fit.refl _|exact qA|refine qC ?_ rfl ?_))) (by cbv;(repeat' (first|exact qH|refine qI ?_ ?_|exact qK _|refine qJ ?_|exact qA|exact qE (by rfl)|exact qF (by rfl)|exact Fit.refl _|exact qG _|refine qC ?_ rfl ?_)))
         try cbv)
      |fail)
  all_goals first
    |trivial
    |((try simp only [qV]at *);(try simp only [zQ,zA,zB,zC,zD,zE,zF,zG,zH,zI,zJ,zK,zL,zM,zN,zO,zP,zR,zS]at *);first|(refine qN ?_;omega)|(simp only [Hold];omega))
    |(subst hR;(repeat' (first|exact qA|exact qB|refine qC ?_ rfl ?_|refine qD ?_ ?_|exact qE (by rfl)|exact qF (by rfl)|exact Fit.refl _|exact qG _|(refine qE ?_;(try simp only [qV]at *);simp only [zQ,zA,zB,zC,zD,zE,zF,zG,zH,zI,zJ,zK,zL,zM,zN,zO,zP,zR,zS]at *;omega)));done)
    |(subst hB;(repeat' (first|exact qH|refine qI ?_ ?_|exact qK _|refine qJ ?_|exact qA|exact qE (by rfl)|exact qF (by rfl)|exact Fit.refl _|exact qG _|refine qC ?_ rfl ?_));done)
    |skip
theorem all110_val (l:List Int)(hfew:l.length≤1000):FSpec Try.prog 48 [(.sl 1 (.sym fun _=>zi (l).length) (fun ix=>[.int .i64 (.sym fun _=>(l).getD ix.den.toNat 0)])),.clo 49 [] []] [] (fun r _=>r=(.bool (.sym fun _=> !(decide (0≤fidx (fun i=>decide (0≤l.getD (i) 0)&&decide (l.getD (i) 0≤2000)) (l.length) 0))))):=by
  have cc:=cont104_val l hfew
  refine FSpec.is fun R hR=>qW (sc:=sc48) tyok mix Try.func48 rfl Try.call48 (by kernel_rfl) (by kernel_rfl) ?_
  generalize Try.prog=P at cc⊢
  cbv
  repeat' (first
      |with_reducible refine hold ?_ ?_
      |with_reducible refine And.intro ?_ ?_
      | (with_reducible refine qS ?_ ?_ ?_
         try cbv)
      | (with_reducible refine qT ?_ ?_
         try cbv)
      |(with_reducible intro hcd;(try simp only [zA,zB,zC,zD,zE,zF,zG,zH,zI,zJ,zK,zL,zM,zN,zO,zP]at hcd);try cbv)
      | (refine⟨some [0],?_⟩
         cbv
         refine qQ ?_ (cc) (by cbv;(repeat' (first|exact qB|refine qD ?_ ?_|exact qE (by rfl)|exact qF (by rfl)|exact Fit.refl _|exact qA|refine qC ?_ rfl ?_))) (by cbv;(repeat' (first|exact qH|refine qI ?_ ?_|exact qK _|refine qJ ?_|exact qA|exact qE (by rfl)|exact qF (by rfl)|exact Fit.refl _|exact qG _|refine qC ?_ rfl ?_)))
         try cbv)
      |fail)
  all_goals first
    |trivial
    |((try simp only [qV]at *);(try simp only [zQ,zA,zB,zC,zD,zE,zF,zG,zH,zI,zJ,zK,zL,zM,zN,zO,zP,zR,zS]at *);first|(refine qN ?_;omega)|(simp only [Hold];omega))
    |(subst hR;(repeat' (first|exact qA|exact qB|refine qC ?_ rfl ?_|refine qD ?_ ?_|exact qE (by rfl)|exact qF (by rfl)|exact Fit.refl _|exact qG _|(refine qE ?_;(try simp only [qV]at *);simp only [zQ,zA,zB,zC,zD,zE,zF,zG,zH,zI,zJ,zK,zL,zM,zN,zO,zP,zR,zS]at *;omega)));done)
    |skip
theorem entry112 (l:List Int)(most:Int)(i:Nat)(hm:0≤most∧most≤1000000)(hi:i<l.length∧∀j,j<i→entP l most j=true):FSpec Try.prog 50 [(.int .i64 (.sym fun _=>l.getD i 0)),.own 0 0,.own 1 0] [.cells [(.int .i64 (.sym fun _=>lastAt l i))] 3,.cells [(.int .i64 (.sym fun _=>most))] 3] (fun r bs=>r=(.bool (.sym fun _=>entP l most i))∧bs=[.cells [(.int .i64 (.sym fun _=>lastAt l (i+1)))] 3,.cells [(.int .i64 (.sym fun _=>most))] 3]):=by
  have c113:= @within113
  refine FSpec.isB rfl fun R B hR hB=>qW (sc:=sc50) tyok mix Try.func50 rfl Try.call50 (by kernel_rfl) (by kernel_rfl) ?_
  generalize Try.prog=P at c113⊢
  cbv
  have hb:=entP_bd hi.2
  repeat' (first
      |with_reducible refine hold ?_ ?_
      |with_reducible refine And.intro ?_ ?_
      | (with_reducible refine qS ?_ ?_ ?_
         try cbv)
      | (with_reducible refine qT ?_ ?_
         try cbv)
      |(with_reducible intro hcd;(try simp only [zA,zB,zC,zD,zE,zF,zG,zH,zI,zJ,zK,zL,zM,zN,zO,zP]at hcd);try cbv)
      | (refine qP ?_ (c113 _ _ _) (by(repeat' (first|exact qB|refine qD ?_ ?_|exact qE (by rfl)|exact qF (by rfl)|exact Fit.refl _|exact qA|refine qC ?_ rfl ?_)))
         try cbv)
      |fail)
  all_goals first
    |trivial
    |((try simp only [qV]at *);(try simp only [zQ,zA,zB,zC,zD,zE,zF,zG,zH,zI,zJ,zK,zL,zM,zN,zO,zP,zR,zS]at *);first|(refine qN ?_;omega)|(simp only [Hold];omega))
    |(subst hR;(repeat' (first|exact qA|exact qB|refine qC ?_ rfl ?_|refine qD ?_ ?_|exact qE (by rfl)|exact qF (by rfl)|exact Fit.refl _|exact qG _|(refine qE ?_;(try simp only [qV]at *);simp only [zQ,zA,zB,zC,zD,zE,zF,zG,zH,zI,zJ,zK,zL,zM,zN,zO,zP,zR,zS]at *;omega)));done)
    |(subst hR;(refine qF ?_;rfl);done)
    |(subst hB;refine qI (qJ (qC (qE ?_) rfl qA)) (qI (qK _) qH);simp only [zQ,zA,zB,zC,zD,zE,zF,zG,zH,zI,zJ,zK,zL,zM,zN,zO,zP,zR,zS,lastAt_succ];done)
    |skip
theorem lam122_ent (l:List Int)(most:Int)(hm:0≤most∧most≤1000000)(hfew:l.length≤1000)(i:Nat)(hi:i<l.length∧∀j,j<i→(entP l most (j))=true):FSpec Try.prog 59 [(.int .i64 (.sym fun _=>l.getD (i) 0)),.own 0 0] [.cells [.clo 50 [] [.own 1 0,.own 2 0]] 67,.cells [(.int .i64 (.sym fun _=>lastAt l (i)))] 3,.cells [(.int .i64 (.sym fun _=>most))] 3] (fun r bs=>r=(.bool (.sym fun _=> !(entP l most (i))))∧bs=[.cells [.clo 50 [] [.own 1 0,.own 2 0]] 67,.cells [(.int .i64 (.sym fun _=>lastAt l (i+1)))] 3,.cells [(.int .i64 (.sym fun _=>most))] 3]):=by
  have cf:=entry112 l most i hm hi
  refine FSpec.isB rfl fun R B hR hB=>qW (sc:=sc59) tyok mix Try.func59 rfl Try.call59 (by kernel_rfl) (by kernel_rfl) ?_
  generalize Try.prog=P at cf⊢
  cbv
  repeat' (first
      |with_reducible refine hold ?_ ?_
      |with_reducible refine And.intro ?_ ?_
      | (with_reducible refine qS ?_ ?_ ?_
         try cbv)
      | (with_reducible refine qT ?_ ?_
         try cbv)
      |(with_reducible intro hcd;(try simp only [zA,zB,zC,zD,zE,zF,zG,zH,zI,zJ,zK,zL,zM,zN,zO,zP]at hcd);try cbv)
      | (refine⟨some [1,2],?_⟩
         cbv
         refine qQ ?_ (cf) (by cbv;(repeat' (first|exact qB|refine qD ?_ ?_|exact qE (by rfl)|exact qF (by rfl)|exact Fit.refl _|exact qA|refine qC ?_ rfl ?_))) (by cbv;(repeat' (first|exact qH|refine qI ?_ ?_|exact qK _|refine qJ ?_|exact qA|exact qE (by rfl)|exact qF (by rfl)|exact Fit.refl _|exact qG _|refine qC ?_ rfl ?_)))
         try cbv)
      |fail)
  all_goals first
    |trivial
    |((try simp only [qV]at *);(try simp only [zQ,zA,zB,zC,zD,zE,zF,zG,zH,zI,zJ,zK,zL,zM,zN,zO,zP,zR,zS]at *);first|(refine qN ?_;omega)|(simp only [Hold];omega))
    |(subst hR;(repeat' (first|exact qA|exact qB|refine qC ?_ rfl ?_|refine qD ?_ ?_|exact qE (by rfl)|exact qF (by rfl)|exact Fit.refl _|exact qG _|(refine qE ?_;(try simp only [qV]at *);simp only [zQ,zA,zB,zC,zD,zE,zF,zG,zH,zI,zJ,zK,zL,zM,zN,zO,zP,zR,zS]at *;omega)));done)
    |(subst hB;(repeat' (first|exact qH|refine qI ?_ ?_|exact qK _|refine qJ ?_|exact qA|exact qE (by rfl)|exact qF (by rfl)|exact Fit.refl _|exact qG _|refine qC ?_ rfl ?_));done)
    |skip
theorem idx121_ent (l:List Int)(most:Int)(hm:0≤most∧most≤1000000)(hfew:l.length≤1000):FSpec Try.prog 64 [(.sl 1 (.sym fun _=>zi (l).length) (fun ix=>[.int .i64 (.sym fun _=>(l).getD ix.den.toNat 0)])),.clo 59 [] [.own 0 0]] [.cells [.clo 50 [] [.own 1 0,.own 2 0]] 67,.cells [(.int .i64 (.sym fun _=>lastAt l (0)))] 3,.cells [(.int .i64 (.sym fun _=>most))] 3] (fun r bs=>r=(.int .i64 (.sym fun _=>fidx (fun i=>entP l most (i)) (l.length) 0))∧bs=[.cells [.clo 50 [] [.own 1 0,.own 2 0]] 67,.cells [.any] 3,.cells [(.int .i64 (.sym fun _=>most))] 3]):=by
  have cl:=lam122_ent l most hm hfew
  refine FSpec.isB rfl fun R B hR hB=>qW (sc:=sc64) tyok mix Try.func64 rfl Try.call64 (by kernel_rfl) (by kernel_rfl) ?_
  generalize Try.prog=P at cl⊢
  cbv
  repeat' (first
      |with_reducible refine hold ?_ ?_
      |with_reducible refine And.intro ?_ ?_
      | (with_reducible refine qS ?_ ?_ ?_
         try cbv)
      | (with_reducible refine qT ?_ ?_
         try cbv)
      |(with_reducible intro hcd;(try simp only [zA,zB,zC,zD,zE,zF,zG,zH,zI,zJ,zK,zL,zM,zN,zO,zP]at hcd);try cbv)
      |fail)
  all_goals first
    |trivial
    |((try simp only [qV]at *);(try simp only [zQ,zA,zB,zC,zD,zE,zF,zG,zH,zI,zJ,zK,zL,zM,zN,zO,zP,zR,zS]at *);first|(refine qN ?_;omega)|(simp only [Hold];omega))
    |skip
  refine⟨none,[],{i:Nat // i≤l.length∧fidx (fun i=>entP l most (i)) (l.length) 0=fidx (fun i=>entP l most (i)) (l.length-i) i∧∀j,j<i→(entP l most (j))=true},fun x=>⟨[(0,(.sl 1 (.sym fun _=>zi (l).length) (fun ix=>[.int .i64 (.sym fun _=>(l).getD ix.den.toNat 0)]))),(1,.clo 59 [] [.own 0 0]),(7,(.int .i64 (.sym fun _=>zi (l.length)))),(8,(.int .i64 (.sym fun _=>zi x.1)))],[(0,.cells [.clo 50 [] [.own 1 0,.own 2 0]] 67),(1,.cells [(.int .i64 (.sym fun _=>lastAt l (x.1)))] 3),(2,.cells [(.int .i64 (.sym fun _=>most))] 3)],20⟩,fun x=>l.length-x.1,?_,?_⟩
  · refine⟨⟨0,by omega,rfl,fun j hj=>by omega⟩,?_⟩
    cbv
    repeat' (first
      |with_reducible refine hold ?_ ?_
      |with_reducible refine And.intro ?_ ?_)
    all_goals first
      |trivial
      |exact qM (qE (by rfl))
      |exact qM (qF (by rfl))
      |exact qM (Fit.refl _)
      |exact qL (qK _)
      |(refine qM (qE ?_);(try simp only [qV]at *);simp only [zQ,zA,zB,zC,zD,zE,zF,zG,zH,zI,zJ,zK,zL,zM,zN,zO,zP,zR,zS]at *;omega)
      |(refine qL (qJ ?_);(repeat' (first|exact qA|exact qB|refine qC ?_ rfl ?_|refine qD ?_ ?_|exact qE (by rfl)|exact qF (by rfl)|exact Fit.refl _|exact qG _|(refine qE ?_;(try simp only [qV]at *);simp only [zQ,zA,zB,zC,zD,zE,zF,zG,zH,zI,zJ,zK,zL,zM,zN,zO,zP,zR,zS]at *;omega)));done)
      |skip
  · rintro ⟨i,hi,hr,hq⟩
    cbv
    repeat' (first
        |with_reducible refine hold ?_ ?_
        |with_reducible refine And.intro ?_ ?_
        | (with_reducible refine qS ?_ ?_ ?_
           try cbv)
        | (with_reducible refine qT ?_ ?_
           try cbv)
        |(with_reducible intro hcd;(try simp only [zA,zB,zC,zD,zE,zF,zG,zH,zI,zJ,zK,zL,zM,zN,zO,zP]at hcd);try cbv)
        | (refine⟨some [0,1,2],?_⟩
           cbv
           refine qQ ?_ (cl i ⟨by(try simp only [qV]at *);simp only [zi_den]at *;omega,hq⟩) (by cbv;(repeat' (first|exact qB|refine qD ?_ ?_|exact qE (by rfl)|exact qF (by rfl)|exact Fit.refl _|exact qA|refine qC ?_ rfl ?_))) (by cbv;(repeat' (first|exact qH|refine qI ?_ ?_|exact qK _|refine qJ ?_|exact qA|exact qE (by rfl)|exact qF (by rfl)|exact Fit.refl _|exact qG _|refine qC ?_ rfl ?_)))
           try cbv)
        |fail)
    all_goals first
      |trivial
      |((try simp only [qV]at *);(try simp only [zQ,zA,zB,zC,zD,zE,zF,zG,zH,zI,zJ,zK,zL,zM,zN,zO,zP,zR,zS]at *);first|(refine qN ?_;omega)|(simp only [Hold];omega))
      |(subst hR;(refine qE ?_;simp only [zQ,zA,zB,zC,zD,zE,zF,zG,zH,zI,zJ,zK,zL,zM,zN,zO,zP,zR,zS]at *;rw [hr,fidx_stop (by omega) hcd]);done)
      |(subst hR;(refine qE ?_;simp only [zQ,zA,zB,zC,zD,zE,zF,zG,zH,zI,zJ,zK,zL,zM,zN,zO,zP,zR,zS]at *;rw [hr,show l.length-i=0 by omega];rfl);done)
      |(subst hB;(repeat' (first|exact qH|refine qI ?_ ?_|exact qK _|refine qJ ?_|exact qA|exact qE (by rfl)|exact qF (by rfl)|exact Fit.refl _|exact qG _|refine qC ?_ rfl ?_));done)
      |((try simp only [zQ,zA,zB,zC,zD,zE,zF,zG,zH,zI,zJ,zK,zL,zM,zN,zO,zP,zR,zS]at *);refine⟨⟨i+1,by omega,by rw [hr,fidx_go (by omega) hcd];(try congr 1)<;>omega,fun j hj=>(Nat.lt_or_ge j i).elim (hq j) (fun q=>by rw [show j=i by omega];exact hcd)⟩,by simp only [];omega,?_⟩;cbv;(repeat' (first|with_reducible refine hold ?_ ?_|with_reducible refine And.intro ?_ ?_));(all_goals first|trivial|exact qM (qE (by rfl))|exact qM (qF (by rfl))|exact qM (Fit.refl _)|exact qL (qK _)|(refine qM (qE ?_);(try simp only [qV]at *);simp only [zQ,zA,zB,zC,zD,zE,zF,zG,zH,zI,zJ,zK,zL,zM,zN,zO,zP,zR,zS]at *;omega)|(refine qL (qJ ?_);(repeat' (first|exact qA|exact qB|refine qC ?_ rfl ?_|refine qD ?_ ?_|exact qE (by rfl)|exact qF (by rfl)|exact Fit.refl _|exact qG _|(refine qE ?_;(try simp only [qV]at *);simp only [zQ,zA,zB,zC,zD,zE,zF,zG,zH,zI,zJ,zK,zL,zM,zN,zO,zP,zR,zS]at *;omega)));done)|skip))
      |skip
theorem cont104_ent (l:List Int)(most:Int)(hm:0≤most∧most≤1000000)(hfew:l.length≤1000):FSpec Try.prog 58 [(.sl 1 (.sym fun _=>zi (l).length) (fun ix=>[.int .i64 (.sym fun _=>(l).getD ix.den.toNat 0)])),.clo 59 [] [.own 0 0]] [.cells [.clo 50 [] [.own 1 0,.own 2 0]] 67,.cells [(.int .i64 (.sym fun _=>lastAt l (0)))] 3,.cells [(.int .i64 (.sym fun _=>most))] 3] (fun r bs=>r=(.bool (.sym fun _=>decide (0≤fidx (fun i=>entP l most (i)) (l.length) 0)))∧bs=[.cells [.clo 50 [] [.own 1 0,.own 2 0]] 67,.cells [.any] 3,.cells [(.int .i64 (.sym fun _=>most))] 3]):=by
  have ci:=idx121_ent l most hm hfew
  refine FSpec.isB rfl fun R B hR hB=>qW (sc:=sc58) tyok mix Try.func58 rfl Try.call58 (by kernel_rfl) (by kernel_rfl) ?_
  generalize Try.prog=P at ci⊢
  cbv
  repeat' (first
      |with_reducible refine hold ?_ ?_
      |with_reducible refine And.intro ?_ ?_
      | (with_reducible refine qS ?_ ?_ ?_
         try cbv)
      | (with_reducible refine qT ?_ ?_
         try cbv)
      |(with_reducible intro hcd;(try simp only [zA,zB,zC,zD,zE,zF,zG,zH,zI,zJ,zK,zL,zM,zN,zO,zP]at hcd);try cbv)
      | (refine⟨some [0,1,2],?_⟩
         cbv
         refine qQ ?_ (ci) (by cbv;(repeat' (first|exact qB|refine qD ?_ ?_|exact qE (by rfl)|exact qF (by rfl)|exact Fit.refl _|exact qA|refine qC ?_ rfl ?_))) (by cbv;(repeat' (first|exact qH|refine qI ?_ ?_|exact qK _|refine qJ ?_|exact qA|exact qE (by rfl)|exact qF (by rfl)|exact Fit.refl _|exact qG _|refine qC ?_ rfl ?_)))
         try cbv)
      |fail)
  all_goals first
    |trivial
    |((try simp only [qV]at *);(try simp only [zQ,zA,zB,zC,zD,zE,zF,zG,zH,zI,zJ,zK,zL,zM,zN,zO,zP,zR,zS]at *);first|(refine qN ?_;omega)|(simp only [Hold];omega))
    |(subst hR;(repeat' (first|exact qA|exact qB|refine qC ?_ rfl ?_|refine qD ?_ ?_|exact qE (by rfl)|exact qF (by rfl)|exact Fit.refl _|exact qG _|(refine qE ?_;(try simp only [qV]at *);simp only [zQ,zA,zB,zC,zD,zE,zF,zG,zH,zI,zJ,zK,zL,zM,zN,zO,zP,zR,zS]at *;omega)));done)
    |(subst hB;(repeat' (first|exact qH|refine qI ?_ ?_|exact qK _|refine qJ ?_|exact qA|exact qE (by rfl)|exact qF (by rfl)|exact Fit.refl _|exact qG _|refine qC ?_ rfl ?_));done)
    |skip
theorem all110_ent (l:List Int)(most:Int)(hm:0≤most∧most≤1000000)(hfew:l.length≤1000):FSpec Try.prog 48 [(.sl 1 (.sym fun _=>zi (l).length) (fun ix=>[.int .i64 (.sym fun _=>(l).getD ix.den.toNat 0)])),.clo 50 [] [.own 0 0,.own 1 0]] [.cells [(.int .i64 (.sym fun _=>lastAt l (0)))] 3,.cells [(.int .i64 (.sym fun _=>most))] 3] (fun r bs=>r=(.bool (.sym fun _=> !(decide (0≤fidx (fun i=>entP l most (i)) (l.length) 0))))∧bs=[.cells [.any] 3,.cells [(.int .i64 (.sym fun _=>most))] 3]):=by
  have cc:=cont104_ent l most hm hfew
  refine FSpec.isB rfl fun R B hR hB=>qW (sc:=sc48) tyok mix Try.func48 rfl Try.call48 (by kernel_rfl) (by kernel_rfl) ?_
  generalize Try.prog=P at cc⊢
  cbv
  repeat' (first
      |with_reducible refine hold ?_ ?_
      |with_reducible refine And.intro ?_ ?_
      | (with_reducible refine qS ?_ ?_ ?_
         try cbv)
      | (with_reducible refine qT ?_ ?_
         try cbv)
      |(with_reducible intro hcd;(try simp only [zA,zB,zC,zD,zE,zF,zG,zH,zI,zJ,zK,zL,zM,zN,zO,zP]at hcd);try cbv)
      | (refine⟨some [2,0,1],?_⟩
         cbv
         refine qQ ?_ (cc) (by cbv;(repeat' (first|exact qB|refine qD ?_ ?_|exact qE (by rfl)|exact qF (by rfl)|exact Fit.refl _|exact qA|refine qC ?_ rfl ?_))) (by cbv;(repeat' (first|exact qH|refine qI ?_ ?_|exact qK _|refine qJ ?_|exact qA|exact qE (by rfl)|exact qF (by rfl)|exact Fit.refl _|exact qG _|refine qC ?_ rfl ?_)))
         try cbv)
      |fail)
  all_goals first
    |trivial
    |((try simp only [qV]at *);(try simp only [zQ,zA,zB,zC,zD,zE,zF,zG,zH,zI,zJ,zK,zL,zM,zN,zO,zP,zR,zS]at *);first|(refine qN ?_;omega)|(simp only [Hold];omega))
    |(subst hR;(repeat' (first|exact qA|exact qB|refine qC ?_ rfl ?_|refine qD ?_ ?_|exact qE (by rfl)|exact qF (by rfl)|exact Fit.refl _|exact qG _|(refine qE ?_;(try simp only [qV]at *);simp only [zQ,zA,zB,zC,zD,zE,zF,zG,zH,zI,zJ,zK,zL,zM,zN,zO,zP,zR,zS]at *;omega)));done)
    |(subst hB;(repeat' (first|exact qH|refine qI ?_ ?_|exact qK _|refine qJ ?_|exact qA|exact qE (by rfl)|exact qF (by rfl)|exact Fit.refl _|exact qG _|refine qC ?_ rfl ?_));done)
    |skip
theorem entries97 (l:List Int)(most:Int)(h:l.length≤1000)(hm:0≤most∧most≤1000000):FSpec Try.prog 38 [(.sl 1 (.sym fun _=>zi (l).length) (fun ix=>[.int .i64 (.sym fun _=>(l).getD ix.den.toNat 0)])),(.int .i64 (.sym fun _=>most))] [] (fun r _=>r=(.bool (.sym fun _=>decide (2≤l.length)&&rising l most))):=by
  have ca:=all110_ent l most hm h
  refine FSpec.is fun R hR=>qW (sc:=sc38) tyok mix Try.func38 rfl Try.call38 (by kernel_rfl) (by kernel_rfl) ?_
  generalize Try.prog=P at ca⊢
  cbv
  repeat' (first
      |with_reducible refine hold ?_ ?_
      |with_reducible refine And.intro ?_ ?_
      | (with_reducible refine qS ?_ ?_ ?_
         try cbv)
      | (with_reducible refine qT ?_ ?_
         try cbv)
      |(with_reducible intro hcd;(try simp only [zA,zB,zC,zD,zE,zF,zG,zH,zI,zJ,zK,zL,zM,zN,zO,zP]at hcd);try cbv)
      | (refine⟨some [2,0],?_⟩
         cbv
         refine qQ ?_ (ca) (by cbv;(repeat' (first|exact qB|refine qD ?_ ?_|exact qE (by rfl)|exact qF (by rfl)|exact Fit.refl _|exact qA|refine qC ?_ rfl ?_))) (by cbv;(repeat' (first|exact qH|refine qI ?_ ?_|exact qK _|refine qJ ?_|exact qA|exact qE (by rfl)|exact qF (by rfl)|exact Fit.refl _|exact qG _|refine qC ?_ rfl ?_)))
         try cbv)
      |fail)
  all_goals first
    |trivial
    |((try simp only [qV]at *);(try simp only [zQ,zA,zB,zC,zD,zE,zF,zG,zH,zI,zJ,zK,zL,zM,zN,zO,zP,zR,zS]at *);first|(refine qN ?_;omega)|(simp only [Hold];omega))
    |(subst hR;(refine qF ?_;(try simp only [qV]at *);simp only [zQ,zA,zB,zC,zD,zE,zF,zG,zH,zI,zJ,zK,zL,zM,zN,zO,zP,zR,zS]at *;rw [all_iff,ent_rising];have h2:2≤l.length:=(by omega);simp [h2]);done)
    |(subst hR;(refine qF ?_;(try simp only [qV]at *);simp only [zQ,zA,zB,zC,zD,zE,zF,zG,zH,zI,zJ,zK,zL,zM,zN,zO,zP,zR,zS]at *;have h2:¬2≤l.length:=(by omega);simp [h2]);done)
    |skip
theorem row96 (tw tm l:List Int)(tv:List (List Int))(h:tm.length≤1000):FSpec Try.prog 37 [(.agg [(.sl 1 (.sym fun _=>zi (tw).length) (fun ix=>[.int .i64 (.sym fun _=>(tw).getD ix.den.toNat 0)])),(.sl 1 (.sym fun _=>zi (tm).length) (fun ix=>[.int .i64 (.sym fun _=>(tm).getD ix.den.toNat 0)])),(.sl 1 (.sym fun _=>zi (tv).length) (fun ix=>[(.sl 1 (.sym fun _=>zi ((tv).getD ix.den.toNat []).length) (fun jx=>[.int .i64 (.sym fun _=>((tv).getD ix.den.toNat []).getD jx.den.toNat 0)]))]))]),(.sl 1 (.sym fun _=>zi (l).length) (fun ix=>[.int .i64 (.sym fun _=>(l).getD ix.den.toNat 0)]))] [] (fun r _=>r=(.bool (.sym fun _=>rowOk tm.length l))):=by
  have ca:=all110_val l
  refine FSpec.is fun R hR=>qW (sc:=sc37) tyok mix Try.func37 rfl Try.call37 (by kernel_rfl) (by kernel_rfl) ?_
  generalize Try.prog=P at ca⊢
  cbv
  repeat' (first
      |with_reducible refine hold ?_ ?_
      |with_reducible refine And.intro ?_ ?_
      | (with_reducible refine qS ?_ ?_ ?_
         try cbv)
      | (with_reducible refine qT ?_ ?_
         try cbv)
      |(with_reducible intro hcd;(try simp only [zA,zB,zC,zD,zE,zF,zG,zH,zI,zJ,zK,zL,zM,zN,zO,zP]at hcd);try cbv)
      | (refine qP ?_ (ca (show Hold _ from ?_)) (by(repeat' (first|exact qB|refine qD ?_ ?_|exact qE (by rfl)|exact qF (by rfl)|exact Fit.refl _|exact qA|refine qC ?_ rfl ?_)))
         try cbv)
      |fail)
  all_goals first
    |trivial
    |((try simp only [qV]at *);(try simp only [zQ,zA,zB,zC,zD,zE,zF,zG,zH,zI,zJ,zK,zL,zM,zN,zO,zP,zR,zS]at *);first|(refine qN ?_;omega)|(simp only [Hold];omega))
    |(subst hR;(refine qF ?_;(try simp only [qV]at *);simp only [zQ,zA,zB,zC,zD,zE,zF,zG,zH,zI,zJ,zK,zL,zM,zN,zO,zP,zR,zS]at *;rw [all_iff,rowOk,valOk];have h2:l.length=tm.length:=(by omega);simp only [h2,decide_true,Bool.true_and]);done)
    |(subst hR;(refine qF ?_;(try simp only [qV]at *);simp only [zQ,zA,zB,zC,zD,zE,zF,zG,zH,zI,zJ,zK,zL,zM,zN,zO,zP,zR,zS]at *;rw [rowOk];have h2:¬l.length=tm.length:=(by omega);simp [h2]);done)
    |skip
end Go.Proofs.Ytdacdjdccibaiaa

namespace Go.Proofs.Ytdacdjdccibaiaa
open Go Go.Eng Go.Proofs
set_option maxRecDepth 10000
theorem lam115_rows (tw tm:List Int)(tv:List (List Int))(hm:tm.length≤1000)(hfew:tv.length≤1000)(i:Nat)(hi:i<tv.length∧∀j,j<i→(rowOk tm.length (tv.getD (j) []))=true):FSpec Try.prog 52 [(.sl 1 (.sym fun _=>zi ((tv.getD (i) [])).length) (fun ix=>[.int .i64 (.sym fun _=>((tv.getD (i) [])).getD ix.den.toNat 0)])),.own 0 0] [.cells [.clo 37 [(.agg [(.sl 1 (.sym fun _=>zi (tw).length) (fun ix=>[.int .i64 (.sym fun _=>(tw).getD ix.den.toNat 0)])),(.sl 1 (.sym fun _=>zi (tm).length) (fun ix=>[.int .i64 (.sym fun _=>(tm).getD ix.den.toNat 0)])),(.sl 1 (.sym fun _=>zi (tv).length) (fun ix=>[(.sl 1 (.sym fun _=>zi ((tv).getD ix.den.toNat []).length) (fun jx=>[.int .i64 (.sym fun _=>((tv).getD ix.den.toNat []).getD jx.den.toNat 0)]))]))])] []] 77] (fun r bs=>r=(.bool (.sym fun _=> !(rowOk tm.length (tv.getD (i) []))))∧bs=[.cells [.clo 37 [(.agg [(.sl 1 (.sym fun _=>zi (tw).length) (fun ix=>[.int .i64 (.sym fun _=>(tw).getD ix.den.toNat 0)])),(.sl 1 (.sym fun _=>zi (tm).length) (fun ix=>[.int .i64 (.sym fun _=>(tm).getD ix.den.toNat 0)])),(.sl 1 (.sym fun _=>zi (tv).length) (fun ix=>[(.sl 1 (.sym fun _=>zi ((tv).getD ix.den.toNat []).length) (fun jx=>[.int .i64 (.sym fun _=>((tv).getD ix.den.toNat []).getD jx.den.toNat 0)]))]))])] []] 77]):=by
  have cf:=row96 tw tm (tv.getD i []) tv hm
  refine FSpec.isB rfl fun R B hR hB=>qW (sc:=sc52) tyok mix Try.func52 rfl Try.call52 (by kernel_rfl) (by kernel_rfl) ?_
  generalize Try.prog=P at cf⊢
  cbv
  repeat' (first
      |with_reducible refine hold ?_ ?_
      |with_reducible refine And.intro ?_ ?_
      | (with_reducible refine qS ?_ ?_ ?_
         try cbv)
      | (with_reducible refine qT ?_ ?_
         try cbv)
      |(with_reducible intro hcd;(try simp only [zA,zB,zC,zD,zE,zF,zG,zH,zI,zJ,zK,zL,zM,zN,zO,zP]at hcd);try cbv)
      | (refine qP ?_ (cf) (by(repeat' (first|exact qB|refine qD ?_ ?_|exact qE (by rfl)|exact qF (by rfl)|exact Fit.refl _|exact qA|refine qC ?_ rfl ?_)))
         try cbv)
      |fail)
  all_goals first
    |trivial
    |((try simp only [qV]at *);(try simp only [zQ,zA,zB,zC,zD,zE,zF,zG,zH,zI,zJ,zK,zL,zM,zN,zO,zP,zR,zS]at *);first|(refine qN ?_;omega)|(simp only [Hold];omega))
    |(subst hR;(repeat' (first|exact qA|exact qB|refine qC ?_ rfl ?_|refine qD ?_ ?_|exact qE (by rfl)|exact qF (by rfl)|exact Fit.refl _|exact qG _|(refine qE ?_;(try simp only [qV]at *);simp only [zQ,zA,zB,zC,zD,zE,zF,zG,zH,zI,zJ,zK,zL,zM,zN,zO,zP,zR,zS]at *;omega)));done)
    |(subst hB;(repeat' (first|exact qH|refine qI ?_ ?_|exact qK _|refine qJ ?_|exact qA|exact qE (by rfl)|exact qF (by rfl)|exact Fit.refl _|exact qG _|refine qC ?_ rfl ?_));done)
    |skip
theorem idx123_rows (tw tm:List Int)(tv:List (List Int))(hm:tm.length≤1000)(hfew:tv.length≤1000):FSpec Try.prog 60 [(.sl 1 (.sym fun _=>zi (tv).length) (fun ix=>[(.sl 1 (.sym fun _=>zi ((tv).getD ix.den.toNat []).length) (fun jx=>[.int .i64 (.sym fun _=>((tv).getD ix.den.toNat []).getD jx.den.toNat 0)]))])),.clo 52 [] [.own 0 0]] [.cells [.clo 37 [(.agg [(.sl 1 (.sym fun _=>zi (tw).length) (fun ix=>[.int .i64 (.sym fun _=>(tw).getD ix.den.toNat 0)])),(.sl 1 (.sym fun _=>zi (tm).length) (fun ix=>[.int .i64 (.sym fun _=>(tm).getD ix.den.toNat 0)])),(.sl 1 (.sym fun _=>zi (tv).length) (fun ix=>[(.sl 1 (.sym fun _=>zi ((tv).getD ix.den.toNat []).length) (fun jx=>[.int .i64 (.sym fun _=>((tv).getD ix.den.toNat []).getD jx.den.toNat 0)]))]))])] []] 77] (fun r bs=>r=(.int .i64 (.sym fun _=>fidx (fun i=>rowOk tm.length (tv.getD (i) [])) (tv.length) 0))∧bs=[.cells [.clo 37 [(.agg [(.sl 1 (.sym fun _=>zi (tw).length) (fun ix=>[.int .i64 (.sym fun _=>(tw).getD ix.den.toNat 0)])),(.sl 1 (.sym fun _=>zi (tm).length) (fun ix=>[.int .i64 (.sym fun _=>(tm).getD ix.den.toNat 0)])),(.sl 1 (.sym fun _=>zi (tv).length) (fun ix=>[(.sl 1 (.sym fun _=>zi ((tv).getD ix.den.toNat []).length) (fun jx=>[.int .i64 (.sym fun _=>((tv).getD ix.den.toNat []).getD jx.den.toNat 0)]))]))])] []] 77]):=by
  have cl:=lam115_rows tw tm tv hm hfew
  refine FSpec.isB rfl fun R B hR hB=>qW (sc:=sc60) tyok mix Try.func60 rfl Try.call60 (by kernel_rfl) (by kernel_rfl) ?_
  generalize Try.prog=P at cl⊢
  cbv
  repeat' (first
      |with_reducible refine hold ?_ ?_
      |with_reducible refine And.intro ?_ ?_
      | (with_reducible refine qS ?_ ?_ ?_
         try cbv)
      | (with_reducible refine qT ?_ ?_
         try cbv)
      |(with_reducible intro hcd;(try simp only [zA,zB,zC,zD,zE,zF,zG,zH,zI,zJ,zK,zL,zM,zN,zO,zP]at hcd);try cbv)
      |fail)
  all_goals first
    |trivial
    |((try simp only [qV]at *);(try simp only [zQ,zA,zB,zC,zD,zE,zF,zG,zH,zI,zJ,zK,zL,zM,zN,zO,zP,zR,zS]at *);first|(refine qN ?_;omega)|(simp only [Hold];omega))
    |skip
  refine⟨none,[],{i:Nat // i≤tv.length∧fidx (fun i=>rowOk tm.length (tv.getD (i) [])) (tv.length) 0=fidx (fun i=>rowOk tm.length (tv.getD (i) [])) (tv.length-i) i∧∀j,j<i→(rowOk tm.length (tv.getD (j) []))=true},fun x=>⟨[(0,(.sl 1 (.sym fun _=>zi (tv).length) (fun ix=>[(.sl 1 (.sym fun _=>zi ((tv).getD ix.den.toNat []).length) (fun jx=>[.int .i64 (.sym fun _=>((tv).getD ix.den.toNat []).getD jx.den.toNat 0)]))]))),(1,.clo 52 [] [.own 0 0]),(7,(.int .i64 (.sym fun _=>zi (tv.length)))),(8,(.int .i64 (.sym fun _=>zi x.1)))],[(0,.cells [.clo 37 [(.agg [(.sl 1 (.sym fun _=>zi (tw).length) (fun ix=>[.int .i64 (.sym fun _=>(tw).getD ix.den.toNat 0)])),(.sl 1 (.sym fun _=>zi (tm).length) (fun ix=>[.int .i64 (.sym fun _=>(tm).getD ix.den.toNat 0)])),(.sl 1 (.sym fun _=>zi (tv).length) (fun ix=>[(.sl 1 (.sym fun _=>zi ((tv).getD ix.den.toNat []).length) (fun jx=>[.int .i64 (.sym fun _=>((tv).getD ix.den.toNat []).getD jx.den.toNat 0)]))]))])] []] 77)],20⟩,fun x=>tv.length-x.1,?_,?_⟩
  · refine⟨⟨0,by omega,rfl,fun j hj=>by omega⟩,?_⟩
    cbv
    repeat' (first
      |with_reducible refine hold ?_ ?_
      |with_reducible refine And.intro ?_ ?_)
    all_goals first
      |trivial
      |exact qM (qE (by rfl))
      |exact qM (qF (by rfl))
      |exact qM (Fit.refl _)
      |exact qL (qK _)
      |(refine qM (qE ?_);(try simp only [qV]at *);simp only [zQ,zA,zB,zC,zD,zE,zF,zG,zH,zI,zJ,zK,zL,zM,zN,zO,zP,zR,zS]at *;omega)
      |(refine qL (qJ ?_);(repeat' (first|exact qA|exact qB|refine qC ?_ rfl ?_|refine qD ?_ ?_|exact qE (by rfl)|exact qF (by rfl)|exact Fit.refl _|exact qG _|(refine qE ?_;(try simp only [qV]at *);simp only [zQ,zA,zB,zC,zD,zE,zF,zG,zH,zI,zJ,zK,zL,zM,zN,zO,zP,zR,zS]at *;omega)));done)
      |skip
  · rintro ⟨i,hi,hr,hq⟩
    cbv
    repeat' (first
        |with_reducible refine hold ?_ ?_
        |with_reducible refine And.intro ?_ ?_
        | (with_reducible refine qS ?_ ?_ ?_
           try cbv)
        | (with_reducible refine qT ?_ ?_
           try cbv)
        |(with_reducible intro hcd;(try simp only [zA,zB,zC,zD,zE,zF,zG,zH,zI,zJ,zK,zL,zM,zN,zO,zP]at hcd);try cbv)
        | (refine⟨some [0],?_⟩
           cbv
           refine qQ ?_ (cl i ⟨by(try simp only [qV]at *);simp only [zi_den]at *;omega,hq⟩) (by cbv;(repeat' (first|exact qB|refine qD ?_ ?_|exact qE (by rfl)|exact qF (by rfl)|exact Fit.refl _|exact qA|refine qC ?_ rfl ?_))) (by cbv;(repeat' (first|exact qH|refine qI ?_ ?_|exact qK _|refine qJ ?_|exact qA|exact qE (by rfl)|exact qF (by rfl)|exact Fit.refl _|exact qG _|refine qC ?_ rfl ?_)))
           try cbv)
        |fail)
    all_goals first
      |trivial
      |((try simp only [qV]at *);(try simp only [zQ,zA,zB,zC,zD,zE,zF,zG,zH,zI,zJ,zK,zL,zM,zN,zO,zP,zR,zS]at *);first|(refine qN ?_;omega)|(simp only [Hold];omega))
      |(subst hR;(refine qE ?_;simp only [zQ,zA,zB,zC,zD,zE,zF,zG,zH,zI,zJ,zK,zL,zM,zN,zO,zP,zR,zS]at *;rw [hr,fidx_stop (by omega) hcd]);done)
      |(subst hR;(refine qE ?_;simp only [zQ,zA,zB,zC,zD,zE,zF,zG,zH,zI,zJ,zK,zL,zM,zN,zO,zP,zR,zS]at *;rw [hr,show tv.length-i=0 by omega];rfl);done)
      |(subst hB;(repeat' (first|exact qH|refine qI ?_ ?_|exact qK _|refine qJ ?_|exact qA|exact qE (by rfl)|exact qF (by rfl)|exact Fit.refl _|exact qG _|refine qC ?_ rfl ?_));done)
      |((try simp only [zQ,zA,zB,zC,zD,zE,zF,zG,zH,zI,zJ,zK,zL,zM,zN,zO,zP,zR,zS]at *);refine⟨⟨i+1,by omega,by rw [hr,fidx_go (by omega) hcd];(try congr 1)<;>omega,fun j hj=>(Nat.lt_or_ge j i).elim (hq j) (fun q=>by rw [show j=i by omega];exact hcd)⟩,by simp only [];omega,?_⟩;cbv;(repeat' (first|with_reducible refine hold ?_ ?_|with_reducible refine And.intro ?_ ?_));(all_goals first|trivial|exact qM (qE (by rfl))|exact qM (qF (by rfl))|exact qM (Fit.refl _)|exact qL (qK _)|(refine qM (qE ?_);(try simp only [qV]at *);simp only [zQ,zA,zB,zC,zD,zE,zF,zG,zH,zI,zJ,zK,zL,zM,zN,zO,zP,zR,zS]at *;omega)|(refine qL (qJ ?_);(repeat' (first|exact qA|exact qB|refine qC ?_ rfl ?_|refine qD ?_ ?_|exact qE (by rfl)|exact qF (by rfl)|exact Fit.refl _|exact qG _|(refine qE ?_;(try simp only [qV]at *);simp only [zQ,zA,zB,zC,zD,zE,zF,zG,zH,zI,zJ,zK,zL,zM,zN,zO,zP,zR,zS]at *;omega)));done)|skip))
      |skip
theorem cont114_rows (tw tm:List Int)(tv:List (List Int))(hm:tm.length≤1000)(hfew:tv.length≤1000):FSpec Try.prog 51 [(.sl 1 (.sym fun _=>zi (tv).length) (fun ix=>[(.sl 1 (.sym fun _=>zi ((tv).getD ix.den.toNat []).length) (fun jx=>[.int .i64 (.sym fun _=>((tv).getD ix.den.toNat []).getD jx.den.toNat 0)]))])),.clo 52 [] [.own 0 0]] [.cells [.clo 37 [(.agg [(.sl 1 (.sym fun _=>zi (tw).length) (fun ix=>[.int .i64 (.sym fun _=>(tw).getD ix.den.toNat 0)])),(.sl 1 (.sym fun _=>zi (tm).length) (fun ix=>[.int .i64 (.sym fun _=>(tm).getD ix.den.toNat 0)])),(.sl 1 (.sym fun _=>zi (tv).length) (fun ix=>[(.sl 1 (.sym fun _=>zi ((tv).getD ix.den.toNat []).length) (fun jx=>[.int .i64 (.sym fun _=>((tv).getD ix.den.toNat []).getD jx.den.toNat 0)]))]))])] []] 77] (fun r bs=>r=(.bool (.sym fun _=>decide (0≤fidx (fun i=>rowOk tm.length (tv.getD (i) [])) (tv.length) 0)))∧bs=[.cells [.clo 37 [(.agg [(.sl 1 (.sym fun _=>zi (tw).length) (fun ix=>[.int .i64 (.sym fun _=>(tw).getD ix.den.toNat 0)])),(.sl 1 (.sym fun _=>zi (tm).length) (fun ix=>[.int .i64 (.sym fun _=>(tm).getD ix.den.toNat 0)])),(.sl 1 (.sym fun _=>zi (tv).length) (fun ix=>[(.sl 1 (.sym fun _=>zi ((tv).getD ix.den.toNat []).length) (fun jx=>[.int .i64 (.sym fun _=>((tv).getD ix.den.toNat []).getD jx.den.toNat 0)]))]))])] []] 77]):=by
  have ci:=idx123_rows tw tm tv hm hfew
  refine FSpec.isB rfl fun R B hR hB=>qW (sc:=sc51) tyok mix Try.func51 rfl Try.call51 (by kernel_rfl) (by kernel_rfl) ?_
  generalize Try.prog=P at ci⊢
  cbv
  repeat' (first
      |with_reducible refine hold ?_ ?_
      |with_reducible refine And.intro ?_ ?_
      | (with_reducible refine qS ?_ ?_ ?_
         try cbv)
      | (with_reducible refine qT ?_ ?_
         try cbv)
      |(with_reducible intro hcd;(try simp only [zA,zB,zC,zD,zE,zF,zG,zH,zI,zJ,zK,zL,zM,zN,zO,zP]at hcd);try cbv)
      | (refine⟨some [0],?_⟩
         cbv
         refine qQ ?_ (ci) (by cbv;(repeat' (first|exact qB|refine qD ?_ ?_|exact qE (by rfl)|exact qF (by rfl)|exact Fit.refl _|exact qA|refine qC ?_ rfl ?_))) (by cbv;(repeat' (first|exact qH|refine qI ?_ ?_|exact qK _|refine qJ ?_|exact qA|exact qE (by rfl)|exact qF (by rfl)|exact Fit.refl _|exact qG _|refine qC ?_ rfl ?_)))
         try cbv)
      |fail)
  all_goals first
    |trivial
    |((try simp only [qV]at *);(try simp only [zQ,zA,zB,zC,zD,zE,zF,zG,zH,zI,zJ,zK,zL,zM,zN,zO,zP,zR,zS]at *);first|(refine qN ?_;omega)|(simp only [Hold];omega))
    |(subst hR;(repeat' (first|exact qA|exact qB|refine qC ?_ rfl ?_|refine qD ?_ ?_|exact qE (by rfl)|exact qF (by rfl)|exact Fit.refl _|exact qG _|(refine qE ?_;(try simp only [qV]at *);simp only [zQ,zA,zB,zC,zD,zE,zF,zG,zH,zI,zJ,zK,zL,zM,zN,zO,zP,zR,zS]at *;omega)));done)
    |(subst hB;(repeat' (first|exact qH|refine qI ?_ ?_|exact qK _|refine qJ ?_|exact qA|exact qE (by rfl)|exact qF (by rfl)|exact Fit.refl _|exact qG _|refine qC ?_ rfl ?_));done)
    |skip
theorem all98_rows (tw tm:List Int)(tv:List (List Int))(hm:tm.length≤1000)(hfew:tv.length≤1000):FSpec Try.prog 39 [(.sl 1 (.sym fun _=>zi (tv).length) (fun ix=>[(.sl 1 (.sym fun _=>zi ((tv).getD ix.den.toNat []).length) (fun jx=>[.int .i64 (.sym fun _=>((tv).getD ix.den.toNat []).getD jx.den.toNat 0)]))])),.clo 37 [(.agg [(.sl 1 (.sym fun _=>zi (tw).length) (fun ix=>[.int .i64 (.sym fun _=>(tw).getD ix.den.toNat 0)])),(.sl 1 (.sym fun _=>zi (tm).length) (fun ix=>[.int .i64 (.sym fun _=>(tm).getD ix.den.toNat 0)])),(.sl 1 (.sym fun _=>zi (tv).length) (fun ix=>[(.sl 1 (.sym fun _=>zi ((tv).getD ix.den.toNat []).length) (fun jx=>[.int .i64 (.sym fun _=>((tv).getD ix.den.toNat []).getD jx.den.toNat 0)]))]))])] []] [] (fun r _=>r=(.bool (.sym fun _=> !(decide (0≤fidx (fun i=>rowOk tm.length (tv.getD (i) [])) (tv.length) 0))))):=by
  have cc:=cont114_rows tw tm tv hm hfew
  refine FSpec.is fun R hR=>qW (sc:=sc39) tyok mix Try.func39 rfl Try.call39 (by kernel_rfl) (by kernel_rfl) ?_
  generalize Try.prog=P at cc⊢
  cbv
  repeat' (first
      |with_reducible refine hold ?_ ?_
      |with_reducible refine And.intro ?_ ?_
      | (with_reducible refine qS ?_ ?_ ?_
         try cbv)
      | (with_reducible refine qT ?_ ?_
         try cbv)
      |(with_reducible intro hcd;(try simp only [zA,zB,zC,zD,zE,zF,zG,zH,zI,zJ,zK,zL,zM,zN,zO,zP]at hcd);try cbv)
      | (refine⟨some [0],?_⟩
         cbv
         refine qQ ?_ (cc) (by cbv;(repeat' (first|exact qB|refine qD ?_ ?_|exact qE (by rfl)|exact qF (by rfl)|exact Fit.refl _|exact qA|refine qC ?_ rfl ?_))) (by cbv;(repeat' (first|exact qH|refine qI ?_ ?_|exact qK _|refine qJ ?_|exact qA|exact qE (by rfl)|exact qF (by rfl)|exact Fit.refl _|exact qG _|refine qC ?_ rfl ?_)))
         try cbv)
      |fail)
  all_goals first
    |trivial
    |((try simp only [qV]at *);(try simp only [zQ,zA,zB,zC,zD,zE,zF,zG,zH,zI,zJ,zK,zL,zM,zN,zO,zP,zR,zS]at *);first|(refine qN ?_;omega)|(simp only [Hold];omega))
    |(subst hR;(repeat' (first|exact qA|exact qB|refine qC ?_ rfl ?_|refine qD ?_ ?_|exact qE (by rfl)|exact qF (by rfl)|exact Fit.refl _|exact qG _|(refine qE ?_;(try simp only [qV]at *);simp only [zQ,zA,zB,zC,zD,zE,zF,zG,zH,zI,zJ,zK,zL,zM,zN,zO,zP,zR,zS]at *;omega)));done)
    |skip
theorem all98r (tw tm:List Int)(tv:List (List Int))(h:tm.length≤1000∧tv.length≤1000):FSpec Try.prog 39 [(.sl 1 (.sym fun _=>zi (tv).length) (fun ix=>[(.sl 1 (.sym fun _=>zi ((tv).getD ix.den.toNat []).length) (fun jx=>[.int .i64 (.sym fun _=>((tv).getD ix.den.toNat []).getD jx.den.toNat 0)]))])),.clo 37 [(.agg [(.sl 1 (.sym fun _=>zi (tw).length) (fun ix=>[.int .i64 (.sym fun _=>(tw).getD ix.den.toNat 0)])),(.sl 1 (.sym fun _=>zi (tm).length) (fun ix=>[.int .i64 (.sym fun _=>(tm).getD ix.den.toNat 0)])),(.sl 1 (.sym fun _=>zi (tv).length) (fun ix=>[(.sl 1 (.sym fun _=>zi ((tv).getD ix.den.toNat []).length) (fun jx=>[.int .i64 (.sym fun _=>((tv).getD ix.den.toNat []).getD jx.den.toNat 0)]))]))])] []] [] (fun r _=>r=(.bool (.sym fun _=>rowsOk tm tv))):=by
  have:=all98_rows tw tm tv h.1 h.2
  simp only [all_iff]at this
  exact this
set_option maxHeartbeats 1000000 in
theorem check79 (tw tm:List Int)(tv:List (List Int)):FSpec Try.prog 19 [(.agg [(.sl 1 (.sym fun _=>zi (tw).length) (fun ix=>[.int .i64 (.sym fun _=>(tw).getD ix.den.toNat 0)])),(.sl 1 (.sym fun _=>zi (tm).length) (fun ix=>[.int .i64 (.sym fun _=>(tm).getD ix.den.toNat 0)])),(.sl 1 (.sym fun _=>zi (tv).length) (fun ix=>[(.sl 1 (.sym fun _=>zi ((tv).getD ix.den.toNat []).length) (fun jx=>[.int .i64 (.sym fun _=>((tv).getD ix.den.toNat []).getD jx.den.toNat 0)]))]))])] [] (fun r _=>r=(.int .i64 (.sym fun _=>faultT tw tm tv))):=by
  have c97:= @entries97
  have c98:= @all98r
  refine FSpec.is fun R hR=>qW (sc:=sc19) tyok mix Try.func19 rfl Try.call19 (by kernel_rfl) (by kernel_rfl) ?_
  generalize Try.prog=P at c97 c98⊢
  cbv
  repeat' (first
      |with_reducible refine hold ?_ ?_
      |with_reducible refine And.intro ?_ ?_
      | (with_reducible refine qS ?_ ?_ ?_
         try cbv)
      | (with_reducible refine qT ?_ ?_
         try cbv)
      |(with_reducible intro hcd;(try simp only [zA,zB,zC,zD,zE,zF,zG,zH,zI,zJ,zK,zL,zM,zN,zO,zP]at hcd);try cbv)
      | (refine qP ?_ (c97 _ _ (show Hold _ from ?_) (show Hold _ from ?_)) (by(repeat' (first|exact qB|refine qD ?_ ?_|exact qE (by rfl)|exact qF (by rfl)|exact Fit.refl _|exact qA|refine qC ?_ rfl ?_)))
         try cbv)
      | (refine qP ?_ (c98 _ _ _ (show Hold _ from ?_)) (by(repeat' (first|exact qB|refine qD ?_ ?_|exact qE (by rfl)|exact qF (by rfl)|exact Fit.refl _|exact qA|refine qC ?_ rfl ?_)))
         try cbv)
      |fail)
  all_goals first
    |trivial
    |((try simp only [qV]at *);(try simp only [zQ,zA,zB,zC,zD,zE,zF,zG,zH,zI,zJ,zK,zL,zM,zN,zO,zP,zR,zS]at *);first|(refine qN ?_;omega)|(simp only [Hold];omega))
    |(subst hR;(refine qE ?_;(try simp only [qV]at *);simp only [zQ,zA,zB,zC,zD,zE,zF,zG,zH,zI,zJ,zK,zL,zM,zN,zO,zP,zR,zS]at *;rw [faultT_eq];(repeat' split)<;>first|rfl|(exfalso;simp_all;done)|(exfalso;simp_all;omega)|(exfalso;omega));done)
    |skip
theorem fault83 (tw tm:List Int)(tv:List (List Int)):FSpec Try.prog 16 [(.agg [(.sl 1 (.sym fun _=>zi (tw).length) (fun ix=>[.int .i64 (.sym fun _=>(tw).getD ix.den.toNat 0)])),(.sl 1 (.sym fun _=>zi (tm).length) (fun ix=>[.int .i64 (.sym fun _=>(tm).getD ix.den.toNat 0)])),(.sl 1 (.sym fun _=>zi (tv).length) (fun ix=>[(.sl 1 (.sym fun _=>zi ((tv).getD ix.den.toNat []).length) (fun jx=>[.int .i64 (.sym fun _=>((tv).getD ix.den.toNat []).getD jx.den.toNat 0)]))]))])] [] (fun r _=>r=(.int .i64 (.sym fun _=>faultT tw tm tv))):=by
  have c101:= @rising101
  have c31:= @in31
  refine FSpec.is fun R hR=>qW (sc:=sc16) tyok mix Try.func16 rfl Try.call16 (by kernel_rfl) (by kernel_rfl) ?_
  generalize Try.prog=P at c101 c31⊢
  cbv
  repeat' (first
      |with_reducible refine hold ?_ ?_
      |with_reducible refine And.intro ?_ ?_
      | (with_reducible refine qS ?_ ?_ ?_
         try cbv)
      | (with_reducible refine qT ?_ ?_
         try cbv)
      |(with_reducible intro hcd;(try simp only [zA,zB,zC,zD,zE,zF,zG,zH,zI,zJ,zK,zL,zM,zN,zO,zP]at hcd);try cbv)
      | (refine qP ?_ (c101 _ _ (show Hold _ from ?_)) (by(repeat' (first|exact qB|refine qD ?_ ?_|exact qE (by rfl)|exact qF (by rfl)|exact Fit.refl _|exact qA|refine qC ?_ rfl ?_)))
         try cbv)
      |fail)
  all_goals first
    |trivial
    |((try simp only [qV]at *);(try simp only [zQ,zA,zB,zC,zD,zE,zF,zG,zH,zI,zJ,zK,zL,zM,zN,zO,zP,zR,zS]at *);first|(refine qN ?_;omega)|(simp only [Hold];omega))
    |(subst hR;(refine qE ?_;(try simp only [qV]at *);simp only [zQ,zA,zB,zC,zD,zE,zF,zG,zH,zI,zJ,zK,zL,zM,zN,zO,zP,zR,zS]at *;rw [faultT_eq];(repeat' split)<;>first|rfl|(exfalso;simp_all;done)|(exfalso;simp_all;omega)|(exfalso;omega));done)
    |skip
  refine⟨none,[],{i:Nat // i≤tv.length∧∀j,j<i→(tv.getD j []).length=tm.length∧∀k,k<tm.length→0≤(tv.getD j []).getD k 0∧(tv.getD j []).getD k 0≤2000},fun x=>⟨[(1,.own 0 0),(3,(.int .i64 (.sym fun _=>zi x.1)))],[(0,.cells [(.sl 1 (.sym fun _=>zi (tw).length) (fun ix=>[.int .i64 (.sym fun _=>(tw).getD ix.den.toNat 0)])),(.sl 1 (.sym fun _=>zi (tm).length) (fun ix=>[.int .i64 (.sym fun _=>(tm).getD ix.den.toNat 0)])),(.sl 1 (.sym fun _=>zi (tv).length) (fun ix=>[(.sl 1 (.sym fun _=>zi ((tv).getD ix.den.toNat []).length) (fun jx=>[.int .i64 (.sym fun _=>((tv).getD ix.den.toNat []).getD jx.den.toNat 0)]))]))] 25)],20⟩,fun x=>tv.length-x.1,?_,?_⟩
  · refine⟨⟨0,by omega,fun j hj=>by omega⟩,?_⟩
    cbv
    repeat' (first
      |with_reducible refine hold ?_ ?_
      |with_reducible refine And.intro ?_ ?_)
    all_goals first
      |trivial
      |exact qM (qE (by rfl))
      |exact qM (qF (by rfl))
      |exact qM (Fit.refl _)
      |exact qL (qK _)
      |(refine qM (qE ?_);(try simp only [qV]at *);simp only [zQ,zA,zB,zC,zD,zE,zF,zG,zH,zI,zJ,zK,zL,zM,zN,zO,zP,zR,zS]at *;omega)
      |skip
  · rintro ⟨i,hi,hr⟩
    cbv
    repeat' (first
        |with_reducible refine hold ?_ ?_
        |with_reducible refine And.intro ?_ ?_
        | (with_reducible refine qS ?_ ?_ ?_
           try cbv)
        | (with_reducible refine qT ?_ ?_
           try cbv)
        |(with_reducible intro hcd;(try simp only [zA,zB,zC,zD,zE,zF,zG,zH,zI,zJ,zK,zL,zM,zN,zO,zP]at hcd);try cbv)
        |fail)
    all_goals first
      |trivial
      |((try simp only [qV]at *);(try simp only [zQ,zA,zB,zC,zD,zE,zF,zG,zH,zI,zJ,zK,zL,zM,zN,zO,zP,zR,zS]at *);first|(refine qN ?_;omega)|(simp only [Hold];omega))
      |(subst hR;(refine qE ?_;(try simp only [qV]at *);simp only [zQ,zA,zB,zC,zD,zE,zF,zG,zH,zI,zJ,zK,zL,zM,zN,zO,zP,zR,zS]at *;rw [faultT_eq,if_neg (by omega),if_pos];right;right;right;right;right;rw [←Bool.not_eq_true,rowsOk_iff];intro hall;have:=(hall i (by omega)).1;omega);done)
      |(subst hR;(refine qE ?_;(try simp only [qV]at *);simp only [zQ,zA,zB,zC,zD,zE,zF,zG,zH,zI,zJ,zK,zL,zM,zN,zO,zP,zR,zS]at *;rw [faultT_eq,if_neg (by omega),if_neg];have hro:rowsOk tm tv=true:=(rowsOk_iff _ _).2 (fun j hj=>hr j (by omega));simp_all;omega);done)
      |skip
    have hlen:(tv.getD i []).length=tm.length:=by((try simp only [qV]at *);simp only [zQ,zA,zB,zC,zD,zE,zF,zG,zH,zI,zJ,zK,zL,zM,zN,zO,zP,zR,zS]at *;omega)
    refine⟨none,[],{k:Nat // k≤tm.length∧∀j,j<k→0≤(tv.getD i []).getD j 0∧(tv.getD i []).getD j 0≤2000},fun x=>⟨[(1,.own 0 0),(3,(.int .i64 (.sym fun _=>zi i))),(4,(.int .i64 (.sym fun _=>zi x.1)))],[(0,.cells [(.sl 1 (.sym fun _=>zi (tw).length) (fun ix=>[.int .i64 (.sym fun _=>(tw).getD ix.den.toNat 0)])),(.sl 1 (.sym fun _=>zi (tm).length) (fun ix=>[.int .i64 (.sym fun _=>(tm).getD ix.den.toNat 0)])),(.sl 1 (.sym fun _=>zi (tv).length) (fun ix=>[(.sl 1 (.sym fun _=>zi ((tv).getD ix.den.toNat []).length) (fun jx=>[.int .i64 (.sym fun _=>((tv).getD ix.den.toNat []).getD jx.den.toNat 0)]))]))] 25)],20⟩,fun x=>tm.length-x.1,?_,?_⟩
    · refine⟨⟨0,by omega,fun j hj=>by omega⟩,?_⟩
      cbv
      repeat' (first
        |with_reducible refine hold ?_ ?_
        |with_reducible refine And.intro ?_ ?_)
      all_goals first
        |trivial
        |exact qM (qE (by rfl))
        |exact qM (qF (by rfl))
        |exact qM (Fit.refl _)
        |exact qL (qK _)
        |(refine qM (qE ?_);(try simp only [qV]at *);simp only [zQ,zA,zB,zC,zD,zE,zF,zG,zH,zI,zJ,zK,zL,zM,zN,zO,zP,zR,zS]at *;omega)
        |skip
    · rintro ⟨k,hk,hq⟩
      cbv
      repeat' (first
          |with_reducible refine hold ?_ ?_
          |with_reducible refine And.intro ?_ ?_
          | (with_reducible refine qS ?_ ?_ ?_
             try cbv)
          | (with_reducible refine qT ?_ ?_
             try cbv)
          |(with_reducible intro hcd;(try simp only [zA,zB,zC,zD,zE,zF,zG,zH,zI,zJ,zK,zL,zM,zN,zO,zP]at hcd);try cbv)
          | (refine qP ?_ (c31 _ _ _) (by(repeat' (first|exact qB|refine qD ?_ ?_|exact qE (by rfl)|exact qF (by rfl)|exact Fit.refl _|exact qA|refine qC ?_ rfl ?_)))
             try cbv)
          |fail)
      all_goals first
        |trivial
        |((try simp only [qV]at *);(try simp only [zQ,zA,zB,zC,zD,zE,zF,zG,zH,zI,zJ,zK,zL,zM,zN,zO,zP,zR,zS]at *);first|(refine qN ?_;omega)|(simp only [Hold];omega))
        |(subst hR;(refine qE ?_;(try simp only [qV]at *);simp only [zQ,zA,zB,zC,zD,zE,zF,zG,zH,zI,zJ,zK,zL,zM,zN,zO,zP,zR,zS]at *;rw [faultT_eq,if_neg (by omega),if_pos];right;right;right;right;right;rw [←Bool.not_eq_true,rowsOk_iff];intro hall;have:=(hall i (by omega)).2 k (by omega);simp only [Bool.and_eq_false_iff]at hcd;rcases hcd with hcd|hcd<;>(have hz:=of_decide_eq_false hcd;omega));done)
        |((try simp only [zQ,zA,zB,zC,zD,zE,zF,zG,zH,zI,zJ,zK,zL,zM,zN,zO,zP,zR,zS]at *);refine⟨⟨k+1,by omega,fun j hj=>(Nat.lt_or_ge j k).elim (hq j) (fun q=>by rw [show j=k by omega];simp only [Bool.and_eq_true]at hcd;have hz:=of_decide_eq_true hcd.1;have hz2:=of_decide_eq_true hcd.2;omega)⟩,by simp only [];omega,?_⟩;cbv;(repeat' (first|with_reducible refine hold ?_ ?_|with_reducible refine And.intro ?_ ?_));(all_goals first|trivial|exact qM (qE (by rfl))|exact qM (qF (by rfl))|exact qM (Fit.refl _)|exact qL (qK _)|(refine qM (qE ?_);(try simp only [qV]at *);simp only [zQ,zA,zB,zC,zD,zE,zF,zG,zH,zI,zJ,zK,zL,zM,zN,zO,zP,zR,zS]at *;omega)|skip))
        |((try simp only [zQ,zA,zB,zC,zD,zE,zF,zG,zH,zI,zJ,zK,zL,zM,zN,zO,zP,zR,zS]at *);refine⟨⟨i+1,by omega,fun j hj=>(Nat.lt_or_ge j i).elim (hr j) (fun q=>by rw [show j=i by omega];exact⟨hlen,fun k2 hk2=>hq k2 (by omega)⟩)⟩,by simp only [];omega,?_⟩;cbv;(repeat' (first|with_reducible refine hold ?_ ?_|with_reducible refine And.intro ?_ ?_));(all_goals first|trivial|exact qM (qE (by rfl))|exact qM (qF (by rfl))|exact qM (Fit.refl _)|exact qL (qK _)|(refine qM (qE ?_);(try simp only [qV]at *);simp only [zQ,zA,zB,zC,zD,zE,zF,zG,zH,zI,zJ,zK,zL,zM,zN,zO,zP,zR,zS]at *;omega)|skip))
        |skip
end Go.Proofs.Ytdacdjdccibaiaa

namespace Go.Proofs.Ytdacdjdccibaiaa
theorem mix_bd {a b c d v00 v10 v01 v11 w m:Int}(h1:a≤w)(h2:w≤b)(h3:a<b)(h4:c≤m)(h5:m≤d)(h6:c<d)
    (v0:0≤v00∧v00≤2000) (v1:0≤v10∧v10≤2000) (v2:0≤v01∧v01≤2000) (v3:0≤v11∧v11≤2000):0≤mixAt a b c d v00 v10 v01 v11 w m∧mixAt a b c d v00 v10 v01 v11 w m≤2000:=by
  unfold mixAt
  rw [mix_eq]
  have p1:0≤(b-w)*(d-m):=Int.mul_nonneg (by omega) (by omega)
  have p2:0≤(w-a)*(d-m):=Int.mul_nonneg (by omega) (by omega)
  have p3:0≤(b-w)*(m-c):=Int.mul_nonneg (by omega) (by omega)
  have p4:0≤(w-a)*(m-c):=Int.mul_nonneg (by omega) (by omega)
  have e:(b-w)*(d-m)+(w-a)*(d-m)+(b-w)*(m-c)+(w-a)*(m-c)=(b-a)*(d-c):=by
    rw [←Int.add_mul,Int.add_assoc,←Int.add_mul]
    have e1:b-w+(w-a)=b-a:=by omega
    rw [e1,←Int.mul_add]
    congr 1;omega
  have q:0<(b-a)*(d-c):=Int.mul_pos (by omega) (by omega)
  have key:∀v p:Int,0≤v∧v≤2000→0≤p→0≤v*p∧v*p≤2000*p:=fun v p hv hp=>⟨Int.mul_nonneg hv.1 hp,Int.mul_le_mul_of_nonneg_right hv.2 hp⟩
  have k1:=key v00 _ v0 p1
  have k2:=key v10 _ v1 p2
  have k3:=key v01 _ v2 p3
  have k4:=key v11 _ v3 p4
  rw [Int.mul_assoc v00,Int.mul_assoc v10,Int.mul_assoc v01,Int.mul_assoc v11]
  generalize (b-w)*(d-m)=x1 at *
  generalize (w-a)*(d-m)=x2 at *
  generalize (b-w)*(m-c)=x3 at *
  generalize (w-a)*(m-c)=x4 at *
  rw [Int.mul_assoc 2 (b-a)]
  generalize (b-a)*(d-c)=y at *
  generalize v00*x1=y1 at *
  generalize v10*x2=y2 at *
  generalize v01*x3=y3 at *
  generalize v11*x4=y4 at *
  rw [Int.tdiv_eq_ediv_of_nonneg (by omega)]
  refine⟨Int.ediv_nonneg (by omega) (by omega),?_⟩
  have:2*(y1+y2+y3+y4)+y<(2000+1)*(2*y):=by omega
  have:=Int.ediv_lt_of_lt_mul (by omega) this
  omega
theorem at_bd {tw tm:List Int} {tv:List (List Int)} {w m:Int}(h:TOk tw tm tv)(hp:Pt tw tm w m):0≤atS tw tm tv w m∧atS tw tm tv w m≤2000:=by
  have hi:=cell_in h.w2 hp.w0
  have hk:=cell_in h.m2 hp.m0
  have l1:=hi.lt
  have l2:=hk.lt
  have e:=h.len
  have a2:=rising_lt h.rw (i:=cellN tw w tw.length 0) (j:=cellN tw w tw.length 0+1) (by omega) (by omega)
  have a4:=rising_lt h.rm (i:=cellN tm m tm.length 0) (j:=cellN tm m tm.length 0+1) (by omega) (by omega)
  exact mix_bd hi.lo (hi.le_hi hp.w1) a2 hk.lo (hk.le_hi hp.m1) a4 (h.val _ (by omega) _ (by omega)) (h.val _ (by omega) _ (by omega)) (h.val _ (by omega) _ (by omega)) (h.val _ (by omega) _ (by omega))
def vAt (tw tm:List Int)(tv:List (List Int))(wl ml:Int)(W n:Nat):Int:=atS tw tm tv (wl+((n%W:Nat):Int)) (ml+((n/W:Nat):Int))
def loN (v:Nat→Int):Nat→Int
  |0=>2000
  |n+1=>min (loN v n) (v n)
def hiN (v:Nat→Int):Nat→Int
  |0=>0
  |n+1=>max (hiN v n) (v n)
def wid (lo hi:Int):Nat:=(hi-lo+1).toNat
def bLo (tw tm:List Int)(tv:List (List Int))(wl wh ml mh:Int):Int:=loN (vAt tw tm tv wl ml (wid wl wh)) (wid ml mh*wid wl wh)
def bHi (tw tm:List Int)(tv:List (List Int))(wl wh ml mh:Int):Int:=hiN (vAt tw tm tv wl ml (wid wl wh)) (wid ml mh*wid wl wh)
theorem loN_le (v:Nat→Int):∀{n j:Nat},j<n→loN v n≤v j:=by
  intro n
  induction n with
  |zero=>intro j h;omega
  | succ n ih=>
    intro j h
    simp only [loN]
    by_cases e:j=n
    · subst e;omega
    · have:=ih (j:=j) (by omega);omega
theorem loN_in (v:Nat→Int):∀{n:Nat},loN v n=2000∨∃j,j<n∧loN v n=v j:=by
  intro n
  induction n with
  |zero=>exact .inl rfl
  | succ n ih=>
    simp only [loN]
    by_cases h:loN v n≤v n
    · rw [Int.min_eq_left h]
      rcases ih with q|⟨j,h1,h2⟩
      · exact .inl q
      · exact .inr ⟨j,by omega,h2⟩
    · rw [Int.min_eq_right (by omega)]
      exact .inr ⟨n,by omega,rfl⟩
theorem hiN_le (v:Nat→Int):∀{n j:Nat},j<n→v j≤hiN v n:=by
  intro n
  induction n with
  |zero=>intro j h;omega
  | succ n ih=>
    intro j h
    simp only [hiN]
    by_cases e:j=n
    · subst e;omega
    · have:=ih (j:=j) (by omega);omega
theorem hiN_in (v:Nat→Int):∀{n:Nat},hiN v n=0∨∃j,j<n∧hiN v n=v j:=by
  intro n
  induction n with
  |zero=>exact .inl rfl
  | succ n ih=>
    simp only [hiN]
    by_cases h:v n≤hiN v n
    · rw [Int.max_eq_left h]
      rcases ih with q|⟨j,h1,h2⟩
      · exact .inl q
      · exact .inr ⟨j,by omega,h2⟩
    · rw [Int.max_eq_right (by omega)]
      exact .inr ⟨n,by omega,rfl⟩
structure Box (tw tm:List Int)(wl wh ml mh:Int):Prop where
  w:wl≤wh
  w0:tw.getD 0 0≤wl
  w1:wh≤tw.getD (tw.length-1) 0
  m:ml≤mh
  m0:tm.getD 0 0≤ml
  m1:mh≤tm.getD (tm.length-1) 0
theorem Box.pt {tw tm:List Int} {wl wh ml mh:Int}(h:Box tw tm wl wh ml mh) {w m:Int}(h1:wl≤w)(h2:w≤wh)(h3:ml≤m)(h4:m≤mh):Pt tw tm w m:=by
  have:=h.w0;have:=h.w1;have:=h.m0;have:=h.m1
  exact⟨by omega,by omega,by omega,by omega⟩
structure IsB (f:Int→Int→Int)(wl wh ml mh lo hi:Int):Prop where
  le:∀w m,wl≤w→w≤wh→ml≤m→m≤mh→lo≤f w m∧f w m≤hi
  lo:∃w m,wl≤w∧w≤wh∧ml≤m∧m≤mh∧lo=f w m
  hi:∃w m,wl≤w∧w≤wh∧ml≤m∧m≤mh∧hi=f w m
theorem wid_lt {lo hi n:Int}(h:lo≤n)(h':n≤hi):(n-lo).toNat<wid lo hi:=by unfold wid;omega
theorem b_isB {tw tm:List Int} {tv:List (List Int)} {wl wh ml mh:Int}(h:TOk tw tm tv)(hb:Box tw tm wl wh ml mh):IsB (atS tw tm tv) wl wh ml mh (bLo tw tm tv wl wh ml mh) (bHi tw tm tv wl wh ml mh):=by
  have hw:=hb.w
  have hm:=hb.m
  have hW:0<wid wl wh:=by unfold wid;omega
  have hM:0<wid ml mh:=by unfold wid;omega
  have hpt:∀n,n<wid ml mh*wid wl wh→wl≤wl+((n%wid wl wh:Nat):Int)∧wl+((n%wid wl wh:Nat):Int)≤wh∧ml≤ml+((n/wid wl wh:Nat):Int)∧ml+((n/wid wl wh:Nat):Int)≤mh:=fun n hn=>by
    have h1:=Nat.mod_lt n hW
    have h2:n/wid wl wh<wid ml mh:=Nat.div_lt_of_lt_mul (by rw [Nat.mul_comm];exact hn)
    generalize n%wid wl wh=x at *
    generalize n/wid wl wh=y at *
    unfold wid at h1 h2
    omega
  have hv:∀n,n<wid ml mh*wid wl wh→0≤vAt tw tm tv wl ml (wid wl wh) n∧vAt tw tm tv wl ml (wid wl wh) n≤2000:=fun n hn=>by
    have q:=hpt n hn
    exact at_bd h (hb.pt q.1 q.2.1 q.2.2.1 q.2.2.2)
  have h0:0<wid ml mh*wid wl wh:=Nat.mul_pos hM hW
  refine⟨fun w m a1 a2 a3 a4=> ?_,?_,?_⟩
  · have b1:=wid_lt a1 a2
    have b2:=wid_lt a3 a4
    have hn:(m-ml).toNat*wid wl wh+(w-wl).toNat<wid ml mh*wid wl wh:=by
      have:((m-ml).toNat+1)*wid wl wh≤wid ml mh*wid wl wh:=Nat.mul_le_mul_right _ b2
      rw [Nat.add_mul,Nat.one_mul]at this
      omega
    have e:vAt tw tm tv wl ml (wid wl wh) ((m-ml).toNat*wid wl wh+(w-wl).toNat)=atS tw tm tv w m:=by
      unfold vAt
      rw [Nat.mul_comm,Nat.mul_add_mod,Nat.mod_eq_of_lt b1,Nat.mul_add_div hW,Nat.div_eq_of_lt b1]
      congr 1<;>omega
    rw [←e]
    exact⟨loN_le _ hn,hiN_le _ hn⟩
  · rcases loN_in (vAt tw tm tv wl ml (wid wl wh)) (n:=wid ml mh*wid wl wh)with q|⟨j,q1,q2⟩
    · have q3:=loN_le (vAt tw tm tv wl ml (wid wl wh)) h0
      have q4:=hv 0 h0
      have q5:=hpt 0 h0
      exact⟨_,_,q5.1,q5.2.1,q5.2.2.1,q5.2.2.2,show bLo tw tm tv wl wh ml mh=vAt tw tm tv wl ml (wid wl wh) 0 by unfold bLo;omega⟩
    · have q5:=hpt j q1
      exact⟨_,_,q5.1,q5.2.1,q5.2.2.1,q5.2.2.2,q2⟩
  · rcases hiN_in (vAt tw tm tv wl ml (wid wl wh)) (n:=wid ml mh*wid wl wh)with q|⟨j,q1,q2⟩
    · have q3:=hiN_le (vAt tw tm tv wl ml (wid wl wh)) h0
      have q4:=hv 0 h0
      have q5:=hpt 0 h0
      exact⟨_,_,q5.1,q5.2.1,q5.2.2.1,q5.2.2.2,show bHi tw tm tv wl wh ml mh=vAt tw tm tv wl ml (wid wl wh) 0 by unfold bHi;omega⟩
    · have q5:=hpt j q1
      exact⟨_,_,q5.1,q5.2.1,q5.2.2.1,q5.2.2.2,q2⟩
end Go.Proofs.Ytdacdjdccibaiaa

namespace Go.Proofs.Ytdacdjdccibaiaa
open Go Go.Eng Go.Proofs
set_option maxRecDepth 10000
theorem hold_done {n L:Nat}(h:Hold (n=L)):∀_:Unit,n=L:=fun _=>h
theorem hold_geq {f g:Unit→Nat}(h:f ()=g ()):Hold (GEq (.atg f) (.atg g)):=h
theorem hold_yield {l L:Nat} {a b:SV} {n:Nat}(h:n<L)(hf:Fit a b):Hold (l=l∧n<L∧Le a b):=⟨rfl,h,hf.le⟩
theorem strengths125 (tw tm:List Int)(tv:List (List Int))(wl wh ml mh:Int)(h:TOk tw tm tv∧Box tw tm wl wh ml mh):ISpec Try.prog 42 [.pp 0 [(.int .i64 (.sym fun _=>ml)),(.int .i64 (.sym fun _=>mh))],.pp 0 [(.int .i64 (.sym fun _=>wl)),(.int .i64 (.sym fun _=>wh))],.pp 0 [(.sl 1 (.sym fun _=>zi (tw).length) (fun ix=>[.int .i64 (.sym fun _=>(tw).getD ix.den.toNat 0)])),(.sl 1 (.sym fun _=>zi (tm).length) (fun ix=>[.int .i64 (.sym fun _=>(tm).getD ix.den.toNat 0)])),(.sl 1 (.sym fun _=>zi (tv).length) (fun ix=>[(.sl 1 (.sym fun _=>zi ((tv).getD ix.den.toNat []).length) (fun jx=>[.int .i64 (.sym fun _=>((tv).getD ix.den.toNat []).getD jx.den.toNat 0)]))]))]] (wid ml mh*wid wl wh) (fun n=>[(.int .i64 (.sym fun _=>ml+zi (n/wid wl wh))),(.int .i64 (.sym fun _=>vAt tw tm tv wl ml (wid wl wh) n))]):=by
  have ca:=at126 tw tm tv
  obtain⟨hT,hB⟩:=h
  have b1:=hB.w0;have b2:=hB.w1;have b3:=hB.m0;have b4:=hB.m1;have b5:=hB.w;have b6:=hB.m
  have d1:=hT.w2;have d2:=hT.m2
  have e1:=rising_spec hT.rw 0 (by omega)
  have e2:=rising_spec hT.rm 0 (by omega)
  have e3:=rising_spec hT.rw (tw.length-1) (by omega)
  have e4:=rising_spec hT.rm (tm.length-1) (by omega)
  simp only [risingAt]at e1 e2 e3 e4
  have hpt:∀a b:Nat,zi b≤wh-wl→zi a≤mh-ml→Pt tw tm (wl+zi b) (ml+zi a):=fun a b p q=>by
    simp only [zi_den]at *
    exact hB.pt (by omega) (by omega) (by omega) (by omega)
  obtain⟨W,hW⟩:∃W,W=wid wl wh:=⟨_,rfl⟩
  obtain⟨M,hM⟩:∃M,M=wid ml mh:=⟨_,rfl⟩
  obtain⟨L,hL⟩:∃L,L=M*W:=⟨_,rfl⟩
  have hWz:zi W=wh-wl+1:=by rw [hW];simp only [wid,zi_den];omega
  have hMz:zi M=mh-ml+1:=by rw [hM];simp only [wid,zi_den];omega
  obtain⟨el,hel⟩:∃el:Nat→List SV,el=(fun n:Nat=>[(.int .i64 (.sym fun _=>ml+zi (n/W))),(.int .i64 (.sym fun _=>vAt tw tm tv wl ml W n))]):=⟨_,rfl⟩
  have help:∀a b:Nat,b<W→el (a*W+b)=[(.int .i64 (.sym fun _=>ml+zi a)),(.int .i64 (.sym fun _=>atS tw tm tv (wl+zi b) (ml+zi a)))]:=fun a b hb=>by
    rw [hel]
    simp only [vAt]
    rw [Nat.mul_comm,Nat.mul_add_div (by omega),Nat.mul_add_mod,Nat.div_eq_of_lt hb,Nat.mod_eq_of_lt hb,Nat.add_zero]
    rfl
  have hlt:∀a b:Nat,a<M→b<W→a*W+b<L:=fun a b ha hb=>by
    have:=Nat.mul_le_mul_right W (show a+1≤M by omega)
    rw [Nat.add_mul,Nat.one_mul]at this
    omega
  have hpl:∀i,plainS (.tup (el i))=true:=fun i=>by rw [hel];rfl
  rw [←hW,←hM,←hL,←hel]
  clear hel hW hM
  refine ispec_of_vc (sc:=sc42) tyok mix Try.func42 rfl Try.call42 (by kernel_rfl) (by kernel_rfl) fun l=> ?_
  generalize Try.prog=P at ca⊢
  refine⟨rfl,rfl,hpl,?_⟩
  cbv
  refine⟨none,[],{a:Nat // a≤M},fun x=>.atg fun _=>x.1*W,fun x=>⟨[(0,.val (Value.func (Fn.yield l) ⟨[]⟩ ⟨[]⟩)),(1,.pp 0 [(.int .i64 (.sym fun _=>ml)),(.int .i64 (.sym fun _=>mh))]),(2,.pp 0 [(.int .i64 (.sym fun _=>wl)),(.int .i64 (.sym fun _=>wh))]),(3,.pp 0 [(.sl 1 (.sym fun _=>zi (tw).length) (fun ix=>[.int .i64 (.sym fun _=>(tw).getD ix.den.toNat 0)])),(.sl 1 (.sym fun _=>zi (tm).length) (fun ix=>[.int .i64 (.sym fun _=>(tm).getD ix.den.toNat 0)])),(.sl 1 (.sym fun _=>zi (tv).length) (fun ix=>[(.sl 1 (.sym fun _=>zi ((tv).getD ix.den.toNat []).length) (fun jx=>[.int .i64 (.sym fun _=>((tv).getD ix.den.toNat []).getD jx.den.toNat 0)]))]))]),(5,(.int .i64 (.sym fun _=>ml+zi x.1)))],[],3⟩,fun x=>M-x.1,?_,?_⟩
  · refine⟨⟨0,by omega⟩,?_⟩
    cbv
    repeat' (first
      |with_reducible refine hold ?_ ?_
      |with_reducible refine And.intro ?_ ?_)
    all_goals first
      |trivial
      |exact qM (qE (by rfl))
      |exact qM (qF (by rfl))
      |exact qM (Fit.refl _)
      |exact qL (qK _)
      |(refine qM (qE ?_);(try simp only [qV]at *);simp only [zQ,zA,zB,zC,zD,zE,zF,zG,zH,zI,zJ,zK,zL,zM,zN,zO,zP,zR,zS]at *;omega)
      |(refine hold_geq ?_;simp only [];omega)
      |skip
  · rintro ⟨a,ha⟩
    cbv
    repeat' (first
        |with_reducible refine hold_done ?_
        |with_reducible refine hold ?_ ?_
        |with_reducible refine And.intro ?_ ?_
        | (with_reducible refine qS ?_ ?_ ?_
           try cbv)
        | (with_reducible refine qT ?_ ?_
           try cbv)
        |(with_reducible intro hcd;(try simp only [zA,zB,zC,zD,zE,zF,zG,zH,zI,zJ,zK,zL,zM,zN,zO,zP]at hcd);try cbv)
        |fail)
    all_goals first
      |trivial
      |((try simp only [qV]at *);(try simp only [zQ,zA,zB,zC,zD,zE,zF,zG,zH,zI,zJ,zK,zL,zM,zN,zO,zP,zR,zS]at *);first|(refine qN ?_;omega)|(simp only [Hold];omega))
      |(show a*W=L;(try simp only [qV]at *);simp only [zi_den]at *;rw [hL];congr 1;omega)
      |skip
    refine⟨none,[],{b:Nat // b≤W},fun x=>.atg fun _=>a*W+x.1,fun x=>⟨[(0,.val (Value.func (Fn.yield l) ⟨[]⟩ ⟨[]⟩)),(1,.pp 0 [(.int .i64 (.sym fun _=>ml)),(.int .i64 (.sym fun _=>mh))]),(2,.pp 0 [(.int .i64 (.sym fun _=>wl)),(.int .i64 (.sym fun _=>wh))]),(3,.pp 0 [(.sl 1 (.sym fun _=>zi (tw).length) (fun ix=>[.int .i64 (.sym fun _=>(tw).getD ix.den.toNat 0)])),(.sl 1 (.sym fun _=>zi (tm).length) (fun ix=>[.int .i64 (.sym fun _=>(tm).getD ix.den.toNat 0)])),(.sl 1 (.sym fun _=>zi (tv).length) (fun ix=>[(.sl 1 (.sym fun _=>zi ((tv).getD ix.den.toNat []).length) (fun jx=>[.int .i64 (.sym fun _=>((tv).getD ix.den.toNat []).getD jx.den.toNat 0)]))]))]),(5,(.int .i64 (.sym fun _=>ml+zi a))),(6,(.int .i64 (.sym fun _=>wl+zi x.1)))],[],3⟩,fun x=>W-x.1,?_,?_⟩
    · refine⟨⟨0,by omega⟩,?_⟩
      cbv
      repeat' (first
        |with_reducible refine hold ?_ ?_
        |with_reducible refine And.intro ?_ ?_)
      all_goals first
        |trivial
        |exact qM (qE (by rfl))
        |exact qM (qF (by rfl))
        |exact qM (Fit.refl _)
        |exact qL (qK _)
        |(refine qM (qE ?_);(try simp only [qV]at *);simp only [zQ,zA,zB,zC,zD,zE,zF,zG,zH,zI,zJ,zK,zL,zM,zN,zO,zP,zR,zS]at *;omega)
        |(refine hold_geq ?_;simp only [];omega)
        |skip
    · rintro ⟨b,hb⟩
      cbv
      repeat' (first
          |with_reducible refine hold ?_ ?_
          |with_reducible refine And.intro ?_ ?_
          | (with_reducible refine qS ?_ ?_ ?_
             try cbv)
          | (with_reducible refine qT ?_ ?_
             try cbv)
          |(with_reducible intro hcd;(try simp only [zA,zB,zC,zD,zE,zF,zG,zH,zI,zJ,zK,zL,zM,zN,zO,zP]at hcd);try cbv)
          | (refine qP ?_ (ca _ _ (show Hold _ from ?_)) (by(repeat' (first|exact qB|refine qD ?_ ?_|exact qE (by rfl)|exact qF (by rfl)|exact Fit.refl _|exact qA|refine qC ?_ rfl ?_)))
             try cbv)
          |fail)
      all_goals first
        |trivial
        |((try simp only [qV]at *);(try simp only [zQ,zA,zB,zC,zD,zE,zF,zG,zH,zI,zJ,zK,zL,zM,zN,zO,zP,zR,zS]at *);first|(refine qN ?_;omega)|(simp only [Hold];omega))
        |(simp only [Hold];exact⟨hT,hpt _ _ (by omega) (by omega)⟩)
        |(refine hold_yield (hlt a b (by simp only [zi_den]at *;omega) (by simp only [zi_den]at *;omega)) ?_;rw [help a b (by simp only [zi_den]at *;omega)];(repeat' (first|exact qA|exact qB|refine qC ?_ rfl ?_|refine qD ?_ ?_|exact qE (by rfl)|exact qF (by rfl)|exact Fit.refl _|exact qG _|(refine qE ?_;(try simp only [qV]at *);simp only [zQ,zA,zB,zC,zD,zE,zF,zG,zH,zI,zJ,zK,zL,zM,zN,zO,zP,zR,zS]at *;omega)));done)
        |((try simp only [zQ,zA,zB,zC,zD,zE,zF,zG,zH,zI,zJ,zK,zL,zM,zN,zO,zP,zR,zS]at *);refine⟨⟨b+1,by omega⟩,by simp only [];omega,?_⟩;cbv;(repeat' (first|with_reducible refine hold ?_ ?_|with_reducible refine And.intro ?_ ?_));(all_goals first|trivial|exact qM (qE (by rfl))|exact qM (qF (by rfl))|exact qM (Fit.refl _)|exact qL (qK _)|(refine qM (qE ?_);(try simp only [qV]at *);simp only [zQ,zA,zB,zC,zD,zE,zF,zG,zH,zI,zJ,zK,zL,zM,zN,zO,zP,zR,zS]at *;omega)|(refine hold_geq ?_;simp only [];omega)|skip))
        |((try simp only [zQ,zA,zB,zC,zD,zE,zF,zG,zH,zI,zJ,zK,zL,zM,zN,zO,zP,zR,zS]at *);have hbW:b=W:=(by omega);refine⟨⟨a+1,by omega⟩,by simp only [];omega,?_⟩;cbv;(repeat' (first|with_reducible refine hold ?_ ?_|with_reducible refine And.intro ?_ ?_));(all_goals first|trivial|exact qM (qE (by rfl))|exact qM (qF (by rfl))|exact qM (Fit.refl _)|exact qL (qK _)|(refine qM (qE ?_);(try simp only [qV]at *);simp only [zQ,zA,zB,zC,zD,zE,zF,zG,zH,zI,zJ,zK,zL,zM,zN,zO,zP,zR,zS]at *;omega)|(refine hold_geq ?_;simp only [Nat.add_mul,Nat.one_mul];omega)|skip))
        |(show a*W=L;(try simp only [qV]at *);simp only [zi_den]at *;rw [hL];congr 1;omega)
        |trivial
        |skip
end Go.Proofs.Ytdacdjdccibaiaa

namespace Go.Proofs.Ytdacdjdccibaiaa
open Go Go.Eng Go.Proofs
set_option maxRecDepth 10000
theorem strengths119 (tw tm:List Int)(tv:List (List Int))(wl wh ml mh:Int):FSpec Try.prog 25 [(.agg [(.sl 1 (.sym fun _=>zi (tw).length) (fun ix=>[.int .i64 (.sym fun _=>(tw).getD ix.den.toNat 0)])),(.sl 1 (.sym fun _=>zi (tm).length) (fun ix=>[.int .i64 (.sym fun _=>(tm).getD ix.den.toNat 0)])),(.sl 1 (.sym fun _=>zi (tv).length) (fun ix=>[(.sl 1 (.sym fun _=>zi ((tv).getD ix.den.toNat []).length) (fun jx=>[.int .i64 (.sym fun _=>((tv).getD ix.den.toNat []).getD jx.den.toNat 0)]))]))]),(.agg [(.int .i64 (.sym fun _=>wl)),(.int .i64 (.sym fun _=>wh))]),(.agg [(.int .i64 (.sym fun _=>ml)),(.int .i64 (.sym fun _=>mh))])] [] (fun r _=>r = .clo 42 [] [.pp 0 [(.int .i64 (.sym fun _=>ml)),(.int .i64 (.sym fun _=>mh))],.pp 0 [(.int .i64 (.sym fun _=>wl)),(.int .i64 (.sym fun _=>wh))],.pp 0 [(.sl 1 (.sym fun _=>zi (tw).length) (fun ix=>[.int .i64 (.sym fun _=>(tw).getD ix.den.toNat 0)])),(.sl 1 (.sym fun _=>zi (tm).length) (fun ix=>[.int .i64 (.sym fun _=>(tm).getD ix.den.toNat 0)])),(.sl 1 (.sym fun _=>zi (tv).length) (fun ix=>[(.sl 1 (.sym fun _=>zi ((tv).getD ix.den.toNat []).length) (fun jx=>[.int .i64 (.sym fun _=>((tv).getD ix.den.toNat []).getD jx.den.toNat 0)]))]))]]):=by
  refine FSpec.is fun R hR=>qW (sc:=sc25) tyok mix Try.func25 rfl Try.call25 (by kernel_rfl) (by kernel_rfl) ?_
  generalize Try.prog=P
  cbv
  repeat' (first
      |with_reducible refine hold ?_ ?_
      |with_reducible refine And.intro ?_ ?_
      | (with_reducible refine qS ?_ ?_ ?_
         try cbv)
      | (with_reducible refine qT ?_ ?_
         try cbv)
      |(with_reducible intro hcd;(try simp only [zA,zB,zC,zD,zE,zF,zG,zH,zI,zJ,zK,zL,zM,zN,zO,zP]at hcd);try cbv)
      |fail)
  all_goals first
    |trivial
    |((try simp only [qV]at *);(try simp only [zQ,zA,zB,zC,zD,zE,zF,zG,zH,zI,zJ,zK,zL,zM,zN,zO,zP,zR,zS]at *);first|(refine qN ?_;omega)|(simp only [Hold];omega))
    |(subst hR;(repeat' (first|exact qA|exact qB|refine qC ?_ rfl ?_|refine qD ?_ ?_|exact qE (by rfl)|exact qF (by rfl)|exact Fit.refl _|exact qG _|(refine qE ?_;(try simp only [qV]at *);simp only [zQ,zA,zB,zC,zD,zE,zF,zG,zH,zI,zJ,zK,zL,zM,zN,zO,zP,zR,zS]at *;omega)));done)
    |skip
theorem bounds102 (tw tm:List Int)(tv:List (List Int))(wl wh ml mh:Int)(h:TOk tw tm tv∧Box tw tm wl wh ml mh):FSpec Try.prog 55 [(.agg [(.sl 1 (.sym fun _=>zi (tw).length) (fun ix=>[.int .i64 (.sym fun _=>(tw).getD ix.den.toNat 0)])),(.sl 1 (.sym fun _=>zi (tm).length) (fun ix=>[.int .i64 (.sym fun _=>(tm).getD ix.den.toNat 0)])),(.sl 1 (.sym fun _=>zi (tv).length) (fun ix=>[(.sl 1 (.sym fun _=>zi ((tv).getD ix.den.toNat []).length) (fun jx=>[.int .i64 (.sym fun _=>((tv).getD ix.den.toNat []).getD jx.den.toNat 0)]))]))]),(.agg [(.int .i64 (.sym fun _=>wl)),(.int .i64 (.sym fun _=>wh))]),(.agg [(.int .i64 (.sym fun _=>ml)),(.int .i64 (.sym fun _=>mh))])] [] (fun r _=>r=(.tup [(.agg [(.int .i64 (.sym fun _=>bLo tw tm tv wl wh ml mh)),(.int .i64 (.sym fun _=>bHi tw tm tv wl wh ml mh))]),(.int .i64 (.sym fun _=>0))])):=by
  have c79:= @check79
  have c117:= @span117
  have c118:= @holds118
  have c119:= @strengths119
  have c120:= @minimum120
  obtain⟨hT,hB⟩:=h
  have hf:=faultT_ok hT
  have b1:=hB.w0;have b2:=hB.w1;have b3:=hB.m0;have b4:=hB.m1;have b5:=hB.w;have b6:=hB.m
  have d1:=hT.w2;have d2:=hT.m2;have d3:=hT.w5;have d4:=hT.m5
  obtain⟨W,hW⟩:∃W,W=wid wl wh:=⟨_,rfl⟩
  obtain⟨L,hL⟩:∃L,L=wid ml mh*W:=⟨_,rfl⟩
  obtain⟨v,hv⟩:∃v,v=vAt tw tm tv wl ml W:=⟨_,rfl⟩
  obtain⟨el,hel⟩:∃el:Nat→List SV,el=(fun n:Nat=>[(.int .i64 (.sym fun _=>ml+zi (n/W))),(.int .i64 (.sym fun _=>v n))]):=⟨_,rfl⟩
  have cI:ISpec Try.prog 42 [.pp 0 [(.int .i64 (.sym fun _=>ml)),(.int .i64 (.sym fun _=>mh))],.pp 0 [(.int .i64 (.sym fun _=>wl)),(.int .i64 (.sym fun _=>wh))],.pp 0 [(.sl 1 (.sym fun _=>zi (tw).length) (fun ix=>[.int .i64 (.sym fun _=>(tw).getD ix.den.toNat 0)])),(.sl 1 (.sym fun _=>zi (tm).length) (fun ix=>[.int .i64 (.sym fun _=>(tm).getD ix.den.toNat 0)])),(.sl 1 (.sym fun _=>zi (tv).length) (fun ix=>[(.sl 1 (.sym fun _=>zi ((tv).getD ix.den.toNat []).length) (fun jx=>[.int .i64 (.sym fun _=>((tv).getD ix.den.toNat []).getD jx.den.toNat 0)]))]))]] L el:=by rw [hel,hv,hL,hW];exact strengths125 tw tm tv wl wh ml mh ⟨hT,hB⟩
  have elen:∀i,(el i).length=2∧SV.idsL (el i)=[]:=fun i=>by rw [hel];exact⟨rfl,rfl⟩
  have ei:∀i,el i=[(.int .i64 (.sym fun _=>ml+zi (i/W))),(.int .i64 (.sym fun _=>v i))]:=fun i=>by rw [hel]
  have hlo:bLo tw tm tv wl wh ml mh=loN v L:=by rw [hv,hL,hW];rfl
  have hhi:bHi tw tm tv wl wh ml mh=hiN v L:=by rw [hv,hL,hW];rfl
  rw [hlo,hhi]
  clear hel hv hL hlo hhi hW
  refine FSpec.is fun R hR=>qW (sc:=sc55) tyok mix Try.func55 rfl Try.call55 (by kernel_rfl) (by kernel_rfl) ?_
  generalize Try.prog=P at c79 c117 c118 c119 c120 cI⊢
  cbv
  repeat' (first
      |with_reducible refine hold ?_ ?_
      |with_reducible refine And.intro ?_ ?_
      | (with_reducible refine qS ?_ ?_ ?_
         try cbv)
      | (with_reducible refine qT ?_ ?_
         try cbv)
      |(with_reducible intro hcd;(try simp only [zA,zB,zC,zD,zE,zF,zG,zH,zI,zJ,zK,zL,zM,zN,zO,zP,hf]at hcd);try cbv)
      | (refine qP ?_ (c79 _ _ _) (by(repeat' (first|exact qB|refine qD ?_ ?_|exact qE (by rfl)|exact qF (by rfl)|exact Fit.refl _|exact qA|refine qC ?_ rfl ?_)))
         try cbv)
      | (refine qP ?_ (c117 _ (show Hold _ from ?_)) (by(repeat' (first|exact qB|refine qD ?_ ?_|exact qE (by rfl)|exact qF (by rfl)|exact Fit.refl _|exact qA|refine qC ?_ rfl ?_)))
         try cbv)
      | (refine qP ?_ (c118 _ _ _ _) (by(repeat' (first|exact qB|refine qD ?_ ?_|exact qE (by rfl)|exact qF (by rfl)|exact Fit.refl _|exact qA|refine qC ?_ rfl ?_)))
         try cbv)
      | (refine qP ?_ (c119 _ _ _ _ _ _ _) (by(repeat' (first|exact qB|refine qD ?_ ?_|exact qE (by rfl)|exact qF (by rfl)|exact Fit.refl _|exact qA|refine qC ?_ rfl ?_)))
         try cbv)
      |fail)
  all_goals first
    |trivial
    |((try simp only [qV]at *);(try simp only [zQ,zA,zB,zC,zD,zE,zF,zG,zH,zI,zJ,zK,zL,zM,zN,zO,zP,zR,zS]at *);first|(refine qN ?_;omega)|(simp only [Hold];omega))
    |(exfalso;simp_all;omega)
    |skip
  refine⟨[],L,el,fun _=>Unit,fun i _=>([(0,.cells [(.sl 1 (.sym fun _=>zi (tw).length) (fun ix=>[.int .i64 (.sym fun _=>(tw).getD ix.den.toNat 0)])),(.sl 1 (.sym fun _=>zi (tm).length) (fun ix=>[.int .i64 (.sym fun _=>(tm).getD ix.den.toNat 0)])),(.sl 1 (.sym fun _=>zi (tv).length) (fun ix=>[(.sl 1 (.sym fun _=>zi ((tv).getD ix.den.toNat []).length) (fun jx=>[.int .i64 (.sym fun _=>((tv).getD ix.den.toNat []).getD jx.den.toNat 0)]))]))] 40),(1,.cells [(.int .i64 (.sym fun _=>wl)),(.int .i64 (.sym fun _=>wh))] 44),(2,.cells [(.int .i64 (.sym fun _=>ml)),(.int .i64 (.sym fun _=>mh))] 44),(3,.cells [.int .i64 (.lit 0),.int .i64 (.lit 0)] 44),(25,.cells [(.int .i64 (.sym fun _=>loN v i)),(.int .i64 (.sym fun _=>hiN v i))] 44)],40),?_⟩
  cbv
  refine⟨fun _=>⟨cI,elen⟩,⟨(),?_⟩,?_,?_⟩
  · cbv
    repeat' (first
      |with_reducible refine hold ?_ ?_
      |with_reducible refine And.intro ?_ ?_)
    all_goals first
      |trivial
      |exact qM (qE (by rfl))
      |exact qM (qF (by rfl))
      |exact qM (Fit.refl _)
      |exact qL (qK _)
      |(refine qM (qE ?_);(try simp only [qV]at *);simp only [zQ,zA,zB,zC,zD,zE,zF,zG,zH,zI,zJ,zK,zL,zM,zN,zO,zP,zR,zS]at *;omega)
      |(refine qL (qJ ?_);refine qC (qE ?_) rfl (qC (qE ?_) rfl qA)<;>first|rfl|((try simp only [qV]at *);simp only [zQ,zA,zB,zC,zD,zE,zF,zG,zH,zI,zJ,zK,zL,zM,zN,zO,zP,zR,zS,loN,hiN,minIx,maxIx];omega))
      |skip
  · intro i _ hil
    simp only [ei]
    cbv
    repeat' (first
        |with_reducible refine hold ?_ ?_
        |with_reducible refine And.intro ?_ ?_
        | (with_reducible refine qS ?_ ?_ ?_
           try cbv)
        | (with_reducible refine qT ?_ ?_
           try cbv)
        |(with_reducible intro hcd;(try simp only [zA,zB,zC,zD,zE,zF,zG,zH,zI,zJ,zK,zL,zM,zN,zO,zP]at hcd);try cbv)
        | ((first|(refine qR ?_ (c120 _ _) rfl (by cbv;(repeat' (first|exact qB|refine qD ?_ ?_|exact qE (by rfl)|exact qF (by rfl)|exact Fit.refl _|exact qA|refine qC ?_ rfl ?_))))|(refine⟨none,?_⟩;refine qR ?_ (c120 _ _) rfl (by cbv;(repeat' (first|exact qB|refine qD ?_ ?_|exact qE (by rfl)|exact qF (by rfl)|exact Fit.refl _|exact qA|refine qC ?_ rfl ?_)))))
           try cbv)
        |fail)
    all_goals first
      |trivial
      |((try simp only [qV]at *);(try simp only [zQ,zA,zB,zC,zD,zE,zF,zG,zH,zI,zJ,zK,zL,zM,zN,zO,zP,zR,zS]at *);first|(refine qN ?_;omega)|(simp only [Hold];omega))
      |(refine qL (qJ ?_);refine qC (qE ?_) rfl (qC (qE ?_) rfl qA)<;>first|rfl|((try simp only [qV]at *);simp only [zQ,zA,zB,zC,zD,zE,zF,zG,zH,zI,zJ,zK,zL,zM,zN,zO,zP,zR,zS,loN,hiN,minIx,maxIx];omega))
      |(refine⟨(),?_⟩;cbv;(repeat' (first|with_reducible refine hold ?_ ?_|with_reducible refine And.intro ?_ ?_));(all_goals first|trivial|exact qM (qE (by rfl))|exact qM (qF (by rfl))|exact qM (Fit.refl _)|exact qL (qK _)|(refine qM (qE ?_);(try simp only [qV]at *);simp only [zQ,zA,zB,zC,zD,zE,zF,zG,zH,zI,zJ,zK,zL,zM,zN,zO,zP,zR,zS]at *;omega)|(refine qL (qJ ?_);refine qC (qE ?_) rfl (qC (qE ?_) rfl qA)<;>first|rfl|((try simp only [qV]at *);simp only [zQ,zA,zB,zC,zD,zE,zF,zG,zH,zI,zJ,zK,zL,zM,zN,zO,zP,zR,zS,loN,hiN,minIx,maxIx];omega))|skip))
      |skip
    trace_state
  · intro _
    cbv
    repeat' (first
        |with_reducible refine hold ?_ ?_
        |with_reducible refine And.intro ?_ ?_
        | (with_reducible refine qS ?_ ?_ ?_
           try cbv)
        | (with_reducible refine qT ?_ ?_
           try cbv)
        |(with_reducible intro hcd;(try simp only [zA,zB,zC,zD,zE,zF,zG,zH,zI,zJ,zK,zL,zM,zN,zO,zP]at hcd);try cbv)
        |fail)
    all_goals first
      |trivial
      |((try simp only [qV]at *);(try simp only [zQ,zA,zB,zC,zD,zE,zF,zG,zH,zI,zJ,zK,zL,zM,zN,zO,zP,zR,zS]at *);first|(refine qN ?_;omega)|(simp only [Hold];omega))
      |(subst hR;(repeat' (first|exact qA|exact qB|refine qC ?_ rfl ?_|refine qD ?_ ?_|exact qE (by rfl)|exact qF (by rfl)|exact Fit.refl _|exact qG _|(refine qE ?_;(try simp only [qV]at *);simp only [zQ,zA,zB,zC,zD,zE,zF,zG,zH,zI,zJ,zK,zL,zM,zN,zO,zP,zR,zS]at *;omega)));done)
      |skip
end Go.Proofs.Ytdacdjdccibaiaa

namespace Go.Proofs.Ytdacdjdccibaiaa
structure Csk where
  g:Int
  wl:Int
  wh:Int
  ml:Int
  mh:Int
def ck0 :Csk:=⟨0,0,0,0,0⟩
def holdsB (a b c d:Int):Bool:=decide (c≤d)&&(decide (a≤c)&&decide (c≤b))&&(decide (a≤d)&&decide (d≤b))
def boxB (tw tm:List Int)(wl wh ml mh:Int):Bool:=holdsB (tw.getD 0 0) (tw.getD (tw.length-1) 0) wl wh&&holdsB (tm.getD 0 0) (tm.getD (tm.length-1) 0) ml mh
theorem boxB_iff {tw tm:List Int} {wl wh ml mh:Int}:boxB tw tm wl wh ml mh=true↔Box tw tm wl wh ml mh:=by
  simp only [boxB,holdsB,Bool.and_eq_true,decide_eq_true_eq]
  constructor
  · intro h
    exact⟨by omega,by omega,by omega,by omega,by omega,by omega⟩
  · intro h
    have:=h.w;have:=h.w0;have:=h.w1;have:=h.m;have:=h.m0;have:=h.m1
    omega
def caskB (tw tm:List Int)(c:Csk):Bool:=decide (1≤c.g)&&decide (c.g≤99)&&boxB tw tm c.wl c.wh c.ml c.mh
def casksB (tw tm:List Int)(cs:List Csk):Bool:=decide (∀i,i<cs.length→caskB tw tm (cs.getD i ck0)=true)
def faultS (tw tm:List Int)(tv:List (List Int))(rate:Int)(cs:List Csk):Int:=
  if faultT tw tm tv≠0 then faultT tw tm tv
  else if 6<cs.length then 3
  else if rate<0∨200<rate∨casksB tw tm cs=false then 1 else 0
structure SOk (tw tm:List Int)(tv:List (List Int))(rate:Int)(cs:List Csk):Prop where
  t:TOk tw tm tv
  few:cs.length≤6
  rate:0≤rate∧rate≤200
  gal:∀i,i<cs.length→1≤(cs.getD i ck0).g∧(cs.getD i ck0).g≤99
  box:∀i,i<cs.length→Box tw tm (cs.getD i ck0).wl (cs.getD i ck0).wh (cs.getD i ck0).ml (cs.getD i ck0).mh
theorem faultS_iff {tw tm:List Int} {tv:List (List Int)} {rate:Int} {cs:List Csk}:faultS tw tm tv rate cs=0↔SOk tw tm tv rate cs:=by
  constructor
  · intro h
    unfold faultS at h
    split at h
    · omega
    · rename_i h1
      have h1:faultT tw tm tv=0:=by omega
      split at h
      · omega
      · split at h
        · omega
        · rename_i h2 h3
          have hc:casksB tw tm cs=true:=by
            cases hq:casksB tw tm cs with
            |true=>rfl
            |false=>exact absurd (.inr (.inr hq)) h3
          have hc:=of_decide_eq_true hc
          refine⟨faultT_zero h1,by omega,by omega,fun i hi=> ?_,fun i hi=> ?_⟩
          · have:=hc i hi
            simp only [caskB,Bool.and_eq_true,decide_eq_true_eq]at this
            omega
          · have:=hc i hi
            simp only [caskB,Bool.and_eq_true,decide_eq_true_eq]at this
            exact boxB_iff.1 this.2
  · intro h
    have h1:=faultT_ok h.t
    have hc:casksB tw tm cs=true:=decide_eq_true fun i hi=>by
      have:=h.gal i hi
      simp only [caskB,Bool.and_eq_true,decide_eq_true_eq]
      exact⟨this,boxB_iff.2 (h.box i hi)⟩
    have:=h.few
    have:=h.rate
    unfold faultS
    rw [if_neg (by omega),if_neg (by omega),if_neg (by rw [hc];simp;omega)]
def sLo (tw tm:List Int)(tv:List (List Int))(c:Csk):Int:=bLo tw tm tv c.wl c.wh c.ml c.mh
def sHi (tw tm:List Int)(tv:List (List Int))(c:Csk):Int:=bHi tw tm tv c.wl c.wh c.ml c.mh
theorem s_bd {tw tm:List Int} {tv:List (List Int)} {c:Csk}(h:TOk tw tm tv)(hb:Box tw tm c.wl c.wh c.ml c.mh):0≤sLo tw tm tv c∧sLo tw tm tv c≤sHi tw tm tv c∧sHi tw tm tv c≤2000:=by
  have hB:=b_isB h hb
  obtain⟨w,m,a1,a2,a3,a4,a5⟩:=hB.lo
  obtain⟨w',m',b1,b2,b3,b4,b5⟩:=hB.hi
  have q1:=at_bd h (hb.pt a1 a2 a3 a4)
  have q2:=at_bd h (hb.pt b1 b2 b3 b4)
  have q3:=hB.le w m a1 a2 a3 a4
  unfold sLo sHi
  omega
end Go.Proofs.Ytdacdjdccibaiaa

namespace Go.Proofs.Ytdacdjdccibaiaa
open Go Go.Eng Go.Proofs
set_option maxRecDepth 10000
theorem holds118h (a b c d:Int):FSpec Try.prog 24 [(.agg [(.int .i64 (.sym fun _=>a)),(.int .i64 (.sym fun _=>b))]),(.agg [(.int .i64 (.sym fun _=>c)),(.int .i64 (.sym fun _=>d))])] [] (fun r _=>r=(.bool (.sym fun _=>holdsB a b c d))):=holds118 a b c d
theorem bounds102b (tw tm:List Int)(tv:List (List Int))(wl wh ml mh:Int)(hT:TOk tw tm tv)(hB:boxB tw tm wl wh ml mh=false):FSpec Try.prog 55 [(.agg [(.sl 1 (.sym fun _=>zi (tw).length) (fun ix=>[.int .i64 (.sym fun _=>(tw).getD ix.den.toNat 0)])),(.sl 1 (.sym fun _=>zi (tm).length) (fun ix=>[.int .i64 (.sym fun _=>(tm).getD ix.den.toNat 0)])),(.sl 1 (.sym fun _=>zi (tv).length) (fun ix=>[(.sl 1 (.sym fun _=>zi ((tv).getD ix.den.toNat []).length) (fun jx=>[.int .i64 (.sym fun _=>((tv).getD ix.den.toNat []).getD jx.den.toNat 0)]))]))]),(.agg [(.int .i64 (.sym fun _=>wl)),(.int .i64 (.sym fun _=>wh))]),(.agg [(.int .i64 (.sym fun _=>ml)),(.int .i64 (.sym fun _=>mh))])] [] (fun r _=>r=(.tup [(.agg [(.int .i64 (.sym fun _=>0)),(.int .i64 (.sym fun _=>0))]),(.int .i64 (.sym fun _=>2))])):=by
  have c79:= @check79
  have c117:= @span117
  have c118:= @holds118h
  have c119:= @strengths119
  have hf:=faultT_ok hT
  have d1:=hT.w2;have d2:=hT.m2;have d3:=hT.w5;have d4:=hT.m5
  refine FSpec.is fun R hR=>qW (sc:=sc55) tyok mix Try.func55 rfl Try.call55 (by kernel_rfl) (by kernel_rfl) ?_
  generalize Try.prog=P at c79 c117 c118 c119⊢
  cbv
  repeat' (first
      |with_reducible refine hold ?_ ?_
      |with_reducible refine And.intro ?_ ?_
      | (with_reducible refine qS ?_ ?_ ?_
         try cbv)
      | (with_reducible refine qT ?_ ?_
         try cbv)
      |(with_reducible intro hcd;(try simp only [zA,zB,zC,zD,zE,zF,zG,zH,zI,zJ,zK,zL,zM,zN,zO,zP,hf]at hcd);try cbv)
      | (refine qP ?_ (c79 _ _ _) (by(repeat' (first|exact qB|refine qD ?_ ?_|exact qE (by rfl)|exact qF (by rfl)|exact Fit.refl _|exact qA|refine qC ?_ rfl ?_)))
         try cbv)
      | (refine qP ?_ (c117 _ (show Hold _ from ?_)) (by(repeat' (first|exact qB|refine qD ?_ ?_|exact qE (by rfl)|exact qF (by rfl)|exact Fit.refl _|exact qA|refine qC ?_ rfl ?_)))
         try cbv)
      | (refine qP ?_ (c118 _ _ _ _) (by(repeat' (first|exact qB|refine qD ?_ ?_|exact qE (by rfl)|exact qF (by rfl)|exact Fit.refl _|exact qA|refine qC ?_ rfl ?_)))
         try cbv)
      | (refine qP ?_ (c119 _ _ _ _ _ _ _) (by(repeat' (first|exact qB|refine qD ?_ ?_|exact qE (by rfl)|exact qF (by rfl)|exact Fit.refl _|exact qA|refine qC ?_ rfl ?_)))
         try cbv)
      |fail)
  all_goals first
    |trivial
    |((try simp only [qV]at *);(try simp only [zQ,zA,zB,zC,zD,zE,zF,zG,zH,zI,zJ,zK,zL,zM,zN,zO,zP,zR,zS]at *);first|(refine qN ?_;omega)|(simp only [Hold];omega))
    |(subst hR;(repeat' (first|exact qA|exact qB|refine qC ?_ rfl ?_|refine qD ?_ ?_|exact qE (by rfl)|exact qF (by rfl)|exact Fit.refl _|exact qG _|(refine qE ?_;(try simp only [qV]at *);simp only [zQ,zA,zB,zC,zD,zE,zF,zG,zH,zI,zJ,zK,zL,zM,zN,zO,zP,zR,zS]at *;omega)));done)
    |(exfalso;simp_all [boxB];done)
    |skip
theorem str85 (tw tm:List Int)(tv:List (List Int))(rate:Int)(cs:List Csk)(c:Csk)(hT:TOk tw tm tv)(hB:Box tw tm c.wl c.wh c.ml c.mh):FSpec Try.prog 44 [(.agg [(.sl 1 (.sym fun _=>zi (tw).length) (fun ix=>[.int .i64 (.sym fun _=>(tw).getD ix.den.toNat 0)])),(.sl 1 (.sym fun _=>zi (tm).length) (fun ix=>[.int .i64 (.sym fun _=>(tm).getD ix.den.toNat 0)])),(.sl 1 (.sym fun _=>zi (tv).length) (fun ix=>[(.sl 1 (.sym fun _=>zi ((tv).getD ix.den.toNat []).length) (fun jx=>[.int .i64 (.sym fun _=>((tv).getD ix.den.toNat []).getD jx.den.toNat 0)]))])),(.int .i64 (.sym fun _=>rate)),(.sl 5 (.sym fun _=>zi (cs).length) (fun ix=>[(.int .i64 (.sym fun _=>((cs).getD ix.den.toNat ck0).g)),(.int .i64 (.sym fun _=>((cs).getD ix.den.toNat ck0).wl)),(.int .i64 (.sym fun _=>((cs).getD ix.den.toNat ck0).wh)),(.int .i64 (.sym fun _=>((cs).getD ix.den.toNat ck0).ml)),(.int .i64 (.sym fun _=>((cs).getD ix.den.toNat ck0).mh))]))]),(.agg [(.int .i64 (.sym fun _=>c.g)),(.int .i64 (.sym fun _=>c.wl)),(.int .i64 (.sym fun _=>c.wh)),(.int .i64 (.sym fun _=>c.ml)),(.int .i64 (.sym fun _=>c.mh))])] [] (fun r _=>r=(.tup [(.agg [(.int .i64 (.sym fun _=>sLo tw tm tv c)),(.int .i64 (.sym fun _=>sHi tw tm tv c))]),(.int .i64 (.sym fun _=>0))])):=by
  have c103:= @entry103
  have c102:=bounds102 tw tm tv c.wl c.wh c.ml c.mh ⟨hT,hB⟩
  refine FSpec.is fun R hR=>qW (sc:=sc44) tyok mix Try.func44 rfl Try.call44 (by kernel_rfl) (by kernel_rfl) ?_
  generalize Try.prog=P at c103 c102⊢
  cbv
  repeat' (first
      |with_reducible refine hold ?_ ?_
      |with_reducible refine And.intro ?_ ?_
      | (with_reducible refine qS ?_ ?_ ?_
         try cbv)
      | (with_reducible refine qT ?_ ?_
         try cbv)
      |(with_reducible intro hcd;(try simp only [zA,zB,zC,zD,zE,zF,zG,zH,zI,zJ,zK,zL,zM,zN,zO,zP]at hcd);try cbv)
      | (refine qP ?_ (c103 _ _) (by(repeat' (first|exact qB|refine qD ?_ ?_|exact qE (by rfl)|exact qF (by rfl)|exact Fit.refl _|exact qA|refine qC ?_ rfl ?_)))
         try cbv)
      | (refine qP ?_ (c102) (by(repeat' (first|exact qB|refine qD ?_ ?_|exact qE (by rfl)|exact qF (by rfl)|exact Fit.refl _|exact qA|refine qC ?_ rfl ?_)))
         try cbv)
      |fail)
  all_goals first
    |trivial
    |((try simp only [qV]at *);(try simp only [zQ,zA,zB,zC,zD,zE,zF,zG,zH,zI,zJ,zK,zL,zM,zN,zO,zP,zR,zS]at *);first|(refine qN ?_;omega)|(simp only [Hold];omega))
    |(subst hR;(repeat' (first|exact qA|exact qB|refine qC ?_ rfl ?_|refine qD ?_ ?_|exact qE (by rfl)|exact qF (by rfl)|exact Fit.refl _|exact qG _|(refine qE ?_;(try simp only [qV]at *);simp only [zQ,zA,zB,zC,zD,zE,zF,zG,zH,zI,zJ,zK,zL,zM,zN,zO,zP,zR,zS]at *;omega)));done)
    |skip
theorem str85b (tw tm:List Int)(tv:List (List Int))(rate:Int)(cs:List Csk)(c:Csk)(hT:TOk tw tm tv)(hB:boxB tw tm c.wl c.wh c.ml c.mh=false):FSpec Try.prog 44 [(.agg [(.sl 1 (.sym fun _=>zi (tw).length) (fun ix=>[.int .i64 (.sym fun _=>(tw).getD ix.den.toNat 0)])),(.sl 1 (.sym fun _=>zi (tm).length) (fun ix=>[.int .i64 (.sym fun _=>(tm).getD ix.den.toNat 0)])),(.sl 1 (.sym fun _=>zi (tv).length) (fun ix=>[(.sl 1 (.sym fun _=>zi ((tv).getD ix.den.toNat []).length) (fun jx=>[.int .i64 (.sym fun _=>((tv).getD ix.den.toNat []).getD jx.den.toNat 0)]))])),(.int .i64 (.sym fun _=>rate)),(.sl 5 (.sym fun _=>zi (cs).length) (fun ix=>[(.int .i64 (.sym fun _=>((cs).getD ix.den.toNat ck0).g)),(.int .i64 (.sym fun _=>((cs).getD ix.den.toNat ck0).wl)),(.int .i64 (.sym fun _=>((cs).getD ix.den.toNat ck0).wh)),(.int .i64 (.sym fun _=>((cs).getD ix.den.toNat ck0).ml)),(.int .i64 (.sym fun _=>((cs).getD ix.den.toNat ck0).mh))]))]),(.agg [(.int .i64 (.sym fun _=>c.g)),(.int .i64 (.sym fun _=>c.wl)),(.int .i64 (.sym fun _=>c.wh)),(.int .i64 (.sym fun _=>c.ml)),(.int .i64 (.sym fun _=>c.mh))])] [] (fun r _=>r=(.tup [(.agg [(.int .i64 (.sym fun _=>0)),(.int .i64 (.sym fun _=>0))]),(.int .i64 (.sym fun _=>2))])):=by
  have c103:= @entry103
  have c102:=bounds102b tw tm tv c.wl c.wh c.ml c.mh hT hB
  refine FSpec.is fun R hR=>qW (sc:=sc44) tyok mix Try.func44 rfl Try.call44 (by kernel_rfl) (by kernel_rfl) ?_
  generalize Try.prog=P at c103 c102⊢
  cbv
  repeat' (first
      |with_reducible refine hold ?_ ?_
      |with_reducible refine And.intro ?_ ?_
      | (with_reducible refine qS ?_ ?_ ?_
         try cbv)
      | (with_reducible refine qT ?_ ?_
         try cbv)
      |(with_reducible intro hcd;(try simp only [zA,zB,zC,zD,zE,zF,zG,zH,zI,zJ,zK,zL,zM,zN,zO,zP]at hcd);try cbv)
      | (refine qP ?_ (c103 _ _) (by(repeat' (first|exact qB|refine qD ?_ ?_|exact qE (by rfl)|exact qF (by rfl)|exact Fit.refl _|exact qA|refine qC ?_ rfl ?_)))
         try cbv)
      | (refine qP ?_ (c102) (by(repeat' (first|exact qB|refine qD ?_ ?_|exact qE (by rfl)|exact qF (by rfl)|exact Fit.refl _|exact qA|refine qC ?_ rfl ?_)))
         try cbv)
      |fail)
  all_goals first
    |trivial
    |((try simp only [qV]at *);(try simp only [zQ,zA,zB,zC,zD,zE,zF,zG,zH,zI,zJ,zK,zL,zM,zN,zO,zP,zR,zS]at *);first|(refine qN ?_;omega)|(simp only [Hold];omega))
    |(subst hR;(repeat' (first|exact qA|exact qB|refine qC ?_ rfl ?_|refine qD ?_ ?_|exact qE (by rfl)|exact qF (by rfl)|exact Fit.refl _|exact qG _|(refine qE ?_;(try simp only [qV]at *);simp only [zQ,zA,zB,zC,zD,zE,zF,zG,zH,zI,zJ,zK,zL,zM,zN,zO,zP,zR,zS]at *;omega)));done)
    |skip
theorem cask80t (tw tm:List Int)(tv:List (List Int))(rate:Int)(cs:List Csk)(c:Csk)(hT:TOk tw tm tv)(hBx:boxB tw tm c.wl c.wh c.ml c.mh=true):FSpec Try.prog 53 [(.agg [(.sl 1 (.sym fun _=>zi (tw).length) (fun ix=>[.int .i64 (.sym fun _=>(tw).getD ix.den.toNat 0)])),(.sl 1 (.sym fun _=>zi (tm).length) (fun ix=>[.int .i64 (.sym fun _=>(tm).getD ix.den.toNat 0)])),(.sl 1 (.sym fun _=>zi (tv).length) (fun ix=>[(.sl 1 (.sym fun _=>zi ((tv).getD ix.den.toNat []).length) (fun jx=>[.int .i64 (.sym fun _=>((tv).getD ix.den.toNat []).getD jx.den.toNat 0)]))])),(.int .i64 (.sym fun _=>rate)),(.sl 5 (.sym fun _=>zi (cs).length) (fun ix=>[(.int .i64 (.sym fun _=>((cs).getD ix.den.toNat ck0).g)),(.int .i64 (.sym fun _=>((cs).getD ix.den.toNat ck0).wl)),(.int .i64 (.sym fun _=>((cs).getD ix.den.toNat ck0).wh)),(.int .i64 (.sym fun _=>((cs).getD ix.den.toNat ck0).ml)),(.int .i64 (.sym fun _=>((cs).getD ix.den.toNat ck0).mh))]))]),(.agg [(.int .i64 (.sym fun _=>c.g)),(.int .i64 (.sym fun _=>c.wl)),(.int .i64 (.sym fun _=>c.wh)),(.int .i64 (.sym fun _=>c.ml)),(.int .i64 (.sym fun _=>c.mh))])] [] (fun r _=>r=(.bool (.sym fun _=>caskB tw tm c))):=by
  have c85:=str85 tw tm tv rate cs c hT (boxB_iff.1 hBx)
  have c64:= @within64
  refine FSpec.is fun R hR=>qW (sc:=sc53) tyok mix Try.func53 rfl Try.call53 (by kernel_rfl) (by kernel_rfl) ?_
  generalize Try.prog=P at c85 c64⊢
  cbv
  repeat' (first
      |with_reducible refine hold ?_ ?_
      |with_reducible refine And.intro ?_ ?_
      | (with_reducible refine qS ?_ ?_ ?_
         try cbv)
      | (with_reducible refine qT ?_ ?_
         try cbv)
      |(with_reducible intro hcd;(try simp only [zA,zB,zC,zD,zE,zF,zG,zH,zI,zJ,zK,zL,zM,zN,zO,zP]at hcd);try cbv)
      | (refine qP ?_ (c85) (by(repeat' (first|exact qB|refine qD ?_ ?_|exact qE (by rfl)|exact qF (by rfl)|exact Fit.refl _|exact qA|refine qC ?_ rfl ?_)))
         try cbv)
      | (refine qP ?_ (c64 _ _ _) (by(repeat' (first|exact qB|refine qD ?_ ?_|exact qE (by rfl)|exact qF (by rfl)|exact Fit.refl _|exact qA|refine qC ?_ rfl ?_)))
         try cbv)
      |fail)
  all_goals first
    |trivial
    |((try simp only [qV]at *);(try simp only [zQ,zA,zB,zC,zD,zE,zF,zG,zH,zI,zJ,zK,zL,zM,zN,zO,zP,zR,zS]at *);first|(refine qN ?_;omega)|(simp only [Hold];omega))
    |(subst hR;(refine qF ?_;(try simp only [qV]at *);simp only [zQ,zA,zB,zC,zD,zE,zF,zG,zH,zI,zJ,zK,zL,zM,zN,zO,zP,zR,zS,caskB,hBx]at *;simp_all);done)
    |skip
theorem cask80f (tw tm:List Int)(tv:List (List Int))(rate:Int)(cs:List Csk)(c:Csk)(hT:TOk tw tm tv)(hBx:boxB tw tm c.wl c.wh c.ml c.mh=false):FSpec Try.prog 53 [(.agg [(.sl 1 (.sym fun _=>zi (tw).length) (fun ix=>[.int .i64 (.sym fun _=>(tw).getD ix.den.toNat 0)])),(.sl 1 (.sym fun _=>zi (tm).length) (fun ix=>[.int .i64 (.sym fun _=>(tm).getD ix.den.toNat 0)])),(.sl 1 (.sym fun _=>zi (tv).length) (fun ix=>[(.sl 1 (.sym fun _=>zi ((tv).getD ix.den.toNat []).length) (fun jx=>[.int .i64 (.sym fun _=>((tv).getD ix.den.toNat []).getD jx.den.toNat 0)]))])),(.int .i64 (.sym fun _=>rate)),(.sl 5 (.sym fun _=>zi (cs).length) (fun ix=>[(.int .i64 (.sym fun _=>((cs).getD ix.den.toNat ck0).g)),(.int .i64 (.sym fun _=>((cs).getD ix.den.toNat ck0).wl)),(.int .i64 (.sym fun _=>((cs).getD ix.den.toNat ck0).wh)),(.int .i64 (.sym fun _=>((cs).getD ix.den.toNat ck0).ml)),(.int .i64 (.sym fun _=>((cs).getD ix.den.toNat ck0).mh))]))]),(.agg [(.int .i64 (.sym fun _=>c.g)),(.int .i64 (.sym fun _=>c.wl)),(.int .i64 (.sym fun _=>c.wh)),(.int .i64 (.sym fun _=>c.ml)),(.int .i64 (.sym fun _=>c.mh))])] [] (fun r _=>r=(.bool (.sym fun _=>caskB tw tm c))):=by
  have c85:=str85b tw tm tv rate cs c hT hBx
  have c64:= @within64
  refine FSpec.is fun R hR=>qW (sc:=sc53) tyok mix Try.func53 rfl Try.call53 (by kernel_rfl) (by kernel_rfl) ?_
  generalize Try.prog=P at c85 c64⊢
  cbv
  repeat' (first
      |with_reducible refine hold ?_ ?_
      |with_reducible refine And.intro ?_ ?_
      | (with_reducible refine qS ?_ ?_ ?_
         try cbv)
      | (with_reducible refine qT ?_ ?_
         try cbv)
      |(with_reducible intro hcd;(try simp only [zA,zB,zC,zD,zE,zF,zG,zH,zI,zJ,zK,zL,zM,zN,zO,zP]at hcd);try cbv)
      | (refine qP ?_ (c85) (by(repeat' (first|exact qB|refine qD ?_ ?_|exact qE (by rfl)|exact qF (by rfl)|exact Fit.refl _|exact qA|refine qC ?_ rfl ?_)))
         try cbv)
      | (refine qP ?_ (c64 _ _ _) (by(repeat' (first|exact qB|refine qD ?_ ?_|exact qE (by rfl)|exact qF (by rfl)|exact Fit.refl _|exact qA|refine qC ?_ rfl ?_)))
         try cbv)
      |fail)
  all_goals first
    |trivial
    |((try simp only [qV]at *);(try simp only [zQ,zA,zB,zC,zD,zE,zF,zG,zH,zI,zJ,zK,zL,zM,zN,zO,zP,zR,zS]at *);first|(refine qN ?_;omega)|(simp only [Hold];omega))
    |(subst hR;(refine qF ?_;(try simp only [qV]at *);simp only [zQ,zA,zB,zC,zD,zE,zF,zG,zH,zI,zJ,zK,zL,zM,zN,zO,zP,zR,zS,caskB,hBx]at *;simp_all);done)
    |skip
theorem cask80 (tw tm:List Int)(tv:List (List Int))(rate:Int)(cs:List Csk)(c:Csk)(hT:TOk tw tm tv):FSpec Try.prog 53 [(.agg [(.sl 1 (.sym fun _=>zi (tw).length) (fun ix=>[.int .i64 (.sym fun _=>(tw).getD ix.den.toNat 0)])),(.sl 1 (.sym fun _=>zi (tm).length) (fun ix=>[.int .i64 (.sym fun _=>(tm).getD ix.den.toNat 0)])),(.sl 1 (.sym fun _=>zi (tv).length) (fun ix=>[(.sl 1 (.sym fun _=>zi ((tv).getD ix.den.toNat []).length) (fun jx=>[.int .i64 (.sym fun _=>((tv).getD ix.den.toNat []).getD jx.den.toNat 0)]))])),(.int .i64 (.sym fun _=>rate)),(.sl 5 (.sym fun _=>zi (cs).length) (fun ix=>[(.int .i64 (.sym fun _=>((cs).getD ix.den.toNat ck0).g)),(.int .i64 (.sym fun _=>((cs).getD ix.den.toNat ck0).wl)),(.int .i64 (.sym fun _=>((cs).getD ix.den.toNat ck0).wh)),(.int .i64 (.sym fun _=>((cs).getD ix.den.toNat ck0).ml)),(.int .i64 (.sym fun _=>((cs).getD ix.den.toNat ck0).mh))]))]),(.agg [(.int .i64 (.sym fun _=>c.g)),(.int .i64 (.sym fun _=>c.wl)),(.int .i64 (.sym fun _=>c.wh)),(.int .i64 (.sym fun _=>c.ml)),(.int .i64 (.sym fun _=>c.mh))])] [] (fun r _=>r=(.bool (.sym fun _=>caskB tw tm c))):=by
  cases hb:boxB tw tm c.wl c.wh c.ml c.mh with
  |true=>exact cask80t tw tm tv rate cs c hT hb
  |false=>exact cask80f tw tm tv rate cs c hT hb
theorem lam100_cask (tw tm:List Int)(tv:List (List Int))(rate:Int)(cs:List Csk)(hT:TOk tw tm tv)(hfew:cs.length≤1000)(i:Nat)(hi:i<cs.length∧∀j,j<i→(caskB tw tm (cs.getD (j) ck0))=true):FSpec Try.prog 62 [(.agg [(.int .i64 (.sym fun _=>(cs.getD (i) ck0).g)),(.int .i64 (.sym fun _=>(cs.getD (i) ck0).wl)),(.int .i64 (.sym fun _=>(cs.getD (i) ck0).wh)),(.int .i64 (.sym fun _=>(cs.getD (i) ck0).ml)),(.int .i64 (.sym fun _=>(cs.getD (i) ck0).mh))]),.own 0 0] [.cells [.clo 53 [(.agg [(.sl 1 (.sym fun _=>zi (tw).length) (fun ix=>[.int .i64 (.sym fun _=>(tw).getD ix.den.toNat 0)])),(.sl 1 (.sym fun _=>zi (tm).length) (fun ix=>[.int .i64 (.sym fun _=>(tm).getD ix.den.toNat 0)])),(.sl 1 (.sym fun _=>zi (tv).length) (fun ix=>[(.sl 1 (.sym fun _=>zi ((tv).getD ix.den.toNat []).length) (fun jx=>[.int .i64 (.sym fun _=>((tv).getD ix.den.toNat []).getD jx.den.toNat 0)]))])),(.int .i64 (.sym fun _=>rate)),(.sl 5 (.sym fun _=>zi (cs).length) (fun ix=>[(.int .i64 (.sym fun _=>((cs).getD ix.den.toNat ck0).g)),(.int .i64 (.sym fun _=>((cs).getD ix.den.toNat ck0).wl)),(.int .i64 (.sym fun _=>((cs).getD ix.den.toNat ck0).wh)),(.int .i64 (.sym fun _=>((cs).getD ix.den.toNat ck0).ml)),(.int .i64 (.sym fun _=>((cs).getD ix.den.toNat ck0).mh))]))])] []] 99] (fun r bs=>r=(.bool (.sym fun _=> !(caskB tw tm (cs.getD (i) ck0))))∧bs=[.cells [.clo 53 [(.agg [(.sl 1 (.sym fun _=>zi (tw).length) (fun ix=>[.int .i64 (.sym fun _=>(tw).getD ix.den.toNat 0)])),(.sl 1 (.sym fun _=>zi (tm).length) (fun ix=>[.int .i64 (.sym fun _=>(tm).getD ix.den.toNat 0)])),(.sl 1 (.sym fun _=>zi (tv).length) (fun ix=>[(.sl 1 (.sym fun _=>zi ((tv).getD ix.den.toNat []).length) (fun jx=>[.int .i64 (.sym fun _=>((tv).getD ix.den.toNat []).getD jx.den.toNat 0)]))])),(.int .i64 (.sym fun _=>rate)),(.sl 5 (.sym fun _=>zi (cs).length) (fun ix=>[(.int .i64 (.sym fun _=>((cs).getD ix.den.toNat ck0).g)),(.int .i64 (.sym fun _=>((cs).getD ix.den.toNat ck0).wl)),(.int .i64 (.sym fun _=>((cs).getD ix.den.toNat ck0).wh)),(.int .i64 (.sym fun _=>((cs).getD ix.den.toNat ck0).ml)),(.int .i64 (.sym fun _=>((cs).getD ix.den.toNat ck0).mh))]))])] []] 99]):=by
  have cf:=cask80 tw tm tv rate cs (cs.getD i ck0) hT
  refine FSpec.isB rfl fun R B hR hB=>qW (sc:=sc62) tyok mix Try.func62 rfl Try.call62 (by kernel_rfl) (by kernel_rfl) ?_
  generalize Try.prog=P at cf⊢
  cbv
  repeat' (first
      |with_reducible refine hold ?_ ?_
      |with_reducible refine And.intro ?_ ?_
      | (with_reducible refine qS ?_ ?_ ?_
         try cbv)
      | (with_reducible refine qT ?_ ?_
         try cbv)
      |(with_reducible intro hcd;(try simp only [zA,zB,zC,zD,zE,zF,zG,zH,zI,zJ,zK,zL,zM,zN,zO,zP]at hcd);try cbv)
      | (refine qP ?_ (cf) (by(repeat' (first|exact qB|refine qD ?_ ?_|exact qE (by rfl)|exact qF (by rfl)|exact Fit.refl _|exact qA|refine qC ?_ rfl ?_)))
         try cbv)
      |fail)
  all_goals first
    |trivial
    |((try simp only [qV]at *);(try simp only [zQ,zA,zB,zC,zD,zE,zF,zG,zH,zI,zJ,zK,zL,zM,zN,zO,zP,zR,zS]at *);first|(refine qN ?_;omega)|(simp only [Hold];omega))
    |(subst hR;(repeat' (first|exact qA|exact qB|refine qC ?_ rfl ?_|refine qD ?_ ?_|exact qE (by rfl)|exact qF (by rfl)|exact Fit.refl _|exact qG _|(refine qE ?_;(try simp only [qV]at *);simp only [zQ,zA,zB,zC,zD,zE,zF,zG,zH,zI,zJ,zK,zL,zM,zN,zO,zP,zR,zS]at *;omega)));done)
    |(subst hB;(repeat' (first|exact qH|refine qI ?_ ?_|exact qK _|refine qJ ?_|exact qA|exact qE (by rfl)|exact qF (by rfl)|exact Fit.refl _|exact qG _|refine qC ?_ rfl ?_));done)
    |skip
theorem idx116_cask (tw tm:List Int)(tv:List (List Int))(rate:Int)(cs:List Csk)(hT:TOk tw tm tv)(hfew:cs.length≤1000):FSpec Try.prog 65 [(.sl 5 (.sym fun _=>zi (cs).length) (fun ix=>[(.int .i64 (.sym fun _=>((cs).getD ix.den.toNat ck0).g)),(.int .i64 (.sym fun _=>((cs).getD ix.den.toNat ck0).wl)),(.int .i64 (.sym fun _=>((cs).getD ix.den.toNat ck0).wh)),(.int .i64 (.sym fun _=>((cs).getD ix.den.toNat ck0).ml)),(.int .i64 (.sym fun _=>((cs).getD ix.den.toNat ck0).mh))])),.clo 62 [] [.own 0 0]] [.cells [.clo 53 [(.agg [(.sl 1 (.sym fun _=>zi (tw).length) (fun ix=>[.int .i64 (.sym fun _=>(tw).getD ix.den.toNat 0)])),(.sl 1 (.sym fun _=>zi (tm).length) (fun ix=>[.int .i64 (.sym fun _=>(tm).getD ix.den.toNat 0)])),(.sl 1 (.sym fun _=>zi (tv).length) (fun ix=>[(.sl 1 (.sym fun _=>zi ((tv).getD ix.den.toNat []).length) (fun jx=>[.int .i64 (.sym fun _=>((tv).getD ix.den.toNat []).getD jx.den.toNat 0)]))])),(.int .i64 (.sym fun _=>rate)),(.sl 5 (.sym fun _=>zi (cs).length) (fun ix=>[(.int .i64 (.sym fun _=>((cs).getD ix.den.toNat ck0).g)),(.int .i64 (.sym fun _=>((cs).getD ix.den.toNat ck0).wl)),(.int .i64 (.sym fun _=>((cs).getD ix.den.toNat ck0).wh)),(.int .i64 (.sym fun _=>((cs).getD ix.den.toNat ck0).ml)),(.int .i64 (.sym fun _=>((cs).getD ix.den.toNat ck0).mh))]))])] []] 99] (fun r bs=>r=(.int .i64 (.sym fun _=>fidx (fun i=>caskB tw tm (cs.getD (i) ck0)) (cs.length) 0))∧bs=[.cells [.clo 53 [(.agg [(.sl 1 (.sym fun _=>zi (tw).length) (fun ix=>[.int .i64 (.sym fun _=>(tw).getD ix.den.toNat 0)])),(.sl 1 (.sym fun _=>zi (tm).length) (fun ix=>[.int .i64 (.sym fun _=>(tm).getD ix.den.toNat 0)])),(.sl 1 (.sym fun _=>zi (tv).length) (fun ix=>[(.sl 1 (.sym fun _=>zi ((tv).getD ix.den.toNat []).length) (fun jx=>[.int .i64 (.sym fun _=>((tv).getD ix.den.toNat []).getD jx.den.toNat 0)]))])),(.int .i64 (.sym fun _=>rate)),(.sl 5 (.sym fun _=>zi (cs).length) (fun ix=>[(.int .i64 (.sym fun _=>((cs).getD ix.den.toNat ck0).g)),(.int .i64 (.sym fun _=>((cs).getD ix.den.toNat ck0).wl)),(.int .i64 (.sym fun _=>((cs).getD ix.den.toNat ck0).wh)),(.int .i64 (.sym fun _=>((cs).getD ix.den.toNat ck0).ml)),(.int .i64 (.sym fun _=>((cs).getD ix.den.toNat ck0).mh))]))])] []] 99]):=by
  have cl:=lam100_cask tw tm tv rate cs hT hfew
  refine FSpec.isB rfl fun R B hR hB=>qW (sc:=sc65) tyok mix Try.func65 rfl Try.call65 (by kernel_rfl) (by kernel_rfl) ?_
  generalize Try.prog=P at cl⊢
  cbv
  repeat' (first
      |with_reducible refine hold ?_ ?_
      |with_reducible refine And.intro ?_ ?_
      | (with_reducible refine qS ?_ ?_ ?_
         try cbv)
      | (with_reducible refine qT ?_ ?_
         try cbv)
      |(with_reducible intro hcd;(try simp only [zA,zB,zC,zD,zE,zF,zG,zH,zI,zJ,zK,zL,zM,zN,zO,zP]at hcd);try cbv)
      |fail)
  all_goals first
    |trivial
    |((try simp only [qV]at *);(try simp only [zQ,zA,zB,zC,zD,zE,zF,zG,zH,zI,zJ,zK,zL,zM,zN,zO,zP,zR,zS]at *);first|(refine qN ?_;omega)|(simp only [Hold];omega))
    |skip
  refine⟨none,[],{i:Nat // i≤cs.length∧fidx (fun i=>caskB tw tm (cs.getD (i) ck0)) (cs.length) 0=fidx (fun i=>caskB tw tm (cs.getD (i) ck0)) (cs.length-i) i∧∀j,j<i→(caskB tw tm (cs.getD (j) ck0))=true},fun x=>⟨[(0,(.sl 5 (.sym fun _=>zi (cs).length) (fun ix=>[(.int .i64 (.sym fun _=>((cs).getD ix.den.toNat ck0).g)),(.int .i64 (.sym fun _=>((cs).getD ix.den.toNat ck0).wl)),(.int .i64 (.sym fun _=>((cs).getD ix.den.toNat ck0).wh)),(.int .i64 (.sym fun _=>((cs).getD ix.den.toNat ck0).ml)),(.int .i64 (.sym fun _=>((cs).getD ix.den.toNat ck0).mh))]))),(1,.clo 62 [] [.own 0 0]),(7,(.int .i64 (.sym fun _=>zi (cs.length)))),(8,(.int .i64 (.sym fun _=>zi x.1)))],[(0,.cells [.clo 53 [(.agg [(.sl 1 (.sym fun _=>zi (tw).length) (fun ix=>[.int .i64 (.sym fun _=>(tw).getD ix.den.toNat 0)])),(.sl 1 (.sym fun _=>zi (tm).length) (fun ix=>[.int .i64 (.sym fun _=>(tm).getD ix.den.toNat 0)])),(.sl 1 (.sym fun _=>zi (tv).length) (fun ix=>[(.sl 1 (.sym fun _=>zi ((tv).getD ix.den.toNat []).length) (fun jx=>[.int .i64 (.sym fun _=>((tv).getD ix.den.toNat []).getD jx.den.toNat 0)]))])),(.int .i64 (.sym fun _=>rate)),(.sl 5 (.sym fun _=>zi (cs).length) (fun ix=>[(.int .i64 (.sym fun _=>((cs).getD ix.den.toNat ck0).g)),(.int .i64 (.sym fun _=>((cs).getD ix.den.toNat ck0).wl)),(.int .i64 (.sym fun _=>((cs).getD ix.den.toNat ck0).wh)),(.int .i64 (.sym fun _=>((cs).getD ix.den.toNat ck0).ml)),(.int .i64 (.sym fun _=>((cs).getD ix.den.toNat ck0).mh))]))])] []] 99)],20⟩,fun x=>cs.length-x.1,?_,?_⟩
  · refine⟨⟨0,by omega,rfl,fun j hj=>by omega⟩,?_⟩
    cbv
    repeat' (first
      |with_reducible refine hold ?_ ?_
      |with_reducible refine And.intro ?_ ?_)
    all_goals first
      |trivial
      |exact qM (qE (by rfl))
      |exact qM (qF (by rfl))
      |exact qM (Fit.refl _)
      |exact qL (qK _)
      |(refine qM (qE ?_);(try simp only [qV]at *);simp only [zQ,zA,zB,zC,zD,zE,zF,zG,zH,zI,zJ,zK,zL,zM,zN,zO,zP,zR,zS]at *;omega)
      |(refine qL (qJ ?_);(repeat' (first|exact qA|exact qB|refine qC ?_ rfl ?_|refine qD ?_ ?_|exact qE (by rfl)|exact qF (by rfl)|exact Fit.refl _|exact qG _|(refine qE ?_;(try simp only [qV]at *);simp only [zQ,zA,zB,zC,zD,zE,zF,zG,zH,zI,zJ,zK,zL,zM,zN,zO,zP,zR,zS]at *;omega)));done)
      |skip
  · rintro ⟨i,hi,hr,hq⟩
    cbv
    repeat' (first
        |with_reducible refine hold ?_ ?_
        |with_reducible refine And.intro ?_ ?_
        | (with_reducible refine qS ?_ ?_ ?_
           try cbv)
        | (with_reducible refine qT ?_ ?_
           try cbv)
        |(with_reducible intro hcd;(try simp only [zA,zB,zC,zD,zE,zF,zG,zH,zI,zJ,zK,zL,zM,zN,zO,zP]at hcd);try cbv)
        | (refine⟨some [0],?_⟩
           cbv
           refine qQ ?_ (cl i ⟨by(try simp only [qV]at *);simp only [zi_den]at *;omega,hq⟩) (by cbv;(repeat' (first|exact qB|refine qD ?_ ?_|exact qE (by rfl)|exact qF (by rfl)|exact Fit.refl _|exact qA|refine qC ?_ rfl ?_))) (by cbv;(repeat' (first|exact qH|refine qI ?_ ?_|exact qK _|refine qJ ?_|exact qA|exact qE (by rfl)|exact qF (by rfl)|exact Fit.refl _|exact qG _|refine qC ?_ rfl ?_)))
           try cbv)
        |fail)
    all_goals first
      |trivial
      |((try simp only [qV]at *);(try simp only [zQ,zA,zB,zC,zD,zE,zF,zG,zH,zI,zJ,zK,zL,zM,zN,zO,zP,zR,zS]at *);first|(refine qN ?_;omega)|(simp only [Hold];omega))
      |(subst hR;(refine qE ?_;simp only [zQ,zA,zB,zC,zD,zE,zF,zG,zH,zI,zJ,zK,zL,zM,zN,zO,zP,zR,zS]at *;rw [hr,fidx_stop (by omega) hcd]);done)
      |(subst hR;(refine qE ?_;simp only [zQ,zA,zB,zC,zD,zE,zF,zG,zH,zI,zJ,zK,zL,zM,zN,zO,zP,zR,zS]at *;rw [hr,show cs.length-i=0 by omega];rfl);done)
      |(subst hB;(repeat' (first|exact qH|refine qI ?_ ?_|exact qK _|refine qJ ?_|exact qA|exact qE (by rfl)|exact qF (by rfl)|exact Fit.refl _|exact qG _|refine qC ?_ rfl ?_));done)
      |((try simp only [zQ,zA,zB,zC,zD,zE,zF,zG,zH,zI,zJ,zK,zL,zM,zN,zO,zP,zR,zS]at *);refine⟨⟨i+1,by omega,by rw [hr,fidx_go (by omega) hcd];(try congr 1)<;>omega,fun j hj=>(Nat.lt_or_ge j i).elim (hq j) (fun q=>by rw [show j=i by omega];exact hcd)⟩,by simp only [];omega,?_⟩;cbv;(repeat' (first|with_reducible refine hold ?_ ?_|with_reducible refine And.intro ?_ ?_));(all_goals first|trivial|exact qM (qE (by rfl))|exact qM (qF (by rfl))|exact qM (Fit.refl _)|exact qL (qK _)|(refine qM (qE ?_);(try simp only [qV]at *);simp only [zQ,zA,zB,zC,zD,zE,zF,zG,zH,zI,zJ,zK,zL,zM,zN,zO,zP,zR,zS]at *;omega)|(refine qL (qJ ?_);(repeat' (first|exact qA|exact qB|refine qC ?_ rfl ?_|refine qD ?_ ?_|exact qE (by rfl)|exact qF (by rfl)|exact Fit.refl _|exact qG _|(refine qE ?_;(try simp only [qV]at *);simp only [zQ,zA,zB,zC,zD,zE,zF,zG,zH,zI,zJ,zK,zL,zM,zN,zO,zP,zR,zS]at *;omega)));done)|skip))
      |skip
theorem cont99_cask (tw tm:List Int)(tv:List (List Int))(rate:Int)(cs:List Csk)(hT:TOk tw tm tv)(hfew:cs.length≤1000):FSpec Try.prog 61 [(.sl 5 (.sym fun _=>zi (cs).length) (fun ix=>[(.int .i64 (.sym fun _=>((cs).getD ix.den.toNat ck0).g)),(.int .i64 (.sym fun _=>((cs).getD ix.den.toNat ck0).wl)),(.int .i64 (.sym fun _=>((cs).getD ix.den.toNat ck0).wh)),(.int .i64 (.sym fun _=>((cs).getD ix.den.toNat ck0).ml)),(.int .i64 (.sym fun _=>((cs).getD ix.den.toNat ck0).mh))])),.clo 62 [] [.own 0 0]] [.cells [.clo 53 [(.agg [(.sl 1 (.sym fun _=>zi (tw).length) (fun ix=>[.int .i64 (.sym fun _=>(tw).getD ix.den.toNat 0)])),(.sl 1 (.sym fun _=>zi (tm).length) (fun ix=>[.int .i64 (.sym fun _=>(tm).getD ix.den.toNat 0)])),(.sl 1 (.sym fun _=>zi (tv).length) (fun ix=>[(.sl 1 (.sym fun _=>zi ((tv).getD ix.den.toNat []).length) (fun jx=>[.int .i64 (.sym fun _=>((tv).getD ix.den.toNat []).getD jx.den.toNat 0)]))])),(.int .i64 (.sym fun _=>rate)),(.sl 5 (.sym fun _=>zi (cs).length) (fun ix=>[(.int .i64 (.sym fun _=>((cs).getD ix.den.toNat ck0).g)),(.int .i64 (.sym fun _=>((cs).getD ix.den.toNat ck0).wl)),(.int .i64 (.sym fun _=>((cs).getD ix.den.toNat ck0).wh)),(.int .i64 (.sym fun _=>((cs).getD ix.den.toNat ck0).ml)),(.int .i64 (.sym fun _=>((cs).getD ix.den.toNat ck0).mh))]))])] []] 99] (fun r bs=>r=(.bool (.sym fun _=>decide (0≤fidx (fun i=>caskB tw tm (cs.getD (i) ck0)) (cs.length) 0)))∧bs=[.cells [.clo 53 [(.agg [(.sl 1 (.sym fun _=>zi (tw).length) (fun ix=>[.int .i64 (.sym fun _=>(tw).getD ix.den.toNat 0)])),(.sl 1 (.sym fun _=>zi (tm).length) (fun ix=>[.int .i64 (.sym fun _=>(tm).getD ix.den.toNat 0)])),(.sl 1 (.sym fun _=>zi (tv).length) (fun ix=>[(.sl 1 (.sym fun _=>zi ((tv).getD ix.den.toNat []).length) (fun jx=>[.int .i64 (.sym fun _=>((tv).getD ix.den.toNat []).getD jx.den.toNat 0)]))])),(.int .i64 (.sym fun _=>rate)),(.sl 5 (.sym fun _=>zi (cs).length) (fun ix=>[(.int .i64 (.sym fun _=>((cs).getD ix.den.toNat ck0).g)),(.int .i64 (.sym fun _=>((cs).getD ix.den.toNat ck0).wl)),(.int .i64 (.sym fun _=>((cs).getD ix.den.toNat ck0).wh)),(.int .i64 (.sym fun _=>((cs).getD ix.den.toNat ck0).ml)),(.int .i64 (.sym fun _=>((cs).getD ix.den.toNat ck0).mh))]))])] []] 99]):=by
  have ci:=idx116_cask tw tm tv rate cs hT hfew
  refine FSpec.isB rfl fun R B hR hB=>qW (sc:=sc61) tyok mix Try.func61 rfl Try.call61 (by kernel_rfl) (by kernel_rfl) ?_
  generalize Try.prog=P at ci⊢
  cbv
  repeat' (first
      |with_reducible refine hold ?_ ?_
      |with_reducible refine And.intro ?_ ?_
      | (with_reducible refine qS ?_ ?_ ?_
         try cbv)
      | (with_reducible refine qT ?_ ?_
         try cbv)
      |(with_reducible intro hcd;(try simp only [zA,zB,zC,zD,zE,zF,zG,zH,zI,zJ,zK,zL,zM,zN,zO,zP]at hcd);try cbv)
      | (refine⟨some [0],?_⟩
         cbv
         refine qQ ?_ (ci) (by cbv;(repeat' (first|exact qB|refine qD ?_ ?_|exact qE (by rfl)|exact qF (by rfl)|exact Fit.refl _|exact qA|refine qC ?_ rfl ?_))) (by cbv;(repeat' (first|exact qH|refine qI ?_ ?_|exact qK _|refine qJ ?_|exact qA|exact qE (by rfl)|exact qF (by rfl)|exact Fit.refl _|exact qG _|refine qC ?_ rfl ?_)))
         try cbv)
      |fail)
  all_goals first
    |trivial
    |((try simp only [qV]at *);(try simp only [zQ,zA,zB,zC,zD,zE,zF,zG,zH,zI,zJ,zK,zL,zM,zN,zO,zP,zR,zS]at *);first|(refine qN ?_;omega)|(simp only [Hold];omega))
    |(subst hR;(repeat' (first|exact qA|exact qB|refine qC ?_ rfl ?_|refine qD ?_ ?_|exact qE (by rfl)|exact qF (by rfl)|exact Fit.refl _|exact qG _|(refine qE ?_;(try simp only [qV]at *);simp only [zQ,zA,zB,zC,zD,zE,zF,zG,zH,zI,zJ,zK,zL,zM,zN,zO,zP,zR,zS]at *;omega)));done)
    |(subst hB;(repeat' (first|exact qH|refine qI ?_ ?_|exact qK _|refine qJ ?_|exact qA|exact qE (by rfl)|exact qF (by rfl)|exact Fit.refl _|exact qG _|refine qC ?_ rfl ?_));done)
    |skip
theorem all81_cask (tw tm:List Int)(tv:List (List Int))(rate:Int)(cs:List Csk)(hT:TOk tw tm tv)(hfew:cs.length≤1000):FSpec Try.prog 54 [(.sl 5 (.sym fun _=>zi (cs).length) (fun ix=>[(.int .i64 (.sym fun _=>((cs).getD ix.den.toNat ck0).g)),(.int .i64 (.sym fun _=>((cs).getD ix.den.toNat ck0).wl)),(.int .i64 (.sym fun _=>((cs).getD ix.den.toNat ck0).wh)),(.int .i64 (.sym fun _=>((cs).getD ix.den.toNat ck0).ml)),(.int .i64 (.sym fun _=>((cs).getD ix.den.toNat ck0).mh))])),.clo 53 [(.agg [(.sl 1 (.sym fun _=>zi (tw).length) (fun ix=>[.int .i64 (.sym fun _=>(tw).getD ix.den.toNat 0)])),(.sl 1 (.sym fun _=>zi (tm).length) (fun ix=>[.int .i64 (.sym fun _=>(tm).getD ix.den.toNat 0)])),(.sl 1 (.sym fun _=>zi (tv).length) (fun ix=>[(.sl 1 (.sym fun _=>zi ((tv).getD ix.den.toNat []).length) (fun jx=>[.int .i64 (.sym fun _=>((tv).getD ix.den.toNat []).getD jx.den.toNat 0)]))])),(.int .i64 (.sym fun _=>rate)),(.sl 5 (.sym fun _=>zi (cs).length) (fun ix=>[(.int .i64 (.sym fun _=>((cs).getD ix.den.toNat ck0).g)),(.int .i64 (.sym fun _=>((cs).getD ix.den.toNat ck0).wl)),(.int .i64 (.sym fun _=>((cs).getD ix.den.toNat ck0).wh)),(.int .i64 (.sym fun _=>((cs).getD ix.den.toNat ck0).ml)),(.int .i64 (.sym fun _=>((cs).getD ix.den.toNat ck0).mh))]))])] []] [] (fun r _=>r=(.bool (.sym fun _=> !(decide (0≤fidx (fun i=>caskB tw tm (cs.getD (i) ck0)) (cs.length) 0))))):=by
  have cc:=cont99_cask tw tm tv rate cs hT hfew
  refine FSpec.is fun R hR=>qW (sc:=sc54) tyok mix Try.func54 rfl Try.call54 (by kernel_rfl) (by kernel_rfl) ?_
  generalize Try.prog=P at cc⊢
  cbv
  repeat' (first
      |with_reducible refine hold ?_ ?_
      |with_reducible refine And.intro ?_ ?_
      | (with_reducible refine qS ?_ ?_ ?_
         try cbv)
      | (with_reducible refine qT ?_ ?_
         try cbv)
      |(with_reducible intro hcd;(try simp only [zA,zB,zC,zD,zE,zF,zG,zH,zI,zJ,zK,zL,zM,zN,zO,zP]at hcd);try cbv)
      | (refine⟨some [0],?_⟩
         cbv
         refine qQ ?_ (cc) (by cbv;(repeat' (first|exact qB|refine qD ?_ ?_|exact qE (by rfl)|exact qF (by rfl)|exact Fit.refl _|exact qA|refine qC ?_ rfl ?_))) (by cbv;(repeat' (first|exact qH|refine qI ?_ ?_|exact qK _|refine qJ ?_|exact qA|exact qE (by rfl)|exact qF (by rfl)|exact Fit.refl _|exact qG _|refine qC ?_ rfl ?_)))
         try cbv)
      |fail)
  all_goals first
    |trivial
    |((try simp only [qV]at *);(try simp only [zQ,zA,zB,zC,zD,zE,zF,zG,zH,zI,zJ,zK,zL,zM,zN,zO,zP,zR,zS]at *);first|(refine qN ?_;omega)|(simp only [Hold];omega))
    |(subst hR;(repeat' (first|exact qA|exact qB|refine qC ?_ rfl ?_|refine qD ?_ ?_|exact qE (by rfl)|exact qF (by rfl)|exact Fit.refl _|exact qG _|(refine qE ?_;(try simp only [qV]at *);simp only [zQ,zA,zB,zC,zD,zE,zF,zG,zH,zI,zJ,zK,zL,zM,zN,zO,zP,zR,zS]at *;omega)));done)
    |skip
theorem all81r (tw tm:List Int)(tv:List (List Int))(rate:Int)(cs:List Csk)(h:TOk tw tm tv∧cs.length≤1000):FSpec Try.prog 54 [(.sl 5 (.sym fun _=>zi (cs).length) (fun ix=>[(.int .i64 (.sym fun _=>((cs).getD ix.den.toNat ck0).g)),(.int .i64 (.sym fun _=>((cs).getD ix.den.toNat ck0).wl)),(.int .i64 (.sym fun _=>((cs).getD ix.den.toNat ck0).wh)),(.int .i64 (.sym fun _=>((cs).getD ix.den.toNat ck0).ml)),(.int .i64 (.sym fun _=>((cs).getD ix.den.toNat ck0).mh))])),.clo 53 [(.agg [(.sl 1 (.sym fun _=>zi (tw).length) (fun ix=>[.int .i64 (.sym fun _=>(tw).getD ix.den.toNat 0)])),(.sl 1 (.sym fun _=>zi (tm).length) (fun ix=>[.int .i64 (.sym fun _=>(tm).getD ix.den.toNat 0)])),(.sl 1 (.sym fun _=>zi (tv).length) (fun ix=>[(.sl 1 (.sym fun _=>zi ((tv).getD ix.den.toNat []).length) (fun jx=>[.int .i64 (.sym fun _=>((tv).getD ix.den.toNat []).getD jx.den.toNat 0)]))])),(.int .i64 (.sym fun _=>rate)),(.sl 5 (.sym fun _=>zi (cs).length) (fun ix=>[(.int .i64 (.sym fun _=>((cs).getD ix.den.toNat ck0).g)),(.int .i64 (.sym fun _=>((cs).getD ix.den.toNat ck0).wl)),(.int .i64 (.sym fun _=>((cs).getD ix.den.toNat ck0).wh)),(.int .i64 (.sym fun _=>((cs).getD ix.den.toNat ck0).ml)),(.int .i64 (.sym fun _=>((cs).getD ix.den.toNat ck0).mh))]))])] []] [] (fun r _=>r=(.bool (.sym fun _=>casksB tw tm cs))):=by
  have:=all81_cask tw tm tv rate cs h.1 h.2
  simp only [all_iff]at this
  exact this
set_option maxHeartbeats 2000000 in
theorem check52 (tw tm:List Int)(tv:List (List Int))(rate:Int)(cs:List Csk):FSpec Try.prog 43 [(.agg [(.sl 1 (.sym fun _=>zi (tw).length) (fun ix=>[.int .i64 (.sym fun _=>(tw).getD ix.den.toNat 0)])),(.sl 1 (.sym fun _=>zi (tm).length) (fun ix=>[.int .i64 (.sym fun _=>(tm).getD ix.den.toNat 0)])),(.sl 1 (.sym fun _=>zi (tv).length) (fun ix=>[(.sl 1 (.sym fun _=>zi ((tv).getD ix.den.toNat []).length) (fun jx=>[.int .i64 (.sym fun _=>((tv).getD ix.den.toNat []).getD jx.den.toNat 0)]))])),(.int .i64 (.sym fun _=>rate)),(.sl 5 (.sym fun _=>zi (cs).length) (fun ix=>[(.int .i64 (.sym fun _=>((cs).getD ix.den.toNat ck0).g)),(.int .i64 (.sym fun _=>((cs).getD ix.den.toNat ck0).wl)),(.int .i64 (.sym fun _=>((cs).getD ix.den.toNat ck0).wh)),(.int .i64 (.sym fun _=>((cs).getD ix.den.toNat ck0).ml)),(.int .i64 (.sym fun _=>((cs).getD ix.den.toNat ck0).mh))]))])] [] (fun r _=>r=(.int .i64 (.sym fun _=>faultS tw tm tv rate cs))):=by
  have c79:= @check79
  have c64:= @within64
  have c81:= @all81r
  refine FSpec.is fun R hR=>qW (sc:=sc43) tyok mix Try.func43 rfl Try.call43 (by kernel_rfl) (by kernel_rfl) ?_
  generalize Try.prog=P at c79 c64 c81⊢
  cbv
  repeat' (first
      |with_reducible refine hold ?_ ?_
      |with_reducible refine And.intro ?_ ?_
      | (with_reducible refine qS ?_ ?_ ?_
         try cbv)
      | (with_reducible refine qT ?_ ?_
         try cbv)
      |(with_reducible intro hcd;(try simp only [zA,zB,zC,zD,zE,zF,zG,zH,zI,zJ,zK,zL,zM,zN,zO,zP]at hcd);try cbv)
      | (refine qP ?_ (c79 _ _ _) (by(repeat' (first|exact qB|refine qD ?_ ?_|exact qE (by rfl)|exact qF (by rfl)|exact Fit.refl _|exact qA|refine qC ?_ rfl ?_)))
         try cbv)
      | (refine qP ?_ (c64 _ _ _) (by(repeat' (first|exact qB|refine qD ?_ ?_|exact qE (by rfl)|exact qF (by rfl)|exact Fit.refl _|exact qA|refine qC ?_ rfl ?_)))
         try cbv)
      | (refine qP ?_ (c81 _ _ _ _ _ (show Hold _ from ?_)) (by(repeat' (first|exact qB|refine qD ?_ ?_|exact qE (by rfl)|exact qF (by rfl)|exact Fit.refl _|exact qA|refine qC ?_ rfl ?_)))
         try cbv)
      |fail)
  all_goals first
    |trivial
    |((try simp only [qV]at *);(try simp only [zQ,zA,zB,zC,zD,zE,zF,zG,zH,zI,zJ,zK,zL,zM,zN,zO,zP,zR,zS]at *);first|(refine qN ?_;omega)|(simp only [Hold];omega))
    |(subst hR;(refine qE ?_;(try simp only [qV]at *);simp only [zQ,zA,zB,zC,zD,zE,zF,zG,zH,zI,zJ,zK,zL,zM,zN,zO,zP,zR,zS]at *;rw [faultS,if_neg (by omega),if_neg (by omega),if_pos];first|exact .inr (.inr hcd)|(rcases Bool.and_eq_false_iff.1 hcd with q|q<;>(have qz:=of_decide_eq_false q;omega)));done)
    |(subst hR;(refine qE ?_;(try simp only [qV]at *);simp only [zQ,zA,zB,zC,zD,zE,zF,zG,zH,zI,zJ,zK,zL,zM,zN,zO,zP,zR,zS]at *;rw [faultS];(repeat' split)<;>first|rfl|(exfalso;simp_all;done)|(exfalso;simp_all;omega)|(exfalso;omega)|omega);done)
    |(simp only [Hold];exact⟨faultT_zero (by assumption),by simp only [zQ,zA,zB,zC,zD,zE,zF,zG,zH,zI,zJ,zK,zL,zM,zN,zO,zP,zR,zS]at *;omega⟩)
    |skip
end Go.Proofs.Ytdacdjdccibaiaa

namespace Go.Proofs.Ytdacdjdccibaiaa
def loA (tw tm:List Int)(tv:List (List Int))(cs:List Csk)(n j:Nat):Int:=if j<n then sLo tw tm tv (cs.getD j ck0)else 0
def hiA (tw tm:List Int)(tv:List (List Int))(cs:List Csk)(n j:Nat):Int:=if j<n then sHi tw tm tv (cs.getD j ck0)else 0
theorem loA_new {tw tm:List Int} {tv:List (List Int)} {cs:List Csk} {n j:Nat}(h:j=n):sLo tw tm tv (cs.getD n ck0)=loA tw tm tv cs (n+1) j:=by
  subst h;rw [loA,if_pos (by omega)]
theorem hiA_new {tw tm:List Int} {tv:List (List Int)} {cs:List Csk} {n j:Nat}(h:j=n):sHi tw tm tv (cs.getD n ck0)=hiA tw tm tv cs (n+1) j:=by
  subst h;rw [hiA,if_pos (by omega)]
theorem loA_old {tw tm:List Int} {tv:List (List Int)} {cs:List Csk} {n j:Nat}(h:j≠n):loA tw tm tv cs n j=loA tw tm tv cs (n+1) j:=by
  unfold loA;have:(j<n)=(j<n+1):=propext ⟨fun _=>by omega,fun _=>by omega⟩
  simp only [this]
theorem hiA_old {tw tm:List Int} {tv:List (List Int)} {cs:List Csk} {n j:Nat}(h:j≠n):hiA tw tm tv cs n j=hiA tw tm tv cs (n+1) j:=by
  unfold hiA;have:(j<n)=(j<n+1):=propext ⟨fun _=>by omega,fun _=>by omega⟩
  simp only [this]
theorem lo_bd {tw tm:List Int} {tv:List (List Int)} {rate:Int} {cs:List Csk}(h:SOk tw tm tv rate cs)(j:Nat):0≤loA tw tm tv cs cs.length j∧loA tw tm tv cs cs.length j≤hiA tw tm tv cs cs.length j∧hiA tw tm tv cs cs.length j≤2000:=by
  unfold loA hiA
  split
  · exact s_bd h.t (h.box j (by assumption))
  · omega
end Go.Proofs.Ytdacdjdccibaiaa

namespace Go.Proofs.Ytdacdjdccibaiaa
open Go Go.Eng Go.Proofs
set_option maxRecDepth 10000
theorem open59 (tw tm:List Int)(tv:List (List Int))(rate:Int)(cs:List Csk)(hS:SOk tw tm tv rate cs):FSpec Try.prog 27 [(.agg [(.sl 1 (.sym fun _=>zi (tw).length) (fun ix=>[.int .i64 (.sym fun _=>(tw).getD ix.den.toNat 0)])),(.sl 1 (.sym fun _=>zi (tm).length) (fun ix=>[.int .i64 (.sym fun _=>(tm).getD ix.den.toNat 0)])),(.sl 1 (.sym fun _=>zi (tv).length) (fun ix=>[(.sl 1 (.sym fun _=>zi ((tv).getD ix.den.toNat []).length) (fun jx=>[.int .i64 (.sym fun _=>((tv).getD ix.den.toNat []).getD jx.den.toNat 0)]))])),(.int .i64 (.sym fun _=>rate)),(.sl 5 (.sym fun _=>zi (cs).length) (fun ix=>[(.int .i64 (.sym fun _=>((cs).getD ix.den.toNat ck0).g)),(.int .i64 (.sym fun _=>((cs).getD ix.den.toNat ck0).wl)),(.int .i64 (.sym fun _=>((cs).getD ix.den.toNat ck0).wh)),(.int .i64 (.sym fun _=>((cs).getD ix.den.toNat ck0).ml)),(.int .i64 (.sym fun _=>((cs).getD ix.den.toNat ck0).mh))]))])] [] (fun r _=>r=(.tup [.pp 0 [(.sl 1 (.sym fun _=>zi (tw).length) (fun ix=>[.int .i64 (.sym fun _=>(tw).getD ix.den.toNat 0)])),(.sl 1 (.sym fun _=>zi (tm).length) (fun ix=>[.int .i64 (.sym fun _=>(tm).getD ix.den.toNat 0)])),(.sl 1 (.sym fun _=>zi (tv).length) (fun ix=>[(.sl 1 (.sym fun _=>zi ((tv).getD ix.den.toNat []).length) (fun jx=>[.int .i64 (.sym fun _=>((tv).getD ix.den.toNat []).getD jx.den.toNat 0)]))])),(.int .i64 (.sym fun _=>rate)),(.sl 5 (.sym fun _=>zi (cs).length) (fun ix=>[(.int .i64 (.sym fun _=>((cs).getD ix.den.toNat ck0).g)),(.int .i64 (.sym fun _=>((cs).getD ix.den.toNat ck0).wl)),(.int .i64 (.sym fun _=>((cs).getD ix.den.toNat ck0).wh)),(.int .i64 (.sym fun _=>((cs).getD ix.den.toNat ck0).ml)),(.int .i64 (.sym fun _=>((cs).getD ix.den.toNat ck0).mh))])),(.sl 2 (.sym fun _=>zi cs.length) (fun ix=>[(.int .i64 (.sym fun _=>sLo tw tm tv (cs.getD ix.den.toNat ck0))),(.int .i64 (.sym fun _=>sHi tw tm tv (cs.getD ix.den.toNat ck0)))])),(.arr 6 (fun ix=>.int .i64 (.sym fun _=>loA tw tm tv cs cs.length ix.den.toNat))),(.arr 6 (fun ix=>.int .i64 (.sym fun _=>hiA tw tm tv cs cs.length ix.den.toNat)))],(.int .i64 (.sym fun _=>0))])):=by
  have c52:=check52 tw tm tv rate cs
  have c85:=fun (i:Nat) (hi:i<cs.length)=>str85 tw tm tv rate cs (cs.getD i ck0) hS.t (hS.box i hi)
  have hf0:=faultS_iff.2 hS
  have hfew:=hS.few
  rw [hf0]at c52
  refine FSpec.is fun R hR=>qW (sc:=sc27) tyok mix Try.func27 rfl Try.call27 (by kernel_rfl) (by kernel_rfl) ?_
  generalize Try.prog=P at c52 c85⊢
  cbv
  repeat' (first
      |with_reducible refine hold ?_ ?_
      |with_reducible refine And.intro ?_ ?_
      | (with_reducible refine qS ?_ ?_ ?_
         try cbv)
      | (with_reducible refine qT ?_ ?_
         try cbv)
      |(with_reducible intro hcd;(try simp only [zA,zB,zC,zD,zE,zF,zG,zH,zI,zJ,zK,zL,zM,zN,zO,zP]at hcd);try cbv)
      | (refine qP ?_ (c52) (by(repeat' (first|exact qB|refine qD ?_ ?_|exact qE (by rfl)|exact qF (by rfl)|exact Fit.refl _|exact qA|refine qC ?_ rfl ?_)))
         try cbv)
      |fail)
  all_goals first
    |trivial
    |((try simp only [qV]at *);(try simp only [zQ,zA,zB,zC,zD,zE,zF,zG,zH,zI,zJ,zK,zL,zM,zN,zO,zP,zR,zS]at *);first|(refine qN ?_;omega)|(simp only [Hold];omega))
    |(subst hR;(repeat' (first|exact qA|exact qB|refine qC ?_ rfl ?_|refine qD ?_ ?_|exact qE (by rfl)|exact qF (by rfl)|exact Fit.refl _|exact qG _|(refine qE ?_;(try simp only [qV]at *);simp only [zQ,zA,zB,zC,zD,zE,zF,zG,zH,zI,zJ,zK,zL,zM,zN,zO,zP,zR,zS]at *;omega)));done)
    |(exfalso;simp_all;done)
    |skip
  refine⟨none,[⟨.cell 10 5,51,2⟩],{i:Nat // i≤cs.length},fun x=>⟨[(1,.own 0 0),(5,.own 10 0),(19,(.sl 5 (.sym fun _=>zi (cs).length) (fun ix=>[(.int .i64 (.sym fun _=>((cs).getD ix.den.toNat ck0).g)),(.int .i64 (.sym fun _=>((cs).getD ix.den.toNat ck0).wl)),(.int .i64 (.sym fun _=>((cs).getD ix.den.toNat ck0).wh)),(.int .i64 (.sym fun _=>((cs).getD ix.den.toNat ck0).ml)),(.int .i64 (.sym fun _=>((cs).getD ix.den.toNat ck0).mh))]))),(20,(.int .i64 (.sym fun _=>zi cs.length))),(21,(.int .i64 (.sym fun _=>zi x.1)))],[(0,.cells [(.sl 1 (.sym fun _=>zi (tw).length) (fun ix=>[.int .i64 (.sym fun _=>(tw).getD ix.den.toNat 0)])),(.sl 1 (.sym fun _=>zi (tm).length) (fun ix=>[.int .i64 (.sym fun _=>(tm).getD ix.den.toNat 0)])),(.sl 1 (.sym fun _=>zi (tv).length) (fun ix=>[(.sl 1 (.sym fun _=>zi ((tv).getD ix.den.toNat []).length) (fun jx=>[.int .i64 (.sym fun _=>((tv).getD ix.den.toNat []).getD jx.den.toNat 0)]))])),(.int .i64 (.sym fun _=>rate)),(.sl 5 (.sym fun _=>zi (cs).length) (fun ix=>[(.int .i64 (.sym fun _=>((cs).getD ix.den.toNat ck0).g)),(.int .i64 (.sym fun _=>((cs).getD ix.den.toNat ck0).wl)),(.int .i64 (.sym fun _=>((cs).getD ix.den.toNat ck0).wh)),(.int .i64 (.sym fun _=>((cs).getD ix.den.toNat ck0).ml)),(.int .i64 (.sym fun _=>((cs).getD ix.den.toNat ck0).mh))]))] 48),(10,.cells [(.sl 1 (.sym fun _=>zi (tw).length) (fun ix=>[.int .i64 (.sym fun _=>(tw).getD ix.den.toNat 0)])),(.sl 1 (.sym fun _=>zi (tm).length) (fun ix=>[.int .i64 (.sym fun _=>(tm).getD ix.den.toNat 0)])),(.sl 1 (.sym fun _=>zi (tv).length) (fun ix=>[(.sl 1 (.sym fun _=>zi ((tv).getD ix.den.toNat []).length) (fun jx=>[.int .i64 (.sym fun _=>((tv).getD ix.den.toNat []).getD jx.den.toNat 0)]))])),(.int .i64 (.sym fun _=>rate)),(.sl 5 (.sym fun _=>zi (cs).length) (fun ix=>[(.int .i64 (.sym fun _=>((cs).getD ix.den.toNat ck0).g)),(.int .i64 (.sym fun _=>((cs).getD ix.den.toNat ck0).wl)),(.int .i64 (.sym fun _=>((cs).getD ix.den.toNat ck0).wh)),(.int .i64 (.sym fun _=>((cs).getD ix.den.toNat ck0).ml)),(.int .i64 (.sym fun _=>((cs).getD ix.den.toNat ck0).mh))])),.row 16,(.arr 6 (fun ix=>.int .i64 (.sym fun _=>loA tw tm tv cs x.1 ix.den.toNat))),(.arr 6 (fun ix=>.int .i64 (.sym fun _=>hiA tw tm tv cs x.1 ix.den.toNat)))] 84),(16,.row 51 2 (.sym fun _=>zi x.1) (fun ix=>[(.int .i64 (.sym fun _=>sLo tw tm tv (cs.getD ix.den.toNat ck0))),(.int .i64 (.sym fun _=>sHi tw tm tv (cs.getD ix.den.toNat ck0)))]))],60⟩,fun x=>cs.length-x.1,?_,?_⟩
  · refine⟨⟨0,by omega⟩,?_⟩
    cbv
    repeat' (first
      |with_reducible refine hold ?_ ?_
      |with_reducible refine And.intro ?_ ?_)
    all_goals first
      |trivial
      |exact qM (qE (by rfl))
      |exact qM (qF (by rfl))
      |exact qM (Fit.refl _)
      |exact qL (qK _)
      |(refine qM (qE ?_);(try simp only [qV]at *);simp only [zQ,zA,zB,zC,zD,zE,zF,zG,zH,zI,zJ,zK,zL,zM,zN,zO,zP,zR,zS]at *;omega)
      |(refine qL (qJ ?_);(repeat' (first|exact qA|exact Fit.refl _|refine fit_arr ?_ ?_|refine qC ?_ rfl ?_))<;>(intro ix h0 h1;refine qE ?_;simp only [den_sym,loA,hiA,Nat.not_lt_zero,if_false];rfl))
      |(refine qL (ble_row ?_ ?_);(first|rfl|((try simp only [qV]at *);simp only [zQ,zA,zB,zC,zD,zE,zF,zG,zH,zI,zJ,zK,zL,zM,zN,zO,zP,zR,zS]at *;omega));intro ix h0 h1;first|exact Fit.refl _|(exfalso;(try simp only [qV]at *);simp only [zQ,zA,zB,zC,zD,zE,zF,zG,zH,zI,zJ,zK,zL,zM,zN,zO,zP,zR,zS]at *;omega))
      |skip
  · rintro ⟨i,hi⟩
    cbv
    repeat' (first
        |with_reducible refine hold ?_ ?_
        |with_reducible refine And.intro ?_ ?_
        | (with_reducible refine qS ?_ ?_ ?_
           try cbv)
        | (with_reducible refine qT ?_ ?_
           try cbv)
        |(with_reducible intro hcd;(try simp only [zA,zB,zC,zD,zE,zF,zG,zH,zI,zJ,zK,zL,zM,zN,zO,zP]at hcd);try cbv)
        | (refine qP ?_ (c85 i (show Hold _ from ?_)) (by(repeat' (first|exact qB|refine qD ?_ ?_|exact qE (by rfl)|exact qF (by rfl)|exact Fit.refl _|exact qA|refine qC ?_ rfl ?_)))
           try cbv)
        | (refine⟨(10:Nat),?_⟩
           cbv)
        | (refine⟨fun ix=>[(.int .i64 (.sym fun _=>sLo tw tm tv (cs.getD ix.den.toNat ck0))),(.int .i64 (.sym fun _=>sHi tw tm tv (cs.getD ix.den.toNat ck0)))],?_⟩
           cbv
           refine hold (hold_rowapp (by intro ix jx h0 h1 h2;refine(qC (qE ?_) rfl (qC (qE ?_) rfl qA))<;>simp only [den_sym,h2]) (by intro ix jx h0 h1 h2;(have h3:jx.den.toNat=i:=by((try simp only [qV]at *);simp only [zQ,zA,zB,zC,zD,zE,zF,zG,zH,zI,zJ,zK,zL,zM,zN,zO,zP,zR,zS]at *;omega));refine(qC (qE ?_) rfl (qC (qE ?_) rfl qA))<;>simp only [den_sym,h3]) (by(try simp only [qV]at *);simp only [zQ,zA,zB,zC,zD,zE,zF,zG,zH,zI,zJ,zK,zL,zM,zN,zO,zP,zR,zS]at *;omega)) (Or.inl ?_)
           try cbv)
        | (refine⟨fun ix=>.int .i64 (.sym fun _=>loA tw tm tv cs (i+1) ix.den.toNat),?_⟩
           cbv
           refine hold (hold_arrupd (by intro jx h0 h1 h2;refine qE ?_;exact loA_new (by(try simp only [qV]at *);simp only [zQ,zA,zB,zC,zD,zE,zF,zG,zH,zI,zJ,zK,zL,zM,zN,zO,zP,zR,zS]at *;omega)) (by intro jx h0 h1 h2;refine qE ?_;exact loA_old (by(try simp only [qV]at *);simp only [zQ,zA,zB,zC,zD,zE,zF,zG,zH,zI,zJ,zK,zL,zM,zN,zO,zP,zR,zS]at *;omega))) ?_
           try cbv)
        | (refine⟨fun ix=>.int .i64 (.sym fun _=>hiA tw tm tv cs (i+1) ix.den.toNat),?_⟩
           cbv
           refine hold (hold_arrupd (by intro jx h0 h1 h2;refine qE ?_;exact hiA_new (by(try simp only [qV]at *);simp only [zQ,zA,zB,zC,zD,zE,zF,zG,zH,zI,zJ,zK,zL,zM,zN,zO,zP,zR,zS]at *;omega)) (by intro jx h0 h1 h2;refine qE ?_;exact hiA_old (by(try simp only [qV]at *);simp only [zQ,zA,zB,zC,zD,zE,zF,zG,zH,zI,zJ,zK,zL,zM,zN,zO,zP,zR,zS]at *;omega))) ?_
           try cbv)
        |fail)
    all_goals first
      |trivial
      |((try simp only [qV]at *);(try simp only [zQ,zA,zB,zC,zD,zE,zF,zG,zH,zI,zJ,zK,zL,zM,zN,zO,zP,zR,zS]at *);first|(refine qN ?_;omega)|(simp only [Hold];omega))
      |(subst hR;(have hie:i=cs.length:=by((try simp only [qV]at *);simp only [zQ,zA,zB,zC,zD,zE,zF,zG,zH,zI,zJ,zK,zL,zM,zN,zO,zP,zR,zS]at *;omega));subst hie;(repeat' (first|exact qA|exact qB|exact Fit.refl _|exact qE (by rfl)|refine fit_pp ?_|refine fit_arr ?_ ?_|refine qC ?_ rfl ?_|refine qD ?_ ?_));done;done)
      |((try simp only [zQ,zA,zB,zC,zD,zE,zF,zG,zH,zI,zJ,zK,zL,zM,zN,zO,zP,zR,zS]at *);refine⟨⟨i+1,by omega⟩,by simp only [];omega,?_⟩;cbv;(repeat' (first|with_reducible refine hold ?_ ?_|with_reducible refine And.intro ?_ ?_));(all_goals first|trivial|exact qM (qE (by rfl))|exact qM (qF (by rfl))|exact qM (Fit.refl _)|exact qL (qK _)|(refine qM (qE ?_);(try simp only [qV]at *);simp only [zQ,zA,zB,zC,zD,zE,zF,zG,zH,zI,zJ,zK,zL,zM,zN,zO,zP,zR,zS]at *;omega)|(refine qL (qJ ?_);(repeat' (first|exact qA|exact Fit.refl _|refine fit_arr ?_ ?_|refine qC ?_ rfl ?_))<;>(intro ix h0 h1;refine qE ?_;simp only [den_sym,loA,hiA,Nat.not_lt_zero,if_false];rfl))|(refine qL (ble_row ?_ ?_);(first|rfl|((try simp only [qV]at *);simp only [zQ,zA,zB,zC,zD,zE,zF,zG,zH,zI,zJ,zK,zL,zM,zN,zO,zP,zR,zS]at *;omega));intro ix h0 h1;first|exact Fit.refl _|(exfalso;(try simp only [qV]at *);simp only [zQ,zA,zB,zC,zD,zE,zF,zG,zH,zI,zJ,zK,zL,zM,zN,zO,zP,zR,zS]at *;omega))|skip))
      |skip
end Go.Proofs.Ytdacdjdccibaiaa

namespace Go.Proofs.Ytdacdjdccibaiaa
def tenthsP (g s:Int):Int:=(g*s).tdiv 100
def owedP (n rate:Int):Int:=(n*rate+10-1).tdiv 10
def dutyP (rate:Int)(cs:List Csk)(l:Nat→Int):Nat→Int
  |0=>0
  |n+1=>dutyP rate cs l n+owedP (tenthsP (cs.getD n ck0).g (l n)) rate
theorem mul_le2 {a b x y:Int}(h0:0≤a)(h1:a≤x)(h2:0≤b)(h3:b≤y):0≤a*b∧a*b≤x*y:=
  ⟨Int.mul_nonneg h0 h2,Int.le_trans (Int.mul_le_mul_of_nonneg_right h1 h2) (Int.mul_le_mul_of_nonneg_left h3 (by omega))⟩
theorem tenths_bd {g s:Int}(h0:0≤g)(h1:g≤99)(h2:0≤s)(h3:s≤2000):0≤tenthsP g s∧tenthsP g s≤1980:=by
  have:=mul_le2 h0 h1 h2 h3
  unfold tenthsP
  rw [Int.tdiv_eq_ediv_of_nonneg this.1]
  omega
theorem owed_bd {n rate:Int}(h0:0≤n)(h1:n≤1980)(h2:0≤rate)(h3:rate≤200):0≤owedP n rate∧owedP n rate≤39601:=by
  have:=mul_le2 h0 h1 h2 h3
  unfold owedP
  rw [Int.tdiv_eq_ediv_of_nonneg (by omega)]
  omega
theorem duty_bd {tw tm:List Int} {tv:List (List Int)} {rate:Int} {cs:List Csk}(h:SOk tw tm tv rate cs) {l:Nat→Int}(hl:∀j,0≤l j∧l j≤2000) {n:Nat}(hn:n≤cs.length):0≤dutyP rate cs l n∧dutyP rate cs l n≤39601*n:=by
  induction n with
  |zero=>exact⟨Int.le_refl _,by simp [dutyP]⟩
  | succ n ih=>
    have ih:=ih (by omega)
    have g:=h.gal n (by omega)
    have t:=tenths_bd (g:=(cs.getD n ck0).g) (s:=l n) (by omega) (by omega) (hl n).1 (hl n).2
    have o:=owed_bd (rate:=rate) t.1 t.2 h.rate.1 h.rate.2
    simp only [dutyP]
    omega
def truthB (tw tm:List Int)(tv:List (List Int))(cs:List Csk)(t:List Int):Bool:=
  decide (t.length=cs.length)&&decide (∀i,i<cs.length→sLo tw tm tv (cs.getD i ck0)≤t.getD i 0∧t.getD i 0≤sHi tw tm tv (cs.getD i ck0))
theorem truth_iff {tw tm:List Int} {tv:List (List Int)} {cs:List Csk} {t:List Int}:truthB tw tm tv cs t=true↔t.length=cs.length∧∀i,i<cs.length→sLo tw tm tv (cs.getD i ck0)≤t.getD i 0∧t.getD i 0≤sHi tw tm tv (cs.getD i ck0):=by
  simp only [truthB,Bool.and_eq_true,decide_eq_true_eq]
end Go.Proofs.Ytdacdjdccibaiaa

namespace Go.Proofs.Ytdacdjdccibaiaa
open Go Go.Eng Go.Proofs
set_option maxRecDepth 10000
theorem tenths75c (g s:Int)(hg:1≤g∧g≤99)(hs:0≤s∧s≤2000):FSpec Try.prog 29 [(.int .i64 (.sym fun _=>g)),(.int .i64 (.sym fun _=>s))] [] (fun r _=>r=(.int .i64 (.sym fun _=>tenthsP g s))):=by
  have h1:=mul_le2 (a:=g) (b:=s) (by omega) hg.2 hs.1 hs.2
  have h2:=tenths_bd (g:=g) (s:=s) (by omega) hg.2 hs.1 hs.2
  unfold tenthsP at h2⊢
  exact tenths75 g s ⟨⟨by omega,by omega⟩,⟨by omega,by omega⟩⟩
theorem owed86c (rate n:Int)(hn:0≤n∧n≤1980)(hr:0≤rate∧rate≤200):FSpec Try.prog 45 [.agg [.any,.any,.any,(.int .i64 (.sym fun _=>rate)),.any],(.int .i64 (.sym fun _=>n))] [] (fun r _=>r=(.int .i64 (.sym fun _=>owedP n rate))):=by
  have h1:=mul_le2 (a:=n) (b:=rate) hn.1 hn.2 hr.1 hr.2
  unfold owedP
  exact owed86 rate n ⟨h1.1,by omega⟩
theorem getD_out {l:List Int} {n:Nat}(h:l.length≤n):l.getD n 0=0:=by
  rw [List.getD_eq_getElem?_getD,List.getElem?_eq_none h];rfl
theorem truth_lv {tw tm:List Int} {tv:List (List Int)} {rate:Int} {cs:List Csk} {t:List Int}(hS:SOk tw tm tv rate cs)(hT:truthB tw tm tv cs t=true)(j:Nat):0≤t.getD j 0∧t.getD j 0≤2000:=by
  obtain⟨h1,h2⟩:=truth_iff.1 hT
  by_cases h:j<cs.length
  · have a:=h2 j h
    have b:=s_bd hS.t (hS.box j h)
    omega
  · rw [getD_out (by omega)];omega
theorem duty60 (tw tm:List Int)(tv:List (List Int))(rate:Int)(cs:List Csk)(l:Nat→Int)(hS:SOk tw tm tv rate cs)(hl:∀j,0≤l j∧l j≤2000):FSpec Try.prog 31 [.pp 0 [(.sl 1 (.sym fun _=>zi (tw).length) (fun ix=>[.int .i64 (.sym fun _=>(tw).getD ix.den.toNat 0)])),(.sl 1 (.sym fun _=>zi (tm).length) (fun ix=>[.int .i64 (.sym fun _=>(tm).getD ix.den.toNat 0)])),(.sl 1 (.sym fun _=>zi (tv).length) (fun ix=>[(.sl 1 (.sym fun _=>zi ((tv).getD ix.den.toNat []).length) (fun jx=>[.int .i64 (.sym fun _=>((tv).getD ix.den.toNat []).getD jx.den.toNat 0)]))])),(.int .i64 (.sym fun _=>rate)),(.sl 5 (.sym fun _=>zi (cs).length) (fun ix=>[(.int .i64 (.sym fun _=>((cs).getD ix.den.toNat ck0).g)),(.int .i64 (.sym fun _=>((cs).getD ix.den.toNat ck0).wl)),(.int .i64 (.sym fun _=>((cs).getD ix.den.toNat ck0).wh)),(.int .i64 (.sym fun _=>((cs).getD ix.den.toNat ck0).ml)),(.int .i64 (.sym fun _=>((cs).getD ix.den.toNat ck0).mh))])),(.sl 2 (.sym fun _=>zi cs.length) (fun ix=>[(.int .i64 (.sym fun _=>sLo tw tm tv (cs.getD ix.den.toNat ck0))),(.int .i64 (.sym fun _=>sHi tw tm tv (cs.getD ix.den.toNat ck0)))])),(.arr 6 (fun ix=>.int .i64 (.sym fun _=>loA tw tm tv cs cs.length ix.den.toNat))),(.arr 6 (fun ix=>.int .i64 (.sym fun _=>hiA tw tm tv cs cs.length ix.den.toNat)))],(.agg [(.arr 6 (fun ix=>.int .i64 (.sym fun _=>l ix.den.toNat)))])] [] (fun r _=>r=(.int .i64 (.sym fun _=>dutyP rate cs l cs.length))):=by
  have c75:=fun (i:Nat) (hi:i<cs.length)=>tenths75c (cs.getD i ck0).g (l i) (hS.gal i hi) (hl i)
  have c86:=fun (i:Nat) (hi:i<cs.length)=>owed86c rate (tenthsP (cs.getD i ck0).g (l i)) (tenths_bd (by have:=(hS.gal i hi).1;omega) (hS.gal i hi).2 (hl i).1 (hl i).2) hS.rate
  refine FSpec.is fun R hR=>qW (sc:=sc31) tyok mix Try.func31 rfl Try.call31 (by kernel_rfl) (by kernel_rfl) ?_
  generalize Try.prog=P at c75 c86⊢
  cbv
  repeat' (first
      |with_reducible refine hold ?_ ?_
      |with_reducible refine And.intro ?_ ?_
      | (with_reducible refine qS ?_ ?_ ?_
         try cbv)
      | (with_reducible refine qT ?_ ?_
         try cbv)
      |(with_reducible intro hcd;(try simp only [zA,zB,zC,zD,zE,zF,zG,zH,zI,zJ,zK,zL,zM,zN,zO,zP]at hcd);try cbv)
      |fail)
  all_goals first
    |trivial
    |((try simp only [qV]at *);(try simp only [zQ,zA,zB,zC,zD,zE,zF,zG,zH,zI,zJ,zK,zL,zM,zN,zO,zP,zR,zS]at *);first|(refine qN ?_;omega)|(simp only [Hold];omega))
    |skip
  refine⟨none,[],{i:Nat // i≤cs.length},fun x=>⟨[(0,.pp 0 [(.sl 1 (.sym fun _=>zi (tw).length) (fun ix=>[.int .i64 (.sym fun _=>(tw).getD ix.den.toNat 0)])),(.sl 1 (.sym fun _=>zi (tm).length) (fun ix=>[.int .i64 (.sym fun _=>(tm).getD ix.den.toNat 0)])),(.sl 1 (.sym fun _=>zi (tv).length) (fun ix=>[(.sl 1 (.sym fun _=>zi ((tv).getD ix.den.toNat []).length) (fun jx=>[.int .i64 (.sym fun _=>((tv).getD ix.den.toNat []).getD jx.den.toNat 0)]))])),(.int .i64 (.sym fun _=>rate)),(.sl 5 (.sym fun _=>zi (cs).length) (fun ix=>[(.int .i64 (.sym fun _=>((cs).getD ix.den.toNat ck0).g)),(.int .i64 (.sym fun _=>((cs).getD ix.den.toNat ck0).wl)),(.int .i64 (.sym fun _=>((cs).getD ix.den.toNat ck0).wh)),(.int .i64 (.sym fun _=>((cs).getD ix.den.toNat ck0).ml)),(.int .i64 (.sym fun _=>((cs).getD ix.den.toNat ck0).mh))])),(.sl 2 (.sym fun _=>zi cs.length) (fun ix=>[(.int .i64 (.sym fun _=>sLo tw tm tv (cs.getD ix.den.toNat ck0))),(.int .i64 (.sym fun _=>sHi tw tm tv (cs.getD ix.den.toNat ck0)))])),(.arr 6 (fun ix=>.int .i64 (.sym fun _=>loA tw tm tv cs cs.length ix.den.toNat))),(.arr 6 (fun ix=>.int .i64 (.sym fun _=>hiA tw tm tv cs cs.length ix.den.toNat)))]),(3,.own 0 0),(4,(.int .i64 (.sym fun _=>dutyP rate cs l x.1))),(11,(.sl 5 (.sym fun _=>zi (cs).length) (fun ix=>[(.int .i64 (.sym fun _=>((cs).getD ix.den.toNat ck0).g)),(.int .i64 (.sym fun _=>((cs).getD ix.den.toNat ck0).wl)),(.int .i64 (.sym fun _=>((cs).getD ix.den.toNat ck0).wh)),(.int .i64 (.sym fun _=>((cs).getD ix.den.toNat ck0).ml)),(.int .i64 (.sym fun _=>((cs).getD ix.den.toNat ck0).mh))]))),(12,(.int .i64 (.sym fun _=>zi cs.length))),(13,(.int .i64 (.sym fun _=>zi x.1)))],[(0,.cells [(.arr 6 (fun ix=>.int .i64 (.sym fun _=>l ix.den.toNat)))] 80)],30⟩,fun x=>cs.length-x.1,?_,?_⟩
  · refine⟨⟨0,by omega⟩,?_⟩
    cbv
    repeat' (first
      |with_reducible refine hold ?_ ?_
      |with_reducible refine And.intro ?_ ?_)
    all_goals first
      |trivial
      |exact qM (qE (by rfl))
      |exact qM (qF (by rfl))
      |exact qM (Fit.refl _)
      |exact qL (qK _)
      |(refine qM (qE ?_);(try simp only [qV]at *);simp only [zQ,zA,zB,zC,zD,zE,zF,zG,zH,zI,zJ,zK,zL,zM,zN,zO,zP,zR,zS]at *;omega)
      |skip
  · rintro ⟨i,hi⟩
    cbv
    have hd:=duty_bd hS hl hi
    have hfew:=hS.few
    repeat' (first
        |with_reducible refine hold ?_ ?_
        |with_reducible refine And.intro ?_ ?_
        | (with_reducible refine qS ?_ ?_ ?_
           try cbv)
        | (with_reducible refine qT ?_ ?_
           try cbv)
        |(with_reducible intro hcd;(try simp only [zA,zB,zC,zD,zE,zF,zG,zH,zI,zJ,zK,zL,zM,zN,zO,zP]at hcd);try cbv)
        | (refine qP ?_ (c75 i (show Hold _ from ?_)) (by(repeat' (first|exact qB|refine qD ?_ ?_|exact qE (by rfl)|(refine qE ?_;(try simp only [qV]);simp only [den_sym,den_lit,zi_den];congr 1;omega)|exact qF (by rfl)|exact Fit.refl _|exact qA|refine qC ?_ rfl ?_)))
           try cbv)
        | (refine qP ?_ (c86 i (show Hold _ from ?_)) (by(repeat' (first|exact qG _|exact qB|refine qD ?_ ?_|exact qE (by rfl)|exact qF (by rfl)|exact Fit.refl _|exact qA|refine qC ?_ rfl ?_)))
           try cbv)
        |fail)
    all_goals (try have hlt:i<cs.length:=(by(try simp only [qV]at *);simp only [zQ,zA,zB,zC,zD,zE,zF,zG,zH,zI,zJ,zK,zL,zM,zN,zO,zP,zR,zS]at *;omega))
    all_goals first
      |trivial
      |((try simp only [qV]at *);(try simp only [zQ,zA,zB,zC,zD,zE,zF,zG,zH,zI,zJ,zK,zL,zM,zN,zO,zP,zR,zS]at *);first|(refine qN ?_;omega)|(simp only [Hold];omega))
      |(subst hR;(have hie:i=cs.length:=by((try simp only [qV]at *);simp only [zQ,zA,zB,zC,zD,zE,zF,zG,zH,zI,zJ,zK,zL,zM,zN,zO,zP,zR,zS]at *;omega));subst hie;(repeat' (first|exact qA|exact qB|refine qC ?_ rfl ?_|refine qD ?_ ?_|exact qE (by rfl)|exact qF (by rfl)|exact Fit.refl _|exact qG _|(refine qE ?_;(try simp only [qV]at *);simp only [zQ,zA,zB,zC,zD,zE,zF,zG,zH,zI,zJ,zK,zL,zM,zN,zO,zP,zR,zS]at *;omega)));done)
      |(have hn:=duty_bd hS hl (show i+1≤cs.length by omega);simp only [dutyP]at hn;(try simp only [qV]at *);simp only [zQ,zA,zB,zC,zD,zE,zF,zG,zH,zI,zJ,zK,zL,zM,zN,zO,zP,zR,zS]at *;first|(refine qN ?_;omega)|(simp only [Hold];omega))
      |((try simp only [zQ,zA,zB,zC,zD,zE,zF,zG,zH,zI,zJ,zK,zL,zM,zN,zO,zP,zR,zS]at *);refine⟨⟨i+1,by omega⟩,by simp only [];omega,?_⟩;cbv;(repeat' (first|with_reducible refine hold ?_ ?_|with_reducible refine And.intro ?_ ?_));(all_goals first|trivial|exact qM (qE (by rfl))|exact qM (qF (by rfl))|exact qM (Fit.refl _)|exact qL (qK _)|(refine qM (qE ?_);(try simp only [qV]at *);simp only [zQ,zA,zB,zC,zD,zE,zF,zG,zH,zI,zJ,zK,zL,zM,zN,zO,zP,zR,zS]at *;omega)|skip))
      |skip
theorem truth76 (tw tm:List Int)(tv:List (List Int))(rate:Int)(cs:List Csk)(t:List Int)(hS:SOk tw tm tv rate cs):FSpec Try.prog 28 [.pp 0 [(.sl 1 (.sym fun _=>zi (tw).length) (fun ix=>[.int .i64 (.sym fun _=>(tw).getD ix.den.toNat 0)])),(.sl 1 (.sym fun _=>zi (tm).length) (fun ix=>[.int .i64 (.sym fun _=>(tm).getD ix.den.toNat 0)])),(.sl 1 (.sym fun _=>zi (tv).length) (fun ix=>[(.sl 1 (.sym fun _=>zi ((tv).getD ix.den.toNat []).length) (fun jx=>[.int .i64 (.sym fun _=>((tv).getD ix.den.toNat []).getD jx.den.toNat 0)]))])),(.int .i64 (.sym fun _=>rate)),(.sl 5 (.sym fun _=>zi (cs).length) (fun ix=>[(.int .i64 (.sym fun _=>((cs).getD ix.den.toNat ck0).g)),(.int .i64 (.sym fun _=>((cs).getD ix.den.toNat ck0).wl)),(.int .i64 (.sym fun _=>((cs).getD ix.den.toNat ck0).wh)),(.int .i64 (.sym fun _=>((cs).getD ix.den.toNat ck0).ml)),(.int .i64 (.sym fun _=>((cs).getD ix.den.toNat ck0).mh))])),(.sl 2 (.sym fun _=>zi cs.length) (fun ix=>[(.int .i64 (.sym fun _=>sLo tw tm tv (cs.getD ix.den.toNat ck0))),(.int .i64 (.sym fun _=>sHi tw tm tv (cs.getD ix.den.toNat ck0)))])),(.arr 6 (fun ix=>.int .i64 (.sym fun _=>loA tw tm tv cs cs.length ix.den.toNat))),(.arr 6 (fun ix=>.int .i64 (.sym fun _=>hiA tw tm tv cs cs.length ix.den.toNat)))],(.sl 1 (.sym fun _=>zi (t).length) (fun ix=>[.int .i64 (.sym fun _=>(t).getD ix.den.toNat 0)]))] [] (fun r _=>r=(.bool (.sym fun _=>truthB tw tm tv cs t))):=by
  have c64:= @within64
  refine FSpec.is fun R hR=>qW (sc:=sc28) tyok mix Try.func28 rfl Try.call28 (by kernel_rfl) (by kernel_rfl) ?_
  generalize Try.prog=P at c64⊢
  cbv
  repeat' (first
      |with_reducible refine hold ?_ ?_
      |with_reducible refine And.intro ?_ ?_
      | (with_reducible refine qS ?_ ?_ ?_
         try cbv)
      | (with_reducible refine qT ?_ ?_
         try cbv)
      |(with_reducible intro hcd;(try simp only [zA,zB,zC,zD,zE,zF,zG,zH,zI,zJ,zK,zL,zM,zN,zO,zP]at hcd);try cbv)
      |fail)
  all_goals first
    |trivial
    |((try simp only [qV]at *);(try simp only [zQ,zA,zB,zC,zD,zE,zF,zG,zH,zI,zJ,zK,zL,zM,zN,zO,zP,zR,zS]at *);first|(refine qN ?_;omega)|(simp only [Hold];omega))
    |(subst hR;(refine qF ?_;simp only [bden_sym,bden_lit];symm;rw [←Bool.not_eq_true];intro htr;have hq:=truth_iff.1 htr;(try simp only [qV]at *);simp only [zQ,zA,zB,zC,zD,zE,zF,zG,zH,zI,zJ,zK,zL,zM,zN,zO,zP,zR,zS]at *;omega);done)
    |skip
  have hlen:t.length=cs.length:=by((try simp only [qV]at *);simp only [zQ,zA,zB,zC,zD,zE,zF,zG,zH,zI,zJ,zK,zL,zM,zN,zO,zP,zR,zS]at *;omega)
  refine⟨none,[],{i:Nat // i≤cs.length∧∀j,j<i→sLo tw tm tv (cs.getD j ck0)≤t.getD j 0∧t.getD j 0≤sHi tw tm tv (cs.getD j ck0)},fun x=>⟨[(0,.pp 0 [(.sl 1 (.sym fun _=>zi (tw).length) (fun ix=>[.int .i64 (.sym fun _=>(tw).getD ix.den.toNat 0)])),(.sl 1 (.sym fun _=>zi (tm).length) (fun ix=>[.int .i64 (.sym fun _=>(tm).getD ix.den.toNat 0)])),(.sl 1 (.sym fun _=>zi (tv).length) (fun ix=>[(.sl 1 (.sym fun _=>zi ((tv).getD ix.den.toNat []).length) (fun jx=>[.int .i64 (.sym fun _=>((tv).getD ix.den.toNat []).getD jx.den.toNat 0)]))])),(.int .i64 (.sym fun _=>rate)),(.sl 5 (.sym fun _=>zi (cs).length) (fun ix=>[(.int .i64 (.sym fun _=>((cs).getD ix.den.toNat ck0).g)),(.int .i64 (.sym fun _=>((cs).getD ix.den.toNat ck0).wl)),(.int .i64 (.sym fun _=>((cs).getD ix.den.toNat ck0).wh)),(.int .i64 (.sym fun _=>((cs).getD ix.den.toNat ck0).ml)),(.int .i64 (.sym fun _=>((cs).getD ix.den.toNat ck0).mh))])),(.sl 2 (.sym fun _=>zi cs.length) (fun ix=>[(.int .i64 (.sym fun _=>sLo tw tm tv (cs.getD ix.den.toNat ck0))),(.int .i64 (.sym fun _=>sHi tw tm tv (cs.getD ix.den.toNat ck0)))])),(.arr 6 (fun ix=>.int .i64 (.sym fun _=>loA tw tm tv cs cs.length ix.den.toNat))),(.arr 6 (fun ix=>.int .i64 (.sym fun _=>hiA tw tm tv cs cs.length ix.den.toNat)))]),(1,(.sl 1 (.sym fun _=>zi (t).length) (fun ix=>[.int .i64 (.sym fun _=>(t).getD ix.den.toNat 0)]))),(18,(.sl 2 (.sym fun _=>zi cs.length) (fun ix=>[(.int .i64 (.sym fun _=>sLo tw tm tv (cs.getD ix.den.toNat ck0))),(.int .i64 (.sym fun _=>sHi tw tm tv (cs.getD ix.den.toNat ck0)))]))),(19,(.int .i64 (.sym fun _=>zi cs.length))),(20,(.int .i64 (.sym fun _=>zi x.1)))],[],30⟩,fun x=>cs.length-x.1,?_,?_⟩
  · refine⟨⟨0,by omega,fun j hj=>by omega⟩,?_⟩
    cbv
    repeat' (first
      |with_reducible refine hold ?_ ?_
      |with_reducible refine And.intro ?_ ?_)
    all_goals first
      |trivial
      |exact qM (qE (by rfl))
      |exact qM (qF (by rfl))
      |exact qM (Fit.refl _)
      |exact qL (qK _)
      |(refine qM (qE ?_);(try simp only [qV]at *);simp only [zQ,zA,zB,zC,zD,zE,zF,zG,zH,zI,zJ,zK,zL,zM,zN,zO,zP,zR,zS]at *;omega)
      |skip
  · rintro ⟨i,hi,hr⟩
    cbv
    have hfew:=hS.few
    repeat' (first
        |with_reducible refine hold ?_ ?_
        |with_reducible refine And.intro ?_ ?_
        | (with_reducible refine qS ?_ ?_ ?_
           try cbv)
        | (with_reducible refine qT ?_ ?_
           try cbv)
        |(with_reducible intro hcd;(try simp only [zA,zB,zC,zD,zE,zF,zG,zH,zI,zJ,zK,zL,zM,zN,zO,zP]at hcd);try cbv)
        | (refine qP ?_ (c64 _ _ _) (by(repeat' (first|exact qB|refine qD ?_ ?_|exact qE (by rfl)|exact qF (by rfl)|exact Fit.refl _|exact qA|refine qC ?_ rfl ?_)))
           try cbv)
        |fail)
    all_goals (try have hlt:i<cs.length:=(by(try simp only [qV]at *);simp only [zQ,zA,zB,zC,zD,zE,zF,zG,zH,zI,zJ,zK,zL,zM,zN,zO,zP,zR,zS]at *;omega))
    all_goals first
      |trivial
      |((try simp only [qV]at *);(try simp only [zQ,zA,zB,zC,zD,zE,zF,zG,zH,zI,zJ,zK,zL,zM,zN,zO,zP,zR,zS]at *);first|(refine qN ?_;omega)|(simp only [Hold];omega))
      |(subst hR;(refine qF ?_;simp only [bden_sym,bden_lit];symm;rw [←Bool.not_eq_true];intro htr;have hq:=(truth_iff.1 htr).2 i hlt;simp only [Bool.and_eq_false_iff]at hcd;rcases hcd with hz|hz<;>(have hz2:=of_decide_eq_false hz;(try simp only [qV]at *);simp only [zQ,zA,zB,zC,zD,zE,zF,zG,zH,zI,zJ,zK,zL,zM,zN,zO,zP,zR,zS]at *;omega));done)
      |(subst hR;(have hie:i=cs.length:=by((try simp only [qV]at *);simp only [zQ,zA,zB,zC,zD,zE,zF,zG,zH,zI,zJ,zK,zL,zM,zN,zO,zP,zR,zS]at *;omega));(refine qF ?_;simp only [bden_sym,bden_lit];symm;exact truth_iff.2 ⟨hlen,fun j hj=>hr j (by omega)⟩);done)
      |((try simp only [zQ,zA,zB,zC,zD,zE,zF,zG,zH,zI,zJ,zK,zL,zM,zN,zO,zP,zR,zS]at *);refine⟨⟨i+1,by omega,fun j hj=>(Nat.lt_or_ge j i).elim (hr j) (fun q=>by rw [show j=i by omega];simp only [Bool.and_eq_true]at hcd;have hz:=of_decide_eq_true hcd.1;have hz2:=of_decide_eq_true hcd.2;(try simp only [qV]at *);simp only [zQ,zA,zB,zC,zD,zE,zF,zG,zH,zI,zJ,zK,zL,zM,zN,zO,zP,zR,zS]at *;omega)⟩,by simp only [];omega,?_⟩;cbv;(repeat' (first|with_reducible refine hold ?_ ?_|with_reducible refine And.intro ?_ ?_));(all_goals first|trivial|exact qM (qE (by rfl))|exact qM (qF (by rfl))|exact qM (Fit.refl _)|exact qL (qK _)|(refine qM (qE ?_);(try simp only [qV]at *);simp only [zQ,zA,zB,zC,zD,zE,zF,zG,zH,zI,zJ,zK,zL,zM,zN,zO,zP,zR,zS]at *;omega)|skip))
      |skip
theorem hold_copy {n:Int} {m:Nat} {el:IX→List SV} {f f':IX→SV}(h0:0≤n)(h1:∀jx:IX,0≤jx.den→jx.den<(m:Int)→jx.den<n→∃s,el jx=[s]∧okCell s=true∧Fit s (f' jx))(h2:∀jx:IX,0≤jx.den→jx.den<(m:Int)→n≤jx.den→Fit (f jx) (f' jx)):
    Hold (0≤n∧(∀jx:IX,0≤jx.den→jx.den<(m:Int)→(jx.den<n→∃s,el jx=[s]∧okCell s=true∧Le s (f' jx))∧(n≤jx.den→Le (f jx) (f' jx)))):=
  ⟨h0,fun jx a b=>⟨fun c=>let ⟨s,p,q,r⟩:=h1 jx a b c;⟨s,p,q,r.le⟩,fun c=>(h2 jx a b c).le⟩⟩
theorem duty44 (tw tm:List Int)(tv:List (List Int))(rate:Int)(cs:List Csk)(t:List Int)(hS:SOk tw tm tv rate cs)(hT:truthB tw tm tv cs t=true):FSpec Try.prog 12 [(.agg [(.sl 1 (.sym fun _=>zi (tw).length) (fun ix=>[.int .i64 (.sym fun _=>(tw).getD ix.den.toNat 0)])),(.sl 1 (.sym fun _=>zi (tm).length) (fun ix=>[.int .i64 (.sym fun _=>(tm).getD ix.den.toNat 0)])),(.sl 1 (.sym fun _=>zi (tv).length) (fun ix=>[(.sl 1 (.sym fun _=>zi ((tv).getD ix.den.toNat []).length) (fun jx=>[.int .i64 (.sym fun _=>((tv).getD ix.den.toNat []).getD jx.den.toNat 0)]))])),(.int .i64 (.sym fun _=>rate)),(.sl 5 (.sym fun _=>zi (cs).length) (fun ix=>[(.int .i64 (.sym fun _=>((cs).getD ix.den.toNat ck0).g)),(.int .i64 (.sym fun _=>((cs).getD ix.den.toNat ck0).wl)),(.int .i64 (.sym fun _=>((cs).getD ix.den.toNat ck0).wh)),(.int .i64 (.sym fun _=>((cs).getD ix.den.toNat ck0).ml)),(.int .i64 (.sym fun _=>((cs).getD ix.den.toNat ck0).mh))]))]),(.sl 1 (.sym fun _=>zi (t).length) (fun ix=>[.int .i64 (.sym fun _=>(t).getD ix.den.toNat 0)]))] [] (fun r _=>r=(.tup [(.int .i64 (.sym fun _=>dutyP rate cs (fun j=>t.getD j 0) cs.length)),(.int .i64 (.sym fun _=>0))])):=by
  have c59:=open59 tw tm tv rate cs hS
  have c76:=truth76 tw tm tv rate cs t hS
  have c60:=fun (h:truthB tw tm tv cs t=true)=>duty60 tw tm tv rate cs (fun j=>t.getD j 0) hS (truth_lv hS h)
  refine FSpec.is fun R hR=>qW (sc:=sc12) tyok mix Try.func12 rfl Try.call12 (by kernel_rfl) (by kernel_rfl) ?_
  generalize Try.prog=P at c59 c76 c60⊢
  cbv
  repeat' (first
      |with_reducible refine hold ?_ ?_
      |with_reducible refine And.intro ?_ ?_
      | (with_reducible refine qS ?_ ?_ ?_
         try cbv)
      | (with_reducible refine qT ?_ ?_
         try cbv)
      |(with_reducible intro hcd;(try simp only [zA,zB,zC,zD,zE,zF,zG,zH,zI,zJ,zK,zL,zM,zN,zO,zP]at hcd);try cbv)
      | (refine qP ?_ (c59) (by(repeat' (first|exact qB|refine qD ?_ ?_|exact qE (by rfl)|exact qF (by rfl)|exact Fit.refl _|exact qA|refine qC ?_ rfl ?_)))
         try cbv)
      | (refine qP ?_ (c76) (by(repeat' (first|exact qB|refine qD ?_ ?_|exact qE (by rfl)|exact qF (by rfl)|exact Fit.refl _|exact qA|refine qC ?_ rfl ?_)))
         try cbv)
      | (refine qP ?_ (c60 hT) (by(repeat' (first|exact qB|refine qD ?_ ?_|exact qE (by rfl)|exact qF (by rfl)|exact Fit.refl _|exact qA|refine qC ?_ rfl ?_)))
         try cbv)
      | (refine⟨fun ix=>.int .i64 (.sym fun _=>t.getD ix.den.toNat 0),?_⟩
         cbv
         refine hold (hold_copy (by(try simp only [qV]at *);simp only [den_sym,zi_den];omega) (fun jx h0 h1 h2=>⟨_,rfl,rfl,Fit.refl _⟩) (fun jx h0 h1 h2=>qE (by(try simp only [qV]at *);simp only [den_sym,den_lit,zi_den]at *;exact(getD_out (by omega)).symm))) ?_
         try cbv)
      |fail)
  all_goals first
    |trivial
    |((try simp only [qV]at *);(try simp only [zQ,zA,zB,zC,zD,zE,zF,zG,zH,zI,zJ,zK,zL,zM,zN,zO,zP,zR,zS]at *);first|(refine qN ?_;omega)|(simp only [Hold];omega))
    |(subst hR;(repeat' (first|exact qA|exact qB|refine qC ?_ rfl ?_|refine qD ?_ ?_|exact qE (by rfl)|exact qF (by rfl)|exact Fit.refl _|exact qG _|(refine qE ?_;(try simp only [qV]at *);simp only [zQ,zA,zB,zC,zD,zE,zF,zG,zH,zI,zJ,zK,zL,zM,zN,zO,zP,zR,zS]at *;omega)));done)
    |(exfalso;simp_all;done)
    |skip
theorem tenths45 (tw tm:List Int)(tv:List (List Int))(rate:Int)(cs:List Csk)(t:List Int)(hS:SOk tw tm tv rate cs)(hT:truthB tw tm tv cs t=true):FSpec Try.prog 10 [(.agg [(.sl 1 (.sym fun _=>zi (tw).length) (fun ix=>[.int .i64 (.sym fun _=>(tw).getD ix.den.toNat 0)])),(.sl 1 (.sym fun _=>zi (tm).length) (fun ix=>[.int .i64 (.sym fun _=>(tm).getD ix.den.toNat 0)])),(.sl 1 (.sym fun _=>zi (tv).length) (fun ix=>[(.sl 1 (.sym fun _=>zi ((tv).getD ix.den.toNat []).length) (fun jx=>[.int .i64 (.sym fun _=>((tv).getD ix.den.toNat []).getD jx.den.toNat 0)]))])),(.int .i64 (.sym fun _=>rate)),(.sl 5 (.sym fun _=>zi (cs).length) (fun ix=>[(.int .i64 (.sym fun _=>((cs).getD ix.den.toNat ck0).g)),(.int .i64 (.sym fun _=>((cs).getD ix.den.toNat ck0).wl)),(.int .i64 (.sym fun _=>((cs).getD ix.den.toNat ck0).wh)),(.int .i64 (.sym fun _=>((cs).getD ix.den.toNat ck0).ml)),(.int .i64 (.sym fun _=>((cs).getD ix.den.toNat ck0).mh))]))]),(.sl 1 (.sym fun _=>zi (t).length) (fun ix=>[.int .i64 (.sym fun _=>(t).getD ix.den.toNat 0)]))] [] (fun r _=>r=(.tup [(.sl 1 (.sym fun _=>zi cs.length) (fun ix=>[(.int .i64 (.sym fun _=>tenthsP (cs.getD ix.den.toNat ck0).g (t.getD ix.den.toNat 0)))])),(.int .i64 (.sym fun _=>0))])):=by
  have c59:=open59 tw tm tv rate cs hS
  have c76:=truth76 tw tm tv rate cs t hS
  have c75:=fun (i:Nat) (hi:i<cs.length)=>tenths75c (cs.getD i ck0).g (t.getD i 0) (hS.gal i hi) (truth_lv hS hT i)
  refine FSpec.is fun R hR=>qW (sc:=sc10) tyok mix Try.func10 rfl Try.call10 (by kernel_rfl) (by kernel_rfl) ?_
  generalize Try.prog=P at c59 c76 c75⊢
  cbv
  have hlen:=(truth_iff.1 hT).1
  repeat' (first
      |with_reducible refine hold ?_ ?_
      |with_reducible refine And.intro ?_ ?_
      | (with_reducible refine qS ?_ ?_ ?_
         try cbv)
      | (with_reducible refine qT ?_ ?_
         try cbv)
      |(with_reducible intro hcd;(try simp only [zA,zB,zC,zD,zE,zF,zG,zH,zI,zJ,zK,zL,zM,zN,zO,zP]at hcd);try cbv)
      | (refine qP ?_ (c59) (by(repeat' (first|exact qB|refine qD ?_ ?_|exact qE (by rfl)|exact qF (by rfl)|exact Fit.refl _|exact qA|refine qC ?_ rfl ?_)))
         try cbv)
      | (refine qP ?_ (c76) (by(repeat' (first|exact qB|refine qD ?_ ?_|exact qE (by rfl)|exact qF (by rfl)|exact Fit.refl _|exact qA|refine qC ?_ rfl ?_)))
         try cbv)
      |fail)
  all_goals first
    |trivial
    |((try simp only [qV]at *);(try simp only [zQ,zA,zB,zC,zD,zE,zF,zG,zH,zI,zJ,zK,zL,zM,zN,zO,zP,zR,zS]at *);first|(refine qN ?_;omega)|(simp only [Hold];omega))
    |(exfalso;simp_all;done)
    |skip
  refine⟨none,[⟨.tmp 8,3,1⟩],{i:Nat // i≤cs.length},fun x=>⟨[(1,(.sl 1 (.sym fun _=>zi (t).length) (fun ix=>[.int .i64 (.sym fun _=>(t).getD ix.den.toNat 0)]))),(2,.own 0 0),(8,.row 23),(26,(.sl 5 (.sym fun _=>zi (cs).length) (fun ix=>[(.int .i64 (.sym fun _=>((cs).getD ix.den.toNat ck0).g)),(.int .i64 (.sym fun _=>((cs).getD ix.den.toNat ck0).wl)),(.int .i64 (.sym fun _=>((cs).getD ix.den.toNat ck0).wh)),(.int .i64 (.sym fun _=>((cs).getD ix.den.toNat ck0).ml)),(.int .i64 (.sym fun _=>((cs).getD ix.den.toNat ck0).mh))]))),(27,(.int .i64 (.sym fun _=>zi cs.length))),(28,(.int .i64 (.sym fun _=>zi x.1)))],[(0,.cells [(.sl 1 (.sym fun _=>zi (tw).length) (fun ix=>[.int .i64 (.sym fun _=>(tw).getD ix.den.toNat 0)])),(.sl 1 (.sym fun _=>zi (tm).length) (fun ix=>[.int .i64 (.sym fun _=>(tm).getD ix.den.toNat 0)])),(.sl 1 (.sym fun _=>zi (tv).length) (fun ix=>[(.sl 1 (.sym fun _=>zi ((tv).getD ix.den.toNat []).length) (fun jx=>[.int .i64 (.sym fun _=>((tv).getD ix.den.toNat []).getD jx.den.toNat 0)]))])),(.int .i64 (.sym fun _=>rate)),(.sl 5 (.sym fun _=>zi (cs).length) (fun ix=>[(.int .i64 (.sym fun _=>((cs).getD ix.den.toNat ck0).g)),(.int .i64 (.sym fun _=>((cs).getD ix.den.toNat ck0).wl)),(.int .i64 (.sym fun _=>((cs).getD ix.den.toNat ck0).wh)),(.int .i64 (.sym fun _=>((cs).getD ix.den.toNat ck0).ml)),(.int .i64 (.sym fun _=>((cs).getD ix.den.toNat ck0).mh))]))] 48),(23,.row 3 1 (.sym fun _=>zi x.1) (fun ix=>[(.int .i64 (.sym fun _=>tenthsP (cs.getD ix.den.toNat ck0).g (t.getD ix.den.toNat 0)))]))],60⟩,fun x=>cs.length-x.1,?_,?_⟩
  · refine⟨⟨0,by omega⟩,?_⟩
    cbv
    repeat' (first
      |with_reducible refine hold ?_ ?_
      |with_reducible refine And.intro ?_ ?_)
    all_goals first
      |trivial
      |exact qM (qE (by rfl))
      |exact qM (qF (by rfl))
      |exact qM (Fit.refl _)
      |exact qL (qK _)
      |(refine qM (qE ?_);(try simp only [qV]at *);simp only [zQ,zA,zB,zC,zD,zE,zF,zG,zH,zI,zJ,zK,zL,zM,zN,zO,zP,zR,zS]at *;omega)
      |(refine qL (ble_row ?_ ?_);(first|rfl|((try simp only [qV]at *);simp only [zQ,zA,zB,zC,zD,zE,zF,zG,zH,zI,zJ,zK,zL,zM,zN,zO,zP,zR,zS]at *;omega));intro ix h0 h1;first|exact Fit.refl _|(exfalso;(try simp only [qV]at *);simp only [zQ,zA,zB,zC,zD,zE,zF,zG,zH,zI,zJ,zK,zL,zM,zN,zO,zP,zR,zS]at *;omega))
      |skip
  · rintro ⟨i,hi⟩
    cbv
    have hfew:=hS.few
    repeat' (first
        |with_reducible refine hold ?_ ?_
        |with_reducible refine And.intro ?_ ?_
        | (with_reducible refine qS ?_ ?_ ?_
           try cbv)
        | (with_reducible refine qT ?_ ?_
           try cbv)
        |(with_reducible intro hcd;(try simp only [zA,zB,zC,zD,zE,zF,zG,zH,zI,zJ,zK,zL,zM,zN,zO,zP]at hcd);try cbv)
        | (refine qP ?_ (c75 i (show Hold _ from ?_)) (by(repeat' (first|exact qB|refine qD ?_ ?_|exact qE (by rfl)|(refine qE ?_;(try simp only [qV]);simp only [den_sym,den_lit,zi_den];congr 1;omega)|exact qF (by rfl)|exact Fit.refl _|exact qA|refine qC ?_ rfl ?_)))
           try cbv)
        | (refine⟨fun ix=>[(.int .i64 (.sym fun _=>tenthsP (cs.getD ix.den.toNat ck0).g (t.getD ix.den.toNat 0)))],?_⟩
           cbv
           refine hold (hold_rowapp (by intro ix jx h0 h1 h2;refine(qC (qE ?_) rfl qA)<;>simp only [den_sym,h2]) (by intro ix jx h0 h1 h2;(have h3:jx.den.toNat=i:=by((try simp only [qV]at *);simp only [zQ,zA,zB,zC,zD,zE,zF,zG,zH,zI,zJ,zK,zL,zM,zN,zO,zP,zR,zS]at *;omega));refine(qC (qE ?_) rfl qA)<;>simp only [den_sym,h3]) (by(try simp only [qV]at *);simp only [zQ,zA,zB,zC,zD,zE,zF,zG,zH,zI,zJ,zK,zL,zM,zN,zO,zP,zR,zS]at *;omega)) (Or.inl ?_)
           try cbv)
        |fail)
    all_goals first
      |trivial
      |((try simp only [qV]at *);(try simp only [zQ,zA,zB,zC,zD,zE,zF,zG,zH,zI,zJ,zK,zL,zM,zN,zO,zP,zR,zS]at *);first|(refine qN ?_;omega)|(simp only [Hold];omega))
      |(subst hR;(have hie:i=cs.length:=by((try simp only [qV]at *);simp only [zQ,zA,zB,zC,zD,zE,zF,zG,zH,zI,zJ,zK,zL,zM,zN,zO,zP,zR,zS]at *;omega));subst hie;(repeat' (first|exact qA|exact qB|exact Fit.refl _|exact qE (by rfl)|refine qC ?_ rfl ?_|refine qD ?_ ?_));done;done)
      |((try simp only [zQ,zA,zB,zC,zD,zE,zF,zG,zH,zI,zJ,zK,zL,zM,zN,zO,zP,zR,zS]at *);refine⟨⟨i+1,by omega⟩,by simp only [];omega,?_⟩;cbv;(repeat' (first|with_reducible refine hold ?_ ?_|with_reducible refine And.intro ?_ ?_));(all_goals first|trivial|exact qM (qE (by rfl))|exact qM (qF (by rfl))|exact qM (Fit.refl _)|exact qL (qK _)|(refine qM (qE ?_);(try simp only [qV]at *);simp only [zQ,zA,zB,zC,zD,zE,zF,zG,zH,zI,zJ,zK,zL,zM,zN,zO,zP,zR,zS]at *;omega)|(refine qL (ble_row ?_ ?_);(first|rfl|((try simp only [qV]at *);simp only [zQ,zA,zB,zC,zD,zE,zF,zG,zH,zI,zJ,zK,zL,zM,zN,zO,zP,zR,zS]at *;omega));intro ix h0 h1;first|exact Fit.refl _|(exfalso;(try simp only [qV]at *);simp only [zQ,zA,zB,zC,zD,zE,zF,zG,zH,zI,zJ,zK,zL,zM,zN,zO,zP,zR,zS]at *;omega))|skip))
      |skip
end Go.Proofs.Ytdacdjdccibaiaa

namespace Go.Proofs.Ytdacdjdccibaiaa
open Go Go.Eng Go.Proofs
set_option maxRecDepth 10000
theorem eqOk110 :EqOk Try.prog 80 6:=eqOk_arrI (e:=3) (by kernel_rfl)
theorem duty_congr {rate:Int} {cs:List Csk} {l l':Nat→Int} {n:Nat}(h:∀j,j<n→l j=l' j):dutyP rate cs l n=dutyP rate cs l' n:=by
  induction n with
  |zero=>rfl
  |succ n ih=>simp only [dutyP];rw [ih fun j hj=>h j (by omega),h n (by omega)]
theorem duty_same {rate:Int} {cs:List Csk} {l l':Nat→Int} {n:Nat}(hn:n≤6)(h:[l 0,l 1,l 2,l 3,l 4,l 5]=[l' 0,l' 1,l' 2,l' 3,l' 4,l' 5]):dutyP rate cs l n=dutyP rate cs l' n:=by
  simp only [List.cons.injEq,and_true]at h
  obtain⟨h0,h1,h2,h3,h4,h5⟩:=h
  refine duty_congr fun j hj=> ?_
  match j,hj with
  |0,_=>exact h0
  |1,_=>exact h1
  |2,_=>exact h2
  |3,_=>exact h3
  |4,_=>exact h4
  |5,_=>exact h5
  |j+6,hj=>omega
theorem duties22 (tw tm:List Int)(tv:List (List Int))(rate:Int)(cs:List Csk)(hS:SOk tw tm tv rate cs):FSpec Try.prog 13 [(.agg [(.sl 1 (.sym fun _=>zi (tw).length) (fun ix=>[.int .i64 (.sym fun _=>(tw).getD ix.den.toNat 0)])),(.sl 1 (.sym fun _=>zi (tm).length) (fun ix=>[.int .i64 (.sym fun _=>(tm).getD ix.den.toNat 0)])),(.sl 1 (.sym fun _=>zi (tv).length) (fun ix=>[(.sl 1 (.sym fun _=>zi ((tv).getD ix.den.toNat []).length) (fun jx=>[.int .i64 (.sym fun _=>((tv).getD ix.den.toNat []).getD jx.den.toNat 0)]))])),(.int .i64 (.sym fun _=>rate)),(.sl 5 (.sym fun _=>zi (cs).length) (fun ix=>[(.int .i64 (.sym fun _=>((cs).getD ix.den.toNat ck0).g)),(.int .i64 (.sym fun _=>((cs).getD ix.den.toNat ck0).wl)),(.int .i64 (.sym fun _=>((cs).getD ix.den.toNat ck0).wh)),(.int .i64 (.sym fun _=>((cs).getD ix.den.toNat ck0).ml)),(.int .i64 (.sym fun _=>((cs).getD ix.den.toNat ck0).mh))]))])] [] (fun r _=>r=(.tup [(.agg [(.int .i64 (.sym fun _=>dutyP rate cs (loA tw tm tv cs cs.length) cs.length)),(.int .i64 (.sym fun _=>dutyP rate cs (hiA tw tm tv cs cs.length) cs.length))]),(.int .i64 (.sym fun _=>0))])):=by
  have c59:=open59 tw tm tv rate cs hS
  have cl:=duty60 tw tm tv rate cs (loA tw tm tv cs cs.length) hS (fun j=>by have:=lo_bd hS j;omega)
  have ch:=duty60 tw tm tv rate cs (hiA tw tm tv cs cs.length) hS (fun j=>by have:=lo_bd hS j;omega)
  have h110:=eqOk110
  refine FSpec.is fun R hR=>qW (sc:=sc13) tyok mix Try.func13 rfl Try.call13 (by kernel_rfl) (by kernel_rfl) ?_
  generalize Try.prog=P at c59 cl ch h110⊢
  cbv
  have hfew:=hS.few
  repeat' (first
      |with_reducible refine hold ?_ ?_
      |with_reducible refine And.intro ?_ ?_
      | (with_reducible refine qS ?_ ?_ ?_
         try cbv)
      | (with_reducible refine qT ?_ ?_
         try cbv)
      |(with_reducible intro hcd;(try simp only [zA,zB,zC,zD,zE,zF,zG,zH,zI,zJ,zK,zL,zM,zN,zO,zP]at hcd);try cbv)
      | (refine qP ?_ (c59) ?hfit
         case hfit=>((repeat' (first|exact qB|refine qD ?_ ?_|exact qE (by rfl)|exact qF (by rfl)|exact Fit.refl _|exact qA|refine qC ?_ rfl ?_));done)
         try cbv)
      | (refine qP ?_ (cl) ?hfit
         case hfit=>((repeat' (first|exact qB|refine qD ?_ ?_|exact qE (by rfl)|exact qF (by rfl)|exact Fit.refl _|exact qA|refine qC ?_ rfl ?_));done)
         try cbv)
      | (refine qP ?_ (ch) ?hfit
         case hfit=>((repeat' (first|exact qB|refine qD ?_ ?_|exact qE (by rfl)|exact qF (by rfl)|exact Fit.refl _|exact qA|refine qC ?_ rfl ?_));done)
         try cbv)
      |fail)
  all_goals first
    |trivial
    |((try simp only [qV]at *);(try simp only [zQ,zA,zB,zC,zD,zE,zF,zG,zH,zI,zJ,zK,zL,zM,zN,zO,zP,zR,zS]at *);first|(refine qN ?_;omega)|(simp only [Hold];omega))
    |(subst hR;(repeat' (first|exact qA|exact qB|refine qC ?_ rfl ?_|refine qD ?_ ?_|exact qE (by rfl)|exact qF (by rfl)|exact Fit.refl _|exact qG _|(refine qE ?_;(try simp only [qV]at *);simp only [zQ,zA,zB,zC,zD,zE,zF,zG,zH,zI,zJ,zK,zL,zM,zN,zO,zP,zR,zS]at *;omega)));done)
    |(subst hR;(have hq:dutyP rate cs (loA tw tm tv cs cs.length) cs.length=dutyP rate cs (hiA tw tm tv cs cs.length) cs.length:=duty_same hfew (of_decide_eq_true hcd));(repeat' (first|exact qA|exact qB|refine qC ?_ rfl ?_|refine qD ?_ ?_|exact qE (by rfl)|exact qE hq));done)
    |(simp only [Hold];exact⟨h110,rfl⟩)
    |(exfalso;simp_all;done)
    |skip
end Go.Proofs.Ytdacdjdccibaiaa

namespace Go.Proofs.Ytdacdjdccibaiaa
open Go Go.Eng Go.Proofs
set_option maxRecDepth 10000
theorem holds84 (l:List Int)(a b:Int)(h:1≤l.length∧l.length≤1000):FSpec Try.prog 18 [(.sl 1 (.sym fun _=>zi (l).length) (fun ix=>[.int .i64 (.sym fun _=>(l).getD ix.den.toNat 0)])),(.agg [(.int .i64 (.sym fun _=>a)),(.int .i64 (.sym fun _=>b))])] [] (fun r _=>r=(.bool (.sym fun _=>holdsB (l.getD 0 0) (l.getD (l.length-1) 0) a b))):=by
  have c50:=last50 l h
  refine FSpec.is fun R hR=>qW (sc:=sc18) tyok mix Try.func18 rfl Try.call18 (by kernel_rfl) (by kernel_rfl) ?_
  generalize Try.prog=P at c50⊢
  cbv
  repeat' (first
      |with_reducible refine hold ?_ ?_
      |with_reducible refine And.intro ?_ ?_
      | (with_reducible refine qS ?_ ?_ ?_
         try cbv)
      | (with_reducible refine qT ?_ ?_
         try cbv)
      |(with_reducible intro hcd;(try simp only [zA,zB,zC,zD,zE,zF,zG,zH,zI,zJ,zK,zL,zM,zN,zO,zP]at hcd);try cbv)
      | (refine qP ?_ (c50) ?hfit
         case hfit=>((repeat' (first|exact qB|refine qD ?_ ?_|exact qE (by rfl)|exact qF (by rfl)|exact Fit.refl _|exact qA|refine qC ?_ rfl ?_));done)
         try cbv)
      |fail)
  all_goals first
    |trivial
    |((try simp only [qV]at *);(try simp only [zQ,zA,zB,zC,zD,zE,zF,zG,zH,zI,zJ,zK,zL,zM,zN,zO,zP,zR,zS]at *);first|(refine qN ?_;omega)|(simp only [Hold];omega))
    |(subst hR;(refine qF ?_;simp only [bden_sym,bden_lit,holdsB];(try simp only [qV]at *);(try simp only [zQ,zA,zB,zC,zD,zE,zF,zG,zH,zI,zJ,zK,zL,zM,zN,zO,zP,zR,zS]at *);(try simp only [Int.toNat_zero]at *);(try rw [eq_comm]);first|(rw [Bool.eq_iff_iff];simp only [Bool.and_eq_true,decide_eq_true_eq];omega)|(rw [←Bool.not_eq_true];simp only [Bool.and_eq_true,decide_eq_true_eq];omega)|(simp only [Bool.and_eq_true,decide_eq_true_eq];omega));done)
    |skip
theorem fault58 (tw tm:List Int)(tv:List (List Int))(rate:Int)(cs:List Csk):FSpec Try.prog 5 [(.agg [(.sl 1 (.sym fun _=>zi (tw).length) (fun ix=>[.int .i64 (.sym fun _=>(tw).getD ix.den.toNat 0)])),(.sl 1 (.sym fun _=>zi (tm).length) (fun ix=>[.int .i64 (.sym fun _=>(tm).getD ix.den.toNat 0)])),(.sl 1 (.sym fun _=>zi (tv).length) (fun ix=>[(.sl 1 (.sym fun _=>zi ((tv).getD ix.den.toNat []).length) (fun jx=>[.int .i64 (.sym fun _=>((tv).getD ix.den.toNat []).getD jx.den.toNat 0)]))])),(.int .i64 (.sym fun _=>rate)),(.sl 5 (.sym fun _=>zi (cs).length) (fun ix=>[(.int .i64 (.sym fun _=>((cs).getD ix.den.toNat ck0).g)),(.int .i64 (.sym fun _=>((cs).getD ix.den.toNat ck0).wl)),(.int .i64 (.sym fun _=>((cs).getD ix.den.toNat ck0).wh)),(.int .i64 (.sym fun _=>((cs).getD ix.den.toNat ck0).ml)),(.int .i64 (.sym fun _=>((cs).getD ix.den.toNat ck0).mh))]))])] [] (fun r _=>r=(.int .i64 (.sym fun _=>faultS tw tm tv rate cs))):=by
  have c83:=fault83 tw tm tv
  have c31:= @in31
  have c84:= @holds84
  refine FSpec.is fun R hR=>qW (sc:=sc5) tyok mix Try.func5 rfl Try.call5 (by kernel_rfl) (by kernel_rfl) ?_
  generalize Try.prog=P at c83 c31 c84⊢
  cbv
  repeat' (first
      |with_reducible refine hold ?_ ?_
      |with_reducible refine And.intro ?_ ?_
      | (with_reducible refine qS ?_ ?_ ?_
         try cbv)
      | (with_reducible refine qT ?_ ?_
         try cbv)
      |(with_reducible intro hcd;(try simp only [zA,zB,zC,zD,zE,zF,zG,zH,zI,zJ,zK,zL,zM,zN,zO,zP]at hcd);try cbv)
      | (refine qP ?_ (c83) ?hfit
         case hfit=>((repeat' (first|exact qB|refine qD ?_ ?_|exact qE (by rfl)|exact qF (by rfl)|exact Fit.refl _|exact qA|refine qC ?_ rfl ?_));done)
         try cbv)
      | (refine qP ?_ (c31 _ _ _) (by(repeat' (first|exact qB|refine qD ?_ ?_|exact qE (by rfl)|exact qF (by rfl)|exact Fit.refl _|exact qA|refine qC ?_ rfl ?_)))
         try cbv)
      |fail)
  all_goals first
    |trivial
    |((try simp only [qV]at *);(try simp only [zQ,zA,zB,zC,zD,zE,zF,zG,zH,zI,zJ,zK,zL,zM,zN,zO,zP,zR,zS]at *);first|(refine qN ?_;omega)|(simp only [Hold];omega))
    |(subst hR;(refine qE ?_;(try simp only [qV]at *);simp only [zQ,zA,zB,zC,zD,zE,zF,zG,zH,zI,zJ,zK,zL,zM,zN,zO,zP,zR,zS]at *;rw [faultS];(repeat' split)<;>first|rfl|(exfalso;simp_all;done)|(exfalso;simp_all;omega)|(exfalso;omega)|omega);done)
    |(subst hR;(refine qE ?_;(try simp only [qV]at *);(try simp only [zQ,zA,zB,zC,zD,zE,zF,zG,zH,zI,zJ,zK,zL,zM,zN,zO,zP,zR,zS]at *);rw [faultS,if_neg (by omega),if_neg (by omega),if_pos];simp only [Bool.and_eq_false_iff]at hcd;rcases hcd with q|q<;>(have qz:=of_decide_eq_false q;omega));done)
    |skip
  have h0:faultT tw tm tv=0:=by((try simp only [qV]at *);(try simp only [zQ,zA,zB,zC,zD,zE,zF,zG,zH,zI,zJ,zK,zL,zM,zN,zO,zP,zR,zS]at *);omega)
  have h6:cs.length≤6:=by((try simp only [qV]at *);(try simp only [zQ,zA,zB,zC,zD,zE,zF,zG,zH,zI,zJ,zK,zL,zM,zN,zO,zP,zR,zS]at *);omega)
  have hrate:0≤rate∧rate≤200:=by simpa only [Bool.and_eq_true,decide_eq_true_eq]using hcd
  have hT:=faultT_zero h0
  have d1:=hT.w2;have d2:=hT.m2;have d3:=hT.w5;have d4:=hT.m5
  have cw:=fun a b=>c84 tw a b ⟨by omega,by omega⟩
  have cm:=fun a b=>c84 tm a b ⟨by omega,by omega⟩
  clear hcd
  refine⟨none,[],{i:Nat // i≤cs.length∧∀j,j<i→caskB tw tm (cs.getD j ck0)=true},fun x=>⟨[(1,.own 0 0),(4,(.int .i64 (.sym fun _=>zi x.1)))],[(0,.cells [(.sl 1 (.sym fun _=>zi (tw).length) (fun ix=>[.int .i64 (.sym fun _=>(tw).getD ix.den.toNat 0)])),(.sl 1 (.sym fun _=>zi (tm).length) (fun ix=>[.int .i64 (.sym fun _=>(tm).getD ix.den.toNat 0)])),(.sl 1 (.sym fun _=>zi (tv).length) (fun ix=>[(.sl 1 (.sym fun _=>zi ((tv).getD ix.den.toNat []).length) (fun jx=>[.int .i64 (.sym fun _=>((tv).getD ix.den.toNat []).getD jx.den.toNat 0)]))])),(.int .i64 (.sym fun _=>rate)),(.sl 5 (.sym fun _=>zi (cs).length) (fun ix=>[(.int .i64 (.sym fun _=>((cs).getD ix.den.toNat ck0).g)),(.int .i64 (.sym fun _=>((cs).getD ix.den.toNat ck0).wl)),(.int .i64 (.sym fun _=>((cs).getD ix.den.toNat ck0).wh)),(.int .i64 (.sym fun _=>((cs).getD ix.den.toNat ck0).ml)),(.int .i64 (.sym fun _=>((cs).getD ix.den.toNat ck0).mh))]))] 28)],30⟩,fun x=>cs.length-x.1,?_,?_⟩
  · refine⟨⟨0,by omega,fun j hj=>by omega⟩,?_⟩
    cbv
    repeat' (first
      |with_reducible refine hold ?_ ?_
      |with_reducible refine And.intro ?_ ?_)
    all_goals first
      |trivial
      |exact qM (qE (by rfl))
      |exact qM (qF (by rfl))
      |exact qM (Fit.refl _)
      |exact qL (qK _)
      |(refine qM (qE ?_);(try simp only [qV]at *);simp only [zQ,zA,zB,zC,zD,zE,zF,zG,zH,zI,zJ,zK,zL,zM,zN,zO,zP,zR,zS]at *;omega)
      |skip
  · rintro ⟨i,hi,hr⟩
    cbv
    repeat' (first
        |with_reducible refine hold ?_ ?_
        |with_reducible refine And.intro ?_ ?_
        | (with_reducible refine qS ?_ ?_ ?_
           try cbv)
        | (with_reducible refine qT ?_ ?_
           try cbv)
        |(with_reducible intro hcd;(try simp only [zA,zB,zC,zD,zE,zF,zG,zH,zI,zJ,zK,zL,zM,zN,zO,zP]at hcd);try cbv)
        | (refine qP ?_ (c31 _ _ _) (by(repeat' (first|exact qB|refine qD ?_ ?_|exact qE (by rfl)|exact qF (by rfl)|exact Fit.refl _|exact qA|refine qC ?_ rfl ?_)))
           try cbv)
        | (refine qP ?_ (cw (cs.getD i ck0).wl (cs.getD i ck0).wh) ?hfit
           case hfit=>((repeat' (first|exact qB|refine qD ?_ ?_|exact qE (by rfl)|exact qF (by rfl)|exact Fit.refl _|exact qA|refine qC ?_ rfl ?_));done)
           try cbv)
        | (refine qP ?_ (cm (cs.getD i ck0).ml (cs.getD i ck0).mh) ?hfit
           case hfit=>((repeat' (first|exact qB|refine qD ?_ ?_|exact qE (by rfl)|exact qF (by rfl)|exact Fit.refl _|exact qA|refine qC ?_ rfl ?_));done)
           try cbv)
        |fail)
    all_goals (try have hlt:i<cs.length:=(by(try simp only [qV]at *);(try simp only [zQ,zA,zB,zC,zD,zE,zF,zG,zH,zI,zJ,zK,zL,zM,zN,zO,zP,zR,zS]at *);omega))
    all_goals first
      |trivial
      |((try simp only [qV]at *);(try simp only [zQ,zA,zB,zC,zD,zE,zF,zG,zH,zI,zJ,zK,zL,zM,zN,zO,zP,zR,zS]at *);first|(refine qN ?_;omega)|(simp only [Hold];omega))
      |(subst hR;(refine qE ?_;(try simp only [qV]at *);(try simp only [zQ,zA,zB,zC,zD,zE,zF,zG,zH,zI,zJ,zK,zL,zM,zN,zO,zP,zR,zS]at *);rw [faultS,if_neg (by omega),if_neg (by omega),if_pos];right;right;rw [←Bool.not_eq_true];intro hall;have hci:=of_decide_eq_true hall i hlt;simp only [caskB,boxB,Bool.and_eq_true,decide_eq_true_eq]at hci;first|(rw [hci.2.1]at hcd;cases hcd;done)|(rw [hci.2.2]at hcd;cases hcd;done)|(simp only [Bool.and_eq_false_iff]at hcd;rcases hcd with q|q<;>(have qz:=of_decide_eq_false q;omega)));done)
      |(subst hR;(refine qE ?_;(try simp only [qV]at *);(try simp only [zQ,zA,zB,zC,zD,zE,zF,zG,zH,zI,zJ,zK,zL,zM,zN,zO,zP,zR,zS]at *);have hcs:casksB tw tm cs=true:=decide_eq_true fun j hj=>hr j (by omega);rw [faultS,if_neg (by omega),if_neg (by omega),if_neg];rintro(q|q|q)<;>first|omega|(rw [hcs]at q;cases q));done)
      |((try simp only [zQ,zA,zB,zC,zD,zE,zF,zG,zH,zI,zJ,zK,zL,zM,zN,zO,zP,zR,zS]at *);refine⟨⟨i+1,by omega,fun j hj=>(Nat.lt_or_ge j i).elim (hr j) (fun q=>by rw [show j=i by omega];simp only [caskB,boxB];simp_all)⟩,by simp only [];omega,?_⟩;cbv;(repeat' (first|with_reducible refine hold ?_ ?_|with_reducible refine And.intro ?_ ?_));(all_goals first|trivial|exact qM (qE (by rfl))|exact qM (qF (by rfl))|exact qM (Fit.refl _)|exact qL (qK _)|(refine qM (qE ?_);(try simp only [qV]at *);simp only [zQ,zA,zB,zC,zD,zE,zF,zG,zH,zI,zJ,zK,zL,zM,zN,zO,zP,zR,zS]at *;omega)|skip))
      |skip
end Go.Proofs.Ytdacdjdccibaiaa

namespace Go.Proofs.Ytdacdjdccibaiaa
def rowsThin (tv:List (List Int)):Bool:=decide (∀i,i<tv.length→(tv.getD i []).length≤8)
def thinT (tw tm:List Int)(tv:List (List Int)):Bool:=decide (tw.length≤8)&&decide (tm.length≤8)&&decide (tv.length≤8)&&rowsThin tv
def thinS (tw tm:List Int)(tv:List (List Int))(cs:List Csk):Bool:=thinT tw tm tv&&decide (cs.length≤9)
structure ThinT (tw tm:List Int)(tv:List (List Int)):Prop where
  w:tw.length≤8
  m:tm.length≤8
  v:tv.length≤8
  r:∀i,i<tv.length→(tv.getD i []).length≤8
theorem thinT_iff {tw tm:List Int} {tv:List (List Int)}:thinT tw tm tv=true↔ThinT tw tm tv:=by
  simp only [thinT,rowsThin,Bool.and_eq_true,decide_eq_true_eq]
  exact⟨fun h=>⟨h.1.1.1,h.1.1.2,h.1.2,h.2⟩,fun h=>⟨⟨⟨h.w,h.m⟩,h.v⟩,h.r⟩⟩
end Go.Proofs.Ytdacdjdccibaiaa

namespace Go.Proofs.Ytdacdjdccibaiaa
open Go Go.Eng Go.Proofs
set_option maxRecDepth 10000
theorem table61 (tw tm:List Int)(tv:List (List Int))(hT:ThinT tw tm tv):FSpec Try.prog 8 [(.agg [(.sl 1 (.sym fun _=>zi (tw).length) (fun ix=>[.int .i64 (.sym fun _=>(tw).getD ix.den.toNat 0)])),(.sl 1 (.sym fun _=>zi (tm).length) (fun ix=>[.int .i64 (.sym fun _=>(tm).getD ix.den.toNat 0)])),(.sl 1 (.sym fun _=>zi (tv).length) (fun ix=>[(.sl 1 (.sym fun _=>zi ((tv).getD ix.den.toNat []).length) (fun jx=>[.int .i64 (.sym fun _=>((tv).getD ix.den.toNat []).getD jx.den.toNat 0)]))]))])] [] (fun r _=>r=(.agg [(.sl 1 (.sym fun _=>zi (tw).length) (fun ix=>[.int .i64 (.sym fun _=>(tw).getD ix.den.toNat 0)])),(.sl 1 (.sym fun _=>zi (tm).length) (fun ix=>[.int .i64 (.sym fun _=>(tm).getD ix.den.toNat 0)])),(.sl 1 (.sym fun _=>zi (tv).length) (fun ix=>[(.sl 1 (.sym fun _=>zi ((tv).getD ix.den.toNat []).length) (fun jx=>[.int .i64 (.sym fun _=>((tv).getD ix.den.toNat []).getD jx.den.toNat 0)]))]))])):=by
  have c87w:=list87 tw (by have:=hT.w;omega)
  have c87m:=list87 tm (by have:=hT.m;omega)
  have c87r:=fun (i:Nat) (hi:i<tv.length)=>list87 (tv.getD i []) (by have:=hT.r i hi;omega)
  refine FSpec.is fun R hR=>qW (sc:=sc8) tyok mix Try.func8 rfl Try.call8 (by kernel_rfl) (by kernel_rfl) ?_
  generalize Try.prog=P at c87w c87m c87r⊢
  cbv
  repeat' (first
      |with_reducible refine hold ?_ ?_
      |with_reducible refine And.intro ?_ ?_
      | (with_reducible refine qS ?_ ?_ ?_
         try cbv)
      | (with_reducible refine qT ?_ ?_
         try cbv)
      |(with_reducible intro hcd;(try simp only [zA,zB,zC,zD,zE,zF,zG,zH,zI,zJ,zK,zL,zM,zN,zO,zP]at hcd);try cbv)
      | (refine qP ?_ (c87w) ?hfit
         case hfit=>((repeat' (first|exact qB|refine qD ?_ ?_|exact qE (by rfl)|exact qF (by rfl)|exact Fit.refl _|exact qA|refine qC ?_ rfl ?_));done)
         try cbv)
      | (refine qP ?_ (c87m) ?hfit
         case hfit=>((repeat' (first|exact qB|refine qD ?_ ?_|exact qE (by rfl)|exact qF (by rfl)|exact Fit.refl _|exact qA|refine qC ?_ rfl ?_));done)
         try cbv)
      |fail)
  all_goals first
    |trivial
    |((try simp only [qV]at *);(try simp only [zQ,zA,zB,zC,zD,zE,zF,zG,zH,zI,zJ,zK,zL,zM,zN,zO,zP,zR,zS]at *);first|(refine qN ?_;omega)|(simp only [Hold];omega))
    |skip
  refine⟨none,[⟨.cell 9 2,22,1⟩],{i:Nat // i≤tv.length},fun x=>⟨[(1,.own 0 0),(2,.own 1 0),(3,.own 9 0),(4,(.int .i64 (.sym fun _=>zi x.1)))],[(0,.cells [(.sl 1 (.sym fun _=>zi (tw).length) (fun ix=>[.int .i64 (.sym fun _=>(tw).getD ix.den.toNat 0)])),(.sl 1 (.sym fun _=>zi (tm).length) (fun ix=>[.int .i64 (.sym fun _=>(tm).getD ix.den.toNat 0)])),(.sl 1 (.sym fun _=>zi (tv).length) (fun ix=>[(.sl 1 (.sym fun _=>zi ((tv).getD ix.den.toNat []).length) (fun jx=>[.int .i64 (.sym fun _=>((tv).getD ix.den.toNat []).getD jx.den.toNat 0)]))]))] 25),(1,.cells [.val (.slice none 0 0),.val (.slice none 0 0),.val (.slice none 0 0)] 40),(9,.cells [(.sl 1 (.sym fun _=>zi (tw).length) (fun ix=>[.int .i64 (.sym fun _=>(tw).getD ix.den.toNat 0)])),(.sl 1 (.sym fun _=>zi (tm).length) (fun ix=>[.int .i64 (.sym fun _=>(tm).getD ix.den.toNat 0)])),.row 12] 40),(12,.row 22 1 (.sym fun _=>zi x.1) (fun ix=>[(.sl 1 (.sym fun _=>zi (tv.getD ix.den.toNat []).length) (fun jx=>[.int .i64 (.sym fun _=>(tv.getD ix.den.toNat []).getD jx.den.toNat 0)]))]))],60⟩,fun x=>tv.length-x.1,?_,?_⟩
  · refine⟨⟨0,by omega⟩,?_⟩
    cbv
    repeat' (first
      |with_reducible refine hold ?_ ?_
      |with_reducible refine And.intro ?_ ?_)
    all_goals first
      |trivial
      |exact qM (qE (by rfl))
      |exact qM (qF (by rfl))
      |exact qM (Fit.refl _)
      |exact qL (qK _)
      |(refine qM (qE ?_);(try simp only [qV]at *);simp only [zQ,zA,zB,zC,zD,zE,zF,zG,zH,zI,zJ,zK,zL,zM,zN,zO,zP,zR,zS]at *;omega)
      |(refine qL (ble_row ?_ ?_);(first|rfl|((try simp only [qV]at *);(try simp only [zQ,zA,zB,zC,zD,zE,zF,zG,zH,zI,zJ,zK,zL,zM,zN,zO,zP,zR,zS]at *);omega));intro ix h0 h1;first|exact Fit.refl _|(exfalso;(try simp only [qV]at *);(try simp only [zQ,zA,zB,zC,zD,zE,zF,zG,zH,zI,zJ,zK,zL,zM,zN,zO,zP,zR,zS]at *);omega))
      |skip
  · rintro ⟨i,hi⟩
    cbv
    have tv8:=hT.v
    repeat' (first
        |with_reducible refine hold ?_ ?_
        |with_reducible refine And.intro ?_ ?_
        | (with_reducible refine qS ?_ ?_ ?_
           try cbv)
        | (with_reducible refine qT ?_ ?_
           try cbv)
        |(with_reducible intro hcd;(try simp only [zA,zB,zC,zD,zE,zF,zG,zH,zI,zJ,zK,zL,zM,zN,zO,zP]at hcd);try cbv)
        | (refine qP ?_ (c87r i (show Hold _ from ?_)) ?hfit
           case hfit=>((repeat' (first|exact qB|refine qD ?_ ?_|exact qE (by rfl)|exact qF (by rfl)|exact Fit.refl _|exact qA|refine qC ?_ rfl ?_));done)
           try cbv)
        | (refine⟨fun ix=>[(.sl 1 (.sym fun _=>zi (tv.getD ix.den.toNat []).length) (fun jx=>[.int .i64 (.sym fun _=>(tv.getD ix.den.toNat []).getD jx.den.toNat 0)]))],?_⟩
           cbv
           refine hold (hold_rowapp (by intro ix jx h0 h1 h2;simp only [h2];exact Fit.refl _) (by intro ix jx h0 h1 h2;(have h3:jx.den.toNat=i:=by((try simp only [qV]at *);(try simp only [zQ,zA,zB,zC,zD,zE,zF,zG,zH,zI,zJ,zK,zL,zM,zN,zO,zP,zR,zS]at *);omega));simp only [h3];(first|exact Fit.refl _|(repeat' (first|exact qA|exact Fit.refl _|exact qE (by rfl)|refine qC ?_ rfl ?_)))) (by(try simp only [qV]at *);(try simp only [zQ,zA,zB,zC,zD,zE,zF,zG,zH,zI,zJ,zK,zL,zM,zN,zO,zP,zR,zS]at *);omega)) (Or.inl ?_)
           try cbv)
        |fail)
    all_goals first
      |trivial
      |((try simp only [qV]at *);(try simp only [zQ,zA,zB,zC,zD,zE,zF,zG,zH,zI,zJ,zK,zL,zM,zN,zO,zP,zR,zS]at *);first|(refine qN ?_;omega)|(simp only [Hold];omega))
      |(subst hR;(have hie:i=tv.length:=by((try simp only [qV]at *);(try simp only [zQ,zA,zB,zC,zD,zE,zF,zG,zH,zI,zJ,zK,zL,zM,zN,zO,zP,zR,zS]at *);omega));subst hie;(repeat' (first|exact qA|exact Fit.refl _|exact qE (by rfl)|refine qC ?_ rfl ?_));done;done)
      |((try simp only [zQ,zA,zB,zC,zD,zE,zF,zG,zH,zI,zJ,zK,zL,zM,zN,zO,zP,zR,zS]at *);refine⟨⟨i+1,by omega⟩,by simp only [];omega,?_⟩;cbv;(repeat' (first|with_reducible refine hold ?_ ?_|with_reducible refine And.intro ?_ ?_));(all_goals first|trivial|exact qM (qE (by rfl))|exact qM (qF (by rfl))|exact qM (Fit.refl _)|exact qL (qK _)|(refine qM (qE ?_);(try simp only [qV]at *);simp only [zQ,zA,zB,zC,zD,zE,zF,zG,zH,zI,zJ,zK,zL,zM,zN,zO,zP,zR,zS]at *;omega)|(refine qL (ble_row ?_ ?_);(first|rfl|((try simp only [qV]at *);(try simp only [zQ,zA,zB,zC,zD,zE,zF,zG,zH,zI,zJ,zK,zL,zM,zN,zO,zP,zR,zS]at *);omega));intro ix h0 h1;first|exact Fit.refl _|(exfalso;(try simp only [qV]at *);(try simp only [zQ,zA,zB,zC,zD,zE,zF,zG,zH,zI,zJ,zK,zL,zM,zN,zO,zP,zR,zS]at *);omega))|skip))
      |skip
theorem store23 (tw tm:List Int)(tv:List (List Int))(rate:Int)(cs:List Csk)(hT:ThinT tw tm tv)(hc:cs.length≤9):FSpec Try.prog 11 [(.agg [(.sl 1 (.sym fun _=>zi (tw).length) (fun ix=>[.int .i64 (.sym fun _=>(tw).getD ix.den.toNat 0)])),(.sl 1 (.sym fun _=>zi (tm).length) (fun ix=>[.int .i64 (.sym fun _=>(tm).getD ix.den.toNat 0)])),(.sl 1 (.sym fun _=>zi (tv).length) (fun ix=>[(.sl 1 (.sym fun _=>zi ((tv).getD ix.den.toNat []).length) (fun jx=>[.int .i64 (.sym fun _=>((tv).getD ix.den.toNat []).getD jx.den.toNat 0)]))])),(.int .i64 (.sym fun _=>rate)),(.sl 5 (.sym fun _=>zi (cs).length) (fun ix=>[(.int .i64 (.sym fun _=>((cs).getD ix.den.toNat ck0).g)),(.int .i64 (.sym fun _=>((cs).getD ix.den.toNat ck0).wl)),(.int .i64 (.sym fun _=>((cs).getD ix.den.toNat ck0).wh)),(.int .i64 (.sym fun _=>((cs).getD ix.den.toNat ck0).ml)),(.int .i64 (.sym fun _=>((cs).getD ix.den.toNat ck0).mh))]))])] [] (fun r _=>r=(.agg [(.sl 1 (.sym fun _=>zi (tw).length) (fun ix=>[.int .i64 (.sym fun _=>(tw).getD ix.den.toNat 0)])),(.sl 1 (.sym fun _=>zi (tm).length) (fun ix=>[.int .i64 (.sym fun _=>(tm).getD ix.den.toNat 0)])),(.sl 1 (.sym fun _=>zi (tv).length) (fun ix=>[(.sl 1 (.sym fun _=>zi ((tv).getD ix.den.toNat []).length) (fun jx=>[.int .i64 (.sym fun _=>((tv).getD ix.den.toNat []).getD jx.den.toNat 0)]))])),(.int .i64 (.sym fun _=>rate)),(.sl 5 (.sym fun _=>zi (cs).length) (fun ix=>[(.int .i64 (.sym fun _=>((cs).getD ix.den.toNat ck0).g)),(.int .i64 (.sym fun _=>((cs).getD ix.den.toNat ck0).wl)),(.int .i64 (.sym fun _=>((cs).getD ix.den.toNat ck0).wh)),(.int .i64 (.sym fun _=>((cs).getD ix.den.toNat ck0).ml)),(.int .i64 (.sym fun _=>((cs).getD ix.den.toNat ck0).mh))]))])):=by
  have c61:=table61 tw tm tv hT
  have c25:= @to25
  refine FSpec.is fun R hR=>qW (sc:=sc11) tyok mix Try.func11 rfl Try.call11 (by kernel_rfl) (by kernel_rfl) ?_
  generalize Try.prog=P at c61 c25⊢
  cbv
  repeat' (first
      |with_reducible refine hold ?_ ?_
      |with_reducible refine And.intro ?_ ?_
      | (with_reducible refine qS ?_ ?_ ?_
         try cbv)
      | (with_reducible refine qT ?_ ?_
         try cbv)
      |(with_reducible intro hcd;(try simp only [zA,zB,zC,zD,zE,zF,zG,zH,zI,zJ,zK,zL,zM,zN,zO,zP]at hcd);try cbv)
      | (refine qP ?_ (c61) ?hfit
         case hfit=>((repeat' (first|exact qB|refine qD ?_ ?_|exact qE (by rfl)|exact qF (by rfl)|exact Fit.refl _|exact qA|refine qC ?_ rfl ?_));done)
         try cbv)
      |fail)
  all_goals first
    |trivial
    |((try simp only [qV]at *);(try simp only [zQ,zA,zB,zC,zD,zE,zF,zG,zH,zI,zJ,zK,zL,zM,zN,zO,zP,zR,zS]at *);first|(refine qN ?_;omega)|(simp only [Hold];omega))
    |skip
  refine⟨none,[⟨.cell 8 4,64,5⟩],{i:Nat // i≤cs.length},fun x=>⟨[(1,.own 0 0),(2,.own 1 0),(3,.own 8 0),(4,(.int .i64 (.sym fun _=>zi x.1)))],[(0,.cells [(.sl 1 (.sym fun _=>zi (tw).length) (fun ix=>[.int .i64 (.sym fun _=>(tw).getD ix.den.toNat 0)])),(.sl 1 (.sym fun _=>zi (tm).length) (fun ix=>[.int .i64 (.sym fun _=>(tm).getD ix.den.toNat 0)])),(.sl 1 (.sym fun _=>zi (tv).length) (fun ix=>[(.sl 1 (.sym fun _=>zi ((tv).getD ix.den.toNat []).length) (fun jx=>[.int .i64 (.sym fun _=>((tv).getD ix.den.toNat []).getD jx.den.toNat 0)]))])),(.int .i64 (.sym fun _=>rate)),(.sl 5 (.sym fun _=>zi (cs).length) (fun ix=>[(.int .i64 (.sym fun _=>((cs).getD ix.den.toNat ck0).g)),(.int .i64 (.sym fun _=>((cs).getD ix.den.toNat ck0).wl)),(.int .i64 (.sym fun _=>((cs).getD ix.den.toNat ck0).wh)),(.int .i64 (.sym fun _=>((cs).getD ix.den.toNat ck0).ml)),(.int .i64 (.sym fun _=>((cs).getD ix.den.toNat ck0).mh))]))] 28),(1,.cells [.val (.slice none 0 0),.val (.slice none 0 0),.val (.slice none 0 0),.int .i64 (.lit 0),.val (.slice none 0 0)] 48),(8,.cells [(.sl 1 (.sym fun _=>zi (tw).length) (fun ix=>[.int .i64 (.sym fun _=>(tw).getD ix.den.toNat 0)])),(.sl 1 (.sym fun _=>zi (tm).length) (fun ix=>[.int .i64 (.sym fun _=>(tm).getD ix.den.toNat 0)])),(.sl 1 (.sym fun _=>zi (tv).length) (fun ix=>[(.sl 1 (.sym fun _=>zi ((tv).getD ix.den.toNat []).length) (fun jx=>[.int .i64 (.sym fun _=>((tv).getD ix.den.toNat []).getD jx.den.toNat 0)]))])),(.int .i64 (.sym fun _=>rate)),.row 11] 48),(11,.row 64 5 (.sym fun _=>zi x.1) (fun ix=>[(.int .i64 (.sym fun _=>(cs.getD ix.den.toNat ck0).g)),(.int .i64 (.sym fun _=>(cs.getD ix.den.toNat ck0).wl)),(.int .i64 (.sym fun _=>(cs.getD ix.den.toNat ck0).wh)),(.int .i64 (.sym fun _=>(cs.getD ix.den.toNat ck0).ml)),(.int .i64 (.sym fun _=>(cs.getD ix.den.toNat ck0).mh))]))],60⟩,fun x=>cs.length-x.1,?_,?_⟩
  · refine⟨⟨0,by omega⟩,?_⟩
    cbv
    repeat' (first
      |with_reducible refine hold ?_ ?_
      |with_reducible refine And.intro ?_ ?_)
    all_goals first
      |trivial
      |exact qM (qE (by rfl))
      |exact qM (qF (by rfl))
      |exact qM (Fit.refl _)
      |exact qL (qK _)
      |(refine qM (qE ?_);(try simp only [qV]at *);simp only [zQ,zA,zB,zC,zD,zE,zF,zG,zH,zI,zJ,zK,zL,zM,zN,zO,zP,zR,zS]at *;omega)
      |(refine qL (ble_row ?_ ?_);(first|rfl|((try simp only [qV]at *);(try simp only [zQ,zA,zB,zC,zD,zE,zF,zG,zH,zI,zJ,zK,zL,zM,zN,zO,zP,zR,zS]at *);omega));intro ix h0 h1;first|exact Fit.refl _|(exfalso;(try simp only [qV]at *);(try simp only [zQ,zA,zB,zC,zD,zE,zF,zG,zH,zI,zJ,zK,zL,zM,zN,zO,zP,zR,zS]at *);omega))
      |skip
  · rintro ⟨i,hi⟩
    cbv
    repeat' (first
        |with_reducible refine hold ?_ ?_
        |with_reducible refine And.intro ?_ ?_
        | (with_reducible refine qS ?_ ?_ ?_
           try cbv)
        | (with_reducible refine qT ?_ ?_
           try cbv)
        |(with_reducible intro hcd;(try simp only [zA,zB,zC,zD,zE,zF,zG,zH,zI,zJ,zK,zL,zM,zN,zO,zP]at hcd);try cbv)
        | (refine qP ?_ (c25 (cs.getD i ck0).wl (cs.getD i ck0).wh) ?hfit
           case hfit=>((repeat' (first|exact qB|refine qD ?_ ?_|exact qE (by rfl)|exact qF (by rfl)|exact Fit.refl _|exact qA|refine qC ?_ rfl ?_));done)
           try cbv)
        | (refine qP ?_ (c25 (cs.getD i ck0).ml (cs.getD i ck0).mh) ?hfit
           case hfit=>((repeat' (first|exact qB|refine qD ?_ ?_|exact qE (by rfl)|exact qF (by rfl)|exact Fit.refl _|exact qA|refine qC ?_ rfl ?_));done)
           try cbv)
        | (refine⟨fun ix=>[(.int .i64 (.sym fun _=>(cs.getD ix.den.toNat ck0).g)),(.int .i64 (.sym fun _=>(cs.getD ix.den.toNat ck0).wl)),(.int .i64 (.sym fun _=>(cs.getD ix.den.toNat ck0).wh)),(.int .i64 (.sym fun _=>(cs.getD ix.den.toNat ck0).ml)),(.int .i64 (.sym fun _=>(cs.getD ix.den.toNat ck0).mh))],?_⟩
           cbv
           refine hold (hold_rowapp (by intro ix jx h0 h1 h2;simp only [h2];exact Fit.refl _) (by intro ix jx h0 h1 h2;(have h3:jx.den.toNat=i:=by((try simp only [qV]at *);(try simp only [zQ,zA,zB,zC,zD,zE,zF,zG,zH,zI,zJ,zK,zL,zM,zN,zO,zP,zR,zS]at *);omega));simp only [h3];(first|exact Fit.refl _|(repeat' (first|exact qA|exact Fit.refl _|exact qE (by rfl)|refine qC ?_ rfl ?_)))) (by(try simp only [qV]at *);(try simp only [zQ,zA,zB,zC,zD,zE,zF,zG,zH,zI,zJ,zK,zL,zM,zN,zO,zP,zR,zS]at *);omega)) (Or.inl ?_)
           try cbv)
        |fail)
    all_goals first
      |trivial
      |((try simp only [qV]at *);(try simp only [zQ,zA,zB,zC,zD,zE,zF,zG,zH,zI,zJ,zK,zL,zM,zN,zO,zP,zR,zS]at *);first|(refine qN ?_;omega)|(simp only [Hold];omega))
      |(subst hR;(have hie:i=cs.length:=by((try simp only [qV]at *);(try simp only [zQ,zA,zB,zC,zD,zE,zF,zG,zH,zI,zJ,zK,zL,zM,zN,zO,zP,zR,zS]at *);omega));subst hie;(repeat' (first|exact qA|exact Fit.refl _|exact qE (by rfl)|refine qC ?_ rfl ?_));done;done)
      |((try simp only [zQ,zA,zB,zC,zD,zE,zF,zG,zH,zI,zJ,zK,zL,zM,zN,zO,zP,zR,zS]at *);refine⟨⟨i+1,by omega⟩,by simp only [];omega,?_⟩;cbv;(repeat' (first|with_reducible refine hold ?_ ?_|with_reducible refine And.intro ?_ ?_));(all_goals first|trivial|exact qM (qE (by rfl))|exact qM (qF (by rfl))|exact qM (Fit.refl _)|exact qL (qK _)|(refine qM (qE ?_);(try simp only [qV]at *);simp only [zQ,zA,zB,zC,zD,zE,zF,zG,zH,zI,zJ,zK,zL,zM,zN,zO,zP,zR,zS]at *;omega)|(refine qL (ble_row ?_ ?_);(first|rfl|((try simp only [qV]at *);(try simp only [zQ,zA,zB,zC,zD,zE,zF,zG,zH,zI,zJ,zK,zL,zM,zN,zO,zP,zR,zS]at *);omega));intro ix h0 h1;first|exact Fit.refl _|(exfalso;(try simp only [qV]at *);(try simp only [zQ,zA,zB,zC,zD,zE,zF,zG,zH,zI,zJ,zK,zL,zM,zN,zO,zP,zR,zS]at *);omega))|skip))
      |skip
end Go.Proofs.Ytdacdjdccibaiaa

namespace Go.Proofs.Ytdacdjdccibaiaa
open Go Go.Eng Go.Proofs
set_option maxRecDepth 10000
theorem thin57 (tw tm:List Int)(tv:List (List Int)):FSpec Try.prog 15 [(.agg [(.sl 1 (.sym fun _=>zi (tw).length) (fun ix=>[.int .i64 (.sym fun _=>(tw).getD ix.den.toNat 0)])),(.sl 1 (.sym fun _=>zi (tm).length) (fun ix=>[.int .i64 (.sym fun _=>(tm).getD ix.den.toNat 0)])),(.sl 1 (.sym fun _=>zi (tv).length) (fun ix=>[(.sl 1 (.sym fun _=>zi ((tv).getD ix.den.toNat []).length) (fun jx=>[.int .i64 (.sym fun _=>((tv).getD ix.den.toNat []).getD jx.den.toNat 0)]))]))])] [] (fun r _=>r=(.bool (.sym fun _=>thinT tw tm tv))):=by
  refine FSpec.is fun R hR=>qW (sc:=sc15) tyok mix Try.func15 rfl Try.call15 (by kernel_rfl) (by kernel_rfl) ?_
  generalize Try.prog=P
  cbv
  repeat' (first
      |with_reducible refine hold ?_ ?_
      |with_reducible refine And.intro ?_ ?_
      | (with_reducible refine qS ?_ ?_ ?_
         try cbv)
      | (with_reducible refine qT ?_ ?_
         try cbv)
      |(with_reducible intro hcd;(try simp only [zA,zB,zC,zD,zE,zF,zG,zH,zI,zJ,zK,zL,zM,zN,zO,zP]at hcd);try cbv)
      |fail)
  all_goals first
    |trivial
    |((try simp only [qV]at *);(try simp only [zQ,zA,zB,zC,zD,zE,zF,zG,zH,zI,zJ,zK,zL,zM,zN,zO,zP,zR,zS]at *);first|(refine qN ?_;omega)|(simp only [Hold];omega))
    |(subst hR;(refine qF ?_;simp only [bden_sym,bden_lit];symm;rw [←Bool.not_eq_true];intro hth0;have hth:=thinT_iff.1 hth0;have q1:=hth.w;have q2:=hth.m;have q3:=hth.v;(try simp only [qV]at *);(try simp only [zQ,zA,zB,zC,zD,zE,zF,zG,zH,zI,zJ,zK,zL,zM,zN,zO,zP,zR,zS]at *);omega);done)
    |skip
  have hl:tw.length≤8∧tm.length≤8∧tv.length≤8:=by((try simp only [qV]at *);(try simp only [zQ,zA,zB,zC,zD,zE,zF,zG,zH,zI,zJ,zK,zL,zM,zN,zO,zP,zR,zS]at *);omega)
  refine⟨none,[],{i:Nat // i≤tv.length∧∀j,j<i→(tv.getD j []).length≤8},fun x=>⟨[(1,.own 0 0),(3,(.int .i64 (.sym fun _=>zi x.1)))],[(0,.cells [(.sl 1 (.sym fun _=>zi (tw).length) (fun ix=>[.int .i64 (.sym fun _=>(tw).getD ix.den.toNat 0)])),(.sl 1 (.sym fun _=>zi (tm).length) (fun ix=>[.int .i64 (.sym fun _=>(tm).getD ix.den.toNat 0)])),(.sl 1 (.sym fun _=>zi (tv).length) (fun ix=>[(.sl 1 (.sym fun _=>zi ((tv).getD ix.den.toNat []).length) (fun jx=>[.int .i64 (.sym fun _=>((tv).getD ix.den.toNat []).getD jx.den.toNat 0)]))]))] 25)],30⟩,fun x=>tv.length-x.1,?_,?_⟩
  · refine⟨⟨0,by omega,fun j hj=>by omega⟩,?_⟩
    cbv
    repeat' (first
      |with_reducible refine hold ?_ ?_
      |with_reducible refine And.intro ?_ ?_)
    all_goals first
      |trivial
      |exact qM (qE (by rfl))
      |exact qM (qF (by rfl))
      |exact qM (Fit.refl _)
      |exact qL (qK _)
      |(refine qM (qE ?_);(try simp only [qV]at *);simp only [zQ,zA,zB,zC,zD,zE,zF,zG,zH,zI,zJ,zK,zL,zM,zN,zO,zP,zR,zS]at *;omega)
      |skip
  · rintro ⟨i,hi,hr⟩
    cbv
    repeat' (first
        |with_reducible refine hold ?_ ?_
        |with_reducible refine And.intro ?_ ?_
        | (with_reducible refine qS ?_ ?_ ?_
           try cbv)
        | (with_reducible refine qT ?_ ?_
           try cbv)
        |(with_reducible intro hcd;(try simp only [zA,zB,zC,zD,zE,zF,zG,zH,zI,zJ,zK,zL,zM,zN,zO,zP]at hcd);try cbv)
        |fail)
    all_goals (try have hlt:i<tv.length:=(by(try simp only [qV]at *);(try simp only [zQ,zA,zB,zC,zD,zE,zF,zG,zH,zI,zJ,zK,zL,zM,zN,zO,zP,zR,zS]at *);omega))
    all_goals first
      |trivial
      |((try simp only [qV]at *);(try simp only [zQ,zA,zB,zC,zD,zE,zF,zG,zH,zI,zJ,zK,zL,zM,zN,zO,zP,zR,zS]at *);first|(refine qN ?_;omega)|(simp only [Hold];omega))
      |(subst hR;(refine qF ?_;simp only [bden_sym,bden_lit];symm;rw [←Bool.not_eq_true];intro hth0;have hth:=(thinT_iff.1 hth0).r i hlt;(try simp only [qV]at *);(try simp only [zQ,zA,zB,zC,zD,zE,zF,zG,zH,zI,zJ,zK,zL,zM,zN,zO,zP,zR,zS]at *);omega);done)
      |(subst hR;(refine qF ?_;simp only [bden_sym,bden_lit];symm;exact thinT_iff.2 ⟨hl.1,hl.2.1,hl.2.2,fun j hj=>hr j (by(try simp only [qV]at *);(try simp only [zQ,zA,zB,zC,zD,zE,zF,zG,zH,zI,zJ,zK,zL,zM,zN,zO,zP,zR,zS]at *);omega)⟩);done)
      |((try simp only [zQ,zA,zB,zC,zD,zE,zF,zG,zH,zI,zJ,zK,zL,zM,zN,zO,zP,zR,zS]at *);refine⟨⟨i+1,by omega,fun j hj=>(Nat.lt_or_ge j i).elim (hr j) (fun q=>by rw [show j=i by omega];(try simp only [qV]at *);(try simp only [zQ,zA,zB,zC,zD,zE,zF,zG,zH,zI,zJ,zK,zL,zM,zN,zO,zP,zR,zS]at *);omega)⟩,by simp only [];omega,?_⟩;cbv;(repeat' (first|with_reducible refine hold ?_ ?_|with_reducible refine And.intro ?_ ?_));(all_goals first|trivial|exact qM (qE (by rfl))|exact qM (qF (by rfl))|exact qM (Fit.refl _)|exact qL (qK _)|(refine qM (qE ?_);(try simp only [qV]at *);simp only [zQ,zA,zB,zC,zD,zE,zF,zG,zH,zI,zJ,zK,zL,zM,zN,zO,zP,zR,zS]at *;omega)|skip))
      |skip
theorem thin18 (tw tm:List Int)(tv:List (List Int))(rate:Int)(cs:List Csk):FSpec Try.prog 4 [(.agg [(.sl 1 (.sym fun _=>zi (tw).length) (fun ix=>[.int .i64 (.sym fun _=>(tw).getD ix.den.toNat 0)])),(.sl 1 (.sym fun _=>zi (tm).length) (fun ix=>[.int .i64 (.sym fun _=>(tm).getD ix.den.toNat 0)])),(.sl 1 (.sym fun _=>zi (tv).length) (fun ix=>[(.sl 1 (.sym fun _=>zi ((tv).getD ix.den.toNat []).length) (fun jx=>[.int .i64 (.sym fun _=>((tv).getD ix.den.toNat []).getD jx.den.toNat 0)]))])),(.int .i64 (.sym fun _=>rate)),(.sl 5 (.sym fun _=>zi (cs).length) (fun ix=>[(.int .i64 (.sym fun _=>((cs).getD ix.den.toNat ck0).g)),(.int .i64 (.sym fun _=>((cs).getD ix.den.toNat ck0).wl)),(.int .i64 (.sym fun _=>((cs).getD ix.den.toNat ck0).wh)),(.int .i64 (.sym fun _=>((cs).getD ix.den.toNat ck0).ml)),(.int .i64 (.sym fun _=>((cs).getD ix.den.toNat ck0).mh))]))])] [] (fun r _=>r=(.bool (.sym fun _=>thinS tw tm tv cs))):=by
  have c57:=thin57 tw tm tv
  refine FSpec.is fun R hR=>qW (sc:=sc4) tyok mix Try.func4 rfl Try.call4 (by kernel_rfl) (by kernel_rfl) ?_
  generalize Try.prog=P at c57⊢
  cbv
  repeat' (first
      |with_reducible refine hold ?_ ?_
      |with_reducible refine And.intro ?_ ?_
      | (with_reducible refine qS ?_ ?_ ?_
         try cbv)
      | (with_reducible refine qT ?_ ?_
         try cbv)
      |(with_reducible intro hcd;(try simp only [zA,zB,zC,zD,zE,zF,zG,zH,zI,zJ,zK,zL,zM,zN,zO,zP]at hcd);try cbv)
      | (refine qP ?_ (c57) ?hfit
         case hfit=>((repeat' (first|exact qB|refine qD ?_ ?_|exact qE (by rfl)|exact qF (by rfl)|exact Fit.refl _|exact qA|refine qC ?_ rfl ?_));done)
         try cbv)
      |fail)
  all_goals first
    |trivial
    |((try simp only [qV]at *);(try simp only [zQ,zA,zB,zC,zD,zE,zF,zG,zH,zI,zJ,zK,zL,zM,zN,zO,zP,zR,zS]at *);first|(refine qN ?_;omega)|(simp only [Hold];omega))
    |(subst hR;(refine qF ?_;simp only [bden_sym,bden_lit,thinS];(try simp only [qV]at *);(try simp only [zQ,zA,zB,zC,zD,zE,zF,zG,zH,zI,zJ,zK,zL,zM,zN,zO,zP,zR,zS]at *);first|(rw [hcd,Bool.true_and];exact decide_eq_decide.2 (by omega))|(rw [hcd];rfl));done)
    |skip
end Go.Proofs.Ytdacdjdccibaiaa

namespace Go.Proofs.Ytdacdjdccibaiaa
def Seen (wl ml mh:Int)(i j:Nat)(w m:Int):Prop:=ml≤m∧m≤mh∧((wl≤w∧w<wl+i)∨(w=wl+i∧m<ml+j))
structure Scan (f:Int→Int→Int)(wl ml mh:Int)(i j:Nat)(lo hi:Int):Prop where
  le:∀w m,Seen wl ml mh i j w m→lo≤f w m∧f w m≤hi
  hit:(lo=9999∧hi = -1∧∀w m,¬Seen wl ml mh i j w m)∨((∃w m,Seen wl ml mh i j w m∧lo=f w m)∧∃w m,Seen wl ml mh i j w m∧hi=f w m)
theorem Scan.congr {f:Int→Int→Int} {wl ml mh:Int} {i j i' j':Nat} {lo hi:Int}(h:Scan f wl ml mh i j lo hi)(hs:∀w m,Seen wl ml mh i j w m↔Seen wl ml mh i' j' w m):Scan f wl ml mh i' j' lo hi:=
  ⟨fun w m s=>h.le w m ((hs w m).2 s),h.hit.imp (fun q=>⟨q.1,q.2.1,fun w m s=>q.2.2 w m ((hs w m).2 s)⟩) fun q=>⟨let ⟨w,m,s,e⟩:=q.1;⟨w,m,(hs w m).1 s,e⟩,let ⟨w,m,s,e⟩:=q.2;⟨w,m,(hs w m).1 s,e⟩⟩⟩
end Go.Proofs.Ytdacdjdccibaiaa

namespace Go.Proofs.Ytdacdjdccibaiaa
def stepOk (n:Nat)(l:List Int)(i:Nat):Prop:=(0≤l.getD i 0∧l.getD i 0≤(n:Int)-1)∧(0<i→l.getD (i-1) 0<l.getD i 0)
instance (n:Nat) (l:List Int) (i:Nat):Decidable (stepOk n l i):=by unfold stepOk;infer_instance
end Go.Proofs.Ytdacdjdccibaiaa

namespace Go.Proofs.Ytdacdjdccibaiaa
open Go Go.Eng Go.Proofs
def hasT (g a:Int)(n:Nat)(d:Int):Bool:=(List.range n).any fun j=>decide (d=tenthsP g (a+(j:Int)))
def canB (cs:List Csk)(lo hi:Nat→Int)(n:Nat)(ks:List Int):Bool:=decide (0≤ks.getD 0 0∧ks.getD 0 0<(n:Int))&&hasT (cs.getD (ks.getD 0 0).toNat ck0).g (lo (ks.getD 0 0).toNat) (hi (ks.getD 0 0).toNat-lo (ks.getD 0 0).toNat+1).toNat (ks.getD 1 0)
def canJ (cs:List Csk)(lo hi:Nat→Int)(n j:Nat)(ks:List Int):Bool:=canB cs lo hi n ks||(decide (ks.getD 0 0=(n:Int))&&hasT (cs.getD n ck0).g (lo n) j (ks.getD 1 0))
def canF (p:List Int→Bool)(ks:List Int):Option SV:=if p ks=true then some (.bool (.lit true))else none
theorem hasT_succ {g a d:Int} {n:Nat}:hasT g a (n+1) d=(hasT g a n d||decide (d=tenthsP g (a+(n:Int)))):=by
  simp [hasT,List.range_succ,List.any_append]
theorem canB_zero {cs:List Csk} {lo hi:Nat→Int}:canB cs lo hi 0=fun _=>false:=by
  funext ks
  simp only [canB,Bool.and_eq_false_iff,decide_eq_false_iff_not]
  left;omega
theorem canJ_zero {cs:List Csk} {lo hi:Nat→Int} {n:Nat}:canJ cs lo hi n 0=canB cs lo hi n:=by
  funext ks
  simp [canJ,hasT]
theorem canJ_all {cs:List Csk} {lo hi:Nat→Int} {n j:Nat}(hj:(j:Int)=hi n-lo n+1):canJ cs lo hi n j=canB cs lo hi (n+1):=by
  funext ks
  unfold canJ canB
  rw [show ∀x y:Bool,(x=y)=(x=true↔y=true)from fun x y=>by cases x<;>cases y<;>simp]
  simp only [Bool.or_eq_true,Bool.and_eq_true,decide_eq_true_eq]
  have hjn:(hi n-lo n+1).toNat=j:=by omega
  constructor
  · rintro(⟨h1,h2⟩|⟨h1,h2⟩)
    · exact⟨by omega,h2⟩
    · rw [h1,show((n:Int)).toNat=n from rfl,hjn];exact⟨by omega,h2⟩
  · rintro⟨h1,h2⟩
    by_cases q:ks.getD 0 0=(n:Int)
    · rw [q,show((n:Int)).toNat=n from rfl,hjn]at h2
      exact .inr ⟨q,h2⟩
    · exact .inl ⟨by omega,h2⟩
theorem le_true :Le (.bool (.lit true)) (.bool (.lit true)):=fun _ _ _ h=>h
theorem canF_upd {cs:List Csk} {lo hi:Nat→Int} {n j:Nat} {x d:Int} {f f':List Int→Option SV}(hf:f=canF (canJ cs lo hi n j))(hf':f'=canF (canJ cs lo hi n (j+1)))(hx:x=(n:Int))(hd:d=tenthsP (cs.getD n ck0).g (lo n+(j:Int))):MapUpd 2 f [x,d] (.bool (.lit true)) f':=by
  subst hf hf' hx hd
  intro ks hk
  match ks,hk with
  | [a, b],_=>
    refine⟨fun hq=> ?_,fun hq=> ?_⟩
    · simp only [List.cons.injEq,and_true]at hq
      obtain⟨rfl,rfl⟩:=hq
      have:canJ cs lo hi n (j+1) [(n:Int),tenthsP (cs.getD n ck0).g (lo n+(j:Int))]=true:=by
        simp [canJ,hasT_succ]
      simp only [canF,this,if_true]
      exact le_true
    · have:canJ cs lo hi n (j+1) [a,b]=canJ cs lo hi n j [a,b]:=by
        simp only [canJ,hasT_succ,List.getD_cons_zero,List.getD_cons_succ]
        by_cases h1:a=(n:Int)
        · have h2:b≠tenthsP (cs.getD n ck0).g (lo n+(j:Int)):=fun h2=>hq (by rw [h1,h2])
          rw [decide_eq_false h2,Bool.or_false]
        · rw [decide_eq_false h1];simp
      simp only [canF,this]
      cases canJ cs lo hi n j [a,b]with
      |true=>exact le_true
      |false=>trivial
theorem canF_zero {cs:List Csk} {lo hi:Nat→Int}:(fun _=>none)=canF (canB cs lo hi 0):=by
  funext ks
  rw [canB_zero];rfl
def decB (n:Nat)(D:List (Int×Int)):Bool:=decide (∀i,i<D.length→(decide (0≤(D.getD i (0,0)).1)&&decide ((D.getD i (0,0)).1≤(n:Int)-1))=true)
def falL (p:List Int→Bool)(D:List (Int×Int)):Nat→List Int
  |0=>[]
  |k+1=>if p [(D.getD k (0,0)).1,(D.getD k (0,0)).2]=true then falL p D k else falL p D k++[(k:Int)]
theorem falL_len {p:List Int→Bool} {D:List (Int×Int)}(k:Nat):(falL p D k).length≤k:=by
  induction k with
  |zero=>simp [falL]
  | succ k ih=>
    simp only [falL]
    split
    · omega
    · simp only [List.length_append,List.length_cons,List.length_nil];omega
theorem falL_y {p:List Int→Bool} {D:List (Int×Int)} {k:Nat}(h:p [(D.getD k (0,0)).1,(D.getD k (0,0)).2]=true):falL p D (k+1)=falL p D k:=by
  simp only [falL,h,if_true]
theorem falL_n {p:List Int→Bool} {D:List (Int×Int)} {k:Nat}(h:p [(D.getD k (0,0)).1,(D.getD k (0,0)).2]=false):falL p D (k+1)=falL p D k++[(k:Int)]:=by
  simp only [falL,h,if_false,Bool.false_eq_true]
theorem canF_some {p:List Int→Bool} {ks:List Int} {s:SV}(h:canF p ks=some s):p ks=true∧s = .bool (.lit true):=by
  unfold canF at h
  split at h
  · rename_i q;cases h;exact⟨q,rfl⟩
  · cases h
theorem canF_none {p:List Int→Bool} {ks:List Int}(h:canF p ks=none):p ks=false:=by
  unfold canF at h
  split at h
  · cases h
  · rename_i q;simpa using q
end Go.Proofs.Ytdacdjdccibaiaa

namespace Go.Proofs.Ytdacdjdccibaiaa
open Go Go.Eng Go.Proofs
set_option maxRecDepth 10000
theorem false74 (tw tm:List Int)(tv:List (List Int))(rate:Int)(cs:List Csk)(n:Nat)(d e:Int)(hn:n=cs.length∧n≤1000):FSpec Try.prog 33 [(.agg [(.int .i64 (.sym fun _=>d)),(.int .i64 (.sym fun _=>e))]),.own 0 0] [.cells [.pp 0 [(.sl 1 (.sym fun _=>zi (tw).length) (fun ix=>[.int .i64 (.sym fun _=>(tw).getD ix.den.toNat 0)])),(.sl 1 (.sym fun _=>zi (tm).length) (fun ix=>[.int .i64 (.sym fun _=>(tm).getD ix.den.toNat 0)])),(.sl 1 (.sym fun _=>zi (tv).length) (fun ix=>[(.sl 1 (.sym fun _=>zi ((tv).getD ix.den.toNat []).length) (fun jx=>[.int .i64 (.sym fun _=>((tv).getD ix.den.toNat []).getD jx.den.toNat 0)]))])),(.int .i64 (.sym fun _=>rate)),(.sl 5 (.sym fun _=>zi (cs).length) (fun ix=>[(.int .i64 (.sym fun _=>((cs).getD ix.den.toNat ck0).g)),(.int .i64 (.sym fun _=>((cs).getD ix.den.toNat ck0).wl)),(.int .i64 (.sym fun _=>((cs).getD ix.den.toNat ck0).wh)),(.int .i64 (.sym fun _=>((cs).getD ix.den.toNat ck0).ml)),(.int .i64 (.sym fun _=>((cs).getD ix.den.toNat ck0).mh))])),(.sl 2 (.sym fun _=>zi cs.length) (fun ix=>[(.int .i64 (.sym fun _=>sLo tw tm tv (cs.getD ix.den.toNat ck0))),(.int .i64 (.sym fun _=>sHi tw tm tv (cs.getD ix.den.toNat ck0)))])),(.arr 6 (fun ix=>.int .i64 (.sym fun _=>loA tw tm tv cs cs.length ix.den.toNat))),(.arr 6 (fun ix=>.int .i64 (.sym fun _=>hiA tw tm tv cs cs.length ix.den.toNat)))]] 74] (fun r bs=>r=(.bool (.sym fun _=>decide (0≤d)&&decide (d≤(n:Int)-1)))∧bs=[.cells [.pp 0 [(.sl 1 (.sym fun _=>zi (tw).length) (fun ix=>[.int .i64 (.sym fun _=>(tw).getD ix.den.toNat 0)])),(.sl 1 (.sym fun _=>zi (tm).length) (fun ix=>[.int .i64 (.sym fun _=>(tm).getD ix.den.toNat 0)])),(.sl 1 (.sym fun _=>zi (tv).length) (fun ix=>[(.sl 1 (.sym fun _=>zi ((tv).getD ix.den.toNat []).length) (fun jx=>[.int .i64 (.sym fun _=>((tv).getD ix.den.toNat []).getD jx.den.toNat 0)]))])),(.int .i64 (.sym fun _=>rate)),(.sl 5 (.sym fun _=>zi (cs).length) (fun ix=>[(.int .i64 (.sym fun _=>((cs).getD ix.den.toNat ck0).g)),(.int .i64 (.sym fun _=>((cs).getD ix.den.toNat ck0).wl)),(.int .i64 (.sym fun _=>((cs).getD ix.den.toNat ck0).wh)),(.int .i64 (.sym fun _=>((cs).getD ix.den.toNat ck0).ml)),(.int .i64 (.sym fun _=>((cs).getD ix.den.toNat ck0).mh))])),(.sl 2 (.sym fun _=>zi cs.length) (fun ix=>[(.int .i64 (.sym fun _=>sLo tw tm tv (cs.getD ix.den.toNat ck0))),(.int .i64 (.sym fun _=>sHi tw tm tv (cs.getD ix.den.toNat ck0)))])),(.arr 6 (fun ix=>.int .i64 (.sym fun _=>loA tw tm tv cs cs.length ix.den.toNat))),(.arr 6 (fun ix=>.int .i64 (.sym fun _=>hiA tw tm tv cs cs.length ix.den.toNat)))]] 74]):=by
  have c64:= @within64
  refine FSpec.isB rfl fun R B hR hB=>qW (sc:=sc33) tyok mix Try.func33 rfl Try.call33 (by kernel_rfl) (by kernel_rfl) ?_
  generalize Try.prog=P at c64⊢
  cbv
  repeat' (first
      |with_reducible refine hold ?_ ?_
      |with_reducible refine And.intro ?_ ?_
      | (with_reducible refine qS ?_ ?_ ?_
         try cbv)
      | (with_reducible refine qT ?_ ?_
         try cbv)
      |(with_reducible intro hcd;(try simp only [zA,zB,zC,zD,zE,zF,zG,zH,zI,zJ,zK,zL,zM,zN,zO,zP]at hcd);try cbv)
      | (refine qP ?_ (c64 _ _ _) (by(repeat' (first|exact qB|refine qD ?_ ?_|exact qE (by rfl)|exact qF (by rfl)|exact Fit.refl _|exact qA|refine qC ?_ rfl ?_)))
         try cbv)
      |fail)
  all_goals first
    |trivial
    |((try simp only [qV]at *);(try simp only [zQ,zA,zB,zC,zD,zE,zF,zG,zH,zI,zJ,zK,zL,zM,zN,zO,zP,zR,zS]at *);first|(refine qN ?_;omega)|(simp only [Hold];omega))
    |(subst hR;(repeat' (first|exact qA|exact qB|refine qC ?_ rfl ?_|refine qD ?_ ?_|exact qE (by rfl)|exact qF (by rfl)|exact Fit.refl _|exact qG _|(refine qE ?_;(try simp only [qV]at *);simp only [zQ,zA,zB,zC,zD,zE,zF,zG,zH,zI,zJ,zK,zL,zM,zN,zO,zP,zR,zS]at *;omega)));done)
    |(subst hR;(exact qF (by rw [hn.1];rfl));done)
    |(subst hB;(repeat' (first|exact qH|refine qI ?_ ?_|exact qK _|refine qJ ?_|exact qA|exact qE (by rfl)|exact qF (by rfl)|exact Fit.refl _|exact qG _|refine qC ?_ rfl ?_));done)
    |skip
theorem lam94_decl (tw tm:List Int)(tv:List (List Int))(rate:Int)(cs:List Csk)(n:Nat)(D:List (Int×Int))(hn:n=cs.length∧n≤1000)(hfew:D.length≤1000)(i:Nat)(hi:i<D.length∧∀j,j<i→(decide (0≤(D.getD (j) (0,0)).1)&&decide ((D.getD (j) (0,0)).1≤(n:Int)-1))=true):FSpec Try.prog 47 [(.agg [(.int .i64 (.sym fun _=>(D.getD (i) (0,0)).1)),(.int .i64 (.sym fun _=>(D.getD (i) (0,0)).2))]),.own 0 0] [.cells [.clo 33 [] [.own 1 0]] 86,.cells [.pp 0 [(.sl 1 (.sym fun _=>zi (tw).length) (fun ix=>[.int .i64 (.sym fun _=>(tw).getD ix.den.toNat 0)])),(.sl 1 (.sym fun _=>zi (tm).length) (fun ix=>[.int .i64 (.sym fun _=>(tm).getD ix.den.toNat 0)])),(.sl 1 (.sym fun _=>zi (tv).length) (fun ix=>[(.sl 1 (.sym fun _=>zi ((tv).getD ix.den.toNat []).length) (fun jx=>[.int .i64 (.sym fun _=>((tv).getD ix.den.toNat []).getD jx.den.toNat 0)]))])),(.int .i64 (.sym fun _=>rate)),(.sl 5 (.sym fun _=>zi (cs).length) (fun ix=>[(.int .i64 (.sym fun _=>((cs).getD ix.den.toNat ck0).g)),(.int .i64 (.sym fun _=>((cs).getD ix.den.toNat ck0).wl)),(.int .i64 (.sym fun _=>((cs).getD ix.den.toNat ck0).wh)),(.int .i64 (.sym fun _=>((cs).getD ix.den.toNat ck0).ml)),(.int .i64 (.sym fun _=>((cs).getD ix.den.toNat ck0).mh))])),(.sl 2 (.sym fun _=>zi cs.length) (fun ix=>[(.int .i64 (.sym fun _=>sLo tw tm tv (cs.getD ix.den.toNat ck0))),(.int .i64 (.sym fun _=>sHi tw tm tv (cs.getD ix.den.toNat ck0)))])),(.arr 6 (fun ix=>.int .i64 (.sym fun _=>loA tw tm tv cs cs.length ix.den.toNat))),(.arr 6 (fun ix=>.int .i64 (.sym fun _=>hiA tw tm tv cs cs.length ix.den.toNat)))]] 74] (fun r bs=>r=(.bool (.sym fun _=> !(decide (0≤(D.getD (i) (0,0)).1)&&decide ((D.getD (i) (0,0)).1≤(n:Int)-1))))∧bs=[.cells [.clo 33 [] [.own 1 0]] 86,.cells [.pp 0 [(.sl 1 (.sym fun _=>zi (tw).length) (fun ix=>[.int .i64 (.sym fun _=>(tw).getD ix.den.toNat 0)])),(.sl 1 (.sym fun _=>zi (tm).length) (fun ix=>[.int .i64 (.sym fun _=>(tm).getD ix.den.toNat 0)])),(.sl 1 (.sym fun _=>zi (tv).length) (fun ix=>[(.sl 1 (.sym fun _=>zi ((tv).getD ix.den.toNat []).length) (fun jx=>[.int .i64 (.sym fun _=>((tv).getD ix.den.toNat []).getD jx.den.toNat 0)]))])),(.int .i64 (.sym fun _=>rate)),(.sl 5 (.sym fun _=>zi (cs).length) (fun ix=>[(.int .i64 (.sym fun _=>((cs).getD ix.den.toNat ck0).g)),(.int .i64 (.sym fun _=>((cs).getD ix.den.toNat ck0).wl)),(.int .i64 (.sym fun _=>((cs).getD ix.den.toNat ck0).wh)),(.int .i64 (.sym fun _=>((cs).getD ix.den.toNat ck0).ml)),(.int .i64 (.sym fun _=>((cs).getD ix.den.toNat ck0).mh))])),(.sl 2 (.sym fun _=>zi cs.length) (fun ix=>[(.int .i64 (.sym fun _=>sLo tw tm tv (cs.getD ix.den.toNat ck0))),(.int .i64 (.sym fun _=>sHi tw tm tv (cs.getD ix.den.toNat ck0)))])),(.arr 6 (fun ix=>.int .i64 (.sym fun _=>loA tw tm tv cs cs.length ix.den.toNat))),(.arr 6 (fun ix=>.int .i64 (.sym fun _=>hiA tw tm tv cs cs.length ix.den.toNat)))]] 74]):=by
  have cf:=false74 tw tm tv rate cs n (D.getD i (0,0)).1 (D.getD i (0,0)).2 hn
  refine FSpec.isB rfl fun R B hR hB=>qW (sc:=sc47) tyok mix Try.func47 rfl Try.call47 (by kernel_rfl) (by kernel_rfl) ?_
  generalize Try.prog=P at cf⊢
  cbv
  repeat' (first
      |with_reducible refine hold ?_ ?_
      |with_reducible refine And.intro ?_ ?_
      | (with_reducible refine qS ?_ ?_ ?_
         try cbv)
      | (with_reducible refine qT ?_ ?_
         try cbv)
      |(with_reducible intro hcd;(try simp only [zA,zB,zC,zD,zE,zF,zG,zH,zI,zJ,zK,zL,zM,zN,zO,zP]at hcd);try cbv)
      | (refine⟨some [1],?_⟩
         cbv
         refine qQ ?_ (cf) (by cbv;(repeat' (first|exact qB|refine qD ?_ ?_|exact qE (by rfl)|exact qF (by rfl)|exact Fit.refl _|exact qA|refine qC ?_ rfl ?_))) (by cbv;(repeat' (first|exact qH|refine qI ?_ ?_|exact qK _|refine qJ ?_|exact qA|exact qE (by rfl)|exact qF (by rfl)|exact Fit.refl _|exact qG _|refine qC ?_ rfl ?_)))
         try cbv)
      |fail)
  all_goals first
    |trivial
    |((try simp only [qV]at *);(try simp only [zQ,zA,zB,zC,zD,zE,zF,zG,zH,zI,zJ,zK,zL,zM,zN,zO,zP,zR,zS]at *);first|(refine qN ?_;omega)|(simp only [Hold];omega))
    |(subst hR;(repeat' (first|exact qA|exact qB|refine qC ?_ rfl ?_|refine qD ?_ ?_|exact qE (by rfl)|exact qF (by rfl)|exact Fit.refl _|exact qG _|(refine qE ?_;(try simp only [qV]at *);simp only [zQ,zA,zB,zC,zD,zE,zF,zG,zH,zI,zJ,zK,zL,zM,zN,zO,zP,zR,zS]at *;omega)));done)
    |(subst hB;(repeat' (first|exact qH|refine qI ?_ ?_|exact qK _|refine qJ ?_|exact qA|exact qE (by rfl)|exact qF (by rfl)|exact Fit.refl _|exact qG _|refine qC ?_ rfl ?_));done)
    |skip
theorem idx109_decl (tw tm:List Int)(tv:List (List Int))(rate:Int)(cs:List Csk)(n:Nat)(D:List (Int×Int))(hn:n=cs.length∧n≤1000)(hfew:D.length≤1000):FSpec Try.prog 57 [(.sl 2 (.sym fun _=>zi D.length) (fun ix=>[(.int .i64 (.sym fun _=>(D.getD ix.den.toNat (0,0)).1)),(.int .i64 (.sym fun _=>(D.getD ix.den.toNat (0,0)).2))])),.clo 47 [] [.own 0 0]] [.cells [.clo 33 [] [.own 1 0]] 86,.cells [.pp 0 [(.sl 1 (.sym fun _=>zi (tw).length) (fun ix=>[.int .i64 (.sym fun _=>(tw).getD ix.den.toNat 0)])),(.sl 1 (.sym fun _=>zi (tm).length) (fun ix=>[.int .i64 (.sym fun _=>(tm).getD ix.den.toNat 0)])),(.sl 1 (.sym fun _=>zi (tv).length) (fun ix=>[(.sl 1 (.sym fun _=>zi ((tv).getD ix.den.toNat []).length) (fun jx=>[.int .i64 (.sym fun _=>((tv).getD ix.den.toNat []).getD jx.den.toNat 0)]))])),(.int .i64 (.sym fun _=>rate)),(.sl 5 (.sym fun _=>zi (cs).length) (fun ix=>[(.int .i64 (.sym fun _=>((cs).getD ix.den.toNat ck0).g)),(.int .i64 (.sym fun _=>((cs).getD ix.den.toNat ck0).wl)),(.int .i64 (.sym fun _=>((cs).getD ix.den.toNat ck0).wh)),(.int .i64 (.sym fun _=>((cs).getD ix.den.toNat ck0).ml)),(.int .i64 (.sym fun _=>((cs).getD ix.den.toNat ck0).mh))])),(.sl 2 (.sym fun _=>zi cs.length) (fun ix=>[(.int .i64 (.sym fun _=>sLo tw tm tv (cs.getD ix.den.toNat ck0))),(.int .i64 (.sym fun _=>sHi tw tm tv (cs.getD ix.den.toNat ck0)))])),(.arr 6 (fun ix=>.int .i64 (.sym fun _=>loA tw tm tv cs cs.length ix.den.toNat))),(.arr 6 (fun ix=>.int .i64 (.sym fun _=>hiA tw tm tv cs cs.length ix.den.toNat)))]] 74] (fun r bs=>r=(.int .i64 (.sym fun _=>fidx (fun i=>decide (0≤(D.getD (i) (0,0)).1)&&decide ((D.getD (i) (0,0)).1≤(n:Int)-1)) (D.length) 0))∧bs=[.cells [.clo 33 [] [.own 1 0]] 86,.cells [.pp 0 [(.sl 1 (.sym fun _=>zi (tw).length) (fun ix=>[.int .i64 (.sym fun _=>(tw).getD ix.den.toNat 0)])),(.sl 1 (.sym fun _=>zi (tm).length) (fun ix=>[.int .i64 (.sym fun _=>(tm).getD ix.den.toNat 0)])),(.sl 1 (.sym fun _=>zi (tv).length) (fun ix=>[(.sl 1 (.sym fun _=>zi ((tv).getD ix.den.toNat []).length) (fun jx=>[.int .i64 (.sym fun _=>((tv).getD ix.den.toNat []).getD jx.den.toNat 0)]))])),(.int .i64 (.sym fun _=>rate)),(.sl 5 (.sym fun _=>zi (cs).length) (fun ix=>[(.int .i64 (.sym fun _=>((cs).getD ix.den.toNat ck0).g)),(.int .i64 (.sym fun _=>((cs).getD ix.den.toNat ck0).wl)),(.int .i64 (.sym fun _=>((cs).getD ix.den.toNat ck0).wh)),(.int .i64 (.sym fun _=>((cs).getD ix.den.toNat ck0).ml)),(.int .i64 (.sym fun _=>((cs).getD ix.den.toNat ck0).mh))])),(.sl 2 (.sym fun _=>zi cs.length) (fun ix=>[(.int .i64 (.sym fun _=>sLo tw tm tv (cs.getD ix.den.toNat ck0))),(.int .i64 (.sym fun _=>sHi tw tm tv (cs.getD ix.den.toNat ck0)))])),(.arr 6 (fun ix=>.int .i64 (.sym fun _=>loA tw tm tv cs cs.length ix.den.toNat))),(.arr 6 (fun ix=>.int .i64 (.sym fun _=>hiA tw tm tv cs cs.length ix.den.toNat)))]] 74]):=by
  have cl:=lam94_decl tw tm tv rate cs n D hn hfew
  refine FSpec.isB rfl fun R B hR hB=>qW (sc:=sc57) tyok mix Try.func57 rfl Try.call57 (by kernel_rfl) (by kernel_rfl) ?_
  generalize Try.prog=P at cl⊢
  cbv
  repeat' (first
      |with_reducible refine hold ?_ ?_
      |with_reducible refine And.intro ?_ ?_
      | (with_reducible refine qS ?_ ?_ ?_
         try cbv)
      | (with_reducible refine qT ?_ ?_
         try cbv)
      |(with_reducible intro hcd;(try simp only [zA,zB,zC,zD,zE,zF,zG,zH,zI,zJ,zK,zL,zM,zN,zO,zP]at hcd);try cbv)
      |fail)
  all_goals first
    |trivial
    |((try simp only [qV]at *);(try simp only [zQ,zA,zB,zC,zD,zE,zF,zG,zH,zI,zJ,zK,zL,zM,zN,zO,zP,zR,zS]at *);first|(refine qN ?_;omega)|(simp only [Hold];omega))
    |skip
  refine⟨none,[],{i:Nat // i≤D.length∧fidx (fun i=>decide (0≤(D.getD (i) (0,0)).1)&&decide ((D.getD (i) (0,0)).1≤(n:Int)-1)) (D.length) 0=fidx (fun i=>decide (0≤(D.getD (i) (0,0)).1)&&decide ((D.getD (i) (0,0)).1≤(n:Int)-1)) (D.length-i) i∧∀j,j<i→(decide (0≤(D.getD (j) (0,0)).1)&&decide ((D.getD (j) (0,0)).1≤(n:Int)-1))=true},fun x=>⟨[(0,(.sl 2 (.sym fun _=>zi D.length) (fun ix=>[(.int .i64 (.sym fun _=>(D.getD ix.den.toNat (0,0)).1)),(.int .i64 (.sym fun _=>(D.getD ix.den.toNat (0,0)).2))]))),(1,.clo 47 [] [.own 0 0]),(7,(.int .i64 (.sym fun _=>zi (D.length)))),(8,(.int .i64 (.sym fun _=>zi x.1)))],[(0,.cells [.clo 33 [] [.own 1 0]] 86),(1,.cells [.pp 0 [(.sl 1 (.sym fun _=>zi (tw).length) (fun ix=>[.int .i64 (.sym fun _=>(tw).getD ix.den.toNat 0)])),(.sl 1 (.sym fun _=>zi (tm).length) (fun ix=>[.int .i64 (.sym fun _=>(tm).getD ix.den.toNat 0)])),(.sl 1 (.sym fun _=>zi (tv).length) (fun ix=>[(.sl 1 (.sym fun _=>zi ((tv).getD ix.den.toNat []).length) (fun jx=>[.int .i64 (.sym fun _=>((tv).getD ix.den.toNat []).getD jx.den.toNat 0)]))])),(.int .i64 (.sym fun _=>rate)),(.sl 5 (.sym fun _=>zi (cs).length) (fun ix=>[(.int .i64 (.sym fun _=>((cs).getD ix.den.toNat ck0).g)),(.int .i64 (.sym fun _=>((cs).getD ix.den.toNat ck0).wl)),(.int .i64 (.sym fun _=>((cs).getD ix.den.toNat ck0).wh)),(.int .i64 (.sym fun _=>((cs).getD ix.den.toNat ck0).ml)),(.int .i64 (.sym fun _=>((cs).getD ix.den.toNat ck0).mh))])),(.sl 2 (.sym fun _=>zi cs.length) (fun ix=>[(.int .i64 (.sym fun _=>sLo tw tm tv (cs.getD ix.den.toNat ck0))),(.int .i64 (.sym fun _=>sHi tw tm tv (cs.getD ix.den.toNat ck0)))])),(.arr 6 (fun ix=>.int .i64 (.sym fun _=>loA tw tm tv cs cs.length ix.den.toNat))),(.arr 6 (fun ix=>.int .i64 (.sym fun _=>hiA tw tm tv cs cs.length ix.den.toNat)))]] 74)],20⟩,fun x=>D.length-x.1,?_,?_⟩
  · refine⟨⟨0,by omega,rfl,fun j hj=>by omega⟩,?_⟩
    cbv
    repeat' (first
      |with_reducible refine hold ?_ ?_
      |with_reducible refine And.intro ?_ ?_)
    all_goals first
      |trivial
      |exact qM (qE (by rfl))
      |exact qM (qF (by rfl))
      |exact qM (Fit.refl _)
      |exact qL (qK _)
      |(refine qM (qE ?_);(try simp only [qV]at *);simp only [zQ,zA,zB,zC,zD,zE,zF,zG,zH,zI,zJ,zK,zL,zM,zN,zO,zP,zR,zS]at *;omega)
      |(refine qL (qJ ?_);(repeat' (first|exact qA|exact qB|refine qC ?_ rfl ?_|refine qD ?_ ?_|exact qE (by rfl)|exact qF (by rfl)|exact Fit.refl _|exact qG _|(refine qE ?_;(try simp only [qV]at *);simp only [zQ,zA,zB,zC,zD,zE,zF,zG,zH,zI,zJ,zK,zL,zM,zN,zO,zP,zR,zS]at *;omega)));done)
      |skip
  · rintro ⟨i,hi,hr,hq⟩
    cbv
    repeat' (first
        |with_reducible refine hold ?_ ?_
        |with_reducible refine And.intro ?_ ?_
        | (with_reducible refine qS ?_ ?_ ?_
           try cbv)
        | (with_reducible refine qT ?_ ?_
           try cbv)
        |(with_reducible intro hcd;(try simp only [zA,zB,zC,zD,zE,zF,zG,zH,zI,zJ,zK,zL,zM,zN,zO,zP]at hcd);try cbv)
        | (refine⟨some [0,1],?_⟩
           cbv
           refine qQ ?_ (cl i ⟨by(try simp only [qV]at *);simp only [zi_den]at *;omega,hq⟩) (by cbv;(repeat' (first|exact qB|refine qD ?_ ?_|exact qE (by rfl)|exact qF (by rfl)|exact Fit.refl _|exact qA|refine qC ?_ rfl ?_))) (by cbv;(repeat' (first|exact qH|refine qI ?_ ?_|exact qK _|refine qJ ?_|exact qA|exact qE (by rfl)|exact qF (by rfl)|exact Fit.refl _|exact qG _|refine qC ?_ rfl ?_)))
           try cbv)
        |fail)
    all_goals first
      |trivial
      |((try simp only [qV]at *);(try simp only [zQ,zA,zB,zC,zD,zE,zF,zG,zH,zI,zJ,zK,zL,zM,zN,zO,zP,zR,zS]at *);first|(refine qN ?_;omega)|(simp only [Hold];omega))
      |(subst hR;(refine qE ?_;simp only [zQ,zA,zB,zC,zD,zE,zF,zG,zH,zI,zJ,zK,zL,zM,zN,zO,zP,zR,zS]at *;rw [hr,fidx_stop (by omega) hcd]);done)
      |(subst hR;(refine qE ?_;simp only [zQ,zA,zB,zC,zD,zE,zF,zG,zH,zI,zJ,zK,zL,zM,zN,zO,zP,zR,zS]at *;rw [hr,show D.length-i=0 by omega];rfl);done)
      |(subst hB;(repeat' (first|exact qH|refine qI ?_ ?_|exact qK _|refine qJ ?_|exact qA|exact qE (by rfl)|exact qF (by rfl)|exact Fit.refl _|exact qG _|refine qC ?_ rfl ?_));done)
      |((try simp only [zQ,zA,zB,zC,zD,zE,zF,zG,zH,zI,zJ,zK,zL,zM,zN,zO,zP,zR,zS]at *);refine⟨⟨i+1,by omega,by rw [hr,fidx_go (by omega) hcd];(try congr 1)<;>omega,fun j hj=>(Nat.lt_or_ge j i).elim (hq j) (fun q=>by rw [show j=i by omega];exact hcd)⟩,by simp only [];omega,?_⟩;cbv;(repeat' (first|with_reducible refine hold ?_ ?_|with_reducible refine And.intro ?_ ?_));(all_goals first|trivial|exact qM (qE (by rfl))|exact qM (qF (by rfl))|exact qM (Fit.refl _)|exact qL (qK _)|(refine qM (qE ?_);(try simp only [qV]at *);simp only [zQ,zA,zB,zC,zD,zE,zF,zG,zH,zI,zJ,zK,zL,zM,zN,zO,zP,zR,zS]at *;omega)|(refine qL (qJ ?_);(repeat' (first|exact qA|exact qB|refine qC ?_ rfl ?_|refine qD ?_ ?_|exact qE (by rfl)|exact qF (by rfl)|exact Fit.refl _|exact qG _|(refine qE ?_;(try simp only [qV]at *);simp only [zQ,zA,zB,zC,zD,zE,zF,zG,zH,zI,zJ,zK,zL,zM,zN,zO,zP,zR,zS]at *;omega)));done)|skip))
      |skip
theorem cont93_decl (tw tm:List Int)(tv:List (List Int))(rate:Int)(cs:List Csk)(n:Nat)(D:List (Int×Int))(hn:n=cs.length∧n≤1000)(hfew:D.length≤1000):FSpec Try.prog 46 [(.sl 2 (.sym fun _=>zi D.length) (fun ix=>[(.int .i64 (.sym fun _=>(D.getD ix.den.toNat (0,0)).1)),(.int .i64 (.sym fun _=>(D.getD ix.den.toNat (0,0)).2))])),.clo 47 [] [.own 0 0]] [.cells [.clo 33 [] [.own 1 0]] 86,.cells [.pp 0 [(.sl 1 (.sym fun _=>zi (tw).length) (fun ix=>[.int .i64 (.sym fun _=>(tw).getD ix.den.toNat 0)])),(.sl 1 (.sym fun _=>zi (tm).length) (fun ix=>[.int .i64 (.sym fun _=>(tm).getD ix.den.toNat 0)])),(.sl 1 (.sym fun _=>zi (tv).length) (fun ix=>[(.sl 1 (.sym fun _=>zi ((tv).getD ix.den.toNat []).length) (fun jx=>[.int .i64 (.sym fun _=>((tv).getD ix.den.toNat []).getD jx.den.toNat 0)]))])),(.int .i64 (.sym fun _=>rate)),(.sl 5 (.sym fun _=>zi (cs).length) (fun ix=>[(.int .i64 (.sym fun _=>((cs).getD ix.den.toNat ck0).g)),(.int .i64 (.sym fun _=>((cs).getD ix.den.toNat ck0).wl)),(.int .i64 (.sym fun _=>((cs).getD ix.den.toNat ck0).wh)),(.int .i64 (.sym fun _=>((cs).getD ix.den.toNat ck0).ml)),(.int .i64 (.sym fun _=>((cs).getD ix.den.toNat ck0).mh))])),(.sl 2 (.sym fun _=>zi cs.length) (fun ix=>[(.int .i64 (.sym fun _=>sLo tw tm tv (cs.getD ix.den.toNat ck0))),(.int .i64 (.sym fun _=>sHi tw tm tv (cs.getD ix.den.toNat ck0)))])),(.arr 6 (fun ix=>.int .i64 (.sym fun _=>loA tw tm tv cs cs.length ix.den.toNat))),(.arr 6 (fun ix=>.int .i64 (.sym fun _=>hiA tw tm tv cs cs.length ix.den.toNat)))]] 74] (fun r bs=>r=(.bool (.sym fun _=>decide (0≤fidx (fun i=>decide (0≤(D.getD (i) (0,0)).1)&&decide ((D.getD (i) (0,0)).1≤(n:Int)-1)) (D.length) 0)))∧bs=[.cells [.clo 33 [] [.own 1 0]] 86,.cells [.pp 0 [(.sl 1 (.sym fun _=>zi (tw).length) (fun ix=>[.int .i64 (.sym fun _=>(tw).getD ix.den.toNat 0)])),(.sl 1 (.sym fun _=>zi (tm).length) (fun ix=>[.int .i64 (.sym fun _=>(tm).getD ix.den.toNat 0)])),(.sl 1 (.sym fun _=>zi (tv).length) (fun ix=>[(.sl 1 (.sym fun _=>zi ((tv).getD ix.den.toNat []).length) (fun jx=>[.int .i64 (.sym fun _=>((tv).getD ix.den.toNat []).getD jx.den.toNat 0)]))])),(.int .i64 (.sym fun _=>rate)),(.sl 5 (.sym fun _=>zi (cs).length) (fun ix=>[(.int .i64 (.sym fun _=>((cs).getD ix.den.toNat ck0).g)),(.int .i64 (.sym fun _=>((cs).getD ix.den.toNat ck0).wl)),(.int .i64 (.sym fun _=>((cs).getD ix.den.toNat ck0).wh)),(.int .i64 (.sym fun _=>((cs).getD ix.den.toNat ck0).ml)),(.int .i64 (.sym fun _=>((cs).getD ix.den.toNat ck0).mh))])),(.sl 2 (.sym fun _=>zi cs.length) (fun ix=>[(.int .i64 (.sym fun _=>sLo tw tm tv (cs.getD ix.den.toNat ck0))),(.int .i64 (.sym fun _=>sHi tw tm tv (cs.getD ix.den.toNat ck0)))])),(.arr 6 (fun ix=>.int .i64 (.sym fun _=>loA tw tm tv cs cs.length ix.den.toNat))),(.arr 6 (fun ix=>.int .i64 (.sym fun _=>hiA tw tm tv cs cs.length ix.den.toNat)))]] 74]):=by
  have ci:=idx109_decl tw tm tv rate cs n D hn hfew
  refine FSpec.isB rfl fun R B hR hB=>qW (sc:=sc46) tyok mix Try.func46 rfl Try.call46 (by kernel_rfl) (by kernel_rfl) ?_
  generalize Try.prog=P at ci⊢
  cbv
  repeat' (first
      |with_reducible refine hold ?_ ?_
      |with_reducible refine And.intro ?_ ?_
      | (with_reducible refine qS ?_ ?_ ?_
         try cbv)
      | (with_reducible refine qT ?_ ?_
         try cbv)
      |(with_reducible intro hcd;(try simp only [zA,zB,zC,zD,zE,zF,zG,zH,zI,zJ,zK,zL,zM,zN,zO,zP]at hcd);try cbv)
      | (refine⟨some [0,1],?_⟩
         cbv
         refine qQ ?_ (ci) (by cbv;(repeat' (first|exact qB|refine qD ?_ ?_|exact qE (by rfl)|exact qF (by rfl)|exact Fit.refl _|exact qA|refine qC ?_ rfl ?_))) (by cbv;(repeat' (first|exact qH|refine qI ?_ ?_|exact qK _|refine qJ ?_|exact qA|exact qE (by rfl)|exact qF (by rfl)|exact Fit.refl _|exact qG _|refine qC ?_ rfl ?_)))
         try cbv)
      |fail)
  all_goals first
    |trivial
    |((try simp only [qV]at *);(try simp only [zQ,zA,zB,zC,zD,zE,zF,zG,zH,zI,zJ,zK,zL,zM,zN,zO,zP,zR,zS]at *);first|(refine qN ?_;omega)|(simp only [Hold];omega))
    |(subst hR;(repeat' (first|exact qA|exact qB|refine qC ?_ rfl ?_|refine qD ?_ ?_|exact qE (by rfl)|exact qF (by rfl)|exact Fit.refl _|exact qG _|(refine qE ?_;(try simp only [qV]at *);simp only [zQ,zA,zB,zC,zD,zE,zF,zG,zH,zI,zJ,zK,zL,zM,zN,zO,zP,zR,zS]at *;omega)));done)
    |(subst hB;(repeat' (first|exact qH|refine qI ?_ ?_|exact qK _|refine qJ ?_|exact qA|exact qE (by rfl)|exact qF (by rfl)|exact Fit.refl _|exact qG _|refine qC ?_ rfl ?_));done)
    |skip
theorem all73_decl (tw tm:List Int)(tv:List (List Int))(rate:Int)(cs:List Csk)(n:Nat)(D:List (Int×Int))(hn:n=cs.length∧n≤1000)(hfew:D.length≤1000):FSpec Try.prog 32 [(.sl 2 (.sym fun _=>zi D.length) (fun ix=>[(.int .i64 (.sym fun _=>(D.getD ix.den.toNat (0,0)).1)),(.int .i64 (.sym fun _=>(D.getD ix.den.toNat (0,0)).2))])),.clo 33 [] [.own 0 0]] [.cells [.pp 0 [(.sl 1 (.sym fun _=>zi (tw).length) (fun ix=>[.int .i64 (.sym fun _=>(tw).getD ix.den.toNat 0)])),(.sl 1 (.sym fun _=>zi (tm).length) (fun ix=>[.int .i64 (.sym fun _=>(tm).getD ix.den.toNat 0)])),(.sl 1 (.sym fun _=>zi (tv).length) (fun ix=>[(.sl 1 (.sym fun _=>zi ((tv).getD ix.den.toNat []).length) (fun jx=>[.int .i64 (.sym fun _=>((tv).getD ix.den.toNat []).getD jx.den.toNat 0)]))])),(.int .i64 (.sym fun _=>rate)),(.sl 5 (.sym fun _=>zi (cs).length) (fun ix=>[(.int .i64 (.sym fun _=>((cs).getD ix.den.toNat ck0).g)),(.int .i64 (.sym fun _=>((cs).getD ix.den.toNat ck0).wl)),(.int .i64 (.sym fun _=>((cs).getD ix.den.toNat ck0).wh)),(.int .i64 (.sym fun _=>((cs).getD ix.den.toNat ck0).ml)),(.int .i64 (.sym fun _=>((cs).getD ix.den.toNat ck0).mh))])),(.sl 2 (.sym fun _=>zi cs.length) (fun ix=>[(.int .i64 (.sym fun _=>sLo tw tm tv (cs.getD ix.den.toNat ck0))),(.int .i64 (.sym fun _=>sHi tw tm tv (cs.getD ix.den.toNat ck0)))])),(.arr 6 (fun ix=>.int .i64 (.sym fun _=>loA tw tm tv cs cs.length ix.den.toNat))),(.arr 6 (fun ix=>.int .i64 (.sym fun _=>hiA tw tm tv cs cs.length ix.den.toNat)))]] 74] (fun r bs=>r=(.bool (.sym fun _=> !(decide (0≤fidx (fun i=>decide (0≤(D.getD (i) (0,0)).1)&&decide ((D.getD (i) (0,0)).1≤(n:Int)-1)) (D.length) 0))))∧bs=[.cells [.pp 0 [(.sl 1 (.sym fun _=>zi (tw).length) (fun ix=>[.int .i64 (.sym fun _=>(tw).getD ix.den.toNat 0)])),(.sl 1 (.sym fun _=>zi (tm).length) (fun ix=>[.int .i64 (.sym fun _=>(tm).getD ix.den.toNat 0)])),(.sl 1 (.sym fun _=>zi (tv).length) (fun ix=>[(.sl 1 (.sym fun _=>zi ((tv).getD ix.den.toNat []).length) (fun jx=>[.int .i64 (.sym fun _=>((tv).getD ix.den.toNat []).getD jx.den.toNat 0)]))])),(.int .i64 (.sym fun _=>rate)),(.sl 5 (.sym fun _=>zi (cs).length) (fun ix=>[(.int .i64 (.sym fun _=>((cs).getD ix.den.toNat ck0).g)),(.int .i64 (.sym fun _=>((cs).getD ix.den.toNat ck0).wl)),(.int .i64 (.sym fun _=>((cs).getD ix.den.toNat ck0).wh)),(.int .i64 (.sym fun _=>((cs).getD ix.den.toNat ck0).ml)),(.int .i64 (.sym fun _=>((cs).getD ix.den.toNat ck0).mh))])),(.sl 2 (.sym fun _=>zi cs.length) (fun ix=>[(.int .i64 (.sym fun _=>sLo tw tm tv (cs.getD ix.den.toNat ck0))),(.int .i64 (.sym fun _=>sHi tw tm tv (cs.getD ix.den.toNat ck0)))])),(.arr 6 (fun ix=>.int .i64 (.sym fun _=>loA tw tm tv cs cs.length ix.den.toNat))),(.arr 6 (fun ix=>.int .i64 (.sym fun _=>hiA tw tm tv cs cs.length ix.den.toNat)))]] 74]):=by
  have cc:=cont93_decl tw tm tv rate cs n D hn hfew
  refine FSpec.isB rfl fun R B hR hB=>qW (sc:=sc32) tyok mix Try.func32 rfl Try.call32 (by kernel_rfl) (by kernel_rfl) ?_
  generalize Try.prog=P at cc⊢
  cbv
  repeat' (first
      |with_reducible refine hold ?_ ?_
      |with_reducible refine And.intro ?_ ?_
      | (with_reducible refine qS ?_ ?_ ?_
         try cbv)
      | (with_reducible refine qT ?_ ?_
         try cbv)
      |(with_reducible intro hcd;(try simp only [zA,zB,zC,zD,zE,zF,zG,zH,zI,zJ,zK,zL,zM,zN,zO,zP]at hcd);try cbv)
      | (refine⟨some [1,0],?_⟩
         cbv
         refine qQ ?_ (cc) (by cbv;(repeat' (first|exact qB|refine qD ?_ ?_|exact qE (by rfl)|exact qF (by rfl)|exact Fit.refl _|exact qA|refine qC ?_ rfl ?_))) (by cbv;(repeat' (first|exact qH|refine qI ?_ ?_|exact qK _|refine qJ ?_|exact qA|exact qE (by rfl)|exact qF (by rfl)|exact Fit.refl _|exact qG _|refine qC ?_ rfl ?_)))
         try cbv)
      |fail)
  all_goals first
    |trivial
    |((try simp only [qV]at *);(try simp only [zQ,zA,zB,zC,zD,zE,zF,zG,zH,zI,zJ,zK,zL,zM,zN,zO,zP,zR,zS]at *);first|(refine qN ?_;omega)|(simp only [Hold];omega))
    |(subst hR;(repeat' (first|exact qA|exact qB|refine qC ?_ rfl ?_|refine qD ?_ ?_|exact qE (by rfl)|exact qF (by rfl)|exact Fit.refl _|exact qG _|(refine qE ?_;(try simp only [qV]at *);simp only [zQ,zA,zB,zC,zD,zE,zF,zG,zH,zI,zJ,zK,zL,zM,zN,zO,zP,zR,zS]at *;omega)));done)
    |(subst hB;(repeat' (first|exact qH|refine qI ?_ ?_|exact qK _|refine qJ ?_|exact qA|exact qE (by rfl)|exact qF (by rfl)|exact Fit.refl _|exact qG _|refine qC ?_ rfl ?_));done)
    |skip
theorem all73r (tw tm:List Int)(tv:List (List Int))(rate:Int)(cs:List Csk)(D:List (Int×Int))(hc:cs.length≤1000)(h:D.length≤1000):FSpec Try.prog 32 [(.sl 2 (.sym fun _=>zi D.length) (fun ix=>[(.int .i64 (.sym fun _=>(D.getD ix.den.toNat (0,0)).1)),(.int .i64 (.sym fun _=>(D.getD ix.den.toNat (0,0)).2))])),.clo 33 [] [.own 0 0]] [.cells [.pp 0 [(.sl 1 (.sym fun _=>zi (tw).length) (fun ix=>[.int .i64 (.sym fun _=>(tw).getD ix.den.toNat 0)])),(.sl 1 (.sym fun _=>zi (tm).length) (fun ix=>[.int .i64 (.sym fun _=>(tm).getD ix.den.toNat 0)])),(.sl 1 (.sym fun _=>zi (tv).length) (fun ix=>[(.sl 1 (.sym fun _=>zi ((tv).getD ix.den.toNat []).length) (fun jx=>[.int .i64 (.sym fun _=>((tv).getD ix.den.toNat []).getD jx.den.toNat 0)]))])),(.int .i64 (.sym fun _=>rate)),(.sl 5 (.sym fun _=>zi (cs).length) (fun ix=>[(.int .i64 (.sym fun _=>((cs).getD ix.den.toNat ck0).g)),(.int .i64 (.sym fun _=>((cs).getD ix.den.toNat ck0).wl)),(.int .i64 (.sym fun _=>((cs).getD ix.den.toNat ck0).wh)),(.int .i64 (.sym fun _=>((cs).getD ix.den.toNat ck0).ml)),(.int .i64 (.sym fun _=>((cs).getD ix.den.toNat ck0).mh))])),(.sl 2 (.sym fun _=>zi cs.length) (fun ix=>[(.int .i64 (.sym fun _=>sLo tw tm tv (cs.getD ix.den.toNat ck0))),(.int .i64 (.sym fun _=>sHi tw tm tv (cs.getD ix.den.toNat ck0)))])),(.arr 6 (fun ix=>.int .i64 (.sym fun _=>loA tw tm tv cs cs.length ix.den.toNat))),(.arr 6 (fun ix=>.int .i64 (.sym fun _=>hiA tw tm tv cs cs.length ix.den.toNat)))]] 74] (fun r bs=>r=(.bool (.sym fun _=>decB cs.length D))∧bs=[.cells [.pp 0 [(.sl 1 (.sym fun _=>zi (tw).length) (fun ix=>[.int .i64 (.sym fun _=>(tw).getD ix.den.toNat 0)])),(.sl 1 (.sym fun _=>zi (tm).length) (fun ix=>[.int .i64 (.sym fun _=>(tm).getD ix.den.toNat 0)])),(.sl 1 (.sym fun _=>zi (tv).length) (fun ix=>[(.sl 1 (.sym fun _=>zi ((tv).getD ix.den.toNat []).length) (fun jx=>[.int .i64 (.sym fun _=>((tv).getD ix.den.toNat []).getD jx.den.toNat 0)]))])),(.int .i64 (.sym fun _=>rate)),(.sl 5 (.sym fun _=>zi (cs).length) (fun ix=>[(.int .i64 (.sym fun _=>((cs).getD ix.den.toNat ck0).g)),(.int .i64 (.sym fun _=>((cs).getD ix.den.toNat ck0).wl)),(.int .i64 (.sym fun _=>((cs).getD ix.den.toNat ck0).wh)),(.int .i64 (.sym fun _=>((cs).getD ix.den.toNat ck0).ml)),(.int .i64 (.sym fun _=>((cs).getD ix.den.toNat ck0).mh))])),(.sl 2 (.sym fun _=>zi cs.length) (fun ix=>[(.int .i64 (.sym fun _=>sLo tw tm tv (cs.getD ix.den.toNat ck0))),(.int .i64 (.sym fun _=>sHi tw tm tv (cs.getD ix.den.toNat ck0)))])),(.arr 6 (fun ix=>.int .i64 (.sym fun _=>loA tw tm tv cs cs.length ix.den.toNat))),(.arr 6 (fun ix=>.int .i64 (.sym fun _=>hiA tw tm tv cs cs.length ix.den.toNat)))]] 74]):=by
  have:=all73_decl tw tm tv rate cs cs.length D ⟨rfl,hc⟩ h
  simp only [all_iff]at this
  exact this
end Go.Proofs.Ytdacdjdccibaiaa
