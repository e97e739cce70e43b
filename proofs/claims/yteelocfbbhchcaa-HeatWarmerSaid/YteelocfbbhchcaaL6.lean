/- HeatWarmer: what the law computes. No condition. -/
import Derived.Test.YteelocfbbhchcaaT6
set_option linter.unusedVariables false
set_option linter.unusedSimpArgs false
set_option linter.deprecated false
set_option linter.all false

namespace Go.Proofs.Yteelocfbbhchcaa
open Go Go.Eng Go.Proofs
set_option maxRecDepth 10000
def wordP (ws:List Int)(k:Int):Int:=if ws.length=0 then 0 else ws.getD (k.tmod (zi ws.length)).toNat 0
def pickP (lo hi w:Int):Int:=lo+w.tmod (hi-lo+1)
theorem word_bd {ws:List Int}(h:∀i:Nat,0≤ws.getD i 0∧ws.getD i 0≤255)(k:Int):0≤wordP ws k∧wordP ws k≤255:=by
  unfold wordP
  split
  · decide
  · exact h _
theorem pick_bd {lo hi w:Int}(h:lo≤hi)(hw:0≤w):lo≤pickP lo hi w∧pickP lo hi w≤hi:=by
  unfold pickP
  have a:=Int.tmod_nonneg (hi-lo+1) hw
  have b:=Int.tmod_lt_of_pos w (show 0<hi-lo+1 by omega)
  omega
def pkM (c:Clr)(ws:List Int):Int:=pickP c.rl c.rh (wordP ws 0)
def pkSv (c:Clr)(ws:List Int)(v:Nat):Int:=pickP (c.vs.getD v v0).sl (c.vs.getD v v0).sh (wordP ws (2*zi v+1))
def pkRv (c:Clr)(ws:List Int)(v:Nat):Int:=pickP (c.vs.getD v v0).rl (c.vs.getD v v0).rh (wordP ws (2*zi v+2))
def mkL (f:Nat→Int):Nat→List Int
  |0=>[]
  |n+1=>mkL f n++[f n]
theorem tab_len (f:Nat→Int)(n:Nat):(mkL f n).length=n:=by
  induction n with
  |zero=>rfl
  |succ n ih=>simp only [mkL,List.length_append,ih,List.length_cons,List.length_nil]
theorem tab_at (f:Nat→Int) {n i:Nat}(h:i<n):(mkL f n).getD i 0=f i:=by
  induction n with
  |zero=>omega
  | succ n ih=>
    simp only [mkL,List.getD_eq_getElem?_getD]
    by_cases e:i<n
    · rw [List.getElem?_append_left (by rw [tab_len];exact e),←List.getD_eq_getElem?_getD,ih e]
    · have e:i=n:=by omega
      subst e
      rw [List.getElem?_append_right (by rw [tab_len];exact Nat.le_refl _),tab_len]
      simp
def pkS (c:Clr)(ws:List Int):List Int:=mkL (pkSv c ws) c.vs.length
def pkR (c:Clr)(ws:List Int):List Int:=mkL (pkRv c ws) c.vs.length
theorem pk_truth {c:Clr}(hc:COk c) {ws:List Int}(h:∀i:Nat,0≤ws.getD i 0∧ws.getD i 0≤255):TruthC c (pkM c ws) (pkS c ws) (pkR c ws):=by
  have a:=pick_bd hc.ok.r1 (word_bd h 0).1
  refine⟨a.1,a.2,tab_len _ _,tab_len _ _,fun i hi=> ?_⟩
  have vo:=hc.ok.v i hi
  unfold vatOk at vo
  rw [pkS,pkR,tab_at _ hi,tab_at _ hi]
  exact⟨pick_bd vo.2.1 (word_bd h _).1,pick_bd vo.2.2.2.2.2.1 (word_bd h _).1⟩
def readyB (c:Clr):Bool:=thinB c 0&&decide (faultC c=0)
theorem ready_t {c:Clr}:readyB c=true↔ThinC c 0∧COk c:=by
  unfold readyB
  rw [Bool.and_eq_true,decide_eq_true_eq,thin_iff,faultC_iff]
end Go.Proofs.Yteelocfbbhchcaa

namespace Go.Proofs.Yteelocfbbhchcaa
open Go Go.Eng Go.Proofs
set_option maxRecDepth 10000
theorem word86 (ws:List Int)(k:Int)(hw:∀i:Nat,0≤ws.getD i 0∧ws.getD i 0≤255)(hk:0≤k):FSpec Try.prog 86 [(.sl 1 (.sym fun _=>zi (ws).length) (fun ix=>[.int .u8 (.sym fun _=>(ws).getD ix.den.toNat 0)])),(.int .i64 (.sym fun _=>k))] [] (fun r _=>r=(.int .i64 (.sym fun _=>wordP ws k))):=by
  refine FSpec.is fun R hR=>qX (sc:=sc86) tyok mix Try.func86 rfl Try.call86 (by kernel_rfl) (by kernel_rfl) ?_
  generalize Try.prog=P
  cbv
  repeat' (first
      |with_reducible refine hold ?_ ?_
      |with_reducible refine And.intro ?_ ?_
      | (with_reducible refine qU ?_ ?_
         try cbv)
      |(with_reducible intro hcd;(try simp only [zA,zB,zC,zD,zE,zF,zG,zH,zI,zJ,zK,zL,zM,zN,zO,zP]at hcd);try cbv)
      |fail)
  all_goals first
    |trivial
    |(subst hR;(refine qE ?_;unfold wordP;rw [if_pos (by(try simp only [qW]at *);(try simp only [zQ,zA,zB,zC,zD,zE,zF,zG,zH,zI,zJ,zK,zL,zM,zN,zO,zP,zR,zS]at *);omega)];rfl);done)
    |(subst hR;(refine qE ?_;unfold wordP;rw [if_neg (by(try simp only [qW]at *);(try simp only [zQ,zA,zB,zC,zD,zE,zF,zG,zH,zI,zJ,zK,zL,zM,zN,zO,zP,zR,zS]at *);omega)];rfl);done)
    |((have hl0:0<zi ws.length:=(by((try simp only [qW]at *);(try simp only [zQ,zA,zB,zC,zD,zE,zF,zG,zH,zI,zJ,zK,zL,zM,zN,zO,zP,zR,zS]at *);omega)));(have hr0:=Int.tmod_nonneg (zi ws.length) hk);(have hr1:=Int.tmod_lt_of_pos k hl0);(try simp only [qW]at *);(try simp only [zQ,zA,zB,zC,zD,zE,zF,zG,zH,zI,zJ,zK,zL,zM,zN,zO,zP,zR,zS]at *);simp only [Hold];first|omega|exact⟨by omega,by omega⟩)
    |(simp only [Hold];(have hb:=hw (k.tmod (zi ws.length)).toNat);(try simp only [qW]at *);(try simp only [zQ,zA,zB,zC,zD,zE,zF,zG,zH,zI,zJ,zK,zL,zM,zN,zO,zP,zR,zS]at *);first|(refine qO ?_;omega)|omega)
    |skip
theorem pick85 (lo hi w:Int)(h:0≤lo∧lo≤hi∧hi≤1000∧0≤w∧w≤255):FSpec Try.prog 85 [(.agg [(.int .i64 (.sym fun _=>lo)),(.int .i64 (.sym fun _=>hi))]),(.int .i64 (.sym fun _=>w))] [] (fun r _=>r=(.int .i64 (.sym fun _=>pickP lo hi w))):=by
  refine FSpec.is fun R hR=>qX (sc:=sc85) tyok mix Try.func85 rfl Try.call85 (by kernel_rfl) (by kernel_rfl) ?_
  generalize Try.prog=P
  cbv
  repeat' (first
      |with_reducible refine hold ?_ ?_
      | (with_reducible refine qU ?_ ?_
         try cbv)
      |fail)
  all_goals first
    |((try simp only [qW]at *);(try simp only [zQ,zA,zB,zC,zD,zE,zF,zG,zH,zI,zJ,zK,zL,zM,zN,zO,zP,zR,zS]at *);first|(refine qO ?_;omega)|(simp only [Hold];omega))
    |(subst hR;(exact qE rfl);done)
    |((have hr0:=Int.tmod_nonneg (hi-lo+1) h.2.2.2.1);(have hr1:=Int.tmod_lt_of_pos w (show 0<hi-lo+1 by omega));(try simp only [qW]at *);(try simp only [zQ,zA,zB,zC,zD,zE,zF,zG,zH,zI,zJ,zK,zL,zM,zN,zO,zP,zR,zS]at *);simp only [Hold];first|(refine qO ?_;omega)|omega)
    |skip
theorem ready42 (c:Clr):FSpec Try.prog 42 [(clrS c)] [] (fun r _=>r=(.bool (.sym fun _=>readyB c))):=by
  have c14:=thin14 c []
  have c47:=fault47 c
  refine FSpec.is fun R hR=>qX (sc:=sc42) tyok mix Try.func42 rfl Try.call42 (by kernel_rfl) (by kernel_rfl) ?_
  generalize Try.prog=P at c14 c47⊢
  cbv
  repeat' (first
      |with_reducible refine And.intro ?_ ?_
      |(with_reducible intro hcd;(try simp only [zA,zB,zC,zD,zE,zF,zG,zH,zI,zJ,zK,zL,zM,zN,zO,zP]at hcd);try cbv)
      | (refine qQ ?_ (c14) ?hfit
         case hfit=>((refine qD (Fit.refl _) (qD (qP rfl) qB));done)
         try cbv)
      | (refine qQ ?_ (c47) ?hfit
         case hfit=>((repeat' (first|exact qB|refine qD ?_ ?_|exact qE (by rfl)|exact qG (by rfl)|exact Fit.refl _|exact qA|refine qC ?_ rfl ?_));done)
         try cbv)
      |fail)
  all_goals first
    |(subst hR;(refine qG ?_;(try simp only [qW]at *);(try simp only [zQ,zA,zB,zC,zD,zE,zF,zG,zH,zI,zJ,zK,zL,zM,zN,zO,zP,zR,zS]at *);unfold readyB;(try simp only [List.length_nil]at *);simp_all;done);done)
    |skip
set_option maxHeartbeats 1000000 in
theorem picked43 (c:Clr)(ws:List Int)(hw:∀i:Nat,0≤ws.getD i 0∧ws.getD i 0≤255)(hc:COk c):FSpec Try.prog 43 [(clrS c),(.sl 1 (.sym fun _=>zi (ws).length) (fun ix=>[.int .u8 (.sym fun _=>(ws).getD ix.den.toNat 0)]))] [] (fun r _=>r=(.agg [(.int .i64 (.sym fun _=>pkM c ws)),(.sl 1 (.sym fun _=>zi ((pkS c ws)).length) (fun ix=>[.int .i64 (.sym fun _=>((pkS c ws)).getD ix.den.toNat 0)])),(.sl 1 (.sym fun _=>zi ((pkR c ws)).length) (fun ix=>[.int .i64 (.sym fun _=>((pkR c ws)).getD ix.den.toNat 0)]))])):=by
  have c86a:=word86 ws 0 hw (by decide)
  have c85a:=pick85 c.rl c.rh (wordP ws 0) (by have a:=hc.ok.r0;have b:=hc.ok.r1;have d:=hc.ok.r2;have e:=word_bd hw 0;omega)
  have c86s:=fun (i:Nat)=>word86 ws (2*zi i+1) hw (by simp only [zi_den];omega)
  have c86r:=fun (i:Nat)=>word86 ws (2*zi i+2) hw (by simp only [zi_den];omega)
  have c85s:=fun (i:Nat) (hi:i<c.vs.length)=>(show FSpec Try.prog 85 [(.agg [(.int .i64 (.sym fun _=>(c.vs.getD i v0).sl)),(.int .i64 (.sym fun _=>(c.vs.getD i v0).sh))]),(.int .i64 (.sym fun _=>wordP ws (2*zi i+1)))] [] (fun r _=>r=(.int .i64 (.sym fun _=>pkSv c ws i)))from pick85 (c.vs.getD i v0).sl (c.vs.getD i v0).sh (wordP ws (2*zi i+1)) (have a:=hc.ok.v i hi;have b:=word_bd hw (2*zi i+1);by unfold vatOk at a;omega))
  have c85r:=fun (i:Nat) (hi:i<c.vs.length)=>(show FSpec Try.prog 85 [(.agg [(.int .i64 (.sym fun _=>(c.vs.getD i v0).rl)),(.int .i64 (.sym fun _=>(c.vs.getD i v0).rh))]),(.int .i64 (.sym fun _=>wordP ws (2*zi i+2)))] [] (fun r _=>r=(.int .i64 (.sym fun _=>pkRv c ws i)))from pick85 (c.vs.getD i v0).rl (c.vs.getD i v0).rh (wordP ws (2*zi i+2)) (have a:=hc.ok.v i hi;have b:=word_bd hw (2*zi i+2);by unfold vatOk at a;omega))
  refine FSpec.is fun R hR=>qX (sc:=sc43) tyok mix Try.func43 rfl Try.call43 (by kernel_rfl) (by kernel_rfl) ?_
  generalize Try.prog=P at c86a c85a c86s c86r c85s c85r⊢
  cbv
  have h3:=hc.few.v
  repeat' (first
      | (refine qQ ?_ (c86a) ?hfit
         case hfit=>((repeat' (first|exact qB|refine qD ?_ ?_|exact qE (by rfl)|exact qG (by rfl)|exact Fit.refl _|exact qA|refine qC ?_ rfl ?_));done)
         try cbv)
      | (refine qQ ?_ (c85a) ?hfit
         case hfit=>((repeat' (first|exact qB|refine qD ?_ ?_|exact qE (by rfl)|exact qG (by rfl)|exact Fit.refl _|exact qA|refine qC ?_ rfl ?_));done)
         try cbv)
      |fail)
  all_goals first
    |skip
  refine⟨none,[⟨.cell 8 1,3,1⟩,⟨.cell 8 2,3,1⟩],{i:Nat // i≤c.vs.length},fun x=>⟨[(1,(.sl 1 (.sym fun _=>zi (ws).length) (fun ix=>[.int .u8 (.sym fun _=>(ws).getD ix.den.toNat 0)]))),(2,.own 0 0),(4,.own 1 0),(5,.own 8 0),(6,(.int .i64 (.sym fun _=>zi x.1)))],[(0,.cells [(.int .i64 (.sym fun _=>c.rl)),(.int .i64 (.sym fun _=>c.rh)),(.int .i64 (.sym fun _=>c.hr)),(.sl 4 (.sym fun _=>zi c.vs.length) (fun ix=>[(.int .i64 (.sym fun _=>(c.vs.getD ix.den.toNat v0).sl)),(.int .i64 (.sym fun _=>(c.vs.getD ix.den.toNat v0).sh)),(.int .i64 (.sym fun _=>(c.vs.getD ix.den.toNat v0).rl)),(.int .i64 (.sym fun _=>(c.vs.getD ix.den.toNat v0).rh))])),(.sl 2 (.sym fun _=>zi c.ts.length) (fun ix=>[(.int .i64 (.sym fun _=>(c.ts.getD ix.den.toNat t0).top)),(.sl 3 (.sym fun _=>zi ((c.ts.getD ix.den.toNat t0).ps).length) (fun jx=>[(.int .i64 (.sym fun _=>(((c.ts.getD ix.den.toNat t0).ps).getD jx.den.toNat p0).f)),(.int .i64 (.sym fun _=>(((c.ts.getD ix.den.toNat t0).ps).getD jx.den.toNat p0).el)),(.int .i64 (.sym fun _=>(((c.ts.getD ix.den.toNat t0).ps).getD jx.den.toNat p0).eh))]))]))] 27),(1,.cells [.int .i64 (.lit 0),.val (Value.slice none 0 0),.val (Value.slice none 0 0)] 30),(8,.cells [(.int .i64 (.sym fun _=>pkM c ws)),.row 11,.row 12] 30),(11,.row 3 1 (.sym fun _=>zi ((mkL (pkSv c ws) x.1)).length) (fun ix=>[.int .i64 (.sym fun _=>((mkL (pkSv c ws) x.1)).getD ix.den.toNat 0)])),(12,.row 3 1 (.sym fun _=>zi ((mkL (pkRv c ws) x.1)).length) (fun ix=>[.int .i64 (.sym fun _=>((mkL (pkRv c ws) x.1)).getD ix.den.toNat 0)]))],60⟩,fun x=>c.vs.length-x.1,?_,?_⟩
  · refine⟨⟨0,by omega⟩,?_⟩
    cbv
    repeat' (first
      |with_reducible refine hold ?_ ?_
      |with_reducible refine And.intro ?_ ?_)
    all_goals first
      |trivial
      |exact qN (qE (by rfl))
      |exact qN (Fit.refl _)
      |exact qM (qL _)
      |(refine qM (ble_row ?_ ?_);(first|rfl|((try simp only [qW]at *);(try simp only [zQ,zA,zB,zC,zD,zE,zF,zG,zH,zI,zJ,zK,zL,zM,zN,zO,zP,zR,zS]at *);omega));intro ix h0 h1;exfalso;(try simp only [qW]at *);(try simp only [zQ,zA,zB,zC,zD,zE,zF,zG,zH,zI,zJ,zK,zL,zM,zN,zO,zP,zR,zS]at *);omega)
      |skip
  · rintro ⟨i,hi⟩
    cbv
    have hSl:=tab_len (pkSv c ws) i
    have hRl:=tab_len (pkRv c ws) i
    have hY:mkL (pkSv c ws) (i+1)=mkL (pkSv c ws) i++[pkSv c ws i]:=rfl
    have hZ:mkL (pkRv c ws) (i+1)=mkL (pkRv c ws) i++[pkRv c ws i]:=rfl
    obtain⟨S1,hS1⟩:∃M,M=mkL (pkSv c ws) i:=⟨_,rfl⟩
    obtain⟨S2,hS2⟩:∃M,M=mkL (pkRv c ws) i:=⟨_,rfl⟩
    rw [←hS1]at hSl hY⊢
    rw [←hS2]at hRl hZ⊢
    cbv
    repeat' (first
        |with_reducible refine hold ?_ ?_
        |with_reducible refine And.intro ?_ ?_
        |(with_reducible intro hcd;(try simp only [zA,zB,zC,zD,zE,zF,zG,zH,zI,zJ,zK,zL,zM,zN,zO,zP]at hcd);try cbv)
        | (refine Exists.intro (α:=Nat) 11 ?_
           cbv
           refine Exists.intro (α:=Nat) 12 ?_
           cbv)
        | (refine qQ ?_ (c86s i) ?hfit
           case hfit=>((repeat' (first|exact qB|refine qD ?_ ?_|exact qE (by rfl)|exact qG (by rfl)|exact Fit.refl _|exact qA|refine qC ?_ rfl ?_));done)
           try cbv)
        | (refine qQ ?_ (c85s i (by((try simp only [qW]at *);(try simp only [zQ,zA,zB,zC,zD,zE,zF,zG,zH,zI,zJ,zK,zL,zM,zN,zO,zP,zR,zS]at *);omega))) ?hfit
           case hfit=>((repeat' (first|exact qB|refine qD ?_ ?_|exact qE (by rfl)|exact qG (by rfl)|exact Fit.refl _|exact qA|refine qC ?_ rfl ?_));done)
           try cbv)
        | (refine qQ ?_ (c86r i) ?hfit
           case hfit=>((repeat' (first|exact qB|refine qD ?_ ?_|exact qE (by rfl)|exact qG (by rfl)|exact Fit.refl _|exact qA|refine qC ?_ rfl ?_));done)
           try cbv)
        | (refine qQ ?_ (c85r i (by((try simp only [qW]at *);(try simp only [zQ,zA,zB,zC,zD,zE,zF,zG,zH,zI,zJ,zK,zL,zM,zN,zO,zP,zR,zS]at *);omega))) ?hfit
           case hfit=>((repeat' (first|exact qB|refine qD ?_ ?_|exact qE (by rfl)|exact qG (by rfl)|exact Fit.refl _|exact qA|refine qC ?_ rfl ?_));done)
           try cbv)
        | (obtain⟨L2,eL2⟩:∃y:List Int,y=S1++[pkSv c ws i]:=⟨_,rfl⟩
           refine⟨intsE L2,?_⟩
           cbv
           refine hold (hold_rowlist (L:=S1) eL2 (by(first|rfl|((try simp only [qW]at *);(try simp only [zQ,zA,zB,zC,zD,zE,zF,zG,zH,zI,zJ,zK,zL,zM,zN,zO,zP,zR,zS]at *);done)|((try simp only [qW]at *);(try simp only [zQ,zA,zB,zC,zD,zE,zF,zG,zH,zI,zJ,zK,zL,zM,zN,zO,zP,zR,zS]at *);omega))) (by rfl) (fun ix=>Fit.refl _) (fun ix h=>qC (qE (by rfl)) rfl qA) (by(try simp only [qW]at *);(try simp only [zQ,zA,zB,zC,zD,zE,zF,zG,zH,zI,zJ,zK,zL,zM,zN,zO,zP,zR,zS]at *);omega)) (Or.inl ?_)
           try cbv)
        | (obtain⟨L3,eL3⟩:∃y:List Int,y=S2++[pkRv c ws i]:=⟨_,rfl⟩
           refine⟨intsE L3,?_⟩
           cbv
           refine hold (hold_rowlist (L:=S2) eL3 (by(first|rfl|((try simp only [qW]at *);(try simp only [zQ,zA,zB,zC,zD,zE,zF,zG,zH,zI,zJ,zK,zL,zM,zN,zO,zP,zR,zS]at *);done)|((try simp only [qW]at *);(try simp only [zQ,zA,zB,zC,zD,zE,zF,zG,zH,zI,zJ,zK,zL,zM,zN,zO,zP,zR,zS]at *);omega))) (by rfl) (fun ix=>Fit.refl _) (fun ix h=>qC (qE (by rfl)) rfl qA) (by(try simp only [qW]at *);(try simp only [zQ,zA,zB,zC,zD,zE,zF,zG,zH,zI,zJ,zK,zL,zM,zN,zO,zP,zR,zS]at *);omega)) (Or.inl ?_)
           try cbv)
        |fail)
    all_goals first
      |((try simp only [qW]at *);(try simp only [zQ,zA,zB,zC,zD,zE,zF,zG,zH,zI,zJ,zK,zL,zM,zN,zO,zP,zR,zS]at *);first|(refine qO ?_;omega)|(simp only [Hold];omega))
      |((have hie:i=c.vs.length:=(by((try simp only [qW]at *);(try simp only [zQ,zA,zB,zC,zD,zE,zF,zG,zH,zI,zJ,zK,zL,zM,zN,zO,zP,zR,zS]at *);omega)));(have e1:S1=pkS c ws:=by rw [hS1,hie];rfl);(have e2:S2=pkR c ws:=by rw [hS2,hie];rfl);subst hR;rw [←e1,←e2];exact Fit.refl _)
      |((try simp only [zQ,zA,zB,zC,zD,zE,zF,zG,zH,zI,zJ,zK,zL,zM,zN,zO,zP,zR,zS]at *);(have hx:mkL (pkSv c ws) (i+1)=L2:=hY.trans eL2.symm);(have hy:mkL (pkRv c ws) (i+1)=L3:=hZ.trans eL3.symm);refine⟨⟨i+1,by omega⟩,by simp only [];omega,?_⟩;cbv;(repeat' (first|with_reducible refine hold ?_ ?_|with_reducible refine And.intro ?_ ?_));(all_goals first|trivial|exact qN (qE (by rfl))|exact qN (qG (by rfl))|exact qN (Fit.refl _)|exact qM (qL _)|(refine qN (qE ?_);(try simp only [qW]at *);simp only [zQ,zA,zB,zC,zD,zE,zF,zG,zH,zI,zJ,zK,zL,zM,zN,zO,zP,zR,zS]at *;omega)|(refine qM (qK ?_);(repeat' (first|exact qA|exact qB|refine qC ?_ rfl ?_|refine qD ?_ ?_|exact qE (by rfl)|exact qG (by rfl)|exact Fit.refl _|exact qH _|(refine qE ?_;(try simp only [qW]at *);simp only [zQ,zA,zB,zC,zD,zE,zF,zG,zH,zI,zJ,zK,zL,zM,zN,zO,zP,zR,zS]at *;omega)));done)|(simp only [hx,hy];first|exact qM (qL _)|(refine qM (ble_row ?_ ?_)<;>first|rfl|(rw [eL2,List.length_append];rfl)|(rw [eL3,List.length_append];rfl)|((try simp only [qW]at *);(try simp only [zQ,zA,zB,zC,zD,zE,zF,zG,zH,zI,zJ,zK,zL,zM,zN,zO,zP,zR,zS,eL2,eL3,List.length_append,List.length_cons,List.length_nil]at *);omega)|(intro ix h0 h1;exact Fit.refl _)))|skip))
      |skip
end Go.Proofs.Yteelocfbbhchcaa

namespace Go.Proofs.Yteelocfbbhchcaa
open Go Go.Eng Go.Proofs
set_option maxRecDepth 10000
theorem lit_t {f:FuncId} {args:List SV} {b:Bool}(h:FSpec Try.prog f args [] (fun r _=>r = .bool (.sym fun _=>b)))(hb:b=true):FSpec Try.prog f args [] (fun r _=>r = .bool (.lit true)):=h.post fun r bs q=>⟨_,by subst q;exact qG hb,rfl⟩
theorem lit_f {f:FuncId} {args:List SV} {b:Bool}(h:FSpec Try.prog f args [] (fun r _=>r = .bool (.sym fun _=>b)))(hb:b=false):FSpec Try.prog f args [] (fun r _=>r = .bool (.lit false)):=h.post fun r bs q=>⟨_,by subst q;exact qG hb,rfl⟩
end Go.Proofs.Yteelocfbbhchcaa

namespace Go.Proofs.Yteelocfbbhchcaa
open Go Go.Eng Go.Proofs
set_option maxRecDepth 10000
def mx2 (a b:Int):Int:=if b>a then b else a
theorem mx2_ge (a b:Int):a≤mx2 a b∧b≤mx2 a b∧(mx2 a b=a∨mx2 a b=b):=by unfold mx2;split<;>omega
def wS (a b:List Int)(v:Nat):Int:=mx2 (a.getD v 0) (b.getD v 0)
theorem up_truth {c:Clr} {m0 m1:Int} {s0 r0 s1 r1:List Int}(a:TruthC c m0 s0 r0)(b:TruthC c m1 s1 r1):TruthC c (mx2 m0 m1) (mkL (wS s0 s1) c.vs.length) r0:=by
  have m:=mx2_ge (m0) (m1)
  have a0:=a.r0;have a1:=a.r1;have b0:=b.r0;have b1:=b.r1
  refine⟨by omega,by omega,tab_len _ _,a.r,fun i hi=> ?_⟩
  have x:=a.v i hi
  have y:=b.v i hi
  have m:=mx2_ge (s0.getD i 0) (s1.getD i 0)
  rw [tab_at _ hi]
  unfold wS
  omega
theorem fast_truth {c:Clr} {m0 m1:Int} {s0 r0 s1 r1:List Int}(a:TruthC c m0 s0 r0)(b:TruthC c m1 s1 r1):TruthC c (m0) s0 (mkL (wS r0 r1) c.vs.length):=by
  have a0:=a.r0;have a1:=a.r1
  refine⟨a0,a1,a.s,tab_len _ _,fun i hi=> ?_⟩
  have x:=a.v i hi
  have y:=b.v i hi
  have m:=mx2_ge (r0.getD i 0) (r1.getD i 0)
  rw [tab_at _ hi]
  unfold wS
  omega
theorem wrm_at {c:Clr}(hc:COk c) {m0 m1:Int} {s0 r0 s1 r1:List Int}(a:TruthC c m0 s0 r0)(b:TruthC c m1 s1 r1) {v:Nat}(hv:v<c.vs.length):
    Wrm (m0) (s0.getD v 0) (r0.getD v 0) (mx2 m0 m1) ((mkL (wS s0 s1) c.vs.length).getD v 0) ((mkL (wS r0 r1) c.vs.length).getD v 0):=by
  have x:=a.v v hv
  have y:=b.v v hv
  have vo:=hc.ok.v v hv
  unfold vatOk at vo
  have m1:=mx2_ge (m0) (m1)
  have m2:=mx2_ge (s0.getD v 0) (s1.getD v 0)
  have m3:=mx2_ge (r0.getD v 0) (r1.getD v 0)
  have a0:=a.r0;have a1:=a.r1;have b0:=b.r0;have b1:=b.r1
  have c0:=hc.ok.r0;have c1:=hc.ok.r2
  rw [tab_at _ hv,tab_at _ hv]
  unfold wS
  constructor<;>omega
theorem wrm_law {rm st rt rm' st' rt':Int}(h:Wrm rm st rt rm' st' rt')(k:Nat):(0≤runW rm st rt k∧runW rm st rt k≤200)∧(0≤runW rm' st' rt k∧runW rm' st' rt k≤200)∧(0≤runW rm st rt' k∧runW rm st rt' k≤200) ∧
    runW rm st rt k≤runW rm' st' rt k∧(runW rm st rt' k-rm).natAbs≤(runW rm st rt k-rm).natAbs∧(rt=0∨st=rm→runW rm st rt k=st):=by
  obtain⟨m0,m1,m2,s0,s1,s2,r0,r1,r2⟩:=h
  have a:=run_bd (rm:=rm) (st:=st) (rt:=rt) (by omega) (by omega) k
  have b:=run_bd (rm:=rm') (st:=st') (rt:=rt) (by omega) (by omega) k
  have d:=run_bd (rm:=rm) (st:=st) (rt:=rt') (by omega) (by omega) k
  exact⟨by omega,by omega,by omega,run_mono r0 (by omega) m1 s1 k,run_near r1 r2 k,fun q=>run_still q k⟩
end Go.Proofs.Yteelocfbbhchcaa

namespace Go.Proofs.Yteelocfbbhchcaa
open Go Go.Eng Go.Proofs
set_option maxRecDepth 10000
def sc6b :SC:=[(3,[⟨0,false,[],false,0,none⟩,⟨1,false,[],false,0,none⟩,⟨3,false,[],false,0,none⟩,⟨4,false,[],false,0,none⟩,⟨6,false,[],false,0,none⟩,⟨7,false,[],false,0,none⟩,⟨2,false,[0,1],false,0,none⟩,⟨5,false,[0,1,2,3,4],false,0,none⟩,⟨8,true,[0,1,2,3,4,5,6,7],false,0,none⟩,⟨9,true,[0,1,2,3,4,5,6,7,8],false,0,none⟩]),(4,[⟨0,false,[],false,0,none⟩,⟨1,false,[0],false,0,none⟩,⟨2,false,[],false,0,none⟩,⟨3,false,[2],false,0,none⟩,⟨4,false,[0,1,2,3],false,0,none⟩,⟨5,false,[],false,0,none⟩,⟨6,false,[5],false,0,none⟩,⟨7,false,[0,1,2,3,4,5,6],false,0,none⟩,⟨8,false,[],false,0,none⟩,⟨9,false,[8],false,4,none⟩,⟨10,false,[],false,0,none⟩,⟨11,false,[10],false,4,none⟩,⟨12,false,[8,9,10,11],false,0,none⟩,⟨13,false,[],false,0,none⟩,⟨14,false,[],false,0,none⟩,⟨15,true,[0,1,2,3,4,5,6,7,13,14],false,3,none⟩,⟨16,true,[0,1,2,3,4,5,6,7,8,9,10,11,12,13,14,15],false,0,none⟩]),(8,[⟨0,false,[],false,0,none⟩,⟨1,false,[0],false,0,none⟩,⟨2,false,[],false,0,none⟩,⟨3,false,[2],false,0,none⟩,⟨4,false,[],false,0,none⟩,⟨5,false,[2,3,4],false,0,none⟩,⟨6,false,[2,3,4,5],false,0,none⟩,⟨7,false,[],false,0,none⟩,⟨8,false,[7],false,0,none⟩,⟨9,false,[],false,0,none⟩,⟨10,false,[7,8,9],false,0,none⟩,⟨11,false,[7,8,9,10],false,0,none⟩,⟨12,false,[2,3,4,5,6,7,8,9,10,11],false,0,none⟩,⟨13,false,[2,3,4,5,6,7,8,9,10,11,12],false,0,none⟩,⟨15,false,[],false,1,none⟩,⟨16,false,[15],false,6,none⟩,⟨17,false,[],false,1,none⟩,⟨18,false,[17],false,6,none⟩,⟨19,false,[],false,0,none⟩,⟨20,false,[17,18,19],false,1,none⟩,⟨21,false,[17,18,19,20],false,6,none⟩,⟨22,false,[],false,1,none⟩,⟨23,false,[22],false,6,none⟩,⟨24,false,[],false,0,none⟩,⟨25,false,[22,23,24],false,1,none⟩,⟨26,false,[22,23,24,25],false,6,none⟩,⟨27,false,[17,18,19,20,21,22,23,24,25,26],false,1,none⟩,⟨28,false,[17,18,19,20,21,22,23,24,25,26,27],false,1,none⟩,⟨14,true,[0,1,2,3,4,5,6,7,8,9,10,11,12,13],false,2,none⟩,⟨30,false,[0,1,2,3,4,5,6,7,8,9,10,11,12,13,14],false,1,some 0⟩,⟨29,true,[0,1,2,3,4,5,6,7,8,9,10,11,12,13,14,15,16,17,18,19,20,21,22,23,24,25,26,27,28],false,2,some 0⟩,⟨31,true,[0,1,2,3,4,5,6,7,8,9,10,11,12,13,14,15,16,17,18,19,20,21,22,23,24,25,26,27,28,29,30],false,0,none⟩,⟨32,true,[0,1,2,3,4,5,6,7,8,9,10,11,12,13,14,15,16,17,18,19,20,21,22,23,24,25,26,27,28,29,30,31],false,0,none⟩,⟨33,true,[0,1,2,3,4,5,6,7,8,9,10,11,12,13,14,15,16,17,18,19,20,21,22,23,24,25,26,27,28,29,30,31,32],false,0,none⟩]),(9,[⟨0,false,[],false,0,none⟩,⟨2,false,[],false,0,none⟩,⟨1,false,[0],false,0,none⟩,⟨3,true,[0,1,2],false,0,none⟩,⟨4,true,[0,1,2,3],false,0,none⟩,⟨5,true,[0,1,2,3,4],false,0,none⟩,⟨6,false,[0,1,2,3,4,5],false,0,none⟩,⟨7,false,[0,1,2,3,4,5],false,0,none⟩,⟨8,false,[0,1,2,3,4,5,6],false,0,none⟩,⟨9,true,[0,1,2,3,4,5,6,7,8],false,0,none⟩]),(10,[⟨0,false,[],false,0,none⟩,⟨2,false,[],false,0,none⟩,⟨1,false,[0],false,0,none⟩,⟨3,true,[0,1,2],false,0,none⟩,⟨4,true,[0,1,2,3],false,0,none⟩,⟨5,true,[0,1,2,3,4],false,0,none⟩,⟨6,false,[0,1,2,3,4,5],false,0,none⟩,⟨7,false,[0,1,2,3,4,5],false,0,none⟩,⟨8,false,[0,1,2,3,4,5,6],false,0,none⟩,⟨9,true,[0,1,2,3,4,5,6,7,8],false,0,none⟩]),(11,[⟨0,false,[],false,0,none⟩,⟨2,false,[],false,0,none⟩,⟨1,false,[0],false,0,none⟩,⟨3,true,[0,1,2],false,0,none⟩,⟨4,true,[0,1,2,3],false,0,none⟩,⟨5,true,[0,1,2,3,4],false,0,none⟩,⟨6,false,[0,1,2,3,4,5],false,0,none⟩,⟨7,false,[0,1,2,3,4,5],false,0,none⟩,⟨8,false,[0,1,2,3,4,5,6],false,0,none⟩,⟨9,true,[0,1,2,3,4,5,6,7,8],false,0,none⟩]),(17,[⟨0,false,[],false,0,none⟩,⟨1,false,[],false,0,none⟩,⟨2,false,[0,1],false,0,none⟩,⟨3,false,[0,1,2],false,0,none⟩,⟨4,false,[0,1,2,3],false,0,none⟩,⟨5,false,[],false,0,none⟩,⟨6,false,[5],false,0,none⟩,⟨7,false,[5,6],false,0,none⟩,⟨8,true,[0,1,2,3,4,5,6,7],false,0,none⟩,⟨9,true,[0,1,2,3,4,5,6,7,8],true,0,none⟩,⟨10,false,[0,1,2,3,4,5,6,7,8,9],false,0,none⟩,⟨11,false,[0,1,2,3,4,5,6,7,8,9],false,0,none⟩,⟨12,false,[0,1,2,3,4,5,6,7,8,9,10,11],false,0,none⟩,⟨13,false,[0,1,2,3,4,5,6,7,8,9,10,11,12],false,0,none⟩,⟨14,false,[0,1,2,3,4,5,6,7,8,9,10,11,12,13],false,0,none⟩,⟨15,false,[0,1,2,3,4,5,6,7,8,9],false,0,none⟩,⟨16,false,[0,1,2,3,4,5,6,7,8,9],false,0,none⟩,⟨17,false,[0,1,2,3,4,5,6,7,8,9,15,16],false,0,none⟩,⟨18,false,[0,1,2,3,4,5,6,7,8,9,15,16,17],false,0,none⟩,⟨19,false,[0,1,2,3,4,5,6,7,8,9,15,16,17,18],false,0,none⟩,⟨20,true,[0,1,2,3,4,5,6,7,8,9,10,11,12,13,14,15,16,17,18,19],false,0,none⟩,⟨21,true,[0,1,2,3,4,5,6,7,8,9,10,11,12,13,14,15,16,17,18,19,20],false,0,none⟩,⟨22,true,[0,1,2,3,4,5,6,7,8,9,10,11,12,13,14,15,16,17,18,19,20,21],true,0,none⟩,⟨23,false,[0,1,2,3,4,5,6,7,8,9,10,11,12,13,14,15,16,17,18,19,20,21,22],false,0,none⟩,⟨24,false,[0,1,2,3,4,5,6,7,8,9,10,11,12,13,14,15,16,17,18,19,20,21,22],false,0,none⟩,⟨25,false,[0,1,2,3,4,5,6,7,8,9,10,11,12,13,14,15,16,17,18,19,20,21,22,23,24],false,0,none⟩,⟨26,false,[0,1,2,3,4,5,6,7,8,9,10,11,12,13,14,15,16,17,18,19,20,21,22,23,24,25],false,0,none⟩,⟨27,false,[0,1,2,3,4,5,6,7,8,9,10,11,12,13,14,15,16,17,18,19,20,21,22,23,24,25,26],false,0,none⟩,⟨28,false,[0,1,2,3,4,5,6,7,8,9,10,11,12,13,14,15,16,17,18,19,20,21,22],false,0,none⟩,⟨29,false,[0,1,2,3,4,5,6,7,8,9,10,11,12,13,14,15,16,17,18,19,20,21,22],false,0,none⟩,⟨30,false,[0,1,2,3,4,5,6,7,8,9,10,11,12,13,14,15,16,17,18,19,20,21,22,28,29],false,0,none⟩,⟨31,false,[0,1,2,3,4,5,6,7,8,9,10,11,12,13,14,15,16,17,18,19,20,21,22,28,29,30],false,0,none⟩,⟨32,false,[0,1,2,3,4,5,6,7,8,9,10,11,12,13,14,15,16,17,18,19,20,21,22,28,29,30,31],false,0,none⟩,⟨33,true,[0,1,2,3,4,5,6,7,8,9,10,11,12,13,14,15,16,17,18,19,20,21,22,23,24,25,26,27,28,29,30,31,32],false,0,none⟩,⟨34,true,[0,1,2,3,4,5,6,7,8,9,10,11,12,13,14,15,16,17,18,19,20,21,22,23,24,25,26,27,28,29,30,31,32,33],false,0,none⟩]),(22,[⟨0,false,[],false,0,none⟩,⟨1,false,[],false,0,none⟩,⟨2,false,[0,1],false,0,none⟩,⟨3,false,[0,1,2],false,0,none⟩,⟨4,false,[],false,0,none⟩,⟨5,false,[0,1,2,3,4],false,0,none⟩,⟨6,false,[0,1,2,3,4,5],false,0,none⟩,⟨7,false,[],false,0,none⟩,⟨8,false,[7],false,0,none⟩,⟨9,false,[0,1,2,3,4,5,6,7,8],false,0,none⟩,⟨10,false,[],false,0,none⟩,⟨11,false,[],false,0,none⟩,⟨12,false,[10,11],false,0,none⟩,⟨13,false,[10,11,12],false,0,none⟩,⟨14,false,[],false,0,none⟩,⟨15,false,[10,11,12,13,14],false,0,none⟩,⟨16,false,[10,11,12,13,14,15],false,0,none⟩,⟨17,false,[],false,0,none⟩,⟨18,false,[17],false,0,none⟩,⟨19,false,[10,11,12,13,14,15,16,17,18],false,0,none⟩,⟨20,false,[0,1,2,3,4,5,6,7,8,9],false,0,none⟩,⟨21,true,[0,1,2,3,4,5,6,7,8,9,10,11,12,13,14,15,16,17,18,19,20],false,0,none⟩]),(23,[⟨0,false,[],false,0,none⟩,⟨1,false,[],false,0,none⟩,⟨2,false,[0,1],false,0,none⟩,⟨3,false,[0,1,2],false,0,none⟩,⟨4,false,[],false,0,none⟩,⟨5,false,[0,1,2,3,4],false,0,none⟩,⟨6,false,[0,1,2,3,4,5],false,0,none⟩,⟨7,false,[],false,0,none⟩,⟨8,false,[],false,0,none⟩,⟨9,false,[7,8],false,0,none⟩,⟨10,false,[7,8,9],false,0,none⟩,⟨11,false,[],false,0,none⟩,⟨12,false,[7,8,9,10,11],false,0,none⟩,⟨13,false,[7,8,9,10,11,12],false,0,none⟩,⟨14,true,[0,1,2,3,4,5,6,7,8,9,10,11,12,13],false,0,none⟩,⟨15,true,[0,1,2,3,4,5,6,7,8,9,10,11,12,13,14],true,0,none⟩,⟨16,false,[0,1,2,3,4,5,6,7,8,9,10,11,12,13,14,15],false,0,none⟩,⟨17,false,[0,1,2,3,4,5,6,7,8,9,10,11,12,13,14,15],false,0,none⟩,⟨18,false,[0,1,2,3,4,5,6,7,8,9,10,11,12,13,14,15,17],false,0,none⟩,⟨19,false,[0,1,2,3,4,5,6,7,8,9,10,11,12,13,14,15,16,17,18],false,0,none⟩,⟨20,false,[0,1,2,3,4,5,6,7,8,9,10,11,12,13,14,15],false,0,none⟩,⟨21,false,[0,1,2,3,4,5,6,7,8,9,10,11,12,13,14,15],false,0,none⟩,⟨22,false,[0,1,2,3,4,5,6,7,8,9,10,11,12,13,14,15,21],false,0,none⟩,⟨23,false,[0,1,2,3,4,5,6,7,8,9,10,11,12,13,14,15,20,21,22],false,0,none⟩,⟨24,true,[0,1,2,3,4,5,6,7,8,9,10,11,12,13,14,15,16,17,18,19,20,21,22,23],false,0,none⟩,⟨25,true,[0,1,2,3,4,5,6,7,8,9,10,11,12,13,14,15,16,17,18,19,20,21,22,23,24],false,0,none⟩,⟨26,true,[0,1,2,3,4,5,6,7,8,9,10,11,12,13,14,15,16,17,18,19,20,21,22,23,24,25],true,0,none⟩,⟨27,false,[0,1,2,3,4,5,6,7,8,9,10,11,12,13,14,15,16,17,18,19,20,21,22,23,24,25,26],false,0,none⟩,⟨28,false,[0,1,2,3,4,5,6,7,8,9,10,11,12,13,14,15,16,17,18,19,20,21,22,23,24,25,26,27],false,0,none⟩,⟨29,false,[0,1,2,3,4,5,6,7,8,9,10,11,12,13,14,15,16,17,18,19,20,21,22,23,24,25,26],false,0,none⟩,⟨30,true,[0,1,2,3,4,5,6,7,8,9,10,11,12,13,14,15,16,17,18,19,20,21,22,23,24,25,26,27,28,29],false,0,none⟩,⟨31,true,[0,1,2,3,4,5,6,7,8,9,10,11,12,13,14,15,16,17,18,19,20,21,22,23,24,25,26,27,28,29,30],false,0,none⟩,⟨32,true,[0,1,2,3,4,5,6,7,8,9,10,11,12,13,14,15,16,17,18,19,20,21,22,23,24,25,26,27,28,29,30,31],false,0,none⟩,⟨33,true,[0,1,2,3,4,5,6,7,8,9,10,11,12,13,14,15,16,17,18,19,20,21,22,23,24,25,26,27,28,29,30,31,32],true,0,none⟩,⟨34,false,[0,1,2,3,4,5,6,7,8,9,10,11,12,13,14,15,16,17,18,19,20,21,22,23,24,25,26,27,28,29,30,31,32,33],false,0,none⟩,⟨35,false,[0,1,2,3,4,5,6,7,8,9,10,11,12,13,14,15,16,17,18,19,20,21,22,23,24,25,26,27,28,29,30,31,32,33,34],false,0,none⟩,⟨36,false,[0,1,2,3,4,5,6,7,8,9,10,11,12,13,14,15,16,17,18,19,20,21,22,23,24,25,26,27,28,29,30,31,32,33],false,0,none⟩,⟨37,false,[0,1,2,3,4,5,6,7,8,9,10,11,12,13,14,15,16,17,18,19,20,21,22,23,24,25,26,27,28,29,30,31,32,33,34,35,36],false,0,none⟩,⟨38,false,[0,1,2,3,4,5,6,7,8,9,10,11,12,13,14,15,16,17,18,19,20,21,22,23,24,25,26,27,28,29,30,31,32,33,34,35,36,37],false,0,none⟩,⟨39,false,[0,1,2,3,4,5,6,7,8,9,10,11,12,13,14,15,16,17,18,19,20,21,22,23,24,25,26,27,28,29,30,31,32,33],false,0,none⟩,⟨40,false,[0,1,2,3,4,5,6,7,8,9,10,11,12,13,14,15,16,17,18,19,20,21,22,23,24,25,26,27,28,29,30,31,32,33,39],false,0,none⟩,⟨41,true,[0,1,2,3,4,5,6,7,8,9,10,11,12,13,14,15,16,17,18,19,20,21,22,23,24,25,26,27,28,29,30,31,32,33,34,35,36,37,38,39,40],false,0,none⟩,⟨42,true,[0,1,2,3,4,5,6,7,8,9,10,11,12,13,14,15,16,17,18,19,20,21,22,23,24,25,26,27,28,29,30,31,32,33,34,35,36,37,38,39,40,41],false,0,none⟩,⟨43,true,[0,1,2,3,4,5,6,7,8,9,10,11,12,13,14,15,16,17,18,19,20,21,22,23,24,25,26,27,28,29,30,31,32,33,34,35,36,37,38,39,40,41,42],true,0,none⟩,⟨44,false,[0,1,2,3,4,5,6,7,8,9,10,11,12,13,14,15,16,17,18,19,20,21,22,23,24,25,26,27,28,29,30,31,32,33,34,35,36,37,38,39,40,41,42,43],false,0,none⟩,⟨45,false,[0,1,2,3,4,5,6,7,8,9,10,11,12,13,14,15,16,17,18,19,20,21,22,23,24,25,26,27,28,29,30,31,32,33,34,35,36,37,38,39,40,41,42,43],false,0,none⟩,⟨46,false,[0,1,2,3,4,5,6,7,8,9,10,11,12,13,14,15,16,17,18,19,20,21,22,23,24,25,26,27,28,29,30,31,32,33,34,35,36,37,38,39,40,41,42,43,44,45],false,0,none⟩,⟨47,false,[0,1,2,3,4,5,6,7,8,9,10,11,12,13,14,15,16,17,18,19,20,21,22,23,24,25,26,27,28,29,30,31,32,33,34,35,36,37,38,39,40,41,42,43,44,45,46],false,0,none⟩,⟨48,false,[0,1,2,3,4,5,6,7,8,9,10,11,12,13,14,15,16,17,18,19,20,21,22,23,24,25,26,27,28,29,30,31,32,33,34,35,36,37,38,39,40,41,42,43],false,0,none⟩,⟨49,false,[0,1,2,3,4,5,6,7,8,9,10,11,12,13,14,15,16,17,18,19,20,21,22,23,24,25,26,27,28,29,30,31,32,33,34,35,36,37,38,39,40,41,42,43,44,45,46,47,48],false,0,none⟩,⟨50,false,[0,1,2,3,4,5,6,7,8,9,10,11,12,13,14,15,16,17,18,19,20,21,22,23,24,25,26,27,28,29,30,31,32,33,34,35,36,37,38,39,40,41,42,43,44,45,46,47,48,49],false,0,none⟩,⟨51,false,[0,1,2,3,4,5,6,7,8,9,10,11,12,13,14,15,16,17,18,19,20,21,22,23,24,25,26,27,28,29,30,31,32,33,34,35,36,37,38,39,40,41,42,43],false,0,none⟩,⟨52,false,[0,1,2,3,4,5,6,7,8,9,10,11,12,13,14,15,16,17,18,19,20,21,22,23,24,25,26,27,28,29,30,31,32,33,34,35,36,37,38,39,40,41,42,43,51],false,0,none⟩,⟨53,false,[0,1,2,3,4,5,6,7,8,9,10,11,12,13,14,15,16,17,18,19,20,21,22,23,24,25,26,27,28,29,30,31,32,33,34,35,36,37,38,39,40,41,42,43],false,0,none⟩,⟨54,false,[0,1,2,3,4,5,6,7,8,9,10,11,12,13,14,15,16,17,18,19,20,21,22,23,24,25,26,27,28,29,30,31,32,33,34,35,36,37,38,39,40,41,42,43,51,52,53],false,0,none⟩,⟨55,false,[0,1,2,3,4,5,6,7,8,9,10,11,12,13,14,15,16,17,18,19,20,21,22,23,24,25,26,27,28,29,30,31,32,33,34,35,36,37,38,39,40,41,42,43,51,52,53,54],false,0,none⟩,⟨56,true,[0,1,2,3,4,5,6,7,8,9,10,11,12,13,14,15,16,17,18,19,20,21,22,23,24,25,26,27,28,29,30,31,32,33,34,35,36,37,38,39,40,41,42,43,44,45,46,47,48,49,50,51,52,53,54,55],false,0,none⟩,⟨57,true,[0,1,2,3,4,5,6,7,8,9,10,11,12,13,14,15,16,17,18,19,20,21,22,23,24,25,26,27,28,29,30,31,32,33,34,35,36,37,38,39,40,41,42,43,44,45,46,47,48,49,50,51,52,53,54,55,56],false,0,none⟩,⟨58,true,[0,1,2,3,4,5,6,7,8,9,10,11,12,13,14,15,16,17,18,19,20,21,22,23,24,25,26,27,28,29,30,31,32,33,34,35,36,37,38,39,40,41,42,43,44,45,46,47,48,49,50,51,52,53,54,55,56,57],false,0,none⟩])]
set_option maxRecDepth 100000 in
theorem law6t (c:Clr)(ws ms:List Int)(hw:∀i:Nat,0≤ws.getD i 0∧ws.getD i 0≤255)(hm:∀i:Nat,0≤ms.getD i 0∧ms.getD i 0≤255)(h:readyB c=false):FSpec Try.prog 6 [(clrS c),(.sl 1 (.sym fun _=>zi (ws).length) (fun ix=>[.int .u8 (.sym fun _=>(ws).getD ix.den.toNat 0)])),(.sl 1 (.sym fun _=>zi (ms).length) (fun ix=>[.int .u8 (.sym fun _=>(ms).getD ix.den.toNat 0)]))] [] (fun r _=>r=(.bool (.lit true))):=by
  have c15:=awake15
  have c42:=lit_f (ready42 c) h
  refine FSpec.is fun R hR=>qX (sc:=sc6b) tyok mix Try.func6 rfl Try.call6 (by kernel_rfl) (by kernel_rfl) ?_
  generalize Try.prog=P at c15 c42⊢
  cbv
  repeat' (first
      | (refine qQ ?_ (c42) ?hfit
         case hfit=>((repeat' (first|exact qB|refine qD ?_ ?_|exact qE (by rfl)|exact qG (by rfl)|exact Fit.refl _|exact qA|refine qC ?_ rfl ?_));done)
         try cbv)
      | (refine qQ ?_ (c15) ?hfit
         case hfit=>((repeat' (first|exact qB|refine qD ?_ ?_|exact qE (by rfl)|exact qG (by rfl)|exact Fit.refl _|exact qA|refine qC ?_ rfl ?_));done)
         try cbv)
      |fail)
  all_goals first
    |((try clear c15);(try clear c42);(subst hR;(repeat' (first|exact qA|exact qB|refine qC ?_ rfl ?_|refine qD ?_ ?_|exact qE (by rfl)|exact qG (by rfl)|exact Fit.refl _|exact qH _|(refine qE ?_;(try simp only [qW]at *);simp only [zQ,zA,zB,zC,zD,zE,zF,zG,zH,zI,zJ,zK,zL,zM,zN,zO,zP,zR,zS]at *;omega)));done))
    |skip
set_option maxRecDepth 100000 in
set_option maxHeartbeats 2000000 in
theorem law6y (c:Clr)(ws ms:List Int)(m0 m1 M:Int)(s0 r0 s1 r1 U V:List Int)(hT:ThinC c 0)(hC:COk c)(h43a:FSpec Try.prog 43 [(clrS c),(.sl 1 (.sym fun _=>zi (ws).length) (fun ix=>[.int .u8 (.sym fun _=>(ws).getD ix.den.toNat 0)]))] [] (fun r _=>r = .agg [(.int .i64 (.sym fun _=>m0)),(.sl 1 (.sym fun _=>zi (s0).length) (fun ix=>[.int .i64 (.sym fun _=>(s0).getD ix.den.toNat 0)])),(.sl 1 (.sym fun _=>zi (r0).length) (fun ix=>[.int .i64 (.sym fun _=>(r0).getD ix.den.toNat 0)]))]))(h43b:FSpec Try.prog 43 [(clrS c),(.sl 1 (.sym fun _=>zi (ms).length) (fun ix=>[.int .u8 (.sym fun _=>(ms).getD ix.den.toNat 0)]))] [] (fun r _=>r = .agg [(.int .i64 (.sym fun _=>m1)),(.sl 1 (.sym fun _=>zi (s1).length) (fun ix=>[.int .i64 (.sym fun _=>(s1).getD ix.den.toNat 0)])),(.sl 1 (.sym fun _=>zi (r1).length) (fun ix=>[.int .i64 (.sym fun _=>(r1).getD ix.den.toNat 0)]))]))(ha:TruthC c m0 s0 r0)(hb:TruthC c m1 s1 r1)(hM:M=mx2 m0 m1)(hU:U=mkL (wS s0 s1) c.vs.length)(hV:V=mkL (wS r0 r1) c.vs.length):FSpec Try.prog 6 [(clrS c),(.sl 1 (.sym fun _=>zi (ws).length) (fun ix=>[.int .u8 (.sym fun _=>(ws).getD ix.den.toNat 0)])),(.sl 1 (.sym fun _=>zi (ms).length) (fun ix=>[.int .u8 (.sym fun _=>(ms).getD ix.den.toNat 0)]))] [] (fun r _=>r=(.bool (.lit true))):=by
  have hF:=faultC_iff.2 hC
  have hv3:=hC.few.v
  have h8:=hC.ok.h8
  have h1:=hC.ok.h1
  have hup:TruthC c M U r0:=by rw [hM,hU];exact up_truth ha hb
  have hfa:TruthC c m0 s0 V:=by rw [hV];exact fast_truth ha hb
  have hwl:∀v,v<c.vs.length→Wrm m0 (s0.getD v 0) (r0.getD v 0) M (U.getD v 0) (V.getD v 0):=fun v hv=>by rw [hM,hU,hV];exact wrm_at hC ha hb hv
  have hm0:=ha.r0
  have hm1:=ha.r1
  have hc0:=hC.ok.r0
  have hc2:=hC.ok.r2
  have hsa:=ha.s
  have hra:=ha.r
  have hsb:=hb.s
  have hrb:=hb.r
  have c15:=awake15
  have c42:=lit_t (ready42 c) (ready_t.2 ⟨hT,hC⟩)
  have c43a:=h43a
  have c43b:=h43b
  have c17:=cellar17 c (by have:=hT.v;omega) (by have:=hT.t;omega) (fun i hi=>by have:=hT.p i hi;omega)
  have c190:=truth19 (m0) (s0) (r0) (by have:=ha.s;omega) (by have:=ha.r;omega)
  have c180:=(show FSpec Try.prog 18 [(clrS c),(.agg [(.int .i64 (.sym fun _=>m0)),(.sl 1 (.sym fun _=>zi (s0).length) (fun ix=>[.int .i64 (.sym fun _=>(s0).getD ix.den.toNat 0)])),(.sl 1 (.sym fun _=>zi (r0).length) (fun ix=>[.int .i64 (.sym fun _=>(r0).getD ix.den.toNat 0)]))])] [] (fun r _=>r=(.tup [(.sl 1 (.sym fun _=>zi c.vs.length) (fun ix=>[(.sl 1 (.sym fun _=>zi (c.hr.toNat+1)) (fun jx=>[(.int .i64 (.sym fun _=>runW (m0) ((s0).getD ix.den.toNat 0) ((r0).getD ix.den.toNat 0) jx.den.toNat))]))])),(.int .i64 (.lit (0)))]))from(play18 c (m0) (s0) (r0) (by omega)).post fun r bs q=>⟨_,by subst q;have e3:=playE_yes hF (truthB_iff.2 ha);exact qD (fit_sl (congrArg zi e3.2) (fun _ _ _=>Fit.refl _)) (qD (qE e3.1) qB),rfl⟩)
  have c191:=truth19 (M) (U) (r0) (by have:=hup.s;omega) (by have:=hup.r;omega)
  have c181:=(show FSpec Try.prog 18 [(clrS c),(.agg [(.int .i64 (.sym fun _=>M)),(.sl 1 (.sym fun _=>zi (U).length) (fun ix=>[.int .i64 (.sym fun _=>(U).getD ix.den.toNat 0)])),(.sl 1 (.sym fun _=>zi (r0).length) (fun ix=>[.int .i64 (.sym fun _=>(r0).getD ix.den.toNat 0)]))])] [] (fun r _=>r=(.tup [(.sl 1 (.sym fun _=>zi c.vs.length) (fun ix=>[(.sl 1 (.sym fun _=>zi (c.hr.toNat+1)) (fun jx=>[(.int .i64 (.sym fun _=>runW (M) ((U).getD ix.den.toNat 0) ((r0).getD ix.den.toNat 0) jx.den.toNat))]))])),(.int .i64 (.lit (0)))]))from(play18 c (M) (U) (r0) (by omega)).post fun r bs q=>⟨_,by subst q;have e3:=playE_yes hF (truthB_iff.2 hup);exact qD (fit_sl (congrArg zi e3.2) (fun _ _ _=>Fit.refl _)) (qD (qE e3.1) qB),rfl⟩)
  have c192:=truth19 (m0) (s0) (V) (by have:=hfa.s;omega) (by have:=hfa.r;omega)
  have c182:=(show FSpec Try.prog 18 [(clrS c),(.agg [(.int .i64 (.sym fun _=>m0)),(.sl 1 (.sym fun _=>zi (s0).length) (fun ix=>[.int .i64 (.sym fun _=>(s0).getD ix.den.toNat 0)])),(.sl 1 (.sym fun _=>zi (V).length) (fun ix=>[.int .i64 (.sym fun _=>(V).getD ix.den.toNat 0)]))])] [] (fun r _=>r=(.tup [(.sl 1 (.sym fun _=>zi c.vs.length) (fun ix=>[(.sl 1 (.sym fun _=>zi (c.hr.toNat+1)) (fun jx=>[(.int .i64 (.sym fun _=>runW (m0) ((s0).getD ix.den.toNat 0) ((V).getD ix.den.toNat 0) jx.den.toNat))]))])),(.int .i64 (.lit (0)))]))from(play18 c (m0) (s0) (V) (by omega)).post fun r bs q=>⟨_,by subst q;have e3:=playE_yes hF (truthB_iff.2 hfa);exact qD (fit_sl (congrArg zi e3.2) (fun _ _ _=>Fit.refl _)) (qD (qE e3.1) qB),rfl⟩)
  refine FSpec.is fun R hR=>qX (sc:=sc6b) tyok mix Try.func6 rfl Try.call6 (by kernel_rfl) (by kernel_rfl) ?_
  generalize Try.prog=P at c15 c42 c43a c43b c17 c190 c180 c191 c181 c192 c182⊢
  cbv
  repeat' (first
      | (refine qQ ?_ (c42) ?hfit
         case hfit=>((repeat' (first|exact qB|refine qD ?_ ?_|exact qE (by rfl)|exact qG (by rfl)|exact Fit.refl _|exact qA|refine qC ?_ rfl ?_));done)
         try cbv)
      | (refine qQ ?_ (c43a) ?hfit
         case hfit=>((repeat' (first|exact qB|refine qD ?_ ?_|exact qE (by rfl)|exact qG (by rfl)|exact Fit.refl _|exact qA|refine qC ?_ rfl ?_));done)
         try cbv)
      | (refine qQ ?_ (c43b) ?hfit
         case hfit=>((repeat' (first|exact qB|refine qD ?_ ?_|exact qE (by rfl)|exact qG (by rfl)|exact Fit.refl _|exact qA|refine qC ?_ rfl ?_));done)
         try cbv)
      |fail)
  all_goals first
    |skip
  refine⟨none,[⟨.cell 28 1,3,1⟩,⟨.cell 29 2,3,1⟩],{i:Nat // i≤c.vs.length},fun x=>⟨[(3,.own 0 0),(7,.own 11 0),(8,.own 12 0),(9,.own 28 0),(10,.own 29 0),(11,(.int .i64 (.sym fun _=>zi x.1)))],[(0,.cells [(.int .i64 (.sym fun _=>c.rl)),(.int .i64 (.sym fun _=>c.rh)),(.int .i64 (.sym fun _=>c.hr)),(.sl 4 (.sym fun _=>zi c.vs.length) (fun ix=>[(.int .i64 (.sym fun _=>(c.vs.getD ix.den.toNat v0).sl)),(.int .i64 (.sym fun _=>(c.vs.getD ix.den.toNat v0).sh)),(.int .i64 (.sym fun _=>(c.vs.getD ix.den.toNat v0).rl)),(.int .i64 (.sym fun _=>(c.vs.getD ix.den.toNat v0).rh))])),(.sl 2 (.sym fun _=>zi c.ts.length) (fun ix=>[(.int .i64 (.sym fun _=>(c.ts.getD ix.den.toNat t0).top)),(.sl 3 (.sym fun _=>zi ((c.ts.getD ix.den.toNat t0).ps).length) (fun jx=>[(.int .i64 (.sym fun _=>(((c.ts.getD ix.den.toNat t0).ps).getD jx.den.toNat p0).f)),(.int .i64 (.sym fun _=>(((c.ts.getD ix.den.toNat t0).ps).getD jx.den.toNat p0).el)),(.int .i64 (.sym fun _=>(((c.ts.getD ix.den.toNat t0).ps).getD jx.den.toNat p0).eh))]))]))] 27),(11,.cells [(.int .i64 (.sym fun _=>m0)),(.sl 1 (.sym fun _=>zi (s0).length) (fun ix=>[.int .i64 (.sym fun _=>(s0).getD ix.den.toNat 0)])),(.sl 1 (.sym fun _=>zi (r0).length) (fun ix=>[.int .i64 (.sym fun _=>(r0).getD ix.den.toNat 0)]))] 30),(12,.cells [(.int .i64 (.sym fun _=>m1)),(.sl 1 (.sym fun _=>zi (s1).length) (fun ix=>[.int .i64 (.sym fun _=>(s1).getD ix.den.toNat 0)])),(.sl 1 (.sym fun _=>zi (r1).length) (fun ix=>[.int .i64 (.sym fun _=>(r1).getD ix.den.toNat 0)]))] 30),(28,.cells [(.int .i64 (.sym fun _=>mx2 m0 m1)),.row 33,(.sl 1 (.sym fun _=>zi (r0).length) (fun ix=>[.int .i64 (.sym fun _=>(r0).getD ix.den.toNat 0)]))] 30),(29,.cells [(.int .i64 (.sym fun _=>m0)),(.sl 1 (.sym fun _=>zi (s0).length) (fun ix=>[.int .i64 (.sym fun _=>(s0).getD ix.den.toNat 0)])),.row 34] 30),(33,.row 3 1 (.sym fun _=>zi ((mkL (wS s0 s1) x.1)).length) (fun ix=>[.int .i64 (.sym fun _=>((mkL (wS s0 s1) x.1)).getD ix.den.toNat 0)])),(34,.row 3 1 (.sym fun _=>zi ((mkL (wS r0 r1) x.1)).length) (fun ix=>[.int .i64 (.sym fun _=>((mkL (wS r0 r1) x.1)).getD ix.den.toNat 0)]))],60⟩,fun x=>c.vs.length-x.1,?_,?_⟩
  · refine⟨⟨0,by omega⟩,?_⟩
    cbv
    repeat' (first
      |with_reducible refine hold ?_ ?_
      |with_reducible refine And.intro ?_ ?_)
    all_goals first
      |trivial
      |exact qN (qE (by rfl))
      |exact qN (Fit.refl _)
      |exact qM (qL _)
      |(refine qM (ble_row ?_ ?_);(first|rfl|((try simp only [qW]at *);(try simp only [zQ,zA,zB,zC,zD,zE,zF,zG,zH,zI,zJ,zK,zL,zM,zN,zO,zP,zR,zS]at *);omega));intro ix h0 h1;exfalso;(try simp only [qW]at *);(try simp only [zQ,zA,zB,zC,zD,zE,zF,zG,zH,zI,zJ,zK,zL,zM,zN,zO,zP,zR,zS]at *);omega)
      |skip
  · rintro ⟨i,hi⟩
    cbv
    have hSl:=tab_len (wS s0 s1) i
    have hRl:=tab_len (wS r0 r1) i
    have hY:mkL (wS s0 s1) (i+1)=mkL (wS s0 s1) i++[wS s0 s1 i]:=rfl
    have hZ:mkL (wS r0 r1) (i+1)=mkL (wS r0 r1) i++[wS r0 r1 i]:=rfl
    obtain⟨S1,hS1⟩:∃M,M=mkL (wS s0 s1) i:=⟨_,rfl⟩
    obtain⟨S2,hS2⟩:∃M,M=mkL (wS r0 r1) i:=⟨_,rfl⟩
    rw [←hS1]at hSl hY⊢
    rw [←hS2]at hRl hZ⊢
    cbv
    repeat' (first
        |with_reducible refine hold ?_ ?_
        |with_reducible refine And.intro ?_ ?_
        |(with_reducible intro hcd;(try simp only [zA,zB,zC,zD,zE,zF,zG,zH,zI,zJ,zK,zL,zM,zN,zO,zP]at hcd);try cbv)
        | (refine Exists.intro (α:=Nat) 33 ?_
           cbv
           refine Exists.intro (α:=Nat) 34 ?_
           cbv)
        | (obtain⟨L2,eL2⟩:∃y:List Int,y=S1++[wS s0 s1 i]:=⟨_,rfl⟩
           refine⟨intsE L2,?_⟩
           cbv
           refine hold (hold_rowlist (L:=S1) eL2 (by(first|rfl|((try simp only [qW]at *);(try simp only [zQ,zA,zB,zC,zD,zE,zF,zG,zH,zI,zJ,zK,zL,zM,zN,zO,zP,zR,zS]at *);done)|((try simp only [qW]at *);(try simp only [zQ,zA,zB,zC,zD,zE,zF,zG,zH,zI,zJ,zK,zL,zM,zN,zO,zP,zR,zS]at *);omega))) (by rfl) (fun ix=>Fit.refl _) (fun ix h=>qC (qE (by rfl)) rfl qA) (by(try simp only [qW]at *);(try simp only [zQ,zA,zB,zC,zD,zE,zF,zG,zH,zI,zJ,zK,zL,zM,zN,zO,zP,zR,zS]at *);omega)) (Or.inl ?_)
           try cbv)
        | (obtain⟨L3,eL3⟩:∃y:List Int,y=S2++[wS r0 r1 i]:=⟨_,rfl⟩
           refine⟨intsE L3,?_⟩
           cbv
           refine hold (hold_rowlist (L:=S2) eL3 (by(first|rfl|((try simp only [qW]at *);(try simp only [zQ,zA,zB,zC,zD,zE,zF,zG,zH,zI,zJ,zK,zL,zM,zN,zO,zP,zR,zS]at *);done)|((try simp only [qW]at *);(try simp only [zQ,zA,zB,zC,zD,zE,zF,zG,zH,zI,zJ,zK,zL,zM,zN,zO,zP,zR,zS]at *);omega))) (by rfl) (fun ix=>Fit.refl _) (fun ix h=>qC (qE (by rfl)) rfl qA) (by(try simp only [qW]at *);(try simp only [zQ,zA,zB,zC,zD,zE,zF,zG,zH,zI,zJ,zK,zL,zM,zN,zO,zP,zR,zS]at *);omega)) (Or.inl ?_)
           try cbv)
        |fail)
    all_goals first
      |((try clear c15);(try clear c42);(try clear c43a);(try clear c43b);(try clear c17);(try clear c190);(try clear c180);(try clear c191);(try clear c181);(try clear c192);(try clear c182);((try simp only [qW]at *);(try simp only [zQ,zA,zB,zC,zD,zE,zF,zG,zH,zI,zJ,zK,zL,zM,zN,zO,zP,zR,zS]at *);first|(refine qO ?_;omega)|(simp only [Hold];omega)))
      |((try clear c15);(try clear c42);(try clear c43a);(try clear c43b);(try clear c17);(try clear c190);(try clear c180);(try clear c191);(try clear c181);(try clear c192);(try clear c182);((try simp only [zQ,zA,zB,zC,zD,zE,zF,zG,zH,zI,zJ,zK,zL,zM,zN,zO,zP,zR,zS]at *);(have hx:mkL (wS s0 s1) (i+1)=L2:=hY.trans eL2.symm);(have hy:mkL (wS r0 r1) (i+1)=L3:=hZ.trans eL3.symm);refine⟨⟨i+1,by omega⟩,by simp only [];omega,?_⟩;cbv;(repeat' (first|with_reducible refine hold ?_ ?_|with_reducible refine And.intro ?_ ?_));(all_goals first|trivial|exact qN (qE (by rfl))|exact qN (qG (by rfl))|exact qN (Fit.refl _)|exact qM (qL _)|(refine qN (qE ?_);(try simp only [qW]at *);simp only [zQ,zA,zB,zC,zD,zE,zF,zG,zH,zI,zJ,zK,zL,zM,zN,zO,zP,zR,zS]at *;omega)|(refine qM (qK ?_);(repeat' (first|exact qA|exact qB|refine qC ?_ rfl ?_|refine qD ?_ ?_|exact qE (by rfl)|exact qG (by rfl)|exact Fit.refl _|exact qH _|(refine qE ?_;(try simp only [qW]at *);simp only [zQ,zA,zB,zC,zD,zE,zF,zG,zH,zI,zJ,zK,zL,zM,zN,zO,zP,zR,zS]at *;omega)));done)|(simp only [hx,hy];first|exact qM (qL _)|(refine qM (ble_row ?_ ?_)<;>first|rfl|(rw [eL2,List.length_append];rfl)|(rw [eL3,List.length_append];rfl)|((try simp only [qW]at *);(try simp only [zQ,zA,zB,zC,zD,zE,zF,zG,zH,zI,zJ,zK,zL,zM,zN,zO,zP,zR,zS,eL2,eL3,List.length_append,List.length_cons,List.length_nil]at *);omega)|(intro ix h0 h1;exact Fit.refl _)))|skip)))
      |skip
    have hie:i=c.vs.length:=(by((try simp only [qW]at *);(try simp only [zQ,zA,zB,zC,zD,zE,zF,zG,zH,zI,zJ,zK,zL,zM,zN,zO,zP,zR,zS]at *);omega))
    have e1:S1=U:=by rw [hS1,hU,hie]
    have e2:S2=V:=by rw [hS2,hV,hie]
    rw [e1,e2,←hM]
    repeat' (first
        |with_reducible refine And.intro ?_ ?_
        |(with_reducible intro hcd;(try simp only [zA,zB,zC,zD,zE,zF,zG,zH,zI,zJ,zK,zL,zM,zN,zO,zP]at hcd);try cbv)
        | (refine qQ ?_ (c17) ?hfit
           case hfit=>((repeat' (first|exact qB|refine qD ?_ ?_|exact qE (by rfl)|exact qG (by rfl)|exact Fit.refl _|exact qA|refine qC ?_ rfl ?_));done)
           try cbv)
        | (refine qQ ?_ (c190) ?hfit
           case hfit=>((repeat' (first|exact qB|refine qD ?_ ?_|exact qE (by rfl)|exact qG (by rfl)|exact Fit.refl _|exact qA|refine qC ?_ rfl ?_));done)
           try cbv)
        | (refine qQ ?_ (c180) ?hfit
           case hfit=>((repeat' (first|exact qB|refine qD ?_ ?_|exact qE (by rfl)|exact qG (by rfl)|exact Fit.refl _|exact qA|refine qC ?_ rfl ?_));done)
           try cbv)
        | (refine qQ ?_ (c181) ?hfit
           case hfit=>((repeat' (first|exact qB|refine qD ?_ ?_|exact qE (by rfl)|exact qG (by rfl)|exact Fit.refl _|exact qA|refine qC ?_ rfl ?_));done)
           try cbv)
        | (refine qQ ?_ (c182) ?hfit
           case hfit=>((repeat' (first|exact qB|refine qD ?_ ?_|exact qE (by rfl)|exact qG (by rfl)|exact Fit.refl _|exact qA|refine qC ?_ rfl ?_));done)
           try cbv)
        | (refine⟨some [],(33:Nat),?_⟩
           cbv
           refine setl_k ?_ (c191) (by cbv;(repeat' (first|exact qB|refine qD ?_ ?_|exact qE (by rfl)|exact qG (by rfl)|exact Fit.refl _|exact qA|refine qC ?_ rfl ?_)))
           try cbv
           fail_if_success (show False))
        | (refine⟨some [],(34:Nat),?_⟩
           cbv
           refine setl_k ?_ (c192) (by cbv;(repeat' (first|exact qB|refine qD ?_ ?_|exact qE (by rfl)|exact qG (by rfl)|exact Fit.refl _|exact qA|refine qC ?_ rfl ?_)))
           try cbv
           fail_if_success (show False))
        |fail)
    all_goals first
      |trivial
      |skip
    refine⟨none,[],{v:Nat // v≤c.vs.length},fun x=>⟨[(3,.own 0 0),(7,.own 11 0),(12,(.sl 1 (.sym fun _=>zi c.vs.length) (fun ix=>[(.sl 1 (.sym fun _=>zi (c.hr.toNat+1)) (fun jx=>[(.int .i64 (.sym fun _=>runW (m0) ((s0).getD ix.den.toNat 0) ((r0).getD ix.den.toNat 0) jx.den.toNat))]))]))),(14,(.sl 1 (.sym fun _=>zi c.vs.length) (fun ix=>[(.sl 1 (.sym fun _=>zi (c.hr.toNat+1)) (fun jx=>[(.int .i64 (.sym fun _=>runW (M) ((U).getD ix.den.toNat 0) ((r0).getD ix.den.toNat 0) jx.den.toNat))]))]))),(16,(.sl 1 (.sym fun _=>zi c.vs.length) (fun ix=>[(.sl 1 (.sym fun _=>zi (c.hr.toNat+1)) (fun jx=>[(.int .i64 (.sym fun _=>runW (m0) ((s0).getD ix.den.toNat 0) ((V).getD ix.den.toNat 0) jx.den.toNat))]))]))),(18,(.int .i64 (.sym fun _=>zi x.1)))],[(0,.cells [(.int .i64 (.sym fun _=>c.rl)),(.int .i64 (.sym fun _=>c.rh)),(.int .i64 (.sym fun _=>c.hr)),(.sl 4 (.sym fun _=>zi c.vs.length) (fun ix=>[(.int .i64 (.sym fun _=>(c.vs.getD ix.den.toNat v0).sl)),(.int .i64 (.sym fun _=>(c.vs.getD ix.den.toNat v0).sh)),(.int .i64 (.sym fun _=>(c.vs.getD ix.den.toNat v0).rl)),(.int .i64 (.sym fun _=>(c.vs.getD ix.den.toNat v0).rh))])),(.sl 2 (.sym fun _=>zi c.ts.length) (fun ix=>[(.int .i64 (.sym fun _=>(c.ts.getD ix.den.toNat t0).top)),(.sl 3 (.sym fun _=>zi ((c.ts.getD ix.den.toNat t0).ps).length) (fun jx=>[(.int .i64 (.sym fun _=>(((c.ts.getD ix.den.toNat t0).ps).getD jx.den.toNat p0).f)),(.int .i64 (.sym fun _=>(((c.ts.getD ix.den.toNat t0).ps).getD jx.den.toNat p0).el)),(.int .i64 (.sym fun _=>(((c.ts.getD ix.den.toNat t0).ps).getD jx.den.toNat p0).eh))]))]))] 27),(11,.cells [(.int .i64 (.sym fun _=>m0)),(.sl 1 (.sym fun _=>zi (s0).length) (fun ix=>[.int .i64 (.sym fun _=>(s0).getD ix.den.toNat 0)])),(.sl 1 (.sym fun _=>zi (r0).length) (fun ix=>[.int .i64 (.sym fun _=>(r0).getD ix.den.toNat 0)]))] 30)],500⟩,fun x=>c.vs.length-x.1,?_,?_⟩
    · refine⟨⟨0,by omega⟩,?_⟩
      cbv
      repeat' (first
        |with_reducible refine hold ?_ ?_
        |with_reducible refine And.intro ?_ ?_)
      all_goals first
        |trivial
        |exact qN (qE (by rfl))
        |exact qN (Fit.refl _)
        |exact qM (qL _)
        |skip
    · rintro ⟨v,hv⟩
      cbv
      repeat' (first
          |with_reducible refine hold ?_ ?_
          |with_reducible refine And.intro ?_ ?_
          |(with_reducible intro hcd;(try simp only [zA,zB,zC,zD,zE,zF,zG,zH,zI,zJ,zK,zL,zM,zN,zO,zP]at hcd);try cbv)
          | (refine qQ ?_ (c15) ?hfit
             case hfit=>((repeat' (first|exact qB|refine qD ?_ ?_|exact qE (by rfl)|exact qG (by rfl)|exact Fit.refl _|exact qA|refine qC ?_ rfl ?_));done)
             try cbv)
          |fail)
      all_goals first
        |trivial
        |((try clear c15);(try clear c42);(try clear c43a);(try clear c43b);(try clear c17);(try clear c190);(try clear c180);(try clear c191);(try clear c181);(try clear c192);(try clear c182);((try simp only [qW]at *);(try simp only [zQ,zA,zB,zC,zD,zE,zF,zG,zH,zI,zJ,zK,zL,zM,zN,zO,zP,zR,zS]at *);first|(refine qO ?_;omega)|(simp only [Hold];omega)))
        |((try clear c15);(try clear c42);(try clear c43a);(try clear c43b);(try clear c17);(try clear c190);(try clear c180);(try clear c191);(try clear c181);(try clear c192);(try clear c182);(subst hR;(repeat' (first|exact qA|exact qB|refine qC ?_ rfl ?_|refine qD ?_ ?_|exact qE (by rfl)|exact qG (by rfl)|exact Fit.refl _|exact qH _|(refine qE ?_;(try simp only [qW]at *);simp only [zQ,zA,zB,zC,zD,zE,zF,zG,zH,zI,zJ,zK,zL,zM,zN,zO,zP,zR,zS]at *;omega)));done))
        |((try clear c15);(try clear c42);(try clear c43a);(try clear c43b);(try clear c17);(try clear c190);(try clear c180);(try clear c191);(try clear c181);(try clear c192);(try clear c182);(exfalso;(try simp only [qW]at *);(try simp only [zQ,zA,zB,zC,zD,zE,zF,zG,zH,zI,zJ,zK,zL,zM,zN,zO,zP,zR,zS]at *);(try simp only [allB_t,allB_f,inB_t,inB_f,ofB_t,ofB_f,shB_t,shB_f,spB_t,spB_f]at *);omega))
        |skip
      refine⟨none,[],{k:Nat // k≤c.hr.toNat+1},fun x=>⟨[(3,.own 0 0),(7,.own 11 0),(12,(.sl 1 (.sym fun _=>zi c.vs.length) (fun ix=>[(.sl 1 (.sym fun _=>zi (c.hr.toNat+1)) (fun jx=>[(.int .i64 (.sym fun _=>runW (m0) ((s0).getD ix.den.toNat 0) ((r0).getD ix.den.toNat 0) jx.den.toNat))]))]))),(14,(.sl 1 (.sym fun _=>zi c.vs.length) (fun ix=>[(.sl 1 (.sym fun _=>zi (c.hr.toNat+1)) (fun jx=>[(.int .i64 (.sym fun _=>runW (M) ((U).getD ix.den.toNat 0) ((r0).getD ix.den.toNat 0) jx.den.toNat))]))]))),(16,(.sl 1 (.sym fun _=>zi c.vs.length) (fun ix=>[(.sl 1 (.sym fun _=>zi (c.hr.toNat+1)) (fun jx=>[(.int .i64 (.sym fun _=>runW (m0) ((s0).getD ix.den.toNat 0) ((V).getD ix.den.toNat 0) jx.den.toNat))]))]))),(18,(.int .i64 (.sym fun _=>zi v))),(19,(.int .i64 (.sym fun _=>zi x.1)))],[(0,.cells [(.int .i64 (.sym fun _=>c.rl)),(.int .i64 (.sym fun _=>c.rh)),(.int .i64 (.sym fun _=>c.hr)),(.sl 4 (.sym fun _=>zi c.vs.length) (fun ix=>[(.int .i64 (.sym fun _=>(c.vs.getD ix.den.toNat v0).sl)),(.int .i64 (.sym fun _=>(c.vs.getD ix.den.toNat v0).sh)),(.int .i64 (.sym fun _=>(c.vs.getD ix.den.toNat v0).rl)),(.int .i64 (.sym fun _=>(c.vs.getD ix.den.toNat v0).rh))])),(.sl 2 (.sym fun _=>zi c.ts.length) (fun ix=>[(.int .i64 (.sym fun _=>(c.ts.getD ix.den.toNat t0).top)),(.sl 3 (.sym fun _=>zi ((c.ts.getD ix.den.toNat t0).ps).length) (fun jx=>[(.int .i64 (.sym fun _=>(((c.ts.getD ix.den.toNat t0).ps).getD jx.den.toNat p0).f)),(.int .i64 (.sym fun _=>(((c.ts.getD ix.den.toNat t0).ps).getD jx.den.toNat p0).el)),(.int .i64 (.sym fun _=>(((c.ts.getD ix.den.toNat t0).ps).getD jx.den.toNat p0).eh))]))]))] 27),(11,.cells [(.int .i64 (.sym fun _=>m0)),(.sl 1 (.sym fun _=>zi (s0).length) (fun ix=>[.int .i64 (.sym fun _=>(s0).getD ix.den.toNat 0)])),(.sl 1 (.sym fun _=>zi (r0).length) (fun ix=>[.int .i64 (.sym fun _=>(r0).getD ix.den.toNat 0)]))] 30)],900⟩,fun x=>9-x.1,?_,?_⟩
      · refine⟨⟨0,by omega⟩,?_⟩
        cbv
        repeat' (first
          |with_reducible refine hold ?_ ?_
          |with_reducible refine And.intro ?_ ?_)
        all_goals first
          |trivial
          |exact qN (qE (by rfl))
          |exact qN (Fit.refl _)
          |exact qM (qL _)
          |skip
      · rintro⟨k,hk⟩
        cbv
        cbv
        repeat' (first
            |with_reducible refine hold ?_ ?_
            |with_reducible refine And.intro ?_ ?_
            |(with_reducible intro hcd;(try simp only [zA,zB,zC,zD,zE,zF,zG,zH,zI,zJ,zK,zL,zM,zN,zO,zP]at hcd);try cbv)
            |fail)
        all_goals first
          |((try clear c15);(try clear c42);(try clear c43a);(try clear c43b);(try clear c17);(try clear c190);(try clear c180);(try clear c191);(try clear c181);(try clear c192);(try clear c182);((try simp only [qW]at *);(try simp only [zQ,zA,zB,zC,zD,zE,zF,zG,zH,zI,zJ,zK,zL,zM,zN,zO,zP,zR,zS]at *);first|(refine qO ?_;omega)|(simp only [Hold];omega)))
          |((try clear c15);(try clear c42);(try clear c43a);(try clear c43b);(try clear c17);(try clear c190);(try clear c180);(try clear c191);(try clear c181);(try clear c192);(try clear c182);((have hL:=wrm_law (hwl v (by((try simp only [qW]at *);(try simp only [zQ,zA,zB,zC,zD,zE,zF,zG,zH,zI,zJ,zK,zL,zM,zN,zO,zP,zR,zS]at *);omega))) k);(try simp only [qW]at *);(try simp only [zQ,zA,zB,zC,zD,zE,zF,zG,zH,zI,zJ,zK,zL,zM,zN,zO,zP,zR,zS]at *);simp only [Hold];first|(refine qO ?_;omega)|omega))
          |((try clear c15);(try clear c42);(try clear c43a);(try clear c43b);(try clear c17);(try clear c190);(try clear c180);(try clear c191);(try clear c181);(try clear c192);(try clear c182);(exfalso;(have hL:=wrm_law (hwl v (by((try simp only [qW]at *);(try simp only [zQ,zA,zB,zC,zD,zE,zF,zG,zH,zI,zJ,zK,zL,zM,zN,zO,zP,zR,zS]at *);omega))) k);(try simp only [qW]at *);(try simp only [zQ,zA,zB,zC,zD,zE,zF,zG,zH,zI,zJ,zK,zL,zM,zN,zO,zP,zR,zS]at *);omega))
          |((try clear c15);(try clear c42);(try clear c43a);(try clear c43b);(try clear c17);(try clear c190);(try clear c180);(try clear c191);(try clear c181);(try clear c192);(try clear c182);((try simp only [zQ,zA,zB,zC,zD,zE,zF,zG,zH,zI,zJ,zK,zL,zM,zN,zO,zP,zR,zS]at *);refine⟨⟨k+1,by omega⟩,by simp only [];omega,?_⟩;cbv;(repeat' (first|with_reducible refine hold ?_ ?_|with_reducible refine And.intro ?_ ?_));(all_goals first|trivial|exact qN (qE (by rfl))|exact qN (qG (by rfl))|exact qN (Fit.refl _)|exact qM (qL _)|(refine qN (qE ?_);(try simp only [qW]at *);simp only [zQ,zA,zB,zC,zD,zE,zF,zG,zH,zI,zJ,zK,zL,zM,zN,zO,zP,zR,zS]at *;omega)|(refine qM (qK ?_);(repeat' (first|exact qA|exact qB|refine qC ?_ rfl ?_|refine qD ?_ ?_|exact qE (by rfl)|exact qG (by rfl)|exact Fit.refl _|exact qH _|(refine qE ?_;(try simp only [qW]at *);simp only [zQ,zA,zB,zC,zD,zE,zF,zG,zH,zI,zJ,zK,zL,zM,zN,zO,zP,zR,zS]at *;omega)));done)|skip)))
          |((try clear c15);(try clear c42);(try clear c43a);(try clear c43b);(try clear c17);(try clear c190);(try clear c180);(try clear c191);(try clear c181);(try clear c192);(try clear c182);((try simp only [zQ,zA,zB,zC,zD,zE,zF,zG,zH,zI,zJ,zK,zL,zM,zN,zO,zP,zR,zS]at *);refine⟨⟨v+1,by omega⟩,by simp only [];omega,?_⟩;cbv;(repeat' (first|with_reducible refine hold ?_ ?_|with_reducible refine And.intro ?_ ?_));(all_goals first|trivial|exact qN (qE (by rfl))|exact qN (qG (by rfl))|exact qN (Fit.refl _)|exact qM (qL _)|(refine qN (qE ?_);(try simp only [qW]at *);simp only [zQ,zA,zB,zC,zD,zE,zF,zG,zH,zI,zJ,zK,zL,zM,zN,zO,zP,zR,zS]at *;omega)|(refine qM (qK ?_);(repeat' (first|exact qA|exact qB|refine qC ?_ rfl ?_|refine qD ?_ ?_|exact qE (by rfl)|exact qG (by rfl)|exact Fit.refl _|exact qH _|(refine qE ?_;(try simp only [qW]at *);simp only [zQ,zA,zB,zC,zD,zE,zF,zG,zH,zI,zJ,zK,zL,zM,zN,zO,zP,zR,zS]at *;omega)));done)|skip)))
          |skip
theorem law6 (c:Clr)(ws ms:List Int)(hw:∀i:Nat,0≤ws.getD i 0∧ws.getD i 0≤255)(hm:∀i:Nat,0≤ms.getD i 0∧ms.getD i 0≤255):FSpec Try.prog 6 [(clrS c),(.sl 1 (.sym fun _=>zi (ws).length) (fun ix=>[.int .u8 (.sym fun _=>(ws).getD ix.den.toNat 0)])),(.sl 1 (.sym fun _=>zi (ms).length) (fun ix=>[.int .u8 (.sym fun _=>(ms).getD ix.den.toNat 0)]))] [] (fun r _=>r = .bool (.lit true)):=by
  cases h:readyB c with
  |false=>exact law6t c ws ms hw hm h
  |true=>exact law6y c ws ms _ _ _ _ _ _ _ _ _ (ready_t.1 h).1 (ready_t.1 h).2 (picked43 c ws hw (ready_t.1 h).2) (picked43 c ms hm (ready_t.1 h).2) (pk_truth (ready_t.1 h).2 hw) (pk_truth (ready_t.1 h).2 hm) rfl rfl rfl
end Go.Proofs.Yteelocfbbhchcaa
