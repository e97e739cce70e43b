/- HeatNames: what the law computes. No condition. -/
import Derived.Test.YteelocfbbhchcaaT6
set_option linter.unusedVariables false
set_option linter.unusedSimpArgs false
set_option linter.deprecated false
set_option linter.all false

namespace Go.Proofs.Yteelocfbbhchcaa
open Go Go.Eng Go.Proofs
set_option maxRecDepth 10000
theorem vatA_ok {c:Clr}(hc:COk c) {v:Int}(h0:0≤v)(h1:v<c.vs.length):vatOk (vatA c v):=hc.ok.v v.toNat (by omega)
theorem vatA_nat (c:Clr)(v:Nat):vatA c (v:Int)=c.vs.getD v v0:=by unfold vatA;rw [Int.toNat_natCast]
theorem ways_fit {c:Clr} {l:List LookT} {o:List Int} {rm v:Int}(hv:vatOk (vatA c v)) {w:Int×Int}(h:w∈waysC c l v rm o):FitV c l o rm v w.1 w.2:=by
  have hv':=hv
  unfold vatOk at hv
  have:=mem_ways (by omega) h
  exact⟨this.2.1,this.2.2.1,this.2.2.2.1,by omega,this.1⟩
theorem fit_ways {c:Clr} {l:List LookT} {o:List Int} {rm v st rt:Int}(h:FitV c l o rm v st rt):0<(waysC c l v rm o).length:=some_fit h.fit h.s0 h.s1 h.r0 h.r1
theorem room_iff {c:Clr}(hc:COk c) {l:List LookT} {o:List Int} {rm:Int}:roomB c l o rm=true↔∀v:Nat,v<c.vs.length→∃st rt,FitV c l o rm v st rt:=by
  unfold roomB
  rw [allB_t]
  constructor
  · intro h v hv
    obtain⟨w,hw⟩:=some_mem (show 0<(waysC c l (v:Int) rm o).length from of_decide_eq_true (h v hv))
    exact⟨w.1,w.2,ways_fit (vatA_ok hc (by omega) (by omega)) hw⟩
  · intro h v hv
    obtain⟨st,rt,hf⟩:=h v hv
    exact decide_eq_true (fit_ways hf)
end Go.Proofs.Yteelocfbbhchcaa

namespace Go.Proofs.Yteelocfbbhchcaa
open Go Go.Eng Go.Proofs
set_option maxRecDepth 10000
theorem show_at {c:Clr} {l:List LookT} {rm:Int}:∀{n i:Nat},i<n→(showS c l rm n).getD i 0=smS c l (i:Int) rm []∧(showR c l rm n).getD i 0=smR c l (i:Int) rm []:=by
  intro n
  induction n with
  |zero=>intro i h;omega
  | succ n ih=>
    intro i h
    simp only [showS,showR]
    have hl:=showS_len c l rm n
    by_cases e:i=n
    · subst e
      exact⟨getD_app_eq hl.1.symm,getD_app_eq hl.2.symm⟩
    · rw [getD_app_lt (by omega),getD_app_lt (by omega)]
      exact ih (by omega)
theorem show_prove {c:Clr} {l:List LookT}(h:askE c l=0):proveB c l (shM c l) (shS c l) (shR c l)=true:=by
  obtain⟨h1,h2,h3⟩:=sh_yes h
  obtain⟨hC,hl⟩:=lookedF_spec (askE_ok h).1
  have hm:shM c l∈roomsL c l []:=by
    rw [h1]
    exact mem_getD (by have:=(askE_ok h).2;omega)
  obtain⟨g0,g1,g2⟩:=(mem_rooms hC.ok.r1).1 hm
  have hw:∀v:Nat,v<c.vs.length→FitV c l [] (shM c l) v ((shS c l).getD v 0) ((shR c l).getD v 0):=fun v hv=>by
    obtain⟨st,rt,hf⟩:=(room_iff hC).1 g2 v hv
    have hp:=fit_ways hf
    obtain⟨_,_,e1,e2⟩:=some_yes hp
    rw [h2,h3,(show_at hv).1,(show_at hv).2,e1,e2]
    refine ways_fit (vatA_ok hC (by omega) (by omega)) ?_
    rw [List.getD_eq_getElem?_getD,List.getElem?_eq_getElem hp]
    exact List.getElem_mem hp
  have hl1:=showS_len c l (shM c l) c.vs.length
  refine prove_yes (askE_ok h).1 (truthB_iff.2 ⟨g0,g1,by rw [h2];exact hl1.1,by rw [h3];exact hl1.2,fun v hv=> ?_⟩) fun v hv=>(hw v hv).fit
  have q:=hw v hv
  have a:=q.s0;have a1:=q.s1;have a2:=q.r0;have a3:=q.r1
  rw [vatA_nat]at a a1 a2 a3
  exact⟨⟨a,a1⟩,a2,a3⟩
end Go.Proofs.Yteelocfbbhchcaa

namespace Go.Proofs.Yteelocfbbhchcaa
open Go Go.Eng Go.Proofs
set_option maxRecDepth 10000
set_option maxHeartbeats 1000000 in
theorem show51y (c:Clr)(l:List LookT)(h:askE c l=0):FSpec Try.prog 51 [(clrS c),(lksS l)] [] (fun r _=>r=(.tup [(.agg [(.int .i64 (.sym fun _=>shM c l)),(.sl 1 (.sym fun _=>zi (shS c l).length) (fun ix=>[.int .i64 (.sym fun _=>(shS c l).getD ix.den.toNat 0)])),(.sl 1 (.sym fun _=>zi (shR c l).length) (fun ix=>[.int .i64 (.sym fun _=>(shR c l).getD ix.den.toNat 0)]))]),(.int .i64 (.sym fun _=>askE c l))])):=by
  have c71:=asked71 c l h
  have c92:=fun (i:Nat) (rm:Int) (hr:RoomIn c l rm) (hi:i<c.vs.length)=>(show FSpec Try.prog 92 [(wpS c l),(.int .i64 (.sym fun _=>rm)),(.int .i64 (.sym fun _=>zi i)),(.sl 1 (.sym fun _=>zi (([]:List Int)).length) (fun ix=>[.int .i64 (.sym fun _=>(([]:List Int)).getD ix.den.toNat 0)]))] [] (fun r _=>r=(.tup [(.agg [(.int .i64 (.sym fun _=>smM c l (zi i) rm [])),(.int .i64 (.sym fun _=>smS c l (zi i) rm [])),(.int .i64 (.sym fun _=>smR c l (zi i) rm []))]),(.bool (.sym fun _=>someB c l (zi i) rm []))]))from some92 c l rm (zi i) [] (lookedF_spec (askE_ok h).1).1 (lookedF_spec (askE_ok h).1).2 (by simp only [zi_den];omega) (by simp only [zi_den];omega) hr.r0 hr.r1 (by simp))
  refine FSpec.is fun R hR=>qX (sc:=sc51) tyok mix Try.func51 rfl Try.call51 (by kernel_rfl) (by kernel_rfl) ?_
  generalize Try.prog=P at c71 c92⊢
  cbv
  have hc:=(lookedF_spec (askE_ok h).1).1
  have hfv:=hc.few.v
  have hM:=sh_yes h
  have hlen:=rooms_len hc l []
  have hne:=(askE_ok h).2
  have hri:=roomIn_at hc (l:=l) (k:=0) (by omega)
  rw [←hM.1]at hri
  have h00:=hM.1
  obtain⟨rm,hrm⟩:∃r,r=shM c l:=⟨_,rfl⟩
  rw [←hrm]at hri h00
  repeat' (first
      |with_reducible refine hold ?_ ?_
      |with_reducible refine And.intro ?_ ?_
      |(with_reducible intro hcd;(try simp only [zA,zB,zC,zD,zE,zF,zG,zH,zI,zJ,zK,zL,zM,zN,zO,zP]at hcd);try cbv)
      | (refine qQ ?_ (c71) ?hfit
         case hfit=>((repeat' (first|exact qB|refine qD ?_ ?_|exact qE (by rfl)|exact qG (by rfl)|exact Fit.refl _|exact qA|refine qC ?_ rfl ?_));done)
         try cbv)
      |fail)
  all_goals first
    |trivial
    |((try simp only [qW]at *);(try simp only [zQ,zA,zB,zC,zD,zE,zF,zG,zH,zI,zJ,zK,zL,zM,zN,zO,zP,zR,zS]at *);first|(refine qO ?_;omega)|(simp only [Hold];omega))
    |skip
  refine⟨none,[⟨.cell 19 1,3,1⟩,⟨.cell 19 2,3,1⟩],{i:Nat // i≤c.vs.length},fun x=>⟨[(2,.own 0 0),(4,.own 1 0),(6,(wpS c l)),(9,.own 19 0),(30,(.int .i64 (.sym fun _=>zi c.vs.length))),(31,(.int .i64 (.sym fun _=>zi x.1)))],[(0,.cells [(.int .i64 (.sym fun _=>c.rl)),(.int .i64 (.sym fun _=>c.rh)),(.int .i64 (.sym fun _=>c.hr)),(.sl 4 (.sym fun _=>zi c.vs.length) (fun ix=>[(.int .i64 (.sym fun _=>(c.vs.getD ix.den.toNat v0).sl)),(.int .i64 (.sym fun _=>(c.vs.getD ix.den.toNat v0).sh)),(.int .i64 (.sym fun _=>(c.vs.getD ix.den.toNat v0).rl)),(.int .i64 (.sym fun _=>(c.vs.getD ix.den.toNat v0).rh))])),(.sl 2 (.sym fun _=>zi c.ts.length) (fun ix=>[(.int .i64 (.sym fun _=>(c.ts.getD ix.den.toNat t0).top)),(.sl 3 (.sym fun _=>zi ((c.ts.getD ix.den.toNat t0).ps).length) (fun jx=>[(.int .i64 (.sym fun _=>(((c.ts.getD ix.den.toNat t0).ps).getD jx.den.toNat p0).f)),(.int .i64 (.sym fun _=>(((c.ts.getD ix.den.toNat t0).ps).getD jx.den.toNat p0).el)),(.int .i64 (.sym fun _=>(((c.ts.getD ix.den.toNat t0).ps).getD jx.den.toNat p0).eh))]))]))] 40),(1,.cells [.int .i64 (.lit 0),.val (Value.slice none 0 0),.val (Value.slice none 0 0)] 45),(19,.cells [(.int .i64 (.sym fun _=>rm)),.row 25,.row 26] 45),(25,.row 3 1 (.sym fun _=>zi ((showS c l rm x.1)).length) (fun ix=>[.int .i64 (.sym fun _=>((showS c l rm x.1)).getD ix.den.toNat 0)])),(26,.row 3 1 (.sym fun _=>zi ((showR c l rm x.1)).length) (fun ix=>[.int .i64 (.sym fun _=>((showR c l rm x.1)).getD ix.den.toNat 0)]))],60⟩,fun x=>c.vs.length-x.1,?_,?_⟩
  · refine⟨⟨0,by omega⟩,?_⟩
    cbv
    repeat' (first
      |with_reducible refine hold ?_ ?_
      |with_reducible refine And.intro ?_ ?_)
    all_goals first
      |trivial
      |exact qN (qE (by rfl))
      |exact qN (Fit.refl _)
      |exact qM (qL _)
      |(refine qM (ble_row ?_ ?_);(first|rfl|((try simp only [qW]at *);(try simp only [zQ,zA,zB,zC,zD,zE,zF,zG,zH,zI,zJ,zK,zL,zM,zN,zO,zP,zR,zS]at *);omega));intro ix h0 h1;exfalso;(try simp only [qW]at *);(try simp only [zQ,zA,zB,zC,zD,zE,zF,zG,zH,zI,zJ,zK,zL,zM,zN,zO,zP,zR,zS]at *);omega)
      |(refine qM (qK (qC (qE h00.symm) rfl (qC (Fit.refl _) rfl (qC (Fit.refl _) rfl qA)))))
      |skip
  · rintro ⟨i,hi⟩
    cbv
    have hSl:=(showS_len c l rm i).1
    have hRl:=(showS_len c l rm i).2
    have hY:showS c l rm (i+1)=showS c l rm i++[smS c l (zi i) rm []]:=rfl
    have hZ:showR c l rm (i+1)=showR c l rm i++[smR c l (zi i) rm []]:=rfl
    obtain⟨S1,hS1⟩:∃M,M=showS c l rm i:=⟨_,rfl⟩
    obtain⟨S2,hS2⟩:∃M,M=showR c l rm i:=⟨_,rfl⟩
    rw [←hS1]at hSl hY⊢
    rw [←hS2]at hRl hZ⊢
    cbv
    repeat' (first
        |with_reducible refine hold ?_ ?_
        |with_reducible refine And.intro ?_ ?_
        |(with_reducible intro hcd;(try simp only [zA,zB,zC,zD,zE,zF,zG,zH,zI,zJ,zK,zL,zM,zN,zO,zP]at hcd);try cbv)
        | (refine Exists.intro (α:=Nat) 25 ?_
           cbv
           refine Exists.intro (α:=Nat) 26 ?_
           cbv)
        | (refine qQ ?_ (c92 i rm hri (by((try simp only [qW]at *);(try simp only [zQ,zA,zB,zC,zD,zE,zF,zG,zH,zI,zJ,zK,zL,zM,zN,zO,zP,zR,zS]at *);omega))) ?hfit
           case hfit=>((refine qD (Fit.refl _) (qD (qE (by rfl)) (qD (qE (by rfl)) (qD (qP rfl) qB))));done)
           try cbv)
        | (obtain⟨L2,eL2⟩:∃y:List Int,y=S1++[smS c l (zi i) rm []]:=⟨_,rfl⟩
           refine⟨intsE L2,?_⟩
           cbv
           refine hold (hold_rowlist (L:=S1) eL2 (by(first|rfl|((try simp only [qW]at *);(try simp only [zQ,zA,zB,zC,zD,zE,zF,zG,zH,zI,zJ,zK,zL,zM,zN,zO,zP,zR,zS]at *);done)|((try simp only [qW]at *);(try simp only [zQ,zA,zB,zC,zD,zE,zF,zG,zH,zI,zJ,zK,zL,zM,zN,zO,zP,zR,zS]at *);omega))) (by rfl) (fun ix=>Fit.refl _) (fun ix h=>qC (qE (by rfl)) rfl qA) (by(try simp only [qW]at *);(try simp only [zQ,zA,zB,zC,zD,zE,zF,zG,zH,zI,zJ,zK,zL,zM,zN,zO,zP,zR,zS]at *);omega)) (Or.inl ?_)
           try cbv)
        | (obtain⟨L3,eL3⟩:∃y:List Int,y=S2++[smR c l (zi i) rm []]:=⟨_,rfl⟩
           refine⟨intsE L3,?_⟩
           cbv
           refine hold (hold_rowlist (L:=S2) eL3 (by(first|rfl|((try simp only [qW]at *);(try simp only [zQ,zA,zB,zC,zD,zE,zF,zG,zH,zI,zJ,zK,zL,zM,zN,zO,zP,zR,zS]at *);done)|((try simp only [qW]at *);(try simp only [zQ,zA,zB,zC,zD,zE,zF,zG,zH,zI,zJ,zK,zL,zM,zN,zO,zP,zR,zS]at *);omega))) (by rfl) (fun ix=>Fit.refl _) (fun ix h=>qC (qE (by rfl)) rfl qA) (by(try simp only [qW]at *);(try simp only [zQ,zA,zB,zC,zD,zE,zF,zG,zH,zI,zJ,zK,zL,zM,zN,zO,zP,zR,zS]at *);omega)) (Or.inl ?_)
           try cbv)
        |fail)
    all_goals first
      |((try simp only [qW]at *);(try simp only [zQ,zA,zB,zC,zD,zE,zF,zG,zH,zI,zJ,zK,zL,zM,zN,zO,zP,zR,zS]at *);first|(refine qO ?_;omega)|(simp only [Hold];omega))
      |((have hie:i=c.vs.length:=(by((try simp only [qW]at *);(try simp only [zQ,zA,zB,zC,zD,zE,zF,zG,zH,zI,zJ,zK,zL,zM,zN,zO,zP,zR,zS]at *);omega)));(have e1:S1=shS c l:=by rw [hS1,hie,hrm];exact hM.2.1.symm);(have e2:S2=shR c l:=by rw [hS2,hie,hrm];exact hM.2.2.symm);subst hR;rw [←e1,←e2,←hrm];exact qD (Fit.refl _) (qD (qE h.symm) qB))
      |((try simp only [zQ,zA,zB,zC,zD,zE,zF,zG,zH,zI,zJ,zK,zL,zM,zN,zO,zP,zR,zS]at *);(have hx:showS c l rm (i+1)=L2:=hY.trans eL2.symm);(have hy:showR c l rm (i+1)=L3:=hZ.trans eL3.symm);refine⟨⟨i+1,by omega⟩,by simp only [];omega,?_⟩;cbv;(repeat' (first|with_reducible refine hold ?_ ?_|with_reducible refine And.intro ?_ ?_));(all_goals first|trivial|exact qN (qE (by rfl))|exact qN (qG (by rfl))|exact qN (Fit.refl _)|exact qM (qL _)|(refine qN (qE ?_);(try simp only [qW]at *);simp only [zQ,zA,zB,zC,zD,zE,zF,zG,zH,zI,zJ,zK,zL,zM,zN,zO,zP,zR,zS]at *;omega)|(refine qM (qK ?_);(repeat' (first|exact qA|exact qB|refine qC ?_ rfl ?_|refine qD ?_ ?_|exact qE (by rfl)|exact qG (by rfl)|exact Fit.refl _|exact qH _|(refine qE ?_;(try simp only [qW]at *);simp only [zQ,zA,zB,zC,zD,zE,zF,zG,zH,zI,zJ,zK,zL,zM,zN,zO,zP,zR,zS]at *;omega)));done)|(simp only [hx,hy];first|exact qM (qL _)|(refine qM (ble_row ?_ ?_)<;>first|rfl|(rw [eL2,List.length_append];rfl)|(rw [eL3,List.length_append];rfl)|((try simp only [qW]at *);(try simp only [zQ,zA,zB,zC,zD,zE,zF,zG,zH,zI,zJ,zK,zL,zM,zN,zO,zP,zR,zS,eL2,eL3,List.length_append,List.length_cons,List.length_nil]at *);omega)|(intro ix h0 h1;exact Fit.refl _)))|skip))
      |skip
theorem show51n (c:Clr)(l:List LookT)(h:¬askE c l=0):FSpec Try.prog 51 [(clrS c),(lksS l)] [] (fun r _=>r=(.tup [(.agg [(.int .i64 (.sym fun _=>shM c l)),(.sl 1 (.sym fun _=>zi (shS c l).length) (fun ix=>[.int .i64 (.sym fun _=>(shS c l).getD ix.den.toNat 0)])),(.sl 1 (.sym fun _=>zi (shR c l).length) (fun ix=>[.int .i64 (.sym fun _=>(shR c l).getD ix.den.toNat 0)]))]),(.int .i64 (.sym fun _=>askE c l))])):=by
  have c71:=asked71n c l h
  refine FSpec.is fun R hR=>qX (sc:=sc51) tyok mix Try.func51 rfl Try.call51 (by kernel_rfl) (by kernel_rfl) ?_
  generalize Try.prog=P at c71⊢
  cbv
  have hM:=sh_no h
  repeat' (first
      |with_reducible refine And.intro ?_ ?_
      |(with_reducible intro hcd;(try simp only [zA,zB,zC,zD,zE,zF,zG,zH,zI,zJ,zK,zL,zM,zN,zO,zP]at hcd);try cbv)
      | (refine qQ ?_ (c71) ?hfit
         case hfit=>((repeat' (first|exact qB|refine qD ?_ ?_|exact qE (by rfl)|exact qG (by rfl)|exact Fit.refl _|exact qA|refine qC ?_ rfl ?_));done)
         try cbv)
      |fail)
  all_goals first
    |trivial
    |(subst hR;exact qD (qC (qE hM.1.symm) rfl (qC (qP (by rw [hM.2.1];rfl)) rfl (qC (qP (by rw [hM.2.2];rfl)) rfl qA))) (qD (Fit.refl _) qB);done)
    |skip
theorem show51 (c:Clr)(l:List LookT):FSpec Try.prog 51 [(clrS c),(lksS l)] [] (fun r _=>r=(.tup [(.agg [(.int .i64 (.sym fun _=>shM c l)),(.sl 1 (.sym fun _=>zi (shS c l).length) (fun ix=>[.int .i64 (.sym fun _=>(shS c l).getD ix.den.toNat 0)])),(.sl 1 (.sym fun _=>zi (shR c l).length) (fun ix=>[.int .i64 (.sym fun _=>(shR c l).getD ix.den.toNat 0)]))]),(.int .i64 (.sym fun _=>askE c l))])):=by
  by_cases h:askE c l=0
  · exact show51y c l h
  · exact show51n c l h
end Go.Proofs.Yteelocfbbhchcaa

namespace Go.Proofs.Yteelocfbbhchcaa
open Go Go.Eng Go.Proofs
set_option maxRecDepth 10000
def sc12b :SC:=[(3,[⟨3,false,[],false,0,none⟩]),(9,[⟨4,false,[],false,0,none⟩]),(10,[⟨3,false,[],false,0,none⟩]),(11,[⟨3,false,[],false,0,none⟩]),(14,[⟨1,false,[],false,0,none⟩]),(15,[⟨2,false,[],false,0,none⟩]),(16,[⟨0,false,[],false,0,none⟩,⟨1004,false,[],false,0,none⟩,⟨1006,false,[],false,0,none⟩]),(5,[⟨0,true,[],false,0,none⟩,⟨1,true,[0],false,0,none⟩,⟨2,true,[0,1],true,0,none⟩,⟨3,false,[0,1,2],false,0,none⟩,⟨4,false,[0,1,2],false,0,none⟩,⟨5,true,[0,1,2,3,4],false,0,none⟩,⟨6,true,[0,1,2,3,4,5],false,0,none⟩,⟨7,true,[0,1,2,3,4,5,6],true,0,none⟩,⟨8,true,[0,1,2,3,4,5,6,7],false,0,none⟩,⟨9,true,[0,1,2,3,4,5,6,7,8],false,0,none⟩,⟨10,true,[0,1,2,3,4,5,6,7,8,9],false,0,none⟩,⟨11,true,[0,1,2,3,4,5,6,7,8,9,10],true,0,none⟩,⟨12,true,[0,1,2,3,4,5,6,7,8,9,10,11],false,0,none⟩,⟨13,true,[0,1,2,3,4,5,6,7,8,9,10,11,12],false,0,none⟩,⟨14,true,[0,1,2,3,4,5,6,7,8,9,10,11,12,13],false,0,none⟩,⟨15,true,[0,1,2,3,4,5,6,7,8,9,10,11,12,13,14],false,0,none⟩,⟨16,true,[0,1,2,3,4,5,6,7,8,9,10,11,12,13,14,15],true,0,none⟩,⟨17,false,[0,1,2,3,4,5,6,7,8,9,10,11,12,13,14,15,16],false,0,none⟩,⟨18,false,[0,1,2,3,4,5,6,7,8,9,10,11,12,13,14,15,16,17],false,0,none⟩,⟨19,false,[0,1,2,3,4,5,6,7,8,9,10,11,12,13,14,15,16,17,18],false,0,none⟩,⟨20,false,[0,1,2,3,4,5,6,7,8,9,10,11,12,13,14,15,16],false,0,none⟩,⟨21,false,[0,1,2,3,4,5,6,7,8,9,10,11,12,13,14,15,16,20],false,0,none⟩,⟨22,false,[0,1,2,3,4,5,6,7,8,9,10,11,12,13,14,15,16,20,21],false,0,none⟩,⟨23,false,[0,1,2,3,4,5,6,7,8,9,10,11,12,13,14,15,16,20,21,22],false,0,none⟩,⟨24,false,[0,1,2,3,4,5,6,7,8,9,10,11,12,13,14,15,16,20,21,22,23],false,0,none⟩,⟨25,true,[0,1,2,3,4,5,6,7,8,9,10,11,12,13,14,15,16,17,18,19,20,21,22,23,24],false,0,none⟩,⟨26,true,[0,1,2,3,4,5,6,7,8,9,10,11,12,13,14,15,16,17,18,19,20,21,22,23,24,25],false,0,none⟩,⟨27,true,[0,1,2,3,4,5,6,7,8,9,10,11,12,13,14,15,16,17,18,19,20,21,22,23,24,25,26],false,0,none⟩,⟨28,true,[0,1,2,3,4,5,6,7,8,9,10,11,12,13,14,15,16,17,18,19,20,21,22,23,24,25,26,27],true,0,none⟩,⟨29,true,[0,1,2,3,4,5,6,7,8,9,10,11,12,13,14,15,16,17,18,19,20,21,22,23,24,25,26,27,28],false,0,none⟩,⟨30,true,[0,1,2,3,4,5,6,7,8,9,10,11,12,13,14,15,16,17,18,19,20,21,22,23,24,25,26,27,28,29],false,0,none⟩,⟨31,true,[0,1,2,3,4,5,6,7,8,9,10,11,12,13,14,15,16,17,18,19,20,21,22,23,24,25,26,27,28,29,30],false,0,none⟩,⟨32,true,[0,1,2,3,4,5,6,7,8,9,10,11,12,13,14,15,16,17,18,19,20,21,22,23,24,25,26,27,28,29,30,31],true,0,none⟩,⟨34,false,[0,1,2,3,4,5,6,7,8,9,10,11,12,13,14,15,16,17,18,19,20,21,22,23,24,25,26,27,28,29,30,31,32],false,0,none⟩,⟨35,false,[0,1,2,3,4,5,6,7,8,9,10,11,12,13,14,15,16,17,18,19,20,21,22,23,24,25,26,27,28,29,30,31,32,34],false,0,none⟩,⟨36,false,[0,1,2,3,4,5,6,7,8,9,10,11,12,13,14,15,16,17,18,19,20,21,22,23,24,25,26,27,28,29,30,31,32],false,0,none⟩,⟨33,false,[0,1,2,3,4,5,6,7,8,9,10,11,12,13,14,15,16,17,18,19,20,21,22,23,24,25,26,27,28,29,30,31,32],false,0,none⟩,⟨37,true,[0,1,2,3,4,5,6,7,8,9,10,11,12,13,14,15,16,17,18,19,20,21,22,23,24,25,26,27,28,29,30,31,32,33,34,35,36],false,0,none⟩,⟨38,true,[0,1,2,3,4,5,6,7,8,9,10,11,12,13,14,15,16,17,18,19,20,21,22,23,24,25,26,27,28,29,30,31,32,33,34,35,36,37],false,0,none⟩,⟨39,true,[0,1,2,3,4,5,6,7,8,9,10,11,12,13,14,15,16,17,18,19,20,21,22,23,24,25,26,27,28,29,30,31,32,33,34,35,36,37,38],false,0,none⟩,⟨40,true,[0,1,2,3,4,5,6,7,8,9,10,11,12,13,14,15,16,17,18,19,20,21,22,23,24,25,26,27,28,29,30,31,32,33,34,35,36,37,38,39],true,0,none⟩,⟨41,true,[0,1,2,3,4,5,6,7,8,9,10,11,12,13,14,15,16,17,18,19,20,21,22,23,24,25,26,27,28,29,30,31,32,33,34,35,36,37,38,39,40],false,0,none⟩,⟨42,true,[0,1,2,3,4,5,6,7,8,9,10,11,12,13,14,15,16,17,18,19,20,21,22,23,24,25,26,27,28,29,30,31,32,33,34,35,36,37,38,39,40,41],false,0,none⟩,⟨43,true,[0,1,2,3,4,5,6,7,8,9,10,11,12,13,14,15,16,17,18,19,20,21,22,23,24,25,26,27,28,29,30,31,32,33,34,35,36,37,38,39,40,41,42],false,0,none⟩,⟨44,true,[0,1,2,3,4,5,6,7,8,9,10,11,12,13,14,15,16,17,18,19,20,21,22,23,24,25,26,27,28,29,30,31,32,33,34,35,36,37,38,39,40,41,42,43],true,0,none⟩,⟨45,true,[0,1,2,3,4,5,6,7,8,9,10,11,12,13,14,15,16,17,18,19,20,21,22,23,24,25,26,27,28,29,30,31,32,33,34,35,36,37,38,39,40,41,42,43,44],false,0,none⟩,⟨46,true,[0,1,2,3,4,5,6,7,8,9,10,11,12,13,14,15,16,17,18,19,20,21,22,23,24,25,26,27,28,29,30,31,32,33,34,35,36,37,38,39,40,41,42,43,44,45],false,0,none⟩,⟨47,true,[0,1,2,3,4,5,6,7,8,9,10,11,12,13,14,15,16,17,18,19,20,21,22,23,24,25,26,27,28,29,30,31,32,33,34,35,36,37,38,39,40,41,42,43,44,45,46],false,0,none⟩,⟨48,true,[0,1,2,3,4,5,6,7,8,9,10,11,12,13,14,15,16,17,18,19,20,21,22,23,24,25,26,27,28,29,30,31,32,33,34,35,36,37,38,39,40,41,42,43,44,45,46,47],false,0,none⟩]),(12,[⟨1,false,[],false,0,none⟩,⟨0,false,[],false,0,none⟩,⟨2,true,[0,1],false,0,none⟩,⟨3,true,[0,1,2],false,0,none⟩,⟨4,false,[0,1,2,3],false,0,none⟩,⟨5,false,[0,1,2,3],false,0,none⟩,⟨6,false,[0,1,2,3,4],false,0,none⟩,⟨7,true,[0,1,2,3,4,5,6],false,0,none⟩]),(20,[⟨0,false,[],false,0,none⟩,⟨1,false,[0],false,0,none⟩,⟨2,false,[],false,0,none⟩,⟨3,true,[0,1,2],false,0,none⟩,⟨4,true,[0,1,2,3],false,0,none⟩,⟨5,true,[0,1,2,3,4],false,0,none⟩]),(23,[⟨0,false,[],false,0,none⟩,⟨1,false,[0],false,0,none⟩,⟨2,false,[0,1],false,0,none⟩,⟨3,false,[0,1,2],false,0,none⟩,⟨4,false,[0,1,2,3],false,0,none⟩,⟨5,false,[],false,0,none⟩,⟨6,true,[0,1,2,3,4,5],false,0,none⟩,⟨7,true,[0,1,2,3,4,5,6],false,0,none⟩,⟨8,true,[0,1,2,3,4,5,6,7],false,0,none⟩]),(25,[⟨0,false,[],false,0,none⟩,⟨1,false,[0],false,0,none⟩,⟨2,false,[],false,0,none⟩,⟨3,true,[0,1,2],false,0,none⟩,⟨4,true,[0,1,2,3],false,0,none⟩,⟨5,true,[0,1,2,3,4],false,0,none⟩])]
def le3 :List LookT:=[⟨0,0,0,99⟩]
def lc3 :List LookT:=[⟨0,4,0,0⟩]
def l73 :List LookT:=[⟨0,0,0,0⟩,⟨0,0,0,0⟩,⟨0,0,0,0⟩,⟨0,0,0,0⟩,⟨0,0,0,0⟩,⟨0,0,0,0⟩,⟨0,0,0,0⟩]
def p63 :List PorT:=[⟨0,0,0⟩,⟨0,0,0⟩,⟨0,0,0⟩,⟨0,0,0⟩,⟨0,0,0⟩,⟨0,0,0⟩]
def p13 :List PorT:=[⟨1001,0,0⟩]
def room3 :Clr:=⟨50,71,3,two3.vs,two3.ts⟩
def hours3 :Clr:=⟨50,52,9,two3.vs,two3.ts⟩
def start3 :Clr:=⟨50,52,3,[⟨80,201,20,30⟩,⟨40,40,50,50⟩],two3.ts⟩
def rate3 :Clr:=⟨50,52,3,[⟨80,90,90,101⟩,⟨40,40,50,50⟩],two3.ts⟩
def from3 :Clr:=⟨50,52,3,two3.vs,[⟨120,[⟨0,-1,1⟩,⟨0,0,2⟩]⟩]⟩
def top3 :Clr:=⟨50,52,3,two3.vs,[⟨69,[⟨0,-1,1⟩,⟨70,0,2⟩]⟩]⟩
def wrong3 :Clr:=⟨50,52,3,two3.vs,[⟨120,[⟨0,-11,0⟩,⟨70,0,2⟩]⟩]⟩
def many3 :Clr:=⟨50,52,3,[v0,v0,v0,v0],two3.ts⟩
def parts3 :Clr:=⟨50,52,3,two3.vs,[⟨120,[p0,p0,p0,p0,p0]⟩]⟩
def none3 :Clr:=⟨0,0,0,[],[]⟩
theorem mean69 :FSpec Try.prog 16 [(clrS two3),(.int .i64 (.sym fun _=>0)),(.int .i64 (.sym fun _=>69))] [] (fun r _=>r=(.tup [(.agg [(.int .i64 (.lit (68))),(.int .i64 (.lit (70)))]),(.int .i64 (.lit (0)))])):=
  (mean16 two3 0 69).post fun r bs h=>⟨_,by subst h;(repeat' (first|exact qA|exact qB|refine qC ?_ rfl ?_|refine qD ?_ ?_|exact qE (by rfl)|exact qG (by rfl)|exact qE (by kernel_rfl)|exact qG (by kernel_rfl)|exact Fit.refl _|(exact qP (by rfl))|(first|(refine fit_sl (by rfl) (fun ix h0 h1=> ?_);(have h2:ix.den<2:=h1);(have hx:ix.den.toNat=0∨ix.den.toNat=1:=by omega);(rcases hx with hx|hx<;>simp only [hx]))|(refine fit_sl (by rfl) (fun ix h0 h1=> ?_);(have h2:ix.den<3:=h1);(have hx:ix.den.toNat=0∨ix.den.toNat=1∨ix.den.toNat=2:=by omega);(rcases hx with hx|hx|hx<;>simp only [hx]))|(refine fit_sl (by rfl) (fun ix h0 h1=> ?_);(have h2:ix.den<4:=h1);(have hx:ix.den.toNat=0∨ix.den.toNat=1∨ix.den.toNat=2∨ix.den.toNat=3:=by omega);(rcases hx with hx|hx|hx|hx<;>simp only [hx]))|(refine fit_sl (by rfl) (fun ix h0 h1=> ?_);(have h2:ix.den<1:=h1);(have hx:ix.den.toNat=0:=by omega);(rcases hx with hx<;>simp only [hx]))|(refine fit_sl (by rfl) (fun ix h0 h1=> ?_);(have h2:ix.den<5:=h1);(have hx:ix.den.toNat=0∨ix.den.toNat=1∨ix.den.toNat=2∨ix.den.toNat=3∨ix.den.toNat=4:=by omega);(rcases hx with hx|hx|hx|hx|hx<;>simp only [hx]))))),rfl⟩
theorem meanx1 :FSpec Try.prog 16 [(clrS two3),(.int .i64 (.sym fun _=>1)),(.int .i64 (.sym fun _=>69))] [] (fun r _=>r=(.tup [.any,(.int .i64 (.lit (2)))])):=
  (mean16 two3 1 69).post fun r bs h=>⟨_,by subst h;exact qD (qH _) (qD (qE (by kernel_rfl)) qB),rfl⟩
theorem meanx2 :FSpec Try.prog 16 [(clrS two3),(.int .i64 (.sym fun _=>0)),(.int .i64 (.sym fun _=>121))] [] (fun r _=>r=(.tup [.any,(.int .i64 (.lit (2)))])):=
  (mean16 two3 0 121).post fun r bs h=>⟨_,by subst h;exact qD (qH _) (qD (qE (by kernel_rfl)) qB),rfl⟩
theorem playx :FSpec Try.prog 18 [(clrS two3),(.agg [(.int .i64 (.sym fun _=>53)),(.sl 1 (.sym fun _=>zi ([80,40]).length) (fun ix=>[.int .i64 (.sym fun _=>([80,40]).getD ix.den.toNat 0)])),(.sl 1 (.sym fun _=>zi ([20,50]).length) (fun ix=>[.int .i64 (.sym fun _=>([20,50]).getD ix.den.toNat 0)]))])] [] (fun r _=>r=(.tup [.any,(.int .i64 (.lit (2)))])):=
  (play18 two3 53 [80,40] [20,50] (by decide)).post fun r bs h=>⟨_,by subst h;exact qD (qH _) (qD (qE (by kernel_rfl)) qB),rfl⟩
theorem boundsx :FSpec Try.prog 30 [(clrS two3),(.sl 4 (.sym fun _=>zi (le3).length) (fun ix=>[(.int .i64 (.sym fun _=>((le3).getD ix.den.toNat k0).v)),(.int .i64 (.sym fun _=>((le3).getD ix.den.toNat k0).h)),(.int .i64 (.sym fun _=>((le3).getD ix.den.toNat k0).t)),(.int .i64 (.sym fun _=>((le3).getD ix.den.toNat k0).s))]))] [] (fun r _=>r=(.tup [.any,(.int .i64 (.lit (11)))])):=
  (bounds30 two3 le3).post fun r bs h=>⟨_,by subst h;exact qD (qH _) (qD (qE (by kernel_rfl)) qB),rfl⟩
theorem coolx :FSpec Try.prog 32 [(clrS two3),(.sl 4 (.sym fun _=>zi (lc3).length) (fun ix=>[(.int .i64 (.sym fun _=>((lc3).getD ix.den.toNat k0).v)),(.int .i64 (.sym fun _=>((lc3).getD ix.den.toNat k0).h)),(.int .i64 (.sym fun _=>((lc3).getD ix.den.toNat k0).t)),(.int .i64 (.sym fun _=>((lc3).getD ix.den.toNat k0).s))])),(.int .i64 (.sym fun _=>70))] [] (fun r _=>r=(.tup [.any,.any,(.int .i64 (.lit (2)))])):=
  (cool32 two3 lc3 70).post fun r bs h=>⟨_,by subst h;exact qD (qH _) (qD (qH _) (qD (qE (by kernel_rfl)) qB)),rfl⟩
theorem leavex :FSpec Try.prog 45 [(clrS two3),(.sl 4 (.sym fun _=>zi (l73).length) (fun ix=>[(.int .i64 (.sym fun _=>((l73).getD ix.den.toNat k0).v)),(.int .i64 (.sym fun _=>((l73).getD ix.den.toNat k0).h)),(.int .i64 (.sym fun _=>((l73).getD ix.den.toNat k0).t)),(.int .i64 (.sym fun _=>((l73).getD ix.den.toNat k0).s))]))] [] (fun r _=>r=(.tup [.any,(.int .i64 (.lit (3)))])):=
  (leave45 two3 l73).post fun r bs h=>⟨_,by subst h;exact qD (qH _) (qD (qE (by kernel_rfl)) qB),rfl⟩
theorem mixx0 :FSpec Try.prog 38 [(.sl 3 (.sym fun _=>zi (([]:List PorT)).length) (fun ix=>[(.int .i64 (.sym fun _=>((([]:List PorT)).getD ix.den.toNat q0).q)),(.int .i64 (.sym fun _=>((([]:List PorT)).getD ix.den.toNat q0).lo)),(.int .i64 (.sym fun _=>((([]:List PorT)).getD ix.den.toNat q0).hi))]))] [] (fun r _=>r=(.tup [(.agg [(.int .i64 (.sym fun _=>mxLo ([]:List PorT))),(.int .i64 (.sym fun _=>mxHi ([]:List PorT)))]),(.int .i64 (.lit (1)))])):=
  (mix38 [] (by decide)).post fun r bs h=>⟨_,by subst h;exact qD (Fit.refl _) (qD (qE (by kernel_rfl)) qB),rfl⟩
theorem mixx6 :FSpec Try.prog 38 [(.sl 3 (.sym fun _=>zi (p63).length) (fun ix=>[(.int .i64 (.sym fun _=>((p63).getD ix.den.toNat q0).q)),(.int .i64 (.sym fun _=>((p63).getD ix.den.toNat q0).lo)),(.int .i64 (.sym fun _=>((p63).getD ix.den.toNat q0).hi))]))] [] (fun r _=>r=(.tup [(.agg [(.int .i64 (.sym fun _=>mxLo p63)),(.int .i64 (.sym fun _=>mxHi p63))]),(.int .i64 (.lit (3)))])):=
  (mix38 p63 (by decide)).post fun r bs h=>⟨_,by subst h;exact qD (Fit.refl _) (qD (qE (by kernel_rfl)) qB),rfl⟩
theorem mixx1 :FSpec Try.prog 38 [(.sl 3 (.sym fun _=>zi (p13).length) (fun ix=>[(.int .i64 (.sym fun _=>((p13).getD ix.den.toNat q0).q)),(.int .i64 (.sym fun _=>((p13).getD ix.den.toNat q0).lo)),(.int .i64 (.sym fun _=>((p13).getD ix.den.toNat q0).hi))]))] [] (fun r _=>r=(.tup [(.agg [(.int .i64 (.sym fun _=>mxLo p13)),(.int .i64 (.sym fun _=>mxHi p13))]),(.int .i64 (.lit (1)))])):=
  (mix38 p13 (by decide)).post fun r bs h=>⟨_,by subst h;exact qD (Fit.refl _) (qD (qE (by kernel_rfl)) qB),rfl⟩
theorem ask3_is :askE two3 la3=0:=by kernel_rfl
theorem leave0_is :leaveL two3 []=[]:=by kernel_rfl
theorem show3 :FSpec Try.prog 51 [(clrS two3),(lksS la3)] [] (fun r _=>r=(.tup [(.agg [(.int .i64 (.sym fun _=>shM two3 la3)),(.sl 1 (.sym fun _=>zi (shS two3 la3).length) (fun ix=>[.int .i64 (.sym fun _=>(shS two3 la3).getD ix.den.toNat 0)])),(.sl 1 (.sym fun _=>zi (shR two3 la3).length) (fun ix=>[.int .i64 (.sym fun _=>(shR two3 la3).getD ix.den.toNat 0)]))]),(.int .i64 (.lit (0)))])):=
  (show51 two3 la3).post fun r bs q=>⟨_,by subst q;exact qD (Fit.refl _) (qD (qE ask3_is) qB),rfl⟩
theorem prove3 :FSpec Try.prog 49 [(clrS two3),(lksS la3),(.agg [(.int .i64 (.sym fun _=>shM two3 la3)),(.sl 1 (.sym fun _=>zi (shS two3 la3).length) (fun ix=>[.int .i64 (.sym fun _=>(shS two3 la3).getD ix.den.toNat 0)])),(.sl 1 (.sym fun _=>zi (shR two3 la3).length) (fun ix=>[.int .i64 (.sym fun _=>(shR two3 la3).getD ix.den.toNat 0)]))])] [] (fun r _=>r = .bool (.lit true)):=
  (prove49 two3 la3 (shM two3 la3) (shS two3 la3) (shR two3 la3) (by decide)).post fun r bs q=>⟨_,by subst q;exact qG (show_prove ask3_is),rfl⟩
theorem leave0 :FSpec Try.prog 45 [(clrS two3),(lksS ([]:List LookT))] [] (fun r _=>r=(.tup [(.sl 1 (.lit 0) (fun ix=>[.int .i64 (.sym fun _=>(leaveL two3 []).getD ix.den.toNat 0)])),(.int .i64 (.lit (0)))])):=
  (leave45 two3 []).post fun r bs q=>⟨_,by subst q;exact qD (fit_sl (congrArg zi (congrArg List.length leave0_is)) (fun _ _ _=>Fit.refl _)) (qD (qE (by kernel_rfl)) qB),rfl⟩
theorem spans3c :FSpec Try.prog 53 [(.sl 2 (.sym fun _=>zi ((B3.getD 1 [])).length) (fun ix=>[(.int .i64 (.sym fun _=>(((B3.getD 1 [])).getD ix.den.toNat (0,0)).1)),(.int .i64 (.sym fun _=>(((B3.getD 1 [])).getD ix.den.toNat (0,0)).2))])),(.sl 2 (.sym fun _=>zi ((B3.getD 1 [])).length) (fun ix=>[(.int .i64 (.sym fun _=>(((B3.getD 1 [])).getD ix.den.toNat (0,0)).1)),(.int .i64 (.sym fun _=>(((B3.getD 1 [])).getD ix.den.toNat (0,0)).2))]))] [] (fun r _=>r=(.bool (.lit true))):=
  (spans53 ((B3.getD 1 [])).length ((B3.getD 1 [])).length (fun n=>(((B3.getD 1 [])).getD n (0,0)).1) (fun n=>(((B3.getD 1 [])).getD n (0,0)).2) (fun n=>(((B3.getD 1 [])).getD n (0,0)).1) (fun n=>(((B3.getD 1 [])).getD n (0,0)).2) (by decide) (by decide)).post fun r bs h=>⟨_,by subst h;(repeat' (first|exact qA|exact qB|refine qC ?_ rfl ?_|refine qD ?_ ?_|exact qE (by rfl)|exact qG (by rfl)|exact qE (by kernel_rfl)|exact qG (by kernel_rfl)|exact Fit.refl _|(exact qP (by rfl))|(first|(refine fit_sl (by rfl) (fun ix h0 h1=> ?_);(have h2:ix.den<2:=h1);(have hx:ix.den.toNat=0∨ix.den.toNat=1:=by omega);(rcases hx with hx|hx<;>simp only [hx]))|(refine fit_sl (by rfl) (fun ix h0 h1=> ?_);(have h2:ix.den<3:=h1);(have hx:ix.den.toNat=0∨ix.den.toNat=1∨ix.den.toNat=2:=by omega);(rcases hx with hx|hx|hx<;>simp only [hx]))|(refine fit_sl (by rfl) (fun ix h0 h1=> ?_);(have h2:ix.den<4:=h1);(have hx:ix.den.toNat=0∨ix.den.toNat=1∨ix.den.toNat=2∨ix.den.toNat=3:=by omega);(rcases hx with hx|hx|hx|hx<;>simp only [hx]))|(refine fit_sl (by rfl) (fun ix h0 h1=> ?_);(have h2:ix.den<1:=h1);(have hx:ix.den.toNat=0:=by omega);(rcases hx with hx<;>simp only [hx]))|(refine fit_sl (by rfl) (fun ix h0 h1=> ?_);(have h2:ix.den<5:=h1);(have hx:ix.den.toNat=0∨ix.den.toNat=1∨ix.den.toNat=2∨ix.den.toNat=3∨ix.den.toNat=4:=by omega);(rcases hx with hx|hx|hx|hx|hx<;>simp only [hx]))))),rfl⟩
theorem ck_room3 :FSpec Try.prog 21 [(.agg [(.int .i64 (.sym fun _=>room3.rl)),(.int .i64 (.sym fun _=>room3.rh)),(.int .i64 (.sym fun _=>room3.hr)),(.sl 4 (.sym fun _=>zi room3.vs.length) (fun ix=>[(.int .i64 (.sym fun _=>(room3.vs.getD ix.den.toNat v0).sl)),(.int .i64 (.sym fun _=>(room3.vs.getD ix.den.toNat v0).sh)),(.int .i64 (.sym fun _=>(room3.vs.getD ix.den.toNat v0).rl)),(.int .i64 (.sym fun _=>(room3.vs.getD ix.den.toNat v0).rh))])),(.sl 2 (.sym fun _=>zi room3.ts.length) (fun ix=>[(.int .i64 (.sym fun _=>(room3.ts.getD ix.den.toNat t0).top)),(.sl 3 (.sym fun _=>zi ((room3.ts.getD ix.den.toNat t0).ps).length) (fun jx=>[(.int .i64 (.sym fun _=>(((room3.ts.getD ix.den.toNat t0).ps).getD jx.den.toNat p0).f)),(.int .i64 (.sym fun _=>(((room3.ts.getD ix.den.toNat t0).ps).getD jx.den.toNat p0).el)),(.int .i64 (.sym fun _=>(((room3.ts.getD ix.den.toNat t0).ps).getD jx.den.toNat p0).eh))]))]))])] [] (fun r _=>r=(.int .i64 (.lit (1)))):=
  (check21 room3).post fun r bs h=>⟨_,by subst h;(repeat' (first|exact qA|exact qB|refine qC ?_ rfl ?_|refine qD ?_ ?_|exact qE (by rfl)|exact qG (by rfl)|exact qE (by kernel_rfl)|exact qG (by kernel_rfl)|exact Fit.refl _|(exact qP (by rfl))|(first|(refine fit_sl (by rfl) (fun ix h0 h1=> ?_);(have h2:ix.den<2:=h1);(have hx:ix.den.toNat=0∨ix.den.toNat=1:=by omega);(rcases hx with hx|hx<;>simp only [hx]))|(refine fit_sl (by rfl) (fun ix h0 h1=> ?_);(have h2:ix.den<3:=h1);(have hx:ix.den.toNat=0∨ix.den.toNat=1∨ix.den.toNat=2:=by omega);(rcases hx with hx|hx|hx<;>simp only [hx]))|(refine fit_sl (by rfl) (fun ix h0 h1=> ?_);(have h2:ix.den<4:=h1);(have hx:ix.den.toNat=0∨ix.den.toNat=1∨ix.den.toNat=2∨ix.den.toNat=3:=by omega);(rcases hx with hx|hx|hx|hx<;>simp only [hx]))|(refine fit_sl (by rfl) (fun ix h0 h1=> ?_);(have h2:ix.den<1:=h1);(have hx:ix.den.toNat=0:=by omega);(rcases hx with hx<;>simp only [hx]))|(refine fit_sl (by rfl) (fun ix h0 h1=> ?_);(have h2:ix.den<5:=h1);(have hx:ix.den.toNat=0∨ix.den.toNat=1∨ix.den.toNat=2∨ix.den.toNat=3∨ix.den.toNat=4:=by omega);(rcases hx with hx|hx|hx|hx|hx<;>simp only [hx]))))),rfl⟩
theorem ck_hours3 :FSpec Try.prog 21 [(.agg [(.int .i64 (.sym fun _=>hours3.rl)),(.int .i64 (.sym fun _=>hours3.rh)),(.int .i64 (.sym fun _=>hours3.hr)),(.sl 4 (.sym fun _=>zi hours3.vs.length) (fun ix=>[(.int .i64 (.sym fun _=>(hours3.vs.getD ix.den.toNat v0).sl)),(.int .i64 (.sym fun _=>(hours3.vs.getD ix.den.toNat v0).sh)),(.int .i64 (.sym fun _=>(hours3.vs.getD ix.den.toNat v0).rl)),(.int .i64 (.sym fun _=>(hours3.vs.getD ix.den.toNat v0).rh))])),(.sl 2 (.sym fun _=>zi hours3.ts.length) (fun ix=>[(.int .i64 (.sym fun _=>(hours3.ts.getD ix.den.toNat t0).top)),(.sl 3 (.sym fun _=>zi ((hours3.ts.getD ix.den.toNat t0).ps).length) (fun jx=>[(.int .i64 (.sym fun _=>(((hours3.ts.getD ix.den.toNat t0).ps).getD jx.den.toNat p0).f)),(.int .i64 (.sym fun _=>(((hours3.ts.getD ix.den.toNat t0).ps).getD jx.den.toNat p0).el)),(.int .i64 (.sym fun _=>(((hours3.ts.getD ix.den.toNat t0).ps).getD jx.den.toNat p0).eh))]))]))])] [] (fun r _=>r=(.int .i64 (.lit (1)))):=
  (check21 hours3).post fun r bs h=>⟨_,by subst h;(repeat' (first|exact qA|exact qB|refine qC ?_ rfl ?_|refine qD ?_ ?_|exact qE (by rfl)|exact qG (by rfl)|exact qE (by kernel_rfl)|exact qG (by kernel_rfl)|exact Fit.refl _|(exact qP (by rfl))|(first|(refine fit_sl (by rfl) (fun ix h0 h1=> ?_);(have h2:ix.den<2:=h1);(have hx:ix.den.toNat=0∨ix.den.toNat=1:=by omega);(rcases hx with hx|hx<;>simp only [hx]))|(refine fit_sl (by rfl) (fun ix h0 h1=> ?_);(have h2:ix.den<3:=h1);(have hx:ix.den.toNat=0∨ix.den.toNat=1∨ix.den.toNat=2:=by omega);(rcases hx with hx|hx|hx<;>simp only [hx]))|(refine fit_sl (by rfl) (fun ix h0 h1=> ?_);(have h2:ix.den<4:=h1);(have hx:ix.den.toNat=0∨ix.den.toNat=1∨ix.den.toNat=2∨ix.den.toNat=3:=by omega);(rcases hx with hx|hx|hx|hx<;>simp only [hx]))|(refine fit_sl (by rfl) (fun ix h0 h1=> ?_);(have h2:ix.den<1:=h1);(have hx:ix.den.toNat=0:=by omega);(rcases hx with hx<;>simp only [hx]))|(refine fit_sl (by rfl) (fun ix h0 h1=> ?_);(have h2:ix.den<5:=h1);(have hx:ix.den.toNat=0∨ix.den.toNat=1∨ix.den.toNat=2∨ix.den.toNat=3∨ix.den.toNat=4:=by omega);(rcases hx with hx|hx|hx|hx|hx<;>simp only [hx]))))),rfl⟩
theorem ck_start3 :FSpec Try.prog 21 [(.agg [(.int .i64 (.sym fun _=>start3.rl)),(.int .i64 (.sym fun _=>start3.rh)),(.int .i64 (.sym fun _=>start3.hr)),(.sl 4 (.sym fun _=>zi start3.vs.length) (fun ix=>[(.int .i64 (.sym fun _=>(start3.vs.getD ix.den.toNat v0).sl)),(.int .i64 (.sym fun _=>(start3.vs.getD ix.den.toNat v0).sh)),(.int .i64 (.sym fun _=>(start3.vs.getD ix.den.toNat v0).rl)),(.int .i64 (.sym fun _=>(start3.vs.getD ix.den.toNat v0).rh))])),(.sl 2 (.sym fun _=>zi start3.ts.length) (fun ix=>[(.int .i64 (.sym fun _=>(start3.ts.getD ix.den.toNat t0).top)),(.sl 3 (.sym fun _=>zi ((start3.ts.getD ix.den.toNat t0).ps).length) (fun jx=>[(.int .i64 (.sym fun _=>(((start3.ts.getD ix.den.toNat t0).ps).getD jx.den.toNat p0).f)),(.int .i64 (.sym fun _=>(((start3.ts.getD ix.den.toNat t0).ps).getD jx.den.toNat p0).el)),(.int .i64 (.sym fun _=>(((start3.ts.getD ix.den.toNat t0).ps).getD jx.den.toNat p0).eh))]))]))])] [] (fun r _=>r=(.int .i64 (.lit (1)))):=
  (check21 start3).post fun r bs h=>⟨_,by subst h;(repeat' (first|exact qA|exact qB|refine qC ?_ rfl ?_|refine qD ?_ ?_|exact qE (by rfl)|exact qG (by rfl)|exact qE (by kernel_rfl)|exact qG (by kernel_rfl)|exact Fit.refl _|(exact qP (by rfl))|(first|(refine fit_sl (by rfl) (fun ix h0 h1=> ?_);(have h2:ix.den<2:=h1);(have hx:ix.den.toNat=0∨ix.den.toNat=1:=by omega);(rcases hx with hx|hx<;>simp only [hx]))|(refine fit_sl (by rfl) (fun ix h0 h1=> ?_);(have h2:ix.den<3:=h1);(have hx:ix.den.toNat=0∨ix.den.toNat=1∨ix.den.toNat=2:=by omega);(rcases hx with hx|hx|hx<;>simp only [hx]))|(refine fit_sl (by rfl) (fun ix h0 h1=> ?_);(have h2:ix.den<4:=h1);(have hx:ix.den.toNat=0∨ix.den.toNat=1∨ix.den.toNat=2∨ix.den.toNat=3:=by omega);(rcases hx with hx|hx|hx|hx<;>simp only [hx]))|(refine fit_sl (by rfl) (fun ix h0 h1=> ?_);(have h2:ix.den<1:=h1);(have hx:ix.den.toNat=0:=by omega);(rcases hx with hx<;>simp only [hx]))|(refine fit_sl (by rfl) (fun ix h0 h1=> ?_);(have h2:ix.den<5:=h1);(have hx:ix.den.toNat=0∨ix.den.toNat=1∨ix.den.toNat=2∨ix.den.toNat=3∨ix.den.toNat=4:=by omega);(rcases hx with hx|hx|hx|hx|hx<;>simp only [hx]))))),rfl⟩
theorem ck_rate3 :FSpec Try.prog 21 [(.agg [(.int .i64 (.sym fun _=>rate3.rl)),(.int .i64 (.sym fun _=>rate3.rh)),(.int .i64 (.sym fun _=>rate3.hr)),(.sl 4 (.sym fun _=>zi rate3.vs.length) (fun ix=>[(.int .i64 (.sym fun _=>(rate3.vs.getD ix.den.toNat v0).sl)),(.int .i64 (.sym fun _=>(rate3.vs.getD ix.den.toNat v0).sh)),(.int .i64 (.sym fun _=>(rate3.vs.getD ix.den.toNat v0).rl)),(.int .i64 (.sym fun _=>(rate3.vs.getD ix.den.toNat v0).rh))])),(.sl 2 (.sym fun _=>zi rate3.ts.length) (fun ix=>[(.int .i64 (.sym fun _=>(rate3.ts.getD ix.den.toNat t0).top)),(.sl 3 (.sym fun _=>zi ((rate3.ts.getD ix.den.toNat t0).ps).length) (fun jx=>[(.int .i64 (.sym fun _=>(((rate3.ts.getD ix.den.toNat t0).ps).getD jx.den.toNat p0).f)),(.int .i64 (.sym fun _=>(((rate3.ts.getD ix.den.toNat t0).ps).getD jx.den.toNat p0).el)),(.int .i64 (.sym fun _=>(((rate3.ts.getD ix.den.toNat t0).ps).getD jx.den.toNat p0).eh))]))]))])] [] (fun r _=>r=(.int .i64 (.lit (1)))):=
  (check21 rate3).post fun r bs h=>⟨_,by subst h;(repeat' (first|exact qA|exact qB|refine qC ?_ rfl ?_|refine qD ?_ ?_|exact qE (by rfl)|exact qG (by rfl)|exact qE (by kernel_rfl)|exact qG (by kernel_rfl)|exact Fit.refl _|(exact qP (by rfl))|(first|(refine fit_sl (by rfl) (fun ix h0 h1=> ?_);(have h2:ix.den<2:=h1);(have hx:ix.den.toNat=0∨ix.den.toNat=1:=by omega);(rcases hx with hx|hx<;>simp only [hx]))|(refine fit_sl (by rfl) (fun ix h0 h1=> ?_);(have h2:ix.den<3:=h1);(have hx:ix.den.toNat=0∨ix.den.toNat=1∨ix.den.toNat=2:=by omega);(rcases hx with hx|hx|hx<;>simp only [hx]))|(refine fit_sl (by rfl) (fun ix h0 h1=> ?_);(have h2:ix.den<4:=h1);(have hx:ix.den.toNat=0∨ix.den.toNat=1∨ix.den.toNat=2∨ix.den.toNat=3:=by omega);(rcases hx with hx|hx|hx|hx<;>simp only [hx]))|(refine fit_sl (by rfl) (fun ix h0 h1=> ?_);(have h2:ix.den<1:=h1);(have hx:ix.den.toNat=0:=by omega);(rcases hx with hx<;>simp only [hx]))|(refine fit_sl (by rfl) (fun ix h0 h1=> ?_);(have h2:ix.den<5:=h1);(have hx:ix.den.toNat=0∨ix.den.toNat=1∨ix.den.toNat=2∨ix.den.toNat=3∨ix.den.toNat=4:=by omega);(rcases hx with hx|hx|hx|hx|hx<;>simp only [hx]))))),rfl⟩
theorem ck_from3 :FSpec Try.prog 21 [(.agg [(.int .i64 (.sym fun _=>from3.rl)),(.int .i64 (.sym fun _=>from3.rh)),(.int .i64 (.sym fun _=>from3.hr)),(.sl 4 (.sym fun _=>zi from3.vs.length) (fun ix=>[(.int .i64 (.sym fun _=>(from3.vs.getD ix.den.toNat v0).sl)),(.int .i64 (.sym fun _=>(from3.vs.getD ix.den.toNat v0).sh)),(.int .i64 (.sym fun _=>(from3.vs.getD ix.den.toNat v0).rl)),(.int .i64 (.sym fun _=>(from3.vs.getD ix.den.toNat v0).rh))])),(.sl 2 (.sym fun _=>zi from3.ts.length) (fun ix=>[(.int .i64 (.sym fun _=>(from3.ts.getD ix.den.toNat t0).top)),(.sl 3 (.sym fun _=>zi ((from3.ts.getD ix.den.toNat t0).ps).length) (fun jx=>[(.int .i64 (.sym fun _=>(((from3.ts.getD ix.den.toNat t0).ps).getD jx.den.toNat p0).f)),(.int .i64 (.sym fun _=>(((from3.ts.getD ix.den.toNat t0).ps).getD jx.den.toNat p0).el)),(.int .i64 (.sym fun _=>(((from3.ts.getD ix.den.toNat t0).ps).getD jx.den.toNat p0).eh))]))]))])] [] (fun r _=>r=(.int .i64 (.lit (1)))):=
  (check21 from3).post fun r bs h=>⟨_,by subst h;(repeat' (first|exact qA|exact qB|refine qC ?_ rfl ?_|refine qD ?_ ?_|exact qE (by rfl)|exact qG (by rfl)|exact qE (by kernel_rfl)|exact qG (by kernel_rfl)|exact Fit.refl _|(exact qP (by rfl))|(first|(refine fit_sl (by rfl) (fun ix h0 h1=> ?_);(have h2:ix.den<2:=h1);(have hx:ix.den.toNat=0∨ix.den.toNat=1:=by omega);(rcases hx with hx|hx<;>simp only [hx]))|(refine fit_sl (by rfl) (fun ix h0 h1=> ?_);(have h2:ix.den<3:=h1);(have hx:ix.den.toNat=0∨ix.den.toNat=1∨ix.den.toNat=2:=by omega);(rcases hx with hx|hx|hx<;>simp only [hx]))|(refine fit_sl (by rfl) (fun ix h0 h1=> ?_);(have h2:ix.den<4:=h1);(have hx:ix.den.toNat=0∨ix.den.toNat=1∨ix.den.toNat=2∨ix.den.toNat=3:=by omega);(rcases hx with hx|hx|hx|hx<;>simp only [hx]))|(refine fit_sl (by rfl) (fun ix h0 h1=> ?_);(have h2:ix.den<1:=h1);(have hx:ix.den.toNat=0:=by omega);(rcases hx with hx<;>simp only [hx]))|(refine fit_sl (by rfl) (fun ix h0 h1=> ?_);(have h2:ix.den<5:=h1);(have hx:ix.den.toNat=0∨ix.den.toNat=1∨ix.den.toNat=2∨ix.den.toNat=3∨ix.den.toNat=4:=by omega);(rcases hx with hx|hx|hx|hx|hx<;>simp only [hx]))))),rfl⟩
theorem ck_top3 :FSpec Try.prog 21 [(.agg [(.int .i64 (.sym fun _=>top3.rl)),(.int .i64 (.sym fun _=>top3.rh)),(.int .i64 (.sym fun _=>top3.hr)),(.sl 4 (.sym fun _=>zi top3.vs.length) (fun ix=>[(.int .i64 (.sym fun _=>(top3.vs.getD ix.den.toNat v0).sl)),(.int .i64 (.sym fun _=>(top3.vs.getD ix.den.toNat v0).sh)),(.int .i64 (.sym fun _=>(top3.vs.getD ix.den.toNat v0).rl)),(.int .i64 (.sym fun _=>(top3.vs.getD ix.den.toNat v0).rh))])),(.sl 2 (.sym fun _=>zi top3.ts.length) (fun ix=>[(.int .i64 (.sym fun _=>(top3.ts.getD ix.den.toNat t0).top)),(.sl 3 (.sym fun _=>zi ((top3.ts.getD ix.den.toNat t0).ps).length) (fun jx=>[(.int .i64 (.sym fun _=>(((top3.ts.getD ix.den.toNat t0).ps).getD jx.den.toNat p0).f)),(.int .i64 (.sym fun _=>(((top3.ts.getD ix.den.toNat t0).ps).getD jx.den.toNat p0).el)),(.int .i64 (.sym fun _=>(((top3.ts.getD ix.den.toNat t0).ps).getD jx.den.toNat p0).eh))]))]))])] [] (fun r _=>r=(.int .i64 (.lit (1)))):=
  (check21 top3).post fun r bs h=>⟨_,by subst h;(repeat' (first|exact qA|exact qB|refine qC ?_ rfl ?_|refine qD ?_ ?_|exact qE (by rfl)|exact qG (by rfl)|exact qE (by kernel_rfl)|exact qG (by kernel_rfl)|exact Fit.refl _|(exact qP (by rfl))|(first|(refine fit_sl (by rfl) (fun ix h0 h1=> ?_);(have h2:ix.den<2:=h1);(have hx:ix.den.toNat=0∨ix.den.toNat=1:=by omega);(rcases hx with hx|hx<;>simp only [hx]))|(refine fit_sl (by rfl) (fun ix h0 h1=> ?_);(have h2:ix.den<3:=h1);(have hx:ix.den.toNat=0∨ix.den.toNat=1∨ix.den.toNat=2:=by omega);(rcases hx with hx|hx|hx<;>simp only [hx]))|(refine fit_sl (by rfl) (fun ix h0 h1=> ?_);(have h2:ix.den<4:=h1);(have hx:ix.den.toNat=0∨ix.den.toNat=1∨ix.den.toNat=2∨ix.den.toNat=3:=by omega);(rcases hx with hx|hx|hx|hx<;>simp only [hx]))|(refine fit_sl (by rfl) (fun ix h0 h1=> ?_);(have h2:ix.den<1:=h1);(have hx:ix.den.toNat=0:=by omega);(rcases hx with hx<;>simp only [hx]))|(refine fit_sl (by rfl) (fun ix h0 h1=> ?_);(have h2:ix.den<5:=h1);(have hx:ix.den.toNat=0∨ix.den.toNat=1∨ix.den.toNat=2∨ix.den.toNat=3∨ix.den.toNat=4:=by omega);(rcases hx with hx|hx|hx|hx|hx<;>simp only [hx]))))),rfl⟩
theorem ck_wrong3 :FSpec Try.prog 21 [(.agg [(.int .i64 (.sym fun _=>wrong3.rl)),(.int .i64 (.sym fun _=>wrong3.rh)),(.int .i64 (.sym fun _=>wrong3.hr)),(.sl 4 (.sym fun _=>zi wrong3.vs.length) (fun ix=>[(.int .i64 (.sym fun _=>(wrong3.vs.getD ix.den.toNat v0).sl)),(.int .i64 (.sym fun _=>(wrong3.vs.getD ix.den.toNat v0).sh)),(.int .i64 (.sym fun _=>(wrong3.vs.getD ix.den.toNat v0).rl)),(.int .i64 (.sym fun _=>(wrong3.vs.getD ix.den.toNat v0).rh))])),(.sl 2 (.sym fun _=>zi wrong3.ts.length) (fun ix=>[(.int .i64 (.sym fun _=>(wrong3.ts.getD ix.den.toNat t0).top)),(.sl 3 (.sym fun _=>zi ((wrong3.ts.getD ix.den.toNat t0).ps).length) (fun jx=>[(.int .i64 (.sym fun _=>(((wrong3.ts.getD ix.den.toNat t0).ps).getD jx.den.toNat p0).f)),(.int .i64 (.sym fun _=>(((wrong3.ts.getD ix.den.toNat t0).ps).getD jx.den.toNat p0).el)),(.int .i64 (.sym fun _=>(((wrong3.ts.getD ix.den.toNat t0).ps).getD jx.den.toNat p0).eh))]))]))])] [] (fun r _=>r=(.int .i64 (.lit (1)))):=
  (check21 wrong3).post fun r bs h=>⟨_,by subst h;(repeat' (first|exact qA|exact qB|refine qC ?_ rfl ?_|refine qD ?_ ?_|exact qE (by rfl)|exact qG (by rfl)|exact qE (by kernel_rfl)|exact qG (by kernel_rfl)|exact Fit.refl _|(exact qP (by rfl))|(first|(refine fit_sl (by rfl) (fun ix h0 h1=> ?_);(have h2:ix.den<2:=h1);(have hx:ix.den.toNat=0∨ix.den.toNat=1:=by omega);(rcases hx with hx|hx<;>simp only [hx]))|(refine fit_sl (by rfl) (fun ix h0 h1=> ?_);(have h2:ix.den<3:=h1);(have hx:ix.den.toNat=0∨ix.den.toNat=1∨ix.den.toNat=2:=by omega);(rcases hx with hx|hx|hx<;>simp only [hx]))|(refine fit_sl (by rfl) (fun ix h0 h1=> ?_);(have h2:ix.den<4:=h1);(have hx:ix.den.toNat=0∨ix.den.toNat=1∨ix.den.toNat=2∨ix.den.toNat=3:=by omega);(rcases hx with hx|hx|hx|hx<;>simp only [hx]))|(refine fit_sl (by rfl) (fun ix h0 h1=> ?_);(have h2:ix.den<1:=h1);(have hx:ix.den.toNat=0:=by omega);(rcases hx with hx<;>simp only [hx]))|(refine fit_sl (by rfl) (fun ix h0 h1=> ?_);(have h2:ix.den<5:=h1);(have hx:ix.den.toNat=0∨ix.den.toNat=1∨ix.den.toNat=2∨ix.den.toNat=3∨ix.den.toNat=4:=by omega);(rcases hx with hx|hx|hx|hx|hx<;>simp only [hx]))))),rfl⟩
theorem ck_many3 :FSpec Try.prog 21 [(.agg [(.int .i64 (.sym fun _=>many3.rl)),(.int .i64 (.sym fun _=>many3.rh)),(.int .i64 (.sym fun _=>many3.hr)),(.sl 4 (.sym fun _=>zi many3.vs.length) (fun ix=>[(.int .i64 (.sym fun _=>(many3.vs.getD ix.den.toNat v0).sl)),(.int .i64 (.sym fun _=>(many3.vs.getD ix.den.toNat v0).sh)),(.int .i64 (.sym fun _=>(many3.vs.getD ix.den.toNat v0).rl)),(.int .i64 (.sym fun _=>(many3.vs.getD ix.den.toNat v0).rh))])),(.sl 2 (.sym fun _=>zi many3.ts.length) (fun ix=>[(.int .i64 (.sym fun _=>(many3.ts.getD ix.den.toNat t0).top)),(.sl 3 (.sym fun _=>zi ((many3.ts.getD ix.den.toNat t0).ps).length) (fun jx=>[(.int .i64 (.sym fun _=>(((many3.ts.getD ix.den.toNat t0).ps).getD jx.den.toNat p0).f)),(.int .i64 (.sym fun _=>(((many3.ts.getD ix.den.toNat t0).ps).getD jx.den.toNat p0).el)),(.int .i64 (.sym fun _=>(((many3.ts.getD ix.den.toNat t0).ps).getD jx.den.toNat p0).eh))]))]))])] [] (fun r _=>r=(.int .i64 (.lit (3)))):=
  (check21 many3).post fun r bs h=>⟨_,by subst h;(repeat' (first|exact qA|exact qB|refine qC ?_ rfl ?_|refine qD ?_ ?_|exact qE (by rfl)|exact qG (by rfl)|exact qE (by kernel_rfl)|exact qG (by kernel_rfl)|exact Fit.refl _|(exact qP (by rfl))|(first|(refine fit_sl (by rfl) (fun ix h0 h1=> ?_);(have h2:ix.den<2:=h1);(have hx:ix.den.toNat=0∨ix.den.toNat=1:=by omega);(rcases hx with hx|hx<;>simp only [hx]))|(refine fit_sl (by rfl) (fun ix h0 h1=> ?_);(have h2:ix.den<3:=h1);(have hx:ix.den.toNat=0∨ix.den.toNat=1∨ix.den.toNat=2:=by omega);(rcases hx with hx|hx|hx<;>simp only [hx]))|(refine fit_sl (by rfl) (fun ix h0 h1=> ?_);(have h2:ix.den<4:=h1);(have hx:ix.den.toNat=0∨ix.den.toNat=1∨ix.den.toNat=2∨ix.den.toNat=3:=by omega);(rcases hx with hx|hx|hx|hx<;>simp only [hx]))|(refine fit_sl (by rfl) (fun ix h0 h1=> ?_);(have h2:ix.den<1:=h1);(have hx:ix.den.toNat=0:=by omega);(rcases hx with hx<;>simp only [hx]))|(refine fit_sl (by rfl) (fun ix h0 h1=> ?_);(have h2:ix.den<5:=h1);(have hx:ix.den.toNat=0∨ix.den.toNat=1∨ix.den.toNat=2∨ix.den.toNat=3∨ix.den.toNat=4:=by omega);(rcases hx with hx|hx|hx|hx|hx<;>simp only [hx]))))),rfl⟩
theorem ck_parts3 :FSpec Try.prog 21 [(.agg [(.int .i64 (.sym fun _=>parts3.rl)),(.int .i64 (.sym fun _=>parts3.rh)),(.int .i64 (.sym fun _=>parts3.hr)),(.sl 4 (.sym fun _=>zi parts3.vs.length) (fun ix=>[(.int .i64 (.sym fun _=>(parts3.vs.getD ix.den.toNat v0).sl)),(.int .i64 (.sym fun _=>(parts3.vs.getD ix.den.toNat v0).sh)),(.int .i64 (.sym fun _=>(parts3.vs.getD ix.den.toNat v0).rl)),(.int .i64 (.sym fun _=>(parts3.vs.getD ix.den.toNat v0).rh))])),(.sl 2 (.sym fun _=>zi parts3.ts.length) (fun ix=>[(.int .i64 (.sym fun _=>(parts3.ts.getD ix.den.toNat t0).top)),(.sl 3 (.sym fun _=>zi ((parts3.ts.getD ix.den.toNat t0).ps).length) (fun jx=>[(.int .i64 (.sym fun _=>(((parts3.ts.getD ix.den.toNat t0).ps).getD jx.den.toNat p0).f)),(.int .i64 (.sym fun _=>(((parts3.ts.getD ix.den.toNat t0).ps).getD jx.den.toNat p0).el)),(.int .i64 (.sym fun _=>(((parts3.ts.getD ix.den.toNat t0).ps).getD jx.den.toNat p0).eh))]))]))])] [] (fun r _=>r=(.int .i64 (.lit (3)))):=
  (check21 parts3).post fun r bs h=>⟨_,by subst h;(repeat' (first|exact qA|exact qB|refine qC ?_ rfl ?_|refine qD ?_ ?_|exact qE (by rfl)|exact qG (by rfl)|exact qE (by kernel_rfl)|exact qG (by kernel_rfl)|exact Fit.refl _|(exact qP (by rfl))|(first|(refine fit_sl (by rfl) (fun ix h0 h1=> ?_);(have h2:ix.den<2:=h1);(have hx:ix.den.toNat=0∨ix.den.toNat=1:=by omega);(rcases hx with hx|hx<;>simp only [hx]))|(refine fit_sl (by rfl) (fun ix h0 h1=> ?_);(have h2:ix.den<3:=h1);(have hx:ix.den.toNat=0∨ix.den.toNat=1∨ix.den.toNat=2:=by omega);(rcases hx with hx|hx|hx<;>simp only [hx]))|(refine fit_sl (by rfl) (fun ix h0 h1=> ?_);(have h2:ix.den<4:=h1);(have hx:ix.den.toNat=0∨ix.den.toNat=1∨ix.den.toNat=2∨ix.den.toNat=3:=by omega);(rcases hx with hx|hx|hx|hx<;>simp only [hx]))|(refine fit_sl (by rfl) (fun ix h0 h1=> ?_);(have h2:ix.den<1:=h1);(have hx:ix.den.toNat=0:=by omega);(rcases hx with hx<;>simp only [hx]))|(refine fit_sl (by rfl) (fun ix h0 h1=> ?_);(have h2:ix.den<5:=h1);(have hx:ix.den.toNat=0∨ix.den.toNat=1∨ix.den.toNat=2∨ix.den.toNat=3∨ix.den.toNat=4:=by omega);(rcases hx with hx|hx|hx|hx|hx<;>simp only [hx]))))),rfl⟩
theorem ck_none3 :FSpec Try.prog 21 [(.agg [(.int .i64 (.sym fun _=>none3.rl)),(.int .i64 (.sym fun _=>none3.rh)),(.int .i64 (.sym fun _=>none3.hr)),(.sl 4 (.sym fun _=>zi none3.vs.length) (fun ix=>[(.int .i64 (.sym fun _=>(none3.vs.getD ix.den.toNat v0).sl)),(.int .i64 (.sym fun _=>(none3.vs.getD ix.den.toNat v0).sh)),(.int .i64 (.sym fun _=>(none3.vs.getD ix.den.toNat v0).rl)),(.int .i64 (.sym fun _=>(none3.vs.getD ix.den.toNat v0).rh))])),(.sl 2 (.sym fun _=>zi none3.ts.length) (fun ix=>[(.int .i64 (.sym fun _=>(none3.ts.getD ix.den.toNat t0).top)),(.sl 3 (.sym fun _=>zi ((none3.ts.getD ix.den.toNat t0).ps).length) (fun jx=>[(.int .i64 (.sym fun _=>(((none3.ts.getD ix.den.toNat t0).ps).getD jx.den.toNat p0).f)),(.int .i64 (.sym fun _=>(((none3.ts.getD ix.den.toNat t0).ps).getD jx.den.toNat p0).el)),(.int .i64 (.sym fun _=>(((none3.ts.getD ix.den.toNat t0).ps).getD jx.den.toNat p0).eh))]))]))])] [] (fun r _=>r=(.int .i64 (.lit (1)))):=
  (check21 none3).post fun r bs h=>⟨_,by subst h;(repeat' (first|exact qA|exact qB|refine qC ?_ rfl ?_|refine qD ?_ ?_|exact qE (by rfl)|exact qG (by rfl)|exact qE (by kernel_rfl)|exact qG (by kernel_rfl)|exact Fit.refl _|(exact qP (by rfl))|(first|(refine fit_sl (by rfl) (fun ix h0 h1=> ?_);(have h2:ix.den<2:=h1);(have hx:ix.den.toNat=0∨ix.den.toNat=1:=by omega);(rcases hx with hx|hx<;>simp only [hx]))|(refine fit_sl (by rfl) (fun ix h0 h1=> ?_);(have h2:ix.den<3:=h1);(have hx:ix.den.toNat=0∨ix.den.toNat=1∨ix.den.toNat=2:=by omega);(rcases hx with hx|hx|hx<;>simp only [hx]))|(refine fit_sl (by rfl) (fun ix h0 h1=> ?_);(have h2:ix.den<4:=h1);(have hx:ix.den.toNat=0∨ix.den.toNat=1∨ix.den.toNat=2∨ix.den.toNat=3:=by omega);(rcases hx with hx|hx|hx|hx<;>simp only [hx]))|(refine fit_sl (by rfl) (fun ix h0 h1=> ?_);(have h2:ix.den<1:=h1);(have hx:ix.den.toNat=0:=by omega);(rcases hx with hx<;>simp only [hx]))|(refine fit_sl (by rfl) (fun ix h0 h1=> ?_);(have h2:ix.den<5:=h1);(have hx:ix.den.toNat=0∨ix.den.toNat=1∨ix.den.toNat=2∨ix.den.toNat=3∨ix.den.toNat=4:=by omega);(rcases hx with hx|hx|hx|hx|hx<;>simp only [hx]))))),rfl⟩
theorem twoV :FSpecN Try.prog 50 [] [] (fun r bs=>r=(.agg [(.int .i64 (.sym fun _=>two3.rl)),(.int .i64 (.sym fun _=>two3.rh)),(.int .i64 (.sym fun _=>two3.hr)),.ows 0 0 2 2 4,(.sl 2 (.sym fun _=>zi two3.ts.length) (fun ix=>[(.int .i64 (.sym fun _=>(two3.ts.getD ix.den.toNat t0).top)),(.sl 3 (.sym fun _=>zi ((two3.ts.getD ix.den.toNat t0).ps).length) (fun jx=>[(.int .i64 (.sym fun _=>(((two3.ts.getD ix.den.toNat t0).ps).getD jx.den.toNat p0).f)),(.int .i64 (.sym fun _=>(((two3.ts.getD ix.den.toNat t0).ps).getD jx.den.toNat p0).el)),(.int .i64 (.sym fun _=>(((two3.ts.getD ix.den.toNat t0).ps).getD jx.den.toNat p0).eh))]))]))])∧bs=[.cells [(.int .i64 (.lit (80))),(.int .i64 (.lit (90))),(.int .i64 (.lit (20))),(.int .i64 (.lit (30))),(.int .i64 (.lit (40))),(.int .i64 (.lit (40))),(.int .i64 (.lit (50))),(.int .i64 (.lit (50)))] 120]):=by
  have c52:= @between52
  refine FSpecN.is rfl rfl fun R B hR hB=>fspecL_vc (sc:=sc50) tyok mix Try.func50 rfl Try.call50 (by kernel_rfl) (by kernel_rfl) ?_
  generalize Try.prog=P at c52⊢
  cbv
  repeat' (first
      | (refine qQ ?_ (c52 _ _) (by(repeat' (first|exact qB|refine qD ?_ ?_|exact qE (by rfl)|exact qG (by rfl)|exact Fit.refl _|exact qA|refine qC ?_ rfl ?_)))
         try cbv)
      |fail)
  refine Exists.intro (α:=List Nat) [8] ?_
  cbv
  subst hR
  subst hB
  refine⟨?_,?_⟩
  · (repeat' (first|exact qA|exact qB|refine qC ?_ rfl ?_|refine qD ?_ ?_|exact qE (by rfl)|exact qG (by rfl)|exact qE (by kernel_rfl)|exact qG (by kernel_rfl)|exact Fit.refl _|(exact qP (by rfl))|(first|(refine fit_sl (by rfl) (fun ix h0 h1=> ?_);(have h2:ix.den<2:=h1);(have hx:ix.den.toNat=0∨ix.den.toNat=1:=by omega);(rcases hx with hx|hx<;>simp only [hx]))|(refine fit_sl (by rfl) (fun ix h0 h1=> ?_);(have h2:ix.den<3:=h1);(have hx:ix.den.toNat=0∨ix.den.toNat=1∨ix.den.toNat=2:=by omega);(rcases hx with hx|hx|hx<;>simp only [hx]))|(refine fit_sl (by rfl) (fun ix h0 h1=> ?_);(have h2:ix.den<4:=h1);(have hx:ix.den.toNat=0∨ix.den.toNat=1∨ix.den.toNat=2∨ix.den.toNat=3:=by omega);(rcases hx with hx|hx|hx|hx<;>simp only [hx]))|(refine fit_sl (by rfl) (fun ix h0 h1=> ?_);(have h2:ix.den<1:=h1);(have hx:ix.den.toNat=0:=by omega);(rcases hx with hx<;>simp only [hx]))|(refine fit_sl (by rfl) (fun ix h0 h1=> ?_);(have h2:ix.den<5:=h1);(have hx:ix.den.toNat=0∨ix.den.toNat=1∨ix.den.toNat=2∨ix.den.toNat=3∨ix.den.toNat=4:=by omega);(rcases hx with hx|hx|hx|hx|hx<;>simp only [hx]))|(refine fit_sl (by rfl) (fun ix h0 h1=> ?_);(have h2:ix.den<6:=h1);(have hx:ix.den.toNat=0∨ix.den.toNat=1∨ix.den.toNat=2∨ix.den.toNat=3∨ix.den.toNat=4∨ix.den.toNat=5:=by omega);(rcases hx with hx|hx|hx|hx|hx|hx<;>simp only [hx]))|(refine fit_sl (by rfl) (fun ix h0 h1=> ?_);(have h2:ix.den<7:=h1);(have hx:ix.den.toNat=0∨ix.den.toNat=1∨ix.den.toNat=2∨ix.den.toNat=3∨ix.den.toNat=4∨ix.den.toNat=5∨ix.den.toNat=6:=by omega);(rcases hx with hx|hx|hx|hx|hx|hx|hx<;>simp only [hx])))))
  · (repeat' (first|exact qI|refine qJ ?_ ?_|exact qL _|(refine qK ?_;(repeat' (first|exact qA|exact qB|refine qC ?_ rfl ?_|refine qD ?_ ?_|exact qE (by rfl)|exact qG (by rfl)|exact qE (by kernel_rfl)|exact qG (by kernel_rfl)|exact Fit.refl _|(exact qP (by rfl))|(first|(refine fit_sl (by rfl) (fun ix h0 h1=> ?_);(have h2:ix.den<2:=h1);(have hx:ix.den.toNat=0∨ix.den.toNat=1:=by omega);(rcases hx with hx|hx<;>simp only [hx]))|(refine fit_sl (by rfl) (fun ix h0 h1=> ?_);(have h2:ix.den<3:=h1);(have hx:ix.den.toNat=0∨ix.den.toNat=1∨ix.den.toNat=2:=by omega);(rcases hx with hx|hx|hx<;>simp only [hx]))|(refine fit_sl (by rfl) (fun ix h0 h1=> ?_);(have h2:ix.den<4:=h1);(have hx:ix.den.toNat=0∨ix.den.toNat=1∨ix.den.toNat=2∨ix.den.toNat=3:=by omega);(rcases hx with hx|hx|hx|hx<;>simp only [hx]))|(refine fit_sl (by rfl) (fun ix h0 h1=> ?_);(have h2:ix.den<1:=h1);(have hx:ix.den.toNat=0:=by omega);(rcases hx with hx<;>simp only [hx]))|(refine fit_sl (by rfl) (fun ix h0 h1=> ?_);(have h2:ix.den<5:=h1);(have hx:ix.den.toNat=0∨ix.den.toNat=1∨ix.den.toNat=2∨ix.den.toNat=3∨ix.den.toNat=4:=by omega);(rcases hx with hx|hx|hx|hx|hx<;>simp only [hx]))|(refine fit_sl (by rfl) (fun ix h0 h1=> ?_);(have h2:ix.den<6:=h1);(have hx:ix.den.toNat=0∨ix.den.toNat=1∨ix.den.toNat=2∨ix.den.toNat=3∨ix.den.toNat=4∨ix.den.toNat=5:=by omega);(rcases hx with hx|hx|hx|hx|hx|hx<;>simp only [hx]))|(refine fit_sl (by rfl) (fun ix h0 h1=> ?_);(have h2:ix.den<7:=h1);(have hx:ix.den.toNat=0∨ix.den.toNat=1∨ix.den.toNat=2∨ix.den.toNat=3∨ix.den.toNat=4∨ix.den.toNat=5∨ix.den.toNat=6:=by omega);(rcases hx with hx|hx|hx|hx|hx|hx|hx<;>simp only [hx])))));done)))
theorem twoT :FSpecN Try.prog 50 [] [] (fun r bs=>r=(.agg [(.int .i64 (.sym fun _=>two3.rl)),(.int .i64 (.sym fun _=>two3.rh)),(.int .i64 (.sym fun _=>two3.hr)),(.sl 4 (.sym fun _=>zi two3.vs.length) (fun ix=>[(.int .i64 (.sym fun _=>(two3.vs.getD ix.den.toNat v0).sl)),(.int .i64 (.sym fun _=>(two3.vs.getD ix.den.toNat v0).sh)),(.int .i64 (.sym fun _=>(two3.vs.getD ix.den.toNat v0).rl)),(.int .i64 (.sym fun _=>(two3.vs.getD ix.den.toNat v0).rh))])),.ows 0 0 1 1 2])∧bs=[.cells [(.int .i64 (.lit (120))),(.sl 3 (.sym fun _=>zi ((two3.ts.getD 0 t0).ps).length) (fun jx=>[(.int .i64 (.sym fun _=>(((two3.ts.getD 0 t0).ps).getD jx.den.toNat p0).f)),(.int .i64 (.sym fun _=>(((two3.ts.getD 0 t0).ps).getD jx.den.toNat p0).el)),(.int .i64 (.sym fun _=>(((two3.ts.getD 0 t0).ps).getD jx.den.toNat p0).eh))]))] 125]):=by
  have c52:= @between52
  refine FSpecN.is rfl rfl fun R B hR hB=>fspecL_vc (sc:=sc50) tyok mix Try.func50 rfl Try.call50 (by kernel_rfl) (by kernel_rfl) ?_
  generalize Try.prog=P at c52⊢
  cbv
  repeat' (first
      | (refine qQ ?_ (c52 _ _) (by(repeat' (first|exact qB|refine qD ?_ ?_|exact qE (by rfl)|exact qG (by rfl)|exact Fit.refl _|exact qA|refine qC ?_ rfl ?_)))
         try cbv)
      |fail)
  refine Exists.intro (α:=List Nat) [15] ?_
  cbv
  subst hR
  subst hB
  refine⟨?_,?_⟩
  · (repeat' (first|exact qA|exact qB|refine qC ?_ rfl ?_|refine qD ?_ ?_|exact qE (by rfl)|exact qG (by rfl)|exact qE (by kernel_rfl)|exact qG (by kernel_rfl)|exact Fit.refl _|(exact qP (by rfl))|(first|(refine fit_sl (by rfl) (fun ix h0 h1=> ?_);(have h2:ix.den<2:=h1);(have hx:ix.den.toNat=0∨ix.den.toNat=1:=by omega);(rcases hx with hx|hx<;>simp only [hx]))|(refine fit_sl (by rfl) (fun ix h0 h1=> ?_);(have h2:ix.den<3:=h1);(have hx:ix.den.toNat=0∨ix.den.toNat=1∨ix.den.toNat=2:=by omega);(rcases hx with hx|hx|hx<;>simp only [hx]))|(refine fit_sl (by rfl) (fun ix h0 h1=> ?_);(have h2:ix.den<4:=h1);(have hx:ix.den.toNat=0∨ix.den.toNat=1∨ix.den.toNat=2∨ix.den.toNat=3:=by omega);(rcases hx with hx|hx|hx|hx<;>simp only [hx]))|(refine fit_sl (by rfl) (fun ix h0 h1=> ?_);(have h2:ix.den<1:=h1);(have hx:ix.den.toNat=0:=by omega);(rcases hx with hx<;>simp only [hx]))|(refine fit_sl (by rfl) (fun ix h0 h1=> ?_);(have h2:ix.den<5:=h1);(have hx:ix.den.toNat=0∨ix.den.toNat=1∨ix.den.toNat=2∨ix.den.toNat=3∨ix.den.toNat=4:=by omega);(rcases hx with hx|hx|hx|hx|hx<;>simp only [hx]))|(refine fit_sl (by rfl) (fun ix h0 h1=> ?_);(have h2:ix.den<6:=h1);(have hx:ix.den.toNat=0∨ix.den.toNat=1∨ix.den.toNat=2∨ix.den.toNat=3∨ix.den.toNat=4∨ix.den.toNat=5:=by omega);(rcases hx with hx|hx|hx|hx|hx|hx<;>simp only [hx]))|(refine fit_sl (by rfl) (fun ix h0 h1=> ?_);(have h2:ix.den<7:=h1);(have hx:ix.den.toNat=0∨ix.den.toNat=1∨ix.den.toNat=2∨ix.den.toNat=3∨ix.den.toNat=4∨ix.den.toNat=5∨ix.den.toNat=6:=by omega);(rcases hx with hx|hx|hx|hx|hx|hx|hx<;>simp only [hx])))))
  · (repeat' (first|exact qI|refine qJ ?_ ?_|exact qL _|(refine qK ?_;(repeat' (first|exact qA|exact qB|refine qC ?_ rfl ?_|refine qD ?_ ?_|exact qE (by rfl)|exact qG (by rfl)|exact qE (by kernel_rfl)|exact qG (by kernel_rfl)|exact Fit.refl _|(exact qP (by rfl))|(first|(refine fit_sl (by rfl) (fun ix h0 h1=> ?_);(have h2:ix.den<2:=h1);(have hx:ix.den.toNat=0∨ix.den.toNat=1:=by omega);(rcases hx with hx|hx<;>simp only [hx]))|(refine fit_sl (by rfl) (fun ix h0 h1=> ?_);(have h2:ix.den<3:=h1);(have hx:ix.den.toNat=0∨ix.den.toNat=1∨ix.den.toNat=2:=by omega);(rcases hx with hx|hx|hx<;>simp only [hx]))|(refine fit_sl (by rfl) (fun ix h0 h1=> ?_);(have h2:ix.den<4:=h1);(have hx:ix.den.toNat=0∨ix.den.toNat=1∨ix.den.toNat=2∨ix.den.toNat=3:=by omega);(rcases hx with hx|hx|hx|hx<;>simp only [hx]))|(refine fit_sl (by rfl) (fun ix h0 h1=> ?_);(have h2:ix.den<1:=h1);(have hx:ix.den.toNat=0:=by omega);(rcases hx with hx<;>simp only [hx]))|(refine fit_sl (by rfl) (fun ix h0 h1=> ?_);(have h2:ix.den<5:=h1);(have hx:ix.den.toNat=0∨ix.den.toNat=1∨ix.den.toNat=2∨ix.den.toNat=3∨ix.den.toNat=4:=by omega);(rcases hx with hx|hx|hx|hx|hx<;>simp only [hx]))|(refine fit_sl (by rfl) (fun ix h0 h1=> ?_);(have h2:ix.den<6:=h1);(have hx:ix.den.toNat=0∨ix.den.toNat=1∨ix.den.toNat=2∨ix.den.toNat=3∨ix.den.toNat=4∨ix.den.toNat=5:=by omega);(rcases hx with hx|hx|hx|hx|hx|hx<;>simp only [hx]))|(refine fit_sl (by rfl) (fun ix h0 h1=> ?_);(have h2:ix.den<7:=h1);(have hx:ix.den.toNat=0∨ix.den.toNat=1∨ix.den.toNat=2∨ix.den.toNat=3∨ix.den.toNat=4∨ix.den.toNat=5∨ix.den.toNat=6:=by omega);(rcases hx with hx|hx|hx|hx|hx|hx|hx<;>simp only [hx])))));done)))
theorem twoP :FSpecN Try.prog 50 [] [] (fun r bs=>r=(.agg [(.int .i64 (.sym fun _=>two3.rl)),(.int .i64 (.sym fun _=>two3.rh)),(.int .i64 (.sym fun _=>two3.hr)),(.sl 4 (.sym fun _=>zi two3.vs.length) (fun ix=>[(.int .i64 (.sym fun _=>(two3.vs.getD ix.den.toNat v0).sl)),(.int .i64 (.sym fun _=>(two3.vs.getD ix.den.toNat v0).sh)),(.int .i64 (.sym fun _=>(two3.vs.getD ix.den.toNat v0).rl)),(.int .i64 (.sym fun _=>(two3.vs.getD ix.den.toNat v0).rh))])),.ows 1 0 1 1 2])∧bs=[.cells [(.int .i64 (.lit (0))),(.int .i64 (.lit (-1))),(.int .i64 (.lit (1))),(.int .i64 (.lit (70))),(.int .i64 (.lit (0))),(.int .i64 (.lit (2)))] 122,.cells [(.int .i64 (.lit (120))),.ows 0 0 2 2 3] 125]):=by
  have c52:= @between52
  refine FSpecN.is rfl rfl fun R B hR hB=>fspecL_vc (sc:=sc50) tyok mix Try.func50 rfl Try.call50 (by kernel_rfl) (by kernel_rfl) ?_
  generalize Try.prog=P at c52⊢
  cbv
  repeat' (first
      | (refine qQ ?_ (c52 _ _) (by(repeat' (first|exact qB|refine qD ?_ ?_|exact qE (by rfl)|exact qG (by rfl)|exact Fit.refl _|exact qA|refine qC ?_ rfl ?_)))
         try cbv)
      |fail)
  refine Exists.intro (α:=List Nat) [13,15] ?_
  cbv
  subst hR
  subst hB
  refine⟨?_,?_⟩
  · (repeat' (first|exact qA|exact qB|refine qC ?_ rfl ?_|refine qD ?_ ?_|exact qE (by rfl)|exact qG (by rfl)|exact qE (by kernel_rfl)|exact qG (by kernel_rfl)|exact Fit.refl _|(exact qP (by rfl))|(first|(refine fit_sl (by rfl) (fun ix h0 h1=> ?_);(have h2:ix.den<2:=h1);(have hx:ix.den.toNat=0∨ix.den.toNat=1:=by omega);(rcases hx with hx|hx<;>simp only [hx]))|(refine fit_sl (by rfl) (fun ix h0 h1=> ?_);(have h2:ix.den<3:=h1);(have hx:ix.den.toNat=0∨ix.den.toNat=1∨ix.den.toNat=2:=by omega);(rcases hx with hx|hx|hx<;>simp only [hx]))|(refine fit_sl (by rfl) (fun ix h0 h1=> ?_);(have h2:ix.den<4:=h1);(have hx:ix.den.toNat=0∨ix.den.toNat=1∨ix.den.toNat=2∨ix.den.toNat=3:=by omega);(rcases hx with hx|hx|hx|hx<;>simp only [hx]))|(refine fit_sl (by rfl) (fun ix h0 h1=> ?_);(have h2:ix.den<1:=h1);(have hx:ix.den.toNat=0:=by omega);(rcases hx with hx<;>simp only [hx]))|(refine fit_sl (by rfl) (fun ix h0 h1=> ?_);(have h2:ix.den<5:=h1);(have hx:ix.den.toNat=0∨ix.den.toNat=1∨ix.den.toNat=2∨ix.den.toNat=3∨ix.den.toNat=4:=by omega);(rcases hx with hx|hx|hx|hx|hx<;>simp only [hx]))|(refine fit_sl (by rfl) (fun ix h0 h1=> ?_);(have h2:ix.den<6:=h1);(have hx:ix.den.toNat=0∨ix.den.toNat=1∨ix.den.toNat=2∨ix.den.toNat=3∨ix.den.toNat=4∨ix.den.toNat=5:=by omega);(rcases hx with hx|hx|hx|hx|hx|hx<;>simp only [hx]))|(refine fit_sl (by rfl) (fun ix h0 h1=> ?_);(have h2:ix.den<7:=h1);(have hx:ix.den.toNat=0∨ix.den.toNat=1∨ix.den.toNat=2∨ix.den.toNat=3∨ix.den.toNat=4∨ix.den.toNat=5∨ix.den.toNat=6:=by omega);(rcases hx with hx|hx|hx|hx|hx|hx|hx<;>simp only [hx])))))
  · (repeat' (first|exact qI|refine qJ ?_ ?_|exact qL _|(refine qK ?_;(repeat' (first|exact qA|exact qB|refine qC ?_ rfl ?_|refine qD ?_ ?_|exact qE (by rfl)|exact qG (by rfl)|exact qE (by kernel_rfl)|exact qG (by kernel_rfl)|exact Fit.refl _|(exact qP (by rfl))|(first|(refine fit_sl (by rfl) (fun ix h0 h1=> ?_);(have h2:ix.den<2:=h1);(have hx:ix.den.toNat=0∨ix.den.toNat=1:=by omega);(rcases hx with hx|hx<;>simp only [hx]))|(refine fit_sl (by rfl) (fun ix h0 h1=> ?_);(have h2:ix.den<3:=h1);(have hx:ix.den.toNat=0∨ix.den.toNat=1∨ix.den.toNat=2:=by omega);(rcases hx with hx|hx|hx<;>simp only [hx]))|(refine fit_sl (by rfl) (fun ix h0 h1=> ?_);(have h2:ix.den<4:=h1);(have hx:ix.den.toNat=0∨ix.den.toNat=1∨ix.den.toNat=2∨ix.den.toNat=3:=by omega);(rcases hx with hx|hx|hx|hx<;>simp only [hx]))|(refine fit_sl (by rfl) (fun ix h0 h1=> ?_);(have h2:ix.den<1:=h1);(have hx:ix.den.toNat=0:=by omega);(rcases hx with hx<;>simp only [hx]))|(refine fit_sl (by rfl) (fun ix h0 h1=> ?_);(have h2:ix.den<5:=h1);(have hx:ix.den.toNat=0∨ix.den.toNat=1∨ix.den.toNat=2∨ix.den.toNat=3∨ix.den.toNat=4:=by omega);(rcases hx with hx|hx|hx|hx|hx<;>simp only [hx]))|(refine fit_sl (by rfl) (fun ix h0 h1=> ?_);(have h2:ix.den<6:=h1);(have hx:ix.den.toNat=0∨ix.den.toNat=1∨ix.den.toNat=2∨ix.den.toNat=3∨ix.den.toNat=4∨ix.den.toNat=5:=by omega);(rcases hx with hx|hx|hx|hx|hx|hx<;>simp only [hx]))|(refine fit_sl (by rfl) (fun ix h0 h1=> ?_);(have h2:ix.den<7:=h1);(have hx:ix.den.toNat=0∨ix.den.toNat=1∨ix.den.toNat=2∨ix.den.toNat=3∨ix.den.toNat=4∨ix.den.toNat=5∨ix.den.toNat=6:=by omega);(rcases hx with hx|hx|hx|hx|hx|hx|hx<;>simp only [hx])))));done)))
set_option maxHeartbeats 4000000 in
theorem law12 :FSpec Try.prog 12 [] [] (fun r _=>r=(.bool (.lit true))):=by
  have ktwo50:=two50
  have kmean69:=mean69
  have kbounds3:=bounds3
  have kshow3:=show3
  have kleave0:=leave0
  have kspans3c:=spans3c
  have kprove3:=prove3
  have kmeanx1:=meanx1
  have kmeanx2:=meanx2
  have kplayx:=playx
  have kboundsx:=boundsx
  have kcoolx:=coolx
  have kleavex:=leavex
  have kmixx0:=mixx0
  have kmixx6:=mixx6
  have kmixx1:=mixx1
  have kck_room3:=ck_room3
  have kck_hours3:=ck_hours3
  have kck_start3:=ck_start3
  have kck_rate3:=ck_rate3
  have kck_from3:=ck_from3
  have kck_top3:=ck_top3
  have kck_wrong3:=ck_wrong3
  have kck_many3:=ck_many3
  have kck_parts3:=ck_parts3
  have kck_none3:=ck_none3
  have kawake15:=awake15
  have c52:= @between52
  have h33:=eqOk33
  have kV:=twoV
  have kT:=twoT
  have kP:=twoP
  refine FSpec.is fun R hR=>qX (sc:=sc12b) tyok mix Try.func12 rfl Try.call12 (by kernel_rfl) (by kernel_rfl) ?_
  generalize Try.prog=P at ktwo50 kmean69 kbounds3 kshow3 kleave0 kspans3c kprove3 kmeanx1 kmeanx2 kplayx kboundsx kcoolx kleavex kmixx0 kmixx6 kmixx1 kck_room3 kck_hours3 kck_start3 kck_rate3 kck_from3 kck_top3 kck_wrong3 kck_many3 kck_parts3 kck_none3 kawake15 c52 h33 kV kT kP⊢
  cbv
  repeat' (first
      |with_reducible refine hold ?_ ?_
      |with_reducible refine And.intro ?_ ?_
      |(with_reducible intro hcd;(try simp only [zA,zB,zC,zD,zE,zF,zG,zH,zI,zJ,zK,zL,zM,zN,zO,zP]at hcd);try cbv)
      | (refine qQ ?_ (c52 _ _) (by(repeat' (first|exact qB|refine qD ?_ ?_|exact qE (by rfl)|exact qG (by rfl)|exact Fit.refl _|exact qA|refine qC ?_ rfl ?_)))
         try cbv)
      | (refine Exists.intro (α:=List Nat) [18] ?_
         cbv
         fail_if_success (show False))
      | (refine Exists.intro (α:=List Nat) [105] ?_
         cbv
         fail_if_success (show False))
      | (refine Exists.intro (α:=List Nat) [113] ?_
         cbv
         fail_if_success (show False))
      | (refine Exists.intro (α:=List Nat) [137] ?_
         cbv
         fail_if_success (show False))
      | (refine Exists.intro (α:=List Nat) [146] ?_
         cbv
         fail_if_success (show False))
      | (refine Exists.intro (α:=List Nat) [95,96] ?_
         cbv
         fail_if_success (show False))
      | (refine qQ ?_ (ktwo50) ?hfit
         case hfit=>((repeat' (first|exact qA|exact qB|refine qC ?_ rfl ?_|refine qD ?_ ?_|exact qE (by rfl)|exact qG (by rfl)|exact Fit.refl _|(exact qP (by rfl))));done)
         try cbv)
      | (refine qQ ?_ (kmean69) ?hfit
         case hfit=>((repeat' (first|exact qA|exact qB|refine qC ?_ rfl ?_|refine qD ?_ ?_|exact qE (by rfl)|exact qG (by rfl)|exact Fit.refl _|(exact qP (by rfl))));done)
         try cbv)
      | (refine qQ ?_ (kbounds3) ?hfit
         case hfit=>((repeat' (first|exact qA|exact qB|refine qC ?_ rfl ?_|refine qD ?_ ?_|exact qE (by rfl)|exact qG (by rfl)|exact Fit.refl _|(exact qP (by rfl))));done)
         try cbv)
      | (refine qQ ?_ (kshow3) ?hfit
         case hfit=>((repeat' (first|exact qA|exact qB|refine qC ?_ rfl ?_|refine qD ?_ ?_|exact qE (by rfl)|exact qG (by rfl)|exact Fit.refl _|(exact qP (by rfl))|((refine fit_sl (by rfl) (fun ix h0 h1=> ?_);(have h2:ix.den<1:=h1);(have hx:ix.den.toNat=0:=by omega);(rcases hx with hx<;>simp only [hx])))));done)
         try cbv)
      | (refine qQ ?_ (kleave0) ?hfit
         case hfit=>((repeat' (first|exact qA|exact qB|refine qC ?_ rfl ?_|refine qD ?_ ?_|exact qE (by rfl)|exact qG (by rfl)|exact Fit.refl _|(exact qP (by rfl))));done)
         try cbv)
      | (refine qQ ?_ (kspans3c) ?hfit
         case hfit=>((repeat' (first|exact qA|exact qB|refine qC ?_ rfl ?_|refine qD ?_ ?_|exact qE (by rfl)|exact qG (by rfl)|exact Fit.refl _|(exact qP (by rfl))|((refine fit_sl (by rfl) (fun ix h0 h1=> ?_);(have h2:ix.den<4:=h1);(have hx:ix.den.toNat=0∨ix.den.toNat=1∨ix.den.toNat=2∨ix.den.toNat=3:=by omega);(rcases hx with hx|hx|hx|hx<;>simp only [hx])))));done)
         try cbv)
      | (refine⟨none,?_⟩
         refine qS ?_ (kprove3) rfl ?hfit
         case hfit=>(cbv;(repeat' (first|exact qA|exact qB|refine qC ?_ rfl ?_|refine qD ?_ ?_|exact qE (by rfl)|exact qG (by rfl)|exact Fit.refl _|(exact qP (by rfl))|((refine fit_sl (by rfl) (fun ix h0 h1=> ?_);(have h2:ix.den<1:=h1);(have hx:ix.den.toNat=0:=by omega);(rcases hx with hx<;>simp only [hx])))));done)
         try cbv)
      | (refine qQ ?_ (kmeanx1) ?hfit
         case hfit=>((repeat' (first|exact qA|exact qB|refine qC ?_ rfl ?_|refine qD ?_ ?_|exact qE (by rfl)|exact qG (by rfl)|exact Fit.refl _|(exact qP (by rfl))));done)
         try cbv)
      | (refine qQ ?_ (kmeanx2) ?hfit
         case hfit=>((repeat' (first|exact qA|exact qB|refine qC ?_ rfl ?_|refine qD ?_ ?_|exact qE (by rfl)|exact qG (by rfl)|exact Fit.refl _|(exact qP (by rfl))));done)
         try cbv)
      | (refine qQ ?_ (kplayx) ?hfit
         case hfit=>((repeat' (first|exact qA|exact qB|refine qC ?_ rfl ?_|refine qD ?_ ?_|exact qE (by rfl)|exact qG (by rfl)|exact Fit.refl _|(exact qP (by rfl))|((refine fit_sl (by rfl) (fun ix h0 h1=> ?_);(have h2:ix.den<2:=h1);(have hx:ix.den.toNat=0∨ix.den.toNat=1:=by omega);(rcases hx with hx|hx<;>simp only [hx])))));done)
         try cbv)
      | (refine qQ ?_ (kboundsx) ?hfit
         case hfit=>((repeat' (first|exact qA|exact qB|refine qC ?_ rfl ?_|refine qD ?_ ?_|exact qE (by rfl)|exact qG (by rfl)|exact Fit.refl _|(exact qP (by rfl))|((refine fit_sl (by rfl) (fun ix h0 h1=> ?_);(have h2:ix.den<1:=h1);(have hx:ix.den.toNat=0:=by omega);(rcases hx with hx<;>simp only [hx])))));done)
         try cbv)
      | (refine qQ ?_ (kcoolx) ?hfit
         case hfit=>((repeat' (first|exact qA|exact qB|refine qC ?_ rfl ?_|refine qD ?_ ?_|exact qE (by rfl)|exact qG (by rfl)|exact Fit.refl _|(exact qP (by rfl))|((refine fit_sl (by rfl) (fun ix h0 h1=> ?_);(have h2:ix.den<1:=h1);(have hx:ix.den.toNat=0:=by omega);(rcases hx with hx<;>simp only [hx])))));done)
         try cbv)
      | (refine⟨none,?_⟩
         refine qS ?_ (kleavex) rfl ?hfit
         case hfit=>(cbv;(repeat' (first|exact qA|exact qB|refine qC ?_ rfl ?_|refine qD ?_ ?_|exact qE (by rfl)|exact qG (by rfl)|exact Fit.refl _|(exact qP (by rfl))|((refine fit_sl (by rfl) (fun ix h0 h1=> ?_);(have h2:ix.den<7:=h1);(have hx:ix.den.toNat=0∨ix.den.toNat=1∨ix.den.toNat=2∨ix.den.toNat=3∨ix.den.toNat=4∨ix.den.toNat=5∨ix.den.toNat=6:=by omega);(rcases hx with hx|hx|hx|hx|hx|hx|hx<;>simp only [hx])))));done)
         try cbv)
      | (refine qQ ?_ (kmixx0) ?hfit
         case hfit=>((repeat' (first|exact qA|exact qB|refine qC ?_ rfl ?_|refine qD ?_ ?_|exact qE (by rfl)|exact qG (by rfl)|exact Fit.refl _|(exact qP (by rfl))));done)
         try cbv)
      | (refine qQ ?_ (kmixx6) ?hfit
         case hfit=>((repeat' (first|exact qA|exact qB|refine qC ?_ rfl ?_|refine qD ?_ ?_|exact qE (by rfl)|exact qG (by rfl)|exact Fit.refl _|(exact qP (by rfl))|((refine fit_sl (by rfl) (fun ix h0 h1=> ?_);(have h2:ix.den<6:=h1);(have hx:ix.den.toNat=0∨ix.den.toNat=1∨ix.den.toNat=2∨ix.den.toNat=3∨ix.den.toNat=4∨ix.den.toNat=5:=by omega);(rcases hx with hx|hx|hx|hx|hx|hx<;>simp only [hx])))));done)
         try cbv)
      | (refine qQ ?_ (kmixx1) ?hfit
         case hfit=>((repeat' (first|exact qA|exact qB|refine qC ?_ rfl ?_|refine qD ?_ ?_|exact qE (by rfl)|exact qG (by rfl)|exact Fit.refl _|(exact qP (by rfl))|((refine fit_sl (by rfl) (fun ix h0 h1=> ?_);(have h2:ix.den<1:=h1);(have hx:ix.den.toNat=0:=by omega);(rcases hx with hx<;>simp only [hx])))));done)
         try cbv)
      |fail)
  all_goals first
    |trivial
    |skip
  refine Exists.intro (α:=List Nat) [] ?_
  cbv
  refine qQ ?_ (ktwo50) (by(repeat' (first|exact qB|refine qD ?_ ?_|exact qE (by rfl)|exact qG (by rfl)|exact Fit.refl _|exact qA|refine qC ?_ rfl ?_)))
  try cbv
  refine qQ ?_ (ktwo50) (by(repeat' (first|exact qB|refine qD ?_ ?_|exact qE (by rfl)|exact qG (by rfl)|exact Fit.refl _|exact qA|refine qC ?_ rfl ?_)))
  try cbv
  refine Or.inr ⟨true,?_⟩
  cbv
  refine qV ?_ (kV) (by cbv;(repeat' (first|exact qB|refine qD ?_ ?_|exact qE (by rfl)|exact qG (by rfl)|exact Fit.refl _|exact qA|refine qC ?_ rfl ?_))) (by cbv;(repeat' (first|exact qI|refine qJ ?_ ?_|exact qL _|refine qK ?_|exact qA|exact qE (by rfl)|exact qG (by rfl)|exact Fit.refl _|exact qH _|refine qC ?_ rfl ?_)))
  try cbv
  refine Or.inr ⟨true,?_⟩
  cbv
  refine qV ?_ (kV) (by cbv;(repeat' (first|exact qB|refine qD ?_ ?_|exact qE (by rfl)|exact qG (by rfl)|exact Fit.refl _|exact qA|refine qC ?_ rfl ?_))) (by cbv;(repeat' (first|exact qI|refine qJ ?_ ?_|exact qL _|refine qK ?_|exact qA|exact qE (by rfl)|exact qG (by rfl)|exact Fit.refl _|exact qH _|refine qC ?_ rfl ?_)))
  try cbv
  refine Exists.intro (α:=Nat) 2 ?_
  cbv
  refine two_k ?_ (kP) (by cbv;(repeat' (first|exact qB|refine qD ?_ ?_|exact qE (by rfl)|exact qG (by rfl)|exact Fit.refl _|exact qA|refine qC ?_ rfl ?_)))
  try cbv
  refine Or.inr ⟨true,?_⟩
  cbv
  refine qV ?_ (kT) (by cbv;(repeat' (first|exact qB|refine qD ?_ ?_|exact qE (by rfl)|exact qG (by rfl)|exact Fit.refl _|exact qA|refine qC ?_ rfl ?_))) (by cbv;(repeat' (first|exact qI|refine qJ ?_ ?_|exact qL _|refine qK ?_|exact qA|exact qE (by rfl)|exact qG (by rfl)|exact Fit.refl _|exact qH _|refine qC ?_ rfl ?_)))
  try cbv
  refine Exists.intro (α:=Nat) 3 ?_
  cbv
  refine two_k ?_ (kP) (by cbv;(repeat' (first|exact qB|refine qD ?_ ?_|exact qE (by rfl)|exact qG (by rfl)|exact Fit.refl _|exact qA|refine qC ?_ rfl ?_)))
  try cbv
  refine qQ ?_ (ktwo50) (by(repeat' (first|exact qB|refine qD ?_ ?_|exact qE (by rfl)|exact qG (by rfl)|exact Fit.refl _|exact qA|refine qC ?_ rfl ?_)))
  try cbv
  refine Or.inr ⟨true,?_⟩
  cbv
  refine qV ?_ (kT) (by cbv;(repeat' (first|exact qB|refine qD ?_ ?_|exact qE (by rfl)|exact qG (by rfl)|exact Fit.refl _|exact qA|refine qC ?_ rfl ?_))) (by cbv;(repeat' (first|exact qI|refine qJ ?_ ?_|exact qL _|refine qK ?_|exact qA|exact qE (by rfl)|exact qG (by rfl)|exact Fit.refl _|exact qH _|refine qC ?_ rfl ?_)))
  try cbv
  repeat' (first
      | (refine qQ ?_ (c52 _ _) (by(repeat' (first|exact qB|refine qD ?_ ?_|exact qE (by rfl)|exact qG (by rfl)|exact Fit.refl _|exact qA|refine qC ?_ rfl ?_)))
         try cbv)
      | (refine qQ ?_ (kck_room3) ?hfit
         case hfit=>((repeat' (first|exact qA|exact qB|refine qC ?_ rfl ?_|refine qD ?_ ?_|exact qE (by rfl)|exact qG (by rfl)|exact Fit.refl _|(exact qP (by rfl))));done)
         try cbv)
      | (refine qQ ?_ (kck_hours3) ?hfit
         case hfit=>((repeat' (first|exact qA|exact qB|refine qC ?_ rfl ?_|refine qD ?_ ?_|exact qE (by rfl)|exact qG (by rfl)|exact Fit.refl _|(exact qP (by rfl))));done)
         try cbv)
      | (refine⟨none,?_⟩
         refine qS ?_ (kck_start3) rfl ?hfit
         case hfit=>(cbv;(repeat' (first|exact qA|exact qB|refine qC ?_ rfl ?_|refine qD ?_ ?_|exact qE (by rfl)|exact qG (by rfl)|exact Fit.refl _|(exact qP (by rfl))|((refine fit_sl (by rfl) (fun ix h0 h1=> ?_);(have h2:ix.den<2:=h1);(have hx:ix.den.toNat=0∨ix.den.toNat=1:=by omega);(rcases hx with hx|hx<;>simp only [hx])))));done)
         try cbv)
      | (refine⟨none,?_⟩
         refine qS ?_ (kck_rate3) rfl ?hfit
         case hfit=>(cbv;(repeat' (first|exact qA|exact qB|refine qC ?_ rfl ?_|refine qD ?_ ?_|exact qE (by rfl)|exact qG (by rfl)|exact Fit.refl _|(exact qP (by rfl))|((refine fit_sl (by rfl) (fun ix h0 h1=> ?_);(have h2:ix.den<2:=h1);(have hx:ix.den.toNat=0∨ix.den.toNat=1:=by omega);(rcases hx with hx|hx<;>simp only [hx])))));done)
         try cbv)
      | (refine⟨none,?_⟩
         refine qS ?_ (kck_from3) rfl ?hfit
         case hfit=>(cbv;(repeat' (first|exact qA|exact qB|refine qC ?_ rfl ?_|refine qD ?_ ?_|exact qE (by rfl)|exact qG (by rfl)|exact Fit.refl _|(exact qP (by rfl))|((refine fit_sl (by rfl) (fun ix h0 h1=> ?_);(have h2:ix.den<1:=h1);(have hx:ix.den.toNat=0:=by omega);(rcases hx with hx<;>simp only [hx])))|((refine fit_sl (by rfl) (fun ix h0 h1=> ?_);(have h2:ix.den<2:=h1);(have hx:ix.den.toNat=0∨ix.den.toNat=1:=by omega);(rcases hx with hx|hx<;>simp only [hx])))));done)
         try cbv)
      | (refine⟨none,?_⟩
         refine qS ?_ (kck_top3) rfl ?hfit
         case hfit=>(cbv;(repeat' (first|exact qA|exact qB|refine qC ?_ rfl ?_|refine qD ?_ ?_|exact qE (by rfl)|exact qG (by rfl)|exact Fit.refl _|(exact qP (by rfl))|((refine fit_sl (by rfl) (fun ix h0 h1=> ?_);(have h2:ix.den<1:=h1);(have hx:ix.den.toNat=0:=by omega);(rcases hx with hx<;>simp only [hx])))|((refine fit_sl (by rfl) (fun ix h0 h1=> ?_);(have h2:ix.den<2:=h1);(have hx:ix.den.toNat=0∨ix.den.toNat=1:=by omega);(rcases hx with hx|hx<;>simp only [hx])))));done)
         try cbv)
      | (refine⟨none,?_⟩
         refine qS ?_ (kck_wrong3) rfl ?hfit
         case hfit=>(cbv;(repeat' (first|exact qA|exact qB|refine qC ?_ rfl ?_|refine qD ?_ ?_|exact qE (by rfl)|exact qG (by rfl)|exact Fit.refl _|(exact qP (by rfl))|((refine fit_sl (by rfl) (fun ix h0 h1=> ?_);(have h2:ix.den<1:=h1);(have hx:ix.den.toNat=0:=by omega);(rcases hx with hx<;>simp only [hx])))|((refine fit_sl (by rfl) (fun ix h0 h1=> ?_);(have h2:ix.den<2:=h1);(have hx:ix.den.toNat=0∨ix.den.toNat=1:=by omega);(rcases hx with hx|hx<;>simp only [hx])))));done)
         try cbv)
      | (refine⟨none,?_⟩
         refine qS ?_ (kck_many3) rfl ?hfit
         case hfit=>(cbv;(repeat' (first|exact qA|exact qB|refine qC ?_ rfl ?_|refine qD ?_ ?_|exact qE (by rfl)|exact qG (by rfl)|exact Fit.refl _|(exact qP (by rfl))|((refine fit_sl (by rfl) (fun ix h0 h1=> ?_);(have h2:ix.den<4:=h1);(have hx:ix.den.toNat=0∨ix.den.toNat=1∨ix.den.toNat=2∨ix.den.toNat=3:=by omega);(rcases hx with hx|hx|hx|hx<;>simp only [hx])))));done)
         try cbv)
      | (refine⟨none,?_⟩
         refine qS ?_ (kck_parts3) rfl ?hfit
         case hfit=>(cbv;(repeat' (first|exact qA|exact qB|refine qC ?_ rfl ?_|refine qD ?_ ?_|exact qE (by rfl)|exact qG (by rfl)|exact Fit.refl _|(exact qP (by rfl))|((refine fit_sl (by rfl) (fun ix h0 h1=> ?_);(have h2:ix.den<1:=h1);(have hx:ix.den.toNat=0:=by omega);(rcases hx with hx<;>simp only [hx])))|((refine fit_sl (by rfl) (fun ix h0 h1=> ?_);(have h2:ix.den<5:=h1);(have hx:ix.den.toNat=0∨ix.den.toNat=1∨ix.den.toNat=2∨ix.den.toNat=3∨ix.den.toNat=4:=by omega);(rcases hx with hx|hx|hx|hx|hx<;>simp only [hx])))));done)
         try cbv)
      | (refine qQ ?_ (kck_none3) ?hfit
         case hfit=>((repeat' (first|exact qA|exact qB|refine qC ?_ rfl ?_|refine qD ?_ ?_|exact qE (by rfl)|exact qG (by rfl)|exact Fit.refl _|(exact qP (by rfl))));done)
         try cbv)
      | (refine qQ ?_ (kawake15) ?hfit
         case hfit=>((repeat' (first|exact qA|exact qB|refine qC ?_ rfl ?_|refine qD ?_ ?_|exact qE (by rfl)|exact qG (by rfl)|exact Fit.refl _|(exact qP (by rfl))));done)
         try cbv)
      |fail)
  all_goals first
    |((try clear ktwo50);(try clear kmean69);(try clear kbounds3);(try clear kshow3);(try clear kleave0);(try clear kspans3c);(try clear kprove3);(try clear kmeanx1);(try clear kmeanx2);(try clear kplayx);(try clear kboundsx);(try clear kcoolx);(try clear kleavex);(try clear kmixx0);(try clear kmixx6);(try clear kmixx1);(try clear kck_room3);(try clear kck_hours3);(try clear kck_start3);(try clear kck_rate3);(try clear kck_from3);(try clear kck_top3);(try clear kck_wrong3);(try clear kck_many3);(try clear kck_parts3);(try clear kck_none3);(try clear kawake15);(try clear kV);(try clear kT);(try clear kP);(subst hR;(repeat' (first|exact qA|exact qB|refine qC ?_ rfl ?_|refine qD ?_ ?_|exact qE (by rfl)|exact qG (by rfl)|exact Fit.refl _|exact qH _|(refine qE ?_;(try simp only [qW]at *);simp only [zQ,zA,zB,zC,zD,zE,zF,zG,zH,zI,zJ,zK,zL,zM,zN,zO,zP,zR,zS]at *;omega)));done))
    |skip
end Go.Proofs.Yteelocfbbhchcaa
