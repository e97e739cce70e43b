/- Contracts of the functions that the laws come to. No condition. -/
import Derived.Test.YtdacdjdccibaiaaT4
set_option linter.unusedVariables false
set_option linter.unusedSimpArgs false
set_option linter.deprecated false

namespace Go.Proofs.Ytdacdjdccibaiaa
open Go Go.Eng Go.Proofs
set_option maxRecDepth 10000
theorem look_can {f:List Int→Option SV} {p:List Int→Bool} {k:List Int} {M:SV→Prop} {N:Prop}(hf:f=canF p)(h1:p k=true→M (.bool (.lit true)))(h2:p k=false→N):∃r:Option SV,(∀_:Unit,f k=r)∧match r with
    |some s=>M s
    | none=>N:=look_k (fun s hs=>by
      rw [hf]at hs
      obtain⟨hc,rfl⟩:=canF_some hs
      exact h1 hc) fun hs=>by rw [hf]at hs;exact h2 (canF_none hs)
theorem mapTy129 :MapTy Try.prog 87 56 4:=by
  show Try.prog.underlying 87=some (.map 56 4)
  kernel_rfl
theorem keyOk87 :KeyOk Try.prog 56 false 2:=keyOk_strI (by kernel_rfl)
theorem false38 (tw tm:List Int)(tv:List (List Int))(rate:Int)(cs:List Csk)(D:List (Int×Int))(hS:SOk tw tm tv rate cs)(hl:D.length≤1000)(hd:decB cs.length D=true):FSpec Try.prog 14 [(.agg [(.sl 1 (.sym fun _=>zi (tw).length) (fun ix=>[.int .i64 (.sym fun _=>(tw).getD ix.den.toNat 0)])),(.sl 1 (.sym fun _=>zi (tm).length) (fun ix=>[.int .i64 (.sym fun _=>(tm).getD ix.den.toNat 0)])),(.sl 1 (.sym fun _=>zi (tv).length) (fun ix=>[(.sl 1 (.sym fun _=>zi ((tv).getD ix.den.toNat []).length) (fun jx=>[.int .i64 (.sym fun _=>((tv).getD ix.den.toNat []).getD jx.den.toNat 0)]))])),(.int .i64 (.sym fun _=>rate)),(.sl 5 (.sym fun _=>zi (cs).length) (fun ix=>[(.int .i64 (.sym fun _=>((cs).getD ix.den.toNat ck0).g)),(.int .i64 (.sym fun _=>((cs).getD ix.den.toNat ck0).wl)),(.int .i64 (.sym fun _=>((cs).getD ix.den.toNat ck0).wh)),(.int .i64 (.sym fun _=>((cs).getD ix.den.toNat ck0).ml)),(.int .i64 (.sym fun _=>((cs).getD ix.den.toNat ck0).mh))]))]),(.sl 2 (.sym fun _=>zi D.length) (fun ix=>[(.int .i64 (.sym fun _=>(D.getD ix.den.toNat (0,0)).1)),(.int .i64 (.sym fun _=>(D.getD ix.den.toNat (0,0)).2))]))] [] (fun r _=>r=(.tup [(.sl 1 (.sym fun _=>zi (falL (canB cs (fun j=>sLo tw tm tv (cs.getD j ck0)) (fun j=>sHi tw tm tv (cs.getD j ck0)) cs.length) D D.length).length) (fun ix=>[.int .i64 (.sym fun _=>(falL (canB cs (fun j=>sLo tw tm tv (cs.getD j ck0)) (fun j=>sHi tw tm tv (cs.getD j ck0)) cs.length) D D.length).getD ix.den.toNat 0)])),(.int .i64 (.sym fun _=>0))])):=by
  have c59:=open59 tw tm tv rate cs hS
  have c73:=all73r tw tm tv rate cs D (by have:=hS.few;omega) hl
  have hmt:=mapTy129
  have hko:=keyOk87
  have c75:=fun (i:Nat) (hi:i<cs.length) (d:Int) (h:0≤d∧d≤2000)=>tenths75c (cs.getD i ck0).g d (hS.gal i hi) h
  refine FSpec.is fun R hR=>qW (sc:=sc14) tyok mix Try.func14 rfl Try.call14 (by kernel_rfl) (by kernel_rfl) ?_
  generalize Try.prog=P at c59 c73 hmt hko c75⊢
  cbv
  have hfew:=hS.few
  repeat' (first
      |with_reducible refine hold ?_ ?_
      |with_reducible refine And.intro ?_ ?_
      | (with_reducible refine qS ?_ ?_ ?_
         try cbv)
      | (with_reducible refine qT ?_ ?_
         try cbv)
      |(with_reducible intro hcd;(try simp only [zA,zB,zC,zD,zE,zF,zG,zH,zI,zJ,zK,zL,zM,zN,zO,zP]at hcd);try cbv)
      | (refine qP ?_ (c59) ?hfit
         case hfit=>((repeat' (first|exact qB|refine qD ?_ ?_|exact qE (by rfl)|exact qF (by rfl)|exact Fit.refl _|exact qA|refine qC ?_ rfl ?_));done)
         try cbv)
      | (refine⟨some [8],?_⟩
         cbv
         refine qQ ?_ (c73) (by cbv;(repeat' (first|exact qB|refine qD ?_ ?_|exact qE (by rfl)|exact qF (by rfl)|exact Fit.refl _|exact qA|refine qC ?_ rfl ?_))) (by cbv;(repeat' (first|exact qH|refine qI ?_ ?_|exact qK _|refine qJ ?_|exact qA|exact qE (by rfl)|exact qF (by rfl)|exact Fit.refl _|exact qG _|refine qC ?_ rfl ?_)))
         try cbv)
      | (refine⟨56,4,false,2,?_⟩
         cbv
         refine hold ⟨hmt,fun h=>by cases h⟩ ?_
         refine Or.inl ?_
         try cbv)
      |fail)
  all_goals first
    |trivial
    |((try simp only [qV]at *);(try simp only [zQ,zA,zB,zC,zD,zE,zF,zG,zH,zI,zJ,zK,zL,zM,zN,zO,zP,zR,zS]at *);first|(refine qN ?_;omega)|(simp only [Hold];omega))
    |(exact Bool.noConfusion (hd.symm.trans (by assumption:decB cs.length D=false)))
    |skip
  refine⟨none,[],{x:Nat×(List Int→Option SV) // x.1≤cs.length∧x.2=canF (canB cs (fun j=>sLo tw tm tv (cs.getD j ck0)) (fun j=>sHi tw tm tv (cs.getD j ck0)) x.1)},fun x=>⟨[(1,(.sl 2 (.sym fun _=>zi D.length) (fun ix=>[(.int .i64 (.sym fun _=>(D.getD ix.den.toNat (0,0)).1)),(.int .i64 (.sym fun _=>(D.getD ix.den.toNat (0,0)).2))]))),(6,.own 8 0),(8,.mp 19),(33,(.sl 2 (.sym fun _=>zi cs.length) (fun ix=>[(.int .i64 (.sym fun _=>sLo tw tm tv (cs.getD ix.den.toNat ck0))),(.int .i64 (.sym fun _=>sHi tw tm tv (cs.getD ix.den.toNat ck0)))]))),(34,(.int .i64 (.sym fun _=>zi cs.length))),(35,(.int .i64 (.sym fun _=>zi x.1.1)))],[(19,.map 56 4 false 2 x.1.2),(8,.cells [.pp 0 [(.sl 1 (.sym fun _=>zi (tw).length) (fun ix=>[.int .i64 (.sym fun _=>(tw).getD ix.den.toNat 0)])),(.sl 1 (.sym fun _=>zi (tm).length) (fun ix=>[.int .i64 (.sym fun _=>(tm).getD ix.den.toNat 0)])),(.sl 1 (.sym fun _=>zi (tv).length) (fun ix=>[(.sl 1 (.sym fun _=>zi ((tv).getD ix.den.toNat []).length) (fun jx=>[.int .i64 (.sym fun _=>((tv).getD ix.den.toNat []).getD jx.den.toNat 0)]))])),(.int .i64 (.sym fun _=>rate)),(.sl 5 (.sym fun _=>zi (cs).length) (fun ix=>[(.int .i64 (.sym fun _=>((cs).getD ix.den.toNat ck0).g)),(.int .i64 (.sym fun _=>((cs).getD ix.den.toNat ck0).wl)),(.int .i64 (.sym fun _=>((cs).getD ix.den.toNat ck0).wh)),(.int .i64 (.sym fun _=>((cs).getD ix.den.toNat ck0).ml)),(.int .i64 (.sym fun _=>((cs).getD ix.den.toNat ck0).mh))])),(.sl 2 (.sym fun _=>zi cs.length) (fun ix=>[(.int .i64 (.sym fun _=>sLo tw tm tv (cs.getD ix.den.toNat ck0))),(.int .i64 (.sym fun _=>sHi tw tm tv (cs.getD ix.den.toNat ck0)))])),(.arr 6 (fun ix=>.int .i64 (.sym fun _=>loA tw tm tv cs cs.length ix.den.toNat))),(.arr 6 (fun ix=>.int .i64 (.sym fun _=>hiA tw tm tv cs cs.length ix.den.toNat)))]] 74)],60⟩,fun x=>cs.length-x.1.1,?_,?_⟩
  · refine⟨⟨(0,fun _=>none),by omega,canF_zero⟩,?_⟩
    cbv
    repeat' (first
      |with_reducible refine hold ?_ ?_
      |with_reducible refine And.intro ?_ ?_)
    all_goals first
      |trivial
      |exact qM (qE (by rfl))
      |exact qM (qF (by rfl))
      |exact qM (Fit.refl _)
      |exact qL (qK _)
      |(refine qM (qE ?_);(try simp only [qV]at *);simp only [zQ,zA,zB,zC,zD,zE,zF,zG,zH,zI,zJ,zK,zL,zM,zN,zO,zP,zR,zS]at *;omega)
      |skip
  · rintro ⟨⟨i,f⟩,hi,hf⟩
    cbv
    dsimp only at hi hf
    repeat' (first
        |with_reducible refine hold ?_ ?_
        |with_reducible refine And.intro ?_ ?_
        | (with_reducible refine qS ?_ ?_ ?_
           try cbv)
        | (with_reducible refine qT ?_ ?_
           try cbv)
        |(with_reducible intro hcd;(try simp only [zA,zB,zC,zD,zE,zF,zG,zH,zI,zJ,zK,zL,zM,zN,zO,zP]at hcd);try cbv)
        |fail)
    all_goals first
      |trivial
      |((try simp only [qV]at *);(try simp only [zQ,zA,zB,zC,zD,zE,zF,zG,zH,zI,zJ,zK,zL,zM,zN,zO,zP,zR,zS]at *);first|(refine qN ?_;omega)|(simp only [Hold];omega))
      |((try simp only [qV]at *);(try simp only [zQ,zA,zB,zC,zD,zE,zF,zG,zH,zI,zJ,zK,zL,zM,zN,zO,zP,zR,zS]at *);simp only [Hold];omega)
      |skip
    · have hlt :i<cs.length:=by((try simp only [qV]at *);(try simp only [zQ,zA,zB,zC,zD,zE,zF,zG,zH,zI,zJ,zK,zL,zM,zN,zO,zP,zR,zS]at *);omega)
      have hb:=s_bd hS.t (hS.box i hlt)
      refine⟨none,[],{x:Nat×(List Int→Option SV) // (x.1:Int)≤sHi tw tm tv (cs.getD i ck0)-sLo tw tm tv (cs.getD i ck0)+1∧x.2=canF (canJ cs (fun j=>sLo tw tm tv (cs.getD j ck0)) (fun j=>sHi tw tm tv (cs.getD j ck0)) i x.1)},fun x=>⟨[(1,(.sl 2 (.sym fun _=>zi D.length) (fun ix=>[(.int .i64 (.sym fun _=>(D.getD ix.den.toNat (0,0)).1)),(.int .i64 (.sym fun _=>(D.getD ix.den.toNat (0,0)).2))]))),(6,.own 8 0),(8,.mp 19),(9,(.int .i64 (.sym fun _=>zi i))),(10,.own 64 0),(11,(.int .i64 (.sym fun _=>sLo tw tm tv (cs.getD i ck0)+zi x.1.1))),(33,(.sl 2 (.sym fun _=>zi cs.length) (fun ix=>[(.int .i64 (.sym fun _=>sLo tw tm tv (cs.getD ix.den.toNat ck0))),(.int .i64 (.sym fun _=>sHi tw tm tv (cs.getD ix.den.toNat ck0)))]))),(34,(.int .i64 (.sym fun _=>zi cs.length))),(35,(.int .i64 (.sym fun _=>zi i)))],[(19,.map 56 4 false 2 x.1.2),(8,.cells [.pp 0 [(.sl 1 (.sym fun _=>zi (tw).length) (fun ix=>[.int .i64 (.sym fun _=>(tw).getD ix.den.toNat 0)])),(.sl 1 (.sym fun _=>zi (tm).length) (fun ix=>[.int .i64 (.sym fun _=>(tm).getD ix.den.toNat 0)])),(.sl 1 (.sym fun _=>zi (tv).length) (fun ix=>[(.sl 1 (.sym fun _=>zi ((tv).getD ix.den.toNat []).length) (fun jx=>[.int .i64 (.sym fun _=>((tv).getD ix.den.toNat []).getD jx.den.toNat 0)]))])),(.int .i64 (.sym fun _=>rate)),(.sl 5 (.sym fun _=>zi (cs).length) (fun ix=>[(.int .i64 (.sym fun _=>((cs).getD ix.den.toNat ck0).g)),(.int .i64 (.sym fun _=>((cs).getD ix.den.toNat ck0).wl)),(.int .i64 (.sym fun _=>((cs).getD ix.den.toNat ck0).wh)),(.int .i64 (.sym fun _=>((cs).getD ix.den.toNat ck0).ml)),(.int .i64 (.sym fun _=>((cs).getD ix.den.toNat ck0).mh))])),(.sl 2 (.sym fun _=>zi cs.length) (fun ix=>[(.int .i64 (.sym fun _=>sLo tw tm tv (cs.getD ix.den.toNat ck0))),(.int .i64 (.sym fun _=>sHi tw tm tv (cs.getD ix.den.toNat ck0)))])),(.arr 6 (fun ix=>.int .i64 (.sym fun _=>loA tw tm tv cs cs.length ix.den.toNat))),(.arr 6 (fun ix=>.int .i64 (.sym fun _=>hiA tw tm tv cs cs.length ix.den.toNat)))]] 74),(64,.cells [(.int .i64 (.sym fun _=>sLo tw tm tv (cs.getD i ck0))),(.int .i64 (.sym fun _=>sHi tw tm tv (cs.getD i ck0)))] 51)],90⟩,fun x=>((sHi tw tm tv (cs.getD i ck0)-sLo tw tm tv (cs.getD i ck0)+1)-x.1.1).toNat,?_,?_⟩
      · refine⟨⟨(0,f),by omega,by rw [hf,canJ_zero]⟩,?_⟩
        cbv
        repeat' (first
          |with_reducible refine hold ?_ ?_
          |with_reducible refine And.intro ?_ ?_)
        all_goals first
          |trivial
          |exact qM (qE (by rfl))
          |exact qM (qF (by rfl))
          |exact qM (Fit.refl _)
          |exact qL (qK _)
          |(refine qM (qE ?_);(try simp only [qV]at *);simp only [zQ,zA,zB,zC,zD,zE,zF,zG,zH,zI,zJ,zK,zL,zM,zN,zO,zP,zR,zS]at *;omega)
          |skip
      · rintro ⟨⟨j,f2⟩,hj,hf2⟩
        cbv
        dsimp only at hj hf2
        repeat' (first
            |with_reducible refine hold ?_ ?_
            |with_reducible refine And.intro ?_ ?_
            | (with_reducible refine qS ?_ ?_ ?_
               try cbv)
            | (with_reducible refine qT ?_ ?_
               try cbv)
            |(with_reducible intro hcd;(try simp only [zA,zB,zC,zD,zE,zF,zG,zH,zI,zJ,zK,zL,zM,zN,zO,zP]at hcd);try cbv)
            | (refine qP ?_ (c75 i hlt (sLo tw tm tv (cs.getD i ck0)+zi j) (show Hold _ from ?_)) ?hfit
               case hfit=>((repeat' (first|exact qB|refine qD ?_ ?_|exact qE (by rfl)|exact qF (by rfl)|exact Fit.refl _|exact qA|refine qC ?_ rfl ?_));done)
               try cbv)
            | (obtain⟨f3,ef3⟩:∃y,y=canF (canJ cs (fun j=>sLo tw tm tv (cs.getD j ck0)) (fun j=>sHi tw tm tv (cs.getD j ck0)) i (j+1)):=⟨_,rfl⟩
               refine⟨f3,?_⟩
               cbv
               refine hold ⟨rfl,rfl,hmt,hko,canF_upd hf2 ef3 (by rfl) (by rfl)⟩ ?_
               try cbv)
            |fail)
        all_goals first
          |trivial
          |((try simp only [qV]at *);(try simp only [zQ,zA,zB,zC,zD,zE,zF,zG,zH,zI,zJ,zK,zL,zM,zN,zO,zP,zR,zS]at *);first|(refine qN ?_;omega)|(simp only [Hold];omega))
          |((try simp only [qV]at *);(try simp only [zQ,zA,zB,zC,zD,zE,zF,zG,zH,zI,zJ,zK,zL,zM,zN,zO,zP,zR,zS]at *);simp only [Hold];omega)
          |((try simp only [zQ,zA,zB,zC,zD,zE,zF,zG,zH,zI,zJ,zK,zL,zM,zN,zO,zP,zR,zS]at *);refine⟨⟨(j+1,f3),by(show((j+1:Nat):Int)≤_;(try simp only [qV]at *);(try simp only [zQ,zA,zB,zC,zD,zE,zF,zG,zH,zI,zJ,zK,zL,zM,zN,zO,zP,zR,zS]at *);omega),ef3⟩,by((try simp only []);(try dsimp only);(try simp only [qV]at *);(try simp only [zQ,zA,zB,zC,zD,zE,zF,zG,zH,zI,zJ,zK,zL,zM,zN,zO,zP,zR,zS]at *);omega),?_⟩;cbv;(repeat' (first|with_reducible refine hold ?_ ?_|with_reducible refine And.intro ?_ ?_));(all_goals first|trivial|exact qM (qE (by rfl))|exact qM (qF (by rfl))|exact qM (Fit.refl _)|exact qL (qK _)|(refine qM (qE ?_);(try simp only [qV]at *);simp only [zQ,zA,zB,zC,zD,zE,zF,zG,zH,zI,zJ,zK,zL,zM,zN,zO,zP,zR,zS]at *;omega)|skip))
          |((try simp only [zQ,zA,zB,zC,zD,zE,zF,zG,zH,zI,zJ,zK,zL,zM,zN,zO,zP,zR,zS]at *);refine⟨⟨(i+1,f2),by((try simp only [qV]at *);(try simp only [zQ,zA,zB,zC,zD,zE,zF,zG,zH,zI,zJ,zK,zL,zM,zN,zO,zP,zR,zS]at *);omega),by rw [hf2,canJ_all (lo:=(fun j=>sLo tw tm tv (cs.getD j ck0))) (hi:=(fun j=>sHi tw tm tv (cs.getD j ck0))) (by((try simp only [qV]at *);(try simp only [zQ,zA,zB,zC,zD,zE,zF,zG,zH,zI,zJ,zK,zL,zM,zN,zO,zP,zR,zS]at *);omega))]⟩,by simp only [];omega,?_⟩;cbv;(repeat' (first|with_reducible refine hold ?_ ?_|with_reducible refine And.intro ?_ ?_));(all_goals first|trivial|exact qM (qE (by rfl))|exact qM (qF (by rfl))|exact qM (Fit.refl _)|exact qL (qK _)|(refine qM (qE ?_);(try simp only [qV]at *);simp only [zQ,zA,zB,zC,zD,zE,zF,zG,zH,zI,zJ,zK,zL,zM,zN,zO,zP,zR,zS]at *;omega)|skip))
          |skip
    · have hie :i=cs.length:=by((try simp only [qV]at *);(try simp only [zQ,zA,zB,zC,zD,zE,zF,zG,zH,zI,zJ,zK,zL,zM,zN,zO,zP,zR,zS]at *);omega)
      rw [hie]at hf
      refine⟨none,[⟨.tmp 12,3,1⟩],{x:Nat×List Int // x.1≤D.length∧x.2=falL (canB cs (fun j=>sLo tw tm tv (cs.getD j ck0)) (fun j=>sHi tw tm tv (cs.getD j ck0)) cs.length) D x.1},fun x=>⟨[(8,.mp 19),(12,.row 65),(63,(.sl 2 (.sym fun _=>zi D.length) (fun ix=>[(.int .i64 (.sym fun _=>(D.getD ix.den.toNat (0,0)).1)),(.int .i64 (.sym fun _=>(D.getD ix.den.toNat (0,0)).2))]))),(64,(.int .i64 (.sym fun _=>zi D.length))),(65,(.int .i64 (.sym fun _=>zi x.1.1)))],[(19,.map 56 4 false 2 f),(65,.row 3 1 (.sym fun _=>zi (x.1.2).length) (fun ix=>[.int .i64 (.sym fun _=>(x.1.2).getD ix.den.toNat 0)]))],100⟩,fun x=>D.length-x.1.1,?_,?_⟩
      · refine⟨⟨(0,[]),by omega,rfl⟩,?_⟩
        cbv
        repeat' (first
          |with_reducible refine hold ?_ ?_
          |with_reducible refine And.intro ?_ ?_)
        all_goals first
          |trivial
          |exact qM (qE (by rfl))
          |exact qM (qF (by rfl))
          |exact qM (Fit.refl _)
          |exact qL (qK _)
          |(refine qM (qE ?_);(try simp only [qV]at *);simp only [zQ,zA,zB,zC,zD,zE,zF,zG,zH,zI,zJ,zK,zL,zM,zN,zO,zP,zR,zS]at *;omega)
          |(refine qL (ble_row ?_ ?_);(first|rfl|((try simp only [qV]at *);(try simp only [zQ,zA,zB,zC,zD,zE,zF,zG,zH,zI,zJ,zK,zL,zM,zN,zO,zP,zR,zS]at *);omega));intro ix h0 h1;exfalso;(try simp only [qV]at *);(try simp only [zQ,zA,zB,zC,zD,zE,zF,zG,zH,zI,zJ,zK,zL,zM,zN,zO,zP,zR,zS]at *);omega)
          |skip
      · rintro ⟨⟨k,L⟩,hk,hL⟩
        cbv
        dsimp only at hk hL
        have hlen:=falL_len (p:=canB cs (fun j=>sLo tw tm tv (cs.getD j ck0)) (fun j=>sHi tw tm tv (cs.getD j ck0)) cs.length) (D:=D) k
        rw [←hL]at hlen
        repeat' (first
            |with_reducible refine hold ?_ ?_
            |with_reducible refine And.intro ?_ ?_
            | (with_reducible refine qS ?_ ?_ ?_
               try cbv)
            | (with_reducible refine qT ?_ ?_
               try cbv)
            |(with_reducible intro hcd;(try simp only [zA,zB,zC,zD,zE,zF,zG,zH,zI,zJ,zK,zL,zM,zN,zO,zP]at hcd);try cbv)
            |(refine look_can hf ?_ ?_<;>((with_reducible intro hc);(try cbv)))
            | (obtain⟨L2,eL2⟩:∃y:List Int,y=L++[zi k]:=⟨_,rfl⟩
               refine⟨intsE L2,?_⟩
               cbv
               refine hold (hold_rowlist (L:=L) eL2 (by(first|rfl|((try simp only [qV]at *);(try simp only [zQ,zA,zB,zC,zD,zE,zF,zG,zH,zI,zJ,zK,zL,zM,zN,zO,zP,zR,zS]at *);done)|((try simp only [qV]at *);(try simp only [zQ,zA,zB,zC,zD,zE,zF,zG,zH,zI,zJ,zK,zL,zM,zN,zO,zP,zR,zS]at *);omega))) (by rfl) (fun ix=>Fit.refl _) (fun ix h=>qC (qE (by rfl)) rfl qA) (by(try simp only [qV]at *);(try simp only [zQ,zA,zB,zC,zD,zE,zF,zG,zH,zI,zJ,zK,zL,zM,zN,zO,zP,zR,zS]at *);omega)) (Or.inl ?_)
               try cbv)
            |fail)
        all_goals first
          |trivial
          |((try simp only [qV]at *);(try simp only [zQ,zA,zB,zC,zD,zE,zF,zG,zH,zI,zJ,zK,zL,zM,zN,zO,zP,zR,zS]at *);first|(refine qN ?_;omega)|(simp only [Hold];omega))
          |(subst hR;((have hke:k=D.length:=by((try simp only [qV]at *);(try simp only [zQ,zA,zB,zC,zD,zE,zF,zG,zH,zI,zJ,zK,zL,zM,zN,zO,zP,zR,zS]at *);omega));(have hq:L=falL (canB cs (fun j=>sLo tw tm tv (cs.getD j ck0)) (fun j=>sHi tw tm tv (cs.getD j ck0)) cs.length) D D.length:=hke▸hL);rw [←hq];(first|exact Fit.refl _|(repeat' (first|exact qA|exact Fit.refl _|exact qE (by rfl)|refine qD ?_ ?_|exact qB))));done)
          |(exact⟨rfl,rfl,hmt,hko⟩)
          |((try simp only [qV]at *);(try simp only [zQ,zA,zB,zC,zD,zE,zF,zG,zH,zI,zJ,zK,zL,zM,zN,zO,zP,zR,zS]at *);simp only [Hold];omega)
          |((try simp only [zQ,zA,zB,zC,zD,zE,zF,zG,zH,zI,zJ,zK,zL,zM,zN,zO,zP,zR,zS]at *);refine⟨⟨(k+1,L2),by((try simp only [qV]at *);(try simp only [zQ,zA,zB,zC,zD,zE,zF,zG,zH,zI,zJ,zK,zL,zM,zN,zO,zP,zR,zS]at *);omega),by rw [eL2,hL];exact(falL_n hc).symm⟩,by simp only [];omega,?_⟩;cbv;(repeat' (first|with_reducible refine hold ?_ ?_|with_reducible refine And.intro ?_ ?_));(all_goals first|trivial|exact qM (qE (by rfl))|exact qM (qF (by rfl))|exact qM (Fit.refl _)|exact qL (qK _)|(refine qM (qE ?_);(try simp only [qV]at *);simp only [zQ,zA,zB,zC,zD,zE,zF,zG,zH,zI,zJ,zK,zL,zM,zN,zO,zP,zR,zS]at *;omega)|(refine qL (ble_list ?_ ?_);(first|rfl|((try simp only [qV]at *);(try simp only [zQ,zA,zB,zC,zD,zE,zF,zG,zH,zI,zJ,zK,zL,zM,zN,zO,zP,zR,zS]at *);simp only [eL2,List.length_append,List.length_cons,List.length_nil];omega));intro ix;(try simp only [eL2]);first|exact Fit.refl _|exact qC (qE (by rfl)) rfl qA)|skip))
          |((try simp only [zQ,zA,zB,zC,zD,zE,zF,zG,zH,zI,zJ,zK,zL,zM,zN,zO,zP,zR,zS]at *);refine⟨⟨(k+1,L),by((try simp only [qV]at *);(try simp only [zQ,zA,zB,zC,zD,zE,zF,zG,zH,zI,zJ,zK,zL,zM,zN,zO,zP,zR,zS]at *);omega),by rw [hL];exact(falL_y hc).symm⟩,by simp only [];omega,?_⟩;cbv;(repeat' (first|with_reducible refine hold ?_ ?_|with_reducible refine And.intro ?_ ?_));(all_goals first|trivial|exact qM (qE (by rfl))|exact qM (qF (by rfl))|exact qM (Fit.refl _)|exact qL (qK _)|(refine qM (qE ?_);(try simp only [qV]at *);simp only [zQ,zA,zB,zC,zD,zE,zF,zG,zH,zI,zJ,zK,zL,zM,zN,zO,zP,zR,zS]at *;omega)|(refine qL (ble_list ?_ ?_);(first|rfl|((try simp only [qV]at *);(try simp only [zQ,zA,zB,zC,zD,zE,zF,zG,zH,zI,zJ,zK,zL,zM,zN,zO,zP,zR,zS]at *);simp only [List.length_append,List.length_cons,List.length_nil];omega));intro ix;first|exact Fit.refl _|exact qC (qE (by rfl)) rfl qA)|skip))
          |skip
end Go.Proofs.Ytdacdjdccibaiaa

namespace Go.Proofs.Ytdacdjdccibaiaa
open Go Go.Eng Go.Proofs
set_option maxRecDepth 10000
structure Rdy (tw tm:List Int)(tv:List (List Int))(rate:Int)(cs:List Csk):Prop where
  thin:thinS tw tm tv cs=true
  ok:SOk tw tm tv rate cs
  some:0<cs.length
theorem duty44z (tw tm:List Int)(tv:List (List Int))(rate:Int)(cs:List Csk)(t:List Int)(hS:SOk tw tm tv rate cs)(hT:truthB tw tm tv cs t=true):FSpec Try.prog 12 [(.agg [(.sl 1 (.sym fun _=>zi (tw).length) (fun ix=>[.int .i64 (.sym fun _=>(tw).getD ix.den.toNat 0)])),(.sl 1 (.sym fun _=>zi (tm).length) (fun ix=>[.int .i64 (.sym fun _=>(tm).getD ix.den.toNat 0)])),(.sl 1 (.sym fun _=>zi (tv).length) (fun ix=>[(.sl 1 (.sym fun _=>zi ((tv).getD ix.den.toNat []).length) (fun jx=>[.int .i64 (.sym fun _=>((tv).getD ix.den.toNat []).getD jx.den.toNat 0)]))])),(.int .i64 (.sym fun _=>rate)),(.sl 5 (.sym fun _=>zi (cs).length) (fun ix=>[(.int .i64 (.sym fun _=>((cs).getD ix.den.toNat ck0).g)),(.int .i64 (.sym fun _=>((cs).getD ix.den.toNat ck0).wl)),(.int .i64 (.sym fun _=>((cs).getD ix.den.toNat ck0).wh)),(.int .i64 (.sym fun _=>((cs).getD ix.den.toNat ck0).ml)),(.int .i64 (.sym fun _=>((cs).getD ix.den.toNat ck0).mh))]))]),(.sl 1 (.sym fun _=>zi (t).length) (fun ix=>[.int .i64 (.sym fun _=>(t).getD ix.den.toNat 0)]))] [] (fun r _=>r=(.tup [(.int .i64 (.sym fun _=>dutyP rate cs (fun j=>t.getD j 0) cs.length)),(.int .i64 (.lit 0))])):=
  (duty44 tw tm tv rate cs t hS hT).post fun r bs e=>⟨_,by subst e;(have hlen:=(truth_iff.1 hT).1);(try rw [hlen]);(repeat' (first|exact qA|exact qB|refine qC ?_ rfl ?_|refine qD ?_ ?_|exact qE (by rfl)|exact qF (by rfl)|exact Fit.refl _)),rfl⟩
theorem duties22z (tw tm:List Int)(tv:List (List Int))(rate:Int)(cs:List Csk)(hS:SOk tw tm tv rate cs):FSpec Try.prog 13 [(.agg [(.sl 1 (.sym fun _=>zi (tw).length) (fun ix=>[.int .i64 (.sym fun _=>(tw).getD ix.den.toNat 0)])),(.sl 1 (.sym fun _=>zi (tm).length) (fun ix=>[.int .i64 (.sym fun _=>(tm).getD ix.den.toNat 0)])),(.sl 1 (.sym fun _=>zi (tv).length) (fun ix=>[(.sl 1 (.sym fun _=>zi ((tv).getD ix.den.toNat []).length) (fun jx=>[.int .i64 (.sym fun _=>((tv).getD ix.den.toNat []).getD jx.den.toNat 0)]))])),(.int .i64 (.sym fun _=>rate)),(.sl 5 (.sym fun _=>zi (cs).length) (fun ix=>[(.int .i64 (.sym fun _=>((cs).getD ix.den.toNat ck0).g)),(.int .i64 (.sym fun _=>((cs).getD ix.den.toNat ck0).wl)),(.int .i64 (.sym fun _=>((cs).getD ix.den.toNat ck0).wh)),(.int .i64 (.sym fun _=>((cs).getD ix.den.toNat ck0).ml)),(.int .i64 (.sym fun _=>((cs).getD ix.den.toNat ck0).mh))]))])] [] (fun r _=>r=(.tup [(.agg [(.int .i64 (.sym fun _=>dutyP rate cs (loA tw tm tv cs cs.length) cs.length)),(.int .i64 (.sym fun _=>dutyP rate cs (hiA tw tm tv cs cs.length) cs.length))]),(.int .i64 (.lit 0))])):=
  (duties22 tw tm tv rate cs hS).post fun r bs e=>⟨_,by subst e;(repeat' (first|exact qA|exact qB|refine qC ?_ rfl ?_|refine qD ?_ ?_|exact qE (by rfl)|exact qF (by rfl)|exact Fit.refl _)),rfl⟩
theorem tenths45z (tw tm:List Int)(tv:List (List Int))(rate:Int)(cs:List Csk)(t:List Int)(hS:SOk tw tm tv rate cs)(hT:truthB tw tm tv cs t=true):FSpec Try.prog 10 [(.agg [(.sl 1 (.sym fun _=>zi (tw).length) (fun ix=>[.int .i64 (.sym fun _=>(tw).getD ix.den.toNat 0)])),(.sl 1 (.sym fun _=>zi (tm).length) (fun ix=>[.int .i64 (.sym fun _=>(tm).getD ix.den.toNat 0)])),(.sl 1 (.sym fun _=>zi (tv).length) (fun ix=>[(.sl 1 (.sym fun _=>zi ((tv).getD ix.den.toNat []).length) (fun jx=>[.int .i64 (.sym fun _=>((tv).getD ix.den.toNat []).getD jx.den.toNat 0)]))])),(.int .i64 (.sym fun _=>rate)),(.sl 5 (.sym fun _=>zi (cs).length) (fun ix=>[(.int .i64 (.sym fun _=>((cs).getD ix.den.toNat ck0).g)),(.int .i64 (.sym fun _=>((cs).getD ix.den.toNat ck0).wl)),(.int .i64 (.sym fun _=>((cs).getD ix.den.toNat ck0).wh)),(.int .i64 (.sym fun _=>((cs).getD ix.den.toNat ck0).ml)),(.int .i64 (.sym fun _=>((cs).getD ix.den.toNat ck0).mh))]))]),(.sl 1 (.sym fun _=>zi (t).length) (fun ix=>[.int .i64 (.sym fun _=>(t).getD ix.den.toNat 0)]))] [] (fun r _=>r=(.tup [(.sl 1 (.sym fun _=>zi cs.length) (fun ix=>[(.int .i64 (.sym fun _=>tenthsP (cs.getD ix.den.toNat ck0).g (t.getD ix.den.toNat 0)))])),(.int .i64 (.lit 0))])):=
  (tenths45 tw tm tv rate cs t hS hT).post fun r bs e=>⟨_,by subst e;(repeat' (first|exact qA|exact qB|refine qC ?_ rfl ?_|refine qD ?_ ?_|exact qE (by rfl)|exact qF (by rfl)|exact Fit.refl _)),rfl⟩
end Go.Proofs.Ytdacdjdccibaiaa

namespace Go.Proofs.Ytdacdjdccibaiaa
open Go Go.Eng Go.Proofs
set_option maxRecDepth 10000
theorem false38D (tw tm:List Int)(tv:List (List Int))(rate:Int)(cs:List Csk)(D:List (Int×Int))(L:List Int)(hS:SOk tw tm tv rate cs)(hl:D.length≤1000)(hd:decB cs.length D=true)(hL:falL (canB cs (fun j=>sLo tw tm tv (cs.getD j ck0)) (fun j=>sHi tw tm tv (cs.getD j ck0)) cs.length) D D.length=L):FSpec Try.prog 14 [(.agg [(.sl 1 (.sym fun _=>zi (tw).length) (fun ix=>[.int .i64 (.sym fun _=>(tw).getD ix.den.toNat 0)])),(.sl 1 (.sym fun _=>zi (tm).length) (fun ix=>[.int .i64 (.sym fun _=>(tm).getD ix.den.toNat 0)])),(.sl 1 (.sym fun _=>zi (tv).length) (fun ix=>[(.sl 1 (.sym fun _=>zi ((tv).getD ix.den.toNat []).length) (fun jx=>[.int .i64 (.sym fun _=>((tv).getD ix.den.toNat []).getD jx.den.toNat 0)]))])),(.int .i64 (.sym fun _=>rate)),(.sl 5 (.sym fun _=>zi (cs).length) (fun ix=>[(.int .i64 (.sym fun _=>((cs).getD ix.den.toNat ck0).g)),(.int .i64 (.sym fun _=>((cs).getD ix.den.toNat ck0).wl)),(.int .i64 (.sym fun _=>((cs).getD ix.den.toNat ck0).wh)),(.int .i64 (.sym fun _=>((cs).getD ix.den.toNat ck0).ml)),(.int .i64 (.sym fun _=>((cs).getD ix.den.toNat ck0).mh))]))]),(.sl 2 (.sym fun _=>zi D.length) (fun ix=>[(.int .i64 (.sym fun _=>(D.getD ix.den.toNat (0,0)).1)),(.int .i64 (.sym fun _=>(D.getD ix.den.toNat (0,0)).2))]))] [] (fun r _=>r=(.tup [(.sl 1 (.sym fun _=>zi (L).length) (fun ix=>[.int .i64 (.sym fun _=>(L).getD ix.den.toNat 0)])),(.int .i64 (.lit 0))])):=
  (false38 tw tm tv rate cs D hS hl hd).post fun r bs e=>⟨_,by subst e;subst hL;(repeat' (first|exact qA|exact qB|refine qC ?_ rfl ?_|refine qD ?_ ?_|exact qE (by rfl)|exact qF (by rfl)|exact Fit.refl _)),rfl⟩
end Go.Proofs.Ytdacdjdccibaiaa

namespace Go.Proofs.Ytdacdjdccibaiaa
open Go
theorem mem_upTo {d:Array Int}:∀{m j:Nat},j<m→d[j]! ∈Lib.compactUpTo d m:=by
  intro m
  induction m with
  |zero=>intro j h;omega
  | succ m ih=>
    intro j h
    rw [Lib.compactUpTo_succ]
    rcases Nat.lt_or_ge j m with q|q
    · exact List.mem_append_left _ (ih q)
    · have e:j=m:=by omega
      subst e
      by_cases hk:Lib.keeps d j=true
      · rw [if_pos hk];exact List.mem_append_right _ (List.mem_singleton.2 rfl)
      · have h0:j≠0:=fun e0=>hk (by simp [Lib.keeps,e0])
        have he:d[j]! =d[j-1]! :=by
          simp only [Lib.keeps,decide_eq_true_eq,not_or,Decidable.not_not]at hk
          exact hk.2
        rw [he]
        exact List.mem_append_left _ (ih (by omega))
theorem mem_compact {zs:List Int} {x:Int}(h:x∈zs):x∈Lib.compact zs:=by
  obtain⟨j,h1,h2⟩:=List.getElem_of_mem h
  have:=mem_upTo (d:=zs.toArray) (m:=zs.length) h1
  unfold Lib.compact
  rw [←h2]
  simpa [getElem!_pos,h1]using this
def mrkN (f:Nat→Int)(g:Nat→Int)(lo hi:Int):Nat→List Int
  |0=>[]
  |n+1=>if(decide (lo≤g n)&&decide (g n≤hi))=true then mrkN f g lo hi n++[f n]else mrkN f g lo hi n
theorem mrk_y {f g:Nat→Int} {lo hi:Int} {n:Nat}(h:(decide (lo≤g n)&&decide (g n≤hi))=true):mrkN f g lo hi (n+1)=mrkN f g lo hi n++[f n]:=by simp only [mrkN,h,if_true]
theorem mrk_n {f g:Nat→Int} {lo hi:Int} {n:Nat}(h:(decide (lo≤g n)&&decide (g n≤hi))=false):mrkN f g lo hi (n+1)=mrkN f g lo hi n:=by simp only [mrkN,h,Bool.false_eq_true,if_false]
theorem mrk_len (f g:Nat→Int)(lo hi:Int):∀n,(mrkN f g lo hi n).length≤n:=by
  intro n
  induction n with
  |zero=>exact Nat.le_refl _
  | succ n ih=>
    cases h:decide (lo≤g n)&&decide (g n≤hi)with
    |true=>rw [mrk_y h,List.length_append];simp only [List.length_cons,List.length_nil];omega
    |false=>rw [mrk_n h];omega
theorem mrk_mem {f g:Nat→Int} {lo hi:Int}:∀{n j:Nat},j<n→lo≤g j→g j≤hi→f j∈mrkN f g lo hi n:=by
  intro n
  induction n with
  |zero=>intro j h;omega
  | succ n ih=>
    intro j h h0 h1
    rcases Nat.lt_or_ge j n with q|q
    · cases hc:decide (lo≤g n)&&decide (g n≤hi)with
      |true=>rw [mrk_y hc];exact List.mem_append_left _ (ih q h0 h1)
      |false=>rw [mrk_n hc];exact ih q h0 h1
    · have e:j=n:=by omega
      subst e
      rw [mrk_y (by simp [h0,h1])];exact List.mem_append_right _ (List.mem_singleton.2 rfl)
end Go.Proofs.Ytdacdjdccibaiaa

namespace Go.Proofs.Ytdacdjdccibaiaa
open Go Go.Eng Go.Proofs
set_option maxRecDepth 10000
theorem at7 (tw tm:List Int)(tv:List (List Int))(w m:Int)(hT:TOk tw tm tv)(hp:Pt tw tm w m):FSpec Try.prog 7 [(.agg [(.sl 1 (.sym fun _=>zi (tw).length) (fun ix=>[.int .i64 (.sym fun _=>(tw).getD ix.den.toNat 0)])),(.sl 1 (.sym fun _=>zi (tm).length) (fun ix=>[.int .i64 (.sym fun _=>(tm).getD ix.den.toNat 0)])),(.sl 1 (.sym fun _=>zi (tv).length) (fun ix=>[(.sl 1 (.sym fun _=>zi ((tv).getD ix.den.toNat []).length) (fun jx=>[.int .i64 (.sym fun _=>((tv).getD ix.den.toNat []).getD jx.den.toNat 0)]))]))]),(.int .i64 (.sym fun _=>w)),(.int .i64 (.sym fun _=>m))] [] (fun r _=>r=(.tup [(.int .i64 (.sym fun _=>atS tw tm tv w m)),(.int .i64 (.sym fun _=>0))])):=by
  have c20:= @span117
  have c21:= @has124
  have c22:=at126 tw tm tv w m ⟨hT,hp⟩
  have hf:=faultT_ok hT
  have c19:=check79 tw tm tv
  rw [hf]at c19
  have b1:=hp.w0;have b2:=hp.w1;have b3:=hp.m0;have b4:=hp.m1
  have d1:=hT.w2;have d2:=hT.m2;have d3:=hT.w5;have d4:=hT.m5
  refine FSpec.is fun R hR=>qW (sc:=sc7) tyok mix Try.func7 rfl Try.call7 (by kernel_rfl) (by kernel_rfl) ?_
  generalize Try.prog=P at c20 c21 c22 c19⊢
  cbv
  repeat' (first
      |with_reducible refine hold ?_ ?_
      |with_reducible refine And.intro ?_ ?_
      | (with_reducible refine qS ?_ ?_ ?_
         try cbv)
      | (with_reducible refine qT ?_ ?_
         try cbv)
      |(with_reducible intro hcd;(try simp only [zA,zB,zC,zD,zE,zF,zG,zH,zI,zJ,zK,zL,zM,zN,zO,zP]at hcd);try cbv)
      | (refine qP ?_ (c19) ?hfit
         case hfit=>((repeat' (first|exact qB|refine qD ?_ ?_|exact qE (by rfl)|exact qF (by rfl)|exact Fit.refl _|exact qA|refine qC ?_ rfl ?_));done)
         try cbv)
      | (refine qP ?_ (c20 tw (show Hold _ from ?_)) ?hfit
         case hfit=>((repeat' (first|exact qB|refine qD ?_ ?_|exact qE (by rfl)|exact qF (by rfl)|exact Fit.refl _|exact qA|refine qC ?_ rfl ?_));done)
         try cbv)
      | (refine qP ?_ (c20 tm (show Hold _ from ?_)) ?hfit
         case hfit=>((repeat' (first|exact qB|refine qD ?_ ?_|exact qE (by rfl)|exact qF (by rfl)|exact Fit.refl _|exact qA|refine qC ?_ rfl ?_));done)
         try cbv)
      | (refine qP ?_ (c21 (tw.getD 0 0) (tw.getD (tw.length-1) 0) w) ?hfit
         case hfit=>((repeat' (first|exact qB|refine qD ?_ ?_|exact qE (by rfl)|exact qF (by rfl)|exact Fit.refl _|exact qA|refine qC ?_ rfl ?_));done)
         try cbv)
      | (refine qP ?_ (c21 (tm.getD 0 0) (tm.getD (tm.length-1) 0) m) ?hfit
         case hfit=>((repeat' (first|exact qB|refine qD ?_ ?_|exact qE (by rfl)|exact qF (by rfl)|exact Fit.refl _|exact qA|refine qC ?_ rfl ?_));done)
         try cbv)
      | (refine qP ?_ (c22) ?hfit
         case hfit=>((repeat' (first|exact qB|refine qD ?_ ?_|exact qE (by rfl)|exact qF (by rfl)|exact Fit.refl _|exact qA|refine qC ?_ rfl ?_));done)
         try cbv)
      |fail)
  all_goals first
    |trivial
    |((try simp only [qV]at *);(try simp only [zQ,zA,zB,zC,zD,zE,zF,zG,zH,zI,zJ,zK,zL,zM,zN,zO,zP,zR,zS]at *);first|(refine qN ?_;omega)|(simp only [Hold];omega))
    |(subst hR;(repeat' (first|exact qA|exact qB|refine qC ?_ rfl ?_|refine qD ?_ ?_|exact qE (by rfl)|exact qF (by rfl)|exact Fit.refl _|exact qG _|(refine qE ?_;(try simp only [qV]at *);simp only [zQ,zA,zB,zC,zD,zE,zF,zG,zH,zI,zJ,zK,zL,zM,zN,zO,zP,zR,zS]at *;omega)));done)
    |((try simp only [qV]at *);(try simp only [zQ,zA,zB,zC,zD,zE,zF,zG,zH,zI,zJ,zK,zL,zM,zN,zO,zP,zR,zS]at *);simp only [Hold];first|omega|exact⟨by omega,by omega⟩)
    |(exfalso;(try simp only [qV]at *);(try simp only [zQ,zA,zB,zC,zD,zE,zF,zG,zH,zI,zJ,zK,zL,zM,zN,zO,zP,zR,zS]at *);omega)
    |(exfalso;simp_all;omega)
    |(exfalso;simp_all;done)
    |(simp only [Hold];decide)
    |skip
end Go.Proofs.Ytdacdjdccibaiaa

namespace Go.Proofs.Ytdacdjdccibaiaa
open Go Go.Eng Go.Proofs
set_option maxRecDepth 10000
def ren20 :Shelf.Ren:=⟨fun x=>if x=20 then 26 else x,fun x=>x,fun x=>x⟩
theorem lay20 :Lays2.n20 Try.prog ren20 where
  mixed:=mix
  f20:=by kernel_rfl
  t0:=by kernel_rfl
  a0:=by intro w;kernel_rfl
  z0:=by intro w;kernel_rfl
  v0:=by intro w;kernel_rfl
  t3:=by kernel_rfl
  a3:=by intro w;kernel_rfl
  z3:=by intro w;kernel_rfl
  v3:=by intro w;kernel_rfl
  t4:=by kernel_rfl
  a4:=by intro w;kernel_rfl
  z4:=by intro w;kernel_rfl
  v4:=by intro w;kernel_rfl
  t22:=by kernel_rfl
  a22:=by intro w;kernel_rfl
  z22:=by intro w;kernel_rfl
  v22:=by intro w;kernel_rfl
  i3:=by kernel_rfl
theorem compact26 (ety:Nat)(L:List Int)(hne:0<L.length)(hbig:L.length≤1000000):FSpecN Try.prog 26 [.row 0] [.row ety 1 (.sym fun _=>zi L.length) (intsE L)] (fun r bs=>r = .row 0∧bs=[.row ety 1 (.sym fun _=>zi (Lib.compact L).length) (intsE (Lib.compact L))]):=
  compact_spec (ρ:=ren20) lay20 rfl Try.call26 ety L hne (by omega)
theorem tm_ends {tw tm:List Int} {tv:List (List Int)}(hT:TOk tw tm tv):tm.getD 0 0≤tm.getD (tm.length-1) 0:=by
  have d2:=hT.m2
  exact Int.le_of_lt (rising_lt hT.rm (show 0<tm.length-1 by omega) (by omega))
theorem walk_lim {tw tm:List Int} {tv:List (List Int)} {wl wh:Int}(hT:TOk tw tm tv)(hw:tw.getD 0 0≤wl∧wl≤wh∧wh≤tw.getD (tw.length-1) 0):wid (tm.getD 0 0) (tm.getD (tm.length-1) 0)*wid wl wh≤100000:=by
  have d1:=hT.w2;have d2:=hT.m2
  have e1:=rising_spec hT.rw 0 (by omega)
  have e2:=rising_spec hT.rm 0 (by omega)
  have e3:=rising_spec hT.rw (tw.length-1) (by omega)
  have e4:=rising_spec hT.rm (tm.length-1) (by omega)
  simp only [risingAt]at e1 e2 e3 e4
  have h1:wid (tm.getD 0 0) (tm.getD (tm.length-1) 0)≤100:=by unfold wid;omega
  have h2:wid wl wh≤100:=by unfold wid;omega
  have:=Nat.mul_le_mul h1 h2
  omega
set_option maxHeartbeats 2000000 in
theorem meanings9 (tw tm:List Int)(tv:List (List Int))(wl wh lo hi:Int)(hT:TOk tw tm tv)(hw:tw.getD 0 0≤wl∧wl≤wh∧wh≤tw.getD (tw.length-1) 0)(hs:lo≤hi)(hne:0<(mrkN (fun n=>(tm.getD 0 0)+zi (n/wid wl wh)) (vAt tw tm tv wl (tm.getD 0 0) (wid wl wh)) lo hi (wid (tm.getD 0 0) (tm.getD (tm.length-1) 0)*wid wl wh)).length):FSpec Try.prog 9 [(.agg [(.sl 1 (.sym fun _=>zi (tw).length) (fun ix=>[.int .i64 (.sym fun _=>(tw).getD ix.den.toNat 0)])),(.sl 1 (.sym fun _=>zi (tm).length) (fun ix=>[.int .i64 (.sym fun _=>(tm).getD ix.den.toNat 0)])),(.sl 1 (.sym fun _=>zi (tv).length) (fun ix=>[(.sl 1 (.sym fun _=>zi ((tv).getD ix.den.toNat []).length) (fun jx=>[.int .i64 (.sym fun _=>((tv).getD ix.den.toNat []).getD jx.den.toNat 0)]))]))]),(.agg [(.int .i64 (.sym fun _=>wl)),(.int .i64 (.sym fun _=>wh))]),(.agg [(.int .i64 (.sym fun _=>lo)),(.int .i64 (.sym fun _=>hi))])] [] (fun r _=>r=(.tup [(.sl 1 (.sym fun _=>zi ((Lib.compact (mrkN (fun n=>(tm.getD 0 0)+zi (n/wid wl wh)) (vAt tw tm tv wl (tm.getD 0 0) (wid wl wh)) lo hi (wid (tm.getD 0 0) (tm.getD (tm.length-1) 0)*wid wl wh)))).length) (fun ix=>[.int .i64 (.sym fun _=>((Lib.compact (mrkN (fun n=>(tm.getD 0 0)+zi (n/wid wl wh)) (vAt tw tm tv wl (tm.getD 0 0) (wid wl wh)) lo hi (wid (tm.getD 0 0) (tm.getD (tm.length-1) 0)*wid wl wh)))).getD ix.den.toNat 0)])),(.int .i64 (.sym fun _=>0))])):=by
  have c20:= @span117
  have c21:= @has124
  have c24:= @holds118
  have c25:=strengths119 tw tm tv wl wh (tm.getD 0 0) (tm.getD (tm.length-1) 0)
  have c26x:=compact26
  have hB:Box tw tm wl wh (tm.getD 0 0) (tm.getD (tm.length-1) 0):=⟨hw.2.1,hw.1,hw.2.2,tm_ends hT,Int.le_refl _,Int.le_refl _⟩
  have hf0:=faultT_ok hT
  have c19:=check79 tw tm tv
  rw [hf0]at c19
  have d1:=hT.w2;have d2:=hT.m2;have d3:=hT.w5;have d4:=hT.m5
  have hlim:=walk_lim hT hw
  obtain⟨W,hW⟩:∃W,W=wid wl wh:=⟨_,rfl⟩
  obtain⟨L,hL⟩:∃L,L=wid (tm.getD 0 0) (tm.getD (tm.length-1) 0)*W:=⟨_,rfl⟩
  obtain⟨v,hv⟩:∃v,v=vAt tw tm tv wl (tm.getD 0 0) W:=⟨_,rfl⟩
  obtain⟨f,hf⟩:∃f:Nat→Int,f=fun n=>(tm.getD 0 0)+zi (n/W):=⟨_,rfl⟩
  obtain⟨el,hel⟩:∃el:Nat→List SV,el=(fun n:Nat=>[(.int .i64 (.sym fun _=>f n)),(.int .i64 (.sym fun _=>v n))]):=⟨_,rfl⟩
  have cI:ISpec Try.prog 42 [.pp 0 [(.int .i64 (.sym fun _=>(tm.getD 0 0))),(.int .i64 (.sym fun _=>(tm.getD (tm.length-1) 0)))],.pp 0 [(.int .i64 (.sym fun _=>wl)),(.int .i64 (.sym fun _=>wh))],.pp 0 [(.sl 1 (.sym fun _=>zi (tw).length) (fun ix=>[.int .i64 (.sym fun _=>(tw).getD ix.den.toNat 0)])),(.sl 1 (.sym fun _=>zi (tm).length) (fun ix=>[.int .i64 (.sym fun _=>(tm).getD ix.den.toNat 0)])),(.sl 1 (.sym fun _=>zi (tv).length) (fun ix=>[(.sl 1 (.sym fun _=>zi ((tv).getD ix.den.toNat []).length) (fun jx=>[.int .i64 (.sym fun _=>((tv).getD ix.den.toNat []).getD jx.den.toNat 0)]))]))]] L el:=by rw [hel,hv,hf,hL,hW];exact strengths125 tw tm tv wl wh (tm.getD 0 0) (tm.getD (tm.length-1) 0) ⟨hT,hB⟩
  have elen:∀i,(el i).length=2∧SV.idsL (el i)=[]:=fun i=>by rw [hel];exact⟨rfl,rfl⟩
  have ei:∀i,el i=[(.int .i64 (.sym fun _=>f i)),(.int .i64 (.sym fun _=>v i))]:=fun i=>by rw [hel]
  have hmk:(mrkN (fun n=>(tm.getD 0 0)+zi (n/wid wl wh)) (vAt tw tm tv wl (tm.getD 0 0) (wid wl wh)) lo hi (wid (tm.getD 0 0) (tm.getD (tm.length-1) 0)*wid wl wh))=mrkN f v lo hi L:=by rw [hf,hv,hL,hW]
  rw [hmk]at hne⊢
  have hLl:L≤100000:=by rw [hL,hW];exact hlim
  clear hel hv hL hW hf hmk
  refine FSpec.is fun R hR=>qW (sc:=sc9) tyok mix Try.func9 rfl Try.call9 (by kernel_rfl) (by kernel_rfl) ?_
  generalize Try.prog=P at c20 c21 c24 c25 c26x c19 cI⊢
  cbv
  repeat' (first
      |with_reducible refine hold ?_ ?_
      |with_reducible refine And.intro ?_ ?_
      | (with_reducible refine qS ?_ ?_ ?_
         try cbv)
      | (with_reducible refine qT ?_ ?_
         try cbv)
      |(with_reducible intro hcd;(try simp only [zA,zB,zC,zD,zE,zF,zG,zH,zI,zJ,zK,zL,zM,zN,zO,zP]at hcd);try cbv)
      | (refine qP ?_ (c19) ?hfit
         case hfit=>((repeat' (first|exact qB|refine qD ?_ ?_|exact qE (by rfl)|exact qF (by rfl)|exact Fit.refl _|exact qA|refine qC ?_ rfl ?_));done)
         try cbv)
      | (refine qP ?_ (c20 tw (show Hold _ from ?_)) ?hfit
         case hfit=>((repeat' (first|exact qB|refine qD ?_ ?_|exact qE (by rfl)|exact qF (by rfl)|exact Fit.refl _|exact qA|refine qC ?_ rfl ?_));done)
         try cbv)
      | (refine qP ?_ (c20 tm (show Hold _ from ?_)) ?hfit
         case hfit=>((repeat' (first|exact qB|refine qD ?_ ?_|exact qE (by rfl)|exact qF (by rfl)|exact Fit.refl _|exact qA|refine qC ?_ rfl ?_));done)
         try cbv)
      | (refine qP ?_ (c24 (tw.getD 0 0) (tw.getD (tw.length-1) 0) wl wh) ?hfit
         case hfit=>((repeat' (first|exact qB|refine qD ?_ ?_|exact qE (by rfl)|exact qF (by rfl)|exact Fit.refl _|exact qA|refine qC ?_ rfl ?_));done)
         try cbv)
      | (refine qP ?_ (c25) ?hfit
         case hfit=>((repeat' (first|exact qB|refine qD ?_ ?_|exact qE (by rfl)|exact qF (by rfl)|exact Fit.refl _|exact qA|refine qC ?_ rfl ?_));done)
         try cbv)
      |fail)
  all_goals first
    |trivial
    |((try simp only [qV]at *);(try simp only [zQ,zA,zB,zC,zD,zE,zF,zG,zH,zI,zJ,zK,zL,zM,zN,zO,zP,zR,zS]at *);first|(refine qN ?_;omega)|(simp only [Hold];omega))
    |((try simp only [qV]at *);(try simp only [zQ,zA,zB,zC,zD,zE,zF,zG,zH,zI,zJ,zK,zL,zM,zN,zO,zP,zR,zS]at *);simp only [Hold];first|omega|exact⟨by omega,by omega⟩)
    |(exfalso;(try simp only [qV]at *);(try simp only [zQ,zA,zB,zC,zD,zE,zF,zG,zH,zI,zJ,zK,zL,zM,zN,zO,zP,zR,zS]at *);omega)
    |(exfalso;simp_all;omega)
    |(exfalso;simp_all;done)
    |(simp only [Hold];decide)
    |skip
  refine⟨[⟨.cell 23 0,3,1⟩],L,el,fun _=>Unit,fun i _=>([(0,.cells [(.sl 1 (.sym fun _=>zi (tw).length) (fun ix=>[.int .i64 (.sym fun _=>(tw).getD ix.den.toNat 0)])),(.sl 1 (.sym fun _=>zi (tm).length) (fun ix=>[.int .i64 (.sym fun _=>(tm).getD ix.den.toNat 0)])),(.sl 1 (.sym fun _=>zi (tv).length) (fun ix=>[(.sl 1 (.sym fun _=>zi ((tv).getD ix.den.toNat []).length) (fun jx=>[.int .i64 (.sym fun _=>((tv).getD ix.den.toNat []).getD jx.den.toNat 0)]))]))] 40),(1,.cells [(.int .i64 (.sym fun _=>wl)),(.int .i64 (.sym fun _=>wh))] 44),(2,.cells [(.int .i64 (.sym fun _=>lo)),(.int .i64 (.sym fun _=>hi))] 44),(23,.cells [.row 30] 22),(30,.row 3 1 (.sym fun _=>zi ((mrkN f v lo hi i)).length) (fun ix=>[.int .i64 (.sym fun _=>((mrkN f v lo hi i)).getD ix.den.toNat 0)]))],100),?_⟩
  cbv
  refine⟨fun _=>⟨cI,elen⟩,⟨(),?_⟩,?_,?_⟩
  · cbv
    repeat' (first
      |with_reducible refine hold ?_ ?_
      |with_reducible refine And.intro ?_ ?_)
    all_goals first
      |trivial
      |exact qM (qE (by rfl))
      |exact qM (qF (by rfl))
      |exact qM (Fit.refl _)
      |exact qL (qK _)
      |(refine qM (qE ?_);(try simp only [qV]at *);simp only [zQ,zA,zB,zC,zD,zE,zF,zG,zH,zI,zJ,zK,zL,zM,zN,zO,zP,zR,zS]at *;omega)
      |(refine qL (qJ ?_);(repeat' (first|exact qA|exact qB|refine qC ?_ rfl ?_|refine qD ?_ ?_|exact qE (by rfl)|exact qF (by rfl)|exact Fit.refl _|exact qG _|(refine qE ?_;(try simp only [qV]at *);simp only [zQ,zA,zB,zC,zD,zE,zF,zG,zH,zI,zJ,zK,zL,zM,zN,zO,zP,zR,zS]at *;omega)));done)
      |(refine qL (ble_row ?_ ?_);(first|rfl|((try simp only [qV]at *);(try simp only [zQ,zA,zB,zC,zD,zE,zF,zG,zH,zI,zJ,zK,zL,zM,zN,zO,zP,zR,zS]at *);omega));intro ix h0 h1;exfalso;(try simp only [qV]at *);(try simp only [zQ,zA,zB,zC,zD,zE,zF,zG,zH,zI,zJ,zK,zL,zM,zN,zO,zP,zR,zS]at *);omega)
      |(refine qL (ble_row ?_ ?_)<;>first|rfl|(intro ix h0 h1;exact Fit.refl _))
      |skip
  · intro i _ hil
    have hil:i<L:=hil
    have hlen:=mrk_len f v lo hi i
    have hY:(decide (lo≤v i)&&decide (v i≤hi))=true→mrkN f v lo hi (i+1)=mrkN f v lo hi i++[f i]:=mrk_y
    have hZ:(decide (lo≤v i)&&decide (v i≤hi))=false→mrkN f v lo hi (i+1)=mrkN f v lo hi i:=mrk_n
    obtain⟨M,hM⟩:∃M,M=mrkN f v lo hi i:=⟨_,rfl⟩
    rw [←hM]at hlen hY hZ
    simp only [ei]
    cbv
    rw [←hM]
    repeat' (first
        |with_reducible refine hold ?_ ?_
        |with_reducible refine And.intro ?_ ?_
        | (with_reducible refine qS ?_ ?_ ?_
           try cbv)
        | (with_reducible refine qT ?_ ?_
           try cbv)
        |(with_reducible intro hcd;(try simp only [zA,zB,zC,zD,zE,zF,zG,zH,zI,zJ,zK,zL,zM,zN,zO,zP]at hcd);try cbv)
        | (refine qP ?_ (c21 lo hi (v i)) ?hfit
           case hfit=>((repeat' (first|exact qB|refine qD ?_ ?_|exact qE (by rfl)|exact qF (by rfl)|exact Fit.refl _|exact qA|refine qC ?_ rfl ?_));done)
           try cbv)
        | (obtain⟨L2,eL2⟩:∃y:List Int,y=M++[f i]:=⟨_,rfl⟩
           refine⟨intsE L2,?_⟩
           cbv
           refine hold (hold_rowlist (L:=M) eL2 (by(first|rfl|((try simp only [qV]at *);(try simp only [zQ,zA,zB,zC,zD,zE,zF,zG,zH,zI,zJ,zK,zL,zM,zN,zO,zP,zR,zS]at *);done)|((try simp only [qV]at *);(try simp only [zQ,zA,zB,zC,zD,zE,zF,zG,zH,zI,zJ,zK,zL,zM,zN,zO,zP,zR,zS]at *);omega))) (by rfl) (fun ix=>Fit.refl _) (fun ix h=>qC (qE (by rfl)) rfl qA) (by(try simp only [qV]at *);(try simp only [zQ,zA,zB,zC,zD,zE,zF,zG,zH,zI,zJ,zK,zL,zM,zN,zO,zP,zR,zS]at *);omega)) (Or.inl ?_)
           try cbv)
        |fail)
    all_goals first
      |trivial
      |((try simp only [qV]at *);(try simp only [zQ,zA,zB,zC,zD,zE,zF,zG,zH,zI,zJ,zK,zL,zM,zN,zO,zP,zR,zS]at *);first|(refine qN ?_;omega)|(simp only [Hold];omega))
      |((try simp only [qV]at *);(try simp only [zQ,zA,zB,zC,zD,zE,zF,zG,zH,zI,zJ,zK,zL,zM,zN,zO,zP,zR,zS]at *);simp only [Hold];first|omega|exact⟨by omega,by omega⟩)
      |((have hx:mrkN f v lo hi (i+1)=L2:=(hY hcd).trans eL2.symm);refine⟨(),?_⟩;cbv;(repeat' (first|with_reducible refine hold ?_ ?_|with_reducible refine And.intro ?_ ?_));(all_goals first|trivial|exact qM (qE (by rfl))|exact qM (qF (by rfl))|exact qM (Fit.refl _)|exact qL (qK _)|(refine qM (qE ?_);(try simp only [qV]at *);simp only [zQ,zA,zB,zC,zD,zE,zF,zG,zH,zI,zJ,zK,zL,zM,zN,zO,zP,zR,zS]at *;omega)|(refine qL (qJ ?_);(repeat' (first|exact qA|exact qB|refine qC ?_ rfl ?_|refine qD ?_ ?_|exact qE (by rfl)|exact qF (by rfl)|exact Fit.refl _|exact qG _|(refine qE ?_;(try simp only [qV]at *);simp only [zQ,zA,zB,zC,zD,zE,zF,zG,zH,zI,zJ,zK,zL,zM,zN,zO,zP,zR,zS]at *;omega)));done)|(simp only [hx];first|exact qL (qK _)|(refine qL (ble_row ?_ ?_)<;>first|rfl|(rw [eL2,List.length_append];rfl)|((try simp only [qV]at *);(try simp only [zQ,zA,zB,zC,zD,zE,zF,zG,zH,zI,zJ,zK,zL,zM,zN,zO,zP,zR,zS]at *);(try simp only [eL2,List.length_append,List.length_cons,List.length_nil]at *);omega)|(intro ix h0 h1;exact Fit.refl _)))|skip))
      |((have hx:mrkN f v lo hi (i+1)=M:=hZ hcd);refine⟨(),?_⟩;cbv;(repeat' (first|with_reducible refine hold ?_ ?_|with_reducible refine And.intro ?_ ?_));(all_goals first|trivial|exact qM (qE (by rfl))|exact qM (qF (by rfl))|exact qM (Fit.refl _)|exact qL (qK _)|(refine qM (qE ?_);(try simp only [qV]at *);simp only [zQ,zA,zB,zC,zD,zE,zF,zG,zH,zI,zJ,zK,zL,zM,zN,zO,zP,zR,zS]at *;omega)|(refine qL (qJ ?_);(repeat' (first|exact qA|exact qB|refine qC ?_ rfl ?_|refine qD ?_ ?_|exact qE (by rfl)|exact qF (by rfl)|exact Fit.refl _|exact qG _|(refine qE ?_;(try simp only [qV]at *);simp only [zQ,zA,zB,zC,zD,zE,zF,zG,zH,zI,zJ,zK,zL,zM,zN,zO,zP,zR,zS]at *;omega)));done)|(simp only [hx];first|exact qL (qK _)|(refine qL (ble_row ?_ ?_)<;>first|rfl|(rw [eL2,List.length_append];rfl)|((try simp only [qV]at *);(try simp only [zQ,zA,zB,zC,zD,zE,zF,zG,zH,zI,zJ,zK,zL,zM,zN,zO,zP,zR,zS]at *);(try simp only [eL2,List.length_append,List.length_cons,List.length_nil]at *);omega)|(intro ix h0 h1;exact Fit.refl _)))|skip))
      |(simp only [Hold];decide)
      |skip
  · intro _
    obtain⟨M,hM⟩:∃M,M=mrkN f v lo hi L:=⟨_,rfl⟩
    have hlen:=mrk_len f v lo hi L
    rw [←hM]at hlen hne
    rw [←hM]at hR
    have c26:=c26x 3 M hne (by omega)
    obtain⟨Q,hQ⟩:∃Q,Q=Lib.compact M:=⟨_,rfl⟩
    rw [←hQ]at c26 hR
    cbv
    rw [←hM]
    repeat' (first
        |with_reducible refine hold ?_ ?_
        |with_reducible refine And.intro ?_ ?_
        | (with_reducible refine qS ?_ ?_ ?_
           try cbv)
        | (with_reducible refine qT ?_ ?_
           try cbv)
        |(with_reducible intro hcd;(try simp only [zA,zB,zC,zD,zE,zF,zG,zH,zI,zJ,zK,zL,zM,zN,zO,zP]at hcd);try cbv)
        | (refine⟨some [30],?_⟩
           cbv
           refine qU ?_ (c26) (by cbv;(repeat' (first|exact qB|refine qD ?_ ?_|exact qE (by rfl)|exact qF (by rfl)|exact Fit.refl _|exact qA|refine qC ?_ rfl ?_))) (by cbv;(repeat' (first|exact qH|refine qI ?_ ?_|exact qK _|refine qJ ?_|exact qA|exact qE (by rfl)|exact qF (by rfl)|exact Fit.refl _|exact qG _|refine qC ?_ rfl ?_)))
           try cbv)
        |fail)
    all_goals first
      |trivial
      |((try simp only [qV]at *);(try simp only [zQ,zA,zB,zC,zD,zE,zF,zG,zH,zI,zJ,zK,zL,zM,zN,zO,zP,zR,zS]at *);first|(refine qN ?_;omega)|(simp only [Hold];omega))
      |(subst hR;(repeat' (first|exact qA|exact qB|refine qC ?_ rfl ?_|refine qD ?_ ?_|exact qE (by rfl)|exact qF (by rfl)|exact Fit.refl _|exact qG _|(refine qE ?_;(try simp only [qV]at *);simp only [zQ,zA,zB,zC,zD,zE,zF,zG,zH,zI,zJ,zK,zL,zM,zN,zO,zP,zR,zS]at *;omega)));done)
      |(subst hR;exact Fit.refl _;done)
      |((try simp only [qV]at *);(try simp only [zQ,zA,zB,zC,zD,zE,zF,zG,zH,zI,zJ,zK,zL,zM,zN,zO,zP,zR,zS]at *);simp only [Hold];first|omega|exact⟨by omega,by omega⟩)
      |(exfalso;(try simp only [qV]at *);(try simp only [zQ,zA,zB,zC,zD,zE,zF,zG,zH,zI,zJ,zK,zL,zM,zN,zO,zP,zR,zS]at *);omega)
      |(simp only [Hold];decide)
      |skip
end Go.Proofs.Ytdacdjdccibaiaa

namespace Go.Proofs.Ytdacdjdccibaiaa
open Go Go.Eng Go.Proofs
set_option maxRecDepth 10000
def sc6b :SC:=[(3,[⟨7,false,[],false,0,none⟩])]
def twX :List Int:=[10,14]
def tmX :List Int:=[0,10]
def tvX :List (List Int):=[[900,1260],[810,1179]]
def csX :List Csk:=[⟨30,14,14,0,1⟩]
theorem sokX :SOk twX tmX tvX 0 csX:=faultS_iff.1 (by decide +kernel)
theorem truX :truthB twX tmX tvX csX [847]=true:=by decide +kernel
theorem atX :atS twX tmX tvX 14 1=847:=by decide +kernel
theorem ptX :Pt twX tmX 14 1:=⟨by decide,by decide,by decide,by decide⟩
theorem tenX :tenthsP (csX.getD 0 ck0).g ([847].getD 0 0)=254:=by decide +kernel
theorem atXc :FSpec Try.prog 7 [(.agg [(.sl 1 (.sym fun _=>zi (twX).length) (fun ix=>[.int .i64 (.sym fun _=>(twX).getD ix.den.toNat 0)])),(.sl 1 (.sym fun _=>zi (tmX).length) (fun ix=>[.int .i64 (.sym fun _=>(tmX).getD ix.den.toNat 0)])),(.sl 1 (.sym fun _=>zi (tvX).length) (fun ix=>[(.sl 1 (.sym fun _=>zi ((tvX).getD ix.den.toNat []).length) (fun jx=>[.int .i64 (.sym fun _=>((tvX).getD ix.den.toNat []).getD jx.den.toNat 0)]))]))]),(.int .i64 (.sym fun _=>14)),(.int .i64 (.sym fun _=>1))] [] (fun r _=>r=(.tup [(.int .i64 (.lit (847))),(.int .i64 (.sym fun _=>0))])):=
  (at7 twX tmX tvX 14 1 sokX.t ptX).post fun r bs h=>⟨_,by subst h;exact qD (qE atX) (qD (Fit.refl _) qB),rfl⟩
theorem tenXc :FSpec Try.prog 10 [(.agg [(.sl 1 (.sym fun _=>zi (twX).length) (fun ix=>[.int .i64 (.sym fun _=>(twX).getD ix.den.toNat 0)])),(.sl 1 (.sym fun _=>zi (tmX).length) (fun ix=>[.int .i64 (.sym fun _=>(tmX).getD ix.den.toNat 0)])),(.sl 1 (.sym fun _=>zi (tvX).length) (fun ix=>[(.sl 1 (.sym fun _=>zi ((tvX).getD ix.den.toNat []).length) (fun jx=>[.int .i64 (.sym fun _=>((tvX).getD ix.den.toNat []).getD jx.den.toNat 0)]))])),(.int .i64 (.sym fun _=>0)),(.sl 5 (.sym fun _=>zi (csX).length) (fun ix=>[(.int .i64 (.sym fun _=>((csX).getD ix.den.toNat ck0).g)),(.int .i64 (.sym fun _=>((csX).getD ix.den.toNat ck0).wl)),(.int .i64 (.sym fun _=>((csX).getD ix.den.toNat ck0).wh)),(.int .i64 (.sym fun _=>((csX).getD ix.den.toNat ck0).ml)),(.int .i64 (.sym fun _=>((csX).getD ix.den.toNat ck0).mh))]))]),(.sl 1 (.sym fun _=>zi (([847]:List Int)).length) (fun ix=>[.int .i64 (.sym fun _=>(([847]:List Int)).getD ix.den.toNat 0)]))] [] (fun r _=>r=(.tup [(.sl 1 (.sym fun _=>1) (fun ix=>[(.int .i64 (.lit (254)))])),(.int .i64 (.lit (0)))])):=
  (tenths45z twX tmX tvX 0 csX [847] sokX truX).post fun r bs h=>⟨_,by
    subst h
    refine qD (fit_sl (by rfl) (fun ix h0 h1=> ?_)) (qD (Fit.refl _) qB)
    have h2:ix.den<1:=h1
    have hx:ix.den.toNat=0:=by omega
    simp only [hx]
    exact qC (qE tenX) rfl qA,rfl⟩
theorem dipped6 :FSpec Try.prog 6 [] [] (fun r _=>r=(.bool (.lit true))):=by
  have k7:=atXc
  have k10:=tenXc
  refine FSpec.is fun R hR=>qW (sc:=sc6b) tyok mix Try.func6 rfl Try.call6 (by kernel_rfl) (by kernel_rfl) ?_
  generalize Try.prog=P at k7 k10⊢
  cbv
  repeat' (first
      |with_reducible refine hold ?_ ?_
      |with_reducible refine And.intro ?_ ?_
      | (with_reducible refine qS ?_ ?_ ?_
         try cbv)
      | (with_reducible refine qT ?_ ?_
         try cbv)
      |(with_reducible intro hcd;(try simp only [zA,zB,zC,zD,zE,zF,zG,zH,zI,zJ,zK,zL,zM,zN,zO,zP]at hcd);try cbv)
      | (refine qP ?_ (k7) ?hfit
         case hfit=>((repeat' (first|exact qA|exact qB|refine qC ?_ rfl ?_|refine qD ?_ ?_|exact qE (by rfl)|exact qF (by rfl)|exact Fit.refl _|(exact qO (by rfl))|(first|(refine fit_sl (by rfl) (fun ix h0 h1=> ?_);(have h2:ix.den<2:=h1);(have hx:ix.den.toNat=0∨ix.den.toNat=1:=by omega);(rcases hx with hx|hx<;>simp only [hx]))|(refine fit_sl (by rfl) (fun ix h0 h1=> ?_);(have h2:ix.den<1:=h1);(have hx:ix.den.toNat=0:=by omega);(rcases hx with hx<;>simp only [hx])))));done)
         try cbv)
      | (refine qP ?_ (k10) ?hfit
         case hfit=>((repeat' (first|exact qA|exact qB|refine qC ?_ rfl ?_|refine qD ?_ ?_|exact qE (by rfl)|exact qF (by rfl)|exact Fit.refl _|(exact qO (by rfl))|(first|(refine fit_sl (by rfl) (fun ix h0 h1=> ?_);(have h2:ix.den<2:=h1);(have hx:ix.den.toNat=0∨ix.den.toNat=1:=by omega);(rcases hx with hx|hx<;>simp only [hx]))|(refine fit_sl (by rfl) (fun ix h0 h1=> ?_);(have h2:ix.den<1:=h1);(have hx:ix.den.toNat=0:=by omega);(rcases hx with hx<;>simp only [hx])))));done)
         try cbv)
      | (refine qR ?_ (k7) rfl ?hfit
         case hfit=>(cbv;(repeat' (first|exact qA|exact qB|refine qC ?_ rfl ?_|refine qD ?_ ?_|exact qE (by rfl)|exact qF (by rfl)|exact Fit.refl _|(exact qO (by rfl))|(first|(refine fit_sl (by rfl) (fun ix h0 h1=> ?_);(have h2:ix.den<2:=h1);(have hx:ix.den.toNat=0∨ix.den.toNat=1:=by omega);(rcases hx with hx|hx<;>simp only [hx]))|(refine fit_sl (by rfl) (fun ix h0 h1=> ?_);(have h2:ix.den<1:=h1);(have hx:ix.den.toNat=0:=by omega);(rcases hx with hx<;>simp only [hx])))));done)
         try cbv)
      | (refine⟨none,?_⟩
         refine qR ?_ (k7) rfl ?hfit
         case hfit=>(cbv;(repeat' (first|exact qA|exact qB|refine qC ?_ rfl ?_|refine qD ?_ ?_|exact qE (by rfl)|exact qF (by rfl)|exact Fit.refl _|(exact qO (by rfl))|(first|(refine fit_sl (by rfl) (fun ix h0 h1=> ?_);(have h2:ix.den<2:=h1);(have hx:ix.den.toNat=0∨ix.den.toNat=1:=by omega);(rcases hx with hx|hx<;>simp only [hx]))|(refine fit_sl (by rfl) (fun ix h0 h1=> ?_);(have h2:ix.den<1:=h1);(have hx:ix.den.toNat=0:=by omega);(rcases hx with hx<;>simp only [hx])))));done)
         try cbv)
      | (refine Exists.intro (α:=List Nat) [1,2,3,4,5,7,20,22] ?_
         cbv
         fail_if_success (show False))
      | (refine Exists.intro (α:=List Nat) [1,2,5,7,20,22] ?_
         cbv
         fail_if_success (show False))
      |fail)
  all_goals first
    |trivial
    |((try simp only [qV]at *);(try simp only [zQ,zA,zB,zC,zD,zE,zF,zG,zH,zI,zJ,zK,zL,zM,zN,zO,zP,zR,zS]at *);first|(refine qN ?_;omega)|(simp only [Hold];omega))
    |(subst hR;(repeat' (first|exact qA|exact qB|refine qC ?_ rfl ?_|refine qD ?_ ?_|exact qE (by rfl)|exact qF (by rfl)|exact Fit.refl _|exact qG _|(refine qE ?_;(try simp only [qV]at *);simp only [zQ,zA,zB,zC,zD,zE,zF,zG,zH,zI,zJ,zK,zL,zM,zN,zO,zP,zR,zS]at *;omega)));done)
    |(exact(hcd rfl).elim)
    |((try simp only [qV]at *);(try simp only [zQ,zA,zB,zC,zD,zE,zF,zG,zH,zI,zJ,zK,zL,zM,zN,zO,zP,zR,zS]at *);simp only [Hold];first|omega|exact⟨by omega,by omega⟩)
    |(simp only [Hold];decide)
    |skip
end Go.Proofs.Ytdacdjdccibaiaa
