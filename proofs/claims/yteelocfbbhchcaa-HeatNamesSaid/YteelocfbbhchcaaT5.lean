/- Contracts of the functions that the laws come to. No condition. -/
import Derived.Test.YteelocfbbhchcaaT4
set_option linter.unusedVariables false
set_option linter.unusedSimpArgs false
set_option linter.deprecated false

namespace Go.Proofs.Yteelocfbbhchcaa
open Go Go.Eng Go.Proofs
set_option maxRecDepth 10000
theorem bounds30y (c:Clr)(l:List LookT)(h:askE c l=0):FSpec Try.prog 30 [(clrS c),(lksS l)] [] (fun r _=>r=(.tup [(.sl 1 (.sym fun _=>zi (bndN c l)) (fun ix=>[(.sl 2 (.sym fun _=>zi (c.hr.toNat+1)) (fun jx=>[(.int .i64 (.sym fun _=>loW c (vyL c l ix.den.toNat) jx.den.toNat)),(.int .i64 (.sym fun _=>hiW c (vyL c l ix.den.toNat) jx.den.toNat))]))])),(.int .i64 (.sym fun _=>askE c l))])):=by
  have c71:=asked71 c l h
  have c72:=fun (v:Nat) (hv:v<c.vs.length)=>(show FSpec Try.prog 72 [(wpS c l),(.sl 1 (.sym fun _=>zi (roomsL c l []).length) (fun ix=>[.int .i64 (.sym fun _=>(roomsL c l []).getD ix.den.toNat 0)])),(.int .i64 (.sym fun _=>zi v))] [] (fun r _=>r=(.sl 2 (.sym fun _=>zi (bdN c (vyL c l v))) (fun jx=>[(.int .i64 (.sym fun _=>loW c (vyL c l v) jx.den.toNat)),(.int .i64 (.sym fun _=>hiW c (vyL c l v) jx.den.toNat))])))from bounds72 c l (zi v) (roomsL c l []) (lookedF_spec (askE_ok h).1).1 (lookedF_spec (askE_ok h).1).2 (by simp only [zi_den];omega) (by simp only [zi_den];omega) (by have:=rooms_len (lookedF_spec (askE_ok h).1).1 l [];omega) (fun k hk=>room_bd (lookedF_spec (askE_ok h).1).1 hk))
  refine FSpec.is fun R hR=>qX (sc:=sc30) tyok mix Try.func30 rfl Try.call30 (by kernel_rfl) (by kernel_rfl) ?_
  generalize Try.prog=P at c71 c72⊢
  cbv
  have hc:=(lookedF_spec (askE_ok h).1).1
  have hfv:=hc.few.v
  repeat' (first
      |with_reducible refine And.intro ?_ ?_
      |(with_reducible intro hcd;(try simp only [zA,zB,zC,zD,zE,zF,zG,zH,zI,zJ,zK,zL,zM,zN,zO,zP]at hcd);try cbv)
      | (refine qQ ?_ (c71) ?hfit
         case hfit=>((repeat' (first|exact qB|refine qD ?_ ?_|exact qE (by rfl)|exact qG (by rfl)|exact Fit.refl _|exact qA|refine qC ?_ rfl ?_));done)
         try cbv)
      |fail)
  all_goals first
    |trivial
    |skip
  refine⟨none,[⟨.tmp 9,74,1⟩],{i:Nat // i≤c.vs.length},fun x=>⟨[(2,.own 0 0),(6,(wpS c l)),(7,(.sl 1 (.sym fun _=>zi (roomsL c l []).length) (fun ix=>[.int .i64 (.sym fun _=>(roomsL c l []).getD ix.den.toNat 0)]))),(9,.row 20),(23,(.int .i64 (.sym fun _=>zi c.vs.length))),(24,(.int .i64 (.sym fun _=>zi x.1)))],[(0,.cells [(.int .i64 (.sym fun _=>c.rl)),(.int .i64 (.sym fun _=>c.rh)),(.int .i64 (.sym fun _=>c.hr)),(.sl 4 (.sym fun _=>zi c.vs.length) (fun ix=>[(.int .i64 (.sym fun _=>(c.vs.getD ix.den.toNat v0).sl)),(.int .i64 (.sym fun _=>(c.vs.getD ix.den.toNat v0).sh)),(.int .i64 (.sym fun _=>(c.vs.getD ix.den.toNat v0).rl)),(.int .i64 (.sym fun _=>(c.vs.getD ix.den.toNat v0).rh))])),(.sl 2 (.sym fun _=>zi c.ts.length) (fun ix=>[(.int .i64 (.sym fun _=>(c.ts.getD ix.den.toNat t0).top)),(.sl 3 (.sym fun _=>zi ((c.ts.getD ix.den.toNat t0).ps).length) (fun jx=>[(.int .i64 (.sym fun _=>(((c.ts.getD ix.den.toNat t0).ps).getD jx.den.toNat p0).f)),(.int .i64 (.sym fun _=>(((c.ts.getD ix.den.toNat t0).ps).getD jx.den.toNat p0).el)),(.int .i64 (.sym fun _=>(((c.ts.getD ix.den.toNat t0).ps).getD jx.den.toNat p0).eh))]))]))] 40),(20,.row 74 1 (.sym fun _=>zi x.1) (fun ix=>[(.sl 2 (.sym fun _=>zi (c.hr.toNat+1)) (fun jx=>[(.int .i64 (.sym fun _=>loW c (vyL c l ix.den.toNat) jx.den.toNat)),(.int .i64 (.sym fun _=>hiW c (vyL c l ix.den.toNat) jx.den.toNat))]))]))],90⟩,fun x=>c.vs.length-x.1,?_,?_⟩
  · refine⟨⟨0,by omega⟩,?_⟩
    cbv
    repeat' (first
      |with_reducible refine hold ?_ ?_
      |with_reducible refine And.intro ?_ ?_)
    all_goals first
      |trivial
      |exact qN (qE (by rfl))
      |exact qN (Fit.refl _)
      |exact qM (qL _)
      |(refine qM (ble_row ?_ ?_);(first|rfl|((try simp only [qW]at *);(try simp only [zQ,zA,zB,zC,zD,zE,zF,zG,zH,zI,zJ,zK,zL,zM,zN,zO,zP,zR,zS]at *);omega));intro ix h0 h1;exfalso;(try simp only [qW]at *);(try simp only [zQ,zA,zB,zC,zD,zE,zF,zG,zH,zI,zJ,zK,zL,zM,zN,zO,zP,zR,zS]at *);omega)
      |skip
  · rintro ⟨i,hi⟩
    cbv
    repeat' (first
        |with_reducible refine hold ?_ ?_
        |with_reducible refine And.intro ?_ ?_
        |(with_reducible intro hcd;(try simp only [zA,zB,zC,zD,zE,zF,zG,zH,zI,zJ,zK,zL,zM,zN,zO,zP]at hcd);try cbv)
        | (refine qQ ?_ (c72 i (by((try simp only [qW]at *);(try simp only [zQ,zA,zB,zC,zD,zE,zF,zG,zH,zI,zJ,zK,zL,zM,zN,zO,zP,zR,zS]at *);omega))) ?hfit
           case hfit=>((repeat' (first|exact qB|refine qD ?_ ?_|exact qE (by rfl)|exact qG (by rfl)|exact Fit.refl _|exact qA|refine qC ?_ rfl ?_));done)
           try cbv)
        | (refine⟨fun ix=>[(.sl 2 (.sym fun _=>zi (c.hr.toNat+1)) (fun jx=>[(.int .i64 (.sym fun _=>loW c (vyL c l ix.den.toNat) jx.den.toNat)),(.int .i64 (.sym fun _=>hiW c (vyL c l ix.den.toNat) jx.den.toNat))]))],?_⟩
           cbv
           refine hold (hold_rowapp (by intro ix jx h0 h1 h2;simp only [h2];exact Fit.refl _) (by intro ix jx h0 h1 h2;(have h3:jx.den.toNat=i:=by((try simp only [qW]at *);(try simp only [zQ,zA,zB,zC,zD,zE,zF,zG,zH,zI,zJ,zK,zL,zM,zN,zO,zP,zR,zS]at *);omega));simp only [h3];exact qC (fit_sl (congrArg zi (bdN_one (vyL_ne h (by((try simp only [qW]at *);(try simp only [zQ,zA,zB,zC,zD,zE,zF,zG,zH,zI,zJ,zK,zL,zM,zN,zO,zP,zR,zS]at *);omega))))) (fun _ _ _=>Fit.refl _)) rfl qA) (by(try simp only [qW]at *);(try simp only [zQ,zA,zB,zC,zD,zE,zF,zG,zH,zI,zJ,zK,zL,zM,zN,zO,zP,zR,zS]at *);omega)) (Or.inl ?_)
           try cbv)
        |fail)
    all_goals first
      |((try simp only [qW]at *);(try simp only [zQ,zA,zB,zC,zD,zE,zF,zG,zH,zI,zJ,zK,zL,zM,zN,zO,zP,zR,zS]at *);first|(refine qO ?_;omega)|(simp only [Hold];omega))
      |((have hie:i=c.vs.length:=(by((try simp only [qW]at *);(try simp only [zQ,zA,zB,zC,zD,zE,zF,zG,zH,zI,zJ,zK,zL,zM,zN,zO,zP,zR,zS]at *);omega)));subst hR;exact qD (fit_sl (congrArg zi (hie.trans (bndN_yes h).symm)) (fun _ _ _=>Fit.refl _)) (qD (qE h.symm) qB))
      |((try simp only [zQ,zA,zB,zC,zD,zE,zF,zG,zH,zI,zJ,zK,zL,zM,zN,zO,zP,zR,zS]at *);refine⟨⟨i+1,by omega⟩,by simp only [];omega,?_⟩;cbv;(repeat' (first|with_reducible refine hold ?_ ?_|with_reducible refine And.intro ?_ ?_));(all_goals first|trivial|exact qN (qE (by rfl))|exact qN (qG (by rfl))|exact qN (Fit.refl _)|exact qM (qL _)|(refine qN (qE ?_);(try simp only [qW]at *);simp only [zQ,zA,zB,zC,zD,zE,zF,zG,zH,zI,zJ,zK,zL,zM,zN,zO,zP,zR,zS]at *;omega)|(refine qM (qK ?_);(repeat' (first|exact qA|exact qB|refine qC ?_ rfl ?_|refine qD ?_ ?_|exact qE (by rfl)|exact qG (by rfl)|exact Fit.refl _|exact qH _|(refine qE ?_;(try simp only [qW]at *);simp only [zQ,zA,zB,zC,zD,zE,zF,zG,zH,zI,zJ,zK,zL,zM,zN,zO,zP,zR,zS]at *;omega)));done)|(refine qM (ble_row ?_ ?_)<;>first|rfl|((try simp only [qW]at *);(try simp only [zQ,zA,zB,zC,zD,zE,zF,zG,zH,zI,zJ,zK,zL,zM,zN,zO,zP,zR,zS]at *);omega)|(intro ix h0 h1;exact Fit.refl _))|skip))
      |skip
theorem bounds30n (c:Clr)(l:List LookT)(h:¬askE c l=0):FSpec Try.prog 30 [(clrS c),(lksS l)] [] (fun r _=>r=(.tup [(.sl 1 (.sym fun _=>zi (bndN c l)) (fun ix=>[(.sl 2 (.sym fun _=>zi (c.hr.toNat+1)) (fun jx=>[(.int .i64 (.sym fun _=>loW c (vyL c l ix.den.toNat) jx.den.toNat)),(.int .i64 (.sym fun _=>hiW c (vyL c l ix.den.toNat) jx.den.toNat))]))])),(.int .i64 (.sym fun _=>askE c l))])):=by
  have c71:=asked71n c l h
  refine FSpec.is fun R hR=>qX (sc:=sc30) tyok mix Try.func30 rfl Try.call30 (by kernel_rfl) (by kernel_rfl) ?_
  generalize Try.prog=P at c71⊢
  cbv
  repeat' (first
      |with_reducible refine And.intro ?_ ?_
      |(with_reducible intro hcd;(try simp only [zA,zB,zC,zD,zE,zF,zG,zH,zI,zJ,zK,zL,zM,zN,zO,zP]at hcd);try cbv)
      | (refine qQ ?_ (c71) ?hfit
         case hfit=>((repeat' (first|exact qB|refine qD ?_ ?_|exact qE (by rfl)|exact qG (by rfl)|exact Fit.refl _|exact qA|refine qC ?_ rfl ?_));done)
         try cbv)
      |fail)
  all_goals first
    |trivial
    |(subst hR;exact qD (qP (congrArg zi (bndN_no h))) (qD (Fit.refl _) qB);done)
    |skip
theorem bounds30 (c:Clr)(l:List LookT):FSpec Try.prog 30 [(clrS c),(lksS l)] [] (fun r _=>r=(.tup [(.sl 1 (.sym fun _=>zi (bndN c l)) (fun ix=>[(.sl 2 (.sym fun _=>zi (c.hr.toNat+1)) (fun jx=>[(.int .i64 (.sym fun _=>loW c (vyL c l ix.den.toNat) jx.den.toNat)),(.int .i64 (.sym fun _=>hiW c (vyL c l ix.den.toNat) jx.den.toNat))]))])),(.int .i64 (.sym fun _=>askE c l))])):=by
  by_cases h:askE c l=0
  · exact bounds30y c l h
  · exact bounds30n c l h
end Go.Proofs.Yteelocfbbhchcaa

namespace Go.Proofs.Yteelocfbbhchcaa
open Go Go.Eng Go.Proofs
set_option maxRecDepth 10000
theorem setl_k {P:Program} {f:FuncId} {args args':List SV} {K:SV→Prop} {R:SV}(h:K R)(hF:FSpec P f args' [] fun r _=>r=R)(ha:Fit (.tup args) (.tup args')):
    ∃post:SV→Prop,FSpec P f args [] (fun r _=>post r)∧∀r,post r→K r:=⟨fun r=>r=R,hF.pre ha,fun r hr=>hr▸h⟩
theorem okM_no {c:Clr} {l:List LookT} {rm:Int} {h:Nat} {lim:Int} {v:Nat}(q:lim<loW c (oyL c l rm v) h):okM c l rm h lim v=false:=decide_eq_false (by omega)
theorem okM_yes {c:Clr} {l:List LookT} {rm:Int} {h:Nat} {lim:Int} {v:Nat}(q:¬lim<loW c (oyL c l rm v) h):okM c l rm h lim v=true:=decide_eq_true (by omega)
theorem okT_no {c:Clr} {l:List LookT} {rm:Int} {h:Nat} {lim:Int} {v:Nat}(q:lim<hiW c (oyL c l rm v) h):okT c l rm h lim v=false:=decide_eq_false (by omega)
theorem okT_yes {c:Clr} {l:List LookT} {rm:Int} {h:Nat} {lim:Int} {v:Nat}(q:¬lim<hiW c (oyL c l rm v) h):okT c l rm h lim v=true:=decide_eq_true (by omega)
theorem allB_no {p:Nat→Bool} {n i:Nat}(hi:i<n)(h:p i=false):allB p n=false:=by rw [allB_f];intro q;rw [q i hi]at h;cases h
theorem allB_yes {p:Nat→Bool} {n:Nat}(h:∀i,i<n→p i=true):allB p n=true:=by rw [allB_t];exact h
structure RoomIn (c:Clr)(l:List LookT)(rm:Int):Prop where
  r0:0≤rm
  r1:rm≤200
  ok:roomB c l [] rm=true
theorem roomIn_at {c:Clr}(hc:COk c) {l:List LookT} {k:Nat}(h:k<(roomsL c l []).length):RoomIn c l ((roomsL c l []).getD k 0):=⟨(room_bd hc h).1,(room_bd hc h).2,((mem_rooms hc.ok.r1).1 (mem_getD h)).2.2⟩
theorem cool75M (c:Clr)(l:List LookT)(rm:Int)(h:Nat)(lim:Int)(hc:COk c)(hl:LooksIn c l)(hr:RoomIn c l rm)(hh:h≤c.hr.toNat):FSpec Try.prog 75 [(wpS c l),(.int .i64 (.sym fun _=>rm)),(.int .i64 (.sym fun _=>zi h)),(.int .i64 (.sym fun _=>lim)),.bool (.lit false)] [] (fun r _=>r=(.bool (.sym fun _=>coolM c l h lim rm))):=by
  have c72:=fun (v:Nat) (hv:v<c.vs.length)=>(show FSpec Try.prog 72 [(wpS c l),(.sl 1 (.sym fun _=>zi ([rm]).length) (fun ix=>[.int .i64 (.sym fun _=>([rm]).getD ix.den.toNat 0)])),(.int .i64 (.sym fun _=>zi v))] [] (fun r _=>r=(.sl 2 (.sym fun _=>zi (c.hr.toNat+1)) (fun jx=>[(.int .i64 (.sym fun _=>loW c (oyL c l rm v) jx.den.toNat)),(.int .i64 (.sym fun _=>hiW c (oyL c l rm v) jx.den.toNat))])))from by have e:=bdN_one (c:=c) (oyL_ne hr.ok hv);have q:FSpec Try.prog 72 [(wpS c l),(.sl 1 (.sym fun _=>zi ([rm]).length) (fun ix=>[.int .i64 (.sym fun _=>([rm]).getD ix.den.toNat 0)])),(.int .i64 (.sym fun _=>zi v))] [] (fun r _=>r=(.sl 2 (.sym fun _=>zi (bdN c (oyL c l rm v))) (fun jx=>[(.int .i64 (.sym fun _=>loW c (oyL c l rm v) jx.den.toNat)),(.int .i64 (.sym fun _=>hiW c (oyL c l rm v) jx.den.toNat))]))):=bounds72 c l (zi v) [rm] hc hl (by simp only [zi_den];omega) (by simp only [zi_den];omega) (by simp) (fun k hk=>by(have e3:k=0:=by simpa using hk);subst e3;exact⟨hr.r0,hr.r1⟩);rw [e]at q;exact q)
  refine FSpec.is fun R hR=>qX (sc:=sc75) tyok mix Try.func75 rfl Try.call75 (by kernel_rfl) (by kernel_rfl) ?_
  generalize Try.prog=P at c72⊢
  cbv
  have hfv:=hc.few.v
  have h8:=hc.ok.h8
  repeat' (first
      |fail)
  all_goals first
    |skip
  refine⟨none,[],{i:Nat // i≤c.vs.length∧∀j,j<i→okM c l rm h lim j=true},fun x=>⟨[(0,(wpS c l)),(1,(.int .i64 (.sym fun _=>rm))),(2,(.int .i64 (.sym fun _=>zi h))),(3,(.int .i64 (.sym fun _=>lim))),(4,.bool (.lit false)),(19,(.int .i64 (.sym fun _=>zi c.vs.length))),(20,(.int .i64 (.sym fun _=>zi x.1)))],[],60⟩,fun x=>c.vs.length-x.1,?_,?_⟩
  · refine⟨⟨0,by omega,fun j hj=>by omega⟩,?_⟩
    cbv
    repeat' (first
      |with_reducible refine hold ?_ ?_
      |with_reducible refine And.intro ?_ ?_)
    all_goals first
      |trivial
      |exact qN (qE (by rfl))
      |exact qN (qG (by rfl))
      |exact qN (Fit.refl _)
      |skip
  · rintro ⟨i,hi,hq⟩
    cbv
    repeat' (first
        |with_reducible refine hold ?_ ?_
        |with_reducible refine And.intro ?_ ?_
        |(with_reducible intro hcd;(try simp only [zA,zB,zC,zD,zE,zF,zG,zH,zI,zJ,zK,zL,zM,zN,zO,zP]at hcd);try cbv)
        | (refine⟨some [],(65:Nat),?_⟩
           cbv
           refine setl_k ?_ (c72 i (by((try simp only [qW]at *);(try simp only [zQ,zA,zB,zC,zD,zE,zF,zG,zH,zI,zJ,zK,zL,zM,zN,zO,zP,zR,zS]at *);omega))) (by cbv;(refine qD (Fit.refl _) (qD (fit_sl rfl (fun ix h0 h1=>qC (qE (by((have e1:ix.den<1:=h1);(have h3:ix.den.toNat=0:=by omega);rw [h3];rfl))) rfl qA)) (qD (qE (by rfl)) qB))))
           try cbv)
        |fail)
    all_goals first
      |((try simp only [qW]at *);(try simp only [zQ,zA,zB,zC,zD,zE,zF,zG,zH,zI,zJ,zK,zL,zM,zN,zO,zP,zR,zS]at *);first|(refine qO ?_;omega)|(simp only [Hold];omega))
      |(subst hR;(refine qG ?_;(try simp only [qW]at *);(try simp only [zQ,zA,zB,zC,zD,zE,zF,zG,zH,zI,zJ,zK,zL,zM,zN,zO,zP,zR,zS]at *);exact(allB_no (i:=i) (by omega) (okM_no (by assumption))).symm);done)
      |(subst hR;(refine qG ?_;(try simp only [qW]at *);(try simp only [zQ,zA,zB,zC,zD,zE,zF,zG,zH,zI,zJ,zK,zL,zM,zN,zO,zP,zR,zS]at *);exact(allB_yes fun j hj=>hq j (by omega)).symm);done)
      |((try simp only [zQ,zA,zB,zC,zD,zE,zF,zG,zH,zI,zJ,zK,zL,zM,zN,zO,zP,zR,zS]at *);refine⟨⟨i+1,by omega,fun j hj=>(Nat.lt_or_ge j i).elim (hq j) fun q=>by rw [show j=i by omega];exact okM_yes (by assumption)⟩,by simp only [];omega,?_⟩;cbv;(repeat' (first|with_reducible refine hold ?_ ?_|with_reducible refine And.intro ?_ ?_));(all_goals first|trivial|exact qN (qE (by rfl))|exact qN (qG (by rfl))|exact qN (Fit.refl _)|exact qM (qL _)|(refine qN (qE ?_);(try simp only [qW]at *);simp only [zQ,zA,zB,zC,zD,zE,zF,zG,zH,zI,zJ,zK,zL,zM,zN,zO,zP,zR,zS]at *;omega)|(refine qM (qK ?_);(repeat' (first|exact qA|exact qB|refine qC ?_ rfl ?_|refine qD ?_ ?_|exact qE (by rfl)|exact qG (by rfl)|exact Fit.refl _|exact qH _|(refine qE ?_;(try simp only [qW]at *);simp only [zQ,zA,zB,zC,zD,zE,zF,zG,zH,zI,zJ,zK,zL,zM,zN,zO,zP,zR,zS]at *;omega)));done)|skip))
      |skip
theorem cool75T (c:Clr)(l:List LookT)(rm:Int)(h:Nat)(lim:Int)(hc:COk c)(hl:LooksIn c l)(hr:RoomIn c l rm)(hh:h≤c.hr.toNat):FSpec Try.prog 75 [(wpS c l),(.int .i64 (.sym fun _=>rm)),(.int .i64 (.sym fun _=>zi h)),(.int .i64 (.sym fun _=>lim)),.bool (.lit true)] [] (fun r _=>r=(.bool (.sym fun _=>coolT c l h lim rm))):=by
  have c72:=fun (v:Nat) (hv:v<c.vs.length)=>(show FSpec Try.prog 72 [(wpS c l),(.sl 1 (.sym fun _=>zi ([rm]).length) (fun ix=>[.int .i64 (.sym fun _=>([rm]).getD ix.den.toNat 0)])),(.int .i64 (.sym fun _=>zi v))] [] (fun r _=>r=(.sl 2 (.sym fun _=>zi (c.hr.toNat+1)) (fun jx=>[(.int .i64 (.sym fun _=>loW c (oyL c l rm v) jx.den.toNat)),(.int .i64 (.sym fun _=>hiW c (oyL c l rm v) jx.den.toNat))])))from by have e:=bdN_one (c:=c) (oyL_ne hr.ok hv);have q:FSpec Try.prog 72 [(wpS c l),(.sl 1 (.sym fun _=>zi ([rm]).length) (fun ix=>[.int .i64 (.sym fun _=>([rm]).getD ix.den.toNat 0)])),(.int .i64 (.sym fun _=>zi v))] [] (fun r _=>r=(.sl 2 (.sym fun _=>zi (bdN c (oyL c l rm v))) (fun jx=>[(.int .i64 (.sym fun _=>loW c (oyL c l rm v) jx.den.toNat)),(.int .i64 (.sym fun _=>hiW c (oyL c l rm v) jx.den.toNat))]))):=bounds72 c l (zi v) [rm] hc hl (by simp only [zi_den];omega) (by simp only [zi_den];omega) (by simp) (fun k hk=>by(have e3:k=0:=by simpa using hk);subst e3;exact⟨hr.r0,hr.r1⟩);rw [e]at q;exact q)
  refine FSpec.is fun R hR=>qX (sc:=sc75) tyok mix Try.func75 rfl Try.call75 (by kernel_rfl) (by kernel_rfl) ?_
  generalize Try.prog=P at c72⊢
  cbv
  have hfv:=hc.few.v
  have h8:=hc.ok.h8
  repeat' (first
      |fail)
  all_goals first
    |skip
  refine⟨none,[],{i:Nat // i≤c.vs.length∧∀j,j<i→okT c l rm h lim j=true},fun x=>⟨[(0,(wpS c l)),(1,(.int .i64 (.sym fun _=>rm))),(2,(.int .i64 (.sym fun _=>zi h))),(3,(.int .i64 (.sym fun _=>lim))),(4,.bool (.lit true)),(19,(.int .i64 (.sym fun _=>zi c.vs.length))),(20,(.int .i64 (.sym fun _=>zi x.1)))],[],60⟩,fun x=>c.vs.length-x.1,?_,?_⟩
  · refine⟨⟨0,by omega,fun j hj=>by omega⟩,?_⟩
    cbv
    repeat' (first
      |with_reducible refine hold ?_ ?_
      |with_reducible refine And.intro ?_ ?_)
    all_goals first
      |trivial
      |exact qN (qE (by rfl))
      |exact qN (qG (by rfl))
      |exact qN (Fit.refl _)
      |skip
  · rintro ⟨i,hi,hq⟩
    cbv
    repeat' (first
        |with_reducible refine hold ?_ ?_
        |with_reducible refine And.intro ?_ ?_
        |(with_reducible intro hcd;(try simp only [zA,zB,zC,zD,zE,zF,zG,zH,zI,zJ,zK,zL,zM,zN,zO,zP]at hcd);try cbv)
        | (refine⟨some [],(65:Nat),?_⟩
           cbv
           refine setl_k ?_ (c72 i (by((try simp only [qW]at *);(try simp only [zQ,zA,zB,zC,zD,zE,zF,zG,zH,zI,zJ,zK,zL,zM,zN,zO,zP,zR,zS]at *);omega))) (by cbv;(refine qD (Fit.refl _) (qD (fit_sl rfl (fun ix h0 h1=>qC (qE (by((have e1:ix.den<1:=h1);(have h3:ix.den.toNat=0:=by omega);rw [h3];rfl))) rfl qA)) (qD (qE (by rfl)) qB))))
           try cbv)
        |fail)
    all_goals first
      |((try simp only [qW]at *);(try simp only [zQ,zA,zB,zC,zD,zE,zF,zG,zH,zI,zJ,zK,zL,zM,zN,zO,zP,zR,zS]at *);first|(refine qO ?_;omega)|(simp only [Hold];omega))
      |(subst hR;(refine qG ?_;(try simp only [qW]at *);(try simp only [zQ,zA,zB,zC,zD,zE,zF,zG,zH,zI,zJ,zK,zL,zM,zN,zO,zP,zR,zS]at *);exact(allB_no (i:=i) (by omega) (okT_no (by assumption))).symm);done)
      |(subst hR;(refine qG ?_;(try simp only [qW]at *);(try simp only [zQ,zA,zB,zC,zD,zE,zF,zG,zH,zI,zJ,zK,zL,zM,zN,zO,zP,zR,zS]at *);exact(allB_yes fun j hj=>hq j (by omega)).symm);done)
      |((try simp only [zQ,zA,zB,zC,zD,zE,zF,zG,zH,zI,zJ,zK,zL,zM,zN,zO,zP,zR,zS]at *);refine⟨⟨i+1,by omega,fun j hj=>(Nat.lt_or_ge j i).elim (hq j) fun q=>by rw [show j=i by omega];exact okT_yes (by assumption)⟩,by simp only [];omega,?_⟩;cbv;(repeat' (first|with_reducible refine hold ?_ ?_|with_reducible refine And.intro ?_ ?_));(all_goals first|trivial|exact qN (qE (by rfl))|exact qN (qG (by rfl))|exact qN (Fit.refl _)|exact qM (qL _)|(refine qN (qE ?_);(try simp only [qW]at *);simp only [zQ,zA,zB,zC,zD,zE,zF,zG,zH,zI,zJ,zK,zL,zM,zN,zO,zP,zR,zS]at *;omega)|(refine qM (qK ?_);(repeat' (first|exact qA|exact qB|refine qC ?_ rfl ?_|refine qD ?_ ?_|exact qE (by rfl)|exact qG (by rfl)|exact Fit.refl _|exact qH _|(refine qE ?_;(try simp only [qW]at *);simp only [zQ,zA,zB,zC,zD,zE,zF,zG,zH,zI,zJ,zK,zL,zM,zN,zO,zP,zR,zS]at *;omega)));done)|skip))
      |skip
end Go.Proofs.Yteelocfbbhchcaa

namespace Go.Proofs.Yteelocfbbhchcaa
open Go Go.Eng Go.Proofs
set_option maxRecDepth 10000
def sureP (c:Clr)(l:List LookT)(lim:Int)(h:Nat)(i:Nat):Bool:=coolT c l h lim ((roomsL c l []).getD i 0)
theorem clo74 (c:Clr)(l:List LookT)(h:Nat)(lim:Int)(i:Nat)(hc:COk c)(hl:LooksIn c l)(hh:h≤c.hr.toNat)(hi:i<(roomsL c l []).length):FSpec Try.prog 74 [(.int .i64 (.sym fun _=>(roomsL c l []).getD (i) 0)),.own 0 0,.own 1 0,.own 2 0] [.cells [(wpS c l)] 132,.cells [(.int .i64 (.sym fun _=>zi h))] 3,.cells [(.int .i64 (.sym fun _=>lim))] 3] (fun r bs=>r=(.bool (.sym fun _=>coolM c l h lim ((roomsL c l []).getD (i) 0)))∧bs=[.cells [(wpS c l)] 132,.cells [(.int .i64 (.sym fun _=>zi h))] 3,.cells [(.int .i64 (.sym fun _=>lim))] 3]):=by
  have c75:=cool75M c l ((roomsL c l []).getD (i) 0) h lim hc hl (roomIn_at hc hi) hh
  refine FSpec.isB rfl fun R B hR hB=>qX (sc:=sc74) tyok mix Try.func74 rfl Try.call74 (by kernel_rfl) (by kernel_rfl) ?_
  generalize Try.prog=P at c75⊢
  cbv
  repeat' (first
      |with_reducible refine And.intro ?_ ?_
      | (refine qQ ?_ (c75) ?hfit
         case hfit=>((repeat' (first|exact qB|refine qD ?_ ?_|exact qE (by rfl)|exact qG (by rfl)|exact Fit.refl _|exact qA|refine qC ?_ rfl ?_));done)
         try cbv)
      |fail)
  all_goals first
    |(subst hR;(exact qG rfl);done)
    |(subst hB;(repeat' (first|exact qI|refine qJ ?_ ?_|exact qL _|refine qK ?_|exact qA|exact qE (by rfl)|exact qG (by rfl)|exact Fit.refl _|exact qH _|refine qC ?_ rfl ?_));done)
    |skip
theorem clo77 (c:Clr)(l:List LookT)(h:Nat)(lim:Int)(i:Nat)(hc:COk c)(hl:LooksIn c l)(hh:h≤c.hr.toNat)(hi:i<(roomsL c l []).length):FSpec Try.prog 77 [(.int .i64 (.sym fun _=>(roomsL c l []).getD (i) 0)),.own 0 0,.own 1 0,.own 2 0] [.cells [(wpS c l)] 132,.cells [(.int .i64 (.sym fun _=>zi h))] 3,.cells [(.int .i64 (.sym fun _=>lim))] 3] (fun r bs=>r=(.bool (.sym fun _=>sureP c l lim h i))∧bs=[.cells [(wpS c l)] 132,.cells [(.int .i64 (.sym fun _=>zi h))] 3,.cells [(.int .i64 (.sym fun _=>lim))] 3]):=by
  have c75:=cool75T c l ((roomsL c l []).getD (i) 0) h lim hc hl (roomIn_at hc hi) hh
  refine FSpec.isB rfl fun R B hR hB=>qX (sc:=sc77) tyok mix Try.func77 rfl Try.call77 (by kernel_rfl) (by kernel_rfl) ?_
  generalize Try.prog=P at c75⊢
  cbv
  repeat' (first
      |with_reducible refine And.intro ?_ ?_
      | (refine qQ ?_ (c75) ?hfit
         case hfit=>((repeat' (first|exact qB|refine qD ?_ ?_|exact qE (by rfl)|exact qG (by rfl)|exact Fit.refl _|exact qA|refine qC ?_ rfl ?_));done)
         try cbv)
      |fail)
  all_goals first
    |(subst hR;(exact qG rfl);done)
    |(subst hB;(repeat' (first|exact qI|refine qJ ?_ ?_|exact qL _|refine qK ?_|exact qA|exact qE (by rfl)|exact qG (by rfl)|exact Fit.refl _|exact qH _|refine qC ?_ rfl ?_));done)
    |skip
theorem idx103M (c:Clr)(l:List LookT)(h:Nat)(lim:Int)(hc:COk c)(hl:LooksIn c l)(hh:h≤c.hr.toNat):FSpec Try.prog 103 [(.sl 1 (.sym fun _=>zi ((roomsL c l [])).length) (fun ix=>[.int .i64 (.sym fun _=>((roomsL c l [])).getD ix.den.toNat 0)])),.clo 74 [] [.own 0 0,.own 1 0,.own 2 0]] [.cells [(wpS c l)] 132,.cells [(.int .i64 (.sym fun _=>zi h))] 3,.cells [(.int .i64 (.sym fun _=>lim))] 3] (fun r bs=>r=(.int .i64 (.sym fun _=>fidx (fun i=> !(coolM c l h lim ((roomsL c l []).getD (i) 0))) (roomsL c l []).length 0))∧bs=[.cells [(wpS c l)] 132,.cells [(.int .i64 (.sym fun _=>zi h))] 3,.cells [(.int .i64 (.sym fun _=>lim))] 3]):=by
  have c74:=fun (i:Nat) (hi:i<(roomsL c l []).length)=>clo74 c l h lim i hc hl hh hi
  refine FSpec.isB rfl fun R B hR hB=>qX (sc:=sc103) tyok mix Try.func103 rfl Try.call103 (by kernel_rfl) (by kernel_rfl) ?_
  generalize Try.prog=P at c74⊢
  cbv
  have hfew:=rooms_len hc l []
  repeat' (first
      |fail)
  all_goals first
    |skip
  refine⟨none,[],{i:Nat // i≤(roomsL c l []).length∧fidx (fun i=> !(coolM c l h lim ((roomsL c l []).getD (i) 0))) (roomsL c l []).length 0=fidx (fun i=> !(coolM c l h lim ((roomsL c l []).getD (i) 0))) ((roomsL c l []).length-i) i},fun x=>⟨[(0,(.sl 1 (.sym fun _=>zi ((roomsL c l [])).length) (fun ix=>[.int .i64 (.sym fun _=>((roomsL c l [])).getD ix.den.toNat 0)]))),(1,.clo 74 [] [.own 0 0,.own 1 0,.own 2 0]),(7,(.int .i64 (.sym fun _=>zi (roomsL c l []).length))),(8,(.int .i64 (.sym fun _=>zi x.1)))],[(0,.cells [(wpS c l)] 132),(1,.cells [(.int .i64 (.sym fun _=>zi h))] 3),(2,.cells [(.int .i64 (.sym fun _=>lim))] 3)],20⟩,fun x=>(roomsL c l []).length-x.1,?_,?_⟩
  · refine⟨⟨0,by omega,rfl⟩,?_⟩
    cbv
    repeat' (first
      |with_reducible refine hold ?_ ?_
      |with_reducible refine And.intro ?_ ?_)
    all_goals first
      |trivial
      |exact qN (qE (by rfl))
      |exact qN (Fit.refl _)
      |exact qM (qL _)
      |skip
  · rintro ⟨i,hi,hr⟩
    cbv
    repeat' (first
        |with_reducible refine hold ?_ ?_
        |with_reducible refine And.intro ?_ ?_
        |(with_reducible intro hcd;(try simp only [zA,zB,zC,zD,zE,zF,zG,zH,zI,zJ,zK,zL,zM,zN,zO,zP]at hcd);try cbv)
        | (refine⟨some [0,1,2],?_⟩
           cbv
           refine qR ?_ (c74 i (by((try simp only [qW]at *);(try simp only [zQ,zA,zB,zC,zD,zE,zF,zG,zH,zI,zJ,zK,zL,zM,zN,zO,zP,zR,zS]at *);omega))) (by cbv;(repeat' (first|exact qB|refine qD ?_ ?_|exact qE (by rfl)|exact qG (by rfl)|exact Fit.refl _|exact qA|refine qC ?_ rfl ?_))) (by cbv;(repeat' (first|exact qI|refine qJ ?_ ?_|exact qL _|refine qK ?_|exact qA|exact qE (by rfl)|exact qG (by rfl)|exact Fit.refl _|exact qH _|refine qC ?_ rfl ?_)))
           try cbv)
        |fail)
    all_goals first
      |((try simp only [qW]at *);(try simp only [zQ,zA,zB,zC,zD,zE,zF,zG,zH,zI,zJ,zK,zL,zM,zN,zO,zP,zR,zS]at *);first|(refine qO ?_;omega)|(simp only [Hold];omega))
      |(subst hR;(refine qE ?_;(try simp only [qW]at *);(try simp only [zQ,zA,zB,zC,zD,zE,zF,zG,zH,zI,zJ,zK,zL,zM,zN,zO,zP,zR,zS]at *);rw [hr,fidx_stop (by omega) (by simp_all)]);done)
      |(subst hR;(refine qE ?_;(try simp only [qW]at *);(try simp only [zQ,zA,zB,zC,zD,zE,zF,zG,zH,zI,zJ,zK,zL,zM,zN,zO,zP,zR,zS]at *);rw [hr,show(roomsL c l []).length-i=0 by omega];rfl);done)
      |(subst hB;(repeat' (first|exact qI|refine qJ ?_ ?_|exact qL _|refine qK ?_|exact qA|exact qE (by rfl)|exact qG (by rfl)|exact Fit.refl _|exact qH _|refine qC ?_ rfl ?_));done)
      |((try simp only [zQ,zA,zB,zC,zD,zE,zF,zG,zH,zI,zJ,zK,zL,zM,zN,zO,zP,zR,zS]at *);refine⟨⟨i+1,by omega,by rw [hr,fidx_go (by omega) (by simp_all)];(try congr 1)<;>omega⟩,by simp only [];omega,?_⟩;cbv;(repeat' (first|with_reducible refine hold ?_ ?_|with_reducible refine And.intro ?_ ?_));(all_goals first|trivial|exact qN (qE (by rfl))|exact qN (qG (by rfl))|exact qN (Fit.refl _)|exact qM (qL _)|(refine qN (qE ?_);(try simp only [qW]at *);simp only [zQ,zA,zB,zC,zD,zE,zF,zG,zH,zI,zJ,zK,zL,zM,zN,zO,zP,zR,zS]at *;omega)|(refine qM (qK ?_);(repeat' (first|exact qA|exact qB|refine qC ?_ rfl ?_|refine qD ?_ ?_|exact qE (by rfl)|exact qG (by rfl)|exact Fit.refl _|exact qH _|(refine qE ?_;(try simp only [qW]at *);simp only [zQ,zA,zB,zC,zD,zE,zF,zG,zH,zI,zJ,zK,zL,zM,zN,zO,zP,zR,zS]at *;omega)));done)|skip))
      |skip
theorem cont73M (c:Clr)(l:List LookT)(h:Nat)(lim:Int)(hc:COk c)(hl:LooksIn c l)(hh:h≤c.hr.toNat):FSpec Try.prog 73 [(.sl 1 (.sym fun _=>zi ((roomsL c l [])).length) (fun ix=>[.int .i64 (.sym fun _=>((roomsL c l [])).getD ix.den.toNat 0)])),.clo 74 [] [.own 0 0,.own 1 0,.own 2 0]] [.cells [(wpS c l)] 132,.cells [(.int .i64 (.sym fun _=>zi h))] 3,.cells [(.int .i64 (.sym fun _=>lim))] 3] (fun r bs=>r=(.bool (.sym fun _=>mayB c l lim h))∧bs=[.cells [(wpS c l)] 132,.cells [(.int .i64 (.sym fun _=>zi h))] 3,.cells [(.int .i64 (.sym fun _=>lim))] 3]):=by
  have c103:=idx103M c l h lim hc hl hh
  refine FSpec.isB rfl fun R B hR hB=>qX (sc:=sc73) tyok mix Try.func73 rfl Try.call73 (by kernel_rfl) (by kernel_rfl) ?_
  generalize Try.prog=P at c103⊢
  cbv
  repeat' (first
      |with_reducible refine And.intro ?_ ?_
      | (refine⟨some [0,1,2],?_⟩
         cbv
         refine qR ?_ (c103) (by cbv;(repeat' (first|exact qB|refine qD ?_ ?_|exact qE (by rfl)|exact qG (by rfl)|exact Fit.refl _|exact qA|refine qC ?_ rfl ?_))) (by cbv;(repeat' (first|exact qI|refine qJ ?_ ?_|exact qL _|refine qK ?_|exact qA|exact qE (by rfl)|exact qG (by rfl)|exact Fit.refl _|exact qH _|refine qC ?_ rfl ?_)))
         try cbv)
      |fail)
  all_goals first
    |(subst hR;(repeat' (first|exact qA|exact qB|refine qC ?_ rfl ?_|refine qD ?_ ?_|exact qE (by rfl)|exact qG (by rfl)|exact Fit.refl _|exact qH _|(refine qE ?_;(try simp only [qW]at *);simp only [zQ,zA,zB,zC,zD,zE,zF,zG,zH,zI,zJ,zK,zL,zM,zN,zO,zP,zR,zS]at *;omega)));done)
    |(subst hB;(repeat' (first|exact qI|refine qJ ?_ ?_|exact qL _|refine qK ?_|exact qA|exact qE (by rfl)|exact qG (by rfl)|exact Fit.refl _|exact qH _|refine qC ?_ rfl ?_));done)
    |skip
theorem lam104_sure (c:Clr)(l:List LookT)(h:Nat)(lim:Int)(hc:COk c)(hl:LooksIn c l)(hh:h≤c.hr.toNat)(hfew:(roomsL c l []).length≤1000)(i:Nat)(hi:i<(roomsL c l []).length∧∀j,j<i→(sureP c l lim h (j))=true):FSpec Try.prog 104 [(.int .i64 (.sym fun _=>(roomsL c l []).getD (i) 0)),.own 0 0] [.cells [.clo 77 [] [.own 1 0,.own 2 0,.own 3 0]] 150,.cells [(wpS c l)] 132,.cells [(.int .i64 (.sym fun _=>zi h))] 3,.cells [(.int .i64 (.sym fun _=>lim))] 3] (fun r bs=>r=(.bool (.sym fun _=> !(sureP c l lim h (i))))∧bs=[.cells [.clo 77 [] [.own 1 0,.own 2 0,.own 3 0]] 150,.cells [(wpS c l)] 132,.cells [(.int .i64 (.sym fun _=>zi h))] 3,.cells [(.int .i64 (.sym fun _=>lim))] 3]):=by
  have cf:=clo77 c l h lim i hc hl hh hi.1
  refine FSpec.isB rfl fun R B hR hB=>qX (sc:=sc104) tyok mix Try.func104 rfl Try.call104 (by kernel_rfl) (by kernel_rfl) ?_
  generalize Try.prog=P at cf⊢
  cbv
  repeat' (first
      |with_reducible refine And.intro ?_ ?_
      | (refine⟨some [1,2,3],?_⟩
         cbv
         refine qR ?_ (cf) (by cbv;(repeat' (first|exact qB|refine qD ?_ ?_|exact qE (by rfl)|exact qG (by rfl)|exact Fit.refl _|exact qA|refine qC ?_ rfl ?_))) (by cbv;(repeat' (first|exact qI|refine qJ ?_ ?_|exact qL _|refine qK ?_|exact qA|exact qE (by rfl)|exact qG (by rfl)|exact Fit.refl _|exact qH _|refine qC ?_ rfl ?_)))
         try cbv)
      |fail)
  all_goals first
    |(subst hR;(repeat' (first|exact qA|exact qB|refine qC ?_ rfl ?_|refine qD ?_ ?_|exact qE (by rfl)|exact qG (by rfl)|exact Fit.refl _|exact qH _|(refine qE ?_;(try simp only [qW]at *);simp only [zQ,zA,zB,zC,zD,zE,zF,zG,zH,zI,zJ,zK,zL,zM,zN,zO,zP,zR,zS]at *;omega)));done)
    |(subst hB;(repeat' (first|exact qI|refine qJ ?_ ?_|exact qL _|refine qK ?_|exact qA|exact qE (by rfl)|exact qG (by rfl)|exact Fit.refl _|exact qH _|refine qC ?_ rfl ?_));done)
    |skip
theorem idx103_sure (c:Clr)(l:List LookT)(h:Nat)(lim:Int)(hc:COk c)(hl:LooksIn c l)(hh:h≤c.hr.toNat)(hfew:(roomsL c l []).length≤1000):FSpec Try.prog 103 [(.sl 1 (.sym fun _=>zi ((roomsL c l [])).length) (fun ix=>[.int .i64 (.sym fun _=>((roomsL c l [])).getD ix.den.toNat 0)])),.clo 104 [] [.own 0 0]] [.cells [.clo 77 [] [.own 1 0,.own 2 0,.own 3 0]] 150,.cells [(wpS c l)] 132,.cells [(.int .i64 (.sym fun _=>zi h))] 3,.cells [(.int .i64 (.sym fun _=>lim))] 3] (fun r bs=>r=(.int .i64 (.sym fun _=>fidx (fun i=>sureP c l lim h (i)) ((roomsL c l []).length) 0))∧bs=[.cells [.clo 77 [] [.own 1 0,.own 2 0,.own 3 0]] 150,.cells [(wpS c l)] 132,.cells [(.int .i64 (.sym fun _=>zi h))] 3,.cells [(.int .i64 (.sym fun _=>lim))] 3]):=by
  have cl:=lam104_sure c l h lim hc hl hh hfew
  refine FSpec.isB rfl fun R B hR hB=>qX (sc:=sc103) tyok mix Try.func103 rfl Try.call103 (by kernel_rfl) (by kernel_rfl) ?_
  generalize Try.prog=P at cl⊢
  cbv
  repeat' (first
      |fail)
  all_goals first
    |skip
  refine⟨none,[],{i:Nat // i≤(roomsL c l []).length∧fidx (fun i=>sureP c l lim h (i)) ((roomsL c l []).length) 0=fidx (fun i=>sureP c l lim h (i)) ((roomsL c l []).length-i) i∧∀j,j<i→(sureP c l lim h (j))=true},fun x=>⟨[(0,(.sl 1 (.sym fun _=>zi ((roomsL c l [])).length) (fun ix=>[.int .i64 (.sym fun _=>((roomsL c l [])).getD ix.den.toNat 0)]))),(1,.clo 104 [] [.own 0 0]),(7,(.int .i64 (.sym fun _=>zi ((roomsL c l []).length)))),(8,(.int .i64 (.sym fun _=>zi x.1)))],[(0,.cells [.clo 77 [] [.own 1 0,.own 2 0,.own 3 0]] 150),(1,.cells [(wpS c l)] 132),(2,.cells [(.int .i64 (.sym fun _=>zi h))] 3),(3,.cells [(.int .i64 (.sym fun _=>lim))] 3)],20⟩,fun x=>(roomsL c l []).length-x.1,?_,?_⟩
  · refine⟨⟨0,by omega,rfl,fun j hj=>by omega⟩,?_⟩
    cbv
    repeat' (first
      |with_reducible refine hold ?_ ?_
      |with_reducible refine And.intro ?_ ?_)
    all_goals first
      |trivial
      |exact qN (qE (by rfl))
      |exact qN (Fit.refl _)
      |exact qM (qL _)
      |skip
  · rintro ⟨i,hi,hr,hq⟩
    cbv
    repeat' (first
        |with_reducible refine hold ?_ ?_
        |with_reducible refine And.intro ?_ ?_
        |(with_reducible intro hcd;(try simp only [zA,zB,zC,zD,zE,zF,zG,zH,zI,zJ,zK,zL,zM,zN,zO,zP]at hcd);try cbv)
        | (refine⟨some [0,1,2,3],?_⟩
           cbv
           refine qR ?_ (cl i ⟨by(try simp only [qW]at *);simp only [zi_den]at *;omega,hq⟩) (by cbv;(repeat' (first|exact qB|refine qD ?_ ?_|exact qE (by rfl)|exact qG (by rfl)|exact Fit.refl _|exact qA|refine qC ?_ rfl ?_))) (by cbv;(repeat' (first|exact qI|refine qJ ?_ ?_|exact qL _|refine qK ?_|exact qA|exact qE (by rfl)|exact qG (by rfl)|exact Fit.refl _|exact qH _|refine qC ?_ rfl ?_)))
           try cbv)
        |fail)
    all_goals first
      |((try simp only [qW]at *);(try simp only [zQ,zA,zB,zC,zD,zE,zF,zG,zH,zI,zJ,zK,zL,zM,zN,zO,zP,zR,zS]at *);first|(refine qO ?_;omega)|(simp only [Hold];omega))
      |(subst hR;(refine qE ?_;simp only [zQ,zA,zB,zC,zD,zE,zF,zG,zH,zI,zJ,zK,zL,zM,zN,zO,zP,zR,zS]at *;rw [hr,fidx_stop (by omega) hcd]);done)
      |(subst hR;(refine qE ?_;simp only [zQ,zA,zB,zC,zD,zE,zF,zG,zH,zI,zJ,zK,zL,zM,zN,zO,zP,zR,zS]at *;rw [hr,show(roomsL c l []).length-i=0 by omega];rfl);done)
      |(subst hB;(repeat' (first|exact qI|refine qJ ?_ ?_|exact qL _|refine qK ?_|exact qA|exact qE (by rfl)|exact qG (by rfl)|exact Fit.refl _|exact qH _|refine qC ?_ rfl ?_));done)
      |((try simp only [zQ,zA,zB,zC,zD,zE,zF,zG,zH,zI,zJ,zK,zL,zM,zN,zO,zP,zR,zS]at *);refine⟨⟨i+1,by omega,by rw [hr,fidx_go (by omega) hcd];(try congr 1)<;>omega,fun j hj=>(Nat.lt_or_ge j i).elim (hq j) (fun q=>by rw [show j=i by omega];exact hcd)⟩,by simp only [];omega,?_⟩;cbv;(repeat' (first|with_reducible refine hold ?_ ?_|with_reducible refine And.intro ?_ ?_));(all_goals first|trivial|exact qN (qE (by rfl))|exact qN (qG (by rfl))|exact qN (Fit.refl _)|exact qM (qL _)|(refine qN (qE ?_);(try simp only [qW]at *);simp only [zQ,zA,zB,zC,zD,zE,zF,zG,zH,zI,zJ,zK,zL,zM,zN,zO,zP,zR,zS]at *;omega)|(refine qM (qK ?_);(repeat' (first|exact qA|exact qB|refine qC ?_ rfl ?_|refine qD ?_ ?_|exact qE (by rfl)|exact qG (by rfl)|exact Fit.refl _|exact qH _|(refine qE ?_;(try simp only [qW]at *);simp only [zQ,zA,zB,zC,zD,zE,zF,zG,zH,zI,zJ,zK,zL,zM,zN,zO,zP,zR,zS]at *;omega)));done)|skip))
      |skip
theorem cont73_sure (c:Clr)(l:List LookT)(h:Nat)(lim:Int)(hc:COk c)(hl:LooksIn c l)(hh:h≤c.hr.toNat)(hfew:(roomsL c l []).length≤1000):FSpec Try.prog 73 [(.sl 1 (.sym fun _=>zi ((roomsL c l [])).length) (fun ix=>[.int .i64 (.sym fun _=>((roomsL c l [])).getD ix.den.toNat 0)])),.clo 104 [] [.own 0 0]] [.cells [.clo 77 [] [.own 1 0,.own 2 0,.own 3 0]] 150,.cells [(wpS c l)] 132,.cells [(.int .i64 (.sym fun _=>zi h))] 3,.cells [(.int .i64 (.sym fun _=>lim))] 3] (fun r bs=>r=(.bool (.sym fun _=>decide (0≤fidx (fun i=>sureP c l lim h (i)) ((roomsL c l []).length) 0)))∧bs=[.cells [.clo 77 [] [.own 1 0,.own 2 0,.own 3 0]] 150,.cells [(wpS c l)] 132,.cells [(.int .i64 (.sym fun _=>zi h))] 3,.cells [(.int .i64 (.sym fun _=>lim))] 3]):=by
  have ci:=idx103_sure c l h lim hc hl hh hfew
  refine FSpec.isB rfl fun R B hR hB=>qX (sc:=sc73) tyok mix Try.func73 rfl Try.call73 (by kernel_rfl) (by kernel_rfl) ?_
  generalize Try.prog=P at ci⊢
  cbv
  repeat' (first
      |with_reducible refine And.intro ?_ ?_
      | (refine⟨some [0,1,2,3],?_⟩
         cbv
         refine qR ?_ (ci) (by cbv;(repeat' (first|exact qB|refine qD ?_ ?_|exact qE (by rfl)|exact qG (by rfl)|exact Fit.refl _|exact qA|refine qC ?_ rfl ?_))) (by cbv;(repeat' (first|exact qI|refine qJ ?_ ?_|exact qL _|refine qK ?_|exact qA|exact qE (by rfl)|exact qG (by rfl)|exact Fit.refl _|exact qH _|refine qC ?_ rfl ?_)))
         try cbv)
      |fail)
  all_goals first
    |(subst hR;(repeat' (first|exact qA|exact qB|refine qC ?_ rfl ?_|refine qD ?_ ?_|exact qE (by rfl)|exact qG (by rfl)|exact Fit.refl _|exact qH _|(refine qE ?_;(try simp only [qW]at *);simp only [zQ,zA,zB,zC,zD,zE,zF,zG,zH,zI,zJ,zK,zL,zM,zN,zO,zP,zR,zS]at *;omega)));done)
    |(subst hB;(repeat' (first|exact qI|refine qJ ?_ ?_|exact qL _|refine qK ?_|exact qA|exact qE (by rfl)|exact qG (by rfl)|exact Fit.refl _|exact qH _|refine qC ?_ rfl ?_));done)
    |skip
theorem all76_sure (c:Clr)(l:List LookT)(h:Nat)(lim:Int)(hc:COk c)(hl:LooksIn c l)(hh:h≤c.hr.toNat)(hfew:(roomsL c l []).length≤1000):FSpec Try.prog 76 [(.sl 1 (.sym fun _=>zi ((roomsL c l [])).length) (fun ix=>[.int .i64 (.sym fun _=>((roomsL c l [])).getD ix.den.toNat 0)])),.clo 77 [] [.own 0 0,.own 1 0,.own 2 0]] [.cells [(wpS c l)] 132,.cells [(.int .i64 (.sym fun _=>zi h))] 3,.cells [(.int .i64 (.sym fun _=>lim))] 3] (fun r bs=>r=(.bool (.sym fun _=>allB (fun i=>sureP c l lim h (i)) ((roomsL c l []).length)))∧bs=[.cells [(wpS c l)] 132,.cells [(.int .i64 (.sym fun _=>zi h))] 3,.cells [(.int .i64 (.sym fun _=>lim))] 3]):=by
  have cc:=cont73_sure c l h lim hc hl hh hfew
  refine FSpec.isB rfl fun R B hR hB=>qX (sc:=sc76) tyok mix Try.func76 rfl Try.call76 (by kernel_rfl) (by kernel_rfl) ?_
  generalize Try.prog=P at cc⊢
  cbv
  repeat' (first
      |with_reducible refine And.intro ?_ ?_
      | (refine⟨some [3,0,1,2],?_⟩
         cbv
         refine qR ?_ (cc) (by cbv;(repeat' (first|exact qB|refine qD ?_ ?_|exact qE (by rfl)|exact qG (by rfl)|exact Fit.refl _|exact qA|refine qC ?_ rfl ?_))) (by cbv;(repeat' (first|exact qI|refine qJ ?_ ?_|exact qL _|refine qK ?_|exact qA|exact qE (by rfl)|exact qG (by rfl)|exact Fit.refl _|exact qH _|refine qC ?_ rfl ?_)))
         try cbv)
      |fail)
  all_goals first
    |(subst hR;(repeat' (first|exact qA|exact qB|refine qC ?_ rfl ?_|refine qD ?_ ?_|exact qE (by rfl)|exact qG (by rfl)|exact Fit.refl _|exact qH _|(refine qE ?_;(try simp only [qW]at *);simp only [zQ,zA,zB,zC,zD,zE,zF,zG,zH,zI,zJ,zK,zL,zM,zN,zO,zP,zR,zS]at *;omega)));done)
    |(subst hB;(repeat' (first|exact qI|refine qJ ?_ ?_|exact qL _|refine qK ?_|exact qA|exact qE (by rfl)|exact qG (by rfl)|exact Fit.refl _|exact qH _|refine qC ?_ rfl ?_));done)
    |skip
end Go.Proofs.Yteelocfbbhchcaa

namespace Go.Proofs.Yteelocfbbhchcaa
open Go Go.Eng Go.Proofs
set_option maxRecDepth 10000
set_option maxHeartbeats 1000000 in
theorem cool32y (c:Clr)(l:List LookT)(lim:Int)(h:askE c l=0):FSpec Try.prog 32 [(clrS c),(lksS l),(.int .i64 (.sym fun _=>lim))] [] (fun r _=>r=(.tup [(.int .i64 (.sym fun _=>sureH c l lim)),(.int .i64 (.sym fun _=>mayH c l lim)),(.int .i64 (.sym fun _=>askE c l))])):=by
  have c71:=asked71 c l h
  have c73:=fun (i:Nat) (hi:i≤c.hr.toNat)=>cont73M c l i lim (lookedF_spec (askE_ok h).1).1 (lookedF_spec (askE_ok h).1).2 hi
  have c76:=fun (i:Nat) (hi:i≤c.hr.toNat)=>all76_sure c l i lim (lookedF_spec (askE_ok h).1).1 (lookedF_spec (askE_ok h).1).2 hi (by have:=rooms_len (lookedF_spec (askE_ok h).1).1 l [];omega)
  refine FSpec.is fun R hR=>qX (sc:=sc32) tyok mix Try.func32 rfl Try.call32 (by kernel_rfl) (by kernel_rfl) ?_
  generalize Try.prog=P at c71 c73 c76⊢
  cbv
  have hc:=(lookedF_spec (askE_ok h).1).1
  have h1:=hc.ok.h1
  have h8:=hc.ok.h8
  repeat' (first
      |with_reducible refine hold ?_ ?_
      |with_reducible refine And.intro ?_ ?_
      |(with_reducible intro hcd;(try simp only [zA,zB,zC,zD,zE,zF,zG,zH,zI,zJ,zK,zL,zM,zN,zO,zP]at hcd);try cbv)
      | (refine qQ ?_ (c71) ?hfit
         case hfit=>((repeat' (first|exact qB|refine qD ?_ ?_|exact qE (by rfl)|exact qG (by rfl)|exact Fit.refl _|exact qA|refine qC ?_ rfl ?_));done)
         try cbv)
      |fail)
  all_goals first
    |trivial
    |((try simp only [qW]at *);(try simp only [zQ,zA,zB,zC,zD,zE,zF,zG,zH,zI,zJ,zK,zL,zM,zN,zO,zP,zR,zS]at *);first|(refine qO ?_;omega)|(simp only [Hold];omega))
    |skip
  refine⟨none,[],{i:Nat // i≤c.hr.toNat+1},fun x=>⟨[(3,.own 0 0),(5,.own 1 0),(9,.own 12 0),(10,(.sl 1 (.sym fun _=>zi ((roomsL c l [])).length) (fun ix=>[.int .i64 (.sym fun _=>((roomsL c l [])).getD ix.den.toNat 0)]))),(6,(.int .i64 (.sym fun _=>hourN (sureB c l lim) x.1))),(7,(.int .i64 (.sym fun _=>hourN (mayB c l lim) x.1))),(24,(.int .i64 (.sym fun _=>c.hr+1))),(25,(.int .i64 (.sym fun _=>zi x.1)))],[(0,.cells [(.int .i64 (.sym fun _=>c.rl)),(.int .i64 (.sym fun _=>c.rh)),(.int .i64 (.sym fun _=>c.hr)),(.sl 4 (.sym fun _=>zi c.vs.length) (fun ix=>[(.int .i64 (.sym fun _=>(c.vs.getD ix.den.toNat v0).sl)),(.int .i64 (.sym fun _=>(c.vs.getD ix.den.toNat v0).sh)),(.int .i64 (.sym fun _=>(c.vs.getD ix.den.toNat v0).rl)),(.int .i64 (.sym fun _=>(c.vs.getD ix.den.toNat v0).rh))])),(.sl 2 (.sym fun _=>zi c.ts.length) (fun ix=>[(.int .i64 (.sym fun _=>(c.ts.getD ix.den.toNat t0).top)),(.sl 3 (.sym fun _=>zi ((c.ts.getD ix.den.toNat t0).ps).length) (fun jx=>[(.int .i64 (.sym fun _=>(((c.ts.getD ix.den.toNat t0).ps).getD jx.den.toNat p0).f)),(.int .i64 (.sym fun _=>(((c.ts.getD ix.den.toNat t0).ps).getD jx.den.toNat p0).el)),(.int .i64 (.sym fun _=>(((c.ts.getD ix.den.toNat t0).ps).getD jx.den.toNat p0).eh))]))]))] 40),(1,.cells [(.int .i64 (.sym fun _=>lim))] 3),(12,.cells [(wpS c l)] 132)],60⟩,fun x=>c.hr.toNat+1-x.1,?_,?_⟩
  · refine⟨⟨0,by omega⟩,?_⟩
    cbv
    repeat' (first
      |with_reducible refine hold ?_ ?_
      |with_reducible refine And.intro ?_ ?_)
    all_goals first
      |trivial
      |exact qN (qE (by rfl))
      |exact qN (Fit.refl _)
      |exact qM (qL _)
      |skip
  · rintro ⟨i,hi⟩
    cbv
    have hb1:=hour_bd (mayB c l lim) i
    have hb2:=hour_bd (sureB c l lim) i
    repeat' (first
        |with_reducible refine hold ?_ ?_
        |with_reducible refine And.intro ?_ ?_
        |(with_reducible intro hcd;(try simp only [zA,zB,zC,zD,zE,zF,zG,zH,zI,zJ,zK,zL,zM,zN,zO,zP]at hcd);try cbv)
        | (refine⟨some [12,62,1],?_⟩
           cbv
           refine qR ?_ (c73 i (by((try simp only [qW]at *);(try simp only [zQ,zA,zB,zC,zD,zE,zF,zG,zH,zI,zJ,zK,zL,zM,zN,zO,zP,zR,zS]at *);omega))) (by cbv;(repeat' (first|exact qB|refine qD ?_ ?_|exact qE (by rfl)|exact qG (by rfl)|exact Fit.refl _|exact qA|refine qC ?_ rfl ?_))) (by cbv;(repeat' (first|exact qI|refine qJ ?_ ?_|exact qL _|refine qK ?_|exact qA|exact qE (by rfl)|exact qG (by rfl)|exact Fit.refl _|exact qH _|refine qC ?_ rfl ?_)))
           try cbv)
        | (refine⟨some [12,62,1],?_⟩
           cbv
           refine qR ?_ (c76 i (by((try simp only [qW]at *);(try simp only [zQ,zA,zB,zC,zD,zE,zF,zG,zH,zI,zJ,zK,zL,zM,zN,zO,zP,zR,zS]at *);omega))) (by cbv;(repeat' (first|exact qB|refine qD ?_ ?_|exact qE (by rfl)|exact qG (by rfl)|exact Fit.refl _|exact qA|refine qC ?_ rfl ?_))) (by cbv;(repeat' (first|exact qI|refine qJ ?_ ?_|exact qL _|refine qK ?_|exact qA|exact qE (by rfl)|exact qG (by rfl)|exact Fit.refl _|exact qH _|refine qC ?_ rfl ?_)))
           try cbv)
        |fail)
    all_goals first
      |((try simp only [qW]at *);(try simp only [zQ,zA,zB,zC,zD,zE,zF,zG,zH,zI,zJ,zK,zL,zM,zN,zO,zP,zR,zS]at *);first|(refine qO ?_;omega)|(simp only [Hold];omega))
      |((have hie:i=c.hr.toNat+1:=(by((try simp only [qW]at *);(try simp only [zQ,zA,zB,zC,zD,zE,zF,zG,zH,zI,zJ,zK,zL,zM,zN,zO,zP,zR,zS]at *);omega)));subst hR;subst hie;exact qD (qE (show _=sureH c l lim from(if_pos h).symm)) (qD (qE (show _=mayH c l lim from(if_pos h).symm)) (qD (qE h.symm) qB)))
      |((try simp only [zQ,zA,zB,zC,zD,zE,zF,zG,zH,zI,zJ,zK,zL,zM,zN,zO,zP,zR,zS]at *);refine⟨⟨i+1,by omega⟩,by simp only [];omega,?_⟩;cbv;(repeat' (first|with_reducible refine hold ?_ ?_|with_reducible refine And.intro ?_ ?_));(all_goals first|trivial|exact qN (qE (by rfl))|exact qN (qG (by rfl))|exact qN (Fit.refl _)|exact qM (qL _)|(refine qN (qE ?_);(try simp only [qW]at *);simp only [zQ,zA,zB,zC,zD,zE,zF,zG,zH,zI,zJ,zK,zL,zM,zN,zO,zP,zR,zS]at *;omega)|(refine qM (qK ?_);(repeat' (first|exact qA|exact qB|refine qC ?_ rfl ?_|refine qD ?_ ?_|exact qE (by rfl)|exact qG (by rfl)|exact Fit.refl _|exact qH _|(refine qE ?_;(try simp only [qW]at *);simp only [zQ,zA,zB,zC,zD,zE,zF,zG,zH,zI,zJ,zK,zL,zM,zN,zO,zP,zR,zS]at *;omega)));done)|(exact qN (qE (hour_stay (by assumption))))|(exact qN (qE (hour_no (by assumption) (by assumption))))|(exact qN (qE (hour_yes (by assumption) (by assumption))))|skip))
      |skip
theorem cool32n (c:Clr)(l:List LookT)(lim:Int)(h:¬askE c l=0):FSpec Try.prog 32 [(clrS c),(lksS l),(.int .i64 (.sym fun _=>lim))] [] (fun r _=>r=(.tup [(.int .i64 (.sym fun _=>sureH c l lim)),(.int .i64 (.sym fun _=>mayH c l lim)),(.int .i64 (.sym fun _=>askE c l))])):=by
  have c71:=asked71n c l h
  refine FSpec.is fun R hR=>qX (sc:=sc32) tyok mix Try.func32 rfl Try.call32 (by kernel_rfl) (by kernel_rfl) ?_
  generalize Try.prog=P at c71⊢
  cbv
  repeat' (first
      |with_reducible refine hold ?_ ?_
      |with_reducible refine And.intro ?_ ?_
      |(with_reducible intro hcd;(try simp only [zA,zB,zC,zD,zE,zF,zG,zH,zI,zJ,zK,zL,zM,zN,zO,zP]at hcd);try cbv)
      | (refine qQ ?_ (c71) ?hfit
         case hfit=>((repeat' (first|exact qB|refine qD ?_ ?_|exact qE (by rfl)|exact qG (by rfl)|exact Fit.refl _|exact qA|refine qC ?_ rfl ?_));done)
         try cbv)
      |fail)
  all_goals first
    |trivial
    |(subst hR;exact qD (qE (show(0:Int)=sureH c l lim from(if_neg h).symm)) (qD (qE (show(0:Int)=mayH c l lim from(if_neg h).symm)) (qD (Fit.refl _) qB));done)
    |skip
theorem cool32 (c:Clr)(l:List LookT)(lim:Int):FSpec Try.prog 32 [(clrS c),(lksS l),(.int .i64 (.sym fun _=>lim))] [] (fun r _=>r=(.tup [(.int .i64 (.sym fun _=>sureH c l lim)),(.int .i64 (.sym fun _=>mayH c l lim)),(.int .i64 (.sym fun _=>askE c l))])):=by
  by_cases h:askE c l=0
  · exact cool32y c l lim h
  · exact cool32n c l lim h
end Go.Proofs.Yteelocfbbhchcaa

namespace Go.Proofs.Yteelocfbbhchcaa
open Go Go.Eng Go.Proofs
set_option maxRecDepth 10000
def sumF (f:Nat→Int):Nat→Int
  |0=>0
  |n+1=>sumF f n+f n
theorem sumF_bd {f:Nat→Int} {b:Int} {n:Nat}(h:∀i,i<n→0≤f i∧f i≤b)(hb:0≤b) {i:Nat}(hi:i≤n):0≤sumF f i∧sumF f i≤i*b:=by
  induction i with
  |zero=>simp only [sumF];omega
  | succ i ih=>
    have:=ih (by omega)
    have:=h i (by omega)
    simp only [sumF]
    rw [show((i+1:Nat):Int)=(i:Int)+1 by omega,Int.add_mul,Int.one_mul]
    omega
theorem sumF_pos {f:Nat→Int} {n:Nat}(h:∀i,i<n→1≤f i):(n:Int)≤sumF f n:=by
  induction n with
  |zero=>simp [sumF]
  | succ i ih=>
    have:=ih fun j hj=>h j (by omega)
    have:=h i (by omega)
    simp only [sumF];omega
def qF (l:List PorT)(i:Nat):Int:=(l.getD i q0).q
def loF (l:List PorT)(i:Nat):Int:=(l.getD i q0).q*(l.getD i q0).lo
def hiF (l:List PorT)(i:Nat):Int:=(l.getD i q0).q*(l.getD i q0).hi
structure PorsOk (l:List PorT):Prop where
  n1:l.length≠0
  n5:l.length≤5
  p:∀i,i<l.length→porOk (l.getD i q0)
def mixE (l:List PorT):Int:=if 5<l.length then 3 else if l.length≠0∧allB (fun i=>porB (l.getD i q0)) l.length=true then 0 else 1
theorem mixE_iff {l:List PorT}:mixE l=0↔PorsOk l:=by
  unfold mixE
  constructor
  · intro h
    split at h
    · omega
    · split at h
      · rename_i h1 h2
        rw [allB_t]at h2
        exact⟨h2.1,by omega,fun i hi=>by have:=h2.2 i hi;rwa [porB_t]at this⟩
      · omega
  · intro h
    have:=h.n5
    rw [if_neg (by omega),if_pos ⟨h.n1,by rw [allB_t];intro i hi;rw [porB_t];exact h.p i hi⟩]
theorem mixE_many {l:List PorT}(h:5<l.length):mixE l=3:=by unfold mixE;rw [if_pos h]
theorem mixE_no {l:List PorT}(h:l.length≤5)(h':PorsOk l→False):mixE l=1:=by
  unfold mixE
  rw [if_neg (by omega),if_neg]
  rintro⟨h1,h2⟩
  rw [allB_t]at h2
  exact h' ⟨h1,h,fun i hi=>by have:=h2 i hi;rwa [porB_t]at this⟩
def mixLo (l:List PorT):Int:=(sumF (loF l) l.length).tdiv (sumF (qF l) l.length)
def mixHi (l:List PorT):Int:=(sumF (hiF l) l.length).tdiv (sumF (qF l) l.length)
def mixV (l:List PorT)(k:Nat):Int:=if k=0 then mixLo l else mixHi l
def mxLo (l:List PorT):Int:=if mixE l=0 then mixLo l else 0
def mxHi (l:List PorT):Int:=if mixE l=0 then mixHi l else 0
theorem mul_bd2 {a b:Int}(h0:1≤a)(h1:a≤1000)(k0:0≤b)(k1:b≤200):0≤a*b∧a*b≤200000:=by
  have e1:a*b≤1000*b:=Int.mul_le_mul_of_nonneg_right h1 k0
  have e2:0≤a*b:=Int.mul_nonneg (by omega) k0
  omega
theorem PorsOk.bd {l:List PorT}(h:PorsOk l) {i:Nat}(hi:i<l.length):(1≤qF l i∧qF l i≤1000)∧(0≤loF l i∧loF l i≤200000)∧0≤hiF l i∧hiF l i≤200000:=by
  have:=h.p i hi
  unfold porOk at this
  exact⟨⟨this.1,this.2.1⟩,mul_bd2 this.1 this.2.1 this.2.2.1 (by omega),mul_bd2 this.1 this.2.1 (by omega) this.2.2.2.2⟩
theorem PorsOk.sums {l:List PorT}(h:PorsOk l) {i:Nat}(hi:i≤l.length):(0≤sumF (qF l) i∧sumF (qF l) i≤5000)∧(0≤sumF (loF l) i∧sumF (loF l) i≤1000000)∧0≤sumF (hiF l) i∧sumF (hiF l) i≤1000000:=by
  have n5:=h.n5
  have a:=sumF_bd (fun j hj=>by have:=(h.bd hj).1;exact⟨by omega,this.2⟩) (by omega) hi
  have b:=sumF_bd (fun j hj=>(h.bd hj).2.1) (by omega) hi
  have d:=sumF_bd (fun j hj=>(h.bd hj).2.2) (by omega) hi
  omega
theorem PorsOk.whole {l:List PorT}(h:PorsOk l):1≤sumF (qF l) l.length:=by
  have:=sumF_pos fun i hi=>(h.bd (i:=i) hi).1.1
  have:=h.n1
  omega
theorem tdiv_rng {a b:Int}(h0:0≤a)(hb:1≤b):0≤a.tdiv b∧a.tdiv b≤a:=by
  rw [Int.tdiv_eq_ediv_of_nonneg h0]
  exact⟨Int.ediv_nonneg h0 (by omega),Int.ediv_le_self b h0⟩
theorem side82 (l:List PorT)(i:Nat)(hl:PorsOk l)(hi:i<l.length):FSpec Try.prog 82 [(.agg [(.int .i64 (.sym fun _=>(l.getD i q0).q)),(.int .i64 (.sym fun _=>(l.getD i q0).lo)),(.int .i64 (.sym fun _=>(l.getD i q0).hi))])] [] (fun r _=>r=(.int .i64 (.sym fun _=>loF l i))):=by
  refine FSpec.is fun R hR=>qX (sc:=sc82) tyok mix Try.func82 rfl Try.call82 (by kernel_rfl) (by kernel_rfl) ?_
  generalize Try.prog=P
  cbv
  have hb:=hl.bd hi
  unfold qF loF hiF at hb
  repeat' (first
      |with_reducible refine hold ?_ ?_
      |fail)
  all_goals first
    |((try simp only [qW]at *);(try simp only [zQ,zA,zB,zC,zD,zE,zF,zG,zH,zI,zJ,zK,zL,zM,zN,zO,zP,zR,zS]at *);first|(refine qO ?_;omega)|(simp only [Hold];omega))
    |(subst hR;(exact qE rfl);done)
    |skip
theorem side83 (l:List PorT)(i:Nat)(hl:PorsOk l)(hi:i<l.length):FSpec Try.prog 83 [(.agg [(.int .i64 (.sym fun _=>(l.getD i q0).q)),(.int .i64 (.sym fun _=>(l.getD i q0).lo)),(.int .i64 (.sym fun _=>(l.getD i q0).hi))])] [] (fun r _=>r=(.int .i64 (.sym fun _=>hiF l i))):=by
  refine FSpec.is fun R hR=>qX (sc:=sc83) tyok mix Try.func83 rfl Try.call83 (by kernel_rfl) (by kernel_rfl) ?_
  generalize Try.prog=P
  cbv
  have hb:=hl.bd hi
  unfold qF loF hiF at hb
  repeat' (first
      |with_reducible refine hold ?_ ?_
      |fail)
  all_goals first
    |((try simp only [qW]at *);(try simp only [zQ,zA,zB,zC,zD,zE,zF,zG,zH,zI,zJ,zK,zL,zM,zN,zO,zP,zR,zS]at *);first|(refine qO ?_;omega)|(simp only [Hold];omega))
    |(subst hR;(exact qE rfl);done)
    |skip
end Go.Proofs.Yteelocfbbhchcaa

namespace Go.Proofs.Yteelocfbbhchcaa
open Go Go.Eng Go.Proofs
set_option maxRecDepth 10000
theorem mx_no {l:List PorT}(h:¬mixE l=0):mxLo l=0∧mxHi l=0:=by unfold mxLo mxHi;rw [if_neg h,if_neg h];exact⟨rfl,rfl⟩
theorem mx_yes {l:List PorT}(h:mixE l=0):mxLo l=mixLo l∧mxHi l=mixHi l:=by unfold mxLo mxHi;rw [if_pos h,if_pos h];exact⟨rfl,rfl⟩
theorem mix38 (l :List PorT)(hn:l.length≤1000):FSpec Try.prog 38 [(porS l)] [] (fun r _=>r=(.tup [(.agg [(.int .i64 (.sym fun _=>mxLo l)),(.int .i64 (.sym fun _=>mxHi l))]),(.int .i64 (.sym fun _=>mixE l))])):=by
  have c80:=all80_por l hn
  have c82:=fun (i:Nat) (hi:i<l.length) (hl:PorsOk l)=>side82 l i hl hi
  have c83:=fun (i:Nat) (hi:i<l.length) (hl:PorsOk l)=>side83 l i hl hi
  refine FSpec.is fun R hR=>qX (sc:=sc38) tyok mix Try.func38 rfl Try.call38 (by kernel_rfl) (by kernel_rfl) ?_
  generalize Try.prog=P at c80 c82 c83⊢
  cbv
  repeat' (first
      |with_reducible refine And.intro ?_ ?_
      |(with_reducible intro hcd;(try simp only [zA,zB,zC,zD,zE,zF,zG,zH,zI,zJ,zK,zL,zM,zN,zO,zP]at hcd);try cbv)
      | (refine qQ ?_ (c80) ?hfit
         case hfit=>((repeat' (first|exact qB|refine qD ?_ ?_|exact qE (by rfl)|exact qG (by rfl)|exact Fit.refl _|exact qA|refine qC ?_ rfl ?_));done)
         try cbv)
      |fail)
  all_goals first
    |(subst hR;((have h0:=mixE_many (l:=l) (by(try simp only [qW]at *);(try simp only [zQ,zA,zB,zC,zD,zE,zF,zG,zH,zI,zJ,zK,zL,zM,zN,zO,zP,zR,zS]at *);omega));(have h1:=mx_no (l:=l) (by omega));exact qD (qC (qE h1.1.symm) rfl (qC (qE h1.2.symm) rfl qA)) (qD (qE h0.symm) qB));done)
    |(subst hR;((have h0:=mixE_no (l:=l) (by(try simp only [qW]at *);(try simp only [zQ,zA,zB,zC,zD,zE,zF,zG,zH,zI,zJ,zK,zL,zM,zN,zO,zP,zR,zS]at *);omega) (fun h=>by(have h2:=h.n1);(have h3:allB (fun i=>porB (l.getD i q0)) l.length=true:=by rw [allB_t];intro i hi;rw [porB_t];exact h.p i hi);first|((try simp only [qW]at *);(try simp only [zQ,zA,zB,zC,zD,zE,zF,zG,zH,zI,zJ,zK,zL,zM,zN,zO,zP,zR,zS]at *);omega)|simp_all));(have h1:=mx_no (l:=l) (by omega));exact qD (qC (qE h1.1.symm) rfl (qC (qE h1.2.symm) rfl qA)) (qD (qE h0.symm) qB));done)
    |skip
  have hl:PorsOk l:=mixE_iff.1 (by(have h3:allB (fun i=>porB (l.getD i q0)) l.length=true:=by assumption);unfold mixE;rw [if_neg (by((try simp only [qW]at *);(try simp only [zQ,zA,zB,zC,zD,zE,zF,zG,zH,zI,zJ,zK,zL,zM,zN,zO,zP,zR,zS]at *);omega)),if_pos ⟨by((try simp only [qW]at *);(try simp only [zQ,zA,zB,zC,zD,zE,zF,zG,zH,zI,zJ,zK,zL,zM,zN,zO,zP,zR,zS]at *);omega),h3⟩])
  have n5:=hl.n5
  refine⟨none,[],{i:Nat // i≤l.length},fun x=>⟨[(0,(porS l)),(2,.own 0 0),(4,(.int .i64 (.sym fun _=>sumF (qF l) x.1))),(5,.val (Value.slice none 0 0)),(28,(porS l)),(29,(.int .i64 (.sym fun _=>zi l.length))),(30,(.int .i64 (.sym fun _=>zi x.1)))],[(0,.cells [.int .i64 (.lit 0),.int .i64 (.lit 0)] 33)],60⟩,fun x=>l.length-x.1,?_,?_⟩
  · refine⟨⟨0,by omega⟩,?_⟩
    cbv
    repeat' (first
      |with_reducible refine hold ?_ ?_
      |with_reducible refine And.intro ?_ ?_)
    all_goals first
      |trivial
      |exact qN (qE (by rfl))
      |exact qN (Fit.refl _)
      |exact qM (qL _)
      |skip
  · rintro ⟨i, hi⟩
    cbv
    repeat' (first
        |with_reducible refine hold ?_ ?_
        |with_reducible refine And.intro ?_ ?_
        |(with_reducible intro hcd;(try simp only [zA,zB,zC,zD,zE,zF,zG,zH,zI,zJ,zK,zL,zM,zN,zO,zP]at hcd);try cbv)
        |fail)
    all_goals first
      |((try simp only [qW]at *);(try simp only [zQ,zA,zB,zC,zD,zE,zF,zG,zH,zI,zJ,zK,zL,zM,zN,zO,zP,zR,zS]at *);first|(refine qO ?_;omega)|(simp only [Hold];omega))
      |((have hb:=hl.bd (i:=i) (by((try simp only [qW]at *);(try simp only [zQ,zA,zB,zC,zD,zE,zF,zG,zH,zI,zJ,zK,zL,zM,zN,zO,zP,zR,zS]at *);omega)));(have hs:=hl.sums (i:=i) (by((try simp only [qW]at *);(try simp only [zQ,zA,zB,zC,zD,zE,zF,zG,zH,zI,zJ,zK,zL,zM,zN,zO,zP,zR,zS]at *);omega)));unfold qF at hb;(try simp only [qW]at *);(try simp only [zQ,zA,zB,zC,zD,zE,zF,zG,zH,zI,zJ,zK,zL,zM,zN,zO,zP,zR,zS]at *);simp only [Hold];first|(refine qO ?_;omega)|omega)
      |((try simp only [zQ,zA,zB,zC,zD,zE,zF,zG,zH,zI,zJ,zK,zL,zM,zN,zO,zP,zR,zS]at *);refine⟨⟨i+1,by omega⟩,by simp only [];omega,?_⟩;cbv;(repeat' (first|with_reducible refine hold ?_ ?_|with_reducible refine And.intro ?_ ?_));(all_goals first|trivial|exact qN (qE (by rfl))|exact qN (qG (by rfl))|exact qN (Fit.refl _)|exact qM (qL _)|(refine qN (qE ?_);(try simp only [qW]at *);simp only [zQ,zA,zB,zC,zD,zE,zF,zG,zH,zI,zJ,zK,zL,zM,zN,zO,zP,zR,zS]at *;omega)|(refine qM (qK ?_);(repeat' (first|exact qA|exact qB|refine qC ?_ rfl ?_|refine qD ?_ ?_|exact qE (by rfl)|exact qG (by rfl)|exact Fit.refl _|exact qH _|(refine qE ?_;(try simp only [qW]at *);simp only [zQ,zA,zB,zC,zD,zE,zF,zG,zH,zI,zJ,zK,zL,zM,zN,zO,zP,zR,zS]at *;omega)));done)|(exact qN (qE rfl))|skip))
      |skip
    have hil:i=l.length:=(by((try simp only [qW]at *);(try simp only [zQ,zA,zB,zC,zD,zE,zF,zG,zH,zI,zJ,zK,zL,zM,zN,zO,zP,zR,zS]at *);omega))
    subst hil
    refine⟨none,[⟨.tmp 5,3,1⟩],{j:Nat // j≤2},fun x=>⟨[(0,(porS l)),(2,.own 0 0),(4,(.int .i64 (.sym fun _=>(sumF (qF l) l.length)))),(5,.row 66),(41,.ows 63 0 2 2 1),(42,.int .i64 (.lit 2)),(43,.int .i64 (.lit (zi x.1)))],[(0,.cells [.int .i64 (.lit 0),.int .i64 (.lit 0)] 33),(63,.cells [.clo 82 [] [],.clo 83 [] []] 162),(66,.row 3 1 (.sym fun _=>zi x.1) (fun ix=>[(.int .i64 (.sym fun _=>mixV l ix.den.toNat))]))],70⟩,fun x=>2-x.1,?_,?_⟩
    · refine⟨⟨0,by omega⟩,?_⟩
      cbv
      repeat' (first
        |with_reducible refine hold ?_ ?_
        |with_reducible refine And.intro ?_ ?_)
      all_goals first
        |trivial
        |exact qN (qE (by rfl))
        |exact qN (Fit.refl _)
        |exact qM (qL _)
        |(refine qM (ble_row ?_ ?_);(first|rfl|((try simp only [qW]at *);(try simp only [zQ,zA,zB,zC,zD,zE,zF,zG,zH,zI,zJ,zK,zL,zM,zN,zO,zP,zR,zS]at *);omega));intro ix h0 h1;exfalso;(try simp only [qW]at *);(try simp only [zQ,zA,zB,zC,zD,zE,zF,zG,zH,zI,zJ,zK,zL,zM,zN,zO,zP,zR,zS]at *);omega)
        |skip
    · rintro ⟨j, hj⟩
      have hE:=mixE_iff.2 hl
      have hm:=mx_yes hE
      match j,hj with
      | 0,_=>
        cbv
        repeat' (first
            |fail)
        all_goals first
          |skip
        refine⟨none,[],{i:Nat // i≤l.length},fun x=>⟨[(0,(porS l)),(2,.own 0 0),(4,(.int .i64 (.sym fun _=>(sumF (qF l) l.length)))),(5,.row 66),(41,.ows 63 0 2 2 1),(42,.int .i64 (.lit 2)),(43,.int .i64 (.lit 0)),(9,.own 73 0),(10,(.int .i64 (.sym fun _=>sumF (loF l) x.1))),(47,(porS l)),(48,(.int .i64 (.sym fun _=>zi l.length))),(49,(.int .i64 (.sym fun _=>zi x.1)))],[(0,.cells [.int .i64 (.lit 0),.int .i64 (.lit 0)] 33),(63,.cells [.clo 82 [] [],.clo 83 [] []] 162),(66,.row 3 1 (.sym fun _=>zi 0) (fun ix=>[(.int .i64 (.sym fun _=>mixV l ix.den.toNat))])),(73,.cells [.clo 82 [] []] 162)],90⟩,fun x=>l.length-x.1,?_,?_⟩
        · refine⟨⟨0,by omega⟩,?_⟩
          cbv
          repeat' (first
            |with_reducible refine hold ?_ ?_
            |with_reducible refine And.intro ?_ ?_)
          all_goals first
            |trivial
            |exact qN (qE (by rfl))
            |exact qN (Fit.refl _)
            |exact qM (qL _)
            |skip
        · rintro ⟨i,hi⟩
          cbv
          repeat' (first
              |with_reducible refine hold ?_ ?_
              |with_reducible refine And.intro ?_ ?_
              | (with_reducible refine qT ?_ ?_ ?_
                 try cbv)
              |(with_reducible intro hcd;(try simp only [zA,zB,zC,zD,zE,zF,zG,zH,zI,zJ,zK,zL,zM,zN,zO,zP]at hcd);try cbv)
              | (refine qQ ?_ (c82 i (by((try simp only [qW]at *);(try simp only [zQ,zA,zB,zC,zD,zE,zF,zG,zH,zI,zJ,zK,zL,zM,zN,zO,zP,zR,zS]at *);omega)) hl) ?hfit
                 case hfit=>((repeat' (first|exact qB|refine qD ?_ ?_|exact qE (by rfl)|exact qG (by rfl)|exact Fit.refl _|exact qA|refine qC ?_ rfl ?_));done)
                 try cbv)
              | (refine⟨fun ix=>[(.int .i64 (.sym fun _=>mixV l ix.den.toNat))],?_⟩
                 cbv
                 refine hold (hold_rowapp (by intro ix jx h0 h1 h2;simp only [h2];exact Fit.refl _) (by intro ix jx h0 h1 h2;(have h3:jx.den.toNat=0:=by((try simp only [qW]at *);(try simp only [zQ,zA,zB,zC,zD,zE,zF,zG,zH,zI,zJ,zK,zL,zM,zN,zO,zP,zR,zS]at *);omega));simp only [h3];((have hie:i=l.length:=(by((try simp only [qW]at *);(try simp only [zQ,zA,zB,zC,zD,zE,zF,zG,zH,zI,zJ,zK,zL,zM,zN,zO,zP,zR,zS]at *);omega)));subst hie;exact qC (qE rfl) rfl qA)) (by(try simp only [qW]at *);(try simp only [zQ,zA,zB,zC,zD,zE,zF,zG,zH,zI,zJ,zK,zL,zM,zN,zO,zP,zR,zS]at *);omega)) (Or.inl ?_)
                 try cbv)
              |fail)
          all_goals first
            |((try simp only [qW]at *);(try simp only [zQ,zA,zB,zC,zD,zE,zF,zG,zH,zI,zJ,zK,zL,zM,zN,zO,zP,zR,zS]at *);first|(refine qO ?_;omega)|(simp only [Hold];omega))
            |((have hb:=hl.bd (i:=i) (by((try simp only [qW]at *);(try simp only [zQ,zA,zB,zC,zD,zE,zF,zG,zH,zI,zJ,zK,zL,zM,zN,zO,zP,zR,zS]at *);omega)));(have hs:=hl.sums (i:=i) (by((try simp only [qW]at *);(try simp only [zQ,zA,zB,zC,zD,zE,zF,zG,zH,zI,zJ,zK,zL,zM,zN,zO,zP,zR,zS]at *);omega)));(try simp only [qW]at *);(try simp only [zQ,zA,zB,zC,zD,zE,zF,zG,zH,zI,zJ,zK,zL,zM,zN,zO,zP,zR,zS]at *);simp only [Hold];first|(refine qO ?_;omega)|omega)
            |((have hw:=hl.whole);(have hs:=hl.sums (i:=l.length) (Nat.le_refl _));(have hie:i=l.length:=(by((try simp only [qW]at *);(try simp only [zQ,zA,zB,zC,zD,zE,zF,zG,zH,zI,zJ,zK,zL,zM,zN,zO,zP,zR,zS]at *);omega)));subst hie;(have d1:=tdiv_rng hs.2.1.1 hw);(have d2:=tdiv_rng hs.2.2.1 hw);(try simp only [qW]at *);(try simp only [zQ,zA,zB,zC,zD,zE,zF,zG,zH,zI,zJ,zK,zL,zM,zN,zO,zP,zR,zS]at *);simp only [Hold];first|(refine qO ?_;omega)|omega)
            |((try simp only [zQ,zA,zB,zC,zD,zE,zF,zG,zH,zI,zJ,zK,zL,zM,zN,zO,zP,zR,zS]at *);refine⟨⟨i+1,by omega⟩,by simp only [];omega,?_⟩;cbv;(repeat' (first|with_reducible refine hold ?_ ?_|with_reducible refine And.intro ?_ ?_));(all_goals first|trivial|exact qN (qE (by rfl))|exact qN (qG (by rfl))|exact qN (Fit.refl _)|exact qM (qL _)|(refine qN (qE ?_);(try simp only [qW]at *);simp only [zQ,zA,zB,zC,zD,zE,zF,zG,zH,zI,zJ,zK,zL,zM,zN,zO,zP,zR,zS]at *;omega)|(refine qM (qK ?_);(repeat' (first|exact qA|exact qB|refine qC ?_ rfl ?_|refine qD ?_ ?_|exact qE (by rfl)|exact qG (by rfl)|exact Fit.refl _|exact qH _|(refine qE ?_;(try simp only [qW]at *);simp only [zQ,zA,zB,zC,zD,zE,zF,zG,zH,zI,zJ,zK,zL,zM,zN,zO,zP,zR,zS]at *;omega)));done)|(exact qN (qE rfl))|skip))
            |((try simp only [zQ,zA,zB,zC,zD,zE,zF,zG,zH,zI,zJ,zK,zL,zM,zN,zO,zP,zR,zS]at *);refine⟨⟨1,by omega⟩,by simp only [];omega,?_⟩;cbv;(repeat' (first|with_reducible refine hold ?_ ?_|with_reducible refine And.intro ?_ ?_));(all_goals first|trivial|exact qN (qE (by rfl))|exact qN (qG (by rfl))|exact qN (Fit.refl _)|exact qM (qL _)|(refine qN (qE ?_);(try simp only [qW]at *);simp only [zQ,zA,zB,zC,zD,zE,zF,zG,zH,zI,zJ,zK,zL,zM,zN,zO,zP,zR,zS]at *;omega)|(refine qM (qK ?_);(repeat' (first|exact qA|exact qB|refine qC ?_ rfl ?_|refine qD ?_ ?_|exact qE (by rfl)|exact qG (by rfl)|exact Fit.refl _|exact qH _|(refine qE ?_;(try simp only [qW]at *);simp only [zQ,zA,zB,zC,zD,zE,zF,zG,zH,zI,zJ,zK,zL,zM,zN,zO,zP,zR,zS]at *;omega)));done)|(refine qM (ble_row ?_ ?_)<;>first|rfl|((try simp only [qW]at *);(try simp only [zQ,zA,zB,zC,zD,zE,zF,zG,zH,zI,zJ,zK,zL,zM,zN,zO,zP,zR,zS]at *);omega)|(intro ix h0 h1;exact Fit.refl _))|skip))
            |skip
      | 1,_=>
        cbv
        repeat' (first
            |fail)
        all_goals first
          |skip
        refine⟨none,[],{i:Nat // i≤l.length},fun x=>⟨[(0,(porS l)),(2,.own 0 0),(4,(.int .i64 (.sym fun _=>(sumF (qF l) l.length)))),(5,.row 66),(41,.ows 63 0 2 2 1),(42,.int .i64 (.lit 2)),(43,.int .i64 (.lit 1)),(9,.own 73 0),(10,(.int .i64 (.sym fun _=>sumF (hiF l) x.1))),(47,(porS l)),(48,(.int .i64 (.sym fun _=>zi l.length))),(49,(.int .i64 (.sym fun _=>zi x.1)))],[(0,.cells [.int .i64 (.lit 0),.int .i64 (.lit 0)] 33),(63,.cells [.clo 82 [] [],.clo 83 [] []] 162),(66,.row 3 1 (.sym fun _=>zi 1) (fun ix=>[(.int .i64 (.sym fun _=>mixV l ix.den.toNat))])),(73,.cells [.clo 83 [] []] 162)],90⟩,fun x=>l.length-x.1,?_,?_⟩
        · refine⟨⟨0,by omega⟩,?_⟩
          cbv
          repeat' (first
            |with_reducible refine hold ?_ ?_
            |with_reducible refine And.intro ?_ ?_)
          all_goals first
            |trivial
            |exact qN (qE (by rfl))
            |exact qN (Fit.refl _)
            |exact qM (qL _)
            |skip
        · rintro ⟨i,hi⟩
          cbv
          repeat' (first
              |with_reducible refine hold ?_ ?_
              |with_reducible refine And.intro ?_ ?_
              | (with_reducible refine qT ?_ ?_ ?_
                 try cbv)
              |(with_reducible intro hcd;(try simp only [zA,zB,zC,zD,zE,zF,zG,zH,zI,zJ,zK,zL,zM,zN,zO,zP]at hcd);try cbv)
              | (refine qQ ?_ (c83 i (by((try simp only [qW]at *);(try simp only [zQ,zA,zB,zC,zD,zE,zF,zG,zH,zI,zJ,zK,zL,zM,zN,zO,zP,zR,zS]at *);omega)) hl) ?hfit
                 case hfit=>((repeat' (first|exact qB|refine qD ?_ ?_|exact qE (by rfl)|exact qG (by rfl)|exact Fit.refl _|exact qA|refine qC ?_ rfl ?_));done)
                 try cbv)
              | (refine⟨fun ix=>[(.int .i64 (.sym fun _=>mixV l ix.den.toNat))],?_⟩
                 cbv
                 refine hold (hold_rowapp (by intro ix jx h0 h1 h2;simp only [h2];exact Fit.refl _) (by intro ix jx h0 h1 h2;(have h3:jx.den.toNat=1:=by((try simp only [qW]at *);(try simp only [zQ,zA,zB,zC,zD,zE,zF,zG,zH,zI,zJ,zK,zL,zM,zN,zO,zP,zR,zS]at *);omega));simp only [h3];((have hie:i=l.length:=(by((try simp only [qW]at *);(try simp only [zQ,zA,zB,zC,zD,zE,zF,zG,zH,zI,zJ,zK,zL,zM,zN,zO,zP,zR,zS]at *);omega)));subst hie;exact qC (qE rfl) rfl qA)) (by(try simp only [qW]at *);(try simp only [zQ,zA,zB,zC,zD,zE,zF,zG,zH,zI,zJ,zK,zL,zM,zN,zO,zP,zR,zS]at *);omega)) (Or.inl ?_)
                 try cbv)
              |fail)
          all_goals first
            |((try simp only [qW]at *);(try simp only [zQ,zA,zB,zC,zD,zE,zF,zG,zH,zI,zJ,zK,zL,zM,zN,zO,zP,zR,zS]at *);first|(refine qO ?_;omega)|(simp only [Hold];omega))
            |((have hb:=hl.bd (i:=i) (by((try simp only [qW]at *);(try simp only [zQ,zA,zB,zC,zD,zE,zF,zG,zH,zI,zJ,zK,zL,zM,zN,zO,zP,zR,zS]at *);omega)));(have hs:=hl.sums (i:=i) (by((try simp only [qW]at *);(try simp only [zQ,zA,zB,zC,zD,zE,zF,zG,zH,zI,zJ,zK,zL,zM,zN,zO,zP,zR,zS]at *);omega)));(try simp only [qW]at *);(try simp only [zQ,zA,zB,zC,zD,zE,zF,zG,zH,zI,zJ,zK,zL,zM,zN,zO,zP,zR,zS]at *);simp only [Hold];first|(refine qO ?_;omega)|omega)
            |((have hw:=hl.whole);(have hs:=hl.sums (i:=l.length) (Nat.le_refl _));(have hie:i=l.length:=(by((try simp only [qW]at *);(try simp only [zQ,zA,zB,zC,zD,zE,zF,zG,zH,zI,zJ,zK,zL,zM,zN,zO,zP,zR,zS]at *);omega)));subst hie;(have d1:=tdiv_rng hs.2.1.1 hw);(have d2:=tdiv_rng hs.2.2.1 hw);(try simp only [qW]at *);(try simp only [zQ,zA,zB,zC,zD,zE,zF,zG,zH,zI,zJ,zK,zL,zM,zN,zO,zP,zR,zS]at *);simp only [Hold];first|(refine qO ?_;omega)|omega)
            |((try simp only [zQ,zA,zB,zC,zD,zE,zF,zG,zH,zI,zJ,zK,zL,zM,zN,zO,zP,zR,zS]at *);refine⟨⟨i+1,by omega⟩,by simp only [];omega,?_⟩;cbv;(repeat' (first|with_reducible refine hold ?_ ?_|with_reducible refine And.intro ?_ ?_));(all_goals first|trivial|exact qN (qE (by rfl))|exact qN (qG (by rfl))|exact qN (Fit.refl _)|exact qM (qL _)|(refine qN (qE ?_);(try simp only [qW]at *);simp only [zQ,zA,zB,zC,zD,zE,zF,zG,zH,zI,zJ,zK,zL,zM,zN,zO,zP,zR,zS]at *;omega)|(refine qM (qK ?_);(repeat' (first|exact qA|exact qB|refine qC ?_ rfl ?_|refine qD ?_ ?_|exact qE (by rfl)|exact qG (by rfl)|exact Fit.refl _|exact qH _|(refine qE ?_;(try simp only [qW]at *);simp only [zQ,zA,zB,zC,zD,zE,zF,zG,zH,zI,zJ,zK,zL,zM,zN,zO,zP,zR,zS]at *;omega)));done)|(exact qN (qE rfl))|skip))
            |((try simp only [zQ,zA,zB,zC,zD,zE,zF,zG,zH,zI,zJ,zK,zL,zM,zN,zO,zP,zR,zS]at *);refine⟨⟨2,by omega⟩,by simp only [];omega,?_⟩;cbv;(repeat' (first|with_reducible refine hold ?_ ?_|with_reducible refine And.intro ?_ ?_));(all_goals first|trivial|exact qN (qE (by rfl))|exact qN (qG (by rfl))|exact qN (Fit.refl _)|exact qM (qL _)|(refine qN (qE ?_);(try simp only [qW]at *);simp only [zQ,zA,zB,zC,zD,zE,zF,zG,zH,zI,zJ,zK,zL,zM,zN,zO,zP,zR,zS]at *;omega)|(refine qM (qK ?_);(repeat' (first|exact qA|exact qB|refine qC ?_ rfl ?_|refine qD ?_ ?_|exact qE (by rfl)|exact qG (by rfl)|exact Fit.refl _|exact qH _|(refine qE ?_;(try simp only [qW]at *);simp only [zQ,zA,zB,zC,zD,zE,zF,zG,zH,zI,zJ,zK,zL,zM,zN,zO,zP,zR,zS]at *;omega)));done)|(refine qM (ble_row ?_ ?_)<;>first|rfl|((try simp only [qW]at *);(try simp only [zQ,zA,zB,zC,zD,zE,zF,zG,zH,zI,zJ,zK,zL,zM,zN,zO,zP,zR,zS]at *);omega)|(intro ix h0 h1;exact Fit.refl _))|skip))
            |skip
      | 2,_=>
        cbv
        repeat' (first
            |with_reducible refine hold ?_ ?_
            |fail)
        all_goals first
          |((try simp only [qW]at *);(try simp only [zQ,zA,zB,zC,zD,zE,zF,zG,zH,zI,zJ,zK,zL,zM,zN,zO,zP,zR,zS]at *);first|(refine qO ?_;omega)|(simp only [Hold];omega))
          |(subst hR;exact qD (qC (qE hm.1.symm) rfl (qC (qE hm.2.symm) rfl qA)) (qD (qE hE.symm) qB);done)
          |skip
      |(n+3),hj=>exact absurd hj (by omega)
end Go.Proofs.Yteelocfbbhchcaa

namespace Go.Proofs.Yteelocfbbhchcaa
open Go Go.Eng Go.Proofs
set_option maxRecDepth 10000
def provP (c:Clr)(l:List LookT)(rm:Int)(ss rs:List Int)(v:Nat):Bool:=fitW c l (v:Int) rm [] (ss.getD v 0) (rs.getD v 0)
def proveB (c:Clr)(l:List LookT)(rm:Int)(ss rs:List Int):Bool:=decide (lookedF c l=0)&&(truthB c rm ss rs&&allB (provP c l rm ss rs) c.vs.length)
theorem prove_no1 {c:Clr} {l:List LookT} {rm:Int} {ss rs:List Int}(h:¬lookedF c l=0):proveB c l rm ss rs=false:=by unfold proveB;rw [decide_eq_false h];rfl
theorem prove_no2 {c:Clr} {l:List LookT} {rm:Int} {ss rs:List Int}(h:truthB c rm ss rs=false):proveB c l rm ss rs=false:=by unfold proveB;rw [h];simp
theorem prove_no3 {c:Clr} {l:List LookT} {rm:Int} {ss rs:List Int} {v:Nat}(hv:v<c.vs.length)(h:provP c l rm ss rs v=false):proveB c l rm ss rs=false:=by
  unfold proveB
  rw [allB_no hv h];simp
theorem prove_yes {c:Clr} {l:List LookT} {rm:Int} {ss rs:List Int}(h1:lookedF c l=0)(h2:truthB c rm ss rs=true)(h3:∀v,v<c.vs.length→provP c l rm ss rs v=true):proveB c l rm ss rs=true:=by
  unfold proveB
  rw [decide_eq_true h1,h2,allB_yes h3];rfl
def showS (c:Clr)(l:List LookT)(rm:Int):Nat→List Int
  |0=>[]
  |n+1=>showS c l rm n++[smS c l (n:Int) rm []]
def showR (c:Clr)(l:List LookT)(rm:Int):Nat→List Int
  |0=>[]
  |n+1=>showR c l rm n++[smR c l (n:Int) rm []]
theorem showS_len (c:Clr)(l:List LookT)(rm:Int)(n:Nat):(showS c l rm n).length=n∧(showR c l rm n).length=n:=by
  induction n with
  |zero=>exact⟨rfl,rfl⟩
  |succ n ih=>simp only [showS,showR,List.length_append,List.length_cons,List.length_nil];omega
def shM (c:Clr)(l:List LookT):Int:=if askE c l=0 then(roomsL c l []).getD 0 0 else 0
def shS (c:Clr)(l:List LookT):List Int:=if askE c l=0 then showS c l (shM c l) c.vs.length else []
def shR (c:Clr)(l:List LookT):List Int:=if askE c l=0 then showR c l (shM c l) c.vs.length else []
theorem sh_yes {c:Clr} {l:List LookT}(h:askE c l=0):shM c l=(roomsL c l []).getD 0 0∧shS c l=showS c l (shM c l) c.vs.length∧shR c l=showR c l (shM c l) c.vs.length:=by
  unfold shS shR;rw [if_pos h,if_pos h];exact⟨by unfold shM;rw [if_pos h],rfl,rfl⟩
theorem sh_no {c:Clr} {l:List LookT}(h:¬askE c l=0):shM c l=0∧shS c l=[]∧shR c l=[]:=by
  unfold shS shR shM;rw [if_neg h,if_neg h,if_neg h];exact⟨rfl,rfl,rfl⟩
theorem prove49 (c:Clr)(l:List LookT)(rm:Int)(ss rs:List Int)(hv:c.vs.length≤1000):FSpec Try.prog 49 [(clrS c),(lksS l),(.agg [(.int .i64 (.sym fun _=>rm)),(.sl 1 (.sym fun _=>zi (ss).length) (fun ix=>[.int .i64 (.sym fun _=>(ss).getD ix.den.toNat 0)])),(.sl 1 (.sym fun _=>zi (rs).length) (fun ix=>[.int .i64 (.sym fun _=>(rs).getD ix.den.toNat 0)]))])] [] (fun r _=>r=(.bool (.sym fun _=>proveB c l rm ss rs))):=by
  have c87:=looked87 c l
  have c58:=truth58 c rm ss rs hv
  have c59:=fun h:lookedF c l=0=>work59 c l (lookedF_spec h).1 (lookedF_spec h).2
  have c60:=fun (i:Nat) (h:i<c.vs.length∧COk c∧TruthC c rm ss rs)=>run60 c l rm (ss.getD i 0) (rs.getD i 0) (h.2.2.way h.2.1 i h.1) h.2.1.ok.h1 h.2.1.ok.h8
  have c91:=fun (i:Nat) (hL:LooksIn c l) (h8:c.hr≤8)=>(show FSpec Try.prog 91 [(wpS c l),(.int .i64 (.sym fun _=>zi i)),(.agg [(.arr 9 (fun ix=>(.int .i64 (.sym fun _=>atW c.hr rm (ss.getD i 0) (rs.getD i 0) ix.den.toNat))))]),(.sl 1 (.sym fun _=>zi (([]:List Int)).length) (fun ix=>[.int .i64 (.sym fun _=>(([]:List Int)).getD ix.den.toNat 0)]))] [] (fun r _=>r=(.bool (.sym fun _=>provP c l rm ss rs i)))from right91 c l (zi i) (atW c.hr rm (ss.getD i 0) (rs.getD i 0)) [] hL h8 (by simp))
  refine FSpec.is fun R hR=>qX (sc:=sc49) tyok mix Try.func49 rfl Try.call49 (by kernel_rfl) (by kernel_rfl) ?_
  generalize Try.prog=P at c87 c58 c59 c60 c91⊢
  cbv
  repeat' (first
      |with_reducible refine And.intro ?_ ?_
      |(with_reducible intro hcd;(try simp only [zA,zB,zC,zD,zE,zF,zG,zH,zI,zJ,zK,zL,zM,zN,zO,zP]at hcd);try cbv)
      | (refine qQ ?_ (c87) ?hfit
         case hfit=>((repeat' (first|exact qB|refine qD ?_ ?_|exact qE (by rfl)|exact qG (by rfl)|exact Fit.refl _|exact qA|refine qC ?_ rfl ?_));done)
         try cbv)
      | (refine qQ ?_ (c58) ?hfit
         case hfit=>((repeat' (first|exact qB|refine qD ?_ ?_|exact qE (by rfl)|exact qG (by rfl)|exact Fit.refl _|exact qA|refine qC ?_ rfl ?_));done)
         try cbv)
      | (refine qQ ?_ (c59 (show Hold _ from ?_)) ?hfit
         case hfit=>((repeat' (first|exact qB|refine qD ?_ ?_|exact qE (by rfl)|exact qG (by rfl)|exact Fit.refl _|exact qA|refine qC ?_ rfl ?_));done)
         try cbv)
      |fail)
  all_goals first
    |trivial
    |(subst hR;(refine qG ?_;(try simp only [qW]at *);(try simp only [zQ,zA,zB,zC,zD,zE,zF,zG,zH,zI,zJ,zK,zL,zM,zN,zO,zP,zR,zS]at *);first|exact(prove_no1 (by omega)).symm|exact(prove_no2 (by assumption)).symm);done)
    |skip
  have hF:lookedF c l=0:=(by first|assumption|((try simp only [qW]at *);(try simp only [zQ,zA,zB,zC,zD,zE,zF,zG,zH,zI,zJ,zK,zL,zM,zN,zO,zP,zR,zS]at *);omega))
  have hT:=truthB_iff.1 (show truthB c rm ss rs=true by first|assumption|(simp_all))
  have hC:=(lookedF_spec hF).1
  have hL:=(lookedF_spec hF).2
  have hs:=hT.s
  have hr:=hT.r
  have h1:=hC.ok.h1
  have h8:=hC.ok.h8
  refine⟨none,[],{i:Nat // i≤c.vs.length∧∀j,j<i→provP c l rm ss rs j=true},fun x=>⟨[(3,.own 0 0),(5,.own 1 0),(7,(wpS c l)),(24,(.int .i64 (.sym fun _=>zi c.vs.length))),(25,(.int .i64 (.sym fun _=>zi x.1)))],[(0,.cells [(.int .i64 (.sym fun _=>c.rl)),(.int .i64 (.sym fun _=>c.rh)),(.int .i64 (.sym fun _=>c.hr)),(.sl 4 (.sym fun _=>zi c.vs.length) (fun ix=>[(.int .i64 (.sym fun _=>(c.vs.getD ix.den.toNat v0).sl)),(.int .i64 (.sym fun _=>(c.vs.getD ix.den.toNat v0).sh)),(.int .i64 (.sym fun _=>(c.vs.getD ix.den.toNat v0).rl)),(.int .i64 (.sym fun _=>(c.vs.getD ix.den.toNat v0).rh))])),(.sl 2 (.sym fun _=>zi c.ts.length) (fun ix=>[(.int .i64 (.sym fun _=>(c.ts.getD ix.den.toNat t0).top)),(.sl 3 (.sym fun _=>zi ((c.ts.getD ix.den.toNat t0).ps).length) (fun jx=>[(.int .i64 (.sym fun _=>(((c.ts.getD ix.den.toNat t0).ps).getD jx.den.toNat p0).f)),(.int .i64 (.sym fun _=>(((c.ts.getD ix.den.toNat t0).ps).getD jx.den.toNat p0).el)),(.int .i64 (.sym fun _=>(((c.ts.getD ix.den.toNat t0).ps).getD jx.den.toNat p0).eh))]))]))] 40),(1,.cells [(.int .i64 (.sym fun _=>rm)),(.sl 1 (.sym fun _=>zi (ss).length) (fun ix=>[.int .i64 (.sym fun _=>(ss).getD ix.den.toNat 0)])),(.sl 1 (.sym fun _=>zi (rs).length) (fun ix=>[.int .i64 (.sym fun _=>(rs).getD ix.den.toNat 0)]))] 45)],60⟩,fun x=>c.vs.length-x.1,?_,?_⟩
  · refine⟨⟨0,by omega,fun j hj=>by omega⟩,?_⟩
    cbv
    repeat' (first
      |with_reducible refine hold ?_ ?_
      |with_reducible refine And.intro ?_ ?_)
    all_goals first
      |trivial
      |exact qN (qE (by rfl))
      |exact qN (Fit.refl _)
      |exact qM (qL _)
      |skip
  · rintro ⟨i,hi,hq⟩
    cbv
    repeat' (first
        |with_reducible refine hold ?_ ?_
        |with_reducible refine And.intro ?_ ?_
        |(with_reducible intro hcd;(try simp only [zA,zB,zC,zD,zE,zF,zG,zH,zI,zJ,zK,zL,zM,zN,zO,zP]at hcd);try cbv)
        | (refine qQ ?_ (c60 i ⟨(by((try simp only [qW]at *);(try simp only [zQ,zA,zB,zC,zD,zE,zF,zG,zH,zI,zJ,zK,zL,zM,zN,zO,zP,zR,zS]at *);omega)),hC,hT⟩) ?hfit
           case hfit=>((repeat' (first|exact qB|refine qD ?_ ?_|exact qE (by rfl)|exact qG (by rfl)|exact Fit.refl _|exact qA|refine qC ?_ rfl ?_));done)
           try cbv)
        | (refine qQ ?_ (c91 i hL h8) ?hfit
           case hfit=>((refine qD (Fit.refl _) (qD (qE (by rfl)) (qD (Fit.refl _) (qD (qP rfl) qB))));done)
           try cbv)
        |fail)
    all_goals first
      |((try simp only [qW]at *);(try simp only [zQ,zA,zB,zC,zD,zE,zF,zG,zH,zI,zJ,zK,zL,zM,zN,zO,zP,zR,zS]at *);first|(refine qO ?_;omega)|(simp only [Hold];omega))
      |(subst hR;(refine qG ?_;(try simp only [qW]at *);(try simp only [zQ,zA,zB,zC,zD,zE,zF,zG,zH,zI,zJ,zK,zL,zM,zN,zO,zP,zR,zS]at *);first|exact(prove_no3 (v:=i) (by omega) (by assumption)).symm|exact(prove_yes hF (truthB_iff.2 hT) (fun j hj=>hq j (by omega))).symm);done)
      |((try simp only [zQ,zA,zB,zC,zD,zE,zF,zG,zH,zI,zJ,zK,zL,zM,zN,zO,zP,zR,zS]at *);refine⟨⟨i+1,by omega,fun j hj=>(Nat.lt_or_ge j i).elim (hq j) fun q=>by rw [show j=i by omega];assumption⟩,by simp only [];omega,?_⟩;cbv;(repeat' (first|with_reducible refine hold ?_ ?_|with_reducible refine And.intro ?_ ?_));(all_goals first|trivial|exact qN (qE (by rfl))|exact qN (qG (by rfl))|exact qN (Fit.refl _)|exact qM (qL _)|(refine qN (qE ?_);(try simp only [qW]at *);simp only [zQ,zA,zB,zC,zD,zE,zF,zG,zH,zI,zJ,zK,zL,zM,zN,zO,zP,zR,zS]at *;omega)|(refine qM (qK ?_);(repeat' (first|exact qA|exact qB|refine qC ?_ rfl ?_|refine qD ?_ ?_|exact qE (by rfl)|exact qG (by rfl)|exact Fit.refl _|exact qH _|(refine qE ?_;(try simp only [qW]at *);simp only [zQ,zA,zB,zC,zD,zE,zF,zG,zH,zI,zJ,zK,zL,zM,zN,zO,zP,zR,zS]at *;omega)));done)|skip))
      |skip
end Go.Proofs.Yteelocfbbhchcaa

namespace Go.Proofs.Yteelocfbbhchcaa
open Go Go.Eng Go.Proofs
set_option maxRecDepth 10000
def firstOf (f:Nat→Option (List Int)):Nat→Nat→Option (List Int)
  |0,_=>none
  | k+1,i=>match f i with
    |some r=>some r
    |none=>firstOf f k (i+1)
theorem firstOf_hit {f:Nat→Option (List Int)} {k i:Nat} {r:List Int}(hk:0<k)(h:f i=some r):firstOf f k i=some r:=by
  cases k with
  |zero=>omega
  |succ k=>simp only [firstOf,h]
theorem firstOf_go {f:Nat→Option (List Int)} {k i:Nat}(hk:0<k)(h:f i=none):firstOf f k i=firstOf f (k-1) (i+1):=by
  cases k with
  |zero=>omega
  |succ k=>simp only [firstOf,h,Nat.add_sub_cancel]
def chooseL (n:Nat)(ok:List Int→Bool):Nat→List Int→Nat→Option (List Int)
  |0,l,_=>if ok l=true then some l else none
  |m+1,l,i=>firstOf (fun j=>chooseL n ok m (l++[(j:Int)]) (j+1)) (n-m-i) i
def iotaL :Nat→List Int
  |0=>[]
  |n+1=>iotaL n++[(n:Int)]
theorem choose_full {n:Nat} {ok:List Int→Bool}(h:ok (iotaL n)=true):∀m,m≤n→chooseL n ok m (iotaL (n-m)) (n-m)=some (iotaL n):=by
  intro m
  induction m with
  |zero=>intro _;simp only [chooseL,Nat.sub_zero,h,if_true]
  | succ m ih=>
    intro hm
    have:=ih (by omega)
    simp only [chooseL]
    rw [show n-m-(n-(m+1))=1 by omega]
    refine firstOf_hit (by omega) ?_
    rw [show n-(m+1)+1=n-m by omega]
    rw [show n-m=n-(m+1)+1 by omega]at this⊢
    exact this
theorem firstOf_some {f:Nat→Option (List Int)} {j:Nat} {r:List Int}(h:f j=some r):∀k i,i≤j→j<i+k→∃r',firstOf f k i=some r':=by
  intro k
  induction k with
  |zero=>intro i h1 h2;omega
  | succ k ih=>
    intro i h1 h2
    cases hf:f i with
    |some r'=>exact⟨r',firstOf_hit (by omega) hf⟩
    | none=>
      rw [firstOf_go (by omega) hf,Nat.add_sub_cancel]
      by_cases e:i=j
      · rw [e,h]at hf;cases hf
      · exact ih (i+1) (by omega) (by omega)
theorem inL_mem {o:List Int} {v:Int}:inL o v=true↔v∈o:=by
  rw [inL_t]
  constructor
  · rintro⟨j,hj,e⟩;rw [←e];exact mem_getD hj
  · intro h;exact getD_mem h
theorem iota_mem {n i:Nat}(h:i<n):(i:Int)∈iotaL n:=by
  induction n with
  |zero=>omega
  | succ n ih=>
    simp only [iotaL,List.mem_append,List.mem_singleton]
    by_cases e:i=n
    · exact Or.inr (by rw [e])
    · exact Or.inl (ih (by omega))
def okL (c:Clr)(l:List LookT)(o:List Int):Bool:=decide (0<(roomsL c l o).length)
theorem some_fit {c:Clr} {l:List LookT} {v rm:Int} {o:List Int} {st rt:Int}(h:fitW c l v rm o st rt=true)(h0:(vatA c v).sl≤st)(h1:st≤(vatA c v).sh)(r0:(vatA c v).rl≤rt)(r1:rt≤(vatA c v).rh):0<(waysC c l v rm o).length:=by
  obtain⟨a,ha,_⟩:=ways_lo (p:=fitW c l v rm o) (d:=difW c rm) (n:=((vatA c v).rh-(vatA c v).rl+1).toNat) h0 h1 r0 (by omega) h
  exact List.length_pos_of_mem ha
theorem okL_all {c:Clr}(hc:COk c)(l:List LookT):okL c l (iotaL l.length)=true:=by
  refine decide_eq_true ?_
  refine List.length_pos_of_mem (a:=c.rl) ((mem_rooms hc.ok.r1).2 ⟨Int.le_refl _,hc.ok.r1,?_⟩)
  unfold roomB
  rw [allB_t]
  intro v hv
  have vok:=hc.ok.v v hv
  unfold vatOk at vok
  refine decide_eq_true (some_fit (st:=(vatA c v).sl) (rt:=(vatA c v).rl) ?_ (Int.le_refl _) vok.2.1 (Int.le_refl _) vok.2.2.2.2.2.1)
  refine rightB_yes fun i hi=>rightP_in (inL_mem.2 (iota_mem hi))
def leaveO (c:Clr)(l:List LookT):Option (List Int):=firstOf (fun m=>chooseL l.length (okL c l) m [] 0) (l.length+1) 0
theorem leave_some {c:Clr}(hc:COk c)(l:List LookT):∃F,leaveO c l=some F:=by
  have:=choose_full (okL_all hc l) l.length (Nat.le_refl _)
  rw [Nat.sub_self]at this
  exact firstOf_some (f:=fun m=>chooseL l.length (okL c l) m [] 0) (j:=l.length) this (l.length+1) 0 (by omega) (by omega)
def leaveL (c:Clr)(l:List LookT):List Int:=if lookedF c l=0 then(leaveO c l).getD []else []
theorem leave_yes {c:Clr} {l:List LookT}(h:lookedF c l=0):leaveO c l=some (leaveL c l):=by
  obtain⟨F,hF⟩:=leave_some (lookedF_spec h).1 l
  unfold leaveL
  rw [if_pos h,hF];rfl
theorem leave_no {c:Clr} {l:List LookT}(h:¬lookedF c l=0):leaveL c l=[]:=by unfold leaveL;rw [if_neg h]
theorem zi_app {L l:List Int} {x:Int}(h:L=l++[x]):zi l.length+1=zi L.length:=by
  subst h
  simp only [zi_den,List.length_append,List.length_cons,List.length_nil]
  omega
end Go.Proofs.Yteelocfbbhchcaa

namespace Go.Proofs.Yteelocfbbhchcaa
open Go Go.Eng Go.Proofs
set_option maxRecDepth 10000
theorem leafY (c:Clr)(l:List LookT)(o:List Int)(i:Int)(hc:COk c)(hl:LooksIn c l)(ho:o.length≤100)(hok:okL c l o=true):FSpec Try.prog 88 [(.sl 1 (.sym fun _=>zi (o).length) (fun ix=>[.int .i64 (.sym fun _=>(o).getD ix.den.toNat 0)])),(.int .i64 (.sym fun _=>i)),(.int .i64 (.sym fun _=>0)),.own 0 0,.own 1 0,.own 2 0,.own 3 0] [.cells [.any] 28,.cells [(wpS c l)] 132,.cells [(lksS l)] 65,.cells [.clo 88 [] [.own 0 0,.own 1 0,.own 2 0,.own 3 0]] 168] (fun r bs=>r=(.bool (.sym fun _=>true))∧bs=[.cells [(.sl 1 (.sym fun _=>zi (o).length) (fun ix=>[.int .i64 (.sym fun _=>(o).getD ix.den.toNat 0)]))] 28,.cells [(wpS c l)] 132,.cells [(lksS l)] 65,.cells [.clo 88 [] [.own 0 0,.own 1 0,.own 2 0,.own 3 0]] 168]):=by
  have c89:=rooms89 c l o hc hl (by omega)
  refine FSpec.isB rfl fun R B hR hB=>qX (sc:=sc88) tyok mix Try.func88 rfl Try.call88 (by kernel_rfl) (by kernel_rfl) ?_
  generalize Try.prog=P at c89⊢
  cbv
  have h8:=hc.ok.h8
  have hrl:=rooms_len hc l o
  have hok2:=hok
  unfold okL at hok2
  rw [decide_eq_true_eq]at hok2
  repeat' (first
      |with_reducible refine And.intro ?_ ?_
      |(with_reducible intro hcd;(try simp only [zA,zB,zC,zD,zE,zF,zG,zH,zI,zJ,zK,zL,zM,zN,zO,zP]at hcd);try cbv)
      | (refine qQ ?_ (c89) ?hfit
         case hfit=>((repeat' (first|exact qB|refine qD ?_ ?_|exact qE (by rfl)|exact qG (by rfl)|exact Fit.refl _|exact qA|refine qC ?_ rfl ?_));done)
         try cbv)
      |fail)
  all_goals first
    |trivial
    |(subst hR;(refine qG ?_;exact decide_eq_true (show(0:Int)<zi (roomsL c l o).length by simp only [zi_den];omega));done)
    |(subst hB;(repeat' (first|exact qI|refine qJ ?_ ?_|exact qL _|refine qK ?_|exact qA|exact qE (by rfl)|exact qG (by rfl)|exact Fit.refl _|exact qH _|refine qC ?_ rfl ?_));done)
    |skip
theorem leafN (c:Clr)(l:List LookT)(o:List Int)(i:Int)(hc:COk c)(hl:LooksIn c l)(ho:o.length≤100)(hok:okL c l o=false):FSpec Try.prog 88 [(.sl 1 (.sym fun _=>zi (o).length) (fun ix=>[.int .i64 (.sym fun _=>(o).getD ix.den.toNat 0)])),(.int .i64 (.sym fun _=>i)),(.int .i64 (.sym fun _=>0)),.own 0 0,.own 1 0,.own 2 0,.own 3 0] [.cells [.any] 28,.cells [(wpS c l)] 132,.cells [(lksS l)] 65,.cells [.clo 88 [] [.own 0 0,.own 1 0,.own 2 0,.own 3 0]] 168] (fun r bs=>r=(.bool (.sym fun _=>false))∧bs=[.cells [.any] 28,.cells [(wpS c l)] 132,.cells [(lksS l)] 65,.cells [.clo 88 [] [.own 0 0,.own 1 0,.own 2 0,.own 3 0]] 168]):=by
  have c89:=rooms89 c l o hc hl (by omega)
  refine FSpec.isB rfl fun R B hR hB=>qX (sc:=sc88) tyok mix Try.func88 rfl Try.call88 (by kernel_rfl) (by kernel_rfl) ?_
  generalize Try.prog=P at c89⊢
  cbv
  have h8:=hc.ok.h8
  have hrl:=rooms_len hc l o
  have hok2:=hok
  unfold okL at hok2
  rw [decide_eq_false_iff_not]at hok2
  repeat' (first
      |with_reducible refine And.intro ?_ ?_
      |(with_reducible intro hcd;(try simp only [zA,zB,zC,zD,zE,zF,zG,zH,zI,zJ,zK,zL,zM,zN,zO,zP]at hcd);try cbv)
      | (refine qQ ?_ (c89) ?hfit
         case hfit=>((repeat' (first|exact qB|refine qD ?_ ?_|exact qE (by rfl)|exact qG (by rfl)|exact Fit.refl _|exact qA|refine qC ?_ rfl ?_));done)
         try cbv)
      |fail)
  all_goals first
    |trivial
    |(subst hR;(refine qG ?_;exact decide_eq_false (show ¬(0:Int)<zi (roomsL c l o).length by simp only [zi_den];omega));done)
    |(subst hB;(repeat' (first|exact qI|refine qJ ?_ ?_|exact qL _|refine qK ?_|exact qA|exact qE (by rfl)|exact qG (by rfl)|exact Fit.refl _|exact qH _|refine qC ?_ rfl ?_));done)
    |skip
set_option maxHeartbeats 1000000 in
theorem stepY (c:Clr)(l:List LookT)(o:List Int)(i k M:Nat)(F:List Int)(hc:COk c)(hl:LooksIn c l)(ho:o.length≤i)(hM:M=k+1)(him:i+M≤l.length)(hch:firstOf (fun j=>chooseL l.length (okL c l) k (o++[(j:Int)]) (j+1)) (l.length+1-M-i) i=some F)(ih:∀(j:Nat),i≤j→j+M≤l.length→(∀F L:List Int,L=o++[(j:Int)]→chooseL l.length (okL c l) k (o++[(j:Int)]) (j+1)=some F→FSpec Try.prog 88 [(.sl 1 (.sym fun _=>zi (L).length) (fun ix=>[.int .i64 (.sym fun _=>(L).getD ix.den.toNat 0)])),(.int .i64 (.sym fun _=>zi j+1)),(.int .i64 (.sym fun _=>zi M-1)),.own 0 0,.own 1 0,.own 2 0,.own 3 0] [.cells [.any] 28,.cells [(wpS c l)] 132,.cells [(lksS l)] 65,.cells [.clo 88 [] [.own 0 0,.own 1 0,.own 2 0,.own 3 0]] 168] (fun r bs=>r=(.bool (.sym fun _=>true))∧bs=[.cells [(.sl 1 (.sym fun _=>zi (F).length) (fun ix=>[.int .i64 (.sym fun _=>(F).getD ix.den.toNat 0)]))] 28,.cells [(wpS c l)] 132,.cells [(lksS l)] 65,.cells [.clo 88 [] [.own 0 0,.own 1 0,.own 2 0,.own 3 0]] 168]))∧(∀L:List Int,L=o++[(j:Int)]→chooseL l.length (okL c l) k (o++[(j:Int)]) (j+1)=none→FSpec Try.prog 88 [(.sl 1 (.sym fun _=>zi (L).length) (fun ix=>[.int .i64 (.sym fun _=>(L).getD ix.den.toNat 0)])),(.int .i64 (.sym fun _=>zi j+1)),(.int .i64 (.sym fun _=>zi M-1)),.own 0 0,.own 1 0,.own 2 0,.own 3 0] [.cells [.any] 28,.cells [(wpS c l)] 132,.cells [(lksS l)] 65,.cells [.clo 88 [] [.own 0 0,.own 1 0,.own 2 0,.own 3 0]] 168] (fun r bs=>r=(.bool (.sym fun _=>false))∧bs=[.cells [.any] 28,.cells [(wpS c l)] 132,.cells [(lksS l)] 65,.cells [.clo 88 [] [.own 0 0,.own 1 0,.own 2 0,.own 3 0]] 168]))):FSpec Try.prog 88 [(.sl 1 (.sym fun _=>zi (o).length) (fun ix=>[.int .i64 (.sym fun _=>(o).getD ix.den.toNat 0)])),(.int .i64 (.sym fun _=>zi i)),(.int .i64 (.sym fun _=>zi M)),.own 0 0,.own 1 0,.own 2 0,.own 3 0] [.cells [.any] 28,.cells [(wpS c l)] 132,.cells [(lksS l)] 65,.cells [.clo 88 [] [.own 0 0,.own 1 0,.own 2 0,.own 3 0]] 168] (fun r bs=>r=(.bool (.sym fun _=>true))∧bs=[.cells [(.sl 1 (.sym fun _=>zi (F).length) (fun ix=>[.int .i64 (.sym fun _=>(F).getD ix.den.toNat 0)]))] 28,.cells [(wpS c l)] 132,.cells [(lksS l)] 65,.cells [.clo 88 [] [.own 0 0,.own 1 0,.own 2 0,.own 3 0]] 168]):=by
  have c61:=clone61 o (by have:=hl.n;omega)
  have ihY:=fun (j:Nat) h h1=>(ih j h h1).1
  have ihN:=fun (j:Nat) h h1=>(ih j h h1).2
  refine FSpec.isB rfl fun R B hR hB=>qX (sc:=sc88) tyok mix Try.func88 rfl Try.call88 (by kernel_rfl) (by kernel_rfl) ?_
  generalize Try.prog=P at c61 ihY ihN⊢
  cbv
  have hfew:=hl.n
  repeat' (first
      |with_reducible refine And.intro ?_ ?_
      |(with_reducible intro hcd;(try simp only [zA,zB,zC,zD,zE,zF,zG,zH,zI,zJ,zK,zL,zM,zN,zO,zP]at hcd);try cbv)
      |fail)
  all_goals first
    |(exfalso;(try simp only [qW]at *);(try simp only [zQ,zA,zB,zC,zD,zE,zF,zG,zH,zI,zJ,zK,zL,zM,zN,zO,zP,zR,zS]at *);omega)
    |skip
  refine⟨none,[],{x:Nat // i≤x∧x+M≤l.length+1∧firstOf (fun j=>chooseL l.length (okL c l) k (o++[(j:Int)]) (j+1)) (l.length+1-M-x) x=some F},fun x=>⟨[(0,(.sl 1 (.sym fun _=>zi (o).length) (fun ix=>[.int .i64 (.sym fun _=>(o).getD ix.den.toNat 0)]))),(2,(.int .i64 (.sym fun _=>zi M))),(3,.own 0 0),(4,.own 1 0),(5,.own 2 0),(6,.own 3 0),(11,(.int .i64 (.sym fun _=>zi x.1)))],[(0,.cells [.any] 28),(1,.cells [(wpS c l)] 132),(2,.cells [(lksS l)] 65),(3,.cells [.clo 88 [] [.own 0 0,.own 1 0,.own 2 0,.own 3 0]] 168)],40⟩,fun x=>l.length+1-x.1,?_,?_⟩
  · refine⟨⟨i,by omega,by omega,hch⟩,?_⟩
    cbv
    repeat' (first
      |with_reducible refine hold ?_ ?_
      |with_reducible refine And.intro ?_ ?_)
    all_goals first
      |trivial
      |exact qN (qE (by rfl))
      |exact qN (Fit.refl _)
      |exact qM (qL _)
      |skip
  · rintro ⟨x,h1,h2,h3⟩
    cbv
    repeat' (first
        |with_reducible refine hold ?_ ?_
        |with_reducible refine And.intro ?_ ?_
        |(with_reducible intro hcd;(try simp only [zA,zB,zC,zD,zE,zF,zG,zH,zI,zJ,zK,zL,zM,zN,zO,zP]at hcd);try cbv)
        | (refine Or.inr ⟨true,?_⟩
           cbv
           refine qV ?_ (c61) (by cbv;(repeat' (first|exact qB|refine qD ?_ ?_|exact qE (by rfl)|exact qG (by rfl)|exact Fit.refl _|exact qA|refine qC ?_ rfl ?_))) (by cbv;(repeat' (first|exact qI|refine qJ ?_ ?_|exact qL _|refine qK ?_|exact qA|exact qE (by rfl)|exact qG (by rfl)|exact Fit.refl _|exact qH _|refine qC ?_ rfl ?_)))
           try cbv)
        | (obtain⟨L2,eL2⟩:∃y:List Int,y=o++[(x:Int)]:=⟨_,rfl⟩
           refine⟨intsE L2,?_⟩
           cbv
           refine hold (hold_rowlist (L:=o) eL2 (by(first|rfl|((try simp only [qW]at *);(try simp only [zQ,zA,zB,zC,zD,zE,zF,zG,zH,zI,zJ,zK,zL,zM,zN,zO,zP,zR,zS]at *);done)|((try simp only [qW]at *);(try simp only [zQ,zA,zB,zC,zD,zE,zF,zG,zH,zI,zJ,zK,zL,zM,zN,zO,zP,zR,zS]at *);omega))) (by rfl) (fun ix=>Fit.refl _) (fun ix h=>qC (qE (by rfl)) rfl qA) (by(try simp only [qW]at *);(try simp only [zQ,zA,zB,zC,zD,zE,zF,zG,zH,zI,zJ,zK,zL,zM,zN,zO,zP,zR,zS]at *);omega)) (Or.inr ⟨true,?_⟩)
           try cbv)
        |((rcases hcj:chooseL l.length (okL c l) k (o++[(x:Int)]) (x+1)with _|G)<;>(first|(refine⟨some [0,1,2,3],?_⟩;cbv;refine qR ?_ (ihN x (by((try simp only [qW]at *);(try simp only [zQ,zA,zB,zC,zD,zE,zF,zG,zH,zI,zJ,zK,zL,zM,zN,zO,zP,zR,zS]at *);omega)) (by((try simp only [qW]at *);(try simp only [zQ,zA,zB,zC,zD,zE,zF,zG,zH,zI,zJ,zK,zL,zM,zN,zO,zP,zR,zS]at *);omega)) L2 eL2 hcj) (by cbv;refine qD (fit_sl (zi_app eL2) (fun _ _ _=>Fit.refl _)) ?_;(repeat' (first|exact qB|refine qD ?_ ?_|exact qE (by rfl)|exact qG (by rfl)|exact Fit.refl _|exact qA|refine qC ?_ rfl ?_))) (by cbv;(repeat' (first|exact qI|refine qJ ?_ ?_|exact qL _|refine qK ?_|exact qA|exact qE (by rfl)|exact qG (by rfl)|exact Fit.refl _|exact qH _|refine qC ?_ rfl ?_)));(try cbv))|(refine⟨some [0,1,2,3],?_⟩;cbv;refine qR ?_ (ihY x (by((try simp only [qW]at *);(try simp only [zQ,zA,zB,zC,zD,zE,zF,zG,zH,zI,zJ,zK,zL,zM,zN,zO,zP,zR,zS]at *);omega)) (by((try simp only [qW]at *);(try simp only [zQ,zA,zB,zC,zD,zE,zF,zG,zH,zI,zJ,zK,zL,zM,zN,zO,zP,zR,zS]at *);omega)) G L2 eL2 hcj) (by cbv;refine qD (fit_sl (zi_app eL2) (fun _ _ _=>Fit.refl _)) ?_;(repeat' (first|exact qB|refine qD ?_ ?_|exact qE (by rfl)|exact qG (by rfl)|exact Fit.refl _|exact qA|refine qC ?_ rfl ?_))) (by cbv;(repeat' (first|exact qI|refine qJ ?_ ?_|exact qL _|refine qK ?_|exact qA|exact qE (by rfl)|exact qG (by rfl)|exact Fit.refl _|exact qH _|refine qC ?_ rfl ?_)));(try cbv))))
        |fail)
    all_goals first
      |trivial
      |((try simp only [qW]at *);(try simp only [zQ,zA,zB,zC,zD,zE,zF,zG,zH,zI,zJ,zK,zL,zM,zN,zO,zP,zR,zS]at *);first|(refine qO ?_;omega)|(simp only [Hold];omega))
      |(subst hR;(repeat' (first|exact qA|exact qB|refine qC ?_ rfl ?_|refine qD ?_ ?_|exact qE (by rfl)|exact qG (by rfl)|exact Fit.refl _|exact qH _|(refine qE ?_;(try simp only [qW]at *);simp only [zQ,zA,zB,zC,zD,zE,zF,zG,zH,zI,zJ,zK,zL,zM,zN,zO,zP,zR,zS]at *;omega)));done)
      |(cases (firstOf_hit (f:=(fun j=>chooseL l.length (okL c l) k (o++[(j:Int)]) (j+1))) (k:=l.length+1-M-x) (i:=x) (by((try simp only [qW]at *);(try simp only [zQ,zA,zB,zC,zD,zE,zF,zG,zH,zI,zJ,zK,zL,zM,zN,zO,zP,zR,zS]at *);omega)) hcj).symm.trans h3;subst hB;(repeat' (first|exact qI|refine qJ ?_ ?_|exact qL _|refine qK ?_|exact qA|exact qE (by rfl)|exact qG (by rfl)|exact Fit.refl _|exact qH _|refine qC ?_ rfl ?_));done)
      |((have hz:l.length+1-M-x=0:=by((try simp only [qW]at *);(try simp only [zQ,zA,zB,zC,zD,zE,zF,zG,zH,zI,zJ,zK,zL,zM,zN,zO,zP,zR,zS]at *);omega));rw [hz]at h3;cases h3;done)
      |((try simp only [zQ,zA,zB,zC,zD,zE,zF,zG,zH,zI,zJ,zK,zL,zM,zN,zO,zP,zR,zS]at *);refine⟨⟨x+1,by omega,by omega,by rw [show l.length+1-M-(x+1)=l.length+1-M-x-1 by omega];exact(firstOf_go (f:=(fun j=>chooseL l.length (okL c l) k (o++[(j:Int)]) (j+1))) (k:=l.length+1-M-x) (i:=x) (by omega) hcj).symm.trans h3⟩,by simp only [];omega,?_⟩;cbv;(repeat' (first|with_reducible refine hold ?_ ?_|with_reducible refine And.intro ?_ ?_));(all_goals first|trivial|exact qN (qE (by rfl))|exact qN (qG (by rfl))|exact qN (Fit.refl _)|exact qM (qL _)|(refine qN (qE ?_);(try simp only [qW]at *);simp only [zQ,zA,zB,zC,zD,zE,zF,zG,zH,zI,zJ,zK,zL,zM,zN,zO,zP,zR,zS]at *;omega)|(refine qM (qK ?_);(repeat' (first|exact qA|exact qB|refine qC ?_ rfl ?_|refine qD ?_ ?_|exact qE (by rfl)|exact qG (by rfl)|exact Fit.refl _|exact qH _|(refine qE ?_;(try simp only [qW]at *);simp only [zQ,zA,zB,zC,zD,zE,zF,zG,zH,zI,zJ,zK,zL,zM,zN,zO,zP,zR,zS]at *;omega)));done)|skip))
      |skip
set_option maxHeartbeats 1000000 in
theorem stepN (c:Clr)(l:List LookT)(o:List Int)(i k M:Nat)(hc:COk c)(hl:LooksIn c l)(ho:o.length≤i)(hM:M=k+1)(him:i+M≤l.length)(hch:firstOf (fun j=>chooseL l.length (okL c l) k (o++[(j:Int)]) (j+1)) (l.length+1-M-i) i=none)(ih:∀(j:Nat),i≤j→j+M≤l.length→(∀F L:List Int,L=o++[(j:Int)]→chooseL l.length (okL c l) k (o++[(j:Int)]) (j+1)=some F→FSpec Try.prog 88 [(.sl 1 (.sym fun _=>zi (L).length) (fun ix=>[.int .i64 (.sym fun _=>(L).getD ix.den.toNat 0)])),(.int .i64 (.sym fun _=>zi j+1)),(.int .i64 (.sym fun _=>zi M-1)),.own 0 0,.own 1 0,.own 2 0,.own 3 0] [.cells [.any] 28,.cells [(wpS c l)] 132,.cells [(lksS l)] 65,.cells [.clo 88 [] [.own 0 0,.own 1 0,.own 2 0,.own 3 0]] 168] (fun r bs=>r=(.bool (.sym fun _=>true))∧bs=[.cells [(.sl 1 (.sym fun _=>zi (F).length) (fun ix=>[.int .i64 (.sym fun _=>(F).getD ix.den.toNat 0)]))] 28,.cells [(wpS c l)] 132,.cells [(lksS l)] 65,.cells [.clo 88 [] [.own 0 0,.own 1 0,.own 2 0,.own 3 0]] 168]))∧(∀L:List Int,L=o++[(j:Int)]→chooseL l.length (okL c l) k (o++[(j:Int)]) (j+1)=none→FSpec Try.prog 88 [(.sl 1 (.sym fun _=>zi (L).length) (fun ix=>[.int .i64 (.sym fun _=>(L).getD ix.den.toNat 0)])),(.int .i64 (.sym fun _=>zi j+1)),(.int .i64 (.sym fun _=>zi M-1)),.own 0 0,.own 1 0,.own 2 0,.own 3 0] [.cells [.any] 28,.cells [(wpS c l)] 132,.cells [(lksS l)] 65,.cells [.clo 88 [] [.own 0 0,.own 1 0,.own 2 0,.own 3 0]] 168] (fun r bs=>r=(.bool (.sym fun _=>false))∧bs=[.cells [.any] 28,.cells [(wpS c l)] 132,.cells [(lksS l)] 65,.cells [.clo 88 [] [.own 0 0,.own 1 0,.own 2 0,.own 3 0]] 168]))):FSpec Try.prog 88 [(.sl 1 (.sym fun _=>zi (o).length) (fun ix=>[.int .i64 (.sym fun _=>(o).getD ix.den.toNat 0)])),(.int .i64 (.sym fun _=>zi i)),(.int .i64 (.sym fun _=>zi M)),.own 0 0,.own 1 0,.own 2 0,.own 3 0] [.cells [.any] 28,.cells [(wpS c l)] 132,.cells [(lksS l)] 65,.cells [.clo 88 [] [.own 0 0,.own 1 0,.own 2 0,.own 3 0]] 168] (fun r bs=>r=(.bool (.sym fun _=>false))∧bs=[.cells [.any] 28,.cells [(wpS c l)] 132,.cells [(lksS l)] 65,.cells [.clo 88 [] [.own 0 0,.own 1 0,.own 2 0,.own 3 0]] 168]):=by
  have c61:=clone61 o (by have:=hl.n;omega)
  have ihY:=fun (j:Nat) h h1=>(ih j h h1).1
  have ihN:=fun (j:Nat) h h1=>(ih j h h1).2
  refine FSpec.isB rfl fun R B hR hB=>qX (sc:=sc88) tyok mix Try.func88 rfl Try.call88 (by kernel_rfl) (by kernel_rfl) ?_
  generalize Try.prog=P at c61 ihY ihN⊢
  cbv
  have hfew:=hl.n
  repeat' (first
      |with_reducible refine And.intro ?_ ?_
      |(with_reducible intro hcd;(try simp only [zA,zB,zC,zD,zE,zF,zG,zH,zI,zJ,zK,zL,zM,zN,zO,zP]at hcd);try cbv)
      |fail)
  all_goals first
    |(exfalso;(try simp only [qW]at *);(try simp only [zQ,zA,zB,zC,zD,zE,zF,zG,zH,zI,zJ,zK,zL,zM,zN,zO,zP,zR,zS]at *);omega)
    |skip
  refine⟨none,[],{x:Nat // i≤x∧x+M≤l.length+1∧firstOf (fun j=>chooseL l.length (okL c l) k (o++[(j:Int)]) (j+1)) (l.length+1-M-x) x=none},fun x=>⟨[(0,(.sl 1 (.sym fun _=>zi (o).length) (fun ix=>[.int .i64 (.sym fun _=>(o).getD ix.den.toNat 0)]))),(2,(.int .i64 (.sym fun _=>zi M))),(3,.own 0 0),(4,.own 1 0),(5,.own 2 0),(6,.own 3 0),(11,(.int .i64 (.sym fun _=>zi x.1)))],[(0,.cells [.any] 28),(1,.cells [(wpS c l)] 132),(2,.cells [(lksS l)] 65),(3,.cells [.clo 88 [] [.own 0 0,.own 1 0,.own 2 0,.own 3 0]] 168)],40⟩,fun x=>l.length+1-x.1,?_,?_⟩
  · refine⟨⟨i,by omega,by omega,hch⟩,?_⟩
    cbv
    repeat' (first
      |with_reducible refine hold ?_ ?_
      |with_reducible refine And.intro ?_ ?_)
    all_goals first
      |trivial
      |exact qN (qE (by rfl))
      |exact qN (Fit.refl _)
      |exact qM (qL _)
      |skip
  · rintro ⟨x,h1,h2,h3⟩
    cbv
    repeat' (first
        |with_reducible refine hold ?_ ?_
        |with_reducible refine And.intro ?_ ?_
        |(with_reducible intro hcd;(try simp only [zA,zB,zC,zD,zE,zF,zG,zH,zI,zJ,zK,zL,zM,zN,zO,zP]at hcd);try cbv)
        | (refine Or.inr ⟨true,?_⟩
           cbv
           refine qV ?_ (c61) (by cbv;(repeat' (first|exact qB|refine qD ?_ ?_|exact qE (by rfl)|exact qG (by rfl)|exact Fit.refl _|exact qA|refine qC ?_ rfl ?_))) (by cbv;(repeat' (first|exact qI|refine qJ ?_ ?_|exact qL _|refine qK ?_|exact qA|exact qE (by rfl)|exact qG (by rfl)|exact Fit.refl _|exact qH _|refine qC ?_ rfl ?_)))
           try cbv)
        | (obtain⟨L2,eL2⟩:∃y:List Int,y=o++[(x:Int)]:=⟨_,rfl⟩
           refine⟨intsE L2,?_⟩
           cbv
           refine hold (hold_rowlist (L:=o) eL2 (by(first|rfl|((try simp only [qW]at *);(try simp only [zQ,zA,zB,zC,zD,zE,zF,zG,zH,zI,zJ,zK,zL,zM,zN,zO,zP,zR,zS]at *);done)|((try simp only [qW]at *);(try simp only [zQ,zA,zB,zC,zD,zE,zF,zG,zH,zI,zJ,zK,zL,zM,zN,zO,zP,zR,zS]at *);omega))) (by rfl) (fun ix=>Fit.refl _) (fun ix h=>qC (qE (by rfl)) rfl qA) (by(try simp only [qW]at *);(try simp only [zQ,zA,zB,zC,zD,zE,zF,zG,zH,zI,zJ,zK,zL,zM,zN,zO,zP,zR,zS]at *);omega)) (Or.inr ⟨true,?_⟩)
           try cbv)
        |((rcases hcj:chooseL l.length (okL c l) k (o++[(x:Int)]) (x+1)with _|G)<;>(first|(refine⟨some [0,1,2,3],?_⟩;cbv;refine qR ?_ (ihN x (by((try simp only [qW]at *);(try simp only [zQ,zA,zB,zC,zD,zE,zF,zG,zH,zI,zJ,zK,zL,zM,zN,zO,zP,zR,zS]at *);omega)) (by((try simp only [qW]at *);(try simp only [zQ,zA,zB,zC,zD,zE,zF,zG,zH,zI,zJ,zK,zL,zM,zN,zO,zP,zR,zS]at *);omega)) L2 eL2 hcj) (by cbv;refine qD (fit_sl (zi_app eL2) (fun _ _ _=>Fit.refl _)) ?_;(repeat' (first|exact qB|refine qD ?_ ?_|exact qE (by rfl)|exact qG (by rfl)|exact Fit.refl _|exact qA|refine qC ?_ rfl ?_))) (by cbv;(repeat' (first|exact qI|refine qJ ?_ ?_|exact qL _|refine qK ?_|exact qA|exact qE (by rfl)|exact qG (by rfl)|exact Fit.refl _|exact qH _|refine qC ?_ rfl ?_)));(try cbv))|(refine⟨some [0,1,2,3],?_⟩;cbv;refine qR ?_ (ihY x (by((try simp only [qW]at *);(try simp only [zQ,zA,zB,zC,zD,zE,zF,zG,zH,zI,zJ,zK,zL,zM,zN,zO,zP,zR,zS]at *);omega)) (by((try simp only [qW]at *);(try simp only [zQ,zA,zB,zC,zD,zE,zF,zG,zH,zI,zJ,zK,zL,zM,zN,zO,zP,zR,zS]at *);omega)) G L2 eL2 hcj) (by cbv;refine qD (fit_sl (zi_app eL2) (fun _ _ _=>Fit.refl _)) ?_;(repeat' (first|exact qB|refine qD ?_ ?_|exact qE (by rfl)|exact qG (by rfl)|exact Fit.refl _|exact qA|refine qC ?_ rfl ?_))) (by cbv;(repeat' (first|exact qI|refine qJ ?_ ?_|exact qL _|refine qK ?_|exact qA|exact qE (by rfl)|exact qG (by rfl)|exact Fit.refl _|exact qH _|refine qC ?_ rfl ?_)));(try cbv))))
        |fail)
    all_goals first
      |trivial
      |((try simp only [qW]at *);(try simp only [zQ,zA,zB,zC,zD,zE,zF,zG,zH,zI,zJ,zK,zL,zM,zN,zO,zP,zR,zS]at *);first|(refine qO ?_;omega)|(simp only [Hold];omega))
      |(subst hR;(repeat' (first|exact qA|exact qB|refine qC ?_ rfl ?_|refine qD ?_ ?_|exact qE (by rfl)|exact qG (by rfl)|exact Fit.refl _|exact qH _|(refine qE ?_;(try simp only [qW]at *);simp only [zQ,zA,zB,zC,zD,zE,zF,zG,zH,zI,zJ,zK,zL,zM,zN,zO,zP,zR,zS]at *;omega)));done)
      |(subst hB;(repeat' (first|exact qI|refine qJ ?_ ?_|exact qL _|refine qK ?_|exact qA|exact qE (by rfl)|exact qG (by rfl)|exact Fit.refl _|exact qH _|refine qC ?_ rfl ?_));done)
      |(cases (firstOf_hit (f:=(fun j=>chooseL l.length (okL c l) k (o++[(j:Int)]) (j+1))) (k:=l.length+1-M-x) (i:=x) (by((try simp only [qW]at *);(try simp only [zQ,zA,zB,zC,zD,zE,zF,zG,zH,zI,zJ,zK,zL,zM,zN,zO,zP,zR,zS]at *);omega)) hcj).symm.trans h3;done)
      |((try simp only [zQ,zA,zB,zC,zD,zE,zF,zG,zH,zI,zJ,zK,zL,zM,zN,zO,zP,zR,zS]at *);refine⟨⟨x+1,by omega,by omega,by rw [show l.length+1-M-(x+1)=l.length+1-M-x-1 by omega];exact(firstOf_go (f:=(fun j=>chooseL l.length (okL c l) k (o++[(j:Int)]) (j+1))) (k:=l.length+1-M-x) (i:=x) (by omega) hcj).symm.trans h3⟩,by simp only [];omega,?_⟩;cbv;(repeat' (first|with_reducible refine hold ?_ ?_|with_reducible refine And.intro ?_ ?_));(all_goals first|trivial|exact qN (qE (by rfl))|exact qN (qG (by rfl))|exact qN (Fit.refl _)|exact qM (qL _)|(refine qN (qE ?_);(try simp only [qW]at *);simp only [zQ,zA,zB,zC,zD,zE,zF,zG,zH,zI,zJ,zK,zL,zM,zN,zO,zP,zR,zS]at *;omega)|(refine qM (qK ?_);(repeat' (first|exact qA|exact qB|refine qC ?_ rfl ?_|refine qD ?_ ?_|exact qE (by rfl)|exact qG (by rfl)|exact Fit.refl _|exact qH _|(refine qE ?_;(try simp only [qW]at *);simp only [zQ,zA,zB,zC,zD,zE,zF,zG,zH,zI,zJ,zK,zL,zM,zN,zO,zP,zR,zS]at *;omega)));done)|skip))
      |skip
theorem choose88 (c:Clr)(l:List LookT)(hc:COk c)(hl:LooksIn c l):∀(m:Nat) (o:List Int) (i:Nat) (ie me:Int),ie=(i:Int)→me=(m:Int)→o.length≤i→i+m≤l.length →
    (∀F:List Int,chooseL l.length (okL c l) m o i=some F→FSpec Try.prog 88 [(.sl 1 (.sym fun _=>zi (o).length) (fun ix=>[.int .i64 (.sym fun _=>(o).getD ix.den.toNat 0)])),(.int .i64 (.sym fun _=>ie)),(.int .i64 (.sym fun _=>me)),.own 0 0,.own 1 0,.own 2 0,.own 3 0] [.cells [.any] 28,.cells [(wpS c l)] 132,.cells [(lksS l)] 65,.cells [.clo 88 [] [.own 0 0,.own 1 0,.own 2 0,.own 3 0]] 168] (fun r bs=>r=(.bool (.sym fun _=>true))∧bs=[.cells [(.sl 1 (.sym fun _=>zi (F).length) (fun ix=>[.int .i64 (.sym fun _=>(F).getD ix.den.toNat 0)]))] 28,.cells [(wpS c l)] 132,.cells [(lksS l)] 65,.cells [.clo 88 [] [.own 0 0,.own 1 0,.own 2 0,.own 3 0]] 168]))∧(chooseL l.length (okL c l) m o i=none→FSpec Try.prog 88 [(.sl 1 (.sym fun _=>zi (o).length) (fun ix=>[.int .i64 (.sym fun _=>(o).getD ix.den.toNat 0)])),(.int .i64 (.sym fun _=>ie)),(.int .i64 (.sym fun _=>me)),.own 0 0,.own 1 0,.own 2 0,.own 3 0] [.cells [.any] 28,.cells [(wpS c l)] 132,.cells [(lksS l)] 65,.cells [.clo 88 [] [.own 0 0,.own 1 0,.own 2 0,.own 3 0]] 168] (fun r bs=>r=(.bool (.sym fun _=>false))∧bs=[.cells [.any] 28,.cells [(wpS c l)] 132,.cells [(lksS l)] 65,.cells [.clo 88 [] [.own 0 0,.own 1 0,.own 2 0,.own 3 0]] 168])):=by
  intro m
  induction m with
  | zero=>
    intro o i ie me hie hme ho him
    have hn:=hl.n
    have hm0:me=0:=by omega
    subst hm0
    constructor
    · intro F hF
      simp only [chooseL]at hF
      split at hF
      · rename_i h;cases hF;exact leafY c l o ie hc hl (by omega) h
      · cases hF
    · intro hF
      simp only [chooseL]at hF
      split at hF
      · cases hF
      · rename_i h;exact leafN c l o ie hc hl (by omega) (by simpa using h)
  | succ k ih=>
    intro o i ie me hie hme ho him
    have ih':∀(j:Nat) (L:List Int),L=o++[(j:Int)]→i≤j→j+(k+1)≤l.length→_:=fun j L hL hj hjm=>ih L (j+1) (zi j+1) (zi (k+1)-1) (by simp only [zi_den];omega) (by simp only [zi_den];omega) (by subst hL;simp only [List.length_append,List.length_cons,List.length_nil];omega) (by omega)
    subst hie
    subst hme
    constructor
    · intro F hF
      exact stepY c l o i k (k+1) F hc hl ho rfl him (by rw [show l.length+1-(k+1)-i=l.length-k-i by omega];exact hF) fun j h1 h2=>⟨fun F L hL hc=>(ih' j L hL h1 h2).1 F (by rw [hL];exact hc),fun L hL hc=>(ih' j L hL h1 h2).2 (by rw [hL];exact hc)⟩
    · intro hF
      exact stepN c l o i k (k+1) hc hl ho rfl him (by rw [show l.length+1-(k+1)-i=l.length-k-i by omega];exact hF) fun j h1 h2=>⟨fun F L hL hc=>(ih' j L hL h1 h2).1 F (by rw [hL];exact hc),fun L hL hc=>(ih' j L hL h1 h2).2 (by rw [hL];exact hc)⟩
end Go.Proofs.Yteelocfbbhchcaa

namespace Go.Proofs.Yteelocfbbhchcaa
open Go Go.Eng Go.Proofs
set_option maxRecDepth 10000
theorem leave45y (c:Clr)(l:List LookT)(h:lookedF c l=0):FSpec Try.prog 45 [(clrS c),(lksS l)] [] (fun r _=>r=(.tup [(.sl 1 (.sym fun _=>zi (leaveL c l).length) (fun ix=>[.int .i64 (.sym fun _=>(leaveL c l).getD ix.den.toNat 0)])),(.int .i64 (.sym fun _=>lookedF c l))])):=by
  have c87:=looked87 c l
  have c59:=work59 c l (lookedF_spec h).1 (lookedF_spec h).2
  have c88:=choose88 c l (lookedF_spec h).1 (lookedF_spec h).2
  refine FSpec.is fun R hR=>qX (sc:=sc45) tyok mix Try.func45 rfl Try.call45 (by kernel_rfl) (by kernel_rfl) ?_
  generalize Try.prog=P at c87 c59 c88⊢
  cbv
  have hn:=((lookedF_spec h).2).n
  have hch:=leave_yes h
  unfold leaveO at hch
  repeat' (first
      |with_reducible refine hold ?_ ?_
      |with_reducible refine And.intro ?_ ?_
      |(with_reducible intro hcd;(try simp only [zA,zB,zC,zD,zE,zF,zG,zH,zI,zJ,zK,zL,zM,zN,zO,zP]at hcd);try cbv)
      | (refine qQ ?_ (c87) ?hfit
         case hfit=>((repeat' (first|exact qB|refine qD ?_ ?_|exact qE (by rfl)|exact qG (by rfl)|exact Fit.refl _|exact qA|refine qC ?_ rfl ?_));done)
         try cbv)
      | (refine qQ ?_ (c59) ?hfit
         case hfit=>((repeat' (first|exact qB|refine qD ?_ ?_|exact qE (by rfl)|exact qG (by rfl)|exact Fit.refl _|exact qA|refine qC ?_ rfl ?_));done)
         try cbv)
      |fail)
  all_goals first
    |trivial
    |((try simp only [qW]at *);(try simp only [zQ,zA,zB,zC,zD,zE,zF,zG,zH,zI,zJ,zK,zL,zM,zN,zO,zP,zR,zS]at *);first|(refine qO ?_;omega)|(simp only [Hold];omega))
    |skip
  refine⟨none,[],{x:Nat // x≤l.length+1∧firstOf (fun m=>chooseL l.length (okL c l) m [] 0) (l.length+1-x) x=some (leaveL c l)},fun x=>⟨[(2,.own 0 0),(3,.own 1 0),(7,.own 13 0),(8,.own 15 0),(9,.own 16 0),(23,(.int .i64 (.sym fun _=>zi l.length+1))),(24,(.int .i64 (.sym fun _=>zi x.1)))],[(15,.cells [.any] 28),(13,.cells [(wpS c l)] 132),(1,.cells [(lksS l)] 65),(16,.cells [.clo 88 [] [.own 15 0,.own 13 0,.own 1 0,.own 16 0]] 168),(0,.cells [(.int .i64 (.sym fun _=>c.rl)),(.int .i64 (.sym fun _=>c.rh)),(.int .i64 (.sym fun _=>c.hr)),(.sl 4 (.sym fun _=>zi c.vs.length) (fun ix=>[(.int .i64 (.sym fun _=>(c.vs.getD ix.den.toNat v0).sl)),(.int .i64 (.sym fun _=>(c.vs.getD ix.den.toNat v0).sh)),(.int .i64 (.sym fun _=>(c.vs.getD ix.den.toNat v0).rl)),(.int .i64 (.sym fun _=>(c.vs.getD ix.den.toNat v0).rh))])),(.sl 2 (.sym fun _=>zi c.ts.length) (fun ix=>[(.int .i64 (.sym fun _=>(c.ts.getD ix.den.toNat t0).top)),(.sl 3 (.sym fun _=>zi ((c.ts.getD ix.den.toNat t0).ps).length) (fun jx=>[(.int .i64 (.sym fun _=>(((c.ts.getD ix.den.toNat t0).ps).getD jx.den.toNat p0).f)),(.int .i64 (.sym fun _=>(((c.ts.getD ix.den.toNat t0).ps).getD jx.den.toNat p0).el)),(.int .i64 (.sym fun _=>(((c.ts.getD ix.den.toNat t0).ps).getD jx.den.toNat p0).eh))]))]))] 40)],60⟩,fun x=>l.length+1-x.1,?_,?_⟩
  · refine⟨⟨0,by omega,hch⟩,?_⟩
    cbv
    repeat' (first
      |with_reducible refine hold ?_ ?_
      |with_reducible refine And.intro ?_ ?_)
    all_goals first
      |trivial
      |exact qN (qE (by rfl))
      |exact qN (Fit.refl _)
      |exact qM (qL _)
      |(refine qM (qK ?_);(repeat' (first|exact qA|exact qB|refine qC ?_ rfl ?_|refine qD ?_ ?_|exact qE (by rfl)|exact qG (by rfl)|exact Fit.refl _|exact qH _|(refine qE ?_;(try simp only [qW]at *);simp only [zQ,zA,zB,zC,zD,zE,zF,zG,zH,zI,zJ,zK,zL,zM,zN,zO,zP,zR,zS]at *;omega)));done)
      |skip
  · rintro⟨x,h2,h3⟩
    cbv
    repeat' (first
        |with_reducible refine hold ?_ ?_
        |with_reducible refine And.intro ?_ ?_
        |(with_reducible intro hcd;(try simp only [zA,zB,zC,zD,zE,zF,zG,zH,zI,zJ,zK,zL,zM,zN,zO,zP]at hcd);try cbv)
        |((rcases hcj:chooseL l.length (okL c l) x [] 0 with _|G)<;>(first|(refine⟨some [15,13,1,16],?_⟩;cbv;refine qR ?_ ((c88 x [] 0 0 (zi x) rfl (by simp only [zi_den]) (by simp) (by((try simp only [qW]at *);(try simp only [zQ,zA,zB,zC,zD,zE,zF,zG,zH,zI,zJ,zK,zL,zM,zN,zO,zP,zR,zS]at *);omega))).2 hcj) (by cbv;refine qD (qP rfl) ?_;(repeat' (first|exact qB|refine qD ?_ ?_|exact qE (by rfl)|exact qG (by rfl)|exact Fit.refl _|exact qA|refine qC ?_ rfl ?_))) (by cbv;(repeat' (first|exact qI|refine qJ ?_ ?_|exact qL _|refine qK ?_|exact qA|exact qE (by rfl)|exact qG (by rfl)|exact Fit.refl _|exact qH _|refine qC ?_ rfl ?_)));(try cbv))|(refine⟨some [15,13,1,16],?_⟩;cbv;refine qR ?_ ((c88 x [] 0 0 (zi x) rfl (by simp only [zi_den]) (by simp) (by((try simp only [qW]at *);(try simp only [zQ,zA,zB,zC,zD,zE,zF,zG,zH,zI,zJ,zK,zL,zM,zN,zO,zP,zR,zS]at *);omega))).1 G hcj) (by cbv;refine qD (qP rfl) ?_;(repeat' (first|exact qB|refine qD ?_ ?_|exact qE (by rfl)|exact qG (by rfl)|exact Fit.refl _|exact qA|refine qC ?_ rfl ?_))) (by cbv;(repeat' (first|exact qI|refine qJ ?_ ?_|exact qL _|refine qK ?_|exact qA|exact qE (by rfl)|exact qG (by rfl)|exact Fit.refl _|exact qH _|refine qC ?_ rfl ?_)));(try cbv))))
        |fail)
    all_goals first
      |trivial
      |((try simp only [qW]at *);(try simp only [zQ,zA,zB,zC,zD,zE,zF,zG,zH,zI,zJ,zK,zL,zM,zN,zO,zP,zR,zS]at *);first|(refine qO ?_;omega)|(simp only [Hold];omega))
      |((have e:=Option.some.inj ((firstOf_hit (f:=fun m=>chooseL l.length (okL c l) m [] 0) (k:=l.length+1-x) (i:=x) (by((try simp only [qW]at *);(try simp only [zQ,zA,zB,zC,zD,zE,zF,zG,zH,zI,zJ,zK,zL,zM,zN,zO,zP,zR,zS]at *);omega)) hcj).symm.trans h3));subst hR;rw [←e];exact qD (Fit.refl _) (qD (qE h.symm) qB))
      |((have hz:l.length+1-x=0:=by((try simp only [qW]at *);(try simp only [zQ,zA,zB,zC,zD,zE,zF,zG,zH,zI,zJ,zK,zL,zM,zN,zO,zP,zR,zS]at *);omega));rw [hz]at h3;cases h3;done)
      |((try simp only [zQ,zA,zB,zC,zD,zE,zF,zG,zH,zI,zJ,zK,zL,zM,zN,zO,zP,zR,zS]at *);refine⟨⟨x+1,by omega,by rw [show l.length+1-(x+1)=l.length+1-x-1 by omega];exact(firstOf_go (f:=fun m=>chooseL l.length (okL c l) m [] 0) (k:=l.length+1-x) (i:=x) (by omega) hcj).symm.trans h3⟩,by simp only [];omega,?_⟩;cbv;(repeat' (first|with_reducible refine hold ?_ ?_|with_reducible refine And.intro ?_ ?_));(all_goals first|trivial|exact qN (qE (by rfl))|exact qN (qG (by rfl))|exact qN (Fit.refl _)|exact qM (qL _)|(refine qN (qE ?_);(try simp only [qW]at *);simp only [zQ,zA,zB,zC,zD,zE,zF,zG,zH,zI,zJ,zK,zL,zM,zN,zO,zP,zR,zS]at *;omega)|(refine qM (qK ?_);(repeat' (first|exact qA|exact qB|refine qC ?_ rfl ?_|refine qD ?_ ?_|exact qE (by rfl)|exact qG (by rfl)|exact Fit.refl _|exact qH _|(refine qE ?_;(try simp only [qW]at *);simp only [zQ,zA,zB,zC,zD,zE,zF,zG,zH,zI,zJ,zK,zL,zM,zN,zO,zP,zR,zS]at *;omega)));done)|skip))
      |skip
theorem leave45n (c:Clr)(l:List LookT)(h:¬lookedF c l=0):FSpec Try.prog 45 [(clrS c),(lksS l)] [] (fun r _=>r=(.tup [(.sl 1 (.sym fun _=>zi (leaveL c l).length) (fun ix=>[.int .i64 (.sym fun _=>(leaveL c l).getD ix.den.toNat 0)])),(.int .i64 (.sym fun _=>lookedF c l))])):=by
  have c87:=looked87 c l
  refine FSpec.is fun R hR=>qX (sc:=sc45) tyok mix Try.func45 rfl Try.call45 (by kernel_rfl) (by kernel_rfl) ?_
  generalize Try.prog=P at c87⊢
  cbv
  have hl:=leave_no h
  repeat' (first
      |with_reducible refine And.intro ?_ ?_
      |(with_reducible intro hcd;(try simp only [zA,zB,zC,zD,zE,zF,zG,zH,zI,zJ,zK,zL,zM,zN,zO,zP]at hcd);try cbv)
      | (refine qQ ?_ (c87) ?hfit
         case hfit=>((repeat' (first|exact qB|refine qD ?_ ?_|exact qE (by rfl)|exact qG (by rfl)|exact Fit.refl _|exact qA|refine qC ?_ rfl ?_));done)
         try cbv)
      |fail)
  all_goals first
    |trivial
    |(subst hR;(rw [hl];exact qD (qP rfl) (qD (Fit.refl _) qB));done)
    |skip
theorem leave45 (c:Clr)(l:List LookT):FSpec Try.prog 45 [(clrS c),(lksS l)] [] (fun r _=>r=(.tup [(.sl 1 (.sym fun _=>zi (leaveL c l).length) (fun ix=>[.int .i64 (.sym fun _=>(leaveL c l).getD ix.den.toNat 0)])),(.int .i64 (.sym fun _=>lookedF c l))])):=by
  by_cases h:lookedF c l=0
  · exact leave45y c l h
  · exact leave45n c l h
end Go.Proofs.Yteelocfbbhchcaa

namespace Go.Proofs.Yteelocfbbhchcaa
open Go Go.Eng Go.Proofs
set_option maxRecDepth 10000
def eqI (na:Nat)(fa:Nat→Int)(nb:Nat)(fb:Nat→Int):Bool:=decide (na=nb)&&allB (fun i=>decide (fa i=fb i)) na
def eqR (na:Nat)(fa ga:Nat→Int)(nb:Nat)(fb gb:Nat→Int):Bool:=decide (na=nb)&&allB (fun i=>decide (fa i=fb i)&&decide (ga i=gb i)) na
theorem eqI_len {na nb:Nat} {fa fb:Nat→Int}(h:¬na=nb):eqI na fa nb fb=false:=by unfold eqI;rw [decide_eq_false h];rfl
theorem eqI_no {na nb:Nat} {fa fb:Nat→Int} {i:Nat}(hi:i<na)(h:¬fa i=fb i):eqI na fa nb fb=false:=by
  unfold eqI
  rw [allB_no (i:=i) hi (decide_eq_false h)];simp
theorem eqI_yes {na nb:Nat} {fa fb:Nat→Int}(h:na=nb)(h':∀i,i<na→fa i=fb i):eqI na fa nb fb=true:=by
  unfold eqI
  rw [decide_eq_true h,allB_yes fun i hi=>decide_eq_true (h' i hi)];rfl
theorem eqR_len {na nb:Nat} {fa fb ga gb:Nat→Int}(h:¬na=nb):eqR na fa ga nb fb gb=false:=by unfold eqR;rw [decide_eq_false h];rfl
theorem eqR_no {na nb:Nat} {fa fb ga gb:Nat→Int} {i:Nat}(hi:i<na)(h:¬(fa i=fb i∧ga i=gb i)):eqR na fa ga nb fb gb=false:=by
  unfold eqR
  rw [allB_no (i:=i) hi (by rw [←Bool.not_eq_true,Bool.and_eq_true,decide_eq_true_eq,decide_eq_true_eq];exact h)];simp
theorem eqR_yes {na nb:Nat} {fa fb ga gb:Nat→Int}(h:na=nb)(h':∀i,i<na→fa i=fb i∧ga i=gb i):eqR na fa ga nb fb gb=true:=by
  unfold eqR
  rw [decide_eq_true h,allB_yes fun i hi=>by rw [decide_eq_true (h' i hi).1,decide_eq_true (h' i hi).2];rfl];rfl
theorem dens2_t {a b c d:Int}(h:decide (dens [.sym fun _=>a,.sym fun _=>b]=dens [.sym fun _=>c,.sym fun _=>d])=true):a=c∧b=d:=by
  rw [decide_eq_true_eq]at h;simpa only [dens,den_sym,List.cons.injEq,and_true]using h
theorem dens2_f {a b c d:Int}(h:decide (dens [.sym fun _=>a,.sym fun _=>b]=dens [.sym fun _=>c,.sym fun _=>d])=false):¬(a=c∧b=d):=by
  rw [decide_eq_false_iff_not]at h;simpa only [dens,den_sym,List.cons.injEq,and_true]using h
theorem eqOk33 :EqOk Try.prog 33 2:=eqOk_strI (by kernel_rfl)
theorem ints27 (na nb:Nat)(fa fb:Nat→Int)(ha:na≤1000)(hb:nb≤1000):FSpec Try.prog 27 [(.sl 1 (.sym fun _=>zi na) (fun ix=>[(.int .i64 (.sym fun _=>fa ix.den.toNat))])),(.sl 1 (.sym fun _=>zi nb) (fun ix=>[(.int .i64 (.sym fun _=>fb ix.den.toNat))]))] [] (fun r _=>r=(.bool (.sym fun _=>eqI na fa nb fb))):=by
  refine FSpec.is fun R hR=>qX (sc:=sc27) tyok mix Try.func27 rfl Try.call27 (by kernel_rfl) (by kernel_rfl) ?_
  generalize Try.prog=P
  cbv
  repeat' (first
      |with_reducible refine And.intro ?_ ?_
      |(with_reducible intro hcd;(try simp only [zA,zB,zC,zD,zE,zF,zG,zH,zI,zJ,zK,zL,zM,zN,zO,zP]at hcd);try cbv)
      |fail)
  all_goals first
    |(subst hR;(refine qG ?_;(try simp only [qW]at *);(try simp only [zQ,zA,zB,zC,zD,zE,zF,zG,zH,zI,zJ,zK,zL,zM,zN,zO,zP,zR,zS]at *);exact(eqI_len (by omega)).symm);done)
    |skip
  refine⟨none,[],{i:Nat // i≤na∧∀j,j<i→fa j=fb j},fun x=>⟨[(0,(.sl 1 (.sym fun _=>zi na) (fun ix=>[(.int .i64 (.sym fun _=>fa ix.den.toNat))]))),(1,(.sl 1 (.sym fun _=>zi nb) (fun ix=>[(.int .i64 (.sym fun _=>fb ix.den.toNat))]))),(5,(.int .i64 (.sym fun _=>zi x.1)))],[],40⟩,fun x=>na-x.1,?_,?_⟩
  · refine⟨⟨0,by omega,fun j hj=>by omega⟩,?_⟩
    cbv
    repeat' (first
      |with_reducible refine hold ?_ ?_
      |with_reducible refine And.intro ?_ ?_)
    all_goals first
      |trivial
      |exact qN (qE (by rfl))
      |exact qN (Fit.refl _)
      |skip
  · rintro⟨i,hi,hq⟩
    cbv
    repeat' (first
        |with_reducible refine hold ?_ ?_
        |with_reducible refine And.intro ?_ ?_
        |(with_reducible intro hcd;(try simp only [zA,zB,zC,zD,zE,zF,zG,zH,zI,zJ,zK,zL,zM,zN,zO,zP]at hcd);try cbv)
        |fail)
    all_goals first
      |((try simp only [qW]at *);(try simp only [zQ,zA,zB,zC,zD,zE,zF,zG,zH,zI,zJ,zK,zL,zM,zN,zO,zP,zR,zS]at *);first|(refine qO ?_;omega)|(simp only [Hold];omega))
      |(subst hR;(refine qG ?_;(try simp only [qW]at *);(try simp only [zQ,zA,zB,zC,zD,zE,zF,zG,zH,zI,zJ,zK,zL,zM,zN,zO,zP,zR,zS]at *);exact(eqI_no (i:=i) (by omega) (by assumption)).symm);done)
      |(subst hR;(refine qG ?_;(try simp only [qW]at *);(try simp only [zQ,zA,zB,zC,zD,zE,zF,zG,zH,zI,zJ,zK,zL,zM,zN,zO,zP,zR,zS]at *);exact(eqI_yes (by omega) fun j hj=>hq j (by omega)).symm);done)
      |((try simp only [zQ,zA,zB,zC,zD,zE,zF,zG,zH,zI,zJ,zK,zL,zM,zN,zO,zP,zR,zS]at *);refine⟨⟨i+1,by omega,fun j hj=>(Nat.lt_or_ge j i).elim (hq j) fun q=>by rw [show j=i by omega];first|assumption|omega|exact dens2_t (by assumption)⟩,by simp only [];omega,?_⟩;cbv;(repeat' (first|with_reducible refine hold ?_ ?_|with_reducible refine And.intro ?_ ?_));(all_goals first|trivial|exact qN (qE (by rfl))|exact qN (qG (by rfl))|exact qN (Fit.refl _)|exact qM (qL _)|(refine qN (qE ?_);(try simp only [qW]at *);simp only [zQ,zA,zB,zC,zD,zE,zF,zG,zH,zI,zJ,zK,zL,zM,zN,zO,zP,zR,zS]at *;omega)|skip))
      |skip
theorem spans53 (na nb:Nat)(fa ga fb gb:Nat→Int)(ha:na≤1000)(hb:nb≤1000):FSpec Try.prog 53 [(.sl 2 (.sym fun _=>zi na) (fun ix=>[(.int .i64 (.sym fun _=>fa ix.den.toNat)),(.int .i64 (.sym fun _=>ga ix.den.toNat))])),(.sl 2 (.sym fun _=>zi nb) (fun ix=>[(.int .i64 (.sym fun _=>fb ix.den.toNat)),(.int .i64 (.sym fun _=>gb ix.den.toNat))]))] [] (fun r _=>r=(.bool (.sym fun _=>eqR na fa ga nb fb gb))):=by
  have heq:=eqOk33
  refine FSpec.is fun R hR=>qX (sc:=sc53) tyok mix Try.func53 rfl Try.call53 (by kernel_rfl) (by kernel_rfl) ?_
  generalize Try.prog=P at heq⊢
  cbv
  repeat' (first
      |with_reducible refine And.intro ?_ ?_
      |(with_reducible intro hcd;(try simp only [zA,zB,zC,zD,zE,zF,zG,zH,zI,zJ,zK,zL,zM,zN,zO,zP]at hcd);try cbv)
      |fail)
  all_goals first
    |(subst hR;(refine qG ?_;(try simp only [qW]at *);(try simp only [zQ,zA,zB,zC,zD,zE,zF,zG,zH,zI,zJ,zK,zL,zM,zN,zO,zP,zR,zS]at *);exact(eqR_len (by omega)).symm);done)
    |skip
  refine⟨none,[],{i:Nat // i≤na∧∀j,j<i→fa j=fb j∧ga j=gb j},fun x=>⟨[(0,(.sl 2 (.sym fun _=>zi na) (fun ix=>[(.int .i64 (.sym fun _=>fa ix.den.toNat)),(.int .i64 (.sym fun _=>ga ix.den.toNat))]))),(1,(.sl 2 (.sym fun _=>zi nb) (fun ix=>[(.int .i64 (.sym fun _=>fb ix.den.toNat)),(.int .i64 (.sym fun _=>gb ix.den.toNat))]))),(5,(.int .i64 (.sym fun _=>zi x.1)))],[],40⟩,fun x=>na-x.1,?_,?_⟩
  · refine⟨⟨0,by omega,fun j hj=>by omega⟩,?_⟩
    cbv
    repeat' (first
      |with_reducible refine hold ?_ ?_
      |with_reducible refine And.intro ?_ ?_)
    all_goals first
      |trivial
      |exact qN (qE (by rfl))
      |exact qN (Fit.refl _)
      |skip
  · rintro⟨i,hi,hq⟩
    cbv
    repeat' (first
        |with_reducible refine hold ?_ ?_
        |with_reducible refine And.intro ?_ ?_
        |(with_reducible intro hcd;(try simp only [zA,zB,zC,zD,zE,zF,zG,zH,zI,zJ,zK,zL,zM,zN,zO,zP]at hcd);try cbv)
        |fail)
    all_goals first
      |trivial
      |((try simp only [qW]at *);(try simp only [zQ,zA,zB,zC,zD,zE,zF,zG,zH,zI,zJ,zK,zL,zM,zN,zO,zP,zR,zS]at *);first|(refine qO ?_;omega)|(simp only [Hold];omega))
      |(subst hR;(refine qG ?_;(try simp only [qW]at *);(try simp only [zQ,zA,zB,zC,zD,zE,zF,zG,zH,zI,zJ,zK,zL,zM,zN,zO,zP,zR,zS]at *);exact(eqR_no (i:=i) (by omega) (dens2_f (by assumption))).symm);done)
      |(subst hR;(refine qG ?_;(try simp only [qW]at *);(try simp only [zQ,zA,zB,zC,zD,zE,zF,zG,zH,zI,zJ,zK,zL,zM,zN,zO,zP,zR,zS]at *);exact(eqR_yes (by omega) fun j hj=>hq j (by omega)).symm);done)
      |((try simp only [zQ,zA,zB,zC,zD,zE,zF,zG,zH,zI,zJ,zK,zL,zM,zN,zO,zP,zR,zS]at *);refine⟨⟨i+1,by omega,fun j hj=>(Nat.lt_or_ge j i).elim (hq j) fun q=>by rw [show j=i by omega];first|assumption|omega|exact dens2_t (by assumption)⟩,by simp only [];omega,?_⟩;cbv;(repeat' (first|with_reducible refine hold ?_ ?_|with_reducible refine And.intro ?_ ?_));(all_goals first|trivial|exact qN (qE (by rfl))|exact qN (qG (by rfl))|exact qN (Fit.refl _)|exact qM (qL _)|(refine qN (qE ?_);(try simp only [qW]at *);simp only [zQ,zA,zB,zC,zD,zE,zF,zG,zH,zI,zJ,zK,zL,zM,zN,zO,zP,zR,zS]at *;omega)|skip))
      |skip
end Go.Proofs.Yteelocfbbhchcaa

namespace Go.Proofs.Yteelocfbbhchcaa
open Go Go.Eng Go.Proofs
set_option maxRecDepth 10000
def two3 :Clr:=⟨50,52,3,[⟨80,90,20,30⟩,⟨40,40,50,50⟩],[⟨120,[⟨0,-1,1⟩,⟨70,0,2⟩]⟩]⟩
def la3 :List LookT:=[⟨0,1,0,75⟩]
def lb3 :List LookT:=[⟨0,1,0,75⟩,⟨0,0,0,99⟩]
def po3 :List PorT:=[⟨100,80,80⟩,⟨50,50,53⟩]
def B3 :List (List (Int×Int)):=[[(80,90),(71,82),(64,76),(59,71)],[(40,40),(45,46),(48,49),(49,51)]]
def B4 :List (List (Int×Int)):=[[(80,87),(73,75),(66,70),(61,66)],[(40,40),(45,46),(48,49),(49,51)]]
theorem two50 :FSpec Try.prog 50 [] [] (fun r _=>r=(clrS two3)):=by
  have c52:= @between52
  refine FSpec.is fun R hR=>qX (sc:=sc50) tyok mix Try.func50 rfl Try.call50 (by kernel_rfl) (by kernel_rfl) ?_
  generalize Try.prog=P at c52⊢
  cbv
  repeat' (first
      | (refine qQ ?_ (c52 _ _) (by(repeat' (first|exact qB|refine qD ?_ ?_|exact qE (by rfl)|exact qG (by rfl)|exact Fit.refl _|exact qA|refine qC ?_ rfl ?_)))
         try cbv)
      |fail)
  all_goals first
    |(subst hR;(repeat' (first|exact qA|exact qB|refine qC ?_ rfl ?_|refine qD ?_ ?_|exact qE (by rfl)|exact qG (by rfl)|exact qE (by kernel_rfl)|exact qG (by kernel_rfl)|exact Fit.refl _|(exact qP (by rfl))|(first|(refine fit_sl (by rfl) (fun ix h0 h1=> ?_);(have h2:ix.den<2:=h1);(have hx:ix.den.toNat=0∨ix.den.toNat=1:=by omega);(rcases hx with hx|hx<;>simp only [hx]))|(refine fit_sl (by rfl) (fun ix h0 h1=> ?_);(have h2:ix.den<3:=h1);(have hx:ix.den.toNat=0∨ix.den.toNat=1∨ix.den.toNat=2:=by omega);(rcases hx with hx|hx|hx<;>simp only [hx]))|(refine fit_sl (by rfl) (fun ix h0 h1=> ?_);(have h2:ix.den<4:=h1);(have hx:ix.den.toNat=0∨ix.den.toNat=1∨ix.den.toNat=2∨ix.den.toNat=3:=by omega);(rcases hx with hx|hx|hx|hx<;>simp only [hx]))|(refine fit_sl (by rfl) (fun ix h0 h1=> ?_);(have h2:ix.den<1:=h1);(have hx:ix.den.toNat=0:=by omega);(rcases hx with hx<;>simp only [hx]))|(refine fit_sl (by rfl) (fun ix h0 h1=> ?_);(have h2:ix.den<5:=h1);(have hx:ix.den.toNat=0∨ix.den.toNat=1∨ix.den.toNat=2∨ix.den.toNat=3∨ix.den.toNat=4:=by omega);(rcases hx with hx|hx|hx|hx|hx<;>simp only [hx])))));done)
    |skip
theorem play3 :FSpec Try.prog 18 [(clrS two3),(.agg [(.int .i64 (.sym fun _=>50)),(.sl 1 (.sym fun _=>zi ([80,40]).length) (fun ix=>[.int .i64 (.sym fun _=>([80,40]).getD ix.den.toNat 0)])),(.sl 1 (.sym fun _=>zi ([20,50]).length) (fun ix=>[.int .i64 (.sym fun _=>([20,50]).getD ix.den.toNat 0)]))])] [] (fun r _=>r=(.tup [(.sl 1 (.sym fun _=>zi ([[80,74,69,65],[40,45,48,49]]).length) (fun ix=>[(.sl 1 (.sym fun _=>zi (([[80,74,69,65],[40,45,48,49]]).getD ix.den.toNat []).length) (fun jx=>[.int .i64 (.sym fun _=>(([[80,74,69,65],[40,45,48,49]]).getD ix.den.toNat []).getD jx.den.toNat 0)]))])),(.int .i64 (.lit (0)))])):=
  (play18 two3 50 [80,40] [20,50] (by decide)).post fun r bs h=>⟨_,by subst h;(repeat' (first|exact qA|exact qB|refine qC ?_ rfl ?_|refine qD ?_ ?_|exact qE (by rfl)|exact qG (by rfl)|exact qE (by kernel_rfl)|exact qG (by kernel_rfl)|exact Fit.refl _|(exact qP (by rfl))|(first|(refine fit_sl (by rfl) (fun ix h0 h1=> ?_);(have h2:ix.den<2:=h1);(have hx:ix.den.toNat=0∨ix.den.toNat=1:=by omega);(rcases hx with hx|hx<;>simp only [hx]))|(refine fit_sl (by rfl) (fun ix h0 h1=> ?_);(have h2:ix.den<3:=h1);(have hx:ix.den.toNat=0∨ix.den.toNat=1∨ix.den.toNat=2:=by omega);(rcases hx with hx|hx|hx<;>simp only [hx]))|(refine fit_sl (by rfl) (fun ix h0 h1=> ?_);(have h2:ix.den<4:=h1);(have hx:ix.den.toNat=0∨ix.den.toNat=1∨ix.den.toNat=2∨ix.den.toNat=3:=by omega);(rcases hx with hx|hx|hx|hx<;>simp only [hx]))|(refine fit_sl (by rfl) (fun ix h0 h1=> ?_);(have h2:ix.den<1:=h1);(have hx:ix.den.toNat=0:=by omega);(rcases hx with hx<;>simp only [hx]))|(refine fit_sl (by rfl) (fun ix h0 h1=> ?_);(have h2:ix.den<5:=h1);(have hx:ix.den.toNat=0∨ix.den.toNat=1∨ix.den.toNat=2∨ix.den.toNat=3∨ix.den.toNat=4:=by omega);(rcases hx with hx|hx|hx|hx|hx<;>simp only [hx]))))),rfl⟩
theorem mean3 :FSpec Try.prog 16 [(clrS two3),(.int .i64 (.sym fun _=>0)),(.int .i64 (.sym fun _=>75))] [] (fun r _=>r=(.tup [(.agg [(.int .i64 (.lit (73))),(.int .i64 (.lit (75)))]),(.int .i64 (.lit (0)))])):=
  (mean16 two3 0 75).post fun r bs h=>⟨_,by subst h;(repeat' (first|exact qA|exact qB|refine qC ?_ rfl ?_|refine qD ?_ ?_|exact qE (by rfl)|exact qG (by rfl)|exact qE (by kernel_rfl)|exact qG (by kernel_rfl)|exact Fit.refl _|(exact qP (by rfl))|(first|(refine fit_sl (by rfl) (fun ix h0 h1=> ?_);(have h2:ix.den<2:=h1);(have hx:ix.den.toNat=0∨ix.den.toNat=1:=by omega);(rcases hx with hx|hx<;>simp only [hx]))|(refine fit_sl (by rfl) (fun ix h0 h1=> ?_);(have h2:ix.den<3:=h1);(have hx:ix.den.toNat=0∨ix.den.toNat=1∨ix.den.toNat=2:=by omega);(rcases hx with hx|hx|hx<;>simp only [hx]))|(refine fit_sl (by rfl) (fun ix h0 h1=> ?_);(have h2:ix.den<4:=h1);(have hx:ix.den.toNat=0∨ix.den.toNat=1∨ix.den.toNat=2∨ix.den.toNat=3:=by omega);(rcases hx with hx|hx|hx|hx<;>simp only [hx]))|(refine fit_sl (by rfl) (fun ix h0 h1=> ?_);(have h2:ix.den<1:=h1);(have hx:ix.den.toNat=0:=by omega);(rcases hx with hx<;>simp only [hx]))|(refine fit_sl (by rfl) (fun ix h0 h1=> ?_);(have h2:ix.den<5:=h1);(have hx:ix.den.toNat=0∨ix.den.toNat=1∨ix.den.toNat=2∨ix.den.toNat=3∨ix.den.toNat=4:=by omega);(rcases hx with hx|hx|hx|hx|hx<;>simp only [hx]))))),rfl⟩
theorem bounds3 :FSpec Try.prog 30 [(clrS two3),(lksS ([]:List LookT))] [] (fun r _=>r=(.tup [(.sl 1 (.sym fun _=>zi (B3).length) (fun ix=>[(.sl 2 (.sym fun _=>zi ((B3).getD ix.den.toNat []).length) (fun jx=>[(.int .i64 (.sym fun _=>(((B3).getD ix.den.toNat []).getD jx.den.toNat (0,0)).1)),(.int .i64 (.sym fun _=>(((B3).getD ix.den.toNat []).getD jx.den.toNat (0,0)).2))]))])),(.int .i64 (.lit (0)))])):=
  (bounds30 two3 []).post fun r bs h=>⟨_,by subst h;(repeat' (first|exact qA|exact qB|refine qC ?_ rfl ?_|refine qD ?_ ?_|exact qE (by rfl)|exact qG (by rfl)|exact qE (by kernel_rfl)|exact qG (by kernel_rfl)|exact Fit.refl _|(exact qP (by rfl))|(first|(refine fit_sl (by rfl) (fun ix h0 h1=> ?_);(have h2:ix.den<2:=h1);(have hx:ix.den.toNat=0∨ix.den.toNat=1:=by omega);(rcases hx with hx|hx<;>simp only [hx]))|(refine fit_sl (by rfl) (fun ix h0 h1=> ?_);(have h2:ix.den<3:=h1);(have hx:ix.den.toNat=0∨ix.den.toNat=1∨ix.den.toNat=2:=by omega);(rcases hx with hx|hx|hx<;>simp only [hx]))|(refine fit_sl (by rfl) (fun ix h0 h1=> ?_);(have h2:ix.den<4:=h1);(have hx:ix.den.toNat=0∨ix.den.toNat=1∨ix.den.toNat=2∨ix.den.toNat=3:=by omega);(rcases hx with hx|hx|hx|hx<;>simp only [hx]))|(refine fit_sl (by rfl) (fun ix h0 h1=> ?_);(have h2:ix.den<1:=h1);(have hx:ix.den.toNat=0:=by omega);(rcases hx with hx<;>simp only [hx]))|(refine fit_sl (by rfl) (fun ix h0 h1=> ?_);(have h2:ix.den<5:=h1);(have hx:ix.den.toNat=0∨ix.den.toNat=1∨ix.den.toNat=2∨ix.den.toNat=3∨ix.den.toNat=4:=by omega);(rcases hx with hx|hx|hx|hx|hx<;>simp only [hx]))))),rfl⟩
theorem bounds4 :FSpec Try.prog 30 [(clrS two3),(lksS la3)] [] (fun r _=>r=(.tup [(.sl 1 (.sym fun _=>zi (B4).length) (fun ix=>[(.sl 2 (.sym fun _=>zi ((B4).getD ix.den.toNat []).length) (fun jx=>[(.int .i64 (.sym fun _=>(((B4).getD ix.den.toNat []).getD jx.den.toNat (0,0)).1)),(.int .i64 (.sym fun _=>(((B4).getD ix.den.toNat []).getD jx.den.toNat (0,0)).2))]))])),(.int .i64 (.lit (0)))])):=
  (bounds30 two3 la3).post fun r bs h=>⟨_,by subst h;(repeat' (first|exact qA|exact qB|refine qC ?_ rfl ?_|refine qD ?_ ?_|exact qE (by rfl)|exact qG (by rfl)|exact qE (by kernel_rfl)|exact qG (by kernel_rfl)|exact Fit.refl _|(exact qP (by rfl))|(first|(refine fit_sl (by rfl) (fun ix h0 h1=> ?_);(have h2:ix.den<2:=h1);(have hx:ix.den.toNat=0∨ix.den.toNat=1:=by omega);(rcases hx with hx|hx<;>simp only [hx]))|(refine fit_sl (by rfl) (fun ix h0 h1=> ?_);(have h2:ix.den<3:=h1);(have hx:ix.den.toNat=0∨ix.den.toNat=1∨ix.den.toNat=2:=by omega);(rcases hx with hx|hx|hx<;>simp only [hx]))|(refine fit_sl (by rfl) (fun ix h0 h1=> ?_);(have h2:ix.den<4:=h1);(have hx:ix.den.toNat=0∨ix.den.toNat=1∨ix.den.toNat=2∨ix.den.toNat=3:=by omega);(rcases hx with hx|hx|hx|hx<;>simp only [hx]))|(refine fit_sl (by rfl) (fun ix h0 h1=> ?_);(have h2:ix.den<1:=h1);(have hx:ix.den.toNat=0:=by omega);(rcases hx with hx<;>simp only [hx]))|(refine fit_sl (by rfl) (fun ix h0 h1=> ?_);(have h2:ix.den<5:=h1);(have hx:ix.den.toNat=0∨ix.den.toNat=1∨ix.den.toNat=2∨ix.den.toNat=3∨ix.den.toNat=4:=by omega);(rcases hx with hx|hx|hx|hx|hx<;>simp only [hx]))))),rfl⟩
theorem cool3 :FSpec Try.prog 32 [(clrS two3),(lksS ([]:List LookT)),(.int .i64 (.sym fun _=>70))] [] (fun r _=>r=(.tup [(.int .i64 (.lit (-1))),(.int .i64 (.lit (2))),(.int .i64 (.lit (0)))])):=
  (cool32 two3 [] 70).post fun r bs h=>⟨_,by subst h;(repeat' (first|exact qA|exact qB|refine qC ?_ rfl ?_|refine qD ?_ ?_|exact qE (by rfl)|exact qG (by rfl)|exact qE (by kernel_rfl)|exact qG (by kernel_rfl)|exact Fit.refl _|(exact qP (by rfl))|(first|(refine fit_sl (by rfl) (fun ix h0 h1=> ?_);(have h2:ix.den<2:=h1);(have hx:ix.den.toNat=0∨ix.den.toNat=1:=by omega);(rcases hx with hx|hx<;>simp only [hx]))|(refine fit_sl (by rfl) (fun ix h0 h1=> ?_);(have h2:ix.den<3:=h1);(have hx:ix.den.toNat=0∨ix.den.toNat=1∨ix.den.toNat=2:=by omega);(rcases hx with hx|hx|hx<;>simp only [hx]))|(refine fit_sl (by rfl) (fun ix h0 h1=> ?_);(have h2:ix.den<4:=h1);(have hx:ix.den.toNat=0∨ix.den.toNat=1∨ix.den.toNat=2∨ix.den.toNat=3:=by omega);(rcases hx with hx|hx|hx|hx<;>simp only [hx]))|(refine fit_sl (by rfl) (fun ix h0 h1=> ?_);(have h2:ix.den<1:=h1);(have hx:ix.den.toNat=0:=by omega);(rcases hx with hx<;>simp only [hx]))|(refine fit_sl (by rfl) (fun ix h0 h1=> ?_);(have h2:ix.den<5:=h1);(have hx:ix.den.toNat=0∨ix.den.toNat=1∨ix.den.toNat=2∨ix.den.toNat=3∨ix.den.toNat=4:=by omega);(rcases hx with hx|hx|hx|hx|hx<;>simp only [hx]))))),rfl⟩
theorem mix3 :FSpec Try.prog 38 [(porS po3)] [] (fun r _=>r=(.tup [(.agg [(.int .i64 (.lit (70))),(.int .i64 (.lit (71)))]),(.int .i64 (.lit (0)))])):=
  (mix38 po3 (by decide)).post fun r bs h=>⟨_,by subst h;(repeat' (first|exact qA|exact qB|refine qC ?_ rfl ?_|refine qD ?_ ?_|exact qE (by rfl)|exact qG (by rfl)|exact qE (by kernel_rfl)|exact qG (by kernel_rfl)|exact Fit.refl _|(exact qP (by rfl))|(first|(refine fit_sl (by rfl) (fun ix h0 h1=> ?_);(have h2:ix.den<2:=h1);(have hx:ix.den.toNat=0∨ix.den.toNat=1:=by omega);(rcases hx with hx|hx<;>simp only [hx]))|(refine fit_sl (by rfl) (fun ix h0 h1=> ?_);(have h2:ix.den<3:=h1);(have hx:ix.den.toNat=0∨ix.den.toNat=1∨ix.den.toNat=2:=by omega);(rcases hx with hx|hx|hx<;>simp only [hx]))|(refine fit_sl (by rfl) (fun ix h0 h1=> ?_);(have h2:ix.den<4:=h1);(have hx:ix.den.toNat=0∨ix.den.toNat=1∨ix.den.toNat=2∨ix.den.toNat=3:=by omega);(rcases hx with hx|hx|hx|hx<;>simp only [hx]))|(refine fit_sl (by rfl) (fun ix h0 h1=> ?_);(have h2:ix.den<1:=h1);(have hx:ix.den.toNat=0:=by omega);(rcases hx with hx<;>simp only [hx]))|(refine fit_sl (by rfl) (fun ix h0 h1=> ?_);(have h2:ix.den<5:=h1);(have hx:ix.den.toNat=0∨ix.den.toNat=1∨ix.den.toNat=2∨ix.den.toNat=3∨ix.den.toNat=4:=by omega);(rcases hx with hx|hx|hx|hx|hx<;>simp only [hx]))))),rfl⟩
theorem leave3_is :leaveL two3 lb3=[1]:=by kernel_rfl
theorem leave3 :FSpec Try.prog 45 [(clrS two3),(lksS lb3)] [] (fun r _=>r=(.tup [(.sl 1 (.sym fun _=>zi ([1]).length) (fun ix=>[.int .i64 (.sym fun _=>([1]).getD ix.den.toNat 0)])),(.int .i64 (.lit (0)))])):=
  (leave45 two3 lb3).post fun r bs h=>⟨_,by subst h;rw [leave3_is];(repeat' (first|exact qA|exact qB|refine qC ?_ rfl ?_|refine qD ?_ ?_|exact qE (by rfl)|exact qG (by rfl)|exact qE (by kernel_rfl)|exact qG (by kernel_rfl)|exact Fit.refl _|(exact qP (by rfl))|(first|(refine fit_sl (by rfl) (fun ix h0 h1=> ?_);(have h2:ix.den<2:=h1);(have hx:ix.den.toNat=0∨ix.den.toNat=1:=by omega);(rcases hx with hx|hx<;>simp only [hx]))|(refine fit_sl (by rfl) (fun ix h0 h1=> ?_);(have h2:ix.den<3:=h1);(have hx:ix.den.toNat=0∨ix.den.toNat=1∨ix.den.toNat=2:=by omega);(rcases hx with hx|hx|hx<;>simp only [hx]))|(refine fit_sl (by rfl) (fun ix h0 h1=> ?_);(have h2:ix.den<4:=h1);(have hx:ix.den.toNat=0∨ix.den.toNat=1∨ix.den.toNat=2∨ix.den.toNat=3:=by omega);(rcases hx with hx|hx|hx|hx<;>simp only [hx]))|(refine fit_sl (by rfl) (fun ix h0 h1=> ?_);(have h2:ix.den<1:=h1);(have hx:ix.den.toNat=0:=by omega);(rcases hx with hx<;>simp only [hx]))|(refine fit_sl (by rfl) (fun ix h0 h1=> ?_);(have h2:ix.den<5:=h1);(have hx:ix.den.toNat=0∨ix.den.toNat=1∨ix.den.toNat=2∨ix.den.toNat=3∨ix.den.toNat=4:=by omega);(rcases hx with hx|hx|hx|hx|hx<;>simp only [hx]))))),rfl⟩
theorem ints3a :FSpec Try.prog 27 [(.sl 1 (.sym fun _=>zi ([80,74,69,65]).length) (fun ix=>[.int .i64 (.sym fun _=>([80,74,69,65]).getD ix.den.toNat 0)])),(.sl 1 (.sym fun _=>zi ([80,74,69,65]).length) (fun ix=>[.int .i64 (.sym fun _=>([80,74,69,65]).getD ix.den.toNat 0)]))] [] (fun r _=>r=(.bool (.lit true))):=
  (ints27 4 4 (fun n=>([80,74,69,65]).getD n 0) (fun n=>([80,74,69,65]).getD n 0) (by decide) (by decide)).post fun r bs h=>⟨_,by subst h;(repeat' (first|exact qA|exact qB|refine qC ?_ rfl ?_|refine qD ?_ ?_|exact qE (by rfl)|exact qG (by rfl)|exact qE (by kernel_rfl)|exact qG (by kernel_rfl)|exact Fit.refl _|(exact qP (by rfl))|(first|(refine fit_sl (by rfl) (fun ix h0 h1=> ?_);(have h2:ix.den<2:=h1);(have hx:ix.den.toNat=0∨ix.den.toNat=1:=by omega);(rcases hx with hx|hx<;>simp only [hx]))|(refine fit_sl (by rfl) (fun ix h0 h1=> ?_);(have h2:ix.den<3:=h1);(have hx:ix.den.toNat=0∨ix.den.toNat=1∨ix.den.toNat=2:=by omega);(rcases hx with hx|hx|hx<;>simp only [hx]))|(refine fit_sl (by rfl) (fun ix h0 h1=> ?_);(have h2:ix.den<4:=h1);(have hx:ix.den.toNat=0∨ix.den.toNat=1∨ix.den.toNat=2∨ix.den.toNat=3:=by omega);(rcases hx with hx|hx|hx|hx<;>simp only [hx]))|(refine fit_sl (by rfl) (fun ix h0 h1=> ?_);(have h2:ix.den<1:=h1);(have hx:ix.den.toNat=0:=by omega);(rcases hx with hx<;>simp only [hx]))|(refine fit_sl (by rfl) (fun ix h0 h1=> ?_);(have h2:ix.den<5:=h1);(have hx:ix.den.toNat=0∨ix.den.toNat=1∨ix.den.toNat=2∨ix.den.toNat=3∨ix.den.toNat=4:=by omega);(rcases hx with hx|hx|hx|hx|hx<;>simp only [hx]))))),rfl⟩
theorem ints3b :FSpec Try.prog 27 [(.sl 1 (.sym fun _=>zi ([40,45,48,49]).length) (fun ix=>[.int .i64 (.sym fun _=>([40,45,48,49]).getD ix.den.toNat 0)])),(.sl 1 (.sym fun _=>zi ([40,45,48,49]).length) (fun ix=>[.int .i64 (.sym fun _=>([40,45,48,49]).getD ix.den.toNat 0)]))] [] (fun r _=>r=(.bool (.lit true))):=
  (ints27 4 4 (fun n=>([40,45,48,49]).getD n 0) (fun n=>([40,45,48,49]).getD n 0) (by decide) (by decide)).post fun r bs h=>⟨_,by subst h;(repeat' (first|exact qA|exact qB|refine qC ?_ rfl ?_|refine qD ?_ ?_|exact qE (by rfl)|exact qG (by rfl)|exact qE (by kernel_rfl)|exact qG (by kernel_rfl)|exact Fit.refl _|(exact qP (by rfl))|(first|(refine fit_sl (by rfl) (fun ix h0 h1=> ?_);(have h2:ix.den<2:=h1);(have hx:ix.den.toNat=0∨ix.den.toNat=1:=by omega);(rcases hx with hx|hx<;>simp only [hx]))|(refine fit_sl (by rfl) (fun ix h0 h1=> ?_);(have h2:ix.den<3:=h1);(have hx:ix.den.toNat=0∨ix.den.toNat=1∨ix.den.toNat=2:=by omega);(rcases hx with hx|hx|hx<;>simp only [hx]))|(refine fit_sl (by rfl) (fun ix h0 h1=> ?_);(have h2:ix.den<4:=h1);(have hx:ix.den.toNat=0∨ix.den.toNat=1∨ix.den.toNat=2∨ix.den.toNat=3:=by omega);(rcases hx with hx|hx|hx|hx<;>simp only [hx]))|(refine fit_sl (by rfl) (fun ix h0 h1=> ?_);(have h2:ix.den<1:=h1);(have hx:ix.den.toNat=0:=by omega);(rcases hx with hx<;>simp only [hx]))|(refine fit_sl (by rfl) (fun ix h0 h1=> ?_);(have h2:ix.den<5:=h1);(have hx:ix.den.toNat=0∨ix.den.toNat=1∨ix.den.toNat=2∨ix.den.toNat=3∨ix.den.toNat=4:=by omega);(rcases hx with hx|hx|hx|hx|hx<;>simp only [hx]))))),rfl⟩
theorem ints3c :FSpec Try.prog 27 [(.sl 1 (.sym fun _=>zi ([1]).length) (fun ix=>[.int .i64 (.sym fun _=>([1]).getD ix.den.toNat 0)])),(.sl 1 (.sym fun _=>zi ([1]).length) (fun ix=>[.int .i64 (.sym fun _=>([1]).getD ix.den.toNat 0)]))] [] (fun r _=>r=(.bool (.lit true))):=
  (ints27 1 1 (fun n=>([1]).getD n 0) (fun n=>([1]).getD n 0) (by decide) (by decide)).post fun r bs h=>⟨_,by subst h;(repeat' (first|exact qA|exact qB|refine qC ?_ rfl ?_|refine qD ?_ ?_|exact qE (by rfl)|exact qG (by rfl)|exact qE (by kernel_rfl)|exact qG (by kernel_rfl)|exact Fit.refl _|(exact qP (by rfl))|(first|(refine fit_sl (by rfl) (fun ix h0 h1=> ?_);(have h2:ix.den<2:=h1);(have hx:ix.den.toNat=0∨ix.den.toNat=1:=by omega);(rcases hx with hx|hx<;>simp only [hx]))|(refine fit_sl (by rfl) (fun ix h0 h1=> ?_);(have h2:ix.den<3:=h1);(have hx:ix.den.toNat=0∨ix.den.toNat=1∨ix.den.toNat=2:=by omega);(rcases hx with hx|hx|hx<;>simp only [hx]))|(refine fit_sl (by rfl) (fun ix h0 h1=> ?_);(have h2:ix.den<4:=h1);(have hx:ix.den.toNat=0∨ix.den.toNat=1∨ix.den.toNat=2∨ix.den.toNat=3:=by omega);(rcases hx with hx|hx|hx|hx<;>simp only [hx]))|(refine fit_sl (by rfl) (fun ix h0 h1=> ?_);(have h2:ix.den<1:=h1);(have hx:ix.den.toNat=0:=by omega);(rcases hx with hx<;>simp only [hx]))|(refine fit_sl (by rfl) (fun ix h0 h1=> ?_);(have h2:ix.den<5:=h1);(have hx:ix.den.toNat=0∨ix.den.toNat=1∨ix.den.toNat=2∨ix.den.toNat=3∨ix.den.toNat=4:=by omega);(rcases hx with hx|hx|hx|hx|hx<;>simp only [hx]))))),rfl⟩
theorem spans3a :FSpec Try.prog 53 [(.sl 2 (.sym fun _=>zi ((B3.getD 0 [])).length) (fun ix=>[(.int .i64 (.sym fun _=>(((B3.getD 0 [])).getD ix.den.toNat (0,0)).1)),(.int .i64 (.sym fun _=>(((B3.getD 0 [])).getD ix.den.toNat (0,0)).2))])),(.sl 2 (.sym fun _=>zi ((B3.getD 0 [])).length) (fun ix=>[(.int .i64 (.sym fun _=>(((B3.getD 0 [])).getD ix.den.toNat (0,0)).1)),(.int .i64 (.sym fun _=>(((B3.getD 0 [])).getD ix.den.toNat (0,0)).2))]))] [] (fun r _=>r=(.bool (.lit true))):=
  (spans53 ((B3.getD 0 [])).length ((B3.getD 0 [])).length (fun n=>(((B3.getD 0 [])).getD n (0,0)).1) (fun n=>(((B3.getD 0 [])).getD n (0,0)).2) (fun n=>(((B3.getD 0 [])).getD n (0,0)).1) (fun n=>(((B3.getD 0 [])).getD n (0,0)).2) (by decide) (by decide)).post fun r bs h=>⟨_,by subst h;(repeat' (first|exact qA|exact qB|refine qC ?_ rfl ?_|refine qD ?_ ?_|exact qE (by rfl)|exact qG (by rfl)|exact qE (by kernel_rfl)|exact qG (by kernel_rfl)|exact Fit.refl _|(exact qP (by rfl))|(first|(refine fit_sl (by rfl) (fun ix h0 h1=> ?_);(have h2:ix.den<2:=h1);(have hx:ix.den.toNat=0∨ix.den.toNat=1:=by omega);(rcases hx with hx|hx<;>simp only [hx]))|(refine fit_sl (by rfl) (fun ix h0 h1=> ?_);(have h2:ix.den<3:=h1);(have hx:ix.den.toNat=0∨ix.den.toNat=1∨ix.den.toNat=2:=by omega);(rcases hx with hx|hx|hx<;>simp only [hx]))|(refine fit_sl (by rfl) (fun ix h0 h1=> ?_);(have h2:ix.den<4:=h1);(have hx:ix.den.toNat=0∨ix.den.toNat=1∨ix.den.toNat=2∨ix.den.toNat=3:=by omega);(rcases hx with hx|hx|hx|hx<;>simp only [hx]))|(refine fit_sl (by rfl) (fun ix h0 h1=> ?_);(have h2:ix.den<1:=h1);(have hx:ix.den.toNat=0:=by omega);(rcases hx with hx<;>simp only [hx]))|(refine fit_sl (by rfl) (fun ix h0 h1=> ?_);(have h2:ix.den<5:=h1);(have hx:ix.den.toNat=0∨ix.den.toNat=1∨ix.den.toNat=2∨ix.den.toNat=3∨ix.den.toNat=4:=by omega);(rcases hx with hx|hx|hx|hx|hx<;>simp only [hx]))))),rfl⟩
theorem spans3b :FSpec Try.prog 53 [(.sl 2 (.sym fun _=>zi ((B4.getD 0 [])).length) (fun ix=>[(.int .i64 (.sym fun _=>(((B4.getD 0 [])).getD ix.den.toNat (0,0)).1)),(.int .i64 (.sym fun _=>(((B4.getD 0 [])).getD ix.den.toNat (0,0)).2))])),(.sl 2 (.sym fun _=>zi ((B4.getD 0 [])).length) (fun ix=>[(.int .i64 (.sym fun _=>(((B4.getD 0 [])).getD ix.den.toNat (0,0)).1)),(.int .i64 (.sym fun _=>(((B4.getD 0 [])).getD ix.den.toNat (0,0)).2))]))] [] (fun r _=>r=(.bool (.lit true))):=
  (spans53 ((B4.getD 0 [])).length ((B4.getD 0 [])).length (fun n=>(((B4.getD 0 [])).getD n (0,0)).1) (fun n=>(((B4.getD 0 [])).getD n (0,0)).2) (fun n=>(((B4.getD 0 [])).getD n (0,0)).1) (fun n=>(((B4.getD 0 [])).getD n (0,0)).2) (by decide) (by decide)).post fun r bs h=>⟨_,by subst h;(repeat' (first|exact qA|exact qB|refine qC ?_ rfl ?_|refine qD ?_ ?_|exact qE (by rfl)|exact qG (by rfl)|exact qE (by kernel_rfl)|exact qG (by kernel_rfl)|exact Fit.refl _|(exact qP (by rfl))|(first|(refine fit_sl (by rfl) (fun ix h0 h1=> ?_);(have h2:ix.den<2:=h1);(have hx:ix.den.toNat=0∨ix.den.toNat=1:=by omega);(rcases hx with hx|hx<;>simp only [hx]))|(refine fit_sl (by rfl) (fun ix h0 h1=> ?_);(have h2:ix.den<3:=h1);(have hx:ix.den.toNat=0∨ix.den.toNat=1∨ix.den.toNat=2:=by omega);(rcases hx with hx|hx|hx<;>simp only [hx]))|(refine fit_sl (by rfl) (fun ix h0 h1=> ?_);(have h2:ix.den<4:=h1);(have hx:ix.den.toNat=0∨ix.den.toNat=1∨ix.den.toNat=2∨ix.den.toNat=3:=by omega);(rcases hx with hx|hx|hx|hx<;>simp only [hx]))|(refine fit_sl (by rfl) (fun ix h0 h1=> ?_);(have h2:ix.den<1:=h1);(have hx:ix.den.toNat=0:=by omega);(rcases hx with hx<;>simp only [hx]))|(refine fit_sl (by rfl) (fun ix h0 h1=> ?_);(have h2:ix.den<5:=h1);(have hx:ix.den.toNat=0∨ix.den.toNat=1∨ix.den.toNat=2∨ix.den.toNat=3∨ix.den.toNat=4:=by omega);(rcases hx with hx|hx|hx|hx|hx<;>simp only [hx]))))),rfl⟩
end Go.Proofs.Yteelocfbbhchcaa

namespace Go.Proofs.Yteelocfbbhchcaa
open Go Go.Eng Go.Proofs
set_option maxRecDepth 10000
set_option maxHeartbeats 1000000 in
theorem awake15 :FSpec Try.prog 15 [] [] (fun r _=>r=(.bool (.lit true))):=by
  have ktwo50:=two50
  have kplay3:=play3
  have kmean3:=mean3
  have kbounds3:=bounds3
  have kbounds4:=bounds4
  have kcool3:=cool3
  have kmix3:=mix3
  have kleave3:=leave3
  have kints3a:=ints3a
  have kints3b:=ints3b
  have kints3c:=ints3c
  have kspans3a:=spans3a
  have kspans3b:=spans3b
  have c52:= @between52
  have h33:=eqOk33
  refine FSpec.is fun R hR=>qX (sc:=sc15) tyok mix Try.func15 rfl Try.call15 (by kernel_rfl) (by kernel_rfl) ?_
  generalize Try.prog=P at ktwo50 kplay3 kmean3 kbounds3 kbounds4 kcool3 kmix3 kleave3 kints3a kints3b kints3c kspans3a kspans3b c52 h33⊢
  cbv
  repeat' (first
      |with_reducible refine hold ?_ ?_
      |with_reducible refine And.intro ?_ ?_
      |(with_reducible intro hcd;(try simp only [zA,zB,zC,zD,zE,zF,zG,zH,zI,zJ,zK,zL,zM,zN,zO,zP]at hcd);try cbv)
      | (refine qQ ?_ (c52 _ _) (by(repeat' (first|exact qB|refine qD ?_ ?_|exact qE (by rfl)|exact qG (by rfl)|exact Fit.refl _|exact qA|refine qC ?_ rfl ?_)))
         try cbv)
      | (refine Exists.intro (α:=List Nat) [2,3] ?_
         cbv
         fail_if_success (show False))
      | (refine Exists.intro (α:=List Nat) [28] ?_
         cbv
         fail_if_success (show False))
      | (refine Exists.intro (α:=List Nat) [59] ?_
         cbv
         fail_if_success (show False))
      | (refine qQ ?_ (ktwo50) ?hfit
         case hfit=>((repeat' (first|exact qA|exact qB|refine qC ?_ rfl ?_|refine qD ?_ ?_|exact qE (by rfl)|exact qG (by rfl)|exact Fit.refl _|(exact qP (by rfl))|(first|(refine fit_sl (by rfl) (fun ix h0 h1=> ?_);(have h2:ix.den<2:=h1);(have hx:ix.den.toNat=0∨ix.den.toNat=1:=by omega);(rcases hx with hx|hx<;>simp only [hx]))|(refine fit_sl (by rfl) (fun ix h0 h1=> ?_);(have h2:ix.den<3:=h1);(have hx:ix.den.toNat=0∨ix.den.toNat=1∨ix.den.toNat=2:=by omega);(rcases hx with hx|hx|hx<;>simp only [hx]))|(refine fit_sl (by rfl) (fun ix h0 h1=> ?_);(have h2:ix.den<4:=h1);(have hx:ix.den.toNat=0∨ix.den.toNat=1∨ix.den.toNat=2∨ix.den.toNat=3:=by omega);(rcases hx with hx|hx|hx|hx<;>simp only [hx]))|(refine fit_sl (by rfl) (fun ix h0 h1=> ?_);(have h2:ix.den<1:=h1);(have hx:ix.den.toNat=0:=by omega);(rcases hx with hx<;>simp only [hx]))|(refine fit_sl (by rfl) (fun ix h0 h1=> ?_);(have h2:ix.den<5:=h1);(have hx:ix.den.toNat=0∨ix.den.toNat=1∨ix.den.toNat=2∨ix.den.toNat=3∨ix.den.toNat=4:=by omega);(rcases hx with hx|hx|hx|hx|hx<;>simp only [hx])))));done)
         try cbv)
      | (refine qQ ?_ (kplay3) ?hfit
         case hfit=>((repeat' (first|exact qA|exact qB|refine qC ?_ rfl ?_|refine qD ?_ ?_|exact qE (by rfl)|exact qG (by rfl)|exact Fit.refl _|(exact qP (by rfl))|(first|(refine fit_sl (by rfl) (fun ix h0 h1=> ?_);(have h2:ix.den<2:=h1);(have hx:ix.den.toNat=0∨ix.den.toNat=1:=by omega);(rcases hx with hx|hx<;>simp only [hx]))|(refine fit_sl (by rfl) (fun ix h0 h1=> ?_);(have h2:ix.den<3:=h1);(have hx:ix.den.toNat=0∨ix.den.toNat=1∨ix.den.toNat=2:=by omega);(rcases hx with hx|hx|hx<;>simp only [hx]))|(refine fit_sl (by rfl) (fun ix h0 h1=> ?_);(have h2:ix.den<4:=h1);(have hx:ix.den.toNat=0∨ix.den.toNat=1∨ix.den.toNat=2∨ix.den.toNat=3:=by omega);(rcases hx with hx|hx|hx|hx<;>simp only [hx]))|(refine fit_sl (by rfl) (fun ix h0 h1=> ?_);(have h2:ix.den<1:=h1);(have hx:ix.den.toNat=0:=by omega);(rcases hx with hx<;>simp only [hx]))|(refine fit_sl (by rfl) (fun ix h0 h1=> ?_);(have h2:ix.den<5:=h1);(have hx:ix.den.toNat=0∨ix.den.toNat=1∨ix.den.toNat=2∨ix.den.toNat=3∨ix.den.toNat=4:=by omega);(rcases hx with hx|hx|hx|hx|hx<;>simp only [hx])))));done)
         try cbv)
      | (refine qQ ?_ (kmean3) ?hfit
         case hfit=>((repeat' (first|exact qA|exact qB|refine qC ?_ rfl ?_|refine qD ?_ ?_|exact qE (by rfl)|exact qG (by rfl)|exact Fit.refl _|(exact qP (by rfl))|(first|(refine fit_sl (by rfl) (fun ix h0 h1=> ?_);(have h2:ix.den<2:=h1);(have hx:ix.den.toNat=0∨ix.den.toNat=1:=by omega);(rcases hx with hx|hx<;>simp only [hx]))|(refine fit_sl (by rfl) (fun ix h0 h1=> ?_);(have h2:ix.den<3:=h1);(have hx:ix.den.toNat=0∨ix.den.toNat=1∨ix.den.toNat=2:=by omega);(rcases hx with hx|hx|hx<;>simp only [hx]))|(refine fit_sl (by rfl) (fun ix h0 h1=> ?_);(have h2:ix.den<4:=h1);(have hx:ix.den.toNat=0∨ix.den.toNat=1∨ix.den.toNat=2∨ix.den.toNat=3:=by omega);(rcases hx with hx|hx|hx|hx<;>simp only [hx]))|(refine fit_sl (by rfl) (fun ix h0 h1=> ?_);(have h2:ix.den<1:=h1);(have hx:ix.den.toNat=0:=by omega);(rcases hx with hx<;>simp only [hx]))|(refine fit_sl (by rfl) (fun ix h0 h1=> ?_);(have h2:ix.den<5:=h1);(have hx:ix.den.toNat=0∨ix.den.toNat=1∨ix.den.toNat=2∨ix.den.toNat=3∨ix.den.toNat=4:=by omega);(rcases hx with hx|hx|hx|hx|hx<;>simp only [hx])))));done)
         try cbv)
      | (refine qQ ?_ (kbounds3) ?hfit
         case hfit=>((repeat' (first|exact qA|exact qB|refine qC ?_ rfl ?_|refine qD ?_ ?_|exact qE (by rfl)|exact qG (by rfl)|exact Fit.refl _|(exact qP (by rfl))|(first|(refine fit_sl (by rfl) (fun ix h0 h1=> ?_);(have h2:ix.den<2:=h1);(have hx:ix.den.toNat=0∨ix.den.toNat=1:=by omega);(rcases hx with hx|hx<;>simp only [hx]))|(refine fit_sl (by rfl) (fun ix h0 h1=> ?_);(have h2:ix.den<3:=h1);(have hx:ix.den.toNat=0∨ix.den.toNat=1∨ix.den.toNat=2:=by omega);(rcases hx with hx|hx|hx<;>simp only [hx]))|(refine fit_sl (by rfl) (fun ix h0 h1=> ?_);(have h2:ix.den<4:=h1);(have hx:ix.den.toNat=0∨ix.den.toNat=1∨ix.den.toNat=2∨ix.den.toNat=3:=by omega);(rcases hx with hx|hx|hx|hx<;>simp only [hx]))|(refine fit_sl (by rfl) (fun ix h0 h1=> ?_);(have h2:ix.den<1:=h1);(have hx:ix.den.toNat=0:=by omega);(rcases hx with hx<;>simp only [hx]))|(refine fit_sl (by rfl) (fun ix h0 h1=> ?_);(have h2:ix.den<5:=h1);(have hx:ix.den.toNat=0∨ix.den.toNat=1∨ix.den.toNat=2∨ix.den.toNat=3∨ix.den.toNat=4:=by omega);(rcases hx with hx|hx|hx|hx|hx<;>simp only [hx])))));done)
         try cbv)
      | (refine qQ ?_ (kbounds4) ?hfit
         case hfit=>((repeat' (first|exact qA|exact qB|refine qC ?_ rfl ?_|refine qD ?_ ?_|exact qE (by rfl)|exact qG (by rfl)|exact Fit.refl _|(exact qP (by rfl))|(first|(refine fit_sl (by rfl) (fun ix h0 h1=> ?_);(have h2:ix.den<2:=h1);(have hx:ix.den.toNat=0∨ix.den.toNat=1:=by omega);(rcases hx with hx|hx<;>simp only [hx]))|(refine fit_sl (by rfl) (fun ix h0 h1=> ?_);(have h2:ix.den<3:=h1);(have hx:ix.den.toNat=0∨ix.den.toNat=1∨ix.den.toNat=2:=by omega);(rcases hx with hx|hx|hx<;>simp only [hx]))|(refine fit_sl (by rfl) (fun ix h0 h1=> ?_);(have h2:ix.den<4:=h1);(have hx:ix.den.toNat=0∨ix.den.toNat=1∨ix.den.toNat=2∨ix.den.toNat=3:=by omega);(rcases hx with hx|hx|hx|hx<;>simp only [hx]))|(refine fit_sl (by rfl) (fun ix h0 h1=> ?_);(have h2:ix.den<1:=h1);(have hx:ix.den.toNat=0:=by omega);(rcases hx with hx<;>simp only [hx]))|(refine fit_sl (by rfl) (fun ix h0 h1=> ?_);(have h2:ix.den<5:=h1);(have hx:ix.den.toNat=0∨ix.den.toNat=1∨ix.den.toNat=2∨ix.den.toNat=3∨ix.den.toNat=4:=by omega);(rcases hx with hx|hx|hx|hx|hx<;>simp only [hx])))));done)
         try cbv)
      | (refine qQ ?_ (kcool3) ?hfit
         case hfit=>((repeat' (first|exact qA|exact qB|refine qC ?_ rfl ?_|refine qD ?_ ?_|exact qE (by rfl)|exact qG (by rfl)|exact Fit.refl _|(exact qP (by rfl))|(first|(refine fit_sl (by rfl) (fun ix h0 h1=> ?_);(have h2:ix.den<2:=h1);(have hx:ix.den.toNat=0∨ix.den.toNat=1:=by omega);(rcases hx with hx|hx<;>simp only [hx]))|(refine fit_sl (by rfl) (fun ix h0 h1=> ?_);(have h2:ix.den<3:=h1);(have hx:ix.den.toNat=0∨ix.den.toNat=1∨ix.den.toNat=2:=by omega);(rcases hx with hx|hx|hx<;>simp only [hx]))|(refine fit_sl (by rfl) (fun ix h0 h1=> ?_);(have h2:ix.den<4:=h1);(have hx:ix.den.toNat=0∨ix.den.toNat=1∨ix.den.toNat=2∨ix.den.toNat=3:=by omega);(rcases hx with hx|hx|hx|hx<;>simp only [hx]))|(refine fit_sl (by rfl) (fun ix h0 h1=> ?_);(have h2:ix.den<1:=h1);(have hx:ix.den.toNat=0:=by omega);(rcases hx with hx<;>simp only [hx]))|(refine fit_sl (by rfl) (fun ix h0 h1=> ?_);(have h2:ix.den<5:=h1);(have hx:ix.den.toNat=0∨ix.den.toNat=1∨ix.den.toNat=2∨ix.den.toNat=3∨ix.den.toNat=4:=by omega);(rcases hx with hx|hx|hx|hx|hx<;>simp only [hx])))));done)
         try cbv)
      | (refine qQ ?_ (kleave3) ?hfit
         case hfit=>((repeat' (first|exact qA|exact qB|refine qC ?_ rfl ?_|refine qD ?_ ?_|exact qE (by rfl)|exact qG (by rfl)|exact Fit.refl _|(exact qP (by rfl))|(first|(refine fit_sl (by rfl) (fun ix h0 h1=> ?_);(have h2:ix.den<2:=h1);(have hx:ix.den.toNat=0∨ix.den.toNat=1:=by omega);(rcases hx with hx|hx<;>simp only [hx]))|(refine fit_sl (by rfl) (fun ix h0 h1=> ?_);(have h2:ix.den<3:=h1);(have hx:ix.den.toNat=0∨ix.den.toNat=1∨ix.den.toNat=2:=by omega);(rcases hx with hx|hx|hx<;>simp only [hx]))|(refine fit_sl (by rfl) (fun ix h0 h1=> ?_);(have h2:ix.den<4:=h1);(have hx:ix.den.toNat=0∨ix.den.toNat=1∨ix.den.toNat=2∨ix.den.toNat=3:=by omega);(rcases hx with hx|hx|hx|hx<;>simp only [hx]))|(refine fit_sl (by rfl) (fun ix h0 h1=> ?_);(have h2:ix.den<1:=h1);(have hx:ix.den.toNat=0:=by omega);(rcases hx with hx<;>simp only [hx]))|(refine fit_sl (by rfl) (fun ix h0 h1=> ?_);(have h2:ix.den<5:=h1);(have hx:ix.den.toNat=0∨ix.den.toNat=1∨ix.den.toNat=2∨ix.den.toNat=3∨ix.den.toNat=4:=by omega);(rcases hx with hx|hx|hx|hx|hx<;>simp only [hx])))));done)
         try cbv)
      | (refine qQ ?_ (kints3a) ?hfit
         case hfit=>((repeat' (first|exact qA|exact qB|refine qC ?_ rfl ?_|refine qD ?_ ?_|exact qE (by rfl)|exact qG (by rfl)|exact Fit.refl _|(exact qP (by rfl))|(first|(refine fit_sl (by rfl) (fun ix h0 h1=> ?_);(have h2:ix.den<2:=h1);(have hx:ix.den.toNat=0∨ix.den.toNat=1:=by omega);(rcases hx with hx|hx<;>simp only [hx]))|(refine fit_sl (by rfl) (fun ix h0 h1=> ?_);(have h2:ix.den<3:=h1);(have hx:ix.den.toNat=0∨ix.den.toNat=1∨ix.den.toNat=2:=by omega);(rcases hx with hx|hx|hx<;>simp only [hx]))|(refine fit_sl (by rfl) (fun ix h0 h1=> ?_);(have h2:ix.den<4:=h1);(have hx:ix.den.toNat=0∨ix.den.toNat=1∨ix.den.toNat=2∨ix.den.toNat=3:=by omega);(rcases hx with hx|hx|hx|hx<;>simp only [hx]))|(refine fit_sl (by rfl) (fun ix h0 h1=> ?_);(have h2:ix.den<1:=h1);(have hx:ix.den.toNat=0:=by omega);(rcases hx with hx<;>simp only [hx]))|(refine fit_sl (by rfl) (fun ix h0 h1=> ?_);(have h2:ix.den<5:=h1);(have hx:ix.den.toNat=0∨ix.den.toNat=1∨ix.den.toNat=2∨ix.den.toNat=3∨ix.den.toNat=4:=by omega);(rcases hx with hx|hx|hx|hx|hx<;>simp only [hx])))));done)
         try cbv)
      | (refine qQ ?_ (kints3b) ?hfit
         case hfit=>((repeat' (first|exact qA|exact qB|refine qC ?_ rfl ?_|refine qD ?_ ?_|exact qE (by rfl)|exact qG (by rfl)|exact Fit.refl _|(exact qP (by rfl))|(first|(refine fit_sl (by rfl) (fun ix h0 h1=> ?_);(have h2:ix.den<2:=h1);(have hx:ix.den.toNat=0∨ix.den.toNat=1:=by omega);(rcases hx with hx|hx<;>simp only [hx]))|(refine fit_sl (by rfl) (fun ix h0 h1=> ?_);(have h2:ix.den<3:=h1);(have hx:ix.den.toNat=0∨ix.den.toNat=1∨ix.den.toNat=2:=by omega);(rcases hx with hx|hx|hx<;>simp only [hx]))|(refine fit_sl (by rfl) (fun ix h0 h1=> ?_);(have h2:ix.den<4:=h1);(have hx:ix.den.toNat=0∨ix.den.toNat=1∨ix.den.toNat=2∨ix.den.toNat=3:=by omega);(rcases hx with hx|hx|hx|hx<;>simp only [hx]))|(refine fit_sl (by rfl) (fun ix h0 h1=> ?_);(have h2:ix.den<1:=h1);(have hx:ix.den.toNat=0:=by omega);(rcases hx with hx<;>simp only [hx]))|(refine fit_sl (by rfl) (fun ix h0 h1=> ?_);(have h2:ix.den<5:=h1);(have hx:ix.den.toNat=0∨ix.den.toNat=1∨ix.den.toNat=2∨ix.den.toNat=3∨ix.den.toNat=4:=by omega);(rcases hx with hx|hx|hx|hx|hx<;>simp only [hx])))));done)
         try cbv)
      | (refine qQ ?_ (kspans3a) ?hfit
         case hfit=>((repeat' (first|exact qA|exact qB|refine qC ?_ rfl ?_|refine qD ?_ ?_|exact qE (by rfl)|exact qG (by rfl)|exact Fit.refl _|(exact qP (by rfl))|(first|(refine fit_sl (by rfl) (fun ix h0 h1=> ?_);(have h2:ix.den<2:=h1);(have hx:ix.den.toNat=0∨ix.den.toNat=1:=by omega);(rcases hx with hx|hx<;>simp only [hx]))|(refine fit_sl (by rfl) (fun ix h0 h1=> ?_);(have h2:ix.den<3:=h1);(have hx:ix.den.toNat=0∨ix.den.toNat=1∨ix.den.toNat=2:=by omega);(rcases hx with hx|hx|hx<;>simp only [hx]))|(refine fit_sl (by rfl) (fun ix h0 h1=> ?_);(have h2:ix.den<4:=h1);(have hx:ix.den.toNat=0∨ix.den.toNat=1∨ix.den.toNat=2∨ix.den.toNat=3:=by omega);(rcases hx with hx|hx|hx|hx<;>simp only [hx]))|(refine fit_sl (by rfl) (fun ix h0 h1=> ?_);(have h2:ix.den<1:=h1);(have hx:ix.den.toNat=0:=by omega);(rcases hx with hx<;>simp only [hx]))|(refine fit_sl (by rfl) (fun ix h0 h1=> ?_);(have h2:ix.den<5:=h1);(have hx:ix.den.toNat=0∨ix.den.toNat=1∨ix.den.toNat=2∨ix.den.toNat=3∨ix.den.toNat=4:=by omega);(rcases hx with hx|hx|hx|hx|hx<;>simp only [hx])))));done)
         try cbv)
      | (refine qQ ?_ (kspans3b) ?hfit
         case hfit=>((repeat' (first|exact qA|exact qB|refine qC ?_ rfl ?_|refine qD ?_ ?_|exact qE (by rfl)|exact qG (by rfl)|exact Fit.refl _|(exact qP (by rfl))|(first|(refine fit_sl (by rfl) (fun ix h0 h1=> ?_);(have h2:ix.den<2:=h1);(have hx:ix.den.toNat=0∨ix.den.toNat=1:=by omega);(rcases hx with hx|hx<;>simp only [hx]))|(refine fit_sl (by rfl) (fun ix h0 h1=> ?_);(have h2:ix.den<3:=h1);(have hx:ix.den.toNat=0∨ix.den.toNat=1∨ix.den.toNat=2:=by omega);(rcases hx with hx|hx|hx<;>simp only [hx]))|(refine fit_sl (by rfl) (fun ix h0 h1=> ?_);(have h2:ix.den<4:=h1);(have hx:ix.den.toNat=0∨ix.den.toNat=1∨ix.den.toNat=2∨ix.den.toNat=3:=by omega);(rcases hx with hx|hx|hx|hx<;>simp only [hx]))|(refine fit_sl (by rfl) (fun ix h0 h1=> ?_);(have h2:ix.den<1:=h1);(have hx:ix.den.toNat=0:=by omega);(rcases hx with hx<;>simp only [hx]))|(refine fit_sl (by rfl) (fun ix h0 h1=> ?_);(have h2:ix.den<5:=h1);(have hx:ix.den.toNat=0∨ix.den.toNat=1∨ix.den.toNat=2∨ix.den.toNat=3∨ix.den.toNat=4:=by omega);(rcases hx with hx|hx|hx|hx|hx<;>simp only [hx])))));done)
         try cbv)
      | (refine⟨none,?_⟩
         refine qS ?_ (kmix3) rfl ?hfit
         case hfit=>(cbv;(repeat' (first|exact qA|exact qB|refine qC ?_ rfl ?_|refine qD ?_ ?_|exact qE (by rfl)|exact qG (by rfl)|exact Fit.refl _|(exact qP (by rfl))|(first|(refine fit_sl (by rfl) (fun ix h0 h1=> ?_);(have h2:ix.den<2:=h1);(have hx:ix.den.toNat=0∨ix.den.toNat=1:=by omega);(rcases hx with hx|hx<;>simp only [hx]))|(refine fit_sl (by rfl) (fun ix h0 h1=> ?_);(have h2:ix.den<3:=h1);(have hx:ix.den.toNat=0∨ix.den.toNat=1∨ix.den.toNat=2:=by omega);(rcases hx with hx|hx|hx<;>simp only [hx]))|(refine fit_sl (by rfl) (fun ix h0 h1=> ?_);(have h2:ix.den<4:=h1);(have hx:ix.den.toNat=0∨ix.den.toNat=1∨ix.den.toNat=2∨ix.den.toNat=3:=by omega);(rcases hx with hx|hx|hx|hx<;>simp only [hx]))|(refine fit_sl (by rfl) (fun ix h0 h1=> ?_);(have h2:ix.den<1:=h1);(have hx:ix.den.toNat=0:=by omega);(rcases hx with hx<;>simp only [hx]))|(refine fit_sl (by rfl) (fun ix h0 h1=> ?_);(have h2:ix.den<5:=h1);(have hx:ix.den.toNat=0∨ix.den.toNat=1∨ix.den.toNat=2∨ix.den.toNat=3∨ix.den.toNat=4:=by omega);(rcases hx with hx|hx|hx|hx|hx<;>simp only [hx])))));done)
         try cbv)
      | (refine⟨none,?_⟩
         refine qS ?_ (kints3c) rfl ?hfit
         case hfit=>(cbv;(repeat' (first|exact qA|exact qB|refine qC ?_ rfl ?_|refine qD ?_ ?_|exact qE (by rfl)|exact qG (by rfl)|exact Fit.refl _|(exact qP (by rfl))|(first|(refine fit_sl (by rfl) (fun ix h0 h1=> ?_);(have h2:ix.den<2:=h1);(have hx:ix.den.toNat=0∨ix.den.toNat=1:=by omega);(rcases hx with hx|hx<;>simp only [hx]))|(refine fit_sl (by rfl) (fun ix h0 h1=> ?_);(have h2:ix.den<3:=h1);(have hx:ix.den.toNat=0∨ix.den.toNat=1∨ix.den.toNat=2:=by omega);(rcases hx with hx|hx|hx<;>simp only [hx]))|(refine fit_sl (by rfl) (fun ix h0 h1=> ?_);(have h2:ix.den<4:=h1);(have hx:ix.den.toNat=0∨ix.den.toNat=1∨ix.den.toNat=2∨ix.den.toNat=3:=by omega);(rcases hx with hx|hx|hx|hx<;>simp only [hx]))|(refine fit_sl (by rfl) (fun ix h0 h1=> ?_);(have h2:ix.den<1:=h1);(have hx:ix.den.toNat=0:=by omega);(rcases hx with hx<;>simp only [hx]))|(refine fit_sl (by rfl) (fun ix h0 h1=> ?_);(have h2:ix.den<5:=h1);(have hx:ix.den.toNat=0∨ix.den.toNat=1∨ix.den.toNat=2∨ix.den.toNat=3∨ix.den.toNat=4:=by omega);(rcases hx with hx|hx|hx|hx|hx<;>simp only [hx])))));done)
         try cbv)
      |fail)
  all_goals first
    |trivial
    |(subst hR;(repeat' (first|exact qA|exact qB|refine qC ?_ rfl ?_|refine qD ?_ ?_|exact qE (by rfl)|exact qG (by rfl)|exact Fit.refl _|exact qH _|(refine qE ?_;(try simp only [qW]at *);simp only [zQ,zA,zB,zC,zD,zE,zF,zG,zH,zI,zJ,zK,zL,zM,zN,zO,zP,zR,zS]at *;omega)));done)
    |skip
end Go.Proofs.Yteelocfbbhchcaa

namespace Go.Proofs.Yteelocfbbhchcaa
open Go Go.Eng Go.Proofs
set_option maxRecDepth 10000
structure FitV (c:Clr)(l:List LookT)(o:List Int)(rm v st rt:Int):Prop where
  s0:(vatA c v).sl≤st
  s1:st≤(vatA c v).sh
  r0:(vatA c v).rl≤rt
  r1:rt≤(vatA c v).rh
  fit:fitW c l v rm o st rt=true
end Go.Proofs.Yteelocfbbhchcaa

namespace Go.Proofs.Yteelocfbbhchcaa
open Go Go.Eng Go.Proofs
set_option maxRecDepth 10000
structure Mono (c:Clr)(l:List LookT)(o:List Int)(x:Clr)(l':List LookT)(o':List Int):Prop where
  n:x.vs.length=c.vs.length
  hr:x.hr=c.hr
  r0:x.rl≤c.rl
  r1:c.rh≤x.rh
  fit:∀(rm:Int) (v:Nat) (st rt:Int),v<c.vs.length→FitV c l o rm v st rt→FitV x l' o' rm v st rt
end Go.Proofs.Yteelocfbbhchcaa

namespace Go.Proofs.Yteelocfbbhchcaa
open Go Go.Eng Go.Proofs
set_option maxRecDepth 10000
structure Wrm (rm st rt rm' st' rt':Int):Prop where
  m0:0≤rm
  m1:rm≤rm'
  m2:rm'≤200
  s0:0≤st
  s1:st≤st'
  s2:st'≤200
  r0:0≤rt
  r1:rt≤rt'
  r2:rt'≤100
end Go.Proofs.Yteelocfbbhchcaa
