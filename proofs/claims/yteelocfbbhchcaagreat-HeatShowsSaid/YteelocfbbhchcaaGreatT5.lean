/- Contracts of the functions that the laws come to. No condition. -/
import Derived.Test.YteelocfbbhchcaaGreatT4
set_option linter.unusedVariables false
set_option linter.unusedSimpArgs false
set_option linter.deprecated false

namespace Go.Proofs.YteelocfbbhchcaaGreat
open Go Go.Eng Go.Proofs
set_option maxRecDepth 10000
theorem hold_rowupd {n ix:Int} {o2:Nat} {e e':IX→List SV} {x:List SV}(h0:ix<n)(h1:∀jx:IX,0≤jx.den→jx.den<n→jx.den≠ix→Fit (.agg (e jx)) (.agg (e' jx)))
    (h2:∀jx:IX,0≤jx.den→jx.den<n→jx.den=ix→∃l,putC (e jx) o2 x=some l∧Fit (.agg l) (.agg (e' jx))):Hold (ix<n∧RowUpd n e ix o2 x e'):=
  ⟨h0,fun jx a b c=>(h1 jx a b c).le,fun jx a b c=>by obtain⟨l,p,q⟩:=h2 jx a b c;exact⟨l,p,q.le⟩⟩
theorem wk (w:Nat→Int)(k:Nat):w ((zi k*((1:Nat):Int)+((0:Nat):Int)).toNat)=w k:=by
  rw [show(zi k*((1:Nat):Int)+((0:Nat):Int)).toNat=k by simp only [zi_den];omega]
theorem upd_lo {F G:Nat→Int} {k n:Nat} {x:Int}(hm:min (F k) x=G k)(h:n=k):min (upF k G F k) x=upF (k+1) G F n:=by rw [upF_at,hm,←upF_new h,h]
theorem upd_hi {F G:Nat→Int} {k n:Nat} {x:Int}(hm:max (F k) x=G k)(h:n=k):max (upF k G F k) x=upF (k+1) G F n:=by rw [upF_at,hm,←upF_new h,h]
theorem waysC_ok {c:Clr} {l:List LookT} {v rm:Int} {o:List Int}(hc:COk c)(hv0:0≤v)(hv1:v<c.vs.length)(h0:0≤rm)(h1:rm≤200) {i:Nat}(hi:i<(waysC c l v rm o).length):WayOk rm ((waysC c l v rm o).getD i (0,0)).1 ((waysC c l v rm o).getD i (0,0)).2:=by
  have vok:=hc.ok.v v.toNat (by omega)
  unfold vatOk at vok
  have hm:(waysC c l v rm o).getD i (0,0)∈waysC c l v rm o:=by
    rw [List.getD_eq_getElem?_getD,List.getElem?_eq_getElem hi];exact List.getElem_mem hi
  have:=mem_ways (show(vatA c v).sl≤(vatA c v).sh from vok.2.1) hm
  unfold vatA at this
  exact⟨h0,h1,by omega,by omega,by omega,by omega⟩
set_option maxHeartbeats 4000000 in
theorem bounds72 (c:Clr)(l:List LookT)(v:Int)(rs:List Int)(hc:COk c)(hl:LooksIn c l)(hv0:0≤v)(hv1:v<c.vs.length)(hn:rs.length≤1000)(hrs:∀k,k<rs.length→0≤rs.getD k 0∧rs.getD k 0≤200):FSpec Tryz.prog 55 [(wpS c l),(.sl 1 (.sym fun _=>zi (rs).length) (fun ix=>[.int .i64 (.sym fun _=>(rs).getD ix.den.toNat 0)])),(.int .i64 (.sym fun _=>v))] [] (fun r _=>r=(.sl 2 (.sym fun _=>zi (bdN c (wysL c l v rs))) (fun ix=>[(.int .i64 (.sym fun _=>loW c (wysL c l v rs) ix.den.toNat)),(.int .i64 (.sym fun _=>hiW c (wysL c l v rs) ix.den.toNat))]))):=by
  have c101:=fun rm=>ways101 c l rm v []
  have c113:=fun rm h0 h1=>of113 c l rm v [] hc hl hv0 hv1 h0 h1 (by simp)
  have c60:=fun (rm st rt:Int) (h:WayOk rm st rt)=>run60 c l rm st rt h hc.ok.h1 hc.ok.h8
  have c102:=fun (a b n m:Int) (h:m=n)=>(show FSpec Tryz.prog 80 [(.agg [(.int .i64 (.sym fun _=>a)),(.int .i64 (.sym fun _=>b))]),(.int .i64 (.sym fun _=>m))] [] (fun r _=>r=(.agg [(.int .i64 (.sym fun _=>min a n)),(.int .i64 (.sym fun _=>max b n))]))from h▸wider102 a b m)
  refine FSpec.is fun R hR=>qX (sc:=sc55) tyok mix Tryz.func55 rfl Tryz.call55 (by kernel_rfl) (by kernel_rfl) ?_
  generalize Tryz.prog=P at c101 c113 c60 c102⊢
  cbv
  have h1:=hc.ok.h1
  have h8:=hc.ok.h8
  obtain⟨W,hW⟩:∃W,W=wysN c l v rs:=⟨_,rfl⟩
  have hW0:W 0=[]:=by rw [hW];rfl
  have hWs:∀r,W (r+1)=W r++wysR c l v (rs.getD r 0):=fun r=>by rw [hW];rfl
  have hWL:wysL c l v rs=W rs.length:=by rw [hW];rfl
  rw [hWL]at hR
  clear hW hWL
  repeat' (first
      |fail)
  all_goals first
    |skip
  refine⟨none,[],{p:Nat×Bool // p.1≤rs.length∧p.2=(W p.1).isEmpty},fun x=>match x.1.2 with|true=>⟨[(1,(.sl 1 (.sym fun _=>zi (rs).length) (fun ix=>[.int .i64 (.sym fun _=>(rs).getD ix.den.toNat 0)]))),(2,(.int .i64 (.sym fun _=>v))),(3,.own 0 0),(7,.own 2 0),(15,(.sl 1 (.sym fun _=>zi (rs).length) (fun ix=>[.int .i64 (.sym fun _=>(rs).getD ix.den.toNat 0)]))),(16,(.int .i64 (.sym fun _=>zi rs.length))),(17,(.int .i64 (.sym fun _=>zi x.1.1)))],[(0,.cells [(wpS c l)] 87),(2,.cells [.val (Value.slice none 0 0)] 86)],60⟩|false=>⟨[(1,(.sl 1 (.sym fun _=>zi (rs).length) (fun ix=>[.int .i64 (.sym fun _=>(rs).getD ix.den.toNat 0)]))),(2,(.int .i64 (.sym fun _=>v))),(3,.own 0 0),(7,.own 2 0),(15,(.sl 1 (.sym fun _=>zi (rs).length) (fun ix=>[.int .i64 (.sym fun _=>(rs).getD ix.den.toNat 0)]))),(16,(.int .i64 (.sym fun _=>zi rs.length))),(17,(.int .i64 (.sym fun _=>zi x.1.1)))],[(0,.cells [(wpS c l)] 87),(2,.cells [.row 78] 86),(78,.row 40 2 (.sym fun _=>zi (c.hr.toNat+1)) (fun ix=>[(.int .i64 (.sym fun _=>loW c (W x.1.1) ix.den.toNat)),(.int .i64 (.sym fun _=>hiW c (W x.1.1) ix.den.toNat))]))],200⟩,fun x=>rs.length-x.1.1,?_,?_⟩
  · refine⟨⟨(0,true),Nat.zero_le _,by rw [hW0];rfl⟩,?_⟩
    cbv
    repeat' (first
      |with_reducible refine hold ?_ ?_
      |with_reducible refine And.intro ?_ ?_)
    all_goals first
      |trivial
      |exact qN (qE (by rfl))
      |exact qN (Fit.refl _)
      |exact qM (qL _)
      |skip
  · rintro ⟨⟨r, b⟩,hr,hb⟩
    cases b
    · obtain ⟨rm, hrm⟩:∃r',r'=rs.getD r 0:=⟨_,rfl⟩
      obtain⟨L,hL⟩:∃L,L=(waysC c l v rm []).length:=⟨_,rfl⟩
      obtain⟨el,hel⟩:∃el:Nat→List SV,el=(fun i:Nat=>[(.agg [(.int .i64 (.sym fun _=>rm)),(.int .i64 (.sym fun _=>((waysC c l v rm []).getD i (0,0)).1)),(.int .i64 (.sym fun _=>((waysC c l v rm []).getD i (0,0)).2))])]):=⟨_,rfl⟩
      have elen:∀i,(el i).length=1∧SV.idsL (el i)=[]:=fun i=>by rw [hel];exact⟨rfl,rfl⟩
      have ei:∀i,el i=[(.agg [(.int .i64 (.sym fun _=>rm)),(.int .i64 (.sym fun _=>((waysC c l v rm []).getD i (0,0)).1)),(.int .i64 (.sym fun _=>((waysC c l v rm []).getD i (0,0)).2))])]:=fun i=>by rw [hel]
      obtain⟨VV,hVV⟩:∃VV:Nat→List (Int×Int×Int),VV=fun i=>W r++(wysR c l v rm).take i:=⟨_,rfl⟩
      have hVV0:VV 0=W r:=by rw [hVV];simp
      have hVVL:VV L=W (r+1):=by rw [hVV,hWs,←hrm,hL];show W r++_=_;rw [wys_all rfl]
      have hVVs:∀i,i<L→VV (i+1)=VV i++[(rm,((waysC c l v rm []).getD i (0,0)).1,((waysC c l v rm []).getD i (0,0)).2)]:=fun i hi=>by rw [hVV];show W r++_=W r++_++_;rw [wys_take (by rw [←hL];exact hi),List.append_assoc]
      have hVVe:∀i,i<L→(VV (i+1)).isEmpty=false:=fun i hi=>by rw [hVVs i hi];cases VV i<;>rfl
      have hVVf:∀i,i<L→(VV i).isEmpty=true→∀n,loW c (VV (i+1)) n=atW c.hr rm ((waysC c l v rm []).getD i (0,0)).1 ((waysC c l v rm []).getD i (0,0)).2 n∧hiW c (VV (i+1)) n=atW c.hr rm ((waysC c l v rm []).getD i (0,0)).1 ((waysC c l v rm []).getD i (0,0)).2 n:=fun i hi he n=>by rw [hVVs i hi];exact loW_first he _ n
      have hVVn:∀i,i<L→(VV i).isEmpty=false→∀n,loW c (VV (i+1)) n=min (loW c (VV i) n) (atW c.hr rm ((waysC c l v rm []).getD i (0,0)).1 ((waysC c l v rm []).getD i (0,0)).2 n)∧hiW c (VV (i+1)) n=max (hiW c (VV i) n) (atW c.hr rm ((waysC c l v rm []).getD i (0,0)).1 ((waysC c l v rm []).getD i (0,0)).2 n):=fun i hi he n=>by rw [hVVs i hi];exact loW_next he _ n
      clear hVV hVVs hel
      cbv
      repeat' (first
          |with_reducible refine hold ?_ ?_
          |with_reducible refine And.intro ?_ ?_
          |(with_reducible intro hcd;(try simp only [zA,zB,zC,zD,zE,zF,zG,zH,zI,zJ,zK,zL,zM,zN,zO,zP]at hcd);try cbv)
          | (refine qQ ?_ (c101 rm) ?hfit
             case hfit=>((refine qD (Fit.refl _) (qD (qE (by first|rfl|(rw [hrm];rfl))) (qD (Fit.refl _) (qD (qP rfl) qB))));done)
             try cbv)
          |fail)
      all_goals first
        |((try simp only [qW]at *);(try simp only [zQ,zA,zB,zC,zD,zE,zF,zG,zH,zI,zJ,zK,zL,zM,zN,zO,zP,zR,zS]at *);first|(refine qO ?_;omega)|(simp only [Hold];omega))
        |((have hre:r=rs.length:=(by((try simp only [qW]at *);(try simp only [zQ,zA,zB,zC,zD,zE,zF,zG,zH,zI,zJ,zK,zL,zM,zN,zO,zP,zR,zS]at *);omega)));subst hR;exact fit_sl (congrArg zi (bdN_one (by rw [←hre];exact hb.symm)).symm) (fun ix _ _=>by subst hre;exact Fit.refl _))
        |skip
      have hrr:=hrs r (by((try simp only [qW]at *);(try simp only [zQ,zA,zB,zC,zD,zE,zF,zG,zH,zI,zJ,zK,zL,zM,zN,zO,zP,zR,zS]at *);omega))
      rw [←hrm]at hrr
      have cI:ISpec P 85 [(.pp 0 [(wpS c l)]),.pp 0 [(.int .i64 (.sym fun _=>v))],.pp 0 [(.int .i64 (.sym fun _=>rm))],.pp 0 [(.sl 1 (.sym fun _=>zi (([]:List Int)).length) (fun ix=>[.int .i64 (.sym fun _=>(([]:List Int)).getD ix.den.toNat 0)]))]] L (fun i:Nat=>[(.agg [(.int .i64 (.sym fun _=>rm)),(.int .i64 (.sym fun _=>((waysC c l v rm []).getD i (0,0)).1)),(.int .i64 (.sym fun _=>((waysC c l v rm []).getD i (0,0)).2))])]):=by rw [hL];exact c113 rm hrr.1 hrr.2
      have cI:ISpec P 85 [(.pp 0 [(wpS c l)]),.pp 0 [(.int .i64 (.sym fun _=>v))],.pp 0 [(.int .i64 (.sym fun _=>rm))],.pp 0 [(.sl 1 (.sym fun _=>zi (([]:List Int)).length) (fun ix=>[.int .i64 (.sym fun _=>(([]:List Int)).getD ix.den.toNat 0)]))]] L el:=by rw [show el=(fun i:Nat=>[(.agg [(.int .i64 (.sym fun _=>rm)),(.int .i64 (.sym fun _=>((waysC c l v rm []).getD i (0,0)).1)),(.int .i64 (.sym fun _=>((waysC c l v rm []).getD i (0,0)).2))])])from funext ei];exact cI
      have hWO:∀i,i<L→WayOk rm ((waysC c l v rm []).getD i (0,0)).1 ((waysC c l v rm []).getD i (0,0)).2:=fun i hi=>waysC_ok hc hv0 hv1 hrr.1 hrr.2 (by rw [←hL];exact hi)
      refine⟨[],L,el,fun i=>{b:Bool // b=(VV i).isEmpty},fun i x=>match x.1 with|true=>([(0,.cells [(wpS c l)] 87),(2,.cells [.val (Value.slice none 0 0)] 86)],60)|false=>([(0,.cells [(wpS c l)] 87),(2,.cells [.row 78] 86),(78,.row 40 2 (.sym fun _=>zi (c.hr.toNat+1)) (fun ix=>[(.int .i64 (.sym fun _=>loW c (VV i) ix.den.toNat)),(.int .i64 (.sym fun _=>hiW c (VV i) ix.den.toNat))]))],200),?_⟩
      cbv
      refine⟨fun _=>⟨cI,elen⟩,⟨⟨false,by rw [hVV0];exact hb⟩,?_⟩,?_,?_⟩
      · cbv
        repeat' (first
          |with_reducible refine hold ?_ ?_
          |with_reducible refine And.intro ?_ ?_)
        all_goals first
          |trivial
          |exact qM (qL _)
          |(refine qM (ble_row ?_ ?_)<;>first|rfl|(intro ix h0 h1;rw [hVV0];exact Fit.refl _))
          |skip
      · rintro i ⟨b, hb⟩ hil
        cases b
        · have hi1 :=hil
          obtain⟨G1,hG1⟩:∃G,G=loW c (VV (i+1)):=⟨_,rfl⟩
          obtain⟨G2,hG2⟩:∃G,G=hiW c (VV (i+1)):=⟨_,rfl⟩
          have hE:=hVVe i hil
          have hway:=hWO i hil
          have c60i:=c60 _ _ _ hway
          obtain⟨st,hst⟩:∃s,s=((waysC c l v rm []).getD i (0,0)).1:=⟨_,rfl⟩
          obtain⟨rt,hrt⟩:∃s,s=((waysC c l v rm []).getD i (0,0)).2:=⟨_,rfl⟩
          have hfi:=hVVf i hil
          have hne:=hVVn i hil
          rw [←hst,←hrt]at c60i hfi hne
          obtain⟨w,hw⟩:∃w,w=atW c.hr rm st rt:=⟨_,rfl⟩
          rw [←hw]at c60i hfi hne
          simp only [ei]
          rw [←hst,←hrt]
          have hmn:∀n,min (loW c (VV i) n) (w n)=G1 n:=fun n=>by rw [hG1,(hne hb.symm n).1]
          have hmx:∀n,max (hiW c (VV i) n) (w n)=G2 n:=fun n=>by rw [hG2,(hne hb.symm n).2]
          obtain⟨F1,hF1⟩:∃F,F=loW c (VV i):=⟨_,rfl⟩
          obtain⟨F2,hF2⟩:∃F,F=hiW c (VV i):=⟨_,rfl⟩
          rw [←hF1]at hmn⊢
          rw [←hF2]at hmx⊢
          cbv
          repeat' (first
              |with_reducible refine hold ?_ ?_
              |with_reducible refine And.intro ?_ ?_
              |(with_reducible intro hcd;(try simp only [zA,zB,zC,zD,zE,zF,zG,zH,zI,zJ,zK,zL,zM,zN,zO,zP]at hcd);try cbv)
              | (refine qQ ?_ (c60i) ?hfit
                 case hfit=>((repeat' (first|exact qB|refine qD ?_ ?_|exact qE (by rfl)|exact qG (by rfl)|exact Fit.refl _|exact qA|refine qC ?_ rfl ?_));done)
                 try cbv)
              |fail)
          all_goals first
            |((try simp only [qW]at *);(try simp only [zQ,zA,zB,zC,zD,zE,zF,zG,zH,zI,zJ,zK,zL,zM,zN,zO,zP,zR,zS]at *);first|(refine qO ?_;omega)|(simp only [Hold];omega))
            |(exfalso;(try simp only [qW]at *);(try simp only [zQ,zA,zB,zC,zD,zE,zF,zG,zH,zI,zJ,zK,zL,zM,zN,zO,zP,zR,zS]at *);omega)
            |skip
          refine⟨none,[],{k:Nat // k≤c.hr.toNat+1},fun x=>⟨[(3,.own 0 0),(7,.own 2 0),(11,.own 205 0),(51,(.int .i64 (.sym fun _=>zi (c.hr.toNat+1)))),(52,(.int .i64 (.sym fun _=>zi x.1)))],[(0,.cells [(wpS c l)] 87),(2,.cells [.row 78] 86),(78,.row 40 2 (.sym fun _=>zi (c.hr.toNat+1)) (fun ix=>[(.int .i64 (.sym fun _=>upF (x.1) G1 F1 ix.den.toNat)),(.int .i64 (.sym fun _=>upF (x.1) G2 F2 ix.den.toNat))])),(205,.cells [(.arr 9 (fun ix=>(.int .i64 (.sym fun _=>w ix.den.toNat))))] 112)],300⟩,fun x=>c.hr.toNat+1-x.1,?_,?_⟩
          · refine⟨⟨0,by omega⟩,?_⟩
            cbv
            repeat' (first
              |with_reducible refine hold ?_ ?_
              |with_reducible refine And.intro ?_ ?_)
            all_goals first
              |trivial
              |exact qN (qE (by rfl))
              |exact qN (Fit.refl _)
              |exact qM (qL _)
              |skip
          · rintro ⟨k,hk⟩
            cbv
            repeat' (first
                |with_reducible refine hold ?_ ?_
                |with_reducible refine And.intro ?_ ?_
                |(with_reducible intro hcd;(try simp only [zA,zB,zC,zD,zE,zF,zG,zH,zI,zJ,zK,zL,zM,zN,zO,zP]at hcd);try cbv)
                | (refine qQ ?_ (c102 (upF k G1 F1 k) (upF k G2 F2 k) (w k) _ (wk w k)) ?hfit
                   case hfit=>((repeat' (first|exact qB|refine qD ?_ ?_|exact qE (by rfl)|exact qG (by rfl)|exact Fit.refl _|exact qA|refine qC ?_ rfl ?_));done)
                   try cbv)
                | (refine⟨fun ix=>[(.int .i64 (.sym fun _=>upF (k+1) G1 F1 ix.den.toNat)),(.int .i64 (.sym fun _=>upF (k+1) G2 F2 ix.den.toNat))],?_⟩
                   cbv
                   refine hold (hold_rowupd (by(try simp only [qW]at *);(try simp only [zQ,zA,zB,zC,zD,zE,zF,zG,zH,zI,zJ,zK,zL,zM,zN,zO,zP,zR,zS]at *);omega) (by intro jx h0 h1 h2;refine qC (qE (upF_old (by(try simp only [qW]at *);(try simp only [zQ,zA,zB,zC,zD,zE,zF,zG,zH,zI,zJ,zK,zL,zM,zN,zO,zP,zR,zS]at *);omega))) rfl (qC (qE (upF_old (by(try simp only [qW]at *);(try simp only [zQ,zA,zB,zC,zD,zE,zF,zG,zH,zI,zJ,zK,zL,zM,zN,zO,zP,zR,zS]at *);omega))) rfl qA)) (by intro jx h0 h1 h2;refine⟨_,rfl,qC (qE (upd_lo (hmn k) (by(try simp only [qW]at *);(try simp only [zQ,zA,zB,zC,zD,zE,zF,zG,zH,zI,zJ,zK,zL,zM,zN,zO,zP,zR,zS]at *);omega))) rfl (qC (qE (upd_hi (hmx k) (by(try simp only [qW]at *);(try simp only [zQ,zA,zB,zC,zD,zE,zF,zG,zH,zI,zJ,zK,zL,zM,zN,zO,zP,zR,zS]at *);omega))) rfl qA)⟩)) ?_
                   try cbv)
                |fail)
            all_goals first
              |trivial
              |((try simp only [qW]at *);(try simp only [zQ,zA,zB,zC,zD,zE,zF,zG,zH,zI,zJ,zK,zL,zM,zN,zO,zP,zR,zS]at *);first|(refine qO ?_;omega)|(simp only [Hold];omega))
              |((try simp only [zQ,zA,zB,zC,zD,zE,zF,zG,zH,zI,zJ,zK,zL,zM,zN,zO,zP,zR,zS]at *);refine⟨⟨k+1,by omega⟩,by simp only [];omega,?_⟩;cbv;(repeat' (first|with_reducible refine hold ?_ ?_|with_reducible refine And.intro ?_ ?_));(all_goals first|trivial|exact qN (qE (by rfl))|exact qN (qG (by rfl))|exact qN (Fit.refl _)|exact qM (qL _)|(refine qN (qE ?_);(try simp only [qW]at *);simp only [zQ,zA,zB,zC,zD,zE,zF,zG,zH,zI,zJ,zK,zL,zM,zN,zO,zP,zR,zS]at *;omega)|(refine qM (qK ?_);(repeat' (first|exact qA|exact qB|refine qC ?_ rfl ?_|refine qD ?_ ?_|exact qE (by rfl)|exact qG (by rfl)|exact Fit.refl _|exact qH _|(refine qE ?_;(try simp only [qW]at *);simp only [zQ,zA,zB,zC,zD,zE,zF,zG,zH,zI,zJ,zK,zL,zM,zN,zO,zP,zR,zS]at *;omega)));done)|(refine qM (ble_row ?_ ?_)<;>first|rfl|((try simp only [qW]at *);(try simp only [zQ,zA,zB,zC,zD,zE,zF,zG,zH,zI,zJ,zK,zL,zM,zN,zO,zP,zR,zS]at *);omega)|(intro ix h0 h1;exact Fit.refl _))|skip))
              |(refine⟨⟨false,hE.symm⟩,?_⟩;cbv;(repeat' (first|with_reducible refine hold ?_ ?_|with_reducible refine And.intro ?_ ?_));(all_goals first|trivial|exact qN (qE (by rfl))|exact qN (qG (by rfl))|exact qN (Fit.refl _)|exact qM (qL _)|(refine qN (qE ?_);(try simp only [qW]at *);simp only [zQ,zA,zB,zC,zD,zE,zF,zG,zH,zI,zJ,zK,zL,zM,zN,zO,zP,zR,zS]at *;omega)|(refine qM (qK ?_);(repeat' (first|exact qA|exact qB|refine qC ?_ rfl ?_|refine qD ?_ ?_|exact qE (by rfl)|exact qG (by rfl)|exact Fit.refl _|exact qH _|(refine qE ?_;(try simp only [qW]at *);simp only [zQ,zA,zB,zC,zD,zE,zF,zG,zH,zI,zJ,zK,zL,zM,zN,zO,zP,zR,zS]at *;omega)));done)|(refine qM (ble_row ?_ ?_)<;>first|rfl|(intro ix h0 h1;exact qC (qE ((upF_all (by(try simp only [qW]at *);(try simp only [zQ,zA,zB,zC,zD,zE,zF,zG,zH,zI,zJ,zK,zL,zM,zN,zO,zP,zR,zS]at *);omega)).trans (congrFun hG1 _))) rfl (qC (qE ((upF_all (by(try simp only [qW]at *);(try simp only [zQ,zA,zB,zC,zD,zE,zF,zG,zH,zI,zJ,zK,zL,zM,zN,zO,zP,zR,zS]at *);omega)).trans (congrFun hG2 _))) rfl qA)))|skip))
              |skip
        · have hi1 :=hil
          obtain⟨G1,hG1⟩:∃G,G=loW c (VV (i+1)):=⟨_,rfl⟩
          obtain⟨G2,hG2⟩:∃G,G=hiW c (VV (i+1)):=⟨_,rfl⟩
          have hE:=hVVe i hil
          have hway:=hWO i hil
          have c60i:=c60 _ _ _ hway
          obtain⟨st,hst⟩:∃s,s=((waysC c l v rm []).getD i (0,0)).1:=⟨_,rfl⟩
          obtain⟨rt,hrt⟩:∃s,s=((waysC c l v rm []).getD i (0,0)).2:=⟨_,rfl⟩
          have hfi:=hVVf i hil
          have hne:=hVVn i hil
          rw [←hst,←hrt]at c60i hfi hne
          obtain⟨w,hw⟩:∃w,w=atW c.hr rm st rt:=⟨_,rfl⟩
          rw [←hw]at c60i hfi hne
          simp only [ei]
          rw [←hst,←hrt]
          have hmn:∀n,min (w n) (w n)=G1 n:=fun n=>by rw [hG1,(hfi hb.symm n).1];omega
          have hmx:∀n,max (w n) (w n)=G2 n:=fun n=>by rw [hG2,(hfi hb.symm n).2];omega
          cbv
          repeat' (first
              |with_reducible refine hold ?_ ?_
              | (refine qQ ?_ (c60i) ?hfit
                 case hfit=>((repeat' (first|exact qB|refine qD ?_ ?_|exact qE (by rfl)|exact qG (by rfl)|exact Fit.refl _|exact qA|refine qC ?_ rfl ?_));done)
                 try cbv)
              |fail)
          all_goals first
            |((try simp only [qW]at *);(try simp only [zQ,zA,zB,zC,zD,zE,zF,zG,zH,zI,zJ,zK,zL,zM,zN,zO,zP,zR,zS]at *);first|(refine qO ?_;omega)|(simp only [Hold];omega))
            |(simp only [Hold];refine⟨?_,?_,by decide⟩<;>((try simp only [qW]at *);(try simp only [zQ,zA,zB,zC,zD,zE,zF,zG,zH,zI,zJ,zK,zL,zM,zN,zO,zP,zR,zS]at *);omega))
            |skip
          refine⟨none,[⟨.cell 2 0,40,2⟩],{k:Nat // k≤c.hr.toNat+1},fun x=>⟨[(3,.own 0 0),(7,.own 2 0),(11,.own 65 0),(37,.owd 65 0 1 9 (.sym fun _=>c.hr+1)),(38,(.int .i64 (.sym fun _=>c.hr+1))),(39,(.int .i64 (.sym fun _=>zi x.1)))],[(0,.cells [(wpS c l)] 87),(2,.cells [.row 78] 86),(78,.row 40 2 (.sym fun _=>zi (x.1)) (fun ix=>[(.int .i64 (.sym fun _=>w ix.den.toNat)),(.int .i64 (.sym fun _=>w ix.den.toNat))])),(65,.cells [(.arr 9 (fun ix=>(.int .i64 (.sym fun _=>w ix.den.toNat))))] 112)],200⟩,fun x=>c.hr.toNat+1-x.1,?_,?_⟩
          · refine⟨⟨0,by omega⟩,?_⟩
            cbv
            repeat' (first
              |with_reducible refine hold ?_ ?_
              |with_reducible refine And.intro ?_ ?_)
            all_goals first
              |trivial
              |exact qN (qE (by rfl))
              |exact qN (Fit.refl _)
              |exact qM (qL _)
              |(refine qM (ble_row ?_ ?_);(first|rfl|((try simp only [qW]at *);(try simp only [zQ,zA,zB,zC,zD,zE,zF,zG,zH,zI,zJ,zK,zL,zM,zN,zO,zP,zR,zS]at *);omega));intro ix h0 h1;exfalso;(try simp only [qW]at *);(try simp only [zQ,zA,zB,zC,zD,zE,zF,zG,zH,zI,zJ,zK,zL,zM,zN,zO,zP,zR,zS]at *);omega)
              |skip
          · rintro ⟨k,hk⟩
            cbv
            repeat' (first
                |with_reducible refine hold ?_ ?_
                |with_reducible refine And.intro ?_ ?_
                |(with_reducible intro hcd;(try simp only [zA,zB,zC,zD,zE,zF,zG,zH,zI,zJ,zK,zL,zM,zN,zO,zP]at hcd);try cbv)
                | (refine⟨fun ix=>[(.int .i64 (.sym fun _=>w ix.den.toNat)),(.int .i64 (.sym fun _=>w ix.den.toNat))],?_⟩
                   cbv
                   refine hold (hold_rowapp (by intro ix jx h0 h1 h2;simp only [h2];exact Fit.refl _) (by intro ix jx h0 h1 h2;(have h3:jx.den.toNat=k:=by((try simp only [qW]at *);(try simp only [zQ,zA,zB,zC,zD,zE,zF,zG,zH,zI,zJ,zK,zL,zM,zN,zO,zP,zR,zS]at *);omega));simp only [h3];exact qC (qE (wk w k)) rfl (qC (qE (wk w k)) rfl qA)) (by(try simp only [qW]at *);(try simp only [zQ,zA,zB,zC,zD,zE,zF,zG,zH,zI,zJ,zK,zL,zM,zN,zO,zP,zR,zS]at *);omega)) (Or.inl ?_)
                   try cbv)
                |fail)
            all_goals first
              |((try simp only [qW]at *);(try simp only [zQ,zA,zB,zC,zD,zE,zF,zG,zH,zI,zJ,zK,zL,zM,zN,zO,zP,zR,zS]at *);first|(refine qO ?_;omega)|(simp only [Hold];omega))
              |((try simp only [zQ,zA,zB,zC,zD,zE,zF,zG,zH,zI,zJ,zK,zL,zM,zN,zO,zP,zR,zS]at *);refine⟨⟨k+1,by((try simp only [qW]at *);(try simp only [zQ,zA,zB,zC,zD,zE,zF,zG,zH,zI,zJ,zK,zL,zM,zN,zO,zP,zR,zS]at *);omega)⟩,by simp only [];omega,?_⟩;cbv;(repeat' (first|with_reducible refine hold ?_ ?_|with_reducible refine And.intro ?_ ?_));(all_goals first|trivial|exact qN (qE (by rfl))|exact qN (qG (by rfl))|exact qN (Fit.refl _)|exact qM (qL _)|(refine qN (qE ?_);(try simp only [qW]at *);simp only [zQ,zA,zB,zC,zD,zE,zF,zG,zH,zI,zJ,zK,zL,zM,zN,zO,zP,zR,zS]at *;omega)|(refine qM (qK ?_);(repeat' (first|exact qA|exact qB|refine qC ?_ rfl ?_|refine qD ?_ ?_|exact qE (by rfl)|exact qG (by rfl)|exact Fit.refl _|exact qH _|(refine qE ?_;(try simp only [qW]at *);simp only [zQ,zA,zB,zC,zD,zE,zF,zG,zH,zI,zJ,zK,zL,zM,zN,zO,zP,zR,zS]at *;omega)));done)|(refine qM (ble_row ?_ ?_)<;>first|rfl|((try simp only [qW]at *);(try simp only [zQ,zA,zB,zC,zD,zE,zF,zG,zH,zI,zJ,zK,zL,zM,zN,zO,zP,zR,zS]at *);omega)|(intro ix h0 h1;exact Fit.refl _))|skip))
              |skip
            refine⟨none,[],{k:Nat // k≤c.hr.toNat+1},fun x=>⟨[(3,.own 0 0),(7,.own 2 0),(11,.own 65 0),(51,(.int .i64 (.sym fun _=>zi (c.hr.toNat+1)))),(52,(.int .i64 (.sym fun _=>zi x.1)))],[(0,.cells [(wpS c l)] 87),(2,.cells [.row 78] 86),(78,.row 40 2 (.sym fun _=>zi (c.hr.toNat+1)) (fun ix=>[(.int .i64 (.sym fun _=>upF (x.1) G1 w ix.den.toNat)),(.int .i64 (.sym fun _=>upF (x.1) G2 w ix.den.toNat))])),(65,.cells [(.arr 9 (fun ix=>(.int .i64 (.sym fun _=>w ix.den.toNat))))] 112)],300⟩,fun x=>c.hr.toNat+1-x.1,?_,?_⟩
            · refine⟨⟨0,by omega⟩,?_⟩
              cbv
              repeat' (first
                |with_reducible refine hold ?_ ?_
                |with_reducible refine And.intro ?_ ?_)
              all_goals first
                |trivial
                |exact qN (qE (by rfl))
                |exact qN (Fit.refl _)
                |exact qM (qL _)
                |(refine qN (qE ?_);(try simp only [qW]at *);simp only [zQ,zA,zB,zC,zD,zE,zF,zG,zH,zI,zJ,zK,zL,zM,zN,zO,zP,zR,zS]at *;omega)
                |(refine qM (ble_row ?_ ?_)<;>first|rfl|((try simp only [qW]at *);(try simp only [zQ,zA,zB,zC,zD,zE,zF,zG,zH,zI,zJ,zK,zL,zM,zN,zO,zP,zR,zS]at *);omega)|(intro ix h0 h1;exact qC (qE (upF_zero _ _ _)) rfl (qC (qE (upF_zero _ _ _)) rfl qA)))
                |skip
            · rintro ⟨k,hk⟩
              cbv
              repeat' (first
                  |with_reducible refine hold ?_ ?_
                  |with_reducible refine And.intro ?_ ?_
                  |(with_reducible intro hcd;(try simp only [zA,zB,zC,zD,zE,zF,zG,zH,zI,zJ,zK,zL,zM,zN,zO,zP]at hcd);try cbv)
                  | (refine qQ ?_ (c102 (upF k G1 w k) (upF k G2 w k) (w k) _ (wk w k)) ?hfit
                     case hfit=>((repeat' (first|exact qB|refine qD ?_ ?_|exact qE (by rfl)|exact qG (by rfl)|exact Fit.refl _|exact qA|refine qC ?_ rfl ?_));done)
                     try cbv)
                  | (refine⟨fun ix=>[(.int .i64 (.sym fun _=>upF (k+1) G1 w ix.den.toNat)),(.int .i64 (.sym fun _=>upF (k+1) G2 w ix.den.toNat))],?_⟩
                     cbv
                     refine hold (hold_rowupd (by(try simp only [qW]at *);(try simp only [zQ,zA,zB,zC,zD,zE,zF,zG,zH,zI,zJ,zK,zL,zM,zN,zO,zP,zR,zS]at *);omega) (by intro jx h0 h1 h2;refine qC (qE (upF_old (by(try simp only [qW]at *);(try simp only [zQ,zA,zB,zC,zD,zE,zF,zG,zH,zI,zJ,zK,zL,zM,zN,zO,zP,zR,zS]at *);omega))) rfl (qC (qE (upF_old (by(try simp only [qW]at *);(try simp only [zQ,zA,zB,zC,zD,zE,zF,zG,zH,zI,zJ,zK,zL,zM,zN,zO,zP,zR,zS]at *);omega))) rfl qA)) (by intro jx h0 h1 h2;refine⟨_,rfl,qC (qE (upd_lo (hmn k) (by(try simp only [qW]at *);(try simp only [zQ,zA,zB,zC,zD,zE,zF,zG,zH,zI,zJ,zK,zL,zM,zN,zO,zP,zR,zS]at *);omega))) rfl (qC (qE (upd_hi (hmx k) (by(try simp only [qW]at *);(try simp only [zQ,zA,zB,zC,zD,zE,zF,zG,zH,zI,zJ,zK,zL,zM,zN,zO,zP,zR,zS]at *);omega))) rfl qA)⟩)) ?_
                     try cbv)
                  |fail)
              all_goals first
                |trivial
                |((try simp only [qW]at *);(try simp only [zQ,zA,zB,zC,zD,zE,zF,zG,zH,zI,zJ,zK,zL,zM,zN,zO,zP,zR,zS]at *);first|(refine qO ?_;omega)|(simp only [Hold];omega))
                |((try simp only [zQ,zA,zB,zC,zD,zE,zF,zG,zH,zI,zJ,zK,zL,zM,zN,zO,zP,zR,zS]at *);refine⟨⟨k+1,by omega⟩,by simp only [];omega,?_⟩;cbv;(repeat' (first|with_reducible refine hold ?_ ?_|with_reducible refine And.intro ?_ ?_));(all_goals first|trivial|exact qN (qE (by rfl))|exact qN (qG (by rfl))|exact qN (Fit.refl _)|exact qM (qL _)|(refine qN (qE ?_);(try simp only [qW]at *);simp only [zQ,zA,zB,zC,zD,zE,zF,zG,zH,zI,zJ,zK,zL,zM,zN,zO,zP,zR,zS]at *;omega)|(refine qM (qK ?_);(repeat' (first|exact qA|exact qB|refine qC ?_ rfl ?_|refine qD ?_ ?_|exact qE (by rfl)|exact qG (by rfl)|exact Fit.refl _|exact qH _|(refine qE ?_;(try simp only [qW]at *);simp only [zQ,zA,zB,zC,zD,zE,zF,zG,zH,zI,zJ,zK,zL,zM,zN,zO,zP,zR,zS]at *;omega)));done)|(refine qM (ble_row ?_ ?_)<;>first|rfl|((try simp only [qW]at *);(try simp only [zQ,zA,zB,zC,zD,zE,zF,zG,zH,zI,zJ,zK,zL,zM,zN,zO,zP,zR,zS]at *);omega)|(intro ix h0 h1;exact Fit.refl _))|skip))
                |(refine⟨⟨false,hE.symm⟩,?_⟩;cbv;(repeat' (first|with_reducible refine hold ?_ ?_|with_reducible refine And.intro ?_ ?_));(all_goals first|trivial|exact qN (qE (by rfl))|exact qN (qG (by rfl))|exact qN (Fit.refl _)|exact qM (qL _)|(refine qN (qE ?_);(try simp only [qW]at *);simp only [zQ,zA,zB,zC,zD,zE,zF,zG,zH,zI,zJ,zK,zL,zM,zN,zO,zP,zR,zS]at *;omega)|(refine qM (qK ?_);(repeat' (first|exact qA|exact qB|refine qC ?_ rfl ?_|refine qD ?_ ?_|exact qE (by rfl)|exact qG (by rfl)|exact Fit.refl _|exact qH _|(refine qE ?_;(try simp only [qW]at *);simp only [zQ,zA,zB,zC,zD,zE,zF,zG,zH,zI,zJ,zK,zL,zM,zN,zO,zP,zR,zS]at *;omega)));done)|(refine qM (ble_row ?_ ?_)<;>first|rfl|(intro ix h0 h1;exact qC (qE ((upF_all (by(try simp only [qW]at *);(try simp only [zQ,zA,zB,zC,zD,zE,zF,zG,zH,zI,zJ,zK,zL,zM,zN,zO,zP,zR,zS]at *);omega)).trans (congrFun hG1 _))) rfl (qC (qE ((upF_all (by(try simp only [qW]at *);(try simp only [zQ,zA,zB,zC,zD,zE,zF,zG,zH,zI,zJ,zK,zL,zM,zN,zO,zP,zR,zS]at *);omega)).trans (congrFun hG2 _))) rfl qA)))|skip))
                |skip
      · rintro⟨b,hb⟩
        cases b
        · cbv
          repeat' (first
              |with_reducible refine hold ?_ ?_
              |fail)
          all_goals first
            |((try simp only [qW]at *);(try simp only [zQ,zA,zB,zC,zD,zE,zF,zG,zH,zI,zJ,zK,zL,zM,zN,zO,zP,zR,zS]at *);first|(refine qO ?_;omega)|(simp only [Hold];omega))
            |((try simp only [zQ,zA,zB,zC,zD,zE,zF,zG,zH,zI,zJ,zK,zL,zM,zN,zO,zP,zR,zS]at *);refine⟨⟨(r+1,false),by((try simp only [qW]at *);(try simp only [zQ,zA,zB,zC,zD,zE,zF,zG,zH,zI,zJ,zK,zL,zM,zN,zO,zP,zR,zS]at *);omega),by rw [←hVVL];exact hb⟩,by simp only [];omega,?_⟩;cbv;(repeat' (first|with_reducible refine hold ?_ ?_|with_reducible refine And.intro ?_ ?_));(all_goals first|trivial|exact qN (qE (by rfl))|exact qN (qG (by rfl))|exact qN (Fit.refl _)|exact qM (qL _)|(refine qN (qE ?_);(try simp only [qW]at *);simp only [zQ,zA,zB,zC,zD,zE,zF,zG,zH,zI,zJ,zK,zL,zM,zN,zO,zP,zR,zS]at *;omega)|(refine qM (qK ?_);(repeat' (first|exact qA|exact qB|refine qC ?_ rfl ?_|refine qD ?_ ?_|exact qE (by rfl)|exact qG (by rfl)|exact Fit.refl _|exact qH _|(refine qE ?_;(try simp only [qW]at *);simp only [zQ,zA,zB,zC,zD,zE,zF,zG,zH,zI,zJ,zK,zL,zM,zN,zO,zP,zR,zS]at *;omega)));done)|(refine qM (ble_row ?_ ?_)<;>first|rfl|(intro ix h0 h1;simp only [hVVL];exact Fit.refl _))|skip))
            |skip
        · cbv
          repeat' (first
              |with_reducible refine hold ?_ ?_
              |fail)
          all_goals first
            |((try simp only [qW]at *);(try simp only [zQ,zA,zB,zC,zD,zE,zF,zG,zH,zI,zJ,zK,zL,zM,zN,zO,zP,zR,zS]at *);first|(refine qO ?_;omega)|(simp only [Hold];omega))
            |((try simp only [zQ,zA,zB,zC,zD,zE,zF,zG,zH,zI,zJ,zK,zL,zM,zN,zO,zP,zR,zS]at *);refine⟨⟨(r+1,true),by((try simp only [qW]at *);(try simp only [zQ,zA,zB,zC,zD,zE,zF,zG,zH,zI,zJ,zK,zL,zM,zN,zO,zP,zR,zS]at *);omega),by rw [←hVVL];exact hb⟩,by simp only [];omega,?_⟩;cbv;(repeat' (first|with_reducible refine hold ?_ ?_|with_reducible refine And.intro ?_ ?_));(all_goals first|trivial|exact qN (qE (by rfl))|exact qN (qG (by rfl))|exact qN (Fit.refl _)|exact qM (qL _)|(refine qN (qE ?_);(try simp only [qW]at *);simp only [zQ,zA,zB,zC,zD,zE,zF,zG,zH,zI,zJ,zK,zL,zM,zN,zO,zP,zR,zS]at *;omega)|(refine qM (qK ?_);(repeat' (first|exact qA|exact qB|refine qC ?_ rfl ?_|refine qD ?_ ?_|exact qE (by rfl)|exact qG (by rfl)|exact Fit.refl _|exact qH _|(refine qE ?_;(try simp only [qW]at *);simp only [zQ,zA,zB,zC,zD,zE,zF,zG,zH,zI,zJ,zK,zL,zM,zN,zO,zP,zR,zS]at *;omega)));done)|(refine qM (ble_row ?_ ?_)<;>first|rfl|(intro ix h0 h1;simp only [hVVL];exact Fit.refl _))|skip))
            |skip
    · obtain ⟨rm, hrm⟩:∃r',r'=rs.getD r 0:=⟨_,rfl⟩
      obtain⟨L,hL⟩:∃L,L=(waysC c l v rm []).length:=⟨_,rfl⟩
      obtain⟨el,hel⟩:∃el:Nat→List SV,el=(fun i:Nat=>[(.agg [(.int .i64 (.sym fun _=>rm)),(.int .i64 (.sym fun _=>((waysC c l v rm []).getD i (0,0)).1)),(.int .i64 (.sym fun _=>((waysC c l v rm []).getD i (0,0)).2))])]):=⟨_,rfl⟩
      have elen:∀i,(el i).length=1∧SV.idsL (el i)=[]:=fun i=>by rw [hel];exact⟨rfl,rfl⟩
      have ei:∀i,el i=[(.agg [(.int .i64 (.sym fun _=>rm)),(.int .i64 (.sym fun _=>((waysC c l v rm []).getD i (0,0)).1)),(.int .i64 (.sym fun _=>((waysC c l v rm []).getD i (0,0)).2))])]:=fun i=>by rw [hel]
      obtain⟨VV,hVV⟩:∃VV:Nat→List (Int×Int×Int),VV=fun i=>W r++(wysR c l v rm).take i:=⟨_,rfl⟩
      have hVV0:VV 0=W r:=by rw [hVV];simp
      have hVVL:VV L=W (r+1):=by rw [hVV,hWs,←hrm,hL];show W r++_=_;rw [wys_all rfl]
      have hVVs:∀i,i<L→VV (i+1)=VV i++[(rm,((waysC c l v rm []).getD i (0,0)).1,((waysC c l v rm []).getD i (0,0)).2)]:=fun i hi=>by rw [hVV];show W r++_=W r++_++_;rw [wys_take (by rw [←hL];exact hi),List.append_assoc]
      have hVVe:∀i,i<L→(VV (i+1)).isEmpty=false:=fun i hi=>by rw [hVVs i hi];cases VV i<;>rfl
      have hVVf:∀i,i<L→(VV i).isEmpty=true→∀n,loW c (VV (i+1)) n=atW c.hr rm ((waysC c l v rm []).getD i (0,0)).1 ((waysC c l v rm []).getD i (0,0)).2 n∧hiW c (VV (i+1)) n=atW c.hr rm ((waysC c l v rm []).getD i (0,0)).1 ((waysC c l v rm []).getD i (0,0)).2 n:=fun i hi he n=>by rw [hVVs i hi];exact loW_first he _ n
      have hVVn:∀i,i<L→(VV i).isEmpty=false→∀n,loW c (VV (i+1)) n=min (loW c (VV i) n) (atW c.hr rm ((waysC c l v rm []).getD i (0,0)).1 ((waysC c l v rm []).getD i (0,0)).2 n)∧hiW c (VV (i+1)) n=max (hiW c (VV i) n) (atW c.hr rm ((waysC c l v rm []).getD i (0,0)).1 ((waysC c l v rm []).getD i (0,0)).2 n):=fun i hi he n=>by rw [hVVs i hi];exact loW_next he _ n
      clear hVV hVVs hel
      cbv
      repeat' (first
          |with_reducible refine hold ?_ ?_
          |with_reducible refine And.intro ?_ ?_
          |(with_reducible intro hcd;(try simp only [zA,zB,zC,zD,zE,zF,zG,zH,zI,zJ,zK,zL,zM,zN,zO,zP]at hcd);try cbv)
          | (refine qQ ?_ (c101 rm) ?hfit
             case hfit=>((refine qD (Fit.refl _) (qD (qE (by first|rfl|(rw [hrm];rfl))) (qD (Fit.refl _) (qD (qP rfl) qB))));done)
             try cbv)
          |fail)
      all_goals first
        |((try simp only [qW]at *);(try simp only [zQ,zA,zB,zC,zD,zE,zF,zG,zH,zI,zJ,zK,zL,zM,zN,zO,zP,zR,zS]at *);first|(refine qO ?_;omega)|(simp only [Hold];omega))
        |((have hre:r=rs.length:=(by((try simp only [qW]at *);(try simp only [zQ,zA,zB,zC,zD,zE,zF,zG,zH,zI,zJ,zK,zL,zM,zN,zO,zP,zR,zS]at *);omega)));subst hR;exact qP (congrArg zi (bdN_nil (by rw [←hre];exact hb.symm))))
        |skip
      have hrr:=hrs r (by((try simp only [qW]at *);(try simp only [zQ,zA,zB,zC,zD,zE,zF,zG,zH,zI,zJ,zK,zL,zM,zN,zO,zP,zR,zS]at *);omega))
      rw [←hrm]at hrr
      have cI:ISpec P 85 [(.pp 0 [(wpS c l)]),.pp 0 [(.int .i64 (.sym fun _=>v))],.pp 0 [(.int .i64 (.sym fun _=>rm))],.pp 0 [(.sl 1 (.sym fun _=>zi (([]:List Int)).length) (fun ix=>[.int .i64 (.sym fun _=>(([]:List Int)).getD ix.den.toNat 0)]))]] L (fun i:Nat=>[(.agg [(.int .i64 (.sym fun _=>rm)),(.int .i64 (.sym fun _=>((waysC c l v rm []).getD i (0,0)).1)),(.int .i64 (.sym fun _=>((waysC c l v rm []).getD i (0,0)).2))])]):=by rw [hL];exact c113 rm hrr.1 hrr.2
      have cI:ISpec P 85 [(.pp 0 [(wpS c l)]),.pp 0 [(.int .i64 (.sym fun _=>v))],.pp 0 [(.int .i64 (.sym fun _=>rm))],.pp 0 [(.sl 1 (.sym fun _=>zi (([]:List Int)).length) (fun ix=>[.int .i64 (.sym fun _=>(([]:List Int)).getD ix.den.toNat 0)]))]] L el:=by rw [show el=(fun i:Nat=>[(.agg [(.int .i64 (.sym fun _=>rm)),(.int .i64 (.sym fun _=>((waysC c l v rm []).getD i (0,0)).1)),(.int .i64 (.sym fun _=>((waysC c l v rm []).getD i (0,0)).2))])])from funext ei];exact cI
      have hWO:∀i,i<L→WayOk rm ((waysC c l v rm []).getD i (0,0)).1 ((waysC c l v rm []).getD i (0,0)).2:=fun i hi=>waysC_ok hc hv0 hv1 hrr.1 hrr.2 (by rw [←hL];exact hi)
      refine⟨[],L,el,fun i=>{b:Bool // b=(VV i).isEmpty},fun i x=>match x.1 with|true=>([(0,.cells [(wpS c l)] 87),(2,.cells [.val (Value.slice none 0 0)] 86)],60)|false=>([(0,.cells [(wpS c l)] 87),(2,.cells [.row 78] 86),(78,.row 40 2 (.sym fun _=>zi (c.hr.toNat+1)) (fun ix=>[(.int .i64 (.sym fun _=>loW c (VV i) ix.den.toNat)),(.int .i64 (.sym fun _=>hiW c (VV i) ix.den.toNat))]))],200),?_⟩
      cbv
      refine⟨fun _=>⟨cI,elen⟩,⟨⟨true,by rw [hVV0];exact hb⟩,?_⟩,?_,?_⟩
      · cbv
        repeat' (first
          |with_reducible refine hold ?_ ?_
          |with_reducible refine And.intro ?_ ?_)
        all_goals first
          |trivial
          |exact qM (qL _)
          |skip
      · rintro i ⟨b, hb⟩ hil
        cases b
        · have hi1 :=hil
          obtain⟨G1,hG1⟩:∃G,G=loW c (VV (i+1)):=⟨_,rfl⟩
          obtain⟨G2,hG2⟩:∃G,G=hiW c (VV (i+1)):=⟨_,rfl⟩
          have hE:=hVVe i hil
          have hway:=hWO i hil
          have c60i:=c60 _ _ _ hway
          obtain⟨st,hst⟩:∃s,s=((waysC c l v rm []).getD i (0,0)).1:=⟨_,rfl⟩
          obtain⟨rt,hrt⟩:∃s,s=((waysC c l v rm []).getD i (0,0)).2:=⟨_,rfl⟩
          have hfi:=hVVf i hil
          have hne:=hVVn i hil
          rw [←hst,←hrt]at c60i hfi hne
          obtain⟨w,hw⟩:∃w,w=atW c.hr rm st rt:=⟨_,rfl⟩
          rw [←hw]at c60i hfi hne
          simp only [ei]
          rw [←hst,←hrt]
          have hmn:∀n,min (loW c (VV i) n) (w n)=G1 n:=fun n=>by rw [hG1,(hne hb.symm n).1]
          have hmx:∀n,max (hiW c (VV i) n) (w n)=G2 n:=fun n=>by rw [hG2,(hne hb.symm n).2]
          obtain⟨F1,hF1⟩:∃F,F=loW c (VV i):=⟨_,rfl⟩
          obtain⟨F2,hF2⟩:∃F,F=hiW c (VV i):=⟨_,rfl⟩
          rw [←hF1]at hmn⊢
          rw [←hF2]at hmx⊢
          cbv
          repeat' (first
              |with_reducible refine hold ?_ ?_
              |with_reducible refine And.intro ?_ ?_
              |(with_reducible intro hcd;(try simp only [zA,zB,zC,zD,zE,zF,zG,zH,zI,zJ,zK,zL,zM,zN,zO,zP]at hcd);try cbv)
              | (refine qQ ?_ (c60i) ?hfit
                 case hfit=>((repeat' (first|exact qB|refine qD ?_ ?_|exact qE (by rfl)|exact qG (by rfl)|exact Fit.refl _|exact qA|refine qC ?_ rfl ?_));done)
                 try cbv)
              |fail)
          all_goals first
            |((try simp only [qW]at *);(try simp only [zQ,zA,zB,zC,zD,zE,zF,zG,zH,zI,zJ,zK,zL,zM,zN,zO,zP,zR,zS]at *);first|(refine qO ?_;omega)|(simp only [Hold];omega))
            |(exfalso;(try simp only [qW]at *);(try simp only [zQ,zA,zB,zC,zD,zE,zF,zG,zH,zI,zJ,zK,zL,zM,zN,zO,zP,zR,zS]at *);omega)
            |skip
          refine⟨none,[],{k:Nat // k≤c.hr.toNat+1},fun x=>⟨[(3,.own 0 0),(7,.own 2 0),(11,.own 205 0),(51,(.int .i64 (.sym fun _=>zi (c.hr.toNat+1)))),(52,(.int .i64 (.sym fun _=>zi x.1)))],[(0,.cells [(wpS c l)] 87),(2,.cells [.row 78] 86),(78,.row 40 2 (.sym fun _=>zi (c.hr.toNat+1)) (fun ix=>[(.int .i64 (.sym fun _=>upF (x.1) G1 F1 ix.den.toNat)),(.int .i64 (.sym fun _=>upF (x.1) G2 F2 ix.den.toNat))])),(205,.cells [(.arr 9 (fun ix=>(.int .i64 (.sym fun _=>w ix.den.toNat))))] 112)],300⟩,fun x=>c.hr.toNat+1-x.1,?_,?_⟩
          · refine⟨⟨0,by omega⟩,?_⟩
            cbv
            repeat' (first
              |with_reducible refine hold ?_ ?_
              |with_reducible refine And.intro ?_ ?_)
            all_goals first
              |trivial
              |exact qN (qE (by rfl))
              |exact qN (Fit.refl _)
              |exact qM (qL _)
              |skip
          · rintro ⟨k,hk⟩
            cbv
            repeat' (first
                |with_reducible refine hold ?_ ?_
                |with_reducible refine And.intro ?_ ?_
                |(with_reducible intro hcd;(try simp only [zA,zB,zC,zD,zE,zF,zG,zH,zI,zJ,zK,zL,zM,zN,zO,zP]at hcd);try cbv)
                | (refine qQ ?_ (c102 (upF k G1 F1 k) (upF k G2 F2 k) (w k) _ (wk w k)) ?hfit
                   case hfit=>((repeat' (first|exact qB|refine qD ?_ ?_|exact qE (by rfl)|exact qG (by rfl)|exact Fit.refl _|exact qA|refine qC ?_ rfl ?_));done)
                   try cbv)
                | (refine⟨fun ix=>[(.int .i64 (.sym fun _=>upF (k+1) G1 F1 ix.den.toNat)),(.int .i64 (.sym fun _=>upF (k+1) G2 F2 ix.den.toNat))],?_⟩
                   cbv
                   refine hold (hold_rowupd (by(try simp only [qW]at *);(try simp only [zQ,zA,zB,zC,zD,zE,zF,zG,zH,zI,zJ,zK,zL,zM,zN,zO,zP,zR,zS]at *);omega) (by intro jx h0 h1 h2;refine qC (qE (upF_old (by(try simp only [qW]at *);(try simp only [zQ,zA,zB,zC,zD,zE,zF,zG,zH,zI,zJ,zK,zL,zM,zN,zO,zP,zR,zS]at *);omega))) rfl (qC (qE (upF_old (by(try simp only [qW]at *);(try simp only [zQ,zA,zB,zC,zD,zE,zF,zG,zH,zI,zJ,zK,zL,zM,zN,zO,zP,zR,zS]at *);omega))) rfl qA)) (by intro jx h0 h1 h2;refine⟨_,rfl,qC (qE (upd_lo (hmn k) (by(try simp only [qW]at *);(try simp only [zQ,zA,zB,zC,zD,zE,zF,zG,zH,zI,zJ,zK,zL,zM,zN,zO,zP,zR,zS]at *);omega))) rfl (qC (qE (upd_hi (hmx k) (by(try simp only [qW]at *);(try simp only [zQ,zA,zB,zC,zD,zE,zF,zG,zH,zI,zJ,zK,zL,zM,zN,zO,zP,zR,zS]at *);omega))) rfl qA)⟩)) ?_
                   try cbv)
                |fail)
            all_goals first
              |trivial
              |((try simp only [qW]at *);(try simp only [zQ,zA,zB,zC,zD,zE,zF,zG,zH,zI,zJ,zK,zL,zM,zN,zO,zP,zR,zS]at *);first|(refine qO ?_;omega)|(simp only [Hold];omega))
              |((try simp only [zQ,zA,zB,zC,zD,zE,zF,zG,zH,zI,zJ,zK,zL,zM,zN,zO,zP,zR,zS]at *);refine⟨⟨k+1,by omega⟩,by simp only [];omega,?_⟩;cbv;(repeat' (first|with_reducible refine hold ?_ ?_|with_reducible refine And.intro ?_ ?_));(all_goals first|trivial|exact qN (qE (by rfl))|exact qN (qG (by rfl))|exact qN (Fit.refl _)|exact qM (qL _)|(refine qN (qE ?_);(try simp only [qW]at *);simp only [zQ,zA,zB,zC,zD,zE,zF,zG,zH,zI,zJ,zK,zL,zM,zN,zO,zP,zR,zS]at *;omega)|(refine qM (qK ?_);(repeat' (first|exact qA|exact qB|refine qC ?_ rfl ?_|refine qD ?_ ?_|exact qE (by rfl)|exact qG (by rfl)|exact Fit.refl _|exact qH _|(refine qE ?_;(try simp only [qW]at *);simp only [zQ,zA,zB,zC,zD,zE,zF,zG,zH,zI,zJ,zK,zL,zM,zN,zO,zP,zR,zS]at *;omega)));done)|(refine qM (ble_row ?_ ?_)<;>first|rfl|((try simp only [qW]at *);(try simp only [zQ,zA,zB,zC,zD,zE,zF,zG,zH,zI,zJ,zK,zL,zM,zN,zO,zP,zR,zS]at *);omega)|(intro ix h0 h1;exact Fit.refl _))|skip))
              |(refine⟨⟨false,hE.symm⟩,?_⟩;cbv;(repeat' (first|with_reducible refine hold ?_ ?_|with_reducible refine And.intro ?_ ?_));(all_goals first|trivial|exact qN (qE (by rfl))|exact qN (qG (by rfl))|exact qN (Fit.refl _)|exact qM (qL _)|(refine qN (qE ?_);(try simp only [qW]at *);simp only [zQ,zA,zB,zC,zD,zE,zF,zG,zH,zI,zJ,zK,zL,zM,zN,zO,zP,zR,zS]at *;omega)|(refine qM (qK ?_);(repeat' (first|exact qA|exact qB|refine qC ?_ rfl ?_|refine qD ?_ ?_|exact qE (by rfl)|exact qG (by rfl)|exact Fit.refl _|exact qH _|(refine qE ?_;(try simp only [qW]at *);simp only [zQ,zA,zB,zC,zD,zE,zF,zG,zH,zI,zJ,zK,zL,zM,zN,zO,zP,zR,zS]at *;omega)));done)|(refine qM (ble_row ?_ ?_)<;>first|rfl|(intro ix h0 h1;exact qC (qE ((upF_all (by(try simp only [qW]at *);(try simp only [zQ,zA,zB,zC,zD,zE,zF,zG,zH,zI,zJ,zK,zL,zM,zN,zO,zP,zR,zS]at *);omega)).trans (congrFun hG1 _))) rfl (qC (qE ((upF_all (by(try simp only [qW]at *);(try simp only [zQ,zA,zB,zC,zD,zE,zF,zG,zH,zI,zJ,zK,zL,zM,zN,zO,zP,zR,zS]at *);omega)).trans (congrFun hG2 _))) rfl qA)))|skip))
              |skip
        · have hi1 :=hil
          obtain⟨G1,hG1⟩:∃G,G=loW c (VV (i+1)):=⟨_,rfl⟩
          obtain⟨G2,hG2⟩:∃G,G=hiW c (VV (i+1)):=⟨_,rfl⟩
          have hE:=hVVe i hil
          have hway:=hWO i hil
          have c60i:=c60 _ _ _ hway
          obtain⟨st,hst⟩:∃s,s=((waysC c l v rm []).getD i (0,0)).1:=⟨_,rfl⟩
          obtain⟨rt,hrt⟩:∃s,s=((waysC c l v rm []).getD i (0,0)).2:=⟨_,rfl⟩
          have hfi:=hVVf i hil
          have hne:=hVVn i hil
          rw [←hst,←hrt]at c60i hfi hne
          obtain⟨w,hw⟩:∃w,w=atW c.hr rm st rt:=⟨_,rfl⟩
          rw [←hw]at c60i hfi hne
          simp only [ei]
          rw [←hst,←hrt]
          have hmn:∀n,min (w n) (w n)=G1 n:=fun n=>by rw [hG1,(hfi hb.symm n).1];omega
          have hmx:∀n,max (w n) (w n)=G2 n:=fun n=>by rw [hG2,(hfi hb.symm n).2];omega
          cbv
          repeat' (first
              |with_reducible refine hold ?_ ?_
              | (refine qQ ?_ (c60i) ?hfit
                 case hfit=>((repeat' (first|exact qB|refine qD ?_ ?_|exact qE (by rfl)|exact qG (by rfl)|exact Fit.refl _|exact qA|refine qC ?_ rfl ?_));done)
                 try cbv)
              |fail)
          all_goals first
            |((try simp only [qW]at *);(try simp only [zQ,zA,zB,zC,zD,zE,zF,zG,zH,zI,zJ,zK,zL,zM,zN,zO,zP,zR,zS]at *);first|(refine qO ?_;omega)|(simp only [Hold];omega))
            |(simp only [Hold];refine⟨?_,?_,by decide⟩<;>((try simp only [qW]at *);(try simp only [zQ,zA,zB,zC,zD,zE,zF,zG,zH,zI,zJ,zK,zL,zM,zN,zO,zP,zR,zS]at *);omega))
            |skip
          refine⟨none,[⟨.cell 2 0,40,2⟩],{k:Nat // k≤c.hr.toNat+1},fun x=>⟨[(3,.own 0 0),(7,.own 2 0),(11,.own 65 0),(37,.owd 65 0 1 9 (.sym fun _=>c.hr+1)),(38,(.int .i64 (.sym fun _=>c.hr+1))),(39,(.int .i64 (.sym fun _=>zi x.1)))],[(0,.cells [(wpS c l)] 87),(2,.cells [.row 78] 86),(78,.row 40 2 (.sym fun _=>zi (x.1)) (fun ix=>[(.int .i64 (.sym fun _=>w ix.den.toNat)),(.int .i64 (.sym fun _=>w ix.den.toNat))])),(65,.cells [(.arr 9 (fun ix=>(.int .i64 (.sym fun _=>w ix.den.toNat))))] 112)],200⟩,fun x=>c.hr.toNat+1-x.1,?_,?_⟩
          · refine⟨⟨0,by omega⟩,?_⟩
            cbv
            repeat' (first
              |with_reducible refine hold ?_ ?_
              |with_reducible refine And.intro ?_ ?_)
            all_goals first
              |trivial
              |exact qN (qE (by rfl))
              |exact qN (Fit.refl _)
              |exact qM (qL _)
              |(refine qM (ble_row ?_ ?_);(first|rfl|((try simp only [qW]at *);(try simp only [zQ,zA,zB,zC,zD,zE,zF,zG,zH,zI,zJ,zK,zL,zM,zN,zO,zP,zR,zS]at *);omega));intro ix h0 h1;exfalso;(try simp only [qW]at *);(try simp only [zQ,zA,zB,zC,zD,zE,zF,zG,zH,zI,zJ,zK,zL,zM,zN,zO,zP,zR,zS]at *);omega)
              |skip
          · rintro ⟨k,hk⟩
            cbv
            repeat' (first
                |with_reducible refine hold ?_ ?_
                |with_reducible refine And.intro ?_ ?_
                |(with_reducible intro hcd;(try simp only [zA,zB,zC,zD,zE,zF,zG,zH,zI,zJ,zK,zL,zM,zN,zO,zP]at hcd);try cbv)
                | (refine⟨fun ix=>[(.int .i64 (.sym fun _=>w ix.den.toNat)),(.int .i64 (.sym fun _=>w ix.den.toNat))],?_⟩
                   cbv
                   refine hold (hold_rowapp (by intro ix jx h0 h1 h2;simp only [h2];exact Fit.refl _) (by intro ix jx h0 h1 h2;(have h3:jx.den.toNat=k:=by((try simp only [qW]at *);(try simp only [zQ,zA,zB,zC,zD,zE,zF,zG,zH,zI,zJ,zK,zL,zM,zN,zO,zP,zR,zS]at *);omega));simp only [h3];exact qC (qE (wk w k)) rfl (qC (qE (wk w k)) rfl qA)) (by(try simp only [qW]at *);(try simp only [zQ,zA,zB,zC,zD,zE,zF,zG,zH,zI,zJ,zK,zL,zM,zN,zO,zP,zR,zS]at *);omega)) (Or.inl ?_)
                   try cbv)
                |fail)
            all_goals first
              |((try simp only [qW]at *);(try simp only [zQ,zA,zB,zC,zD,zE,zF,zG,zH,zI,zJ,zK,zL,zM,zN,zO,zP,zR,zS]at *);first|(refine qO ?_;omega)|(simp only [Hold];omega))
              |((try simp only [zQ,zA,zB,zC,zD,zE,zF,zG,zH,zI,zJ,zK,zL,zM,zN,zO,zP,zR,zS]at *);refine⟨⟨k+1,by((try simp only [qW]at *);(try simp only [zQ,zA,zB,zC,zD,zE,zF,zG,zH,zI,zJ,zK,zL,zM,zN,zO,zP,zR,zS]at *);omega)⟩,by simp only [];omega,?_⟩;cbv;(repeat' (first|with_reducible refine hold ?_ ?_|with_reducible refine And.intro ?_ ?_));(all_goals first|trivial|exact qN (qE (by rfl))|exact qN (qG (by rfl))|exact qN (Fit.refl _)|exact qM (qL _)|(refine qN (qE ?_);(try simp only [qW]at *);simp only [zQ,zA,zB,zC,zD,zE,zF,zG,zH,zI,zJ,zK,zL,zM,zN,zO,zP,zR,zS]at *;omega)|(refine qM (qK ?_);(repeat' (first|exact qA|exact qB|refine qC ?_ rfl ?_|refine qD ?_ ?_|exact qE (by rfl)|exact qG (by rfl)|exact Fit.refl _|exact qH _|(refine qE ?_;(try simp only [qW]at *);simp only [zQ,zA,zB,zC,zD,zE,zF,zG,zH,zI,zJ,zK,zL,zM,zN,zO,zP,zR,zS]at *;omega)));done)|(refine qM (ble_row ?_ ?_)<;>first|rfl|((try simp only [qW]at *);(try simp only [zQ,zA,zB,zC,zD,zE,zF,zG,zH,zI,zJ,zK,zL,zM,zN,zO,zP,zR,zS]at *);omega)|(intro ix h0 h1;exact Fit.refl _))|skip))
              |skip
            refine⟨none,[],{k:Nat // k≤c.hr.toNat+1},fun x=>⟨[(3,.own 0 0),(7,.own 2 0),(11,.own 65 0),(51,(.int .i64 (.sym fun _=>zi (c.hr.toNat+1)))),(52,(.int .i64 (.sym fun _=>zi x.1)))],[(0,.cells [(wpS c l)] 87),(2,.cells [.row 78] 86),(78,.row 40 2 (.sym fun _=>zi (c.hr.toNat+1)) (fun ix=>[(.int .i64 (.sym fun _=>upF (x.1) G1 w ix.den.toNat)),(.int .i64 (.sym fun _=>upF (x.1) G2 w ix.den.toNat))])),(65,.cells [(.arr 9 (fun ix=>(.int .i64 (.sym fun _=>w ix.den.toNat))))] 112)],300⟩,fun x=>c.hr.toNat+1-x.1,?_,?_⟩
            · refine⟨⟨0,by omega⟩,?_⟩
              cbv
              repeat' (first
                |with_reducible refine hold ?_ ?_
                |with_reducible refine And.intro ?_ ?_)
              all_goals first
                |trivial
                |exact qN (qE (by rfl))
                |exact qN (Fit.refl _)
                |exact qM (qL _)
                |(refine qN (qE ?_);(try simp only [qW]at *);simp only [zQ,zA,zB,zC,zD,zE,zF,zG,zH,zI,zJ,zK,zL,zM,zN,zO,zP,zR,zS]at *;omega)
                |(refine qM (ble_row ?_ ?_)<;>first|rfl|((try simp only [qW]at *);(try simp only [zQ,zA,zB,zC,zD,zE,zF,zG,zH,zI,zJ,zK,zL,zM,zN,zO,zP,zR,zS]at *);omega)|(intro ix h0 h1;exact qC (qE (upF_zero _ _ _)) rfl (qC (qE (upF_zero _ _ _)) rfl qA)))
                |skip
            · rintro ⟨k,hk⟩
              cbv
              repeat' (first
                  |with_reducible refine hold ?_ ?_
                  |with_reducible refine And.intro ?_ ?_
                  |(with_reducible intro hcd;(try simp only [zA,zB,zC,zD,zE,zF,zG,zH,zI,zJ,zK,zL,zM,zN,zO,zP]at hcd);try cbv)
                  | (refine qQ ?_ (c102 (upF k G1 w k) (upF k G2 w k) (w k) _ (wk w k)) ?hfit
                     case hfit=>((repeat' (first|exact qB|refine qD ?_ ?_|exact qE (by rfl)|exact qG (by rfl)|exact Fit.refl _|exact qA|refine qC ?_ rfl ?_));done)
                     try cbv)
                  | (refine⟨fun ix=>[(.int .i64 (.sym fun _=>upF (k+1) G1 w ix.den.toNat)),(.int .i64 (.sym fun _=>upF (k+1) G2 w ix.den.toNat))],?_⟩
                     cbv
                     refine hold (hold_rowupd (by(try simp only [qW]at *);(try simp only [zQ,zA,zB,zC,zD,zE,zF,zG,zH,zI,zJ,zK,zL,zM,zN,zO,zP,zR,zS]at *);omega) (by intro jx h0 h1 h2;refine qC (qE (upF_old (by(try simp only [qW]at *);(try simp only [zQ,zA,zB,zC,zD,zE,zF,zG,zH,zI,zJ,zK,zL,zM,zN,zO,zP,zR,zS]at *);omega))) rfl (qC (qE (upF_old (by(try simp only [qW]at *);(try simp only [zQ,zA,zB,zC,zD,zE,zF,zG,zH,zI,zJ,zK,zL,zM,zN,zO,zP,zR,zS]at *);omega))) rfl qA)) (by intro jx h0 h1 h2;refine⟨_,rfl,qC (qE (upd_lo (hmn k) (by(try simp only [qW]at *);(try simp only [zQ,zA,zB,zC,zD,zE,zF,zG,zH,zI,zJ,zK,zL,zM,zN,zO,zP,zR,zS]at *);omega))) rfl (qC (qE (upd_hi (hmx k) (by(try simp only [qW]at *);(try simp only [zQ,zA,zB,zC,zD,zE,zF,zG,zH,zI,zJ,zK,zL,zM,zN,zO,zP,zR,zS]at *);omega))) rfl qA)⟩)) ?_
                     try cbv)
                  |fail)
              all_goals first
                |trivial
                |((try simp only [qW]at *);(try simp only [zQ,zA,zB,zC,zD,zE,zF,zG,zH,zI,zJ,zK,zL,zM,zN,zO,zP,zR,zS]at *);first|(refine qO ?_;omega)|(simp only [Hold];omega))
                |((try simp only [zQ,zA,zB,zC,zD,zE,zF,zG,zH,zI,zJ,zK,zL,zM,zN,zO,zP,zR,zS]at *);refine⟨⟨k+1,by omega⟩,by simp only [];omega,?_⟩;cbv;(repeat' (first|with_reducible refine hold ?_ ?_|with_reducible refine And.intro ?_ ?_));(all_goals first|trivial|exact qN (qE (by rfl))|exact qN (qG (by rfl))|exact qN (Fit.refl _)|exact qM (qL _)|(refine qN (qE ?_);(try simp only [qW]at *);simp only [zQ,zA,zB,zC,zD,zE,zF,zG,zH,zI,zJ,zK,zL,zM,zN,zO,zP,zR,zS]at *;omega)|(refine qM (qK ?_);(repeat' (first|exact qA|exact qB|refine qC ?_ rfl ?_|refine qD ?_ ?_|exact qE (by rfl)|exact qG (by rfl)|exact Fit.refl _|exact qH _|(refine qE ?_;(try simp only [qW]at *);simp only [zQ,zA,zB,zC,zD,zE,zF,zG,zH,zI,zJ,zK,zL,zM,zN,zO,zP,zR,zS]at *;omega)));done)|(refine qM (ble_row ?_ ?_)<;>first|rfl|((try simp only [qW]at *);(try simp only [zQ,zA,zB,zC,zD,zE,zF,zG,zH,zI,zJ,zK,zL,zM,zN,zO,zP,zR,zS]at *);omega)|(intro ix h0 h1;exact Fit.refl _))|skip))
                |(refine⟨⟨false,hE.symm⟩,?_⟩;cbv;(repeat' (first|with_reducible refine hold ?_ ?_|with_reducible refine And.intro ?_ ?_));(all_goals first|trivial|exact qN (qE (by rfl))|exact qN (qG (by rfl))|exact qN (Fit.refl _)|exact qM (qL _)|(refine qN (qE ?_);(try simp only [qW]at *);simp only [zQ,zA,zB,zC,zD,zE,zF,zG,zH,zI,zJ,zK,zL,zM,zN,zO,zP,zR,zS]at *;omega)|(refine qM (qK ?_);(repeat' (first|exact qA|exact qB|refine qC ?_ rfl ?_|refine qD ?_ ?_|exact qE (by rfl)|exact qG (by rfl)|exact Fit.refl _|exact qH _|(refine qE ?_;(try simp only [qW]at *);simp only [zQ,zA,zB,zC,zD,zE,zF,zG,zH,zI,zJ,zK,zL,zM,zN,zO,zP,zR,zS]at *;omega)));done)|(refine qM (ble_row ?_ ?_)<;>first|rfl|(intro ix h0 h1;exact qC (qE ((upF_all (by(try simp only [qW]at *);(try simp only [zQ,zA,zB,zC,zD,zE,zF,zG,zH,zI,zJ,zK,zL,zM,zN,zO,zP,zR,zS]at *);omega)).trans (congrFun hG1 _))) rfl (qC (qE ((upF_all (by(try simp only [qW]at *);(try simp only [zQ,zA,zB,zC,zD,zE,zF,zG,zH,zI,zJ,zK,zL,zM,zN,zO,zP,zR,zS]at *);omega)).trans (congrFun hG2 _))) rfl qA)))|skip))
                |skip
      · rintro⟨b,hb⟩
        cases b
        · cbv
          repeat' (first
              |with_reducible refine hold ?_ ?_
              |fail)
          all_goals first
            |((try simp only [qW]at *);(try simp only [zQ,zA,zB,zC,zD,zE,zF,zG,zH,zI,zJ,zK,zL,zM,zN,zO,zP,zR,zS]at *);first|(refine qO ?_;omega)|(simp only [Hold];omega))
            |((try simp only [zQ,zA,zB,zC,zD,zE,zF,zG,zH,zI,zJ,zK,zL,zM,zN,zO,zP,zR,zS]at *);refine⟨⟨(r+1,false),by((try simp only [qW]at *);(try simp only [zQ,zA,zB,zC,zD,zE,zF,zG,zH,zI,zJ,zK,zL,zM,zN,zO,zP,zR,zS]at *);omega),by rw [←hVVL];exact hb⟩,by simp only [];omega,?_⟩;cbv;(repeat' (first|with_reducible refine hold ?_ ?_|with_reducible refine And.intro ?_ ?_));(all_goals first|trivial|exact qN (qE (by rfl))|exact qN (qG (by rfl))|exact qN (Fit.refl _)|exact qM (qL _)|(refine qN (qE ?_);(try simp only [qW]at *);simp only [zQ,zA,zB,zC,zD,zE,zF,zG,zH,zI,zJ,zK,zL,zM,zN,zO,zP,zR,zS]at *;omega)|(refine qM (qK ?_);(repeat' (first|exact qA|exact qB|refine qC ?_ rfl ?_|refine qD ?_ ?_|exact qE (by rfl)|exact qG (by rfl)|exact Fit.refl _|exact qH _|(refine qE ?_;(try simp only [qW]at *);simp only [zQ,zA,zB,zC,zD,zE,zF,zG,zH,zI,zJ,zK,zL,zM,zN,zO,zP,zR,zS]at *;omega)));done)|(refine qM (ble_row ?_ ?_)<;>first|rfl|(intro ix h0 h1;simp only [hVVL];exact Fit.refl _))|skip))
            |skip
        · cbv
          repeat' (first
              |with_reducible refine hold ?_ ?_
              |fail)
          all_goals first
            |((try simp only [qW]at *);(try simp only [zQ,zA,zB,zC,zD,zE,zF,zG,zH,zI,zJ,zK,zL,zM,zN,zO,zP,zR,zS]at *);first|(refine qO ?_;omega)|(simp only [Hold];omega))
            |((try simp only [zQ,zA,zB,zC,zD,zE,zF,zG,zH,zI,zJ,zK,zL,zM,zN,zO,zP,zR,zS]at *);refine⟨⟨(r+1,true),by((try simp only [qW]at *);(try simp only [zQ,zA,zB,zC,zD,zE,zF,zG,zH,zI,zJ,zK,zL,zM,zN,zO,zP,zR,zS]at *);omega),by rw [←hVVL];exact hb⟩,by simp only [];omega,?_⟩;cbv;(repeat' (first|with_reducible refine hold ?_ ?_|with_reducible refine And.intro ?_ ?_));(all_goals first|trivial|exact qN (qE (by rfl))|exact qN (qG (by rfl))|exact qN (Fit.refl _)|exact qM (qL _)|(refine qN (qE ?_);(try simp only [qW]at *);simp only [zQ,zA,zB,zC,zD,zE,zF,zG,zH,zI,zJ,zK,zL,zM,zN,zO,zP,zR,zS]at *;omega)|(refine qM (qK ?_);(repeat' (first|exact qA|exact qB|refine qC ?_ rfl ?_|refine qD ?_ ?_|exact qE (by rfl)|exact qG (by rfl)|exact Fit.refl _|exact qH _|(refine qE ?_;(try simp only [qW]at *);simp only [zQ,zA,zB,zC,zD,zE,zF,zG,zH,zI,zJ,zK,zL,zM,zN,zO,zP,zR,zS]at *;omega)));done)|(refine qM (ble_row ?_ ?_)<;>first|rfl|(intro ix h0 h1;simp only [hVVL];exact Fit.refl _))|skip))
            |skip
end Go.Proofs.YteelocfbbhchcaaGreat

namespace Go.Proofs.YteelocfbbhchcaaGreat
open Go Go.Eng Go.Proofs
set_option maxRecDepth 10000
theorem mem_wysN {c:Clr} {l:List LookT} {v:Int} {rs:List Int} {x:Int×Int×Int}:∀{n:Nat},x∈wysN c l v rs n↔∃k,k<n∧x∈wysR c l v (rs.getD k 0):=by
  intro n
  induction n with
  |zero=>simp only [wysN,List.not_mem_nil,false_iff];rintro⟨k,h,_⟩;omega
  | succ n ih=>
    simp only [wysN,List.mem_append,ih]
    constructor
    · rintro(⟨k,h,q⟩|q)
      · exact⟨k,by omega,q⟩
      · exact⟨n,by omega,q⟩
    · rintro⟨k,h,q⟩
      by_cases e:k=n
      · exact Or.inr (e▸q)
      · exact Or.inl ⟨k,by omega,q⟩
theorem mem_getD {L:List Int} {k:Nat}(h:k<L.length):L.getD k 0∈L:=by
  rw [List.getD_eq_getElem?_getD,List.getElem?_eq_getElem h];exact List.getElem_mem h
theorem getD_mem {L:List Int} {x:Int}(h:x∈L):∃k,k<L.length∧L.getD k 0=x:=by
  obtain⟨k,hk,e⟩:=List.getElem_of_mem h
  exact⟨k,hk,by rw [List.getD_eq_getElem?_getD,List.getElem?_eq_getElem hk];exact e⟩
theorem mem_wysL {c:Clr} {l:List LookT} {v:Int} {rs:List Int} {x:Int×Int×Int}:x∈wysL c l v rs↔∃rm,rm∈rs∧∃w,w∈waysC c l v rm []∧x=(rm,w.1,w.2):=by
  unfold wysL
  rw [mem_wysN]
  constructor
  · rintro⟨k,hk,q⟩
    unfold wysR at q
    obtain⟨w,hw,e⟩:=List.mem_map.1 q
    exact⟨_,mem_getD hk,w,hw,e.symm⟩
  · rintro⟨rm,hm,w,hw,e⟩
    obtain⟨k,hk,e'⟩:=getD_mem hm
    refine⟨k,hk,?_⟩
    rw [e',e]
    exact List.mem_map.2 ⟨w,hw,rfl⟩
theorem some_mem {α:Type} {L:List α}(h:0<L.length):∃x,x∈L:=by
  cases L with
  |nil=>cases h
  |cons x t=>exact⟨x,List.mem_cons_self ..⟩
theorem isEmpty_mem {α:Type} {L:List α} {x:α}(h:x∈L):L.isEmpty=false:=by
  cases L with
  |nil=>cases h
  |cons y t=>rfl
theorem roomB_some {c:Clr} {l:List LookT} {o:List Int} {rm:Int}(h:roomB c l o rm=true) {v:Nat}(hv:v<c.vs.length):0<(waysC c l (v:Int) rm o).length:=by
  unfold roomB at h
  rw [allB_t]at h
  exact of_decide_eq_true (h v hv)
theorem room_bd {c:Clr}(hc:COk c) {l:List LookT} {o:List Int} {k:Nat}(h:k<(roomsL c l o).length):0≤(roomsL c l o).getD k 0∧(roomsL c l o).getD k 0≤200:=by
  have:=(mem_rooms hc.ok.r1).1 (mem_getD h)
  have:=hc.ok.r0;have:=hc.ok.r2
  omega
theorem rooms_len {c:Clr}(hc:COk c)(l:List LookT)(o:List Int):(roomsL c l o).length≤21:=by
  have:=roomsN_len c l o (c.rh-c.rl+1).toNat
  have:=hc.ok.r3
  unfold roomsL;omega
def vyL (c:Clr)(l:List LookT)(v:Nat):List (Int×Int×Int):=wysL c l (v:Int) (roomsL c l [])
theorem vyL_ne {c:Clr} {l:List LookT}(h:askE c l=0) {v:Nat}(hv:v<c.vs.length):(vyL c l v).isEmpty=false:=by
  obtain⟨h1,h2⟩:=askE_ok h
  obtain⟨hc,hl⟩:=lookedF_spec h1
  obtain⟨rm,hm⟩:=some_mem (show 0<(roomsL c l []).length by omega)
  obtain⟨w,hw⟩:=some_mem (roomB_some ((mem_rooms hc.ok.r1).1 hm).2.2 hv)
  exact isEmpty_mem (mem_wysL.2 ⟨rm,hm,w,hw,rfl⟩)
def bndN (c:Clr)(l:List LookT):Nat:=if askE c l=0 then c.vs.length else 0
theorem bndN_yes {c:Clr} {l:List LookT}(h:askE c l=0):bndN c l=c.vs.length:=by unfold bndN;rw [if_pos h]
theorem bndN_no {c:Clr} {l:List LookT}(h:¬askE c l=0):bndN c l=0:=by unfold bndN;rw [if_neg h]
def oyL (c:Clr)(l:List LookT)(rm:Int)(v:Nat):List (Int×Int×Int):=wysL c l (v:Int) [rm]
theorem oyL_ne {c:Clr} {l:List LookT} {rm:Int}(h:roomB c l [] rm=true) {v:Nat}(hv:v<c.vs.length):(oyL c l rm v).isEmpty=false:=by
  obtain⟨w,hw⟩:=some_mem (roomB_some h hv)
  exact isEmpty_mem (mem_wysL.2 ⟨rm,List.mem_singleton.2 rfl,w,hw,rfl⟩)
def okT (c:Clr)(l:List LookT)(rm:Int)(h:Nat)(lim:Int)(v:Nat):Bool:=decide (hiW c (oyL c l rm v) h≤lim)
def okM (c:Clr)(l:List LookT)(rm:Int)(h:Nat)(lim:Int)(v:Nat):Bool:=decide (loW c (oyL c l rm v) h≤lim)
def coolT (c:Clr)(l:List LookT)(h:Nat)(lim rm:Int):Bool:=allB (okT c l rm h lim) c.vs.length
def coolM (c:Clr)(l:List LookT)(h:Nat)(lim rm:Int):Bool:=allB (okM c l rm h lim) c.vs.length
def sureB (c:Clr)(l:List LookT)(lim:Int)(h:Nat):Bool:=allB (fun i=>coolT c l h lim ((roomsL c l []).getD i 0)) (roomsL c l []).length
def mayB (c:Clr)(l:List LookT)(lim:Int)(h:Nat):Bool:=decide (0≤fidx (fun i=> !(coolM c l h lim ((roomsL c l []).getD i 0))) (roomsL c l []).length 0)
def hourN (p:Nat→Bool):Nat→Int
  |0=> -1
  |n+1=>if hourN p n = -1 then(if p n=true then(n:Int)else -1)else hourN p n
def sureH (c:Clr)(l:List LookT)(lim:Int):Int:=if askE c l=0 then hourN (sureB c l lim) (c.hr.toNat+1)else 0
def mayH (c:Clr)(l:List LookT)(lim:Int):Int:=if askE c l=0 then hourN (mayB c l lim) (c.hr.toNat+1)else 0
theorem hour_stay {p:Nat→Bool} {n:Nat}(h:¬hourN p n = -1):hourN p n=hourN p (n+1):=by simp only [hourN,if_neg h]
theorem hour_no {p:Nat→Bool} {n:Nat}(h:hourN p n = -1)(hp:p n=false):hourN p n=hourN p (n+1):=by simp only [hourN,if_pos h,hp];rw [if_neg (by simp),h]
theorem hour_yes {p:Nat→Bool} {n:Nat}(h:hourN p n = -1)(hp:p n=true):(n:Int)=hourN p (n+1):=by simp only [hourN,if_pos h,hp,if_true]
theorem hour_bd (p:Nat→Bool)(n:Nat): -1≤hourN p n∧hourN p n<n:=by
  induction n with
  |zero=>simp only [hourN];omega
  |succ n ih=>simp only [hourN];split<;>(try split)<;>omega
end Go.Proofs.YteelocfbbhchcaaGreat

namespace Go.Proofs.YteelocfbbhchcaaGreat
open Go Go.Eng Go.Proofs
set_option maxRecDepth 10000
theorem bounds30y (c:Clr)(l:List LookT)(h:askE c l=0):FSpec Tryz.prog 25 [(clrS c),(lksS l)] [] (fun r _=>r=(.tup [(.sl 1 (.sym fun _=>zi (bndN c l)) (fun ix=>[(.sl 2 (.sym fun _=>zi (c.hr.toNat+1)) (fun jx=>[(.int .i64 (.sym fun _=>loW c (vyL c l ix.den.toNat) jx.den.toNat)),(.int .i64 (.sym fun _=>hiW c (vyL c l ix.den.toNat) jx.den.toNat))]))])),(.int .i64 (.sym fun _=>askE c l))])):=by
  have c71:=asked71 c l h
  have c72:=fun (v:Nat) (hv:v<c.vs.length)=>(show FSpec Tryz.prog 55 [(wpS c l),(.sl 1 (.sym fun _=>zi (roomsL c l []).length) (fun ix=>[.int .i64 (.sym fun _=>(roomsL c l []).getD ix.den.toNat 0)])),(.int .i64 (.sym fun _=>zi v))] [] (fun r _=>r=(.sl 2 (.sym fun _=>zi (bdN c (vyL c l v))) (fun jx=>[(.int .i64 (.sym fun _=>loW c (vyL c l v) jx.den.toNat)),(.int .i64 (.sym fun _=>hiW c (vyL c l v) jx.den.toNat))])))from bounds72 c l (zi v) (roomsL c l []) (lookedF_spec (askE_ok h).1).1 (lookedF_spec (askE_ok h).1).2 (by simp only [zi_den];omega) (by simp only [zi_den];omega) (by have:=rooms_len (lookedF_spec (askE_ok h).1).1 l [];omega) (fun k hk=>room_bd (lookedF_spec (askE_ok h).1).1 hk))
  refine FSpec.is fun R hR=>qX (sc:=sc25) tyok mix Tryz.func25 rfl Tryz.call25 (by kernel_rfl) (by kernel_rfl) ?_
  generalize Tryz.prog=P at c71 c72⊢
  cbv
  have hc:=(lookedF_spec (askE_ok h).1).1
  have hfv:=hc.few.v
  repeat' (first
      |with_reducible refine And.intro ?_ ?_
      |(with_reducible intro hcd;(try simp only [zA,zB,zC,zD,zE,zF,zG,zH,zI,zJ,zK,zL,zM,zN,zO,zP]at hcd);try cbv)
      | (refine qQ ?_ (c71) ?hfit
         case hfit=>((repeat' (first|exact qB|refine qD ?_ ?_|exact qE (by rfl)|exact qG (by rfl)|exact Fit.refl _|exact qA|refine qC ?_ rfl ?_));done)
         try cbv)
      |fail)
  all_goals first
    |trivial
    |skip
  refine⟨none,[⟨.tmp 9,86,1⟩],{i:Nat // i≤c.vs.length},fun x=>⟨[(2,.own 0 0),(6,(wpS c l)),(7,(.sl 1 (.sym fun _=>zi (roomsL c l []).length) (fun ix=>[.int .i64 (.sym fun _=>(roomsL c l []).getD ix.den.toNat 0)]))),(9,.row 20),(23,(.int .i64 (.sym fun _=>zi c.vs.length))),(24,(.int .i64 (.sym fun _=>zi x.1)))],[(0,.cells [(.int .i64 (.sym fun _=>c.rl)),(.int .i64 (.sym fun _=>c.rh)),(.int .i64 (.sym fun _=>c.hr)),(.sl 4 (.sym fun _=>zi c.vs.length) (fun ix=>[(.int .i64 (.sym fun _=>(c.vs.getD ix.den.toNat v0).sl)),(.int .i64 (.sym fun _=>(c.vs.getD ix.den.toNat v0).sh)),(.int .i64 (.sym fun _=>(c.vs.getD ix.den.toNat v0).rl)),(.int .i64 (.sym fun _=>(c.vs.getD ix.den.toNat v0).rh))])),(.sl 2 (.sym fun _=>zi c.ts.length) (fun ix=>[(.int .i64 (.sym fun _=>(c.ts.getD ix.den.toNat t0).top)),(.sl 3 (.sym fun _=>zi ((c.ts.getD ix.den.toNat t0).ps).length) (fun jx=>[(.int .i64 (.sym fun _=>(((c.ts.getD ix.den.toNat t0).ps).getD jx.den.toNat p0).f)),(.int .i64 (.sym fun _=>(((c.ts.getD ix.den.toNat t0).ps).getD jx.den.toNat p0).el)),(.int .i64 (.sym fun _=>(((c.ts.getD ix.den.toNat t0).ps).getD jx.den.toNat p0).eh))]))]))] 44),(20,.row 86 1 (.sym fun _=>zi x.1) (fun ix=>[(.sl 2 (.sym fun _=>zi (c.hr.toNat+1)) (fun jx=>[(.int .i64 (.sym fun _=>loW c (vyL c l ix.den.toNat) jx.den.toNat)),(.int .i64 (.sym fun _=>hiW c (vyL c l ix.den.toNat) jx.den.toNat))]))]))],90⟩,fun x=>c.vs.length-x.1,?_,?_⟩
  · refine⟨⟨0,by omega⟩,?_⟩
    cbv
    repeat' (first
      |with_reducible refine hold ?_ ?_
      |with_reducible refine And.intro ?_ ?_)
    all_goals first
      |trivial
      |exact qN (qE (by rfl))
      |exact qN (Fit.refl _)
      |exact qM (qL _)
      |(refine qM (ble_row ?_ ?_);(first|rfl|((try simp only [qW]at *);(try simp only [zQ,zA,zB,zC,zD,zE,zF,zG,zH,zI,zJ,zK,zL,zM,zN,zO,zP,zR,zS]at *);omega));intro ix h0 h1;exfalso;(try simp only [qW]at *);(try simp only [zQ,zA,zB,zC,zD,zE,zF,zG,zH,zI,zJ,zK,zL,zM,zN,zO,zP,zR,zS]at *);omega)
      |skip
  · rintro ⟨i,hi⟩
    cbv
    repeat' (first
        |with_reducible refine hold ?_ ?_
        |with_reducible refine And.intro ?_ ?_
        |(with_reducible intro hcd;(try simp only [zA,zB,zC,zD,zE,zF,zG,zH,zI,zJ,zK,zL,zM,zN,zO,zP]at hcd);try cbv)
        | (refine qQ ?_ (c72 i (by((try simp only [qW]at *);(try simp only [zQ,zA,zB,zC,zD,zE,zF,zG,zH,zI,zJ,zK,zL,zM,zN,zO,zP,zR,zS]at *);omega))) ?hfit
           case hfit=>((repeat' (first|exact qB|refine qD ?_ ?_|exact qE (by rfl)|exact qG (by rfl)|exact Fit.refl _|exact qA|refine qC ?_ rfl ?_));done)
           try cbv)
        | (refine⟨fun ix=>[(.sl 2 (.sym fun _=>zi (c.hr.toNat+1)) (fun jx=>[(.int .i64 (.sym fun _=>loW c (vyL c l ix.den.toNat) jx.den.toNat)),(.int .i64 (.sym fun _=>hiW c (vyL c l ix.den.toNat) jx.den.toNat))]))],?_⟩
           cbv
           refine hold (hold_rowapp (by intro ix jx h0 h1 h2;simp only [h2];exact Fit.refl _) (by intro ix jx h0 h1 h2;(have h3:jx.den.toNat=i:=by((try simp only [qW]at *);(try simp only [zQ,zA,zB,zC,zD,zE,zF,zG,zH,zI,zJ,zK,zL,zM,zN,zO,zP,zR,zS]at *);omega));simp only [h3];exact qC (fit_sl (congrArg zi (bdN_one (vyL_ne h (by((try simp only [qW]at *);(try simp only [zQ,zA,zB,zC,zD,zE,zF,zG,zH,zI,zJ,zK,zL,zM,zN,zO,zP,zR,zS]at *);omega))))) (fun _ _ _=>Fit.refl _)) rfl qA) (by(try simp only [qW]at *);(try simp only [zQ,zA,zB,zC,zD,zE,zF,zG,zH,zI,zJ,zK,zL,zM,zN,zO,zP,zR,zS]at *);omega)) (Or.inl ?_)
           try cbv)
        |fail)
    all_goals first
      |((try simp only [qW]at *);(try simp only [zQ,zA,zB,zC,zD,zE,zF,zG,zH,zI,zJ,zK,zL,zM,zN,zO,zP,zR,zS]at *);first|(refine qO ?_;omega)|(simp only [Hold];omega))
      |((have hie:i=c.vs.length:=(by((try simp only [qW]at *);(try simp only [zQ,zA,zB,zC,zD,zE,zF,zG,zH,zI,zJ,zK,zL,zM,zN,zO,zP,zR,zS]at *);omega)));subst hR;exact qD (fit_sl (congrArg zi (hie.trans (bndN_yes h).symm)) (fun _ _ _=>Fit.refl _)) (qD (qE h.symm) qB))
      |((try simp only [zQ,zA,zB,zC,zD,zE,zF,zG,zH,zI,zJ,zK,zL,zM,zN,zO,zP,zR,zS]at *);refine⟨⟨i+1,by omega⟩,by simp only [];omega,?_⟩;cbv;(repeat' (first|with_reducible refine hold ?_ ?_|with_reducible refine And.intro ?_ ?_));(all_goals first|trivial|exact qN (qE (by rfl))|exact qN (qG (by rfl))|exact qN (Fit.refl _)|exact qM (qL _)|(refine qN (qE ?_);(try simp only [qW]at *);simp only [zQ,zA,zB,zC,zD,zE,zF,zG,zH,zI,zJ,zK,zL,zM,zN,zO,zP,zR,zS]at *;omega)|(refine qM (qK ?_);(repeat' (first|exact qA|exact qB|refine qC ?_ rfl ?_|refine qD ?_ ?_|exact qE (by rfl)|exact qG (by rfl)|exact Fit.refl _|exact qH _|(refine qE ?_;(try simp only [qW]at *);simp only [zQ,zA,zB,zC,zD,zE,zF,zG,zH,zI,zJ,zK,zL,zM,zN,zO,zP,zR,zS]at *;omega)));done)|(refine qM (ble_row ?_ ?_)<;>first|rfl|((try simp only [qW]at *);(try simp only [zQ,zA,zB,zC,zD,zE,zF,zG,zH,zI,zJ,zK,zL,zM,zN,zO,zP,zR,zS]at *);omega)|(intro ix h0 h1;exact Fit.refl _))|skip))
      |skip
theorem bounds30n (c:Clr)(l:List LookT)(h:¬askE c l=0):FSpec Tryz.prog 25 [(clrS c),(lksS l)] [] (fun r _=>r=(.tup [(.sl 1 (.sym fun _=>zi (bndN c l)) (fun ix=>[(.sl 2 (.sym fun _=>zi (c.hr.toNat+1)) (fun jx=>[(.int .i64 (.sym fun _=>loW c (vyL c l ix.den.toNat) jx.den.toNat)),(.int .i64 (.sym fun _=>hiW c (vyL c l ix.den.toNat) jx.den.toNat))]))])),(.int .i64 (.sym fun _=>askE c l))])):=by
  have c71:=asked71n c l h
  refine FSpec.is fun R hR=>qX (sc:=sc25) tyok mix Tryz.func25 rfl Tryz.call25 (by kernel_rfl) (by kernel_rfl) ?_
  generalize Tryz.prog=P at c71⊢
  cbv
  repeat' (first
      |with_reducible refine And.intro ?_ ?_
      |(with_reducible intro hcd;(try simp only [zA,zB,zC,zD,zE,zF,zG,zH,zI,zJ,zK,zL,zM,zN,zO,zP]at hcd);try cbv)
      | (refine qQ ?_ (c71) ?hfit
         case hfit=>((repeat' (first|exact qB|refine qD ?_ ?_|exact qE (by rfl)|exact qG (by rfl)|exact Fit.refl _|exact qA|refine qC ?_ rfl ?_));done)
         try cbv)
      |fail)
  all_goals first
    |trivial
    |(subst hR;exact qD (qP (congrArg zi (bndN_no h))) (qD (Fit.refl _) qB);done)
    |skip
theorem bounds30 (c:Clr)(l:List LookT):FSpec Tryz.prog 25 [(clrS c),(lksS l)] [] (fun r _=>r=(.tup [(.sl 1 (.sym fun _=>zi (bndN c l)) (fun ix=>[(.sl 2 (.sym fun _=>zi (c.hr.toNat+1)) (fun jx=>[(.int .i64 (.sym fun _=>loW c (vyL c l ix.den.toNat) jx.den.toNat)),(.int .i64 (.sym fun _=>hiW c (vyL c l ix.den.toNat) jx.den.toNat))]))])),(.int .i64 (.sym fun _=>askE c l))])):=by
  by_cases h:askE c l=0
  · exact bounds30y c l h
  · exact bounds30n c l h
end Go.Proofs.YteelocfbbhchcaaGreat

namespace Go.Proofs.YteelocfbbhchcaaGreat
open Go Go.Eng Go.Proofs
set_option maxRecDepth 10000
theorem setl_k {P:Program} {f:FuncId} {args args':List SV} {K:SV→Prop} {R:SV}(h:K R)(hF:FSpec P f args' [] fun r _=>r=R)(ha:Fit (.tup args) (.tup args')):
    ∃post:SV→Prop,FSpec P f args [] (fun r _=>post r)∧∀r,post r→K r:=⟨fun r=>r=R,hF.pre ha,fun r hr=>hr▸h⟩
theorem okM_no {c:Clr} {l:List LookT} {rm:Int} {h:Nat} {lim:Int} {v:Nat}(q:lim<loW c (oyL c l rm v) h):okM c l rm h lim v=false:=decide_eq_false (by omega)
theorem okM_yes {c:Clr} {l:List LookT} {rm:Int} {h:Nat} {lim:Int} {v:Nat}(q:¬lim<loW c (oyL c l rm v) h):okM c l rm h lim v=true:=decide_eq_true (by omega)
theorem okT_no {c:Clr} {l:List LookT} {rm:Int} {h:Nat} {lim:Int} {v:Nat}(q:lim<hiW c (oyL c l rm v) h):okT c l rm h lim v=false:=decide_eq_false (by omega)
theorem okT_yes {c:Clr} {l:List LookT} {rm:Int} {h:Nat} {lim:Int} {v:Nat}(q:¬lim<hiW c (oyL c l rm v) h):okT c l rm h lim v=true:=decide_eq_true (by omega)
theorem allB_no {p:Nat→Bool} {n i:Nat}(hi:i<n)(h:p i=false):allB p n=false:=by rw [allB_f];intro q;rw [q i hi]at h;cases h
theorem allB_yes {p:Nat→Bool} {n:Nat}(h:∀i,i<n→p i=true):allB p n=true:=by rw [allB_t];exact h
structure RoomIn (c:Clr)(l:List LookT)(rm:Int):Prop where
  r0:0≤rm
  r1:rm≤200
  ok:roomB c l [] rm=true
theorem roomIn_at {c:Clr}(hc:COk c) {l:List LookT} {k:Nat}(h:k<(roomsL c l []).length):RoomIn c l ((roomsL c l []).getD k 0):=⟨(room_bd hc h).1,(room_bd hc h).2,((mem_rooms hc.ok.r1).1 (mem_getD h)).2.2⟩
theorem cool75M (c:Clr)(l:List LookT)(rm:Int)(h:Nat)(lim:Int)(hc:COk c)(hl:LooksIn c l)(hr:RoomIn c l rm)(hh:h≤c.hr.toNat):FSpec Tryz.prog 58 [(wpS c l),(.int .i64 (.sym fun _=>rm)),(.int .i64 (.sym fun _=>zi h)),(.int .i64 (.sym fun _=>lim)),.bool (.lit false)] [] (fun r _=>r=(.bool (.sym fun _=>coolM c l h lim rm))):=by
  have c72:=fun (v:Nat) (hv:v<c.vs.length)=>(show FSpec Tryz.prog 55 [(wpS c l),(.sl 1 (.sym fun _=>zi ([rm]).length) (fun ix=>[.int .i64 (.sym fun _=>([rm]).getD ix.den.toNat 0)])),(.int .i64 (.sym fun _=>zi v))] [] (fun r _=>r=(.sl 2 (.sym fun _=>zi (c.hr.toNat+1)) (fun jx=>[(.int .i64 (.sym fun _=>loW c (oyL c l rm v) jx.den.toNat)),(.int .i64 (.sym fun _=>hiW c (oyL c l rm v) jx.den.toNat))])))from by have e:=bdN_one (c:=c) (oyL_ne hr.ok hv);have q:FSpec Tryz.prog 55 [(wpS c l),(.sl 1 (.sym fun _=>zi ([rm]).length) (fun ix=>[.int .i64 (.sym fun _=>([rm]).getD ix.den.toNat 0)])),(.int .i64 (.sym fun _=>zi v))] [] (fun r _=>r=(.sl 2 (.sym fun _=>zi (bdN c (oyL c l rm v))) (fun jx=>[(.int .i64 (.sym fun _=>loW c (oyL c l rm v) jx.den.toNat)),(.int .i64 (.sym fun _=>hiW c (oyL c l rm v) jx.den.toNat))]))):=bounds72 c l (zi v) [rm] hc hl (by simp only [zi_den];omega) (by simp only [zi_den];omega) (by simp) (fun k hk=>by(have e3:k=0:=by simpa using hk);subst e3;exact⟨hr.r0,hr.r1⟩);rw [e]at q;exact q)
  refine FSpec.is fun R hR=>qX (sc:=sc58) tyok mix Tryz.func58 rfl Tryz.call58 (by kernel_rfl) (by kernel_rfl) ?_
  generalize Tryz.prog=P at c72⊢
  cbv
  have hfv:=hc.few.v
  have h8:=hc.ok.h8
  repeat' (first
      |fail)
  all_goals first
    |skip
  refine⟨none,[],{i:Nat // i≤c.vs.length∧∀j,j<i→okM c l rm h lim j=true},fun x=>⟨[(0,(wpS c l)),(1,(.int .i64 (.sym fun _=>rm))),(2,(.int .i64 (.sym fun _=>zi h))),(3,(.int .i64 (.sym fun _=>lim))),(4,.bool (.lit false)),(19,(.int .i64 (.sym fun _=>zi c.vs.length))),(20,(.int .i64 (.sym fun _=>zi x.1)))],[],60⟩,fun x=>c.vs.length-x.1,?_,?_⟩
  · refine⟨⟨0,by omega,fun j hj=>by omega⟩,?_⟩
    cbv
    repeat' (first
      |with_reducible refine hold ?_ ?_
      |with_reducible refine And.intro ?_ ?_)
    all_goals first
      |trivial
      |exact qN (qE (by rfl))
      |exact qN (qG (by rfl))
      |exact qN (Fit.refl _)
      |skip
  · rintro ⟨i,hi,hq⟩
    cbv
    repeat' (first
        |with_reducible refine hold ?_ ?_
        |with_reducible refine And.intro ?_ ?_
        |(with_reducible intro hcd;(try simp only [zA,zB,zC,zD,zE,zF,zG,zH,zI,zJ,zK,zL,zM,zN,zO,zP]at hcd);try cbv)
        | (refine⟨some [],(65:Nat),?_⟩
           cbv
           refine setl_k ?_ (c72 i (by((try simp only [qW]at *);(try simp only [zQ,zA,zB,zC,zD,zE,zF,zG,zH,zI,zJ,zK,zL,zM,zN,zO,zP,zR,zS]at *);omega))) (by cbv;(refine qD (Fit.refl _) (qD (fit_sl rfl (fun ix h0 h1=>qC (qE (by((have e1:ix.den<1:=h1);(have h3:ix.den.toNat=0:=by omega);rw [h3];rfl))) rfl qA)) (qD (qE (by rfl)) qB))))
           try cbv)
        |fail)
    all_goals first
      |((try simp only [qW]at *);(try simp only [zQ,zA,zB,zC,zD,zE,zF,zG,zH,zI,zJ,zK,zL,zM,zN,zO,zP,zR,zS]at *);first|(refine qO ?_;omega)|(simp only [Hold];omega))
      |(subst hR;(refine qG ?_;(try simp only [qW]at *);(try simp only [zQ,zA,zB,zC,zD,zE,zF,zG,zH,zI,zJ,zK,zL,zM,zN,zO,zP,zR,zS]at *);exact(allB_no (i:=i) (by omega) (okM_no (by assumption))).symm);done)
      |(subst hR;(refine qG ?_;(try simp only [qW]at *);(try simp only [zQ,zA,zB,zC,zD,zE,zF,zG,zH,zI,zJ,zK,zL,zM,zN,zO,zP,zR,zS]at *);exact(allB_yes fun j hj=>hq j (by omega)).symm);done)
      |((try simp only [zQ,zA,zB,zC,zD,zE,zF,zG,zH,zI,zJ,zK,zL,zM,zN,zO,zP,zR,zS]at *);refine⟨⟨i+1,by omega,fun j hj=>(Nat.lt_or_ge j i).elim (hq j) fun q=>by rw [show j=i by omega];exact okM_yes (by assumption)⟩,by simp only [];omega,?_⟩;cbv;(repeat' (first|with_reducible refine hold ?_ ?_|with_reducible refine And.intro ?_ ?_));(all_goals first|trivial|exact qN (qE (by rfl))|exact qN (qG (by rfl))|exact qN (Fit.refl _)|exact qM (qL _)|(refine qN (qE ?_);(try simp only [qW]at *);simp only [zQ,zA,zB,zC,zD,zE,zF,zG,zH,zI,zJ,zK,zL,zM,zN,zO,zP,zR,zS]at *;omega)|(refine qM (qK ?_);(repeat' (first|exact qA|exact qB|refine qC ?_ rfl ?_|refine qD ?_ ?_|exact qE (by rfl)|exact qG (by rfl)|exact Fit.refl _|exact qH _|(refine qE ?_;(try simp only [qW]at *);simp only [zQ,zA,zB,zC,zD,zE,zF,zG,zH,zI,zJ,zK,zL,zM,zN,zO,zP,zR,zS]at *;omega)));done)|skip))
      |skip
theorem cool75T (c:Clr)(l:List LookT)(rm:Int)(h:Nat)(lim:Int)(hc:COk c)(hl:LooksIn c l)(hr:RoomIn c l rm)(hh:h≤c.hr.toNat):FSpec Tryz.prog 58 [(wpS c l),(.int .i64 (.sym fun _=>rm)),(.int .i64 (.sym fun _=>zi h)),(.int .i64 (.sym fun _=>lim)),.bool (.lit true)] [] (fun r _=>r=(.bool (.sym fun _=>coolT c l h lim rm))):=by
  have c72:=fun (v:Nat) (hv:v<c.vs.length)=>(show FSpec Tryz.prog 55 [(wpS c l),(.sl 1 (.sym fun _=>zi ([rm]).length) (fun ix=>[.int .i64 (.sym fun _=>([rm]).getD ix.den.toNat 0)])),(.int .i64 (.sym fun _=>zi v))] [] (fun r _=>r=(.sl 2 (.sym fun _=>zi (c.hr.toNat+1)) (fun jx=>[(.int .i64 (.sym fun _=>loW c (oyL c l rm v) jx.den.toNat)),(.int .i64 (.sym fun _=>hiW c (oyL c l rm v) jx.den.toNat))])))from by have e:=bdN_one (c:=c) (oyL_ne hr.ok hv);have q:FSpec Tryz.prog 55 [(wpS c l),(.sl 1 (.sym fun _=>zi ([rm]).length) (fun ix=>[.int .i64 (.sym fun _=>([rm]).getD ix.den.toNat 0)])),(.int .i64 (.sym fun _=>zi v))] [] (fun r _=>r=(.sl 2 (.sym fun _=>zi (bdN c (oyL c l rm v))) (fun jx=>[(.int .i64 (.sym fun _=>loW c (oyL c l rm v) jx.den.toNat)),(.int .i64 (.sym fun _=>hiW c (oyL c l rm v) jx.den.toNat))]))):=bounds72 c l (zi v) [rm] hc hl (by simp only [zi_den];omega) (by simp only [zi_den];omega) (by simp) (fun k hk=>by(have e3:k=0:=by simpa using hk);subst e3;exact⟨hr.r0,hr.r1⟩);rw [e]at q;exact q)
  refine FSpec.is fun R hR=>qX (sc:=sc58) tyok mix Tryz.func58 rfl Tryz.call58 (by kernel_rfl) (by kernel_rfl) ?_
  generalize Tryz.prog=P at c72⊢
  cbv
  have hfv:=hc.few.v
  have h8:=hc.ok.h8
  repeat' (first
      |fail)
  all_goals first
    |skip
  refine⟨none,[],{i:Nat // i≤c.vs.length∧∀j,j<i→okT c l rm h lim j=true},fun x=>⟨[(0,(wpS c l)),(1,(.int .i64 (.sym fun _=>rm))),(2,(.int .i64 (.sym fun _=>zi h))),(3,(.int .i64 (.sym fun _=>lim))),(4,.bool (.lit true)),(19,(.int .i64 (.sym fun _=>zi c.vs.length))),(20,(.int .i64 (.sym fun _=>zi x.1)))],[],60⟩,fun x=>c.vs.length-x.1,?_,?_⟩
  · refine⟨⟨0,by omega,fun j hj=>by omega⟩,?_⟩
    cbv
    repeat' (first
      |with_reducible refine hold ?_ ?_
      |with_reducible refine And.intro ?_ ?_)
    all_goals first
      |trivial
      |exact qN (qE (by rfl))
      |exact qN (qG (by rfl))
      |exact qN (Fit.refl _)
      |skip
  · rintro ⟨i,hi,hq⟩
    cbv
    repeat' (first
        |with_reducible refine hold ?_ ?_
        |with_reducible refine And.intro ?_ ?_
        |(with_reducible intro hcd;(try simp only [zA,zB,zC,zD,zE,zF,zG,zH,zI,zJ,zK,zL,zM,zN,zO,zP]at hcd);try cbv)
        | (refine⟨some [],(65:Nat),?_⟩
           cbv
           refine setl_k ?_ (c72 i (by((try simp only [qW]at *);(try simp only [zQ,zA,zB,zC,zD,zE,zF,zG,zH,zI,zJ,zK,zL,zM,zN,zO,zP,zR,zS]at *);omega))) (by cbv;(refine qD (Fit.refl _) (qD (fit_sl rfl (fun ix h0 h1=>qC (qE (by((have e1:ix.den<1:=h1);(have h3:ix.den.toNat=0:=by omega);rw [h3];rfl))) rfl qA)) (qD (qE (by rfl)) qB))))
           try cbv)
        |fail)
    all_goals first
      |((try simp only [qW]at *);(try simp only [zQ,zA,zB,zC,zD,zE,zF,zG,zH,zI,zJ,zK,zL,zM,zN,zO,zP,zR,zS]at *);first|(refine qO ?_;omega)|(simp only [Hold];omega))
      |(subst hR;(refine qG ?_;(try simp only [qW]at *);(try simp only [zQ,zA,zB,zC,zD,zE,zF,zG,zH,zI,zJ,zK,zL,zM,zN,zO,zP,zR,zS]at *);exact(allB_no (i:=i) (by omega) (okT_no (by assumption))).symm);done)
      |(subst hR;(refine qG ?_;(try simp only [qW]at *);(try simp only [zQ,zA,zB,zC,zD,zE,zF,zG,zH,zI,zJ,zK,zL,zM,zN,zO,zP,zR,zS]at *);exact(allB_yes fun j hj=>hq j (by omega)).symm);done)
      |((try simp only [zQ,zA,zB,zC,zD,zE,zF,zG,zH,zI,zJ,zK,zL,zM,zN,zO,zP,zR,zS]at *);refine⟨⟨i+1,by omega,fun j hj=>(Nat.lt_or_ge j i).elim (hq j) fun q=>by rw [show j=i by omega];exact okT_yes (by assumption)⟩,by simp only [];omega,?_⟩;cbv;(repeat' (first|with_reducible refine hold ?_ ?_|with_reducible refine And.intro ?_ ?_));(all_goals first|trivial|exact qN (qE (by rfl))|exact qN (qG (by rfl))|exact qN (Fit.refl _)|exact qM (qL _)|(refine qN (qE ?_);(try simp only [qW]at *);simp only [zQ,zA,zB,zC,zD,zE,zF,zG,zH,zI,zJ,zK,zL,zM,zN,zO,zP,zR,zS]at *;omega)|(refine qM (qK ?_);(repeat' (first|exact qA|exact qB|refine qC ?_ rfl ?_|refine qD ?_ ?_|exact qE (by rfl)|exact qG (by rfl)|exact Fit.refl _|exact qH _|(refine qE ?_;(try simp only [qW]at *);simp only [zQ,zA,zB,zC,zD,zE,zF,zG,zH,zI,zJ,zK,zL,zM,zN,zO,zP,zR,zS]at *;omega)));done)|skip))
      |skip
end Go.Proofs.YteelocfbbhchcaaGreat

namespace Go.Proofs.YteelocfbbhchcaaGreat
open Go Go.Eng Go.Proofs
set_option maxRecDepth 10000
def sureP (c:Clr)(l:List LookT)(lim:Int)(h:Nat)(i:Nat):Bool:=coolT c l h lim ((roomsL c l []).getD i 0)
theorem clo74 (c:Clr)(l:List LookT)(h:Nat)(lim:Int)(i:Nat)(hc:COk c)(hl:LooksIn c l)(hh:h≤c.hr.toNat)(hi:i<(roomsL c l []).length):FSpec Tryz.prog 57 [(.int .i64 (.sym fun _=>(roomsL c l []).getD (i) 0)),.own 0 0,.own 1 0,.own 2 0] [.cells [(wpS c l)] 87,.cells [(.int .i64 (.sym fun _=>zi h))] 3,.cells [(.int .i64 (.sym fun _=>lim))] 3] (fun r bs=>r=(.bool (.sym fun _=>coolM c l h lim ((roomsL c l []).getD (i) 0)))∧bs=[.cells [(wpS c l)] 87,.cells [(.int .i64 (.sym fun _=>zi h))] 3,.cells [(.int .i64 (.sym fun _=>lim))] 3]):=by
  have c75:=cool75M c l ((roomsL c l []).getD (i) 0) h lim hc hl (roomIn_at hc hi) hh
  refine FSpec.isB rfl fun R B hR hB=>qX (sc:=sc57) tyok mix Tryz.func57 rfl Tryz.call57 (by kernel_rfl) (by kernel_rfl) ?_
  generalize Tryz.prog=P at c75⊢
  cbv
  repeat' (first
      |with_reducible refine And.intro ?_ ?_
      | (refine qQ ?_ (c75) ?hfit
         case hfit=>((repeat' (first|exact qB|refine qD ?_ ?_|exact qE (by rfl)|exact qG (by rfl)|exact Fit.refl _|exact qA|refine qC ?_ rfl ?_));done)
         try cbv)
      |fail)
  all_goals first
    |(subst hR;(exact qG rfl);done)
    |(subst hB;(repeat' (first|exact qI|refine qJ ?_ ?_|exact qL _|refine qK ?_|exact qA|exact qE (by rfl)|exact qG (by rfl)|exact Fit.refl _|exact qH _|refine qC ?_ rfl ?_));done)
    |skip
theorem clo77 (c:Clr)(l:List LookT)(h:Nat)(lim:Int)(i:Nat)(hc:COk c)(hl:LooksIn c l)(hh:h≤c.hr.toNat)(hi:i<(roomsL c l []).length):FSpec Tryz.prog 60 [(.int .i64 (.sym fun _=>(roomsL c l []).getD (i) 0)),.own 0 0,.own 1 0,.own 2 0] [.cells [(wpS c l)] 87,.cells [(.int .i64 (.sym fun _=>zi h))] 3,.cells [(.int .i64 (.sym fun _=>lim))] 3] (fun r bs=>r=(.bool (.sym fun _=>sureP c l lim h i))∧bs=[.cells [(wpS c l)] 87,.cells [(.int .i64 (.sym fun _=>zi h))] 3,.cells [(.int .i64 (.sym fun _=>lim))] 3]):=by
  have c75:=cool75T c l ((roomsL c l []).getD (i) 0) h lim hc hl (roomIn_at hc hi) hh
  refine FSpec.isB rfl fun R B hR hB=>qX (sc:=sc60) tyok mix Tryz.func60 rfl Tryz.call60 (by kernel_rfl) (by kernel_rfl) ?_
  generalize Tryz.prog=P at c75⊢
  cbv
  repeat' (first
      |with_reducible refine And.intro ?_ ?_
      | (refine qQ ?_ (c75) ?hfit
         case hfit=>((repeat' (first|exact qB|refine qD ?_ ?_|exact qE (by rfl)|exact qG (by rfl)|exact Fit.refl _|exact qA|refine qC ?_ rfl ?_));done)
         try cbv)
      |fail)
  all_goals first
    |(subst hR;(exact qG rfl);done)
    |(subst hB;(repeat' (first|exact qI|refine qJ ?_ ?_|exact qL _|refine qK ?_|exact qA|exact qE (by rfl)|exact qG (by rfl)|exact Fit.refl _|exact qH _|refine qC ?_ rfl ?_));done)
    |skip
theorem idx103M (c:Clr)(l:List LookT)(h:Nat)(lim:Int)(hc:COk c)(hl:LooksIn c l)(hh:h≤c.hr.toNat):FSpec Tryz.prog 81 [(.sl 1 (.sym fun _=>zi ((roomsL c l [])).length) (fun ix=>[.int .i64 (.sym fun _=>((roomsL c l [])).getD ix.den.toNat 0)])),.clo 57 [] [.own 0 0,.own 1 0,.own 2 0]] [.cells [(wpS c l)] 87,.cells [(.int .i64 (.sym fun _=>zi h))] 3,.cells [(.int .i64 (.sym fun _=>lim))] 3] (fun r bs=>r=(.int .i64 (.sym fun _=>fidx (fun i=> !(coolM c l h lim ((roomsL c l []).getD (i) 0))) (roomsL c l []).length 0))∧bs=[.cells [(wpS c l)] 87,.cells [(.int .i64 (.sym fun _=>zi h))] 3,.cells [(.int .i64 (.sym fun _=>lim))] 3]):=by
  have c74:=fun (i:Nat) (hi:i<(roomsL c l []).length)=>clo74 c l h lim i hc hl hh hi
  refine FSpec.isB rfl fun R B hR hB=>qX (sc:=sc81) tyok mix Tryz.func81 rfl Tryz.call81 (by kernel_rfl) (by kernel_rfl) ?_
  generalize Tryz.prog=P at c74⊢
  cbv
  have hfew:=rooms_len hc l []
  repeat' (first
      |fail)
  all_goals first
    |skip
  refine⟨none,[],{i:Nat // i≤(roomsL c l []).length∧fidx (fun i=> !(coolM c l h lim ((roomsL c l []).getD (i) 0))) (roomsL c l []).length 0=fidx (fun i=> !(coolM c l h lim ((roomsL c l []).getD (i) 0))) ((roomsL c l []).length-i) i},fun x=>⟨[(0,(.sl 1 (.sym fun _=>zi ((roomsL c l [])).length) (fun ix=>[.int .i64 (.sym fun _=>((roomsL c l [])).getD ix.den.toNat 0)]))),(1,.clo 57 [] [.own 0 0,.own 1 0,.own 2 0]),(7,(.int .i64 (.sym fun _=>zi (roomsL c l []).length))),(8,(.int .i64 (.sym fun _=>zi x.1)))],[(0,.cells [(wpS c l)] 87),(1,.cells [(.int .i64 (.sym fun _=>zi h))] 3),(2,.cells [(.int .i64 (.sym fun _=>lim))] 3)],20⟩,fun x=>(roomsL c l []).length-x.1,?_,?_⟩
  · refine⟨⟨0,by omega,rfl⟩,?_⟩
    cbv
    repeat' (first
      |with_reducible refine hold ?_ ?_
      |with_reducible refine And.intro ?_ ?_)
    all_goals first
      |trivial
      |exact qN (qE (by rfl))
      |exact qN (Fit.refl _)
      |exact qM (qL _)
      |skip
  · rintro ⟨i,hi,hr⟩
    cbv
    repeat' (first
        |with_reducible refine hold ?_ ?_
        |with_reducible refine And.intro ?_ ?_
        |(with_reducible intro hcd;(try simp only [zA,zB,zC,zD,zE,zF,zG,zH,zI,zJ,zK,zL,zM,zN,zO,zP]at hcd);try cbv)
        | (refine⟨some [0,1,2],?_⟩
           cbv
           refine qR ?_ (c74 i (by((try simp only [qW]at *);(try simp only [zQ,zA,zB,zC,zD,zE,zF,zG,zH,zI,zJ,zK,zL,zM,zN,zO,zP,zR,zS]at *);omega))) (by cbv;(repeat' (first|exact qB|refine qD ?_ ?_|exact qE (by rfl)|exact qG (by rfl)|exact Fit.refl _|exact qA|refine qC ?_ rfl ?_))) (by cbv;(repeat' (first|exact qI|refine qJ ?_ ?_|exact qL _|refine qK ?_|exact qA|exact qE (by rfl)|exact qG (by rfl)|exact Fit.refl _|exact qH _|refine qC ?_ rfl ?_)))
           try cbv)
        |fail)
    all_goals first
      |((try simp only [qW]at *);(try simp only [zQ,zA,zB,zC,zD,zE,zF,zG,zH,zI,zJ,zK,zL,zM,zN,zO,zP,zR,zS]at *);first|(refine qO ?_;omega)|(simp only [Hold];omega))
      |(subst hR;(refine qE ?_;(try simp only [qW]at *);(try simp only [zQ,zA,zB,zC,zD,zE,zF,zG,zH,zI,zJ,zK,zL,zM,zN,zO,zP,zR,zS]at *);rw [hr,fidx_stop (by omega) (by simp_all)]);done)
      |(subst hR;(refine qE ?_;(try simp only [qW]at *);(try simp only [zQ,zA,zB,zC,zD,zE,zF,zG,zH,zI,zJ,zK,zL,zM,zN,zO,zP,zR,zS]at *);rw [hr,show(roomsL c l []).length-i=0 by omega];rfl);done)
      |(subst hB;(repeat' (first|exact qI|refine qJ ?_ ?_|exact qL _|refine qK ?_|exact qA|exact qE (by rfl)|exact qG (by rfl)|exact Fit.refl _|exact qH _|refine qC ?_ rfl ?_));done)
      |((try simp only [zQ,zA,zB,zC,zD,zE,zF,zG,zH,zI,zJ,zK,zL,zM,zN,zO,zP,zR,zS]at *);refine⟨⟨i+1,by omega,by rw [hr,fidx_go (by omega) (by simp_all)];(try congr 1)<;>omega⟩,by simp only [];omega,?_⟩;cbv;(repeat' (first|with_reducible refine hold ?_ ?_|with_reducible refine And.intro ?_ ?_));(all_goals first|trivial|exact qN (qE (by rfl))|exact qN (qG (by rfl))|exact qN (Fit.refl _)|exact qM (qL _)|(refine qN (qE ?_);(try simp only [qW]at *);simp only [zQ,zA,zB,zC,zD,zE,zF,zG,zH,zI,zJ,zK,zL,zM,zN,zO,zP,zR,zS]at *;omega)|(refine qM (qK ?_);(repeat' (first|exact qA|exact qB|refine qC ?_ rfl ?_|refine qD ?_ ?_|exact qE (by rfl)|exact qG (by rfl)|exact Fit.refl _|exact qH _|(refine qE ?_;(try simp only [qW]at *);simp only [zQ,zA,zB,zC,zD,zE,zF,zG,zH,zI,zJ,zK,zL,zM,zN,zO,zP,zR,zS]at *;omega)));done)|skip))
      |skip
theorem cont73M (c:Clr)(l:List LookT)(h:Nat)(lim:Int)(hc:COk c)(hl:LooksIn c l)(hh:h≤c.hr.toNat):FSpec Tryz.prog 56 [(.sl 1 (.sym fun _=>zi ((roomsL c l [])).length) (fun ix=>[.int .i64 (.sym fun _=>((roomsL c l [])).getD ix.den.toNat 0)])),.clo 57 [] [.own 0 0,.own 1 0,.own 2 0]] [.cells [(wpS c l)] 87,.cells [(.int .i64 (.sym fun _=>zi h))] 3,.cells [(.int .i64 (.sym fun _=>lim))] 3] (fun r bs=>r=(.bool (.sym fun _=>mayB c l lim h))∧bs=[.cells [(wpS c l)] 87,.cells [(.int .i64 (.sym fun _=>zi h))] 3,.cells [(.int .i64 (.sym fun _=>lim))] 3]):=by
  have c103:=idx103M c l h lim hc hl hh
  refine FSpec.isB rfl fun R B hR hB=>qX (sc:=sc56) tyok mix Tryz.func56 rfl Tryz.call56 (by kernel_rfl) (by kernel_rfl) ?_
  generalize Tryz.prog=P at c103⊢
  cbv
  repeat' (first
      |with_reducible refine And.intro ?_ ?_
      | (refine⟨some [0,1,2],?_⟩
         cbv
         refine qR ?_ (c103) (by cbv;(repeat' (first|exact qB|refine qD ?_ ?_|exact qE (by rfl)|exact qG (by rfl)|exact Fit.refl _|exact qA|refine qC ?_ rfl ?_))) (by cbv;(repeat' (first|exact qI|refine qJ ?_ ?_|exact qL _|refine qK ?_|exact qA|exact qE (by rfl)|exact qG (by rfl)|exact Fit.refl _|exact qH _|refine qC ?_ rfl ?_)))
         try cbv)
      |fail)
  all_goals first
    |(subst hR;(repeat' (first|exact qA|exact qB|refine qC ?_ rfl ?_|refine qD ?_ ?_|exact qE (by rfl)|exact qG (by rfl)|exact Fit.refl _|exact qH _|(refine qE ?_;(try simp only [qW]at *);simp only [zQ,zA,zB,zC,zD,zE,zF,zG,zH,zI,zJ,zK,zL,zM,zN,zO,zP,zR,zS]at *;omega)));done)
    |(subst hB;(repeat' (first|exact qI|refine qJ ?_ ?_|exact qL _|refine qK ?_|exact qA|exact qE (by rfl)|exact qG (by rfl)|exact Fit.refl _|exact qH _|refine qC ?_ rfl ?_));done)
    |skip
theorem lam104_sure (c:Clr)(l:List LookT)(h:Nat)(lim:Int)(hc:COk c)(hl:LooksIn c l)(hh:h≤c.hr.toNat)(hfew:(roomsL c l []).length≤1000)(i:Nat)(hi:i<(roomsL c l []).length∧∀j,j<i→(sureP c l lim h (j))=true):FSpec Tryz.prog 82 [(.int .i64 (.sym fun _=>(roomsL c l []).getD (i) 0)),.own 0 0] [.cells [.clo 60 [] [.own 1 0,.own 2 0,.own 3 0]] 132,.cells [(wpS c l)] 87,.cells [(.int .i64 (.sym fun _=>zi h))] 3,.cells [(.int .i64 (.sym fun _=>lim))] 3] (fun r bs=>r=(.bool (.sym fun _=> !(sureP c l lim h (i))))∧bs=[.cells [.clo 60 [] [.own 1 0,.own 2 0,.own 3 0]] 132,.cells [(wpS c l)] 87,.cells [(.int .i64 (.sym fun _=>zi h))] 3,.cells [(.int .i64 (.sym fun _=>lim))] 3]):=by
  have cf:=clo77 c l h lim i hc hl hh hi.1
  refine FSpec.isB rfl fun R B hR hB=>qX (sc:=sc82) tyok mix Tryz.func82 rfl Tryz.call82 (by kernel_rfl) (by kernel_rfl) ?_
  generalize Tryz.prog=P at cf⊢
  cbv
  repeat' (first
      |with_reducible refine And.intro ?_ ?_
      | (refine⟨some [1,2,3],?_⟩
         cbv
         refine qR ?_ (cf) (by cbv;(repeat' (first|exact qB|refine qD ?_ ?_|exact qE (by rfl)|exact qG (by rfl)|exact Fit.refl _|exact qA|refine qC ?_ rfl ?_))) (by cbv;(repeat' (first|exact qI|refine qJ ?_ ?_|exact qL _|refine qK ?_|exact qA|exact qE (by rfl)|exact qG (by rfl)|exact Fit.refl _|exact qH _|refine qC ?_ rfl ?_)))
         try cbv)
      |fail)
  all_goals first
    |(subst hR;(repeat' (first|exact qA|exact qB|refine qC ?_ rfl ?_|refine qD ?_ ?_|exact qE (by rfl)|exact qG (by rfl)|exact Fit.refl _|exact qH _|(refine qE ?_;(try simp only [qW]at *);simp only [zQ,zA,zB,zC,zD,zE,zF,zG,zH,zI,zJ,zK,zL,zM,zN,zO,zP,zR,zS]at *;omega)));done)
    |(subst hB;(repeat' (first|exact qI|refine qJ ?_ ?_|exact qL _|refine qK ?_|exact qA|exact qE (by rfl)|exact qG (by rfl)|exact Fit.refl _|exact qH _|refine qC ?_ rfl ?_));done)
    |skip
theorem idx103_sure (c:Clr)(l:List LookT)(h:Nat)(lim:Int)(hc:COk c)(hl:LooksIn c l)(hh:h≤c.hr.toNat)(hfew:(roomsL c l []).length≤1000):FSpec Tryz.prog 81 [(.sl 1 (.sym fun _=>zi ((roomsL c l [])).length) (fun ix=>[.int .i64 (.sym fun _=>((roomsL c l [])).getD ix.den.toNat 0)])),.clo 82 [] [.own 0 0]] [.cells [.clo 60 [] [.own 1 0,.own 2 0,.own 3 0]] 132,.cells [(wpS c l)] 87,.cells [(.int .i64 (.sym fun _=>zi h))] 3,.cells [(.int .i64 (.sym fun _=>lim))] 3] (fun r bs=>r=(.int .i64 (.sym fun _=>fidx (fun i=>sureP c l lim h (i)) ((roomsL c l []).length) 0))∧bs=[.cells [.clo 60 [] [.own 1 0,.own 2 0,.own 3 0]] 132,.cells [(wpS c l)] 87,.cells [(.int .i64 (.sym fun _=>zi h))] 3,.cells [(.int .i64 (.sym fun _=>lim))] 3]):=by
  have cl:=lam104_sure c l h lim hc hl hh hfew
  refine FSpec.isB rfl fun R B hR hB=>qX (sc:=sc81) tyok mix Tryz.func81 rfl Tryz.call81 (by kernel_rfl) (by kernel_rfl) ?_
  generalize Tryz.prog=P at cl⊢
  cbv
  repeat' (first
      |fail)
  all_goals first
    |skip
  refine⟨none,[],{i:Nat // i≤(roomsL c l []).length∧fidx (fun i=>sureP c l lim h (i)) ((roomsL c l []).length) 0=fidx (fun i=>sureP c l lim h (i)) ((roomsL c l []).length-i) i∧∀j,j<i→(sureP c l lim h (j))=true},fun x=>⟨[(0,(.sl 1 (.sym fun _=>zi ((roomsL c l [])).length) (fun ix=>[.int .i64 (.sym fun _=>((roomsL c l [])).getD ix.den.toNat 0)]))),(1,.clo 82 [] [.own 0 0]),(7,(.int .i64 (.sym fun _=>zi ((roomsL c l []).length)))),(8,(.int .i64 (.sym fun _=>zi x.1)))],[(0,.cells [.clo 60 [] [.own 1 0,.own 2 0,.own 3 0]] 132),(1,.cells [(wpS c l)] 87),(2,.cells [(.int .i64 (.sym fun _=>zi h))] 3),(3,.cells [(.int .i64 (.sym fun _=>lim))] 3)],20⟩,fun x=>(roomsL c l []).length-x.1,?_,?_⟩
  · refine⟨⟨0,by omega,rfl,fun j hj=>by omega⟩,?_⟩
    cbv
    repeat' (first
      |with_reducible refine hold ?_ ?_
      |with_reducible refine And.intro ?_ ?_)
    all_goals first
      |trivial
      |exact qN (qE (by rfl))
      |exact qN (Fit.refl _)
      |exact qM (qL _)
      |skip
  · rintro ⟨i,hi,hr,hq⟩
    cbv
    repeat' (first
        |with_reducible refine hold ?_ ?_
        |with_reducible refine And.intro ?_ ?_
        |(with_reducible intro hcd;(try simp only [zA,zB,zC,zD,zE,zF,zG,zH,zI,zJ,zK,zL,zM,zN,zO,zP]at hcd);try cbv)
        | (refine⟨some [0,1,2,3],?_⟩
           cbv
           refine qR ?_ (cl i ⟨by(try simp only [qW]at *);simp only [zi_den]at *;omega,hq⟩) (by cbv;(repeat' (first|exact qB|refine qD ?_ ?_|exact qE (by rfl)|exact qG (by rfl)|exact Fit.refl _|exact qA|refine qC ?_ rfl ?_))) (by cbv;(repeat' (first|exact qI|refine qJ ?_ ?_|exact qL _|refine qK ?_|exact qA|exact qE (by rfl)|exact qG (by rfl)|exact Fit.refl _|exact qH _|refine qC ?_ rfl ?_)))
           try cbv)
        |fail)
    all_goals first
      |((try simp only [qW]at *);(try simp only [zQ,zA,zB,zC,zD,zE,zF,zG,zH,zI,zJ,zK,zL,zM,zN,zO,zP,zR,zS]at *);first|(refine qO ?_;omega)|(simp only [Hold];omega))
      |(subst hR;(refine qE ?_;simp only [zQ,zA,zB,zC,zD,zE,zF,zG,zH,zI,zJ,zK,zL,zM,zN,zO,zP,zR,zS]at *;rw [hr,fidx_stop (by omega) hcd]);done)
      |(subst hR;(refine qE ?_;simp only [zQ,zA,zB,zC,zD,zE,zF,zG,zH,zI,zJ,zK,zL,zM,zN,zO,zP,zR,zS]at *;rw [hr,show(roomsL c l []).length-i=0 by omega];rfl);done)
      |(subst hB;(repeat' (first|exact qI|refine qJ ?_ ?_|exact qL _|refine qK ?_|exact qA|exact qE (by rfl)|exact qG (by rfl)|exact Fit.refl _|exact qH _|refine qC ?_ rfl ?_));done)
      |((try simp only [zQ,zA,zB,zC,zD,zE,zF,zG,zH,zI,zJ,zK,zL,zM,zN,zO,zP,zR,zS]at *);refine⟨⟨i+1,by omega,by rw [hr,fidx_go (by omega) hcd];(try congr 1)<;>omega,fun j hj=>(Nat.lt_or_ge j i).elim (hq j) (fun q=>by rw [show j=i by omega];exact hcd)⟩,by simp only [];omega,?_⟩;cbv;(repeat' (first|with_reducible refine hold ?_ ?_|with_reducible refine And.intro ?_ ?_));(all_goals first|trivial|exact qN (qE (by rfl))|exact qN (qG (by rfl))|exact qN (Fit.refl _)|exact qM (qL _)|(refine qN (qE ?_);(try simp only [qW]at *);simp only [zQ,zA,zB,zC,zD,zE,zF,zG,zH,zI,zJ,zK,zL,zM,zN,zO,zP,zR,zS]at *;omega)|(refine qM (qK ?_);(repeat' (first|exact qA|exact qB|refine qC ?_ rfl ?_|refine qD ?_ ?_|exact qE (by rfl)|exact qG (by rfl)|exact Fit.refl _|exact qH _|(refine qE ?_;(try simp only [qW]at *);simp only [zQ,zA,zB,zC,zD,zE,zF,zG,zH,zI,zJ,zK,zL,zM,zN,zO,zP,zR,zS]at *;omega)));done)|skip))
      |skip
theorem cont73_sure (c:Clr)(l:List LookT)(h:Nat)(lim:Int)(hc:COk c)(hl:LooksIn c l)(hh:h≤c.hr.toNat)(hfew:(roomsL c l []).length≤1000):FSpec Tryz.prog 56 [(.sl 1 (.sym fun _=>zi ((roomsL c l [])).length) (fun ix=>[.int .i64 (.sym fun _=>((roomsL c l [])).getD ix.den.toNat 0)])),.clo 82 [] [.own 0 0]] [.cells [.clo 60 [] [.own 1 0,.own 2 0,.own 3 0]] 132,.cells [(wpS c l)] 87,.cells [(.int .i64 (.sym fun _=>zi h))] 3,.cells [(.int .i64 (.sym fun _=>lim))] 3] (fun r bs=>r=(.bool (.sym fun _=>decide (0≤fidx (fun i=>sureP c l lim h (i)) ((roomsL c l []).length) 0)))∧bs=[.cells [.clo 60 [] [.own 1 0,.own 2 0,.own 3 0]] 132,.cells [(wpS c l)] 87,.cells [(.int .i64 (.sym fun _=>zi h))] 3,.cells [(.int .i64 (.sym fun _=>lim))] 3]):=by
  have ci:=idx103_sure c l h lim hc hl hh hfew
  refine FSpec.isB rfl fun R B hR hB=>qX (sc:=sc56) tyok mix Tryz.func56 rfl Tryz.call56 (by kernel_rfl) (by kernel_rfl) ?_
  generalize Tryz.prog=P at ci⊢
  cbv
  repeat' (first
      |with_reducible refine And.intro ?_ ?_
      | (refine⟨some [0,1,2,3],?_⟩
         cbv
         refine qR ?_ (ci) (by cbv;(repeat' (first|exact qB|refine qD ?_ ?_|exact qE (by rfl)|exact qG (by rfl)|exact Fit.refl _|exact qA|refine qC ?_ rfl ?_))) (by cbv;(repeat' (first|exact qI|refine qJ ?_ ?_|exact qL _|refine qK ?_|exact qA|exact qE (by rfl)|exact qG (by rfl)|exact Fit.refl _|exact qH _|refine qC ?_ rfl ?_)))
         try cbv)
      |fail)
  all_goals first
    |(subst hR;(repeat' (first|exact qA|exact qB|refine qC ?_ rfl ?_|refine qD ?_ ?_|exact qE (by rfl)|exact qG (by rfl)|exact Fit.refl _|exact qH _|(refine qE ?_;(try simp only [qW]at *);simp only [zQ,zA,zB,zC,zD,zE,zF,zG,zH,zI,zJ,zK,zL,zM,zN,zO,zP,zR,zS]at *;omega)));done)
    |(subst hB;(repeat' (first|exact qI|refine qJ ?_ ?_|exact qL _|refine qK ?_|exact qA|exact qE (by rfl)|exact qG (by rfl)|exact Fit.refl _|exact qH _|refine qC ?_ rfl ?_));done)
    |skip
theorem all76_sure (c:Clr)(l:List LookT)(h:Nat)(lim:Int)(hc:COk c)(hl:LooksIn c l)(hh:h≤c.hr.toNat)(hfew:(roomsL c l []).length≤1000):FSpec Tryz.prog 59 [(.sl 1 (.sym fun _=>zi ((roomsL c l [])).length) (fun ix=>[.int .i64 (.sym fun _=>((roomsL c l [])).getD ix.den.toNat 0)])),.clo 60 [] [.own 0 0,.own 1 0,.own 2 0]] [.cells [(wpS c l)] 87,.cells [(.int .i64 (.sym fun _=>zi h))] 3,.cells [(.int .i64 (.sym fun _=>lim))] 3] (fun r bs=>r=(.bool (.sym fun _=>allB (fun i=>sureP c l lim h (i)) ((roomsL c l []).length)))∧bs=[.cells [(wpS c l)] 87,.cells [(.int .i64 (.sym fun _=>zi h))] 3,.cells [(.int .i64 (.sym fun _=>lim))] 3]):=by
  have cc:=cont73_sure c l h lim hc hl hh hfew
  refine FSpec.isB rfl fun R B hR hB=>qX (sc:=sc59) tyok mix Tryz.func59 rfl Tryz.call59 (by kernel_rfl) (by kernel_rfl) ?_
  generalize Tryz.prog=P at cc⊢
  cbv
  repeat' (first
      |with_reducible refine And.intro ?_ ?_
      | (refine⟨some [3,0,1,2],?_⟩
         cbv
         refine qR ?_ (cc) (by cbv;(repeat' (first|exact qB|refine qD ?_ ?_|exact qE (by rfl)|exact qG (by rfl)|exact Fit.refl _|exact qA|refine qC ?_ rfl ?_))) (by cbv;(repeat' (first|exact qI|refine qJ ?_ ?_|exact qL _|refine qK ?_|exact qA|exact qE (by rfl)|exact qG (by rfl)|exact Fit.refl _|exact qH _|refine qC ?_ rfl ?_)))
         try cbv)
      |fail)
  all_goals first
    |(subst hR;(repeat' (first|exact qA|exact qB|refine qC ?_ rfl ?_|refine qD ?_ ?_|exact qE (by rfl)|exact qG (by rfl)|exact Fit.refl _|exact qH _|(refine qE ?_;(try simp only [qW]at *);simp only [zQ,zA,zB,zC,zD,zE,zF,zG,zH,zI,zJ,zK,zL,zM,zN,zO,zP,zR,zS]at *;omega)));done)
    |(subst hB;(repeat' (first|exact qI|refine qJ ?_ ?_|exact qL _|refine qK ?_|exact qA|exact qE (by rfl)|exact qG (by rfl)|exact Fit.refl _|exact qH _|refine qC ?_ rfl ?_));done)
    |skip
end Go.Proofs.YteelocfbbhchcaaGreat

namespace Go.Proofs.YteelocfbbhchcaaGreat
open Go Go.Eng Go.Proofs
set_option maxRecDepth 10000
set_option maxHeartbeats 1000000 in
theorem cool32y (c:Clr)(l:List LookT)(lim:Int)(h:askE c l=0):FSpec Tryz.prog 26 [(clrS c),(lksS l),(.int .i64 (.sym fun _=>lim))] [] (fun r _=>r=(.tup [(.int .i64 (.sym fun _=>sureH c l lim)),(.int .i64 (.sym fun _=>mayH c l lim)),(.int .i64 (.sym fun _=>askE c l))])):=by
  have c71:=asked71 c l h
  have c73:=fun (i:Nat) (hi:i≤c.hr.toNat)=>cont73M c l i lim (lookedF_spec (askE_ok h).1).1 (lookedF_spec (askE_ok h).1).2 hi
  have c76:=fun (i:Nat) (hi:i≤c.hr.toNat)=>all76_sure c l i lim (lookedF_spec (askE_ok h).1).1 (lookedF_spec (askE_ok h).1).2 hi (by have:=rooms_len (lookedF_spec (askE_ok h).1).1 l [];omega)
  refine FSpec.is fun R hR=>qX (sc:=sc26) tyok mix Tryz.func26 rfl Tryz.call26 (by kernel_rfl) (by kernel_rfl) ?_
  generalize Tryz.prog=P at c71 c73 c76⊢
  cbv
  have hc:=(lookedF_spec (askE_ok h).1).1
  have h1:=hc.ok.h1
  have h8:=hc.ok.h8
  repeat' (first
      |with_reducible refine hold ?_ ?_
      |with_reducible refine And.intro ?_ ?_
      |(with_reducible intro hcd;(try simp only [zA,zB,zC,zD,zE,zF,zG,zH,zI,zJ,zK,zL,zM,zN,zO,zP]at hcd);try cbv)
      | (refine qQ ?_ (c71) ?hfit
         case hfit=>((repeat' (first|exact qB|refine qD ?_ ?_|exact qE (by rfl)|exact qG (by rfl)|exact Fit.refl _|exact qA|refine qC ?_ rfl ?_));done)
         try cbv)
      |fail)
  all_goals first
    |trivial
    |((try simp only [qW]at *);(try simp only [zQ,zA,zB,zC,zD,zE,zF,zG,zH,zI,zJ,zK,zL,zM,zN,zO,zP,zR,zS]at *);first|(refine qO ?_;omega)|(simp only [Hold];omega))
    |skip
  refine⟨none,[],{i:Nat // i≤c.hr.toNat+1},fun x=>⟨[(3,.own 0 0),(5,.own 1 0),(9,.own 12 0),(10,(.sl 1 (.sym fun _=>zi ((roomsL c l [])).length) (fun ix=>[.int .i64 (.sym fun _=>((roomsL c l [])).getD ix.den.toNat 0)]))),(6,(.int .i64 (.sym fun _=>hourN (sureB c l lim) x.1))),(7,(.int .i64 (.sym fun _=>hourN (mayB c l lim) x.1))),(24,(.int .i64 (.sym fun _=>c.hr+1))),(25,(.int .i64 (.sym fun _=>zi x.1)))],[(0,.cells [(.int .i64 (.sym fun _=>c.rl)),(.int .i64 (.sym fun _=>c.rh)),(.int .i64 (.sym fun _=>c.hr)),(.sl 4 (.sym fun _=>zi c.vs.length) (fun ix=>[(.int .i64 (.sym fun _=>(c.vs.getD ix.den.toNat v0).sl)),(.int .i64 (.sym fun _=>(c.vs.getD ix.den.toNat v0).sh)),(.int .i64 (.sym fun _=>(c.vs.getD ix.den.toNat v0).rl)),(.int .i64 (.sym fun _=>(c.vs.getD ix.den.toNat v0).rh))])),(.sl 2 (.sym fun _=>zi c.ts.length) (fun ix=>[(.int .i64 (.sym fun _=>(c.ts.getD ix.den.toNat t0).top)),(.sl 3 (.sym fun _=>zi ((c.ts.getD ix.den.toNat t0).ps).length) (fun jx=>[(.int .i64 (.sym fun _=>(((c.ts.getD ix.den.toNat t0).ps).getD jx.den.toNat p0).f)),(.int .i64 (.sym fun _=>(((c.ts.getD ix.den.toNat t0).ps).getD jx.den.toNat p0).el)),(.int .i64 (.sym fun _=>(((c.ts.getD ix.den.toNat t0).ps).getD jx.den.toNat p0).eh))]))]))] 44),(1,.cells [(.int .i64 (.sym fun _=>lim))] 3),(12,.cells [(wpS c l)] 87)],60⟩,fun x=>c.hr.toNat+1-x.1,?_,?_⟩
  · refine⟨⟨0,by omega⟩,?_⟩
    cbv
    repeat' (first
      |with_reducible refine hold ?_ ?_
      |with_reducible refine And.intro ?_ ?_)
    all_goals first
      |trivial
      |exact qN (qE (by rfl))
      |exact qN (Fit.refl _)
      |exact qM (qL _)
      |skip
  · rintro ⟨i,hi⟩
    cbv
    have hb1:=hour_bd (mayB c l lim) i
    have hb2:=hour_bd (sureB c l lim) i
    repeat' (first
        |with_reducible refine hold ?_ ?_
        |with_reducible refine And.intro ?_ ?_
        |(with_reducible intro hcd;(try simp only [zA,zB,zC,zD,zE,zF,zG,zH,zI,zJ,zK,zL,zM,zN,zO,zP]at hcd);try cbv)
        | (refine⟨some [12,62,1],?_⟩
           cbv
           refine qR ?_ (c73 i (by((try simp only [qW]at *);(try simp only [zQ,zA,zB,zC,zD,zE,zF,zG,zH,zI,zJ,zK,zL,zM,zN,zO,zP,zR,zS]at *);omega))) (by cbv;(repeat' (first|exact qB|refine qD ?_ ?_|exact qE (by rfl)|exact qG (by rfl)|exact Fit.refl _|exact qA|refine qC ?_ rfl ?_))) (by cbv;(repeat' (first|exact qI|refine qJ ?_ ?_|exact qL _|refine qK ?_|exact qA|exact qE (by rfl)|exact qG (by rfl)|exact Fit.refl _|exact qH _|refine qC ?_ rfl ?_)))
           try cbv)
        | (refine⟨some [12,62,1],?_⟩
           cbv
           refine qR ?_ (c76 i (by((try simp only [qW]at *);(try simp only [zQ,zA,zB,zC,zD,zE,zF,zG,zH,zI,zJ,zK,zL,zM,zN,zO,zP,zR,zS]at *);omega))) (by cbv;(repeat' (first|exact qB|refine qD ?_ ?_|exact qE (by rfl)|exact qG (by rfl)|exact Fit.refl _|exact qA|refine qC ?_ rfl ?_))) (by cbv;(repeat' (first|exact qI|refine qJ ?_ ?_|exact qL _|refine qK ?_|exact qA|exact qE (by rfl)|exact qG (by rfl)|exact Fit.refl _|exact qH _|refine qC ?_ rfl ?_)))
           try cbv)
        |fail)
    all_goals first
      |((try simp only [qW]at *);(try simp only [zQ,zA,zB,zC,zD,zE,zF,zG,zH,zI,zJ,zK,zL,zM,zN,zO,zP,zR,zS]at *);first|(refine qO ?_;omega)|(simp only [Hold];omega))
      |((have hie:i=c.hr.toNat+1:=(by((try simp only [qW]at *);(try simp only [zQ,zA,zB,zC,zD,zE,zF,zG,zH,zI,zJ,zK,zL,zM,zN,zO,zP,zR,zS]at *);omega)));subst hR;subst hie;exact qD (qE (show _=sureH c l lim from(if_pos h).symm)) (qD (qE (show _=mayH c l lim from(if_pos h).symm)) (qD (qE h.symm) qB)))
      |((try simp only [zQ,zA,zB,zC,zD,zE,zF,zG,zH,zI,zJ,zK,zL,zM,zN,zO,zP,zR,zS]at *);refine⟨⟨i+1,by omega⟩,by simp only [];omega,?_⟩;cbv;(repeat' (first|with_reducible refine hold ?_ ?_|with_reducible refine And.intro ?_ ?_));(all_goals first|trivial|exact qN (qE (by rfl))|exact qN (qG (by rfl))|exact qN (Fit.refl _)|exact qM (qL _)|(refine qN (qE ?_);(try simp only [qW]at *);simp only [zQ,zA,zB,zC,zD,zE,zF,zG,zH,zI,zJ,zK,zL,zM,zN,zO,zP,zR,zS]at *;omega)|(refine qM (qK ?_);(repeat' (first|exact qA|exact qB|refine qC ?_ rfl ?_|refine qD ?_ ?_|exact qE (by rfl)|exact qG (by rfl)|exact Fit.refl _|exact qH _|(refine qE ?_;(try simp only [qW]at *);simp only [zQ,zA,zB,zC,zD,zE,zF,zG,zH,zI,zJ,zK,zL,zM,zN,zO,zP,zR,zS]at *;omega)));done)|(exact qN (qE (hour_stay (by assumption))))|(exact qN (qE (hour_no (by assumption) (by assumption))))|(exact qN (qE (hour_yes (by assumption) (by assumption))))|skip))
      |skip
theorem cool32n (c:Clr)(l:List LookT)(lim:Int)(h:¬askE c l=0):FSpec Tryz.prog 26 [(clrS c),(lksS l),(.int .i64 (.sym fun _=>lim))] [] (fun r _=>r=(.tup [(.int .i64 (.sym fun _=>sureH c l lim)),(.int .i64 (.sym fun _=>mayH c l lim)),(.int .i64 (.sym fun _=>askE c l))])):=by
  have c71:=asked71n c l h
  refine FSpec.is fun R hR=>qX (sc:=sc26) tyok mix Tryz.func26 rfl Tryz.call26 (by kernel_rfl) (by kernel_rfl) ?_
  generalize Tryz.prog=P at c71⊢
  cbv
  repeat' (first
      |with_reducible refine hold ?_ ?_
      |with_reducible refine And.intro ?_ ?_
      |(with_reducible intro hcd;(try simp only [zA,zB,zC,zD,zE,zF,zG,zH,zI,zJ,zK,zL,zM,zN,zO,zP]at hcd);try cbv)
      | (refine qQ ?_ (c71) ?hfit
         case hfit=>((repeat' (first|exact qB|refine qD ?_ ?_|exact qE (by rfl)|exact qG (by rfl)|exact Fit.refl _|exact qA|refine qC ?_ rfl ?_));done)
         try cbv)
      |fail)
  all_goals first
    |trivial
    |(subst hR;exact qD (qE (show(0:Int)=sureH c l lim from(if_neg h).symm)) (qD (qE (show(0:Int)=mayH c l lim from(if_neg h).symm)) (qD (Fit.refl _) qB));done)
    |skip
theorem cool32 (c:Clr)(l:List LookT)(lim:Int):FSpec Tryz.prog 26 [(clrS c),(lksS l),(.int .i64 (.sym fun _=>lim))] [] (fun r _=>r=(.tup [(.int .i64 (.sym fun _=>sureH c l lim)),(.int .i64 (.sym fun _=>mayH c l lim)),(.int .i64 (.sym fun _=>askE c l))])):=by
  by_cases h:askE c l=0
  · exact cool32y c l lim h
  · exact cool32n c l lim h
end Go.Proofs.YteelocfbbhchcaaGreat

namespace Go.Proofs.YteelocfbbhchcaaGreat
open Go Go.Eng Go.Proofs
set_option maxRecDepth 10000
def sumF (f:Nat→Int):Nat→Int
  |0=>0
  |n+1=>sumF f n+f n
theorem sumF_bd {f:Nat→Int} {b:Int} {n:Nat}(h:∀i,i<n→0≤f i∧f i≤b)(hb:0≤b) {i:Nat}(hi:i≤n):0≤sumF f i∧sumF f i≤i*b:=by
  induction i with
  |zero=>simp only [sumF];omega
  | succ i ih=>
    have:=ih (by omega)
    have:=h i (by omega)
    simp only [sumF]
    rw [show((i+1:Nat):Int)=(i:Int)+1 by omega,Int.add_mul,Int.one_mul]
    omega
theorem sumF_pos {f:Nat→Int} {n:Nat}(h:∀i,i<n→1≤f i):(n:Int)≤sumF f n:=by
  induction n with
  |zero=>simp [sumF]
  | succ i ih=>
    have:=ih fun j hj=>h j (by omega)
    have:=h i (by omega)
    simp only [sumF];omega
def qF (l:List PorT)(i:Nat):Int:=(l.getD i q0).q
def loF (l:List PorT)(i:Nat):Int:=(l.getD i q0).q*(l.getD i q0).lo
def hiF (l:List PorT)(i:Nat):Int:=(l.getD i q0).q*(l.getD i q0).hi
structure PorsOk (l:List PorT):Prop where
  n1:l.length≠0
  n5:l.length≤5
  p:∀i,i<l.length→porOk (l.getD i q0)
def mixE (l:List PorT):Int:=if 5<l.length then 3 else if l.length≠0∧allB (fun i=>porB (l.getD i q0)) l.length=true then 0 else 1
theorem mixE_iff {l:List PorT}:mixE l=0↔PorsOk l:=by
  unfold mixE
  constructor
  · intro h
    split at h
    · omega
    · split at h
      · rename_i h1 h2
        rw [allB_t]at h2
        exact⟨h2.1,by omega,fun i hi=>by have:=h2.2 i hi;rwa [porB_t]at this⟩
      · omega
  · intro h
    have:=h.n5
    rw [if_neg (by omega),if_pos ⟨h.n1,by rw [allB_t];intro i hi;rw [porB_t];exact h.p i hi⟩]
theorem mixE_many {l:List PorT}(h:5<l.length):mixE l=3:=by unfold mixE;rw [if_pos h]
theorem mixE_no {l:List PorT}(h:l.length≤5)(h':PorsOk l→False):mixE l=1:=by
  unfold mixE
  rw [if_neg (by omega),if_neg]
  rintro⟨h1,h2⟩
  rw [allB_t]at h2
  exact h' ⟨h1,h,fun i hi=>by have:=h2 i hi;rwa [porB_t]at this⟩
def mixLo (l:List PorT):Int:=(sumF (loF l) l.length).tdiv (sumF (qF l) l.length)
def mixHi (l:List PorT):Int:=(sumF (hiF l) l.length).tdiv (sumF (qF l) l.length)
def mixV (l:List PorT)(k:Nat):Int:=if k=0 then mixLo l else mixHi l
def mxLo (l:List PorT):Int:=if mixE l=0 then mixLo l else 0
def mxHi (l:List PorT):Int:=if mixE l=0 then mixHi l else 0
theorem mul_bd2 {a b:Int}(h0:1≤a)(h1:a≤1000)(k0:0≤b)(k1:b≤200):0≤a*b∧a*b≤200000:=by
  have e1:a*b≤1000*b:=Int.mul_le_mul_of_nonneg_right h1 k0
  have e2:0≤a*b:=Int.mul_nonneg (by omega) k0
  omega
theorem PorsOk.bd {l:List PorT}(h:PorsOk l) {i:Nat}(hi:i<l.length):(1≤qF l i∧qF l i≤1000)∧(0≤loF l i∧loF l i≤200000)∧0≤hiF l i∧hiF l i≤200000:=by
  have:=h.p i hi
  unfold porOk at this
  exact⟨⟨this.1,this.2.1⟩,mul_bd2 this.1 this.2.1 this.2.2.1 (by omega),mul_bd2 this.1 this.2.1 (by omega) this.2.2.2.2⟩
theorem PorsOk.sums {l:List PorT}(h:PorsOk l) {i:Nat}(hi:i≤l.length):(0≤sumF (qF l) i∧sumF (qF l) i≤5000)∧(0≤sumF (loF l) i∧sumF (loF l) i≤1000000)∧0≤sumF (hiF l) i∧sumF (hiF l) i≤1000000:=by
  have n5:=h.n5
  have a:=sumF_bd (fun j hj=>by have:=(h.bd hj).1;exact⟨by omega,this.2⟩) (by omega) hi
  have b:=sumF_bd (fun j hj=>(h.bd hj).2.1) (by omega) hi
  have d:=sumF_bd (fun j hj=>(h.bd hj).2.2) (by omega) hi
  omega
theorem PorsOk.whole {l:List PorT}(h:PorsOk l):1≤sumF (qF l) l.length:=by
  have:=sumF_pos fun i hi=>(h.bd (i:=i) hi).1.1
  have:=h.n1
  omega
theorem tdiv_rng {a b:Int}(h0:0≤a)(hb:1≤b):0≤a.tdiv b∧a.tdiv b≤a:=by
  rw [Int.tdiv_eq_ediv_of_nonneg h0]
  exact⟨Int.ediv_nonneg h0 (by omega),Int.ediv_le_self b h0⟩
theorem side82 (l:List PorT)(i:Nat)(hl:PorsOk l)(hi:i<l.length):FSpec Tryz.prog 63 [(.agg [(.int .i64 (.sym fun _=>(l.getD i q0).q)),(.int .i64 (.sym fun _=>(l.getD i q0).lo)),(.int .i64 (.sym fun _=>(l.getD i q0).hi))])] [] (fun r _=>r=(.int .i64 (.sym fun _=>loF l i))):=by
  refine FSpec.is fun R hR=>qX (sc:=sc63) tyok mix Tryz.func63 rfl Tryz.call63 (by kernel_rfl) (by kernel_rfl) ?_
  generalize Tryz.prog=P
  cbv
  have hb:=hl.bd hi
  unfold qF loF hiF at hb
  repeat' (first
      |with_reducible refine hold ?_ ?_
      |fail)
  all_goals first
    |((try simp only [qW]at *);(try simp only [zQ,zA,zB,zC,zD,zE,zF,zG,zH,zI,zJ,zK,zL,zM,zN,zO,zP,zR,zS]at *);first|(refine qO ?_;omega)|(simp only [Hold];omega))
    |(subst hR;(exact qE rfl);done)
    |skip
theorem side83 (l:List PorT)(i:Nat)(hl:PorsOk l)(hi:i<l.length):FSpec Tryz.prog 64 [(.agg [(.int .i64 (.sym fun _=>(l.getD i q0).q)),(.int .i64 (.sym fun _=>(l.getD i q0).lo)),(.int .i64 (.sym fun _=>(l.getD i q0).hi))])] [] (fun r _=>r=(.int .i64 (.sym fun _=>hiF l i))):=by
  refine FSpec.is fun R hR=>qX (sc:=sc64) tyok mix Tryz.func64 rfl Tryz.call64 (by kernel_rfl) (by kernel_rfl) ?_
  generalize Tryz.prog=P
  cbv
  have hb:=hl.bd hi
  unfold qF loF hiF at hb
  repeat' (first
      |with_reducible refine hold ?_ ?_
      |fail)
  all_goals first
    |((try simp only [qW]at *);(try simp only [zQ,zA,zB,zC,zD,zE,zF,zG,zH,zI,zJ,zK,zL,zM,zN,zO,zP,zR,zS]at *);first|(refine qO ?_;omega)|(simp only [Hold];omega))
    |(subst hR;(exact qE rfl);done)
    |skip
end Go.Proofs.YteelocfbbhchcaaGreat

namespace Go.Proofs.YteelocfbbhchcaaGreat
open Go Go.Eng Go.Proofs
set_option maxRecDepth 10000
theorem mx_no {l:List PorT}(h:¬mixE l=0):mxLo l=0∧mxHi l=0:=by unfold mxLo mxHi;rw [if_neg h,if_neg h];exact⟨rfl,rfl⟩
theorem mx_yes {l:List PorT}(h:mixE l=0):mxLo l=mixLo l∧mxHi l=mixHi l:=by unfold mxLo mxHi;rw [if_pos h,if_pos h];exact⟨rfl,rfl⟩
theorem mix38 (l :List PorT)(hn:l.length≤1000):FSpec Tryz.prog 27 [(porS l)] [] (fun r _=>r=(.tup [(.agg [(.int .i64 (.sym fun _=>mxLo l)),(.int .i64 (.sym fun _=>mxHi l))]),(.int .i64 (.sym fun _=>mixE l))])):=by
  have c80:=all80_por l hn
  have c82:=fun (i:Nat) (hi:i<l.length) (hl:PorsOk l)=>side82 l i hl hi
  have c83:=fun (i:Nat) (hi:i<l.length) (hl:PorsOk l)=>side83 l i hl hi
  refine FSpec.is fun R hR=>qX (sc:=sc27) tyok mix Tryz.func27 rfl Tryz.call27 (by kernel_rfl) (by kernel_rfl) ?_
  generalize Tryz.prog=P at c80 c82 c83⊢
  cbv
  repeat' (first
      |with_reducible refine And.intro ?_ ?_
      |(with_reducible intro hcd;(try simp only [zA,zB,zC,zD,zE,zF,zG,zH,zI,zJ,zK,zL,zM,zN,zO,zP]at hcd);try cbv)
      | (refine qQ ?_ (c80) ?hfit
         case hfit=>((repeat' (first|exact qB|refine qD ?_ ?_|exact qE (by rfl)|exact qG (by rfl)|exact Fit.refl _|exact qA|refine qC ?_ rfl ?_));done)
         try cbv)
      |fail)
  all_goals first
    |(subst hR;((have h0:=mixE_many (l:=l) (by(try simp only [qW]at *);(try simp only [zQ,zA,zB,zC,zD,zE,zF,zG,zH,zI,zJ,zK,zL,zM,zN,zO,zP,zR,zS]at *);omega));(have h1:=mx_no (l:=l) (by omega));exact qD (qC (qE h1.1.symm) rfl (qC (qE h1.2.symm) rfl qA)) (qD (qE h0.symm) qB));done)
    |(subst hR;((have h0:=mixE_no (l:=l) (by(try simp only [qW]at *);(try simp only [zQ,zA,zB,zC,zD,zE,zF,zG,zH,zI,zJ,zK,zL,zM,zN,zO,zP,zR,zS]at *);omega) (fun h=>by(have h2:=h.n1);(have h3:allB (fun i=>porB (l.getD i q0)) l.length=true:=by rw [allB_t];intro i hi;rw [porB_t];exact h.p i hi);first|((try simp only [qW]at *);(try simp only [zQ,zA,zB,zC,zD,zE,zF,zG,zH,zI,zJ,zK,zL,zM,zN,zO,zP,zR,zS]at *);omega)|simp_all));(have h1:=mx_no (l:=l) (by omega));exact qD (qC (qE h1.1.symm) rfl (qC (qE h1.2.symm) rfl qA)) (qD (qE h0.symm) qB));done)
    |skip
  have hl:PorsOk l:=mixE_iff.1 (by(have h3:allB (fun i=>porB (l.getD i q0)) l.length=true:=by assumption);unfold mixE;rw [if_neg (by((try simp only [qW]at *);(try simp only [zQ,zA,zB,zC,zD,zE,zF,zG,zH,zI,zJ,zK,zL,zM,zN,zO,zP,zR,zS]at *);omega)),if_pos ⟨by((try simp only [qW]at *);(try simp only [zQ,zA,zB,zC,zD,zE,zF,zG,zH,zI,zJ,zK,zL,zM,zN,zO,zP,zR,zS]at *);omega),h3⟩])
  have n5:=hl.n5
  refine⟨none,[],{i:Nat // i≤l.length},fun x=>⟨[(0,(porS l)),(2,.own 0 0),(4,(.int .i64 (.sym fun _=>sumF (qF l) x.1))),(5,.val (Value.slice none 0 0)),(28,(porS l)),(29,(.int .i64 (.sym fun _=>zi l.length))),(30,(.int .i64 (.sym fun _=>zi x.1)))],[(0,.cells [.int .i64 (.lit 0),.int .i64 (.lit 0)] 40)],60⟩,fun x=>l.length-x.1,?_,?_⟩
  · refine⟨⟨0,by omega⟩,?_⟩
    cbv
    repeat' (first
      |with_reducible refine hold ?_ ?_
      |with_reducible refine And.intro ?_ ?_)
    all_goals first
      |trivial
      |exact qN (qE (by rfl))
      |exact qN (Fit.refl _)
      |exact qM (qL _)
      |skip
  · rintro ⟨i, hi⟩
    cbv
    repeat' (first
        |with_reducible refine hold ?_ ?_
        |with_reducible refine And.intro ?_ ?_
        |(with_reducible intro hcd;(try simp only [zA,zB,zC,zD,zE,zF,zG,zH,zI,zJ,zK,zL,zM,zN,zO,zP]at hcd);try cbv)
        |fail)
    all_goals first
      |((try simp only [qW]at *);(try simp only [zQ,zA,zB,zC,zD,zE,zF,zG,zH,zI,zJ,zK,zL,zM,zN,zO,zP,zR,zS]at *);first|(refine qO ?_;omega)|(simp only [Hold];omega))
      |((have hb:=hl.bd (i:=i) (by((try simp only [qW]at *);(try simp only [zQ,zA,zB,zC,zD,zE,zF,zG,zH,zI,zJ,zK,zL,zM,zN,zO,zP,zR,zS]at *);omega)));(have hs:=hl.sums (i:=i) (by((try simp only [qW]at *);(try simp only [zQ,zA,zB,zC,zD,zE,zF,zG,zH,zI,zJ,zK,zL,zM,zN,zO,zP,zR,zS]at *);omega)));unfold qF at hb;(try simp only [qW]at *);(try simp only [zQ,zA,zB,zC,zD,zE,zF,zG,zH,zI,zJ,zK,zL,zM,zN,zO,zP,zR,zS]at *);simp only [Hold];first|(refine qO ?_;omega)|omega)
      |((try simp only [zQ,zA,zB,zC,zD,zE,zF,zG,zH,zI,zJ,zK,zL,zM,zN,zO,zP,zR,zS]at *);refine⟨⟨i+1,by omega⟩,by simp only [];omega,?_⟩;cbv;(repeat' (first|with_reducible refine hold ?_ ?_|with_reducible refine And.intro ?_ ?_));(all_goals first|trivial|exact qN (qE (by rfl))|exact qN (qG (by rfl))|exact qN (Fit.refl _)|exact qM (qL _)|(refine qN (qE ?_);(try simp only [qW]at *);simp only [zQ,zA,zB,zC,zD,zE,zF,zG,zH,zI,zJ,zK,zL,zM,zN,zO,zP,zR,zS]at *;omega)|(refine qM (qK ?_);(repeat' (first|exact qA|exact qB|refine qC ?_ rfl ?_|refine qD ?_ ?_|exact qE (by rfl)|exact qG (by rfl)|exact Fit.refl _|exact qH _|(refine qE ?_;(try simp only [qW]at *);simp only [zQ,zA,zB,zC,zD,zE,zF,zG,zH,zI,zJ,zK,zL,zM,zN,zO,zP,zR,zS]at *;omega)));done)|(exact qN (qE rfl))|skip))
      |skip
    have hil:i=l.length:=(by((try simp only [qW]at *);(try simp only [zQ,zA,zB,zC,zD,zE,zF,zG,zH,zI,zJ,zK,zL,zM,zN,zO,zP,zR,zS]at *);omega))
    subst hil
    refine⟨none,[⟨.tmp 5,3,1⟩],{j:Nat // j≤2},fun x=>⟨[(0,(porS l)),(2,.own 0 0),(4,(.int .i64 (.sym fun _=>(sumF (qF l) l.length)))),(5,.row 66),(41,.ows 63 0 2 2 1),(42,.int .i64 (.lit 2)),(43,.int .i64 (.lit (zi x.1)))],[(0,.cells [.int .i64 (.lit 0),.int .i64 (.lit 0)] 40),(63,.cells [.clo 63 [] [],.clo 64 [] []] 138),(66,.row 3 1 (.sym fun _=>zi x.1) (fun ix=>[(.int .i64 (.sym fun _=>mixV l ix.den.toNat))]))],70⟩,fun x=>2-x.1,?_,?_⟩
    · refine⟨⟨0,by omega⟩,?_⟩
      cbv
      repeat' (first
        |with_reducible refine hold ?_ ?_
        |with_reducible refine And.intro ?_ ?_)
      all_goals first
        |trivial
        |exact qN (qE (by rfl))
        |exact qN (Fit.refl _)
        |exact qM (qL _)
        |(refine qM (ble_row ?_ ?_);(first|rfl|((try simp only [qW]at *);(try simp only [zQ,zA,zB,zC,zD,zE,zF,zG,zH,zI,zJ,zK,zL,zM,zN,zO,zP,zR,zS]at *);omega));intro ix h0 h1;exfalso;(try simp only [qW]at *);(try simp only [zQ,zA,zB,zC,zD,zE,zF,zG,zH,zI,zJ,zK,zL,zM,zN,zO,zP,zR,zS]at *);omega)
        |skip
    · rintro ⟨j, hj⟩
      have hE:=mixE_iff.2 hl
      have hm:=mx_yes hE
      match j,hj with
      | 0,_=>
        cbv
        repeat' (first
            |fail)
        all_goals first
          |skip
        refine⟨none,[],{i:Nat // i≤l.length},fun x=>⟨[(0,(porS l)),(2,.own 0 0),(4,(.int .i64 (.sym fun _=>(sumF (qF l) l.length)))),(5,.row 66),(41,.ows 63 0 2 2 1),(42,.int .i64 (.lit 2)),(43,.int .i64 (.lit 0)),(9,.own 73 0),(10,(.int .i64 (.sym fun _=>sumF (loF l) x.1))),(47,(porS l)),(48,(.int .i64 (.sym fun _=>zi l.length))),(49,(.int .i64 (.sym fun _=>zi x.1)))],[(0,.cells [.int .i64 (.lit 0),.int .i64 (.lit 0)] 40),(63,.cells [.clo 63 [] [],.clo 64 [] []] 138),(66,.row 3 1 (.sym fun _=>zi 0) (fun ix=>[(.int .i64 (.sym fun _=>mixV l ix.den.toNat))])),(73,.cells [.clo 63 [] []] 138)],90⟩,fun x=>l.length-x.1,?_,?_⟩
        · refine⟨⟨0,by omega⟩,?_⟩
          cbv
          repeat' (first
            |with_reducible refine hold ?_ ?_
            |with_reducible refine And.intro ?_ ?_)
          all_goals first
            |trivial
            |exact qN (qE (by rfl))
            |exact qN (Fit.refl _)
            |exact qM (qL _)
            |skip
        · rintro ⟨i,hi⟩
          cbv
          repeat' (first
              |with_reducible refine hold ?_ ?_
              |with_reducible refine And.intro ?_ ?_
              | (with_reducible refine qT ?_ ?_ ?_
                 try cbv)
              |(with_reducible intro hcd;(try simp only [zA,zB,zC,zD,zE,zF,zG,zH,zI,zJ,zK,zL,zM,zN,zO,zP]at hcd);try cbv)
              | (refine qQ ?_ (c82 i (by((try simp only [qW]at *);(try simp only [zQ,zA,zB,zC,zD,zE,zF,zG,zH,zI,zJ,zK,zL,zM,zN,zO,zP,zR,zS]at *);omega)) hl) ?hfit
                 case hfit=>((repeat' (first|exact qB|refine qD ?_ ?_|exact qE (by rfl)|exact qG (by rfl)|exact Fit.refl _|exact qA|refine qC ?_ rfl ?_));done)
                 try cbv)
              | (refine⟨fun ix=>[(.int .i64 (.sym fun _=>mixV l ix.den.toNat))],?_⟩
                 cbv
                 refine hold (hold_rowapp (by intro ix jx h0 h1 h2;simp only [h2];exact Fit.refl _) (by intro ix jx h0 h1 h2;(have h3:jx.den.toNat=0:=by((try simp only [qW]at *);(try simp only [zQ,zA,zB,zC,zD,zE,zF,zG,zH,zI,zJ,zK,zL,zM,zN,zO,zP,zR,zS]at *);omega));simp only [h3];((have hie:i=l.length:=(by((try simp only [qW]at *);(try simp only [zQ,zA,zB,zC,zD,zE,zF,zG,zH,zI,zJ,zK,zL,zM,zN,zO,zP,zR,zS]at *);omega)));subst hie;exact qC (qE rfl) rfl qA)) (by(try simp only [qW]at *);(try simp only [zQ,zA,zB,zC,zD,zE,zF,zG,zH,zI,zJ,zK,zL,zM,zN,zO,zP,zR,zS]at *);omega)) (Or.inl ?_)
                 try cbv)
              |fail)
          all_goals first
            |((try simp only [qW]at *);(try simp only [zQ,zA,zB,zC,zD,zE,zF,zG,zH,zI,zJ,zK,zL,zM,zN,zO,zP,zR,zS]at *);first|(refine qO ?_;omega)|(simp only [Hold];omega))
            |((have hb:=hl.bd (i:=i) (by((try simp only [qW]at *);(try simp only [zQ,zA,zB,zC,zD,zE,zF,zG,zH,zI,zJ,zK,zL,zM,zN,zO,zP,zR,zS]at *);omega)));(have hs:=hl.sums (i:=i) (by((try simp only [qW]at *);(try simp only [zQ,zA,zB,zC,zD,zE,zF,zG,zH,zI,zJ,zK,zL,zM,zN,zO,zP,zR,zS]at *);omega)));(try simp only [qW]at *);(try simp only [zQ,zA,zB,zC,zD,zE,zF,zG,zH,zI,zJ,zK,zL,zM,zN,zO,zP,zR,zS]at *);simp only [Hold];first|(refine qO ?_;omega)|omega)
            |((have hw:=hl.whole);(have hs:=hl.sums (i:=l.length) (Nat.le_refl _));(have hie:i=l.length:=(by((try simp only [qW]at *);(try simp only [zQ,zA,zB,zC,zD,zE,zF,zG,zH,zI,zJ,zK,zL,zM,zN,zO,zP,zR,zS]at *);omega)));subst hie;(have d1:=tdiv_rng hs.2.1.1 hw);(have d2:=tdiv_rng hs.2.2.1 hw);(try simp only [qW]at *);(try simp only [zQ,zA,zB,zC,zD,zE,zF,zG,zH,zI,zJ,zK,zL,zM,zN,zO,zP,zR,zS]at *);simp only [Hold];first|(refine qO ?_;omega)|omega)
            |((try simp only [zQ,zA,zB,zC,zD,zE,zF,zG,zH,zI,zJ,zK,zL,zM,zN,zO,zP,zR,zS]at *);refine⟨⟨i+1,by omega⟩,by simp only [];omega,?_⟩;cbv;(repeat' (first|with_reducible refine hold ?_ ?_|with_reducible refine And.intro ?_ ?_));(all_goals first|trivial|exact qN (qE (by rfl))|exact qN (qG (by rfl))|exact qN (Fit.refl _)|exact qM (qL _)|(refine qN (qE ?_);(try simp only [qW]at *);simp only [zQ,zA,zB,zC,zD,zE,zF,zG,zH,zI,zJ,zK,zL,zM,zN,zO,zP,zR,zS]at *;omega)|(refine qM (qK ?_);(repeat' (first|exact qA|exact qB|refine qC ?_ rfl ?_|refine qD ?_ ?_|exact qE (by rfl)|exact qG (by rfl)|exact Fit.refl _|exact qH _|(refine qE ?_;(try simp only [qW]at *);simp only [zQ,zA,zB,zC,zD,zE,zF,zG,zH,zI,zJ,zK,zL,zM,zN,zO,zP,zR,zS]at *;omega)));done)|(exact qN (qE rfl))|skip))
            |((try simp only [zQ,zA,zB,zC,zD,zE,zF,zG,zH,zI,zJ,zK,zL,zM,zN,zO,zP,zR,zS]at *);refine⟨⟨1,by omega⟩,by simp only [];omega,?_⟩;cbv;(repeat' (first|with_reducible refine hold ?_ ?_|with_reducible refine And.intro ?_ ?_));(all_goals first|trivial|exact qN (qE (by rfl))|exact qN (qG (by rfl))|exact qN (Fit.refl _)|exact qM (qL _)|(refine qN (qE ?_);(try simp only [qW]at *);simp only [zQ,zA,zB,zC,zD,zE,zF,zG,zH,zI,zJ,zK,zL,zM,zN,zO,zP,zR,zS]at *;omega)|(refine qM (qK ?_);(repeat' (first|exact qA|exact qB|refine qC ?_ rfl ?_|refine qD ?_ ?_|exact qE (by rfl)|exact qG (by rfl)|exact Fit.refl _|exact qH _|(refine qE ?_;(try simp only [qW]at *);simp only [zQ,zA,zB,zC,zD,zE,zF,zG,zH,zI,zJ,zK,zL,zM,zN,zO,zP,zR,zS]at *;omega)));done)|(refine qM (ble_row ?_ ?_)<;>first|rfl|((try simp only [qW]at *);(try simp only [zQ,zA,zB,zC,zD,zE,zF,zG,zH,zI,zJ,zK,zL,zM,zN,zO,zP,zR,zS]at *);omega)|(intro ix h0 h1;exact Fit.refl _))|skip))
            |skip
      | 1,_=>
        cbv
        repeat' (first
            |fail)
        all_goals first
          |skip
        refine⟨none,[],{i:Nat // i≤l.length},fun x=>⟨[(0,(porS l)),(2,.own 0 0),(4,(.int .i64 (.sym fun _=>(sumF (qF l) l.length)))),(5,.row 66),(41,.ows 63 0 2 2 1),(42,.int .i64 (.lit 2)),(43,.int .i64 (.lit 1)),(9,.own 73 0),(10,(.int .i64 (.sym fun _=>sumF (hiF l) x.1))),(47,(porS l)),(48,(.int .i64 (.sym fun _=>zi l.length))),(49,(.int .i64 (.sym fun _=>zi x.1)))],[(0,.cells [.int .i64 (.lit 0),.int .i64 (.lit 0)] 40),(63,.cells [.clo 63 [] [],.clo 64 [] []] 138),(66,.row 3 1 (.sym fun _=>zi 1) (fun ix=>[(.int .i64 (.sym fun _=>mixV l ix.den.toNat))])),(73,.cells [.clo 64 [] []] 138)],90⟩,fun x=>l.length-x.1,?_,?_⟩
        · refine⟨⟨0,by omega⟩,?_⟩
          cbv
          repeat' (first
            |with_reducible refine hold ?_ ?_
            |with_reducible refine And.intro ?_ ?_)
          all_goals first
            |trivial
            |exact qN (qE (by rfl))
            |exact qN (Fit.refl _)
            |exact qM (qL _)
            |skip
        · rintro ⟨i,hi⟩
          cbv
          repeat' (first
              |with_reducible refine hold ?_ ?_
              |with_reducible refine And.intro ?_ ?_
              | (with_reducible refine qT ?_ ?_ ?_
                 try cbv)
              |(with_reducible intro hcd;(try simp only [zA,zB,zC,zD,zE,zF,zG,zH,zI,zJ,zK,zL,zM,zN,zO,zP]at hcd);try cbv)
              | (refine qQ ?_ (c83 i (by((try simp only [qW]at *);(try simp only [zQ,zA,zB,zC,zD,zE,zF,zG,zH,zI,zJ,zK,zL,zM,zN,zO,zP,zR,zS]at *);omega)) hl) ?hfit
                 case hfit=>((repeat' (first|exact qB|refine qD ?_ ?_|exact qE (by rfl)|exact qG (by rfl)|exact Fit.refl _|exact qA|refine qC ?_ rfl ?_));done)
                 try cbv)
              | (refine⟨fun ix=>[(.int .i64 (.sym fun _=>mixV l ix.den.toNat))],?_⟩
                 cbv
                 refine hold (hold_rowapp (by intro ix jx h0 h1 h2;simp only [h2];exact Fit.refl _) (by intro ix jx h0 h1 h2;(have h3:jx.den.toNat=1:=by((try simp only [qW]at *);(try simp only [zQ,zA,zB,zC,zD,zE,zF,zG,zH,zI,zJ,zK,zL,zM,zN,zO,zP,zR,zS]at *);omega));simp only [h3];((have hie:i=l.length:=(by((try simp only [qW]at *);(try simp only [zQ,zA,zB,zC,zD,zE,zF,zG,zH,zI,zJ,zK,zL,zM,zN,zO,zP,zR,zS]at *);omega)));subst hie;exact qC (qE rfl) rfl qA)) (by(try simp only [qW]at *);(try simp only [zQ,zA,zB,zC,zD,zE,zF,zG,zH,zI,zJ,zK,zL,zM,zN,zO,zP,zR,zS]at *);omega)) (Or.inl ?_)
                 try cbv)
              |fail)
          all_goals first
            |((try simp only [qW]at *);(try simp only [zQ,zA,zB,zC,zD,zE,zF,zG,zH,zI,zJ,zK,zL,zM,zN,zO,zP,zR,zS]at *);first|(refine qO ?_;omega)|(simp only [Hold];omega))
            |((have hb:=hl.bd (i:=i) (by((try simp only [qW]at *);(try simp only [zQ,zA,zB,zC,zD,zE,zF,zG,zH,zI,zJ,zK,zL,zM,zN,zO,zP,zR,zS]at *);omega)));(have hs:=hl.sums (i:=i) (by((try simp only [qW]at *);(try simp only [zQ,zA,zB,zC,zD,zE,zF,zG,zH,zI,zJ,zK,zL,zM,zN,zO,zP,zR,zS]at *);omega)));(try simp only [qW]at *);(try simp only [zQ,zA,zB,zC,zD,zE,zF,zG,zH,zI,zJ,zK,zL,zM,zN,zO,zP,zR,zS]at *);simp only [Hold];first|(refine qO ?_;omega)|omega)
            |((have hw:=hl.whole);(have hs:=hl.sums (i:=l.length) (Nat.le_refl _));(have hie:i=l.length:=(by((try simp only [qW]at *);(try simp only [zQ,zA,zB,zC,zD,zE,zF,zG,zH,zI,zJ,zK,zL,zM,zN,zO,zP,zR,zS]at *);omega)));subst hie;(have d1:=tdiv_rng hs.2.1.1 hw);(have d2:=tdiv_rng hs.2.2.1 hw);(try simp only [qW]at *);(try simp only [zQ,zA,zB,zC,zD,zE,zF,zG,zH,zI,zJ,zK,zL,zM,zN,zO,zP,zR,zS]at *);simp only [Hold];first|(refine qO ?_;omega)|omega)
            |((try simp only [zQ,zA,zB,zC,zD,zE,zF,zG,zH,zI,zJ,zK,zL,zM,zN,zO,zP,zR,zS]at *);refine⟨⟨i+1,by omega⟩,by simp only [];omega,?_⟩;cbv;(repeat' (first|with_reducible refine hold ?_ ?_|with_reducible refine And.intro ?_ ?_));(all_goals first|trivial|exact qN (qE (by rfl))|exact qN (qG (by rfl))|exact qN (Fit.refl _)|exact qM (qL _)|(refine qN (qE ?_);(try simp only [qW]at *);simp only [zQ,zA,zB,zC,zD,zE,zF,zG,zH,zI,zJ,zK,zL,zM,zN,zO,zP,zR,zS]at *;omega)|(refine qM (qK ?_);(repeat' (first|exact qA|exact qB|refine qC ?_ rfl ?_|refine qD ?_ ?_|exact qE (by rfl)|exact qG (by rfl)|exact Fit.refl _|exact qH _|(refine qE ?_;(try simp only [qW]at *);simp only [zQ,zA,zB,zC,zD,zE,zF,zG,zH,zI,zJ,zK,zL,zM,zN,zO,zP,zR,zS]at *;omega)));done)|(exact qN (qE rfl))|skip))
            |((try simp only [zQ,zA,zB,zC,zD,zE,zF,zG,zH,zI,zJ,zK,zL,zM,zN,zO,zP,zR,zS]at *);refine⟨⟨2,by omega⟩,by simp only [];omega,?_⟩;cbv;(repeat' (first|with_reducible refine hold ?_ ?_|with_reducible refine And.intro ?_ ?_));(all_goals first|trivial|exact qN (qE (by rfl))|exact qN (qG (by rfl))|exact qN (Fit.refl _)|exact qM (qL _)|(refine qN (qE ?_);(try simp only [qW]at *);simp only [zQ,zA,zB,zC,zD,zE,zF,zG,zH,zI,zJ,zK,zL,zM,zN,zO,zP,zR,zS]at *;omega)|(refine qM (qK ?_);(repeat' (first|exact qA|exact qB|refine qC ?_ rfl ?_|refine qD ?_ ?_|exact qE (by rfl)|exact qG (by rfl)|exact Fit.refl _|exact qH _|(refine qE ?_;(try simp only [qW]at *);simp only [zQ,zA,zB,zC,zD,zE,zF,zG,zH,zI,zJ,zK,zL,zM,zN,zO,zP,zR,zS]at *;omega)));done)|(refine qM (ble_row ?_ ?_)<;>first|rfl|((try simp only [qW]at *);(try simp only [zQ,zA,zB,zC,zD,zE,zF,zG,zH,zI,zJ,zK,zL,zM,zN,zO,zP,zR,zS]at *);omega)|(intro ix h0 h1;exact Fit.refl _))|skip))
            |skip
      | 2,_=>
        cbv
        repeat' (first
            |with_reducible refine hold ?_ ?_
            |fail)
        all_goals first
          |((try simp only [qW]at *);(try simp only [zQ,zA,zB,zC,zD,zE,zF,zG,zH,zI,zJ,zK,zL,zM,zN,zO,zP,zR,zS]at *);first|(refine qO ?_;omega)|(simp only [Hold];omega))
          |(subst hR;exact qD (qC (qE hm.1.symm) rfl (qC (qE hm.2.symm) rfl qA)) (qD (qE hE.symm) qB);done)
          |skip
      |(n+3),hj=>exact absurd hj (by omega)
end Go.Proofs.YteelocfbbhchcaaGreat

namespace Go.Proofs.YteelocfbbhchcaaGreat
open Go Go.Eng Go.Proofs
set_option maxRecDepth 10000
def provP (c:Clr)(l:List LookT)(rm:Int)(ss rs:List Int)(v:Nat):Bool:=fitW c l (v:Int) rm [] (ss.getD v 0) (rs.getD v 0)
def proveB (c:Clr)(l:List LookT)(rm:Int)(ss rs:List Int):Bool:=decide (lookedF c l=0)&&(truthB c rm ss rs&&allB (provP c l rm ss rs) c.vs.length)
theorem prove_no1 {c:Clr} {l:List LookT} {rm:Int} {ss rs:List Int}(h:¬lookedF c l=0):proveB c l rm ss rs=false:=by unfold proveB;rw [decide_eq_false h];rfl
theorem prove_no2 {c:Clr} {l:List LookT} {rm:Int} {ss rs:List Int}(h:truthB c rm ss rs=false):proveB c l rm ss rs=false:=by unfold proveB;rw [h];simp
theorem prove_no3 {c:Clr} {l:List LookT} {rm:Int} {ss rs:List Int} {v:Nat}(hv:v<c.vs.length)(h:provP c l rm ss rs v=false):proveB c l rm ss rs=false:=by
  unfold proveB
  rw [allB_no hv h];simp
theorem prove_yes {c:Clr} {l:List LookT} {rm:Int} {ss rs:List Int}(h1:lookedF c l=0)(h2:truthB c rm ss rs=true)(h3:∀v,v<c.vs.length→provP c l rm ss rs v=true):proveB c l rm ss rs=true:=by
  unfold proveB
  rw [decide_eq_true h1,h2,allB_yes h3];rfl
def showS (c:Clr)(l:List LookT)(rm:Int):Nat→List Int
  |0=>[]
  |n+1=>showS c l rm n++[smS c l (n:Int) rm []]
def showR (c:Clr)(l:List LookT)(rm:Int):Nat→List Int
  |0=>[]
  |n+1=>showR c l rm n++[smR c l (n:Int) rm []]
theorem showS_len (c:Clr)(l:List LookT)(rm:Int)(n:Nat):(showS c l rm n).length=n∧(showR c l rm n).length=n:=by
  induction n with
  |zero=>exact⟨rfl,rfl⟩
  |succ n ih=>simp only [showS,showR,List.length_append,List.length_cons,List.length_nil];omega
def shM (c:Clr)(l:List LookT):Int:=if askE c l=0 then(roomsL c l []).getD 0 0 else 0
def shS (c:Clr)(l:List LookT):List Int:=if askE c l=0 then showS c l (shM c l) c.vs.length else []
def shR (c:Clr)(l:List LookT):List Int:=if askE c l=0 then showR c l (shM c l) c.vs.length else []
theorem sh_yes {c:Clr} {l:List LookT}(h:askE c l=0):shM c l=(roomsL c l []).getD 0 0∧shS c l=showS c l (shM c l) c.vs.length∧shR c l=showR c l (shM c l) c.vs.length:=by
  unfold shS shR;rw [if_pos h,if_pos h];exact⟨by unfold shM;rw [if_pos h],rfl,rfl⟩
theorem sh_no {c:Clr} {l:List LookT}(h:¬askE c l=0):shM c l=0∧shS c l=[]∧shR c l=[]:=by
  unfold shS shR shM;rw [if_neg h,if_neg h,if_neg h];exact⟨rfl,rfl,rfl⟩
theorem prove49 (c:Clr)(l:List LookT)(rm:Int)(ss rs:List Int)(hv:c.vs.length≤1000):FSpec Tryz.prog 12 [(clrS c),(lksS l),(.agg [(.int .i64 (.sym fun _=>rm)),(.sl 1 (.sym fun _=>zi (ss).length) (fun ix=>[.int .i64 (.sym fun _=>(ss).getD ix.den.toNat 0)])),(.sl 1 (.sym fun _=>zi (rs).length) (fun ix=>[.int .i64 (.sym fun _=>(rs).getD ix.den.toNat 0)]))])] [] (fun r _=>r=(.bool (.sym fun _=>proveB c l rm ss rs))):=by
  have c87:=looked87 c l
  have c58:=truth58 c rm ss rs hv
  have c59:=fun h:lookedF c l=0=>work59 c l (lookedF_spec h).1 (lookedF_spec h).2
  have c60:=fun (i:Nat) (h:i<c.vs.length∧COk c∧TruthC c rm ss rs)=>run60 c l rm (ss.getD i 0) (rs.getD i 0) (h.2.2.way h.2.1 i h.1) h.2.1.ok.h1 h.2.1.ok.h8
  have c91:=fun (i:Nat) (hL:LooksIn c l) (h8:c.hr≤8)=>(show FSpec Tryz.prog 39 [(wpS c l),(.int .i64 (.sym fun _=>zi i)),(.agg [(.arr 9 (fun ix=>(.int .i64 (.sym fun _=>atW c.hr rm (ss.getD i 0) (rs.getD i 0) ix.den.toNat))))]),(.sl 1 (.sym fun _=>zi (([]:List Int)).length) (fun ix=>[.int .i64 (.sym fun _=>(([]:List Int)).getD ix.den.toNat 0)]))] [] (fun r _=>r=(.bool (.sym fun _=>provP c l rm ss rs i)))from right91 c l (zi i) (atW c.hr rm (ss.getD i 0) (rs.getD i 0)) [] hL h8 (by simp))
  refine FSpec.is fun R hR=>qX (sc:=sc12) tyok mix Tryz.func12 rfl Tryz.call12 (by kernel_rfl) (by kernel_rfl) ?_
  generalize Tryz.prog=P at c87 c58 c59 c60 c91⊢
  cbv
  repeat' (first
      |with_reducible refine And.intro ?_ ?_
      |(with_reducible intro hcd;(try simp only [zA,zB,zC,zD,zE,zF,zG,zH,zI,zJ,zK,zL,zM,zN,zO,zP]at hcd);try cbv)
      | (refine qQ ?_ (c87) ?hfit
         case hfit=>((repeat' (first|exact qB|refine qD ?_ ?_|exact qE (by rfl)|exact qG (by rfl)|exact Fit.refl _|exact qA|refine qC ?_ rfl ?_));done)
         try cbv)
      | (refine qQ ?_ (c58) ?hfit
         case hfit=>((repeat' (first|exact qB|refine qD ?_ ?_|exact qE (by rfl)|exact qG (by rfl)|exact Fit.refl _|exact qA|refine qC ?_ rfl ?_));done)
         try cbv)
      | (refine qQ ?_ (c59 (show Hold _ from ?_)) ?hfit
         case hfit=>((repeat' (first|exact qB|refine qD ?_ ?_|exact qE (by rfl)|exact qG (by rfl)|exact Fit.refl _|exact qA|refine qC ?_ rfl ?_));done)
         try cbv)
      |fail)
  all_goals first
    |trivial
    |(subst hR;(refine qG ?_;(try simp only [qW]at *);(try simp only [zQ,zA,zB,zC,zD,zE,zF,zG,zH,zI,zJ,zK,zL,zM,zN,zO,zP,zR,zS]at *);first|exact(prove_no1 (by omega)).symm|exact(prove_no2 (by assumption)).symm);done)
    |skip
  have hF:lookedF c l=0:=(by first|assumption|((try simp only [qW]at *);(try simp only [zQ,zA,zB,zC,zD,zE,zF,zG,zH,zI,zJ,zK,zL,zM,zN,zO,zP,zR,zS]at *);omega))
  have hT:=truthB_iff.1 (show truthB c rm ss rs=true by first|assumption|(simp_all))
  have hC:=(lookedF_spec hF).1
  have hL:=(lookedF_spec hF).2
  have hs:=hT.s
  have hr:=hT.r
  have h1:=hC.ok.h1
  have h8:=hC.ok.h8
  refine⟨none,[],{i:Nat // i≤c.vs.length∧∀j,j<i→provP c l rm ss rs j=true},fun x=>⟨[(3,.own 0 0),(5,.own 1 0),(7,(wpS c l)),(24,(.int .i64 (.sym fun _=>zi c.vs.length))),(25,(.int .i64 (.sym fun _=>zi x.1)))],[(0,.cells [(.int .i64 (.sym fun _=>c.rl)),(.int .i64 (.sym fun _=>c.rh)),(.int .i64 (.sym fun _=>c.hr)),(.sl 4 (.sym fun _=>zi c.vs.length) (fun ix=>[(.int .i64 (.sym fun _=>(c.vs.getD ix.den.toNat v0).sl)),(.int .i64 (.sym fun _=>(c.vs.getD ix.den.toNat v0).sh)),(.int .i64 (.sym fun _=>(c.vs.getD ix.den.toNat v0).rl)),(.int .i64 (.sym fun _=>(c.vs.getD ix.den.toNat v0).rh))])),(.sl 2 (.sym fun _=>zi c.ts.length) (fun ix=>[(.int .i64 (.sym fun _=>(c.ts.getD ix.den.toNat t0).top)),(.sl 3 (.sym fun _=>zi ((c.ts.getD ix.den.toNat t0).ps).length) (fun jx=>[(.int .i64 (.sym fun _=>(((c.ts.getD ix.den.toNat t0).ps).getD jx.den.toNat p0).f)),(.int .i64 (.sym fun _=>(((c.ts.getD ix.den.toNat t0).ps).getD jx.den.toNat p0).el)),(.int .i64 (.sym fun _=>(((c.ts.getD ix.den.toNat t0).ps).getD jx.den.toNat p0).eh))]))]))] 44),(1,.cells [(.int .i64 (.sym fun _=>rm)),(.sl 1 (.sym fun _=>zi (ss).length) (fun ix=>[.int .i64 (.sym fun _=>(ss).getD ix.den.toNat 0)])),(.sl 1 (.sym fun _=>zi (rs).length) (fun ix=>[.int .i64 (.sym fun _=>(rs).getD ix.den.toNat 0)]))] 37)],60⟩,fun x=>c.vs.length-x.1,?_,?_⟩
  · refine⟨⟨0,by omega,fun j hj=>by omega⟩,?_⟩
    cbv
    repeat' (first
      |with_reducible refine hold ?_ ?_
      |with_reducible refine And.intro ?_ ?_)
    all_goals first
      |trivial
      |exact qN (qE (by rfl))
      |exact qN (Fit.refl _)
      |exact qM (qL _)
      |skip
  · rintro ⟨i,hi,hq⟩
    cbv
    repeat' (first
        |with_reducible refine hold ?_ ?_
        |with_reducible refine And.intro ?_ ?_
        |(with_reducible intro hcd;(try simp only [zA,zB,zC,zD,zE,zF,zG,zH,zI,zJ,zK,zL,zM,zN,zO,zP]at hcd);try cbv)
        | (refine qQ ?_ (c60 i ⟨(by((try simp only [qW]at *);(try simp only [zQ,zA,zB,zC,zD,zE,zF,zG,zH,zI,zJ,zK,zL,zM,zN,zO,zP,zR,zS]at *);omega)),hC,hT⟩) ?hfit
           case hfit=>((repeat' (first|exact qB|refine qD ?_ ?_|exact qE (by rfl)|exact qG (by rfl)|exact Fit.refl _|exact qA|refine qC ?_ rfl ?_));done)
           try cbv)
        | (refine qQ ?_ (c91 i hL h8) ?hfit
           case hfit=>((refine qD (Fit.refl _) (qD (qE (by rfl)) (qD (Fit.refl _) (qD (qP rfl) qB))));done)
           try cbv)
        |fail)
    all_goals first
      |((try simp only [qW]at *);(try simp only [zQ,zA,zB,zC,zD,zE,zF,zG,zH,zI,zJ,zK,zL,zM,zN,zO,zP,zR,zS]at *);first|(refine qO ?_;omega)|(simp only [Hold];omega))
      |(subst hR;(refine qG ?_;(try simp only [qW]at *);(try simp only [zQ,zA,zB,zC,zD,zE,zF,zG,zH,zI,zJ,zK,zL,zM,zN,zO,zP,zR,zS]at *);first|exact(prove_no3 (v:=i) (by omega) (by assumption)).symm|exact(prove_yes hF (truthB_iff.2 hT) (fun j hj=>hq j (by omega))).symm);done)
      |((try simp only [zQ,zA,zB,zC,zD,zE,zF,zG,zH,zI,zJ,zK,zL,zM,zN,zO,zP,zR,zS]at *);refine⟨⟨i+1,by omega,fun j hj=>(Nat.lt_or_ge j i).elim (hq j) fun q=>by rw [show j=i by omega];assumption⟩,by simp only [];omega,?_⟩;cbv;(repeat' (first|with_reducible refine hold ?_ ?_|with_reducible refine And.intro ?_ ?_));(all_goals first|trivial|exact qN (qE (by rfl))|exact qN (qG (by rfl))|exact qN (Fit.refl _)|exact qM (qL _)|(refine qN (qE ?_);(try simp only [qW]at *);simp only [zQ,zA,zB,zC,zD,zE,zF,zG,zH,zI,zJ,zK,zL,zM,zN,zO,zP,zR,zS]at *;omega)|(refine qM (qK ?_);(repeat' (first|exact qA|exact qB|refine qC ?_ rfl ?_|refine qD ?_ ?_|exact qE (by rfl)|exact qG (by rfl)|exact Fit.refl _|exact qH _|(refine qE ?_;(try simp only [qW]at *);simp only [zQ,zA,zB,zC,zD,zE,zF,zG,zH,zI,zJ,zK,zL,zM,zN,zO,zP,zR,zS]at *;omega)));done)|skip))
      |skip
end Go.Proofs.YteelocfbbhchcaaGreat

namespace Go.Proofs.YteelocfbbhchcaaGreat
open Go Go.Eng Go.Proofs
set_option maxRecDepth 10000
def firstOf (f:Nat→Option (List Int)):Nat→Nat→Option (List Int)
  |0,_=>none
  | k+1,i=>match f i with
    |some r=>some r
    |none=>firstOf f k (i+1)
theorem firstOf_hit {f:Nat→Option (List Int)} {k i:Nat} {r:List Int}(hk:0<k)(h:f i=some r):firstOf f k i=some r:=by
  cases k with
  |zero=>omega
  |succ k=>simp only [firstOf,h]
theorem firstOf_go {f:Nat→Option (List Int)} {k i:Nat}(hk:0<k)(h:f i=none):firstOf f k i=firstOf f (k-1) (i+1):=by
  cases k with
  |zero=>omega
  |succ k=>simp only [firstOf,h,Nat.add_sub_cancel]
def chooseL (n:Nat)(ok:List Int→Bool):Nat→List Int→Nat→Option (List Int)
  |0,l,_=>if ok l=true then some l else none
  |m+1,l,i=>firstOf (fun j=>chooseL n ok m (l++[(j:Int)]) (j+1)) (n-m-i) i
def iotaL :Nat→List Int
  |0=>[]
  |n+1=>iotaL n++[(n:Int)]
theorem choose_full {n:Nat} {ok:List Int→Bool}(h:ok (iotaL n)=true):∀m,m≤n→chooseL n ok m (iotaL (n-m)) (n-m)=some (iotaL n):=by
  intro m
  induction m with
  |zero=>intro _;simp only [chooseL,Nat.sub_zero,h,if_true]
  | succ m ih=>
    intro hm
    have:=ih (by omega)
    simp only [chooseL]
    rw [show n-m-(n-(m+1))=1 by omega]
    refine firstOf_hit (by omega) ?_
    rw [show n-(m+1)+1=n-m by omega]
    rw [show n-m=n-(m+1)+1 by omega]at this⊢
    exact this
theorem firstOf_some {f:Nat→Option (List Int)} {j:Nat} {r:List Int}(h:f j=some r):∀k i,i≤j→j<i+k→∃r',firstOf f k i=some r':=by
  intro k
  induction k with
  |zero=>intro i h1 h2;omega
  | succ k ih=>
    intro i h1 h2
    cases hf:f i with
    |some r'=>exact⟨r',firstOf_hit (by omega) hf⟩
    | none=>
      rw [firstOf_go (by omega) hf,Nat.add_sub_cancel]
      by_cases e:i=j
      · rw [e,h]at hf;cases hf
      · exact ih (i+1) (by omega) (by omega)
theorem inL_mem {o:List Int} {v:Int}:inL o v=true↔v∈o:=by
  rw [inL_t]
  constructor
  · rintro⟨j,hj,e⟩;rw [←e];exact mem_getD hj
  · intro h;exact getD_mem h
theorem iota_mem {n i:Nat}(h:i<n):(i:Int)∈iotaL n:=by
  induction n with
  |zero=>omega
  | succ n ih=>
    simp only [iotaL,List.mem_append,List.mem_singleton]
    by_cases e:i=n
    · exact Or.inr (by rw [e])
    · exact Or.inl (ih (by omega))
def okL (c:Clr)(l:List LookT)(o:List Int):Bool:=decide (0<(roomsL c l o).length)
theorem some_fit {c:Clr} {l:List LookT} {v rm:Int} {o:List Int} {st rt:Int}(h:fitW c l v rm o st rt=true)(h0:(vatA c v).sl≤st)(h1:st≤(vatA c v).sh)(r0:(vatA c v).rl≤rt)(r1:rt≤(vatA c v).rh):0<(waysC c l v rm o).length:=by
  obtain⟨a,ha,_⟩:=ways_lo (p:=fitW c l v rm o) (d:=difW c rm) (n:=((vatA c v).rh-(vatA c v).rl+1).toNat) h0 h1 r0 (by omega) h
  exact List.length_pos_of_mem ha
theorem okL_all {c:Clr}(hc:COk c)(l:List LookT):okL c l (iotaL l.length)=true:=by
  refine decide_eq_true ?_
  refine List.length_pos_of_mem (a:=c.rl) ((mem_rooms hc.ok.r1).2 ⟨Int.le_refl _,hc.ok.r1,?_⟩)
  unfold roomB
  rw [allB_t]
  intro v hv
  have vok:=hc.ok.v v hv
  unfold vatOk at vok
  refine decide_eq_true (some_fit (st:=(vatA c v).sl) (rt:=(vatA c v).rl) ?_ (Int.le_refl _) vok.2.1 (Int.le_refl _) vok.2.2.2.2.2.1)
  refine rightB_yes fun i hi=>rightP_in (inL_mem.2 (iota_mem hi))
def leaveO (c:Clr)(l:List LookT):Option (List Int):=firstOf (fun m=>chooseL l.length (okL c l) m [] 0) (l.length+1) 0
theorem leave_some {c:Clr}(hc:COk c)(l:List LookT):∃F,leaveO c l=some F:=by
  have:=choose_full (okL_all hc l) l.length (Nat.le_refl _)
  rw [Nat.sub_self]at this
  exact firstOf_some (f:=fun m=>chooseL l.length (okL c l) m [] 0) (j:=l.length) this (l.length+1) 0 (by omega) (by omega)
def leaveL (c:Clr)(l:List LookT):List Int:=if lookedF c l=0 then(leaveO c l).getD []else []
theorem leave_yes {c:Clr} {l:List LookT}(h:lookedF c l=0):leaveO c l=some (leaveL c l):=by
  obtain⟨F,hF⟩:=leave_some (lookedF_spec h).1 l
  unfold leaveL
  rw [if_pos h,hF];rfl
theorem leave_no {c:Clr} {l:List LookT}(h:¬lookedF c l=0):leaveL c l=[]:=by unfold leaveL;rw [if_neg h]
theorem zi_app {L l:List Int} {x:Int}(h:L=l++[x]):zi l.length+1=zi L.length:=by
  subst h
  simp only [zi_den,List.length_append,List.length_cons,List.length_nil]
  omega
end Go.Proofs.YteelocfbbhchcaaGreat

namespace Go.Proofs.YteelocfbbhchcaaGreat
open Go Go.Eng Go.Proofs
set_option maxRecDepth 10000
theorem leafY (c:Clr)(l:List LookT)(o:List Int)(i:Int)(hc:COk c)(hl:LooksIn c l)(ho:o.length≤100)(hok:okL c l o=true):FSpec Tryz.prog 35 [(.sl 1 (.sym fun _=>zi (o).length) (fun ix=>[.int .i64 (.sym fun _=>(o).getD ix.den.toNat 0)])),(.int .i64 (.sym fun _=>i)),(.int .i64 (.sym fun _=>0)),.own 0 0,.own 1 0,.own 2 0,.own 3 0] [.cells [.any] 29,.cells [(wpS c l)] 87,.cells [(lksS l)] 46,.cells [.clo 35 [] [.own 0 0,.own 1 0,.own 2 0,.own 3 0]] 107] (fun r bs=>r=(.bool (.sym fun _=>true))∧bs=[.cells [(.sl 1 (.sym fun _=>zi (o).length) (fun ix=>[.int .i64 (.sym fun _=>(o).getD ix.den.toNat 0)]))] 29,.cells [(wpS c l)] 87,.cells [(lksS l)] 46,.cells [.clo 35 [] [.own 0 0,.own 1 0,.own 2 0,.own 3 0]] 107]):=by
  have c89:=rooms89 c l o hc hl (by omega)
  refine FSpec.isB rfl fun R B hR hB=>qX (sc:=sc35) tyok mix Tryz.func35 rfl Tryz.call35 (by kernel_rfl) (by kernel_rfl) ?_
  generalize Tryz.prog=P at c89⊢
  cbv
  have h8:=hc.ok.h8
  have hrl:=rooms_len hc l o
  have hok2:=hok
  unfold okL at hok2
  rw [decide_eq_true_eq]at hok2
  repeat' (first
      |with_reducible refine And.intro ?_ ?_
      |(with_reducible intro hcd;(try simp only [zA,zB,zC,zD,zE,zF,zG,zH,zI,zJ,zK,zL,zM,zN,zO,zP]at hcd);try cbv)
      | (refine qQ ?_ (c89) ?hfit
         case hfit=>((repeat' (first|exact qB|refine qD ?_ ?_|exact qE (by rfl)|exact qG (by rfl)|exact Fit.refl _|exact qA|refine qC ?_ rfl ?_));done)
         try cbv)
      |fail)
  all_goals first
    |trivial
    |(subst hR;(refine qG ?_;exact decide_eq_true (show(0:Int)<zi (roomsL c l o).length by simp only [zi_den];omega));done)
    |(subst hB;(repeat' (first|exact qI|refine qJ ?_ ?_|exact qL _|refine qK ?_|exact qA|exact qE (by rfl)|exact qG (by rfl)|exact Fit.refl _|exact qH _|refine qC ?_ rfl ?_));done)
    |skip
theorem leafN (c:Clr)(l:List LookT)(o:List Int)(i:Int)(hc:COk c)(hl:LooksIn c l)(ho:o.length≤100)(hok:okL c l o=false):FSpec Tryz.prog 35 [(.sl 1 (.sym fun _=>zi (o).length) (fun ix=>[.int .i64 (.sym fun _=>(o).getD ix.den.toNat 0)])),(.int .i64 (.sym fun _=>i)),(.int .i64 (.sym fun _=>0)),.own 0 0,.own 1 0,.own 2 0,.own 3 0] [.cells [.any] 29,.cells [(wpS c l)] 87,.cells [(lksS l)] 46,.cells [.clo 35 [] [.own 0 0,.own 1 0,.own 2 0,.own 3 0]] 107] (fun r bs=>r=(.bool (.sym fun _=>false))∧bs=[.cells [.any] 29,.cells [(wpS c l)] 87,.cells [(lksS l)] 46,.cells [.clo 35 [] [.own 0 0,.own 1 0,.own 2 0,.own 3 0]] 107]):=by
  have c89:=rooms89 c l o hc hl (by omega)
  refine FSpec.isB rfl fun R B hR hB=>qX (sc:=sc35) tyok mix Tryz.func35 rfl Tryz.call35 (by kernel_rfl) (by kernel_rfl) ?_
  generalize Tryz.prog=P at c89⊢
  cbv
  have h8:=hc.ok.h8
  have hrl:=rooms_len hc l o
  have hok2:=hok
  unfold okL at hok2
  rw [decide_eq_false_iff_not]at hok2
  repeat' (first
      |with_reducible refine And.intro ?_ ?_
      |(with_reducible intro hcd;(try simp only [zA,zB,zC,zD,zE,zF,zG,zH,zI,zJ,zK,zL,zM,zN,zO,zP]at hcd);try cbv)
      | (refine qQ ?_ (c89) ?hfit
         case hfit=>((repeat' (first|exact qB|refine qD ?_ ?_|exact qE (by rfl)|exact qG (by rfl)|exact Fit.refl _|exact qA|refine qC ?_ rfl ?_));done)
         try cbv)
      |fail)
  all_goals first
    |trivial
    |(subst hR;(refine qG ?_;exact decide_eq_false (show ¬(0:Int)<zi (roomsL c l o).length by simp only [zi_den];omega));done)
    |(subst hB;(repeat' (first|exact qI|refine qJ ?_ ?_|exact qL _|refine qK ?_|exact qA|exact qE (by rfl)|exact qG (by rfl)|exact Fit.refl _|exact qH _|refine qC ?_ rfl ?_));done)
    |skip
set_option maxHeartbeats 1000000 in
theorem stepY (c:Clr)(l:List LookT)(o:List Int)(i k M:Nat)(F:List Int)(hc:COk c)(hl:LooksIn c l)(ho:o.length≤i)(hM:M=k+1)(him:i+M≤l.length)(hch:firstOf (fun j=>chooseL l.length (okL c l) k (o++[(j:Int)]) (j+1)) (l.length+1-M-i) i=some F)(ih:∀(j:Nat),i≤j→j+M≤l.length→(∀F L:List Int,L=o++[(j:Int)]→chooseL l.length (okL c l) k (o++[(j:Int)]) (j+1)=some F→FSpec Tryz.prog 35 [(.sl 1 (.sym fun _=>zi (L).length) (fun ix=>[.int .i64 (.sym fun _=>(L).getD ix.den.toNat 0)])),(.int .i64 (.sym fun _=>zi j+1)),(.int .i64 (.sym fun _=>zi M-1)),.own 0 0,.own 1 0,.own 2 0,.own 3 0] [.cells [.any] 29,.cells [(wpS c l)] 87,.cells [(lksS l)] 46,.cells [.clo 35 [] [.own 0 0,.own 1 0,.own 2 0,.own 3 0]] 107] (fun r bs=>r=(.bool (.sym fun _=>true))∧bs=[.cells [(.sl 1 (.sym fun _=>zi (F).length) (fun ix=>[.int .i64 (.sym fun _=>(F).getD ix.den.toNat 0)]))] 29,.cells [(wpS c l)] 87,.cells [(lksS l)] 46,.cells [.clo 35 [] [.own 0 0,.own 1 0,.own 2 0,.own 3 0]] 107]))∧(∀L:List Int,L=o++[(j:Int)]→chooseL l.length (okL c l) k (o++[(j:Int)]) (j+1)=none→FSpec Tryz.prog 35 [(.sl 1 (.sym fun _=>zi (L).length) (fun ix=>[.int .i64 (.sym fun _=>(L).getD ix.den.toNat 0)])),(.int .i64 (.sym fun _=>zi j+1)),(.int .i64 (.sym fun _=>zi M-1)),.own 0 0,.own 1 0,.own 2 0,.own 3 0] [.cells [.any] 29,.cells [(wpS c l)] 87,.cells [(lksS l)] 46,.cells [.clo 35 [] [.own 0 0,.own 1 0,.own 2 0,.own 3 0]] 107] (fun r bs=>r=(.bool (.sym fun _=>false))∧bs=[.cells [.any] 29,.cells [(wpS c l)] 87,.cells [(lksS l)] 46,.cells [.clo 35 [] [.own 0 0,.own 1 0,.own 2 0,.own 3 0]] 107]))):FSpec Tryz.prog 35 [(.sl 1 (.sym fun _=>zi (o).length) (fun ix=>[.int .i64 (.sym fun _=>(o).getD ix.den.toNat 0)])),(.int .i64 (.sym fun _=>zi i)),(.int .i64 (.sym fun _=>zi M)),.own 0 0,.own 1 0,.own 2 0,.own 3 0] [.cells [.any] 29,.cells [(wpS c l)] 87,.cells [(lksS l)] 46,.cells [.clo 35 [] [.own 0 0,.own 1 0,.own 2 0,.own 3 0]] 107] (fun r bs=>r=(.bool (.sym fun _=>true))∧bs=[.cells [(.sl 1 (.sym fun _=>zi (F).length) (fun ix=>[.int .i64 (.sym fun _=>(F).getD ix.den.toNat 0)]))] 29,.cells [(wpS c l)] 87,.cells [(lksS l)] 46,.cells [.clo 35 [] [.own 0 0,.own 1 0,.own 2 0,.own 3 0]] 107]):=by
  have c61:=clone61 o (by have:=hl.n;omega)
  have ihY:=fun (j:Nat) h h1=>(ih j h h1).1
  have ihN:=fun (j:Nat) h h1=>(ih j h h1).2
  refine FSpec.isB rfl fun R B hR hB=>qX (sc:=sc35) tyok mix Tryz.func35 rfl Tryz.call35 (by kernel_rfl) (by kernel_rfl) ?_
  generalize Tryz.prog=P at c61 ihY ihN⊢
  cbv
  have hfew:=hl.n
  repeat' (first
      |with_reducible refine And.intro ?_ ?_
      |(with_reducible intro hcd;(try simp only [zA,zB,zC,zD,zE,zF,zG,zH,zI,zJ,zK,zL,zM,zN,zO,zP]at hcd);try cbv)
      |fail)
  all_goals first
    |(exfalso;(try simp only [qW]at *);(try simp only [zQ,zA,zB,zC,zD,zE,zF,zG,zH,zI,zJ,zK,zL,zM,zN,zO,zP,zR,zS]at *);omega)
    |skip
  refine⟨none,[],{x:Nat // i≤x∧x+M≤l.length+1∧firstOf (fun j=>chooseL l.length (okL c l) k (o++[(j:Int)]) (j+1)) (l.length+1-M-x) x=some F},fun x=>⟨[(0,(.sl 1 (.sym fun _=>zi (o).length) (fun ix=>[.int .i64 (.sym fun _=>(o).getD ix.den.toNat 0)]))),(2,(.int .i64 (.sym fun _=>zi M))),(3,.own 0 0),(4,.own 1 0),(5,.own 2 0),(6,.own 3 0),(11,(.int .i64 (.sym fun _=>zi x.1)))],[(0,.cells [.any] 29),(1,.cells [(wpS c l)] 87),(2,.cells [(lksS l)] 46),(3,.cells [.clo 35 [] [.own 0 0,.own 1 0,.own 2 0,.own 3 0]] 107)],40⟩,fun x=>l.length+1-x.1,?_,?_⟩
  · refine⟨⟨i,by omega,by omega,hch⟩,?_⟩
    cbv
    repeat' (first
      |with_reducible refine hold ?_ ?_
      |with_reducible refine And.intro ?_ ?_)
    all_goals first
      |trivial
      |exact qN (qE (by rfl))
      |exact qN (Fit.refl _)
      |exact qM (qL _)
      |skip
  · rintro ⟨x,h1,h2,h3⟩
    cbv
    repeat' (first
        |with_reducible refine hold ?_ ?_
        |with_reducible refine And.intro ?_ ?_
        |(with_reducible intro hcd;(try simp only [zA,zB,zC,zD,zE,zF,zG,zH,zI,zJ,zK,zL,zM,zN,zO,zP]at hcd);try cbv)
        | (refine Or.inr ⟨true,?_⟩
           cbv
           refine qV ?_ (c61) (by cbv;(repeat' (first|exact qB|refine qD ?_ ?_|exact qE (by rfl)|exact qG (by rfl)|exact Fit.refl _|exact qA|refine qC ?_ rfl ?_))) (by cbv;(repeat' (first|exact qI|refine qJ ?_ ?_|exact qL _|refine qK ?_|exact qA|exact qE (by rfl)|exact qG (by rfl)|exact Fit.refl _|exact qH _|refine qC ?_ rfl ?_)))
           try cbv)
        | (obtain⟨L2,eL2⟩:∃y:List Int,y=o++[(x:Int)]:=⟨_,rfl⟩
           refine⟨intsE L2,?_⟩
           cbv
           refine hold (hold_rowlist (L:=o) eL2 (by(first|rfl|((try simp only [qW]at *);(try simp only [zQ,zA,zB,zC,zD,zE,zF,zG,zH,zI,zJ,zK,zL,zM,zN,zO,zP,zR,zS]at *);done)|((try simp only [qW]at *);(try simp only [zQ,zA,zB,zC,zD,zE,zF,zG,zH,zI,zJ,zK,zL,zM,zN,zO,zP,zR,zS]at *);omega))) (by rfl) (fun ix=>Fit.refl _) (fun ix h=>qC (qE (by rfl)) rfl qA) (by(try simp only [qW]at *);(try simp only [zQ,zA,zB,zC,zD,zE,zF,zG,zH,zI,zJ,zK,zL,zM,zN,zO,zP,zR,zS]at *);omega)) (Or.inr ⟨true,?_⟩)
           try cbv)
        |((rcases hcj:chooseL l.length (okL c l) k (o++[(x:Int)]) (x+1)with _|G)<;>(first|(refine⟨some [0,1,2,3],?_⟩;cbv;refine qR ?_ (ihN x (by((try simp only [qW]at *);(try simp only [zQ,zA,zB,zC,zD,zE,zF,zG,zH,zI,zJ,zK,zL,zM,zN,zO,zP,zR,zS]at *);omega)) (by((try simp only [qW]at *);(try simp only [zQ,zA,zB,zC,zD,zE,zF,zG,zH,zI,zJ,zK,zL,zM,zN,zO,zP,zR,zS]at *);omega)) L2 eL2 hcj) (by cbv;refine qD (fit_sl (zi_app eL2) (fun _ _ _=>Fit.refl _)) ?_;(repeat' (first|exact qB|refine qD ?_ ?_|exact qE (by rfl)|exact qG (by rfl)|exact Fit.refl _|exact qA|refine qC ?_ rfl ?_))) (by cbv;(repeat' (first|exact qI|refine qJ ?_ ?_|exact qL _|refine qK ?_|exact qA|exact qE (by rfl)|exact qG (by rfl)|exact Fit.refl _|exact qH _|refine qC ?_ rfl ?_)));(try cbv))|(refine⟨some [0,1,2,3],?_⟩;cbv;refine qR ?_ (ihY x (by((try simp only [qW]at *);(try simp only [zQ,zA,zB,zC,zD,zE,zF,zG,zH,zI,zJ,zK,zL,zM,zN,zO,zP,zR,zS]at *);omega)) (by((try simp only [qW]at *);(try simp only [zQ,zA,zB,zC,zD,zE,zF,zG,zH,zI,zJ,zK,zL,zM,zN,zO,zP,zR,zS]at *);omega)) G L2 eL2 hcj) (by cbv;refine qD (fit_sl (zi_app eL2) (fun _ _ _=>Fit.refl _)) ?_;(repeat' (first|exact qB|refine qD ?_ ?_|exact qE (by rfl)|exact qG (by rfl)|exact Fit.refl _|exact qA|refine qC ?_ rfl ?_))) (by cbv;(repeat' (first|exact qI|refine qJ ?_ ?_|exact qL _|refine qK ?_|exact qA|exact qE (by rfl)|exact qG (by rfl)|exact Fit.refl _|exact qH _|refine qC ?_ rfl ?_)));(try cbv))))
        |fail)
    all_goals first
      |trivial
      |((try simp only [qW]at *);(try simp only [zQ,zA,zB,zC,zD,zE,zF,zG,zH,zI,zJ,zK,zL,zM,zN,zO,zP,zR,zS]at *);first|(refine qO ?_;omega)|(simp only [Hold];omega))
      |(subst hR;(repeat' (first|exact qA|exact qB|refine qC ?_ rfl ?_|refine qD ?_ ?_|exact qE (by rfl)|exact qG (by rfl)|exact Fit.refl _|exact qH _|(refine qE ?_;(try simp only [qW]at *);simp only [zQ,zA,zB,zC,zD,zE,zF,zG,zH,zI,zJ,zK,zL,zM,zN,zO,zP,zR,zS]at *;omega)));done)
      |(cases (firstOf_hit (f:=(fun j=>chooseL l.length (okL c l) k (o++[(j:Int)]) (j+1))) (k:=l.length+1-M-x) (i:=x) (by((try simp only [qW]at *);(try simp only [zQ,zA,zB,zC,zD,zE,zF,zG,zH,zI,zJ,zK,zL,zM,zN,zO,zP,zR,zS]at *);omega)) hcj).symm.trans h3;subst hB;(repeat' (first|exact qI|refine qJ ?_ ?_|exact qL _|refine qK ?_|exact qA|exact qE (by rfl)|exact qG (by rfl)|exact Fit.refl _|exact qH _|refine qC ?_ rfl ?_));done)
      |((have hz:l.length+1-M-x=0:=by((try simp only [qW]at *);(try simp only [zQ,zA,zB,zC,zD,zE,zF,zG,zH,zI,zJ,zK,zL,zM,zN,zO,zP,zR,zS]at *);omega));rw [hz]at h3;cases h3;done)
      |((try simp only [zQ,zA,zB,zC,zD,zE,zF,zG,zH,zI,zJ,zK,zL,zM,zN,zO,zP,zR,zS]at *);refine⟨⟨x+1,by omega,by omega,by rw [show l.length+1-M-(x+1)=l.length+1-M-x-1 by omega];exact(firstOf_go (f:=(fun j=>chooseL l.length (okL c l) k (o++[(j:Int)]) (j+1))) (k:=l.length+1-M-x) (i:=x) (by omega) hcj).symm.trans h3⟩,by simp only [];omega,?_⟩;cbv;(repeat' (first|with_reducible refine hold ?_ ?_|with_reducible refine And.intro ?_ ?_));(all_goals first|trivial|exact qN (qE (by rfl))|exact qN (qG (by rfl))|exact qN (Fit.refl _)|exact qM (qL _)|(refine qN (qE ?_);(try simp only [qW]at *);simp only [zQ,zA,zB,zC,zD,zE,zF,zG,zH,zI,zJ,zK,zL,zM,zN,zO,zP,zR,zS]at *;omega)|(refine qM (qK ?_);(repeat' (first|exact qA|exact qB|refine qC ?_ rfl ?_|refine qD ?_ ?_|exact qE (by rfl)|exact qG (by rfl)|exact Fit.refl _|exact qH _|(refine qE ?_;(try simp only [qW]at *);simp only [zQ,zA,zB,zC,zD,zE,zF,zG,zH,zI,zJ,zK,zL,zM,zN,zO,zP,zR,zS]at *;omega)));done)|skip))
      |skip
set_option maxHeartbeats 1000000 in
theorem stepN (c:Clr)(l:List LookT)(o:List Int)(i k M:Nat)(hc:COk c)(hl:LooksIn c l)(ho:o.length≤i)(hM:M=k+1)(him:i+M≤l.length)(hch:firstOf (fun j=>chooseL l.length (okL c l) k (o++[(j:Int)]) (j+1)) (l.length+1-M-i) i=none)(ih:∀(j:Nat),i≤j→j+M≤l.length→(∀F L:List Int,L=o++[(j:Int)]→chooseL l.length (okL c l) k (o++[(j:Int)]) (j+1)=some F→FSpec Tryz.prog 35 [(.sl 1 (.sym fun _=>zi (L).length) (fun ix=>[.int .i64 (.sym fun _=>(L).getD ix.den.toNat 0)])),(.int .i64 (.sym fun _=>zi j+1)),(.int .i64 (.sym fun _=>zi M-1)),.own 0 0,.own 1 0,.own 2 0,.own 3 0] [.cells [.any] 29,.cells [(wpS c l)] 87,.cells [(lksS l)] 46,.cells [.clo 35 [] [.own 0 0,.own 1 0,.own 2 0,.own 3 0]] 107] (fun r bs=>r=(.bool (.sym fun _=>true))∧bs=[.cells [(.sl 1 (.sym fun _=>zi (F).length) (fun ix=>[.int .i64 (.sym fun _=>(F).getD ix.den.toNat 0)]))] 29,.cells [(wpS c l)] 87,.cells [(lksS l)] 46,.cells [.clo 35 [] [.own 0 0,.own 1 0,.own 2 0,.own 3 0]] 107]))∧(∀L:List Int,L=o++[(j:Int)]→chooseL l.length (okL c l) k (o++[(j:Int)]) (j+1)=none→FSpec Tryz.prog 35 [(.sl 1 (.sym fun _=>zi (L).length) (fun ix=>[.int .i64 (.sym fun _=>(L).getD ix.den.toNat 0)])),(.int .i64 (.sym fun _=>zi j+1)),(.int .i64 (.sym fun _=>zi M-1)),.own 0 0,.own 1 0,.own 2 0,.own 3 0] [.cells [.any] 29,.cells [(wpS c l)] 87,.cells [(lksS l)] 46,.cells [.clo 35 [] [.own 0 0,.own 1 0,.own 2 0,.own 3 0]] 107] (fun r bs=>r=(.bool (.sym fun _=>false))∧bs=[.cells [.any] 29,.cells [(wpS c l)] 87,.cells [(lksS l)] 46,.cells [.clo 35 [] [.own 0 0,.own 1 0,.own 2 0,.own 3 0]] 107]))):FSpec Tryz.prog 35 [(.sl 1 (.sym fun _=>zi (o).length) (fun ix=>[.int .i64 (.sym fun _=>(o).getD ix.den.toNat 0)])),(.int .i64 (.sym fun _=>zi i)),(.int .i64 (.sym fun _=>zi M)),.own 0 0,.own 1 0,.own 2 0,.own 3 0] [.cells [.any] 29,.cells [(wpS c l)] 87,.cells [(lksS l)] 46,.cells [.clo 35 [] [.own 0 0,.own 1 0,.own 2 0,.own 3 0]] 107] (fun r bs=>r=(.bool (.sym fun _=>false))∧bs=[.cells [.any] 29,.cells [(wpS c l)] 87,.cells [(lksS l)] 46,.cells [.clo 35 [] [.own 0 0,.own 1 0,.own 2 0,.own 3 0]] 107]):=by
  have c61:=clone61 o (by have:=hl.n;omega)
  have ihY:=fun (j:Nat) h h1=>(ih j h h1).1
  have ihN:=fun (j:Nat) h h1=>(ih j h h1).2
  refine FSpec.isB rfl fun R B hR hB=>qX (sc:=sc35) tyok mix Tryz.func35 rfl Tryz.call35 (by kernel_rfl) (by kernel_rfl) ?_
  generalize Tryz.prog=P at c61 ihY ihN⊢
  cbv
  have hfew:=hl.n
  repeat' (first
      |with_reducible refine And.intro ?_ ?_
      |(with_reducible intro hcd;(try simp only [zA,zB,zC,zD,zE,zF,zG,zH,zI,zJ,zK,zL,zM,zN,zO,zP]at hcd);try cbv)
      |fail)
  all_goals first
    |(exfalso;(try simp only [qW]at *);(try simp only [zQ,zA,zB,zC,zD,zE,zF,zG,zH,zI,zJ,zK,zL,zM,zN,zO,zP,zR,zS]at *);omega)
    |skip
  refine⟨none,[],{x:Nat // i≤x∧x+M≤l.length+1∧firstOf (fun j=>chooseL l.length (okL c l) k (o++[(j:Int)]) (j+1)) (l.length+1-M-x) x=none},fun x=>⟨[(0,(.sl 1 (.sym fun _=>zi (o).length) (fun ix=>[.int .i64 (.sym fun _=>(o).getD ix.den.toNat 0)]))),(2,(.int .i64 (.sym fun _=>zi M))),(3,.own 0 0),(4,.own 1 0),(5,.own 2 0),(6,.own 3 0),(11,(.int .i64 (.sym fun _=>zi x.1)))],[(0,.cells [.any] 29),(1,.cells [(wpS c l)] 87),(2,.cells [(lksS l)] 46),(3,.cells [.clo 35 [] [.own 0 0,.own 1 0,.own 2 0,.own 3 0]] 107)],40⟩,fun x=>l.length+1-x.1,?_,?_⟩
  · refine⟨⟨i,by omega,by omega,hch⟩,?_⟩
    cbv
    repeat' (first
      |with_reducible refine hold ?_ ?_
      |with_reducible refine And.intro ?_ ?_)
    all_goals first
      |trivial
      |exact qN (qE (by rfl))
      |exact qN (Fit.refl _)
      |exact qM (qL _)
      |skip
  · rintro ⟨x,h1,h2,h3⟩
    cbv
    repeat' (first
        |with_reducible refine hold ?_ ?_
        |with_reducible refine And.intro ?_ ?_
        |(with_reducible intro hcd;(try simp only [zA,zB,zC,zD,zE,zF,zG,zH,zI,zJ,zK,zL,zM,zN,zO,zP]at hcd);try cbv)
        | (refine Or.inr ⟨true,?_⟩
           cbv
           refine qV ?_ (c61) (by cbv;(repeat' (first|exact qB|refine qD ?_ ?_|exact qE (by rfl)|exact qG (by rfl)|exact Fit.refl _|exact qA|refine qC ?_ rfl ?_))) (by cbv;(repeat' (first|exact qI|refine qJ ?_ ?_|exact qL _|refine qK ?_|exact qA|exact qE (by rfl)|exact qG (by rfl)|exact Fit.refl _|exact qH _|refine qC ?_ rfl ?_)))
           try cbv)
        | (obtain⟨L2,eL2⟩:∃y:List Int,y=o++[(x:Int)]:=⟨_,rfl⟩
           refine⟨intsE L2,?_⟩
           cbv
           refine hold (hold_rowlist (L:=o) eL2 (by(first|rfl|((try simp only [qW]at *);(try simp only [zQ,zA,zB,zC,zD,zE,zF,zG,zH,zI,zJ,zK,zL,zM,zN,zO,zP,zR,zS]at *);done)|((try simp only [qW]at *);(try simp only [zQ,zA,zB,zC,zD,zE,zF,zG,zH,zI,zJ,zK,zL,zM,zN,zO,zP,zR,zS]at *);omega))) (by rfl) (fun ix=>Fit.refl _) (fun ix h=>qC (qE (by rfl)) rfl qA) (by(try simp only [qW]at *);(try simp only [zQ,zA,zB,zC,zD,zE,zF,zG,zH,zI,zJ,zK,zL,zM,zN,zO,zP,zR,zS]at *);omega)) (Or.inr ⟨true,?_⟩)
           try cbv)
        |((rcases hcj:chooseL l.length (okL c l) k (o++[(x:Int)]) (x+1)with _|G)<;>(first|(refine⟨some [0,1,2,3],?_⟩;cbv;refine qR ?_ (ihN x (by((try simp only [qW]at *);(try simp only [zQ,zA,zB,zC,zD,zE,zF,zG,zH,zI,zJ,zK,zL,zM,zN,zO,zP,zR,zS]at *);omega)) (by((try simp only [qW]at *);(try simp only [zQ,zA,zB,zC,zD,zE,zF,zG,zH,zI,zJ,zK,zL,zM,zN,zO,zP,zR,zS]at *);omega)) L2 eL2 hcj) (by cbv;refine qD (fit_sl (zi_app eL2) (fun _ _ _=>Fit.refl _)) ?_;(repeat' (first|exact qB|refine qD ?_ ?_|exact qE (by rfl)|exact qG (by rfl)|exact Fit.refl _|exact qA|refine qC ?_ rfl ?_))) (by cbv;(repeat' (first|exact qI|refine qJ ?_ ?_|exact qL _|refine qK ?_|exact qA|exact qE (by rfl)|exact qG (by rfl)|exact Fit.refl _|exact qH _|refine qC ?_ rfl ?_)));(try cbv))|(refine⟨some [0,1,2,3],?_⟩;cbv;refine qR ?_ (ihY x (by((try simp only [qW]at *);(try simp only [zQ,zA,zB,zC,zD,zE,zF,zG,zH,zI,zJ,zK,zL,zM,zN,zO,zP,zR,zS]at *);omega)) (by((try simp only [qW]at *);(try simp only [zQ,zA,zB,zC,zD,zE,zF,zG,zH,zI,zJ,zK,zL,zM,zN,zO,zP,zR,zS]at *);omega)) G L2 eL2 hcj) (by cbv;refine qD (fit_sl (zi_app eL2) (fun _ _ _=>Fit.refl _)) ?_;(repeat' (first|exact qB|refine qD ?_ ?_|exact qE (by rfl)|exact qG (by rfl)|exact Fit.refl _|exact qA|refine qC ?_ rfl ?_))) (by cbv;(repeat' (first|exact qI|refine qJ ?_ ?_|exact qL _|refine qK ?_|exact qA|exact qE (by rfl)|exact qG (by rfl)|exact Fit.refl _|exact qH _|refine qC ?_ rfl ?_)));(try cbv))))
        |fail)
    all_goals first
      |trivial
      |((try simp only [qW]at *);(try simp only [zQ,zA,zB,zC,zD,zE,zF,zG,zH,zI,zJ,zK,zL,zM,zN,zO,zP,zR,zS]at *);first|(refine qO ?_;omega)|(simp only [Hold];omega))
      |(subst hR;(repeat' (first|exact qA|exact qB|refine qC ?_ rfl ?_|refine qD ?_ ?_|exact qE (by rfl)|exact qG (by rfl)|exact Fit.refl _|exact qH _|(refine qE ?_;(try simp only [qW]at *);simp only [zQ,zA,zB,zC,zD,zE,zF,zG,zH,zI,zJ,zK,zL,zM,zN,zO,zP,zR,zS]at *;omega)));done)
      |(subst hB;(repeat' (first|exact qI|refine qJ ?_ ?_|exact qL _|refine qK ?_|exact qA|exact qE (by rfl)|exact qG (by rfl)|exact Fit.refl _|exact qH _|refine qC ?_ rfl ?_));done)
      |(cases (firstOf_hit (f:=(fun j=>chooseL l.length (okL c l) k (o++[(j:Int)]) (j+1))) (k:=l.length+1-M-x) (i:=x) (by((try simp only [qW]at *);(try simp only [zQ,zA,zB,zC,zD,zE,zF,zG,zH,zI,zJ,zK,zL,zM,zN,zO,zP,zR,zS]at *);omega)) hcj).symm.trans h3;done)
      |((try simp only [zQ,zA,zB,zC,zD,zE,zF,zG,zH,zI,zJ,zK,zL,zM,zN,zO,zP,zR,zS]at *);refine⟨⟨x+1,by omega,by omega,by rw [show l.length+1-M-(x+1)=l.length+1-M-x-1 by omega];exact(firstOf_go (f:=(fun j=>chooseL l.length (okL c l) k (o++[(j:Int)]) (j+1))) (k:=l.length+1-M-x) (i:=x) (by omega) hcj).symm.trans h3⟩,by simp only [];omega,?_⟩;cbv;(repeat' (first|with_reducible refine hold ?_ ?_|with_reducible refine And.intro ?_ ?_));(all_goals first|trivial|exact qN (qE (by rfl))|exact qN (qG (by rfl))|exact qN (Fit.refl _)|exact qM (qL _)|(refine qN (qE ?_);(try simp only [qW]at *);simp only [zQ,zA,zB,zC,zD,zE,zF,zG,zH,zI,zJ,zK,zL,zM,zN,zO,zP,zR,zS]at *;omega)|(refine qM (qK ?_);(repeat' (first|exact qA|exact qB|refine qC ?_ rfl ?_|refine qD ?_ ?_|exact qE (by rfl)|exact qG (by rfl)|exact Fit.refl _|exact qH _|(refine qE ?_;(try simp only [qW]at *);simp only [zQ,zA,zB,zC,zD,zE,zF,zG,zH,zI,zJ,zK,zL,zM,zN,zO,zP,zR,zS]at *;omega)));done)|skip))
      |skip
theorem choose88 (c:Clr)(l:List LookT)(hc:COk c)(hl:LooksIn c l):∀(m:Nat) (o:List Int) (i:Nat) (ie me:Int),ie=(i:Int)→me=(m:Int)→o.length≤i→i+m≤l.length →
    (∀F:List Int,chooseL l.length (okL c l) m o i=some F→FSpec Tryz.prog 35 [(.sl 1 (.sym fun _=>zi (o).length) (fun ix=>[.int .i64 (.sym fun _=>(o).getD ix.den.toNat 0)])),(.int .i64 (.sym fun _=>ie)),(.int .i64 (.sym fun _=>me)),.own 0 0,.own 1 0,.own 2 0,.own 3 0] [.cells [.any] 29,.cells [(wpS c l)] 87,.cells [(lksS l)] 46,.cells [.clo 35 [] [.own 0 0,.own 1 0,.own 2 0,.own 3 0]] 107] (fun r bs=>r=(.bool (.sym fun _=>true))∧bs=[.cells [(.sl 1 (.sym fun _=>zi (F).length) (fun ix=>[.int .i64 (.sym fun _=>(F).getD ix.den.toNat 0)]))] 29,.cells [(wpS c l)] 87,.cells [(lksS l)] 46,.cells [.clo 35 [] [.own 0 0,.own 1 0,.own 2 0,.own 3 0]] 107]))∧(chooseL l.length (okL c l) m o i=none→FSpec Tryz.prog 35 [(.sl 1 (.sym fun _=>zi (o).length) (fun ix=>[.int .i64 (.sym fun _=>(o).getD ix.den.toNat 0)])),(.int .i64 (.sym fun _=>ie)),(.int .i64 (.sym fun _=>me)),.own 0 0,.own 1 0,.own 2 0,.own 3 0] [.cells [.any] 29,.cells [(wpS c l)] 87,.cells [(lksS l)] 46,.cells [.clo 35 [] [.own 0 0,.own 1 0,.own 2 0,.own 3 0]] 107] (fun r bs=>r=(.bool (.sym fun _=>false))∧bs=[.cells [.any] 29,.cells [(wpS c l)] 87,.cells [(lksS l)] 46,.cells [.clo 35 [] [.own 0 0,.own 1 0,.own 2 0,.own 3 0]] 107])):=by
  intro m
  induction m with
  | zero=>
    intro o i ie me hie hme ho him
    have hn:=hl.n
    have hm0:me=0:=by omega
    subst hm0
    constructor
    · intro F hF
      simp only [chooseL]at hF
      split at hF
      · rename_i h;cases hF;exact leafY c l o ie hc hl (by omega) h
      · cases hF
    · intro hF
      simp only [chooseL]at hF
      split at hF
      · cases hF
      · rename_i h;exact leafN c l o ie hc hl (by omega) (by simpa using h)
  | succ k ih=>
    intro o i ie me hie hme ho him
    have ih':∀(j:Nat) (L:List Int),L=o++[(j:Int)]→i≤j→j+(k+1)≤l.length→_:=fun j L hL hj hjm=>ih L (j+1) (zi j+1) (zi (k+1)-1) (by simp only [zi_den];omega) (by simp only [zi_den];omega) (by subst hL;simp only [List.length_append,List.length_cons,List.length_nil];omega) (by omega)
    subst hie
    subst hme
    constructor
    · intro F hF
      exact stepY c l o i k (k+1) F hc hl ho rfl him (by rw [show l.length+1-(k+1)-i=l.length-k-i by omega];exact hF) fun j h1 h2=>⟨fun F L hL hc=>(ih' j L hL h1 h2).1 F (by rw [hL];exact hc),fun L hL hc=>(ih' j L hL h1 h2).2 (by rw [hL];exact hc)⟩
    · intro hF
      exact stepN c l o i k (k+1) hc hl ho rfl him (by rw [show l.length+1-(k+1)-i=l.length-k-i by omega];exact hF) fun j h1 h2=>⟨fun F L hL hc=>(ih' j L hL h1 h2).1 F (by rw [hL];exact hc),fun L hL hc=>(ih' j L hL h1 h2).2 (by rw [hL];exact hc)⟩
end Go.Proofs.YteelocfbbhchcaaGreat

namespace Go.Proofs.YteelocfbbhchcaaGreat
open Go Go.Eng Go.Proofs
set_option maxRecDepth 10000
theorem leave45y (c:Clr)(l:List LookT)(h:lookedF c l=0):FSpec Tryz.prog 11 [(clrS c),(lksS l)] [] (fun r _=>r=(.tup [(.sl 1 (.sym fun _=>zi (leaveL c l).length) (fun ix=>[.int .i64 (.sym fun _=>(leaveL c l).getD ix.den.toNat 0)])),(.int .i64 (.sym fun _=>lookedF c l))])):=by
  have c87:=looked87 c l
  have c59:=work59 c l (lookedF_spec h).1 (lookedF_spec h).2
  have c88:=choose88 c l (lookedF_spec h).1 (lookedF_spec h).2
  refine FSpec.is fun R hR=>qX (sc:=sc11) tyok mix Tryz.func11 rfl Tryz.call11 (by kernel_rfl) (by kernel_rfl) ?_
  generalize Tryz.prog=P at c87 c59 c88⊢
  cbv
  have hn:=((lookedF_spec h).2).n
  have hch:=leave_yes h
  unfold leaveO at hch
  repeat' (first
      |with_reducible refine hold ?_ ?_
      |with_reducible refine And.intro ?_ ?_
      |(with_reducible intro hcd;(try simp only [zA,zB,zC,zD,zE,zF,zG,zH,zI,zJ,zK,zL,zM,zN,zO,zP]at hcd);try cbv)
      | (refine qQ ?_ (c87) ?hfit
         case hfit=>((repeat' (first|exact qB|refine qD ?_ ?_|exact qE (by rfl)|exact qG (by rfl)|exact Fit.refl _|exact qA|refine qC ?_ rfl ?_));done)
         try cbv)
      | (refine qQ ?_ (c59) ?hfit
         case hfit=>((repeat' (first|exact qB|refine qD ?_ ?_|exact qE (by rfl)|exact qG (by rfl)|exact Fit.refl _|exact qA|refine qC ?_ rfl ?_));done)
         try cbv)
      |fail)
  all_goals first
    |trivial
    |((try simp only [qW]at *);(try simp only [zQ,zA,zB,zC,zD,zE,zF,zG,zH,zI,zJ,zK,zL,zM,zN,zO,zP,zR,zS]at *);first|(refine qO ?_;omega)|(simp only [Hold];omega))
    |skip
  refine⟨none,[],{x:Nat // x≤l.length+1∧firstOf (fun m=>chooseL l.length (okL c l) m [] 0) (l.length+1-x) x=some (leaveL c l)},fun x=>⟨[(2,.own 0 0),(3,.own 1 0),(7,.own 13 0),(8,.own 15 0),(9,.own 16 0),(23,(.int .i64 (.sym fun _=>zi l.length+1))),(24,(.int .i64 (.sym fun _=>zi x.1)))],[(15,.cells [.any] 29),(13,.cells [(wpS c l)] 87),(1,.cells [(lksS l)] 46),(16,.cells [.clo 35 [] [.own 15 0,.own 13 0,.own 1 0,.own 16 0]] 107),(0,.cells [(.int .i64 (.sym fun _=>c.rl)),(.int .i64 (.sym fun _=>c.rh)),(.int .i64 (.sym fun _=>c.hr)),(.sl 4 (.sym fun _=>zi c.vs.length) (fun ix=>[(.int .i64 (.sym fun _=>(c.vs.getD ix.den.toNat v0).sl)),(.int .i64 (.sym fun _=>(c.vs.getD ix.den.toNat v0).sh)),(.int .i64 (.sym fun _=>(c.vs.getD ix.den.toNat v0).rl)),(.int .i64 (.sym fun _=>(c.vs.getD ix.den.toNat v0).rh))])),(.sl 2 (.sym fun _=>zi c.ts.length) (fun ix=>[(.int .i64 (.sym fun _=>(c.ts.getD ix.den.toNat t0).top)),(.sl 3 (.sym fun _=>zi ((c.ts.getD ix.den.toNat t0).ps).length) (fun jx=>[(.int .i64 (.sym fun _=>(((c.ts.getD ix.den.toNat t0).ps).getD jx.den.toNat p0).f)),(.int .i64 (.sym fun _=>(((c.ts.getD ix.den.toNat t0).ps).getD jx.den.toNat p0).el)),(.int .i64 (.sym fun _=>(((c.ts.getD ix.den.toNat t0).ps).getD jx.den.toNat p0).eh))]))]))] 44)],60⟩,fun x=>l.length+1-x.1,?_,?_⟩
  · refine⟨⟨0,by omega,hch⟩,?_⟩
    cbv
    repeat' (first
      |with_reducible refine hold ?_ ?_
      |with_reducible refine And.intro ?_ ?_)
    all_goals first
      |trivial
      |exact qN (qE (by rfl))
      |exact qN (Fit.refl _)
      |exact qM (qL _)
      |(refine qM (qK ?_);(repeat' (first|exact qA|exact qB|refine qC ?_ rfl ?_|refine qD ?_ ?_|exact qE (by rfl)|exact qG (by rfl)|exact Fit.refl _|exact qH _|(refine qE ?_;(try simp only [qW]at *);simp only [zQ,zA,zB,zC,zD,zE,zF,zG,zH,zI,zJ,zK,zL,zM,zN,zO,zP,zR,zS]at *;omega)));done)
      |skip
  · rintro⟨x,h2,h3⟩
    cbv
    repeat' (first
        |with_reducible refine hold ?_ ?_
        |with_reducible refine And.intro ?_ ?_
        |(with_reducible intro hcd;(try simp only [zA,zB,zC,zD,zE,zF,zG,zH,zI,zJ,zK,zL,zM,zN,zO,zP]at hcd);try cbv)
        |((rcases hcj:chooseL l.length (okL c l) x [] 0 with _|G)<;>(first|(refine⟨some [15,13,1,16],?_⟩;cbv;refine qR ?_ ((c88 x [] 0 0 (zi x) rfl (by simp only [zi_den]) (by simp) (by((try simp only [qW]at *);(try simp only [zQ,zA,zB,zC,zD,zE,zF,zG,zH,zI,zJ,zK,zL,zM,zN,zO,zP,zR,zS]at *);omega))).2 hcj) (by cbv;refine qD (qP rfl) ?_;(repeat' (first|exact qB|refine qD ?_ ?_|exact qE (by rfl)|exact qG (by rfl)|exact Fit.refl _|exact qA|refine qC ?_ rfl ?_))) (by cbv;(repeat' (first|exact qI|refine qJ ?_ ?_|exact qL _|refine qK ?_|exact qA|exact qE (by rfl)|exact qG (by rfl)|exact Fit.refl _|exact qH _|refine qC ?_ rfl ?_)));(try cbv))|(refine⟨some [15,13,1,16],?_⟩;cbv;refine qR ?_ ((c88 x [] 0 0 (zi x) rfl (by simp only [zi_den]) (by simp) (by((try simp only [qW]at *);(try simp only [zQ,zA,zB,zC,zD,zE,zF,zG,zH,zI,zJ,zK,zL,zM,zN,zO,zP,zR,zS]at *);omega))).1 G hcj) (by cbv;refine qD (qP rfl) ?_;(repeat' (first|exact qB|refine qD ?_ ?_|exact qE (by rfl)|exact qG (by rfl)|exact Fit.refl _|exact qA|refine qC ?_ rfl ?_))) (by cbv;(repeat' (first|exact qI|refine qJ ?_ ?_|exact qL _|refine qK ?_|exact qA|exact qE (by rfl)|exact qG (by rfl)|exact Fit.refl _|exact qH _|refine qC ?_ rfl ?_)));(try cbv))))
        |fail)
    all_goals first
      |trivial
      |((try simp only [qW]at *);(try simp only [zQ,zA,zB,zC,zD,zE,zF,zG,zH,zI,zJ,zK,zL,zM,zN,zO,zP,zR,zS]at *);first|(refine qO ?_;omega)|(simp only [Hold];omega))
      |((have e:=Option.some.inj ((firstOf_hit (f:=fun m=>chooseL l.length (okL c l) m [] 0) (k:=l.length+1-x) (i:=x) (by((try simp only [qW]at *);(try simp only [zQ,zA,zB,zC,zD,zE,zF,zG,zH,zI,zJ,zK,zL,zM,zN,zO,zP,zR,zS]at *);omega)) hcj).symm.trans h3));subst hR;rw [←e];exact qD (Fit.refl _) (qD (qE h.symm) qB))
      |((have hz:l.length+1-x=0:=by((try simp only [qW]at *);(try simp only [zQ,zA,zB,zC,zD,zE,zF,zG,zH,zI,zJ,zK,zL,zM,zN,zO,zP,zR,zS]at *);omega));rw [hz]at h3;cases h3;done)
      |((try simp only [zQ,zA,zB,zC,zD,zE,zF,zG,zH,zI,zJ,zK,zL,zM,zN,zO,zP,zR,zS]at *);refine⟨⟨x+1,by omega,by rw [show l.length+1-(x+1)=l.length+1-x-1 by omega];exact(firstOf_go (f:=fun m=>chooseL l.length (okL c l) m [] 0) (k:=l.length+1-x) (i:=x) (by omega) hcj).symm.trans h3⟩,by simp only [];omega,?_⟩;cbv;(repeat' (first|with_reducible refine hold ?_ ?_|with_reducible refine And.intro ?_ ?_));(all_goals first|trivial|exact qN (qE (by rfl))|exact qN (qG (by rfl))|exact qN (Fit.refl _)|exact qM (qL _)|(refine qN (qE ?_);(try simp only [qW]at *);simp only [zQ,zA,zB,zC,zD,zE,zF,zG,zH,zI,zJ,zK,zL,zM,zN,zO,zP,zR,zS]at *;omega)|(refine qM (qK ?_);(repeat' (first|exact qA|exact qB|refine qC ?_ rfl ?_|refine qD ?_ ?_|exact qE (by rfl)|exact qG (by rfl)|exact Fit.refl _|exact qH _|(refine qE ?_;(try simp only [qW]at *);simp only [zQ,zA,zB,zC,zD,zE,zF,zG,zH,zI,zJ,zK,zL,zM,zN,zO,zP,zR,zS]at *;omega)));done)|skip))
      |skip
theorem leave45n (c:Clr)(l:List LookT)(h:¬lookedF c l=0):FSpec Tryz.prog 11 [(clrS c),(lksS l)] [] (fun r _=>r=(.tup [(.sl 1 (.sym fun _=>zi (leaveL c l).length) (fun ix=>[.int .i64 (.sym fun _=>(leaveL c l).getD ix.den.toNat 0)])),(.int .i64 (.sym fun _=>lookedF c l))])):=by
  have c87:=looked87 c l
  refine FSpec.is fun R hR=>qX (sc:=sc11) tyok mix Tryz.func11 rfl Tryz.call11 (by kernel_rfl) (by kernel_rfl) ?_
  generalize Tryz.prog=P at c87⊢
  cbv
  have hl:=leave_no h
  repeat' (first
      |with_reducible refine And.intro ?_ ?_
      |(with_reducible intro hcd;(try simp only [zA,zB,zC,zD,zE,zF,zG,zH,zI,zJ,zK,zL,zM,zN,zO,zP]at hcd);try cbv)
      | (refine qQ ?_ (c87) ?hfit
         case hfit=>((repeat' (first|exact qB|refine qD ?_ ?_|exact qE (by rfl)|exact qG (by rfl)|exact Fit.refl _|exact qA|refine qC ?_ rfl ?_));done)
         try cbv)
      |fail)
  all_goals first
    |trivial
    |(subst hR;(rw [hl];exact qD (qP rfl) (qD (Fit.refl _) qB));done)
    |skip
theorem leave45 (c:Clr)(l:List LookT):FSpec Tryz.prog 11 [(clrS c),(lksS l)] [] (fun r _=>r=(.tup [(.sl 1 (.sym fun _=>zi (leaveL c l).length) (fun ix=>[.int .i64 (.sym fun _=>(leaveL c l).getD ix.den.toNat 0)])),(.int .i64 (.sym fun _=>lookedF c l))])):=by
  by_cases h:lookedF c l=0
  · exact leave45y c l h
  · exact leave45n c l h
end Go.Proofs.YteelocfbbhchcaaGreat

namespace Go.Proofs.YteelocfbbhchcaaGreat
open Go Go.Eng Go.Proofs
set_option maxRecDepth 10000
def eqI (na:Nat)(fa:Nat→Int)(nb:Nat)(fb:Nat→Int):Bool:=decide (na=nb)&&allB (fun i=>decide (fa i=fb i)) na
def eqR (na:Nat)(fa ga:Nat→Int)(nb:Nat)(fb gb:Nat→Int):Bool:=decide (na=nb)&&allB (fun i=>decide (fa i=fb i)&&decide (ga i=gb i)) na
theorem eqI_len {na nb:Nat} {fa fb:Nat→Int}(h:¬na=nb):eqI na fa nb fb=false:=by unfold eqI;rw [decide_eq_false h];rfl
theorem eqI_no {na nb:Nat} {fa fb:Nat→Int} {i:Nat}(hi:i<na)(h:¬fa i=fb i):eqI na fa nb fb=false:=by
  unfold eqI
  rw [allB_no (i:=i) hi (decide_eq_false h)];simp
theorem eqI_yes {na nb:Nat} {fa fb:Nat→Int}(h:na=nb)(h':∀i,i<na→fa i=fb i):eqI na fa nb fb=true:=by
  unfold eqI
  rw [decide_eq_true h,allB_yes fun i hi=>decide_eq_true (h' i hi)];rfl
theorem eqR_len {na nb:Nat} {fa fb ga gb:Nat→Int}(h:¬na=nb):eqR na fa ga nb fb gb=false:=by unfold eqR;rw [decide_eq_false h];rfl
theorem eqR_no {na nb:Nat} {fa fb ga gb:Nat→Int} {i:Nat}(hi:i<na)(h:¬(fa i=fb i∧ga i=gb i)):eqR na fa ga nb fb gb=false:=by
  unfold eqR
  rw [allB_no (i:=i) hi (by rw [←Bool.not_eq_true,Bool.and_eq_true,decide_eq_true_eq,decide_eq_true_eq];exact h)];simp
theorem eqR_yes {na nb:Nat} {fa fb ga gb:Nat→Int}(h:na=nb)(h':∀i,i<na→fa i=fb i∧ga i=gb i):eqR na fa ga nb fb gb=true:=by
  unfold eqR
  rw [decide_eq_true h,allB_yes fun i hi=>by rw [decide_eq_true (h' i hi).1,decide_eq_true (h' i hi).2];rfl];rfl
theorem dens2_t {a b c d:Int}(h:decide (dens [.sym fun _=>a,.sym fun _=>b]=dens [.sym fun _=>c,.sym fun _=>d])=true):a=c∧b=d:=by
  rw [decide_eq_true_eq]at h;simpa only [dens,den_sym,List.cons.injEq,and_true]using h
theorem dens2_f {a b c d:Int}(h:decide (dens [.sym fun _=>a,.sym fun _=>b]=dens [.sym fun _=>c,.sym fun _=>d])=false):¬(a=c∧b=d):=by
  rw [decide_eq_false_iff_not]at h;simpa only [dens,den_sym,List.cons.injEq,and_true]using h
theorem eqOk33 :EqOk Tryz.prog 40 2:=eqOk_strI (by kernel_rfl)
theorem ints27 (na nb:Nat)(fa fb:Nat→Int)(ha:na≤1000)(hb:nb≤1000):FSpec Tryz.prog 17 [(.sl 1 (.sym fun _=>zi na) (fun ix=>[(.int .i64 (.sym fun _=>fa ix.den.toNat))])),(.sl 1 (.sym fun _=>zi nb) (fun ix=>[(.int .i64 (.sym fun _=>fb ix.den.toNat))]))] [] (fun r _=>r=(.bool (.sym fun _=>eqI na fa nb fb))):=by
  refine FSpec.is fun R hR=>qX (sc:=sc17) tyok mix Tryz.func17 rfl Tryz.call17 (by kernel_rfl) (by kernel_rfl) ?_
  generalize Tryz.prog=P
  cbv
  repeat' (first
      |with_reducible refine And.intro ?_ ?_
      |(with_reducible intro hcd;(try simp only [zA,zB,zC,zD,zE,zF,zG,zH,zI,zJ,zK,zL,zM,zN,zO,zP]at hcd);try cbv)
      |fail)
  all_goals first
    |(subst hR;(refine qG ?_;(try simp only [qW]at *);(try simp only [zQ,zA,zB,zC,zD,zE,zF,zG,zH,zI,zJ,zK,zL,zM,zN,zO,zP,zR,zS]at *);exact(eqI_len (by omega)).symm);done)
    |skip
  refine⟨none,[],{i:Nat // i≤na∧∀j,j<i→fa j=fb j},fun x=>⟨[(0,(.sl 1 (.sym fun _=>zi na) (fun ix=>[(.int .i64 (.sym fun _=>fa ix.den.toNat))]))),(1,(.sl 1 (.sym fun _=>zi nb) (fun ix=>[(.int .i64 (.sym fun _=>fb ix.den.toNat))]))),(5,(.int .i64 (.sym fun _=>zi x.1)))],[],40⟩,fun x=>na-x.1,?_,?_⟩
  · refine⟨⟨0,by omega,fun j hj=>by omega⟩,?_⟩
    cbv
    repeat' (first
      |with_reducible refine hold ?_ ?_
      |with_reducible refine And.intro ?_ ?_)
    all_goals first
      |trivial
      |exact qN (qE (by rfl))
      |exact qN (Fit.refl _)
      |skip
  · rintro⟨i,hi,hq⟩
    cbv
    repeat' (first
        |with_reducible refine hold ?_ ?_
        |with_reducible refine And.intro ?_ ?_
        |(with_reducible intro hcd;(try simp only [zA,zB,zC,zD,zE,zF,zG,zH,zI,zJ,zK,zL,zM,zN,zO,zP]at hcd);try cbv)
        |fail)
    all_goals first
      |((try simp only [qW]at *);(try simp only [zQ,zA,zB,zC,zD,zE,zF,zG,zH,zI,zJ,zK,zL,zM,zN,zO,zP,zR,zS]at *);first|(refine qO ?_;omega)|(simp only [Hold];omega))
      |(subst hR;(refine qG ?_;(try simp only [qW]at *);(try simp only [zQ,zA,zB,zC,zD,zE,zF,zG,zH,zI,zJ,zK,zL,zM,zN,zO,zP,zR,zS]at *);exact(eqI_no (i:=i) (by omega) (by assumption)).symm);done)
      |(subst hR;(refine qG ?_;(try simp only [qW]at *);(try simp only [zQ,zA,zB,zC,zD,zE,zF,zG,zH,zI,zJ,zK,zL,zM,zN,zO,zP,zR,zS]at *);exact(eqI_yes (by omega) fun j hj=>hq j (by omega)).symm);done)
      |((try simp only [zQ,zA,zB,zC,zD,zE,zF,zG,zH,zI,zJ,zK,zL,zM,zN,zO,zP,zR,zS]at *);refine⟨⟨i+1,by omega,fun j hj=>(Nat.lt_or_ge j i).elim (hq j) fun q=>by rw [show j=i by omega];first|assumption|omega|exact dens2_t (by assumption)⟩,by simp only [];omega,?_⟩;cbv;(repeat' (first|with_reducible refine hold ?_ ?_|with_reducible refine And.intro ?_ ?_));(all_goals first|trivial|exact qN (qE (by rfl))|exact qN (qG (by rfl))|exact qN (Fit.refl _)|exact qM (qL _)|(refine qN (qE ?_);(try simp only [qW]at *);simp only [zQ,zA,zB,zC,zD,zE,zF,zG,zH,zI,zJ,zK,zL,zM,zN,zO,zP,zR,zS]at *;omega)|skip))
      |skip
theorem spans53 (na nb:Nat)(fa ga fb gb:Nat→Int)(ha:na≤1000)(hb:nb≤1000):FSpec Tryz.prog 29 [(.sl 2 (.sym fun _=>zi na) (fun ix=>[(.int .i64 (.sym fun _=>fa ix.den.toNat)),(.int .i64 (.sym fun _=>ga ix.den.toNat))])),(.sl 2 (.sym fun _=>zi nb) (fun ix=>[(.int .i64 (.sym fun _=>fb ix.den.toNat)),(.int .i64 (.sym fun _=>gb ix.den.toNat))]))] [] (fun r _=>r=(.bool (.sym fun _=>eqR na fa ga nb fb gb))):=by
  have heq:=eqOk33
  refine FSpec.is fun R hR=>qX (sc:=sc29) tyok mix Tryz.func29 rfl Tryz.call29 (by kernel_rfl) (by kernel_rfl) ?_
  generalize Tryz.prog=P at heq⊢
  cbv
  repeat' (first
      |with_reducible refine And.intro ?_ ?_
      |(with_reducible intro hcd;(try simp only [zA,zB,zC,zD,zE,zF,zG,zH,zI,zJ,zK,zL,zM,zN,zO,zP]at hcd);try cbv)
      |fail)
  all_goals first
    |(subst hR;(refine qG ?_;(try simp only [qW]at *);(try simp only [zQ,zA,zB,zC,zD,zE,zF,zG,zH,zI,zJ,zK,zL,zM,zN,zO,zP,zR,zS]at *);exact(eqR_len (by omega)).symm);done)
    |skip
  refine⟨none,[],{i:Nat // i≤na∧∀j,j<i→fa j=fb j∧ga j=gb j},fun x=>⟨[(0,(.sl 2 (.sym fun _=>zi na) (fun ix=>[(.int .i64 (.sym fun _=>fa ix.den.toNat)),(.int .i64 (.sym fun _=>ga ix.den.toNat))]))),(1,(.sl 2 (.sym fun _=>zi nb) (fun ix=>[(.int .i64 (.sym fun _=>fb ix.den.toNat)),(.int .i64 (.sym fun _=>gb ix.den.toNat))]))),(5,(.int .i64 (.sym fun _=>zi x.1)))],[],40⟩,fun x=>na-x.1,?_,?_⟩
  · refine⟨⟨0,by omega,fun j hj=>by omega⟩,?_⟩
    cbv
    repeat' (first
      |with_reducible refine hold ?_ ?_
      |with_reducible refine And.intro ?_ ?_)
    all_goals first
      |trivial
      |exact qN (qE (by rfl))
      |exact qN (Fit.refl _)
      |skip
  · rintro⟨i,hi,hq⟩
    cbv
    repeat' (first
        |with_reducible refine hold ?_ ?_
        |with_reducible refine And.intro ?_ ?_
        |(with_reducible intro hcd;(try simp only [zA,zB,zC,zD,zE,zF,zG,zH,zI,zJ,zK,zL,zM,zN,zO,zP]at hcd);try cbv)
        |fail)
    all_goals first
      |trivial
      |((try simp only [qW]at *);(try simp only [zQ,zA,zB,zC,zD,zE,zF,zG,zH,zI,zJ,zK,zL,zM,zN,zO,zP,zR,zS]at *);first|(refine qO ?_;omega)|(simp only [Hold];omega))
      |(subst hR;(refine qG ?_;(try simp only [qW]at *);(try simp only [zQ,zA,zB,zC,zD,zE,zF,zG,zH,zI,zJ,zK,zL,zM,zN,zO,zP,zR,zS]at *);exact(eqR_no (i:=i) (by omega) (dens2_f (by assumption))).symm);done)
      |(subst hR;(refine qG ?_;(try simp only [qW]at *);(try simp only [zQ,zA,zB,zC,zD,zE,zF,zG,zH,zI,zJ,zK,zL,zM,zN,zO,zP,zR,zS]at *);exact(eqR_yes (by omega) fun j hj=>hq j (by omega)).symm);done)
      |((try simp only [zQ,zA,zB,zC,zD,zE,zF,zG,zH,zI,zJ,zK,zL,zM,zN,zO,zP,zR,zS]at *);refine⟨⟨i+1,by omega,fun j hj=>(Nat.lt_or_ge j i).elim (hq j) fun q=>by rw [show j=i by omega];first|assumption|omega|exact dens2_t (by assumption)⟩,by simp only [];omega,?_⟩;cbv;(repeat' (first|with_reducible refine hold ?_ ?_|with_reducible refine And.intro ?_ ?_));(all_goals first|trivial|exact qN (qE (by rfl))|exact qN (qG (by rfl))|exact qN (Fit.refl _)|exact qM (qL _)|(refine qN (qE ?_);(try simp only [qW]at *);simp only [zQ,zA,zB,zC,zD,zE,zF,zG,zH,zI,zJ,zK,zL,zM,zN,zO,zP,zR,zS]at *;omega)|skip))
      |skip
theorem list62 (l:List Int)(hl:l.length≤1000):FSpec Tryz.prog 41 [(.sl 1 (.sym fun _=>zi (l).length) (fun ix=>[.int .i64 (.sym fun _=>(l).getD ix.den.toNat 0)]))] [] (fun r _=>r=(.sl 1 (.sym fun _=>zi (l).length) (fun ix=>[.int .i64 (.sym fun _=>(l).getD ix.den.toNat 0)]))):=by
  refine FSpec.is fun R hR=>qX (sc:=sc41) tyok mix Tryz.func41 rfl Tryz.call41 (by kernel_rfl) (by kernel_rfl) ?_
  generalize Tryz.prog=P
  cbv
  repeat' (first
      |with_reducible refine hold ?_ ?_
      |fail)
  all_goals first
    |((try simp only [qW]at *);(try simp only [zQ,zA,zB,zC,zD,zE,zF,zG,zH,zI,zJ,zK,zL,zM,zN,zO,zP,zR,zS]at *);first|(refine qO ?_;omega)|(simp only [Hold];omega))
    |(subst hR;(refine fit_sl (by first|rfl|((try simp only [qW]at *);(try simp only [zQ,zA,zB,zC,zD,zE,zF,zG,zH,zI,zJ,zK,zL,zM,zN,zO,zP,zR,zS]at *);omega)) (fun _ _ _=>Fit.refl _));done)
    |skip
end Go.Proofs.YteelocfbbhchcaaGreat

namespace Go.Proofs.YteelocfbbhchcaaGreat
open Go Go.Eng Go.Proofs
set_option maxRecDepth 10000
theorem looks31 (l:List LookT)(hn:l.length≤1000):FSpec Tryz.prog 10 [(lksS l)] [] (fun r _=>r=(lksS l)):=by
  refine FSpec.is fun R hR=>qX (sc:=sc10) tyok mix Tryz.func10 rfl Tryz.call10 (by kernel_rfl) (by kernel_rfl) ?_
  generalize Tryz.prog=P
  cbv
  repeat' (first
      |fail)
  all_goals first
    |skip
  refine⟨none,[⟨.tmp 3,77,4⟩],{i:Nat // i≤l.length},fun x=>⟨[(0,(lksS l)),(3,.row 3),(4,(.int .i64 (.sym fun _=>zi x.1)))],[(3,.row 77 4 (.sym fun _=>zi x.1) (fun ix=>[(.int .i64 (.sym fun _=>((l).getD ix.den.toNat k0).v)),(.int .i64 (.sym fun _=>((l).getD ix.den.toNat k0).h)),(.int .i64 (.sym fun _=>((l).getD ix.den.toNat k0).t)),(.int .i64 (.sym fun _=>((l).getD ix.den.toNat k0).s))]))],60⟩,fun x=>l.length-x.1,?_,?_⟩
  · refine⟨⟨0,by omega⟩,?_⟩
    cbv
    repeat' (first
      |with_reducible refine hold ?_ ?_
      |with_reducible refine And.intro ?_ ?_)
    all_goals first
      |trivial
      |exact qN (qE (by rfl))
      |exact qN (Fit.refl _)
      |(refine qM (ble_row ?_ ?_);(first|rfl|((try simp only [qW]at *);(try simp only [zQ,zA,zB,zC,zD,zE,zF,zG,zH,zI,zJ,zK,zL,zM,zN,zO,zP,zR,zS]at *);omega));intro ix h0 h1;exfalso;(try simp only [qW]at *);(try simp only [zQ,zA,zB,zC,zD,zE,zF,zG,zH,zI,zJ,zK,zL,zM,zN,zO,zP,zR,zS]at *);omega)
      |skip
  · rintro ⟨i,hi⟩
    cbv
    repeat' (first
        |with_reducible refine hold ?_ ?_
        |with_reducible refine And.intro ?_ ?_
        |(with_reducible intro hcd;(try simp only [zA,zB,zC,zD,zE,zF,zG,zH,zI,zJ,zK,zL,zM,zN,zO,zP]at hcd);try cbv)
        | (refine⟨fun ix=>[(.int .i64 (.sym fun _=>((l).getD ix.den.toNat k0).v)),(.int .i64 (.sym fun _=>((l).getD ix.den.toNat k0).h)),(.int .i64 (.sym fun _=>((l).getD ix.den.toNat k0).t)),(.int .i64 (.sym fun _=>((l).getD ix.den.toNat k0).s))],?_⟩
           cbv
           refine hold (hold_rowapp (by intro ix jx h0 h1 h2;simp only [h2];exact Fit.refl _) (by intro ix jx h0 h1 h2;(have h3:jx.den.toNat=i:=by((try simp only [qW]at *);(try simp only [zQ,zA,zB,zC,zD,zE,zF,zG,zH,zI,zJ,zK,zL,zM,zN,zO,zP,zR,zS]at *);omega));simp only [h3];exact(qC (qE rfl) rfl (qC (qE rfl) rfl (qC (qE rfl) rfl (qC (qE rfl) rfl qA))))) (by(try simp only [qW]at *);(try simp only [zQ,zA,zB,zC,zD,zE,zF,zG,zH,zI,zJ,zK,zL,zM,zN,zO,zP,zR,zS]at *);omega)) (Or.inl ?_)
           try cbv)
        |fail)
    all_goals first
      |((try simp only [qW]at *);(try simp only [zQ,zA,zB,zC,zD,zE,zF,zG,zH,zI,zJ,zK,zL,zM,zN,zO,zP,zR,zS]at *);first|(refine qO ?_;omega)|(simp only [Hold];omega))
      |((have hie:i=l.length:=(by((try simp only [qW]at *);(try simp only [zQ,zA,zB,zC,zD,zE,zF,zG,zH,zI,zJ,zK,zL,zM,zN,zO,zP,zR,zS]at *);omega)));subst hR;subst hie;exact Fit.refl _)
      |((try simp only [zQ,zA,zB,zC,zD,zE,zF,zG,zH,zI,zJ,zK,zL,zM,zN,zO,zP,zR,zS]at *);refine⟨⟨i+1,by omega⟩,by simp only [];omega,?_⟩;cbv;(repeat' (first|with_reducible refine hold ?_ ?_|with_reducible refine And.intro ?_ ?_));(all_goals first|trivial|exact qN (qE (by rfl))|exact qN (qG (by rfl))|exact qN (Fit.refl _)|exact qM (qL _)|(refine qN (qE ?_);(try simp only [qW]at *);simp only [zQ,zA,zB,zC,zD,zE,zF,zG,zH,zI,zJ,zK,zL,zM,zN,zO,zP,zR,zS]at *;omega)|(refine qM (qK ?_);(repeat' (first|exact qA|exact qB|refine qC ?_ rfl ?_|refine qD ?_ ?_|exact qE (by rfl)|exact qG (by rfl)|exact Fit.refl _|exact qH _|(refine qE ?_;(try simp only [qW]at *);simp only [zQ,zA,zB,zC,zD,zE,zF,zG,zH,zI,zJ,zK,zL,zM,zN,zO,zP,zR,zS]at *;omega)));done)|(refine qM (ble_row ?_ ?_)<;>first|rfl|((try simp only [qW]at *);(try simp only [zQ,zA,zB,zC,zD,zE,zF,zG,zH,zI,zJ,zK,zL,zM,zN,zO,zP,zR,zS]at *);omega)|(intro ix h0 h1;exact Fit.refl _))|skip))
      |skip
theorem truth19 (rm:Int)(ss rs:List Int)(h1:ss.length≤1000)(h2:rs.length≤1000):FSpec Tryz.prog 13 [(.agg [(.int .i64 (.sym fun _=>rm)),(.sl 1 (.sym fun _=>zi (ss).length) (fun ix=>[.int .i64 (.sym fun _=>(ss).getD ix.den.toNat 0)])),(.sl 1 (.sym fun _=>zi (rs).length) (fun ix=>[.int .i64 (.sym fun _=>(rs).getD ix.den.toNat 0)]))])] [] (fun r _=>r=(.agg [(.int .i64 (.sym fun _=>rm)),(.sl 1 (.sym fun _=>zi (ss).length) (fun ix=>[.int .i64 (.sym fun _=>(ss).getD ix.den.toNat 0)])),(.sl 1 (.sym fun _=>zi (rs).length) (fun ix=>[.int .i64 (.sym fun _=>(rs).getD ix.den.toNat 0)]))])):=by
  have c1:=list62 ss h1
  have c2:=list62 rs h2
  refine FSpec.is fun R hR=>qX (sc:=sc13) tyok mix Tryz.func13 rfl Tryz.call13 (by kernel_rfl) (by kernel_rfl) ?_
  generalize Tryz.prog=P at c1 c2⊢
  cbv
  repeat' (first
      | (refine qQ ?_ (c1) ?hfit
         case hfit=>((repeat' (first|exact qB|refine qD ?_ ?_|exact qE (by rfl)|exact qG (by rfl)|exact Fit.refl _|exact qA|refine qC ?_ rfl ?_));done)
         try cbv)
      | (refine qQ ?_ (c2) ?hfit
         case hfit=>((repeat' (first|exact qB|refine qD ?_ ?_|exact qE (by rfl)|exact qG (by rfl)|exact Fit.refl _|exact qA|refine qC ?_ rfl ?_));done)
         try cbv)
      |fail)
  all_goals first
    |(subst hR;(repeat' (first|exact qA|exact qB|refine qC ?_ rfl ?_|refine qD ?_ ?_|exact qE (by rfl)|exact qG (by rfl)|exact Fit.refl _|exact qH _|(refine qE ?_;(try simp only [qW]at *);simp only [zQ,zA,zB,zC,zD,zE,zF,zG,zH,zI,zJ,zK,zL,zM,zN,zO,zP,zR,zS]at *;omega)));done)
    |skip
end Go.Proofs.YteelocfbbhchcaaGreat

namespace Go.Proofs.YteelocfbbhchcaaGreat
open Go Go.Eng Go.Proofs
set_option maxRecDepth 10000
set_option maxHeartbeats 1000000 in
theorem cellar17 (c:Clr)(h1:c.vs.length≤1000)(h2:c.ts.length≤1000)(hp:∀i,i<c.ts.length→(c.ts.getD i t0).ps.length≤1000):FSpec Tryz.prog 9 [(clrS c)] [] (fun r _=>r=(clrS c)):=by
  have c25:= @to25
  refine FSpec.is fun R hR=>qX (sc:=sc9) tyok mix Tryz.func9 rfl Tryz.call9 (by kernel_rfl) (by kernel_rfl) ?_
  generalize Tryz.prog=P at c25⊢
  cbv
  repeat' (first
      | (refine qQ ?_ (c25 _ _) (by(repeat' (first|exact qB|refine qD ?_ ?_|exact qE (by rfl)|exact qG (by rfl)|exact Fit.refl _|exact qA|refine qC ?_ rfl ?_)))
         try cbv)
      |fail)
  all_goals first
    |skip
  refine⟨none,[⟨.cell 8 3,96,4⟩],{n1:Nat // n1≤c.vs.length},fun x=>⟨[(1,.own 0 0),(2,.own 1 0),(3,.own 8 0),(4,(.int .i64 (.sym fun _=>zi x.1)))],[(0,.cells [(.int .i64 (.sym fun _=>c.rl)),(.int .i64 (.sym fun _=>c.rh)),(.int .i64 (.sym fun _=>c.hr)),(.sl 4 (.sym fun _=>zi c.vs.length) (fun ix=>[(.int .i64 (.sym fun _=>(c.vs.getD ix.den.toNat v0).sl)),(.int .i64 (.sym fun _=>(c.vs.getD ix.den.toNat v0).sh)),(.int .i64 (.sym fun _=>(c.vs.getD ix.den.toNat v0).rl)),(.int .i64 (.sym fun _=>(c.vs.getD ix.den.toNat v0).rh))])),(.sl 2 (.sym fun _=>zi c.ts.length) (fun ix=>[(.int .i64 (.sym fun _=>(c.ts.getD ix.den.toNat t0).top)),(.sl 3 (.sym fun _=>zi ((c.ts.getD ix.den.toNat t0).ps).length) (fun jx=>[(.int .i64 (.sym fun _=>(((c.ts.getD ix.den.toNat t0).ps).getD jx.den.toNat p0).f)),(.int .i64 (.sym fun _=>(((c.ts.getD ix.den.toNat t0).ps).getD jx.den.toNat p0).el)),(.int .i64 (.sym fun _=>(((c.ts.getD ix.den.toNat t0).ps).getD jx.den.toNat p0).eh))]))]))] 27),(1,.cells [.int .i64 (.lit 0),.int .i64 (.lit 0),.int .i64 (.lit 0),.val (Value.slice none 0 0),.val (Value.slice none 0 0)] 44),(8,.cells [(.int .i64 (.sym fun _=>c.rl)),(.int .i64 (.sym fun _=>c.rh)),(.int .i64 (.sym fun _=>c.hr)),.row 11,.val (Value.slice none 0 0)] 44),(11,.row 96 4 (.sym fun _=>zi x.1) (fun ix=>[(.int .i64 (.sym fun _=>(c.vs.getD ix.den.toNat v0).sl)),(.int .i64 (.sym fun _=>(c.vs.getD ix.den.toNat v0).sh)),(.int .i64 (.sym fun _=>(c.vs.getD ix.den.toNat v0).rl)),(.int .i64 (.sym fun _=>(c.vs.getD ix.den.toNat v0).rh))]))],60⟩,fun x=>c.vs.length-x.1,?_,?_⟩
  · refine⟨⟨0,by omega⟩,?_⟩
    cbv
    repeat' (first
      |with_reducible refine hold ?_ ?_
      |with_reducible refine And.intro ?_ ?_)
    all_goals first
      |trivial
      |exact qN (qE (by rfl))
      |exact qN (Fit.refl _)
      |exact qM (qL _)
      |(refine qM (ble_row ?_ ?_);(first|rfl|((try simp only [qW]at *);(try simp only [zQ,zA,zB,zC,zD,zE,zF,zG,zH,zI,zJ,zK,zL,zM,zN,zO,zP,zR,zS]at *);omega));intro ix h0 h1;exfalso;(try simp only [qW]at *);(try simp only [zQ,zA,zB,zC,zD,zE,zF,zG,zH,zI,zJ,zK,zL,zM,zN,zO,zP,zR,zS]at *);omega)
      |skip
  · rintro ⟨n1,hn1⟩
    cbv
    repeat' (first
        |with_reducible refine hold ?_ ?_
        |with_reducible refine And.intro ?_ ?_
        |(with_reducible intro hcd;(try simp only [zA,zB,zC,zD,zE,zF,zG,zH,zI,zJ,zK,zL,zM,zN,zO,zP]at hcd);try cbv)
        | (refine qQ ?_ (c25 _ _) (by(repeat' (first|exact qB|refine qD ?_ ?_|exact qE (by rfl)|exact qG (by rfl)|exact Fit.refl _|exact qA|refine qC ?_ rfl ?_)))
           try cbv)
        | (refine⟨fun ix=>[(.int .i64 (.sym fun _=>(c.vs.getD ix.den.toNat v0).sl)),(.int .i64 (.sym fun _=>(c.vs.getD ix.den.toNat v0).sh)),(.int .i64 (.sym fun _=>(c.vs.getD ix.den.toNat v0).rl)),(.int .i64 (.sym fun _=>(c.vs.getD ix.den.toNat v0).rh))],?_⟩
           cbv
           refine hold (hold_rowapp (by intro ix jx h0 h1 h2;simp only [h2];exact Fit.refl _) (by intro ix jx h0 h1 h2;(have h3:jx.den.toNat=n1:=by((try simp only [qW]at *);(try simp only [zQ,zA,zB,zC,zD,zE,zF,zG,zH,zI,zJ,zK,zL,zM,zN,zO,zP,zR,zS]at *);omega));simp only [h3];exact(qC (qE rfl) rfl (qC (qE rfl) rfl (qC (qE rfl) rfl (qC (qE rfl) rfl qA))))) (by(try simp only [qW]at *);(try simp only [zQ,zA,zB,zC,zD,zE,zF,zG,zH,zI,zJ,zK,zL,zM,zN,zO,zP,zR,zS]at *);omega)) (Or.inl ?_)
           try cbv)
        |fail)
    all_goals first
      |((try simp only [qW]at *);(try simp only [zQ,zA,zB,zC,zD,zE,zF,zG,zH,zI,zJ,zK,zL,zM,zN,zO,zP,zR,zS]at *);first|(refine qO ?_;omega)|(simp only [Hold];omega))
      |((try simp only [zQ,zA,zB,zC,zD,zE,zF,zG,zH,zI,zJ,zK,zL,zM,zN,zO,zP,zR,zS]at *);refine⟨⟨n1+1,by omega⟩,by simp only [];omega,?_⟩;cbv;(repeat' (first|with_reducible refine hold ?_ ?_|with_reducible refine And.intro ?_ ?_));(all_goals first|trivial|exact qN (qE (by rfl))|exact qN (qG (by rfl))|exact qN (Fit.refl _)|exact qM (qL _)|(refine qN (qE ?_);(try simp only [qW]at *);simp only [zQ,zA,zB,zC,zD,zE,zF,zG,zH,zI,zJ,zK,zL,zM,zN,zO,zP,zR,zS]at *;omega)|(refine qM (qK ?_);(repeat' (first|exact qA|exact qB|refine qC ?_ rfl ?_|refine qD ?_ ?_|exact qE (by rfl)|exact qG (by rfl)|exact Fit.refl _|exact qH _|(refine qE ?_;(try simp only [qW]at *);simp only [zQ,zA,zB,zC,zD,zE,zF,zG,zH,zI,zJ,zK,zL,zM,zN,zO,zP,zR,zS]at *;omega)));done)|(refine qM (ble_row ?_ ?_)<;>first|rfl|((try simp only [qW]at *);(try simp only [zQ,zA,zB,zC,zD,zE,zF,zG,zH,zI,zJ,zK,zL,zM,zN,zO,zP,zR,zS]at *);omega)|(intro ix h0 h1;exact Fit.refl _))|skip))
      |skip
    have hiv:n1=c.vs.length:=(by((try simp only [qW]at *);(try simp only [zQ,zA,zB,zC,zD,zE,zF,zG,zH,zI,zJ,zK,zL,zM,zN,zO,zP,zR,zS]at *);omega))
    subst hiv
    refine⟨none,[⟨.cell 8 4,99,2⟩],{i:Nat // i≤c.ts.length},fun x=>⟨[(1,.own 0 0),(2,.own 1 0),(3,.own 8 0),(5,(.int .i64 (.sym fun _=>zi x.1)))],[(0,.cells [(.int .i64 (.sym fun _=>c.rl)),(.int .i64 (.sym fun _=>c.rh)),(.int .i64 (.sym fun _=>c.hr)),(.sl 4 (.sym fun _=>zi c.vs.length) (fun ix=>[(.int .i64 (.sym fun _=>(c.vs.getD ix.den.toNat v0).sl)),(.int .i64 (.sym fun _=>(c.vs.getD ix.den.toNat v0).sh)),(.int .i64 (.sym fun _=>(c.vs.getD ix.den.toNat v0).rl)),(.int .i64 (.sym fun _=>(c.vs.getD ix.den.toNat v0).rh))])),(.sl 2 (.sym fun _=>zi c.ts.length) (fun ix=>[(.int .i64 (.sym fun _=>(c.ts.getD ix.den.toNat t0).top)),(.sl 3 (.sym fun _=>zi ((c.ts.getD ix.den.toNat t0).ps).length) (fun jx=>[(.int .i64 (.sym fun _=>(((c.ts.getD ix.den.toNat t0).ps).getD jx.den.toNat p0).f)),(.int .i64 (.sym fun _=>(((c.ts.getD ix.den.toNat t0).ps).getD jx.den.toNat p0).el)),(.int .i64 (.sym fun _=>(((c.ts.getD ix.den.toNat t0).ps).getD jx.den.toNat p0).eh))]))]))] 27),(1,.cells [.int .i64 (.lit 0),.int .i64 (.lit 0),.int .i64 (.lit 0),.val (Value.slice none 0 0),.val (Value.slice none 0 0)] 44),(8,.cells [(.int .i64 (.sym fun _=>c.rl)),(.int .i64 (.sym fun _=>c.rh)),(.int .i64 (.sym fun _=>c.hr)),.row 11,.row 66] 44),(11,.row 96 4 (.sym fun _=>zi c.vs.length) (fun ix=>[(.int .i64 (.sym fun _=>(c.vs.getD ix.den.toNat v0).sl)),(.int .i64 (.sym fun _=>(c.vs.getD ix.den.toNat v0).sh)),(.int .i64 (.sym fun _=>(c.vs.getD ix.den.toNat v0).rl)),(.int .i64 (.sym fun _=>(c.vs.getD ix.den.toNat v0).rh))])),(66,.row 99 2 (.sym fun _=>zi x.1) (fun ix=>[(.int .i64 (.sym fun _=>(c.ts.getD ix.den.toNat t0).top)),(.sl 3 (.sym fun _=>zi ((c.ts.getD ix.den.toNat t0).ps).length) (fun jx=>[(.int .i64 (.sym fun _=>(((c.ts.getD ix.den.toNat t0).ps).getD jx.den.toNat p0).f)),(.int .i64 (.sym fun _=>(((c.ts.getD ix.den.toNat t0).ps).getD jx.den.toNat p0).el)),(.int .i64 (.sym fun _=>(((c.ts.getD ix.den.toNat t0).ps).getD jx.den.toNat p0).eh))]))]))],120⟩,fun x=>c.ts.length-x.1,?_,?_⟩
    · refine⟨⟨0,by omega⟩,?_⟩
      cbv
      repeat' (first
        |with_reducible refine hold ?_ ?_
        |with_reducible refine And.intro ?_ ?_)
      all_goals first
        |trivial
        |exact qN (qE (by rfl))
        |exact qN (Fit.refl _)
        |exact qM (qL _)
        |(refine qM (ble_row ?_ ?_);(first|rfl|((try simp only [qW]at *);(try simp only [zQ,zA,zB,zC,zD,zE,zF,zG,zH,zI,zJ,zK,zL,zM,zN,zO,zP,zR,zS]at *);omega));intro ix h0 h1;exfalso;(try simp only [qW]at *);(try simp only [zQ,zA,zB,zC,zD,zE,zF,zG,zH,zI,zJ,zK,zL,zM,zN,zO,zP,zR,zS]at *);omega)
        |skip
    · rintro ⟨i,hi⟩
      cbv
      have hp7:=hp i
      repeat' (first
          |with_reducible refine hold ?_ ?_
          |with_reducible refine And.intro ?_ ?_
          |(with_reducible intro hcd;(try simp only [zA,zB,zC,zD,zE,zF,zG,zH,zI,zJ,zK,zL,zM,zN,zO,zP]at hcd);try cbv)
          |fail)
      all_goals first
        |((try simp only [qW]at *);(try simp only [zQ,zA,zB,zC,zD,zE,zF,zG,zH,zI,zJ,zK,zL,zM,zN,zO,zP,zR,zS]at *);first|(refine qO ?_;omega)|(simp only [Hold];omega))
        |((have hit:i=c.ts.length:=(by((try simp only [qW]at *);(try simp only [zQ,zA,zB,zC,zD,zE,zF,zG,zH,zI,zJ,zK,zL,zM,zN,zO,zP,zR,zS]at *);omega)));subst hR;subst hit;exact Fit.refl _)
        |skip
      refine⟨none,[⟨.cell 132 1,103,3⟩],{k:Nat // k≤(c.ts.getD i t0).ps.length},fun x=>⟨[(1,.own 0 0),(2,.own 1 0),(3,.own 8 0),(5,(.int .i64 (.sym fun _=>zi i))),(6,.own 132 0),(7,(.int .i64 (.sym fun _=>zi x.1)))],[(0,.cells [(.int .i64 (.sym fun _=>c.rl)),(.int .i64 (.sym fun _=>c.rh)),(.int .i64 (.sym fun _=>c.hr)),(.sl 4 (.sym fun _=>zi c.vs.length) (fun ix=>[(.int .i64 (.sym fun _=>(c.vs.getD ix.den.toNat v0).sl)),(.int .i64 (.sym fun _=>(c.vs.getD ix.den.toNat v0).sh)),(.int .i64 (.sym fun _=>(c.vs.getD ix.den.toNat v0).rl)),(.int .i64 (.sym fun _=>(c.vs.getD ix.den.toNat v0).rh))])),(.sl 2 (.sym fun _=>zi c.ts.length) (fun ix=>[(.int .i64 (.sym fun _=>(c.ts.getD ix.den.toNat t0).top)),(.sl 3 (.sym fun _=>zi ((c.ts.getD ix.den.toNat t0).ps).length) (fun jx=>[(.int .i64 (.sym fun _=>(((c.ts.getD ix.den.toNat t0).ps).getD jx.den.toNat p0).f)),(.int .i64 (.sym fun _=>(((c.ts.getD ix.den.toNat t0).ps).getD jx.den.toNat p0).el)),(.int .i64 (.sym fun _=>(((c.ts.getD ix.den.toNat t0).ps).getD jx.den.toNat p0).eh))]))]))] 27),(1,.cells [.int .i64 (.lit 0),.int .i64 (.lit 0),.int .i64 (.lit 0),.val (Value.slice none 0 0),.val (Value.slice none 0 0)] 44),(8,.cells [(.int .i64 (.sym fun _=>c.rl)),(.int .i64 (.sym fun _=>c.rh)),(.int .i64 (.sym fun _=>c.hr)),.row 11,.row 66] 44),(11,.row 96 4 (.sym fun _=>zi c.vs.length) (fun ix=>[(.int .i64 (.sym fun _=>(c.vs.getD ix.den.toNat v0).sl)),(.int .i64 (.sym fun _=>(c.vs.getD ix.den.toNat v0).sh)),(.int .i64 (.sym fun _=>(c.vs.getD ix.den.toNat v0).rl)),(.int .i64 (.sym fun _=>(c.vs.getD ix.den.toNat v0).rh))])),(66,.row 99 2 (.sym fun _=>zi i) (fun ix=>[(.int .i64 (.sym fun _=>(c.ts.getD ix.den.toNat t0).top)),(.sl 3 (.sym fun _=>zi ((c.ts.getD ix.den.toNat t0).ps).length) (fun jx=>[(.int .i64 (.sym fun _=>(((c.ts.getD ix.den.toNat t0).ps).getD jx.den.toNat p0).f)),(.int .i64 (.sym fun _=>(((c.ts.getD ix.den.toNat t0).ps).getD jx.den.toNat p0).el)),(.int .i64 (.sym fun _=>(((c.ts.getD ix.den.toNat t0).ps).getD jx.den.toNat p0).eh))]))])),(132,.cells [(.int .i64 (.sym fun _=>(c.ts.getD i t0).top)),.row 135] 99),(135,.row 103 3 (.sym fun _=>zi x.1) (fun ix=>[(.int .i64 (.sym fun _=>(((c.ts.getD i t0).ps).getD ix.den.toNat p0).f)),(.int .i64 (.sym fun _=>(((c.ts.getD i t0).ps).getD ix.den.toNat p0).el)),(.int .i64 (.sym fun _=>(((c.ts.getD i t0).ps).getD ix.den.toNat p0).eh))]))],200⟩,fun x=>(c.ts.getD i t0).ps.length-x.1,?_,?_⟩
      · refine⟨⟨0,by omega⟩,?_⟩
        cbv
        repeat' (first
          |with_reducible refine hold ?_ ?_
          |with_reducible refine And.intro ?_ ?_)
        all_goals first
          |trivial
          |exact qN (qE (by rfl))
          |exact qN (Fit.refl _)
          |exact qM (qL _)
          |(refine qM (ble_row ?_ ?_);(first|rfl|((try simp only [qW]at *);(try simp only [zQ,zA,zB,zC,zD,zE,zF,zG,zH,zI,zJ,zK,zL,zM,zN,zO,zP,zR,zS]at *);omega));intro ix h0 h1;exfalso;(try simp only [qW]at *);(try simp only [zQ,zA,zB,zC,zD,zE,zF,zG,zH,zI,zJ,zK,zL,zM,zN,zO,zP,zR,zS]at *);omega)
          |skip
      · rintro ⟨k,hk⟩
        cbv
        repeat' (first
            |with_reducible refine hold ?_ ?_
            |with_reducible refine And.intro ?_ ?_
            |(with_reducible intro hcd;(try simp only [zA,zB,zC,zD,zE,zF,zG,zH,zI,zJ,zK,zL,zM,zN,zO,zP]at hcd);try cbv)
            | (refine qQ ?_ (c25 _ _) (by(repeat' (first|exact qB|refine qD ?_ ?_|exact qE (by rfl)|exact qG (by rfl)|exact Fit.refl _|exact qA|refine qC ?_ rfl ?_)))
               try cbv)
            | (refine⟨fun ix=>[(.int .i64 (.sym fun _=>(((c.ts.getD i t0).ps).getD ix.den.toNat p0).f)),(.int .i64 (.sym fun _=>(((c.ts.getD i t0).ps).getD ix.den.toNat p0).el)),(.int .i64 (.sym fun _=>(((c.ts.getD i t0).ps).getD ix.den.toNat p0).eh))],?_⟩
               cbv
               refine hold (hold_rowapp (by intro ix jx h0 h1 h2;simp only [h2];exact Fit.refl _) (by intro ix jx h0 h1 h2;(have h3:jx.den.toNat=k:=by((try simp only [qW]at *);(try simp only [zQ,zA,zB,zC,zD,zE,zF,zG,zH,zI,zJ,zK,zL,zM,zN,zO,zP,zR,zS]at *);omega));simp only [h3];exact(qC (qE rfl) rfl (qC (qE rfl) rfl (qC (qE rfl) rfl qA)))) (by(try simp only [qW]at *);(try simp only [zQ,zA,zB,zC,zD,zE,zF,zG,zH,zI,zJ,zK,zL,zM,zN,zO,zP,zR,zS]at *);omega)) (Or.inl ?_)
               try cbv)
            | (refine Exists.intro (α:=List Nat) [135] ?_
               cbv)
            | (refine⟨fun ix=>[(.int .i64 (.sym fun _=>(c.ts.getD ix.den.toNat t0).top)),(.sl 3 (.sym fun _=>zi ((c.ts.getD ix.den.toNat t0).ps).length) (fun jx=>[(.int .i64 (.sym fun _=>(((c.ts.getD ix.den.toNat t0).ps).getD jx.den.toNat p0).f)),(.int .i64 (.sym fun _=>(((c.ts.getD ix.den.toNat t0).ps).getD jx.den.toNat p0).el)),(.int .i64 (.sym fun _=>(((c.ts.getD ix.den.toNat t0).ps).getD jx.den.toNat p0).eh))]))],?_⟩
               cbv
               refine hold (hold_rowapp (by intro ix jx h0 h1 h2;simp only [h2];exact Fit.refl _) (by intro ix jx h0 h1 h2;(have h3:jx.den.toNat=i:=by((try simp only [qW]at *);(try simp only [zQ,zA,zB,zC,zD,zE,zF,zG,zH,zI,zJ,zK,zL,zM,zN,zO,zP,zR,zS]at *);omega));simp only [h3];(have hk2:k=(c.ts.getD i t0).ps.length:=(by((try simp only [qW]at *);(try simp only [zQ,zA,zB,zC,zD,zE,zF,zG,zH,zI,zJ,zK,zL,zM,zN,zO,zP,zR,zS]at *);omega)));subst hk2;exact(qC (qE rfl) rfl (qC (Fit.refl _) rfl qA))) (by(try simp only [qW]at *);(try simp only [zQ,zA,zB,zC,zD,zE,zF,zG,zH,zI,zJ,zK,zL,zM,zN,zO,zP,zR,zS]at *);omega)) (Or.inl ?_)
               try cbv)
            |fail)
        all_goals first
          |((try simp only [qW]at *);(try simp only [zQ,zA,zB,zC,zD,zE,zF,zG,zH,zI,zJ,zK,zL,zM,zN,zO,zP,zR,zS]at *);first|(refine qO ?_;omega)|(simp only [Hold];omega))
          |((try simp only [zQ,zA,zB,zC,zD,zE,zF,zG,zH,zI,zJ,zK,zL,zM,zN,zO,zP,zR,zS]at *);refine⟨⟨k+1,by omega⟩,by simp only [];omega,?_⟩;cbv;(repeat' (first|with_reducible refine hold ?_ ?_|with_reducible refine And.intro ?_ ?_));(all_goals first|trivial|exact qN (qE (by rfl))|exact qN (qG (by rfl))|exact qN (Fit.refl _)|exact qM (qL _)|(refine qN (qE ?_);(try simp only [qW]at *);simp only [zQ,zA,zB,zC,zD,zE,zF,zG,zH,zI,zJ,zK,zL,zM,zN,zO,zP,zR,zS]at *;omega)|(refine qM (qK ?_);(repeat' (first|exact qA|exact qB|refine qC ?_ rfl ?_|refine qD ?_ ?_|exact qE (by rfl)|exact qG (by rfl)|exact Fit.refl _|exact qH _|(refine qE ?_;(try simp only [qW]at *);simp only [zQ,zA,zB,zC,zD,zE,zF,zG,zH,zI,zJ,zK,zL,zM,zN,zO,zP,zR,zS]at *;omega)));done)|(refine qM (ble_row ?_ ?_)<;>first|rfl|((try simp only [qW]at *);(try simp only [zQ,zA,zB,zC,zD,zE,zF,zG,zH,zI,zJ,zK,zL,zM,zN,zO,zP,zR,zS]at *);omega)|(intro ix h0 h1;exact Fit.refl _))|skip))
          |((try simp only [zQ,zA,zB,zC,zD,zE,zF,zG,zH,zI,zJ,zK,zL,zM,zN,zO,zP,zR,zS]at *);refine⟨⟨i+1,by omega⟩,by simp only [];omega,?_⟩;cbv;(repeat' (first|with_reducible refine hold ?_ ?_|with_reducible refine And.intro ?_ ?_));(all_goals first|trivial|exact qN (qE (by rfl))|exact qN (qG (by rfl))|exact qN (Fit.refl _)|exact qM (qL _)|(refine qN (qE ?_);(try simp only [qW]at *);simp only [zQ,zA,zB,zC,zD,zE,zF,zG,zH,zI,zJ,zK,zL,zM,zN,zO,zP,zR,zS]at *;omega)|(refine qM (qK ?_);(repeat' (first|exact qA|exact qB|refine qC ?_ rfl ?_|refine qD ?_ ?_|exact qE (by rfl)|exact qG (by rfl)|exact Fit.refl _|exact qH _|(refine qE ?_;(try simp only [qW]at *);simp only [zQ,zA,zB,zC,zD,zE,zF,zG,zH,zI,zJ,zK,zL,zM,zN,zO,zP,zR,zS]at *;omega)));done)|(refine qM (ble_row ?_ ?_)<;>first|rfl|((try simp only [qW]at *);(try simp only [zQ,zA,zB,zC,zD,zE,zF,zG,zH,zI,zJ,zK,zL,zM,zN,zO,zP,zR,zS]at *);omega)|(intro ix h0 h1;exact Fit.refl _))|skip))
          |skip
end Go.Proofs.YteelocfbbhchcaaGreat

namespace Go.Proofs.YteelocfbbhchcaaGreat
open Go Go.Eng Go.Proofs
set_option maxRecDepth 10000
theorem thin_no {c:Clr} {n j:Nat}(h1:j<c.ts.length)(h2:j<6)(h:7<(c.ts.getD j t0).ps.length):thinB c n=false:=by
  rw [←Bool.not_eq_true,thin_iff]
  intro q
  have:=q.p j h1
  omega
theorem thin_big {c:Clr} {n:Nat}(h:5<c.vs.length∨5<c.ts.length∨9<n):thinB c n=false:=by
  rw [←Bool.not_eq_true,thin_iff]
  intro q
  have:=q.v;have:=q.t;have:=q.n
  omega
theorem thin_yes {c:Clr} {n i:Nat}(h1:c.vs.length≤5)(h2:c.ts.length≤5)(h3:n≤9)(hi:c.ts.length≤i∨6≤i)(h:∀j,j<i→(c.ts.getD j t0).ps.length≤7):thinB c n=true:=
  thin_iff.2 ⟨h1,h2,h3,fun j hj=>h j (by omega)⟩
theorem thin_mid {c:Clr} {n i:Nat}(h1:c.vs.length≤5)(h2:c.ts.length≤5)(hi:c.ts.length≤i∨6≤i)(h:∀j,j<i→(c.ts.getD j t0).ps.length≤7):thinB c n=decide ((n:Int)≤9):=by
  by_cases h3:n≤9
  · rw [thin_yes h1 h2 h3 hi h,decide_eq_true (by omega)]
  · rw [thin_big (by omega),decide_eq_false (by omega)]
def wideF (c:Clr)(i:Nat):Int:=((c.vs.getD i v0).sh-(c.vs.getD i v0).sl+1)*((c.vs.getD i v0).rh-(c.vs.getD i v0).rl+1)
def fewC (c:Clr):Bool:=decide (sumF (wideF c) c.vs.length*(c.rh-c.rl+1)≤1500)
theorem mul_rng {a b m n:Int}(h0:0≤a)(h1:a≤m)(k0:0≤b)(k1:b≤n):0≤a*b∧a*b≤m*n:=by
  have e1:a*b≤m*b:=Int.mul_le_mul_of_nonneg_right h1 k0
  have e2:m*b≤m*n:=Int.mul_le_mul_of_nonneg_left k1 (by omega)
  exact⟨Int.mul_nonneg h0 k0,by omega⟩
theorem wide_bd {c:Clr}(hc:COk c) {i:Nat}(hi:i<c.vs.length):(0≤(c.vs.getD i v0).sh-(c.vs.getD i v0).sl+1∧(c.vs.getD i v0).sh-(c.vs.getD i v0).sl+1≤21)∧(0≤(c.vs.getD i v0).rh-(c.vs.getD i v0).rl+1∧(c.vs.getD i v0).rh-(c.vs.getD i v0).rl+1≤21)∧0≤wideF c i∧wideF c i≤441:=by
  have:=hc.ok.v i hi
  unfold vatOk at this
  have a:0≤(c.vs.getD i v0).sh-(c.vs.getD i v0).sl+1∧(c.vs.getD i v0).sh-(c.vs.getD i v0).sl+1≤21:=by omega
  have b:0≤(c.vs.getD i v0).rh-(c.vs.getD i v0).rl+1∧(c.vs.getD i v0).rh-(c.vs.getD i v0).rl+1≤21:=by omega
  exact⟨a,b,mul_rng a.1 a.2 b.1 b.2⟩
theorem wides_bd {c:Clr}(hc:COk c) {i:Nat}(hi:i≤c.vs.length):0≤sumF (wideF c) i∧sumF (wideF c) i≤1323:=by
  have:=sumF_bd (fun j hj=>(wide_bd hc hj).2.2) (by omega) hi
  have:=hc.few.v
  omega
theorem room_wide {c:Clr}(hc:COk c):0≤c.rh-c.rl+1∧c.rh-c.rl+1≤21:=by
  have:=hc.ok.r1;have:=hc.ok.r3
  omega
theorem few_all {c:Clr}(hc:COk c):0≤sumF (wideF c) c.vs.length*(c.rh-c.rl+1)∧sumF (wideF c) c.vs.length*(c.rh-c.rl+1)≤27783:=
  mul_rng (wides_bd hc (Nat.le_refl _)).1 (wides_bd hc (Nat.le_refl _)).2 (room_wide hc).1 (room_wide hc).2
theorem thin14 (c:Clr)(l:List LookT):FSpec Tryz.prog 4 [(clrS c),(lksS l)] [] (fun r _=>r=(.bool (.sym fun _=>thinB c l.length))):=by
  refine FSpec.is fun R hR=>qX (sc:=sc4) tyok mix Tryz.func4 rfl Tryz.call4 (by kernel_rfl) (by kernel_rfl) ?_
  generalize Tryz.prog=P
  cbv
  repeat' (first
      |fail)
  all_goals first
    |skip
  refine⟨none,[],{i:Nat // i≤c.ts.length∧i≤6∧∀j,j<i→(c.ts.getD j t0).ps.length≤7},fun x=>⟨[(1,(lksS l)),(2,.own 0 0),(5,(.int .i64 (.sym fun _=>zi x.1)))],[(0,.cells [(.int .i64 (.sym fun _=>c.rl)),(.int .i64 (.sym fun _=>c.rh)),(.int .i64 (.sym fun _=>c.hr)),(.sl 4 (.sym fun _=>zi c.vs.length) (fun ix=>[(.int .i64 (.sym fun _=>(c.vs.getD ix.den.toNat v0).sl)),(.int .i64 (.sym fun _=>(c.vs.getD ix.den.toNat v0).sh)),(.int .i64 (.sym fun _=>(c.vs.getD ix.den.toNat v0).rl)),(.int .i64 (.sym fun _=>(c.vs.getD ix.den.toNat v0).rh))])),(.sl 2 (.sym fun _=>zi c.ts.length) (fun ix=>[(.int .i64 (.sym fun _=>(c.ts.getD ix.den.toNat t0).top)),(.sl 3 (.sym fun _=>zi ((c.ts.getD ix.den.toNat t0).ps).length) (fun jx=>[(.int .i64 (.sym fun _=>(((c.ts.getD ix.den.toNat t0).ps).getD jx.den.toNat p0).f)),(.int .i64 (.sym fun _=>(((c.ts.getD ix.den.toNat t0).ps).getD jx.den.toNat p0).el)),(.int .i64 (.sym fun _=>(((c.ts.getD ix.den.toNat t0).ps).getD jx.den.toNat p0).eh))]))]))] 27)],20⟩,fun x=>c.ts.length-x.1,?_,?_⟩
  · refine⟨⟨0,by omega,by omega,fun j hj=>by omega⟩,?_⟩
    cbv
    repeat' (first
      |with_reducible refine hold ?_ ?_
      |with_reducible refine And.intro ?_ ?_)
    all_goals first
      |trivial
      |exact qN (qE (by rfl))
      |exact qN (Fit.refl _)
      |exact qM (qL _)
      |skip
  · rintro⟨i,hi,hi6,hq⟩
    cbv
    repeat' (first
        |with_reducible refine hold ?_ ?_
        |with_reducible refine And.intro ?_ ?_
        |(with_reducible intro hcd;(try simp only [zA,zB,zC,zD,zE,zF,zG,zH,zI,zJ,zK,zL,zM,zN,zO,zP]at hcd);try cbv)
        |fail)
    all_goals first
      |((try simp only [qW]at *);(try simp only [zQ,zA,zB,zC,zD,zE,zF,zG,zH,zI,zJ,zK,zL,zM,zN,zO,zP,zR,zS]at *);first|(refine qO ?_;omega)|(simp only [Hold];omega))
      |(subst hR;(refine qG ?_;(try simp only [qW]at *);(try simp only [zQ,zA,zB,zC,zD,zE,zF,zG,zH,zI,zJ,zK,zL,zM,zN,zO,zP,zR,zS]at *);exact(thin_no (j:=i) (by omega) (by omega) (by omega)).symm);done)
      |(subst hR;(refine qG ?_;(try simp only [qW]at *);(try simp only [zQ,zA,zB,zC,zD,zE,zF,zG,zH,zI,zJ,zK,zL,zM,zN,zO,zP,zR,zS]at *);exact((thin_big (by omega)).trans (by first|rfl|(simp;omega))).symm);done)
      |(subst hR;(refine qG ?_;(try simp only [qW]at *);(try simp only [zQ,zA,zB,zC,zD,zE,zF,zG,zH,zI,zJ,zK,zL,zM,zN,zO,zP,zR,zS]at *);exact(thin_mid (by omega) (by omega) (i:=i) (by omega) hq).symm);done)
      |((try simp only [zQ,zA,zB,zC,zD,zE,zF,zG,zH,zI,zJ,zK,zL,zM,zN,zO,zP,zR,zS]at *);refine⟨⟨i+1,by omega,by omega,fun j hj=>(Nat.lt_or_ge j i).elim (hq j) fun q=>by rw [show j=i by omega];omega⟩,by simp only [];omega,?_⟩;cbv;(repeat' (first|with_reducible refine hold ?_ ?_|with_reducible refine And.intro ?_ ?_));(all_goals first|trivial|exact qN (qE (by rfl))|exact qN (qG (by rfl))|exact qN (Fit.refl _)|exact qM (qL _)|(refine qN (qE ?_);(try simp only [qW]at *);simp only [zQ,zA,zB,zC,zD,zE,zF,zG,zH,zI,zJ,zK,zL,zM,zN,zO,zP,zR,zS]at *;omega)|(refine qM (qK ?_);(repeat' (first|exact qA|exact qB|refine qC ?_ rfl ?_|refine qD ?_ ?_|exact qE (by rfl)|exact qG (by rfl)|exact Fit.refl _|exact qH _|(refine qE ?_;(try simp only [qW]at *);simp only [zQ,zA,zB,zC,zD,zE,zF,zG,zH,zI,zJ,zK,zL,zM,zN,zO,zP,zR,zS]at *;omega)));done)|skip))
      |skip
theorem few29 (c:Clr)(hc:COk c):FSpec Tryz.prog 6 [(clrS c)] [] (fun r _=>r=(.bool (.sym fun _=>fewC c))):=by
  refine FSpec.is fun R hR=>qX (sc:=sc6) tyok mix Tryz.func6 rfl Tryz.call6 (by kernel_rfl) (by kernel_rfl) ?_
  generalize Tryz.prog=P
  cbv
  have h3:=hc.few.v
  repeat' (first
      |fail)
  all_goals first
    |skip
  refine⟨none,[],{i:Nat // i≤c.vs.length},fun x=>⟨[(1,.own 0 0),(3,(.int .i64 (.sym fun _=>sumF (wideF c) x.1))),(4,(.int .i64 (.sym fun _=>zi x.1)))],[(0,.cells [(.int .i64 (.sym fun _=>c.rl)),(.int .i64 (.sym fun _=>c.rh)),(.int .i64 (.sym fun _=>c.hr)),(.sl 4 (.sym fun _=>zi c.vs.length) (fun ix=>[(.int .i64 (.sym fun _=>(c.vs.getD ix.den.toNat v0).sl)),(.int .i64 (.sym fun _=>(c.vs.getD ix.den.toNat v0).sh)),(.int .i64 (.sym fun _=>(c.vs.getD ix.den.toNat v0).rl)),(.int .i64 (.sym fun _=>(c.vs.getD ix.den.toNat v0).rh))])),(.sl 2 (.sym fun _=>zi c.ts.length) (fun ix=>[(.int .i64 (.sym fun _=>(c.ts.getD ix.den.toNat t0).top)),(.sl 3 (.sym fun _=>zi ((c.ts.getD ix.den.toNat t0).ps).length) (fun jx=>[(.int .i64 (.sym fun _=>(((c.ts.getD ix.den.toNat t0).ps).getD jx.den.toNat p0).f)),(.int .i64 (.sym fun _=>(((c.ts.getD ix.den.toNat t0).ps).getD jx.den.toNat p0).el)),(.int .i64 (.sym fun _=>(((c.ts.getD ix.den.toNat t0).ps).getD jx.den.toNat p0).eh))]))]))] 27)],20⟩,fun x=>c.vs.length-x.1,?_,?_⟩
  · refine⟨⟨0,by omega⟩,?_⟩
    cbv
    repeat' (first
      |with_reducible refine hold ?_ ?_
      |with_reducible refine And.intro ?_ ?_)
    all_goals first
      |trivial
      |exact qN (qE (by rfl))
      |exact qN (Fit.refl _)
      |exact qM (qL _)
      |skip
  · rintro⟨i,hi⟩
    cbv
    repeat' (first
        |with_reducible refine hold ?_ ?_
        |with_reducible refine And.intro ?_ ?_
        |(with_reducible intro hcd;(try simp only [zA,zB,zC,zD,zE,zF,zG,zH,zI,zJ,zK,zL,zM,zN,zO,zP]at hcd);try cbv)
        |fail)
    all_goals first
      |((try simp only [qW]at *);(try simp only [zQ,zA,zB,zC,zD,zE,zF,zG,zH,zI,zJ,zK,zL,zM,zN,zO,zP,zR,zS]at *);first|(refine qO ?_;omega)|(simp only [Hold];omega))
      |((have hie:i=c.vs.length:=(by((try simp only [qW]at *);(try simp only [zQ,zA,zB,zC,zD,zE,zF,zG,zH,zI,zJ,zK,zL,zM,zN,zO,zP,zR,zS]at *);omega)));subst hR;subst hie;exact qG rfl)
      |((have hb:=wide_bd hc (i:=i) (by((try simp only [qW]at *);(try simp only [zQ,zA,zB,zC,zD,zE,zF,zG,zH,zI,zJ,zK,zL,zM,zN,zO,zP,zR,zS]at *);omega)));(have hs:=wides_bd hc (i:=i) (by omega));unfold wideF at hb;(have hw:=wides_bd hc (Nat.le_refl _));(have hr:=room_wide hc);(have hf:=few_all hc);(try simp only [qW]at *);(try simp only [zQ,zA,zB,zC,zD,zE,zF,zG,zH,zI,zJ,zK,zL,zM,zN,zO,zP,zR,zS]at *);simp only [Hold];first|(refine qO ?_;omega)|omega|((have hie:i=c.vs.length:=by omega);subst hie;first|(refine qO ?_;omega)|omega))
      |((have hr:=room_wide hc);(have hr0:=hc.ok.r0);(have hr2:=hc.ok.r2);(have hf:=few_all hc);(have hs:=wides_bd hc (Nat.le_refl _));(have hie:i=c.vs.length:=(by((try simp only [qW]at *);(try simp only [zQ,zA,zB,zC,zD,zE,zF,zG,zH,zI,zJ,zK,zL,zM,zN,zO,zP,zR,zS]at *);omega)));subst hie;(try simp only [qW]at *);(try simp only [zQ,zA,zB,zC,zD,zE,zF,zG,zH,zI,zJ,zK,zL,zM,zN,zO,zP,zR,zS]at *);first|(refine qO ?_;omega)|(simp only [Hold];omega))
      |((try simp only [zQ,zA,zB,zC,zD,zE,zF,zG,zH,zI,zJ,zK,zL,zM,zN,zO,zP,zR,zS]at *);refine⟨⟨i+1,by omega⟩,by simp only [];omega,?_⟩;cbv;(repeat' (first|with_reducible refine hold ?_ ?_|with_reducible refine And.intro ?_ ?_));(all_goals first|trivial|exact qN (qE (by rfl))|exact qN (qG (by rfl))|exact qN (Fit.refl _)|exact qM (qL _)|(refine qN (qE ?_);(try simp only [qW]at *);simp only [zQ,zA,zB,zC,zD,zE,zF,zG,zH,zI,zJ,zK,zL,zM,zN,zO,zP,zR,zS]at *;omega)|(refine qM (qK ?_);(repeat' (first|exact qA|exact qB|refine qC ?_ rfl ?_|refine qD ?_ ?_|exact qE (by rfl)|exact qG (by rfl)|exact Fit.refl _|exact qH _|(refine qE ?_;(try simp only [qW]at *);simp only [zQ,zA,zB,zC,zD,zE,zF,zG,zH,zI,zJ,zK,zL,zM,zN,zO,zP,zR,zS]at *;omega)));done)|(exact qN (qE rfl))|skip))
      |skip
end Go.Proofs.YteelocfbbhchcaaGreat

namespace Go.Proofs.YteelocfbbhchcaaGreat
open Go Go.Eng Go.Proofs
set_option maxRecDepth 10000
def two3 :Clr:=⟨50,52,3,[⟨80,90,20,30⟩,⟨40,40,50,50⟩],[⟨120,[⟨0,-1,1⟩,⟨70,0,2⟩]⟩]⟩
def la3 :List LookT:=[⟨0,1,0,75⟩]
def lb3 :List LookT:=[⟨0,1,0,75⟩,⟨0,0,0,99⟩]
def po3 :List PorT:=[⟨100,80,80⟩,⟨50,50,53⟩]
def B3 :List (List (Int×Int)):=[[(80,90),(71,82),(64,76),(59,71)],[(40,40),(45,46),(48,49),(49,51)]]
def B4 :List (List (Int×Int)):=[[(80,87),(73,75),(66,70),(61,66)],[(40,40),(45,46),(48,49),(49,51)]]
theorem two50 :FSpec Tryz.prog 23 [] [] (fun r _=>r=(clrS two3)):=by
  have c52:= @between52
  refine FSpec.is fun R hR=>qX (sc:=sc23) tyok mix Tryz.func23 rfl Tryz.call23 (by kernel_rfl) (by kernel_rfl) ?_
  generalize Tryz.prog=P at c52⊢
  cbv
  repeat' (first
      | (refine qQ ?_ (c52 _ _) (by(repeat' (first|exact qB|refine qD ?_ ?_|exact qE (by rfl)|exact qG (by rfl)|exact Fit.refl _|exact qA|refine qC ?_ rfl ?_)))
         try cbv)
      |fail)
  all_goals first
    |(subst hR;(repeat' (first|exact qA|exact qB|refine qC ?_ rfl ?_|refine qD ?_ ?_|exact qE (by rfl)|exact qG (by rfl)|exact qE (by kernel_rfl)|exact qG (by kernel_rfl)|exact Fit.refl _|(exact qP (by rfl))|(first|(refine fit_sl (by rfl) (fun ix h0 h1=> ?_);(have h2:ix.den<2:=h1);(have hx:ix.den.toNat=0∨ix.den.toNat=1:=by omega);(rcases hx with hx|hx<;>simp only [hx]))|(refine fit_sl (by rfl) (fun ix h0 h1=> ?_);(have h2:ix.den<3:=h1);(have hx:ix.den.toNat=0∨ix.den.toNat=1∨ix.den.toNat=2:=by omega);(rcases hx with hx|hx|hx<;>simp only [hx]))|(refine fit_sl (by rfl) (fun ix h0 h1=> ?_);(have h2:ix.den<4:=h1);(have hx:ix.den.toNat=0∨ix.den.toNat=1∨ix.den.toNat=2∨ix.den.toNat=3:=by omega);(rcases hx with hx|hx|hx|hx<;>simp only [hx]))|(refine fit_sl (by rfl) (fun ix h0 h1=> ?_);(have h2:ix.den<1:=h1);(have hx:ix.den.toNat=0:=by omega);(rcases hx with hx<;>simp only [hx]))|(refine fit_sl (by rfl) (fun ix h0 h1=> ?_);(have h2:ix.den<5:=h1);(have hx:ix.den.toNat=0∨ix.den.toNat=1∨ix.den.toNat=2∨ix.den.toNat=3∨ix.den.toNat=4:=by omega);(rcases hx with hx|hx|hx|hx|hx<;>simp only [hx])))));done)
    |skip
theorem play3 :FSpec Tryz.prog 22 [(clrS two3),(.agg [(.int .i64 (.sym fun _=>50)),(.sl 1 (.sym fun _=>zi ([80,40]).length) (fun ix=>[.int .i64 (.sym fun _=>([80,40]).getD ix.den.toNat 0)])),(.sl 1 (.sym fun _=>zi ([20,50]).length) (fun ix=>[.int .i64 (.sym fun _=>([20,50]).getD ix.den.toNat 0)]))])] [] (fun r _=>r=(.tup [(.sl 1 (.sym fun _=>zi ([[80,74,69,65],[40,45,48,49]]).length) (fun ix=>[(.sl 1 (.sym fun _=>zi (([[80,74,69,65],[40,45,48,49]]).getD ix.den.toNat []).length) (fun jx=>[.int .i64 (.sym fun _=>(([[80,74,69,65],[40,45,48,49]]).getD ix.den.toNat []).getD jx.den.toNat 0)]))])),(.int .i64 (.lit (0)))])):=
  (play18 two3 50 [80,40] [20,50] (by decide)).post fun r bs h=>⟨_,by subst h;(repeat' (first|exact qA|exact qB|refine qC ?_ rfl ?_|refine qD ?_ ?_|exact qE (by rfl)|exact qG (by rfl)|exact qE (by kernel_rfl)|exact qG (by kernel_rfl)|exact Fit.refl _|(exact qP (by rfl))|(first|(refine fit_sl (by rfl) (fun ix h0 h1=> ?_);(have h2:ix.den<2:=h1);(have hx:ix.den.toNat=0∨ix.den.toNat=1:=by omega);(rcases hx with hx|hx<;>simp only [hx]))|(refine fit_sl (by rfl) (fun ix h0 h1=> ?_);(have h2:ix.den<3:=h1);(have hx:ix.den.toNat=0∨ix.den.toNat=1∨ix.den.toNat=2:=by omega);(rcases hx with hx|hx|hx<;>simp only [hx]))|(refine fit_sl (by rfl) (fun ix h0 h1=> ?_);(have h2:ix.den<4:=h1);(have hx:ix.den.toNat=0∨ix.den.toNat=1∨ix.den.toNat=2∨ix.den.toNat=3:=by omega);(rcases hx with hx|hx|hx|hx<;>simp only [hx]))|(refine fit_sl (by rfl) (fun ix h0 h1=> ?_);(have h2:ix.den<1:=h1);(have hx:ix.den.toNat=0:=by omega);(rcases hx with hx<;>simp only [hx]))|(refine fit_sl (by rfl) (fun ix h0 h1=> ?_);(have h2:ix.den<5:=h1);(have hx:ix.den.toNat=0∨ix.den.toNat=1∨ix.den.toNat=2∨ix.den.toNat=3∨ix.den.toNat=4:=by omega);(rcases hx with hx|hx|hx|hx|hx<;>simp only [hx]))))),rfl⟩
theorem mean3 :FSpec Tryz.prog 24 [(clrS two3),(.int .i64 (.sym fun _=>0)),(.int .i64 (.sym fun _=>75))] [] (fun r _=>r=(.tup [(.agg [(.int .i64 (.lit (73))),(.int .i64 (.lit (75)))]),(.int .i64 (.lit (0)))])):=
  (mean16 two3 0 75).post fun r bs h=>⟨_,by subst h;(repeat' (first|exact qA|exact qB|refine qC ?_ rfl ?_|refine qD ?_ ?_|exact qE (by rfl)|exact qG (by rfl)|exact qE (by kernel_rfl)|exact qG (by kernel_rfl)|exact Fit.refl _|(exact qP (by rfl))|(first|(refine fit_sl (by rfl) (fun ix h0 h1=> ?_);(have h2:ix.den<2:=h1);(have hx:ix.den.toNat=0∨ix.den.toNat=1:=by omega);(rcases hx with hx|hx<;>simp only [hx]))|(refine fit_sl (by rfl) (fun ix h0 h1=> ?_);(have h2:ix.den<3:=h1);(have hx:ix.den.toNat=0∨ix.den.toNat=1∨ix.den.toNat=2:=by omega);(rcases hx with hx|hx|hx<;>simp only [hx]))|(refine fit_sl (by rfl) (fun ix h0 h1=> ?_);(have h2:ix.den<4:=h1);(have hx:ix.den.toNat=0∨ix.den.toNat=1∨ix.den.toNat=2∨ix.den.toNat=3:=by omega);(rcases hx with hx|hx|hx|hx<;>simp only [hx]))|(refine fit_sl (by rfl) (fun ix h0 h1=> ?_);(have h2:ix.den<1:=h1);(have hx:ix.den.toNat=0:=by omega);(rcases hx with hx<;>simp only [hx]))|(refine fit_sl (by rfl) (fun ix h0 h1=> ?_);(have h2:ix.den<5:=h1);(have hx:ix.den.toNat=0∨ix.den.toNat=1∨ix.den.toNat=2∨ix.den.toNat=3∨ix.den.toNat=4:=by omega);(rcases hx with hx|hx|hx|hx|hx<;>simp only [hx]))))),rfl⟩
theorem bounds3 :FSpec Tryz.prog 25 [(clrS two3),(lksS ([]:List LookT))] [] (fun r _=>r=(.tup [(.sl 1 (.sym fun _=>zi (B3).length) (fun ix=>[(.sl 2 (.sym fun _=>zi ((B3).getD ix.den.toNat []).length) (fun jx=>[(.int .i64 (.sym fun _=>(((B3).getD ix.den.toNat []).getD jx.den.toNat (0,0)).1)),(.int .i64 (.sym fun _=>(((B3).getD ix.den.toNat []).getD jx.den.toNat (0,0)).2))]))])),(.int .i64 (.lit (0)))])):=
  (bounds30 two3 []).post fun r bs h=>⟨_,by subst h;(repeat' (first|exact qA|exact qB|refine qC ?_ rfl ?_|refine qD ?_ ?_|exact qE (by rfl)|exact qG (by rfl)|exact qE (by kernel_rfl)|exact qG (by kernel_rfl)|exact Fit.refl _|(exact qP (by rfl))|(first|(refine fit_sl (by rfl) (fun ix h0 h1=> ?_);(have h2:ix.den<2:=h1);(have hx:ix.den.toNat=0∨ix.den.toNat=1:=by omega);(rcases hx with hx|hx<;>simp only [hx]))|(refine fit_sl (by rfl) (fun ix h0 h1=> ?_);(have h2:ix.den<3:=h1);(have hx:ix.den.toNat=0∨ix.den.toNat=1∨ix.den.toNat=2:=by omega);(rcases hx with hx|hx|hx<;>simp only [hx]))|(refine fit_sl (by rfl) (fun ix h0 h1=> ?_);(have h2:ix.den<4:=h1);(have hx:ix.den.toNat=0∨ix.den.toNat=1∨ix.den.toNat=2∨ix.den.toNat=3:=by omega);(rcases hx with hx|hx|hx|hx<;>simp only [hx]))|(refine fit_sl (by rfl) (fun ix h0 h1=> ?_);(have h2:ix.den<1:=h1);(have hx:ix.den.toNat=0:=by omega);(rcases hx with hx<;>simp only [hx]))|(refine fit_sl (by rfl) (fun ix h0 h1=> ?_);(have h2:ix.den<5:=h1);(have hx:ix.den.toNat=0∨ix.den.toNat=1∨ix.den.toNat=2∨ix.den.toNat=3∨ix.den.toNat=4:=by omega);(rcases hx with hx|hx|hx|hx|hx<;>simp only [hx]))))),rfl⟩
theorem bounds4 :FSpec Tryz.prog 25 [(clrS two3),(lksS la3)] [] (fun r _=>r=(.tup [(.sl 1 (.sym fun _=>zi (B4).length) (fun ix=>[(.sl 2 (.sym fun _=>zi ((B4).getD ix.den.toNat []).length) (fun jx=>[(.int .i64 (.sym fun _=>(((B4).getD ix.den.toNat []).getD jx.den.toNat (0,0)).1)),(.int .i64 (.sym fun _=>(((B4).getD ix.den.toNat []).getD jx.den.toNat (0,0)).2))]))])),(.int .i64 (.lit (0)))])):=
  (bounds30 two3 la3).post fun r bs h=>⟨_,by subst h;(repeat' (first|exact qA|exact qB|refine qC ?_ rfl ?_|refine qD ?_ ?_|exact qE (by rfl)|exact qG (by rfl)|exact qE (by kernel_rfl)|exact qG (by kernel_rfl)|exact Fit.refl _|(exact qP (by rfl))|(first|(refine fit_sl (by rfl) (fun ix h0 h1=> ?_);(have h2:ix.den<2:=h1);(have hx:ix.den.toNat=0∨ix.den.toNat=1:=by omega);(rcases hx with hx|hx<;>simp only [hx]))|(refine fit_sl (by rfl) (fun ix h0 h1=> ?_);(have h2:ix.den<3:=h1);(have hx:ix.den.toNat=0∨ix.den.toNat=1∨ix.den.toNat=2:=by omega);(rcases hx with hx|hx|hx<;>simp only [hx]))|(refine fit_sl (by rfl) (fun ix h0 h1=> ?_);(have h2:ix.den<4:=h1);(have hx:ix.den.toNat=0∨ix.den.toNat=1∨ix.den.toNat=2∨ix.den.toNat=3:=by omega);(rcases hx with hx|hx|hx|hx<;>simp only [hx]))|(refine fit_sl (by rfl) (fun ix h0 h1=> ?_);(have h2:ix.den<1:=h1);(have hx:ix.den.toNat=0:=by omega);(rcases hx with hx<;>simp only [hx]))|(refine fit_sl (by rfl) (fun ix h0 h1=> ?_);(have h2:ix.den<5:=h1);(have hx:ix.den.toNat=0∨ix.den.toNat=1∨ix.den.toNat=2∨ix.den.toNat=3∨ix.den.toNat=4:=by omega);(rcases hx with hx|hx|hx|hx|hx<;>simp only [hx]))))),rfl⟩
theorem cool3 :FSpec Tryz.prog 26 [(clrS two3),(lksS ([]:List LookT)),(.int .i64 (.sym fun _=>70))] [] (fun r _=>r=(.tup [(.int .i64 (.lit (-1))),(.int .i64 (.lit (2))),(.int .i64 (.lit (0)))])):=
  (cool32 two3 [] 70).post fun r bs h=>⟨_,by subst h;(repeat' (first|exact qA|exact qB|refine qC ?_ rfl ?_|refine qD ?_ ?_|exact qE (by rfl)|exact qG (by rfl)|exact qE (by kernel_rfl)|exact qG (by kernel_rfl)|exact Fit.refl _|(exact qP (by rfl))|(first|(refine fit_sl (by rfl) (fun ix h0 h1=> ?_);(have h2:ix.den<2:=h1);(have hx:ix.den.toNat=0∨ix.den.toNat=1:=by omega);(rcases hx with hx|hx<;>simp only [hx]))|(refine fit_sl (by rfl) (fun ix h0 h1=> ?_);(have h2:ix.den<3:=h1);(have hx:ix.den.toNat=0∨ix.den.toNat=1∨ix.den.toNat=2:=by omega);(rcases hx with hx|hx|hx<;>simp only [hx]))|(refine fit_sl (by rfl) (fun ix h0 h1=> ?_);(have h2:ix.den<4:=h1);(have hx:ix.den.toNat=0∨ix.den.toNat=1∨ix.den.toNat=2∨ix.den.toNat=3:=by omega);(rcases hx with hx|hx|hx|hx<;>simp only [hx]))|(refine fit_sl (by rfl) (fun ix h0 h1=> ?_);(have h2:ix.den<1:=h1);(have hx:ix.den.toNat=0:=by omega);(rcases hx with hx<;>simp only [hx]))|(refine fit_sl (by rfl) (fun ix h0 h1=> ?_);(have h2:ix.den<5:=h1);(have hx:ix.den.toNat=0∨ix.den.toNat=1∨ix.den.toNat=2∨ix.den.toNat=3∨ix.den.toNat=4:=by omega);(rcases hx with hx|hx|hx|hx|hx<;>simp only [hx]))))),rfl⟩
theorem mix3 :FSpec Tryz.prog 27 [(porS po3)] [] (fun r _=>r=(.tup [(.agg [(.int .i64 (.lit (70))),(.int .i64 (.lit (71)))]),(.int .i64 (.lit (0)))])):=
  (mix38 po3 (by decide)).post fun r bs h=>⟨_,by subst h;(repeat' (first|exact qA|exact qB|refine qC ?_ rfl ?_|refine qD ?_ ?_|exact qE (by rfl)|exact qG (by rfl)|exact qE (by kernel_rfl)|exact qG (by kernel_rfl)|exact Fit.refl _|(exact qP (by rfl))|(first|(refine fit_sl (by rfl) (fun ix h0 h1=> ?_);(have h2:ix.den<2:=h1);(have hx:ix.den.toNat=0∨ix.den.toNat=1:=by omega);(rcases hx with hx|hx<;>simp only [hx]))|(refine fit_sl (by rfl) (fun ix h0 h1=> ?_);(have h2:ix.den<3:=h1);(have hx:ix.den.toNat=0∨ix.den.toNat=1∨ix.den.toNat=2:=by omega);(rcases hx with hx|hx|hx<;>simp only [hx]))|(refine fit_sl (by rfl) (fun ix h0 h1=> ?_);(have h2:ix.den<4:=h1);(have hx:ix.den.toNat=0∨ix.den.toNat=1∨ix.den.toNat=2∨ix.den.toNat=3:=by omega);(rcases hx with hx|hx|hx|hx<;>simp only [hx]))|(refine fit_sl (by rfl) (fun ix h0 h1=> ?_);(have h2:ix.den<1:=h1);(have hx:ix.den.toNat=0:=by omega);(rcases hx with hx<;>simp only [hx]))|(refine fit_sl (by rfl) (fun ix h0 h1=> ?_);(have h2:ix.den<5:=h1);(have hx:ix.den.toNat=0∨ix.den.toNat=1∨ix.den.toNat=2∨ix.den.toNat=3∨ix.den.toNat=4:=by omega);(rcases hx with hx|hx|hx|hx|hx<;>simp only [hx]))))),rfl⟩
theorem leave3_is :leaveL two3 lb3=[1]:=by kernel_rfl
theorem leave3 :FSpec Tryz.prog 11 [(clrS two3),(lksS lb3)] [] (fun r _=>r=(.tup [(.sl 1 (.sym fun _=>zi ([1]).length) (fun ix=>[.int .i64 (.sym fun _=>([1]).getD ix.den.toNat 0)])),(.int .i64 (.lit (0)))])):=
  (leave45 two3 lb3).post fun r bs h=>⟨_,by subst h;rw [leave3_is];(repeat' (first|exact qA|exact qB|refine qC ?_ rfl ?_|refine qD ?_ ?_|exact qE (by rfl)|exact qG (by rfl)|exact qE (by kernel_rfl)|exact qG (by kernel_rfl)|exact Fit.refl _|(exact qP (by rfl))|(first|(refine fit_sl (by rfl) (fun ix h0 h1=> ?_);(have h2:ix.den<2:=h1);(have hx:ix.den.toNat=0∨ix.den.toNat=1:=by omega);(rcases hx with hx|hx<;>simp only [hx]))|(refine fit_sl (by rfl) (fun ix h0 h1=> ?_);(have h2:ix.den<3:=h1);(have hx:ix.den.toNat=0∨ix.den.toNat=1∨ix.den.toNat=2:=by omega);(rcases hx with hx|hx|hx<;>simp only [hx]))|(refine fit_sl (by rfl) (fun ix h0 h1=> ?_);(have h2:ix.den<4:=h1);(have hx:ix.den.toNat=0∨ix.den.toNat=1∨ix.den.toNat=2∨ix.den.toNat=3:=by omega);(rcases hx with hx|hx|hx|hx<;>simp only [hx]))|(refine fit_sl (by rfl) (fun ix h0 h1=> ?_);(have h2:ix.den<1:=h1);(have hx:ix.den.toNat=0:=by omega);(rcases hx with hx<;>simp only [hx]))|(refine fit_sl (by rfl) (fun ix h0 h1=> ?_);(have h2:ix.den<5:=h1);(have hx:ix.den.toNat=0∨ix.den.toNat=1∨ix.den.toNat=2∨ix.den.toNat=3∨ix.den.toNat=4:=by omega);(rcases hx with hx|hx|hx|hx|hx<;>simp only [hx]))))),rfl⟩
theorem ints3a :FSpec Tryz.prog 17 [(.sl 1 (.sym fun _=>zi ([80,74,69,65]).length) (fun ix=>[.int .i64 (.sym fun _=>([80,74,69,65]).getD ix.den.toNat 0)])),(.sl 1 (.sym fun _=>zi ([80,74,69,65]).length) (fun ix=>[.int .i64 (.sym fun _=>([80,74,69,65]).getD ix.den.toNat 0)]))] [] (fun r _=>r=(.bool (.lit true))):=
  (ints27 4 4 (fun n=>([80,74,69,65]).getD n 0) (fun n=>([80,74,69,65]).getD n 0) (by decide) (by decide)).post fun r bs h=>⟨_,by subst h;(repeat' (first|exact qA|exact qB|refine qC ?_ rfl ?_|refine qD ?_ ?_|exact qE (by rfl)|exact qG (by rfl)|exact qE (by kernel_rfl)|exact qG (by kernel_rfl)|exact Fit.refl _|(exact qP (by rfl))|(first|(refine fit_sl (by rfl) (fun ix h0 h1=> ?_);(have h2:ix.den<2:=h1);(have hx:ix.den.toNat=0∨ix.den.toNat=1:=by omega);(rcases hx with hx|hx<;>simp only [hx]))|(refine fit_sl (by rfl) (fun ix h0 h1=> ?_);(have h2:ix.den<3:=h1);(have hx:ix.den.toNat=0∨ix.den.toNat=1∨ix.den.toNat=2:=by omega);(rcases hx with hx|hx|hx<;>simp only [hx]))|(refine fit_sl (by rfl) (fun ix h0 h1=> ?_);(have h2:ix.den<4:=h1);(have hx:ix.den.toNat=0∨ix.den.toNat=1∨ix.den.toNat=2∨ix.den.toNat=3:=by omega);(rcases hx with hx|hx|hx|hx<;>simp only [hx]))|(refine fit_sl (by rfl) (fun ix h0 h1=> ?_);(have h2:ix.den<1:=h1);(have hx:ix.den.toNat=0:=by omega);(rcases hx with hx<;>simp only [hx]))|(refine fit_sl (by rfl) (fun ix h0 h1=> ?_);(have h2:ix.den<5:=h1);(have hx:ix.den.toNat=0∨ix.den.toNat=1∨ix.den.toNat=2∨ix.den.toNat=3∨ix.den.toNat=4:=by omega);(rcases hx with hx|hx|hx|hx|hx<;>simp only [hx]))))),rfl⟩
theorem ints3b :FSpec Tryz.prog 17 [(.sl 1 (.sym fun _=>zi ([40,45,48,49]).length) (fun ix=>[.int .i64 (.sym fun _=>([40,45,48,49]).getD ix.den.toNat 0)])),(.sl 1 (.sym fun _=>zi ([40,45,48,49]).length) (fun ix=>[.int .i64 (.sym fun _=>([40,45,48,49]).getD ix.den.toNat 0)]))] [] (fun r _=>r=(.bool (.lit true))):=
  (ints27 4 4 (fun n=>([40,45,48,49]).getD n 0) (fun n=>([40,45,48,49]).getD n 0) (by decide) (by decide)).post fun r bs h=>⟨_,by subst h;(repeat' (first|exact qA|exact qB|refine qC ?_ rfl ?_|refine qD ?_ ?_|exact qE (by rfl)|exact qG (by rfl)|exact qE (by kernel_rfl)|exact qG (by kernel_rfl)|exact Fit.refl _|(exact qP (by rfl))|(first|(refine fit_sl (by rfl) (fun ix h0 h1=> ?_);(have h2:ix.den<2:=h1);(have hx:ix.den.toNat=0∨ix.den.toNat=1:=by omega);(rcases hx with hx|hx<;>simp only [hx]))|(refine fit_sl (by rfl) (fun ix h0 h1=> ?_);(have h2:ix.den<3:=h1);(have hx:ix.den.toNat=0∨ix.den.toNat=1∨ix.den.toNat=2:=by omega);(rcases hx with hx|hx|hx<;>simp only [hx]))|(refine fit_sl (by rfl) (fun ix h0 h1=> ?_);(have h2:ix.den<4:=h1);(have hx:ix.den.toNat=0∨ix.den.toNat=1∨ix.den.toNat=2∨ix.den.toNat=3:=by omega);(rcases hx with hx|hx|hx|hx<;>simp only [hx]))|(refine fit_sl (by rfl) (fun ix h0 h1=> ?_);(have h2:ix.den<1:=h1);(have hx:ix.den.toNat=0:=by omega);(rcases hx with hx<;>simp only [hx]))|(refine fit_sl (by rfl) (fun ix h0 h1=> ?_);(have h2:ix.den<5:=h1);(have hx:ix.den.toNat=0∨ix.den.toNat=1∨ix.den.toNat=2∨ix.den.toNat=3∨ix.den.toNat=4:=by omega);(rcases hx with hx|hx|hx|hx|hx<;>simp only [hx]))))),rfl⟩
theorem ints3c :FSpec Tryz.prog 17 [(.sl 1 (.sym fun _=>zi ([1]).length) (fun ix=>[.int .i64 (.sym fun _=>([1]).getD ix.den.toNat 0)])),(.sl 1 (.sym fun _=>zi ([1]).length) (fun ix=>[.int .i64 (.sym fun _=>([1]).getD ix.den.toNat 0)]))] [] (fun r _=>r=(.bool (.lit true))):=
  (ints27 1 1 (fun n=>([1]).getD n 0) (fun n=>([1]).getD n 0) (by decide) (by decide)).post fun r bs h=>⟨_,by subst h;(repeat' (first|exact qA|exact qB|refine qC ?_ rfl ?_|refine qD ?_ ?_|exact qE (by rfl)|exact qG (by rfl)|exact qE (by kernel_rfl)|exact qG (by kernel_rfl)|exact Fit.refl _|(exact qP (by rfl))|(first|(refine fit_sl (by rfl) (fun ix h0 h1=> ?_);(have h2:ix.den<2:=h1);(have hx:ix.den.toNat=0∨ix.den.toNat=1:=by omega);(rcases hx with hx|hx<;>simp only [hx]))|(refine fit_sl (by rfl) (fun ix h0 h1=> ?_);(have h2:ix.den<3:=h1);(have hx:ix.den.toNat=0∨ix.den.toNat=1∨ix.den.toNat=2:=by omega);(rcases hx with hx|hx|hx<;>simp only [hx]))|(refine fit_sl (by rfl) (fun ix h0 h1=> ?_);(have h2:ix.den<4:=h1);(have hx:ix.den.toNat=0∨ix.den.toNat=1∨ix.den.toNat=2∨ix.den.toNat=3:=by omega);(rcases hx with hx|hx|hx|hx<;>simp only [hx]))|(refine fit_sl (by rfl) (fun ix h0 h1=> ?_);(have h2:ix.den<1:=h1);(have hx:ix.den.toNat=0:=by omega);(rcases hx with hx<;>simp only [hx]))|(refine fit_sl (by rfl) (fun ix h0 h1=> ?_);(have h2:ix.den<5:=h1);(have hx:ix.den.toNat=0∨ix.den.toNat=1∨ix.den.toNat=2∨ix.den.toNat=3∨ix.den.toNat=4:=by omega);(rcases hx with hx|hx|hx|hx|hx<;>simp only [hx]))))),rfl⟩
theorem spans3a :FSpec Tryz.prog 29 [(.sl 2 (.sym fun _=>zi ((B3.getD 0 [])).length) (fun ix=>[(.int .i64 (.sym fun _=>(((B3.getD 0 [])).getD ix.den.toNat (0,0)).1)),(.int .i64 (.sym fun _=>(((B3.getD 0 [])).getD ix.den.toNat (0,0)).2))])),(.sl 2 (.sym fun _=>zi ((B3.getD 0 [])).length) (fun ix=>[(.int .i64 (.sym fun _=>(((B3.getD 0 [])).getD ix.den.toNat (0,0)).1)),(.int .i64 (.sym fun _=>(((B3.getD 0 [])).getD ix.den.toNat (0,0)).2))]))] [] (fun r _=>r=(.bool (.lit true))):=
  (spans53 ((B3.getD 0 [])).length ((B3.getD 0 [])).length (fun n=>(((B3.getD 0 [])).getD n (0,0)).1) (fun n=>(((B3.getD 0 [])).getD n (0,0)).2) (fun n=>(((B3.getD 0 [])).getD n (0,0)).1) (fun n=>(((B3.getD 0 [])).getD n (0,0)).2) (by decide) (by decide)).post fun r bs h=>⟨_,by subst h;(repeat' (first|exact qA|exact qB|refine qC ?_ rfl ?_|refine qD ?_ ?_|exact qE (by rfl)|exact qG (by rfl)|exact qE (by kernel_rfl)|exact qG (by kernel_rfl)|exact Fit.refl _|(exact qP (by rfl))|(first|(refine fit_sl (by rfl) (fun ix h0 h1=> ?_);(have h2:ix.den<2:=h1);(have hx:ix.den.toNat=0∨ix.den.toNat=1:=by omega);(rcases hx with hx|hx<;>simp only [hx]))|(refine fit_sl (by rfl) (fun ix h0 h1=> ?_);(have h2:ix.den<3:=h1);(have hx:ix.den.toNat=0∨ix.den.toNat=1∨ix.den.toNat=2:=by omega);(rcases hx with hx|hx|hx<;>simp only [hx]))|(refine fit_sl (by rfl) (fun ix h0 h1=> ?_);(have h2:ix.den<4:=h1);(have hx:ix.den.toNat=0∨ix.den.toNat=1∨ix.den.toNat=2∨ix.den.toNat=3:=by omega);(rcases hx with hx|hx|hx|hx<;>simp only [hx]))|(refine fit_sl (by rfl) (fun ix h0 h1=> ?_);(have h2:ix.den<1:=h1);(have hx:ix.den.toNat=0:=by omega);(rcases hx with hx<;>simp only [hx]))|(refine fit_sl (by rfl) (fun ix h0 h1=> ?_);(have h2:ix.den<5:=h1);(have hx:ix.den.toNat=0∨ix.den.toNat=1∨ix.den.toNat=2∨ix.den.toNat=3∨ix.den.toNat=4:=by omega);(rcases hx with hx|hx|hx|hx|hx<;>simp only [hx]))))),rfl⟩
theorem spans3b :FSpec Tryz.prog 29 [(.sl 2 (.sym fun _=>zi ((B4.getD 0 [])).length) (fun ix=>[(.int .i64 (.sym fun _=>(((B4.getD 0 [])).getD ix.den.toNat (0,0)).1)),(.int .i64 (.sym fun _=>(((B4.getD 0 [])).getD ix.den.toNat (0,0)).2))])),(.sl 2 (.sym fun _=>zi ((B4.getD 0 [])).length) (fun ix=>[(.int .i64 (.sym fun _=>(((B4.getD 0 [])).getD ix.den.toNat (0,0)).1)),(.int .i64 (.sym fun _=>(((B4.getD 0 [])).getD ix.den.toNat (0,0)).2))]))] [] (fun r _=>r=(.bool (.lit true))):=
  (spans53 ((B4.getD 0 [])).length ((B4.getD 0 [])).length (fun n=>(((B4.getD 0 [])).getD n (0,0)).1) (fun n=>(((B4.getD 0 [])).getD n (0,0)).2) (fun n=>(((B4.getD 0 [])).getD n (0,0)).1) (fun n=>(((B4.getD 0 [])).getD n (0,0)).2) (by decide) (by decide)).post fun r bs h=>⟨_,by subst h;(repeat' (first|exact qA|exact qB|refine qC ?_ rfl ?_|refine qD ?_ ?_|exact qE (by rfl)|exact qG (by rfl)|exact qE (by kernel_rfl)|exact qG (by kernel_rfl)|exact Fit.refl _|(exact qP (by rfl))|(first|(refine fit_sl (by rfl) (fun ix h0 h1=> ?_);(have h2:ix.den<2:=h1);(have hx:ix.den.toNat=0∨ix.den.toNat=1:=by omega);(rcases hx with hx|hx<;>simp only [hx]))|(refine fit_sl (by rfl) (fun ix h0 h1=> ?_);(have h2:ix.den<3:=h1);(have hx:ix.den.toNat=0∨ix.den.toNat=1∨ix.den.toNat=2:=by omega);(rcases hx with hx|hx|hx<;>simp only [hx]))|(refine fit_sl (by rfl) (fun ix h0 h1=> ?_);(have h2:ix.den<4:=h1);(have hx:ix.den.toNat=0∨ix.den.toNat=1∨ix.den.toNat=2∨ix.den.toNat=3:=by omega);(rcases hx with hx|hx|hx|hx<;>simp only [hx]))|(refine fit_sl (by rfl) (fun ix h0 h1=> ?_);(have h2:ix.den<1:=h1);(have hx:ix.den.toNat=0:=by omega);(rcases hx with hx<;>simp only [hx]))|(refine fit_sl (by rfl) (fun ix h0 h1=> ?_);(have h2:ix.den<5:=h1);(have hx:ix.den.toNat=0∨ix.den.toNat=1∨ix.den.toNat=2∨ix.den.toNat=3∨ix.den.toNat=4:=by omega);(rcases hx with hx|hx|hx|hx|hx<;>simp only [hx]))))),rfl⟩
end Go.Proofs.YteelocfbbhchcaaGreat

namespace Go.Proofs.YteelocfbbhchcaaGreat
open Go Go.Eng Go.Proofs
set_option maxRecDepth 10000
set_option maxHeartbeats 1000000 in
theorem awake15 :FSpec Tryz.prog 7 [] [] (fun r _=>r=(.bool (.lit true))):=by
  have ktwo50:=two50
  have kplay3:=play3
  have kmean3:=mean3
  have kbounds3:=bounds3
  have kbounds4:=bounds4
  have kcool3:=cool3
  have kmix3:=mix3
  have kleave3:=leave3
  have kints3a:=ints3a
  have kints3b:=ints3b
  have kints3c:=ints3c
  have kspans3a:=spans3a
  have kspans3b:=spans3b
  have c52:= @between52
  have h33:=eqOk33
  refine FSpec.is fun R hR=>qX (sc:=sc7) tyok mix Tryz.func7 rfl Tryz.call7 (by kernel_rfl) (by kernel_rfl) ?_
  generalize Tryz.prog=P at ktwo50 kplay3 kmean3 kbounds3 kbounds4 kcool3 kmix3 kleave3 kints3a kints3b kints3c kspans3a kspans3b c52 h33⊢
  cbv
  repeat' (first
      |with_reducible refine hold ?_ ?_
      |with_reducible refine And.intro ?_ ?_
      |(with_reducible intro hcd;(try simp only [zA,zB,zC,zD,zE,zF,zG,zH,zI,zJ,zK,zL,zM,zN,zO,zP]at hcd);try cbv)
      | (refine qQ ?_ (c52 _ _) (by(repeat' (first|exact qB|refine qD ?_ ?_|exact qE (by rfl)|exact qG (by rfl)|exact Fit.refl _|exact qA|refine qC ?_ rfl ?_)))
         try cbv)
      | (refine Exists.intro (α:=List Nat) [2,3] ?_
         cbv
         fail_if_success (show False))
      | (refine Exists.intro (α:=List Nat) [28] ?_
         cbv
         fail_if_success (show False))
      | (refine Exists.intro (α:=List Nat) [59] ?_
         cbv
         fail_if_success (show False))
      | (refine qQ ?_ (ktwo50) ?hfit
         case hfit=>((repeat' (first|exact qA|exact qB|refine qC ?_ rfl ?_|refine qD ?_ ?_|exact qE (by rfl)|exact qG (by rfl)|exact Fit.refl _|(exact qP (by rfl))|(first|(refine fit_sl (by rfl) (fun ix h0 h1=> ?_);(have h2:ix.den<2:=h1);(have hx:ix.den.toNat=0∨ix.den.toNat=1:=by omega);(rcases hx with hx|hx<;>simp only [hx]))|(refine fit_sl (by rfl) (fun ix h0 h1=> ?_);(have h2:ix.den<3:=h1);(have hx:ix.den.toNat=0∨ix.den.toNat=1∨ix.den.toNat=2:=by omega);(rcases hx with hx|hx|hx<;>simp only [hx]))|(refine fit_sl (by rfl) (fun ix h0 h1=> ?_);(have h2:ix.den<4:=h1);(have hx:ix.den.toNat=0∨ix.den.toNat=1∨ix.den.toNat=2∨ix.den.toNat=3:=by omega);(rcases hx with hx|hx|hx|hx<;>simp only [hx]))|(refine fit_sl (by rfl) (fun ix h0 h1=> ?_);(have h2:ix.den<1:=h1);(have hx:ix.den.toNat=0:=by omega);(rcases hx with hx<;>simp only [hx]))|(refine fit_sl (by rfl) (fun ix h0 h1=> ?_);(have h2:ix.den<5:=h1);(have hx:ix.den.toNat=0∨ix.den.toNat=1∨ix.den.toNat=2∨ix.den.toNat=3∨ix.den.toNat=4:=by omega);(rcases hx with hx|hx|hx|hx|hx<;>simp only [hx])))));done)
         try cbv)
      | (refine qQ ?_ (kplay3) ?hfit
         case hfit=>((repeat' (first|exact qA|exact qB|refine qC ?_ rfl ?_|refine qD ?_ ?_|exact qE (by rfl)|exact qG (by rfl)|exact Fit.refl _|(exact qP (by rfl))|(first|(refine fit_sl (by rfl) (fun ix h0 h1=> ?_);(have h2:ix.den<2:=h1);(have hx:ix.den.toNat=0∨ix.den.toNat=1:=by omega);(rcases hx with hx|hx<;>simp only [hx]))|(refine fit_sl (by rfl) (fun ix h0 h1=> ?_);(have h2:ix.den<3:=h1);(have hx:ix.den.toNat=0∨ix.den.toNat=1∨ix.den.toNat=2:=by omega);(rcases hx with hx|hx|hx<;>simp only [hx]))|(refine fit_sl (by rfl) (fun ix h0 h1=> ?_);(have h2:ix.den<4:=h1);(have hx:ix.den.toNat=0∨ix.den.toNat=1∨ix.den.toNat=2∨ix.den.toNat=3:=by omega);(rcases hx with hx|hx|hx|hx<;>simp only [hx]))|(refine fit_sl (by rfl) (fun ix h0 h1=> ?_);(have h2:ix.den<1:=h1);(have hx:ix.den.toNat=0:=by omega);(rcases hx with hx<;>simp only [hx]))|(refine fit_sl (by rfl) (fun ix h0 h1=> ?_);(have h2:ix.den<5:=h1);(have hx:ix.den.toNat=0∨ix.den.toNat=1∨ix.den.toNat=2∨ix.den.toNat=3∨ix.den.toNat=4:=by omega);(rcases hx with hx|hx|hx|hx|hx<;>simp only [hx])))));done)
         try cbv)
      | (refine qQ ?_ (kmean3) ?hfit
         case hfit=>((repeat' (first|exact qA|exact qB|refine qC ?_ rfl ?_|refine qD ?_ ?_|exact qE (by rfl)|exact qG (by rfl)|exact Fit.refl _|(exact qP (by rfl))|(first|(refine fit_sl (by rfl) (fun ix h0 h1=> ?_);(have h2:ix.den<2:=h1);(have hx:ix.den.toNat=0∨ix.den.toNat=1:=by omega);(rcases hx with hx|hx<;>simp only [hx]))|(refine fit_sl (by rfl) (fun ix h0 h1=> ?_);(have h2:ix.den<3:=h1);(have hx:ix.den.toNat=0∨ix.den.toNat=1∨ix.den.toNat=2:=by omega);(rcases hx with hx|hx|hx<;>simp only [hx]))|(refine fit_sl (by rfl) (fun ix h0 h1=> ?_);(have h2:ix.den<4:=h1);(have hx:ix.den.toNat=0∨ix.den.toNat=1∨ix.den.toNat=2∨ix.den.toNat=3:=by omega);(rcases hx with hx|hx|hx|hx<;>simp only [hx]))|(refine fit_sl (by rfl) (fun ix h0 h1=> ?_);(have h2:ix.den<1:=h1);(have hx:ix.den.toNat=0:=by omega);(rcases hx with hx<;>simp only [hx]))|(refine fit_sl (by rfl) (fun ix h0 h1=> ?_);(have h2:ix.den<5:=h1);(have hx:ix.den.toNat=0∨ix.den.toNat=1∨ix.den.toNat=2∨ix.den.toNat=3∨ix.den.toNat=4:=by omega);(rcases hx with hx|hx|hx|hx|hx<;>simp only [hx])))));done)
         try cbv)
      | (refine qQ ?_ (kbounds3) ?hfit
         case hfit=>((repeat' (first|exact qA|exact qB|refine qC ?_ rfl ?_|refine qD ?_ ?_|exact qE (by rfl)|exact qG (by rfl)|exact Fit.refl _|(exact qP (by rfl))|(first|(refine fit_sl (by rfl) (fun ix h0 h1=> ?_);(have h2:ix.den<2:=h1);(have hx:ix.den.toNat=0∨ix.den.toNat=1:=by omega);(rcases hx with hx|hx<;>simp only [hx]))|(refine fit_sl (by rfl) (fun ix h0 h1=> ?_);(have h2:ix.den<3:=h1);(have hx:ix.den.toNat=0∨ix.den.toNat=1∨ix.den.toNat=2:=by omega);(rcases hx with hx|hx|hx<;>simp only [hx]))|(refine fit_sl (by rfl) (fun ix h0 h1=> ?_);(have h2:ix.den<4:=h1);(have hx:ix.den.toNat=0∨ix.den.toNat=1∨ix.den.toNat=2∨ix.den.toNat=3:=by omega);(rcases hx with hx|hx|hx|hx<;>simp only [hx]))|(refine fit_sl (by rfl) (fun ix h0 h1=> ?_);(have h2:ix.den<1:=h1);(have hx:ix.den.toNat=0:=by omega);(rcases hx with hx<;>simp only [hx]))|(refine fit_sl (by rfl) (fun ix h0 h1=> ?_);(have h2:ix.den<5:=h1);(have hx:ix.den.toNat=0∨ix.den.toNat=1∨ix.den.toNat=2∨ix.den.toNat=3∨ix.den.toNat=4:=by omega);(rcases hx with hx|hx|hx|hx|hx<;>simp only [hx])))));done)
         try cbv)
      | (refine qQ ?_ (kbounds4) ?hfit
         case hfit=>((repeat' (first|exact qA|exact qB|refine qC ?_ rfl ?_|refine qD ?_ ?_|exact qE (by rfl)|exact qG (by rfl)|exact Fit.refl _|(exact qP (by rfl))|(first|(refine fit_sl (by rfl) (fun ix h0 h1=> ?_);(have h2:ix.den<2:=h1);(have hx:ix.den.toNat=0∨ix.den.toNat=1:=by omega);(rcases hx with hx|hx<;>simp only [hx]))|(refine fit_sl (by rfl) (fun ix h0 h1=> ?_);(have h2:ix.den<3:=h1);(have hx:ix.den.toNat=0∨ix.den.toNat=1∨ix.den.toNat=2:=by omega);(rcases hx with hx|hx|hx<;>simp only [hx]))|(refine fit_sl (by rfl) (fun ix h0 h1=> ?_);(have h2:ix.den<4:=h1);(have hx:ix.den.toNat=0∨ix.den.toNat=1∨ix.den.toNat=2∨ix.den.toNat=3:=by omega);(rcases hx with hx|hx|hx|hx<;>simp only [hx]))|(refine fit_sl (by rfl) (fun ix h0 h1=> ?_);(have h2:ix.den<1:=h1);(have hx:ix.den.toNat=0:=by omega);(rcases hx with hx<;>simp only [hx]))|(refine fit_sl (by rfl) (fun ix h0 h1=> ?_);(have h2:ix.den<5:=h1);(have hx:ix.den.toNat=0∨ix.den.toNat=1∨ix.den.toNat=2∨ix.den.toNat=3∨ix.den.toNat=4:=by omega);(rcases hx with hx|hx|hx|hx|hx<;>simp only [hx])))));done)
         try cbv)
      | (refine qQ ?_ (kcool3) ?hfit
         case hfit=>((repeat' (first|exact qA|exact qB|refine qC ?_ rfl ?_|refine qD ?_ ?_|exact qE (by rfl)|exact qG (by rfl)|exact Fit.refl _|(exact qP (by rfl))|(first|(refine fit_sl (by rfl) (fun ix h0 h1=> ?_);(have h2:ix.den<2:=h1);(have hx:ix.den.toNat=0∨ix.den.toNat=1:=by omega);(rcases hx with hx|hx<;>simp only [hx]))|(refine fit_sl (by rfl) (fun ix h0 h1=> ?_);(have h2:ix.den<3:=h1);(have hx:ix.den.toNat=0∨ix.den.toNat=1∨ix.den.toNat=2:=by omega);(rcases hx with hx|hx|hx<;>simp only [hx]))|(refine fit_sl (by rfl) (fun ix h0 h1=> ?_);(have h2:ix.den<4:=h1);(have hx:ix.den.toNat=0∨ix.den.toNat=1∨ix.den.toNat=2∨ix.den.toNat=3:=by omega);(rcases hx with hx|hx|hx|hx<;>simp only [hx]))|(refine fit_sl (by rfl) (fun ix h0 h1=> ?_);(have h2:ix.den<1:=h1);(have hx:ix.den.toNat=0:=by omega);(rcases hx with hx<;>simp only [hx]))|(refine fit_sl (by rfl) (fun ix h0 h1=> ?_);(have h2:ix.den<5:=h1);(have hx:ix.den.toNat=0∨ix.den.toNat=1∨ix.den.toNat=2∨ix.den.toNat=3∨ix.den.toNat=4:=by omega);(rcases hx with hx|hx|hx|hx|hx<;>simp only [hx])))));done)
         try cbv)
      | (refine qQ ?_ (kleave3) ?hfit
         case hfit=>((repeat' (first|exact qA|exact qB|refine qC ?_ rfl ?_|refine qD ?_ ?_|exact qE (by rfl)|exact qG (by rfl)|exact Fit.refl _|(exact qP (by rfl))|(first|(refine fit_sl (by rfl) (fun ix h0 h1=> ?_);(have h2:ix.den<2:=h1);(have hx:ix.den.toNat=0∨ix.den.toNat=1:=by omega);(rcases hx with hx|hx<;>simp only [hx]))|(refine fit_sl (by rfl) (fun ix h0 h1=> ?_);(have h2:ix.den<3:=h1);(have hx:ix.den.toNat=0∨ix.den.toNat=1∨ix.den.toNat=2:=by omega);(rcases hx with hx|hx|hx<;>simp only [hx]))|(refine fit_sl (by rfl) (fun ix h0 h1=> ?_);(have h2:ix.den<4:=h1);(have hx:ix.den.toNat=0∨ix.den.toNat=1∨ix.den.toNat=2∨ix.den.toNat=3:=by omega);(rcases hx with hx|hx|hx|hx<;>simp only [hx]))|(refine fit_sl (by rfl) (fun ix h0 h1=> ?_);(have h2:ix.den<1:=h1);(have hx:ix.den.toNat=0:=by omega);(rcases hx with hx<;>simp only [hx]))|(refine fit_sl (by rfl) (fun ix h0 h1=> ?_);(have h2:ix.den<5:=h1);(have hx:ix.den.toNat=0∨ix.den.toNat=1∨ix.den.toNat=2∨ix.den.toNat=3∨ix.den.toNat=4:=by omega);(rcases hx with hx|hx|hx|hx|hx<;>simp only [hx])))));done)
         try cbv)
      | (refine qQ ?_ (kints3a) ?hfit
         case hfit=>((repeat' (first|exact qA|exact qB|refine qC ?_ rfl ?_|refine qD ?_ ?_|exact qE (by rfl)|exact qG (by rfl)|exact Fit.refl _|(exact qP (by rfl))|(first|(refine fit_sl (by rfl) (fun ix h0 h1=> ?_);(have h2:ix.den<2:=h1);(have hx:ix.den.toNat=0∨ix.den.toNat=1:=by omega);(rcases hx with hx|hx<;>simp only [hx]))|(refine fit_sl (by rfl) (fun ix h0 h1=> ?_);(have h2:ix.den<3:=h1);(have hx:ix.den.toNat=0∨ix.den.toNat=1∨ix.den.toNat=2:=by omega);(rcases hx with hx|hx|hx<;>simp only [hx]))|(refine fit_sl (by rfl) (fun ix h0 h1=> ?_);(have h2:ix.den<4:=h1);(have hx:ix.den.toNat=0∨ix.den.toNat=1∨ix.den.toNat=2∨ix.den.toNat=3:=by omega);(rcases hx with hx|hx|hx|hx<;>simp only [hx]))|(refine fit_sl (by rfl) (fun ix h0 h1=> ?_);(have h2:ix.den<1:=h1);(have hx:ix.den.toNat=0:=by omega);(rcases hx with hx<;>simp only [hx]))|(refine fit_sl (by rfl) (fun ix h0 h1=> ?_);(have h2:ix.den<5:=h1);(have hx:ix.den.toNat=0∨ix.den.toNat=1∨ix.den.toNat=2∨ix.den.toNat=3∨ix.den.toNat=4:=by omega);(rcases hx with hx|hx|hx|hx|hx<;>simp only [hx])))));done)
         try cbv)
      | (refine qQ ?_ (kints3b) ?hfit
         case hfit=>((repeat' (first|exact qA|exact qB|refine qC ?_ rfl ?_|refine qD ?_ ?_|exact qE (by rfl)|exact qG (by rfl)|exact Fit.refl _|(exact qP (by rfl))|(first|(refine fit_sl (by rfl) (fun ix h0 h1=> ?_);(have h2:ix.den<2:=h1);(have hx:ix.den.toNat=0∨ix.den.toNat=1:=by omega);(rcases hx with hx|hx<;>simp only [hx]))|(refine fit_sl (by rfl) (fun ix h0 h1=> ?_);(have h2:ix.den<3:=h1);(have hx:ix.den.toNat=0∨ix.den.toNat=1∨ix.den.toNat=2:=by omega);(rcases hx with hx|hx|hx<;>simp only [hx]))|(refine fit_sl (by rfl) (fun ix h0 h1=> ?_);(have h2:ix.den<4:=h1);(have hx:ix.den.toNat=0∨ix.den.toNat=1∨ix.den.toNat=2∨ix.den.toNat=3:=by omega);(rcases hx with hx|hx|hx|hx<;>simp only [hx]))|(refine fit_sl (by rfl) (fun ix h0 h1=> ?_);(have h2:ix.den<1:=h1);(have hx:ix.den.toNat=0:=by omega);(rcases hx with hx<;>simp only [hx]))|(refine fit_sl (by rfl) (fun ix h0 h1=> ?_);(have h2:ix.den<5:=h1);(have hx:ix.den.toNat=0∨ix.den.toNat=1∨ix.den.toNat=2∨ix.den.toNat=3∨ix.den.toNat=4:=by omega);(rcases hx with hx|hx|hx|hx|hx<;>simp only [hx])))));done)
         try cbv)
      | (refine qQ ?_ (kspans3a) ?hfit
         case hfit=>((repeat' (first|exact qA|exact qB|refine qC ?_ rfl ?_|refine qD ?_ ?_|exact qE (by rfl)|exact qG (by rfl)|exact Fit.refl _|(exact qP (by rfl))|(first|(refine fit_sl (by rfl) (fun ix h0 h1=> ?_);(have h2:ix.den<2:=h1);(have hx:ix.den.toNat=0∨ix.den.toNat=1:=by omega);(rcases hx with hx|hx<;>simp only [hx]))|(refine fit_sl (by rfl) (fun ix h0 h1=> ?_);(have h2:ix.den<3:=h1);(have hx:ix.den.toNat=0∨ix.den.toNat=1∨ix.den.toNat=2:=by omega);(rcases hx with hx|hx|hx<;>simp only [hx]))|(refine fit_sl (by rfl) (fun ix h0 h1=> ?_);(have h2:ix.den<4:=h1);(have hx:ix.den.toNat=0∨ix.den.toNat=1∨ix.den.toNat=2∨ix.den.toNat=3:=by omega);(rcases hx with hx|hx|hx|hx<;>simp only [hx]))|(refine fit_sl (by rfl) (fun ix h0 h1=> ?_);(have h2:ix.den<1:=h1);(have hx:ix.den.toNat=0:=by omega);(rcases hx with hx<;>simp only [hx]))|(refine fit_sl (by rfl) (fun ix h0 h1=> ?_);(have h2:ix.den<5:=h1);(have hx:ix.den.toNat=0∨ix.den.toNat=1∨ix.den.toNat=2∨ix.den.toNat=3∨ix.den.toNat=4:=by omega);(rcases hx with hx|hx|hx|hx|hx<;>simp only [hx])))));done)
         try cbv)
      | (refine qQ ?_ (kspans3b) ?hfit
         case hfit=>((repeat' (first|exact qA|exact qB|refine qC ?_ rfl ?_|refine qD ?_ ?_|exact qE (by rfl)|exact qG (by rfl)|exact Fit.refl _|(exact qP (by rfl))|(first|(refine fit_sl (by rfl) (fun ix h0 h1=> ?_);(have h2:ix.den<2:=h1);(have hx:ix.den.toNat=0∨ix.den.toNat=1:=by omega);(rcases hx with hx|hx<;>simp only [hx]))|(refine fit_sl (by rfl) (fun ix h0 h1=> ?_);(have h2:ix.den<3:=h1);(have hx:ix.den.toNat=0∨ix.den.toNat=1∨ix.den.toNat=2:=by omega);(rcases hx with hx|hx|hx<;>simp only [hx]))|(refine fit_sl (by rfl) (fun ix h0 h1=> ?_);(have h2:ix.den<4:=h1);(have hx:ix.den.toNat=0∨ix.den.toNat=1∨ix.den.toNat=2∨ix.den.toNat=3:=by omega);(rcases hx with hx|hx|hx|hx<;>simp only [hx]))|(refine fit_sl (by rfl) (fun ix h0 h1=> ?_);(have h2:ix.den<1:=h1);(have hx:ix.den.toNat=0:=by omega);(rcases hx with hx<;>simp only [hx]))|(refine fit_sl (by rfl) (fun ix h0 h1=> ?_);(have h2:ix.den<5:=h1);(have hx:ix.den.toNat=0∨ix.den.toNat=1∨ix.den.toNat=2∨ix.den.toNat=3∨ix.den.toNat=4:=by omega);(rcases hx with hx|hx|hx|hx|hx<;>simp only [hx])))));done)
         try cbv)
      | (refine⟨none,?_⟩
         refine qS ?_ (kmix3) rfl ?hfit
         case hfit=>(cbv;(repeat' (first|exact qA|exact qB|refine qC ?_ rfl ?_|refine qD ?_ ?_|exact qE (by rfl)|exact qG (by rfl)|exact Fit.refl _|(exact qP (by rfl))|(first|(refine fit_sl (by rfl) (fun ix h0 h1=> ?_);(have h2:ix.den<2:=h1);(have hx:ix.den.toNat=0∨ix.den.toNat=1:=by omega);(rcases hx with hx|hx<;>simp only [hx]))|(refine fit_sl (by rfl) (fun ix h0 h1=> ?_);(have h2:ix.den<3:=h1);(have hx:ix.den.toNat=0∨ix.den.toNat=1∨ix.den.toNat=2:=by omega);(rcases hx with hx|hx|hx<;>simp only [hx]))|(refine fit_sl (by rfl) (fun ix h0 h1=> ?_);(have h2:ix.den<4:=h1);(have hx:ix.den.toNat=0∨ix.den.toNat=1∨ix.den.toNat=2∨ix.den.toNat=3:=by omega);(rcases hx with hx|hx|hx|hx<;>simp only [hx]))|(refine fit_sl (by rfl) (fun ix h0 h1=> ?_);(have h2:ix.den<1:=h1);(have hx:ix.den.toNat=0:=by omega);(rcases hx with hx<;>simp only [hx]))|(refine fit_sl (by rfl) (fun ix h0 h1=> ?_);(have h2:ix.den<5:=h1);(have hx:ix.den.toNat=0∨ix.den.toNat=1∨ix.den.toNat=2∨ix.den.toNat=3∨ix.den.toNat=4:=by omega);(rcases hx with hx|hx|hx|hx|hx<;>simp only [hx])))));done)
         try cbv)
      | (refine⟨none,?_⟩
         refine qS ?_ (kints3c) rfl ?hfit
         case hfit=>(cbv;(repeat' (first|exact qA|exact qB|refine qC ?_ rfl ?_|refine qD ?_ ?_|exact qE (by rfl)|exact qG (by rfl)|exact Fit.refl _|(exact qP (by rfl))|(first|(refine fit_sl (by rfl) (fun ix h0 h1=> ?_);(have h2:ix.den<2:=h1);(have hx:ix.den.toNat=0∨ix.den.toNat=1:=by omega);(rcases hx with hx|hx<;>simp only [hx]))|(refine fit_sl (by rfl) (fun ix h0 h1=> ?_);(have h2:ix.den<3:=h1);(have hx:ix.den.toNat=0∨ix.den.toNat=1∨ix.den.toNat=2:=by omega);(rcases hx with hx|hx|hx<;>simp only [hx]))|(refine fit_sl (by rfl) (fun ix h0 h1=> ?_);(have h2:ix.den<4:=h1);(have hx:ix.den.toNat=0∨ix.den.toNat=1∨ix.den.toNat=2∨ix.den.toNat=3:=by omega);(rcases hx with hx|hx|hx|hx<;>simp only [hx]))|(refine fit_sl (by rfl) (fun ix h0 h1=> ?_);(have h2:ix.den<1:=h1);(have hx:ix.den.toNat=0:=by omega);(rcases hx with hx<;>simp only [hx]))|(refine fit_sl (by rfl) (fun ix h0 h1=> ?_);(have h2:ix.den<5:=h1);(have hx:ix.den.toNat=0∨ix.den.toNat=1∨ix.den.toNat=2∨ix.den.toNat=3∨ix.den.toNat=4:=by omega);(rcases hx with hx|hx|hx|hx|hx<;>simp only [hx])))));done)
         try cbv)
      |fail)
  all_goals first
    |trivial
    |(subst hR;(repeat' (first|exact qA|exact qB|refine qC ?_ rfl ?_|refine qD ?_ ?_|exact qE (by rfl)|exact qG (by rfl)|exact Fit.refl _|exact qH _|(refine qE ?_;(try simp only [qW]at *);simp only [zQ,zA,zB,zC,zD,zE,zF,zG,zH,zI,zJ,zK,zL,zM,zN,zO,zP,zR,zS]at *;omega)));done)
    |skip
end Go.Proofs.YteelocfbbhchcaaGreat

namespace Go.Proofs.YteelocfbbhchcaaGreat
open Go Go.Eng Go.Proofs
set_option maxRecDepth 10000
structure FitV (c:Clr)(l:List LookT)(o:List Int)(rm v st rt:Int):Prop where
  s0:(vatA c v).sl≤st
  s1:st≤(vatA c v).sh
  r0:(vatA c v).rl≤rt
  r1:rt≤(vatA c v).rh
  fit:fitW c l v rm o st rt=true
theorem vatA_ok {c:Clr}(hc:COk c) {v:Int}(h0:0≤v)(h1:v<c.vs.length):vatOk (vatA c v):=hc.ok.v v.toNat (by omega)
theorem vatA_nat (c:Clr)(v:Nat):vatA c (v:Int)=c.vs.getD v v0:=by unfold vatA;rw [Int.toNat_natCast]
theorem ways_fit {c:Clr} {l:List LookT} {o:List Int} {rm v:Int}(hv:vatOk (vatA c v)) {w:Int×Int}(h:w∈waysC c l v rm o):FitV c l o rm v w.1 w.2:=by
  have hv':=hv
  unfold vatOk at hv
  have:=mem_ways (by omega) h
  exact⟨this.2.1,this.2.2.1,this.2.2.2.1,by omega,this.1⟩
theorem fit_ways {c:Clr} {l:List LookT} {o:List Int} {rm v st rt:Int}(h:FitV c l o rm v st rt):0<(waysC c l v rm o).length:=some_fit h.fit h.s0 h.s1 h.r0 h.r1
theorem room_iff {c:Clr}(hc:COk c) {l:List LookT} {o:List Int} {rm:Int}:roomB c l o rm=true↔∀v:Nat,v<c.vs.length→∃st rt,FitV c l o rm v st rt:=by
  unfold roomB
  rw [allB_t]
  constructor
  · intro h v hv
    obtain⟨w,hw⟩:=some_mem (show 0<(waysC c l (v:Int) rm o).length from of_decide_eq_true (h v hv))
    exact⟨w.1,w.2,ways_fit (vatA_ok hc (by omega) (by omega)) hw⟩
  · intro h v hv
    obtain⟨st,rt,hf⟩:=h v hv
    exact decide_eq_true (fit_ways hf)
end Go.Proofs.YteelocfbbhchcaaGreat

namespace Go.Proofs.YteelocfbbhchcaaGreat
open Go Go.Eng Go.Proofs
set_option maxRecDepth 10000
set_option maxHeartbeats 1000000 in
theorem show51y (c:Clr)(l:List LookT)(h:askE c l=0):FSpec Tryz.prog 8 [(clrS c),(lksS l)] [] (fun r _=>r=(.tup [(.agg [(.int .i64 (.sym fun _=>shM c l)),(.sl 1 (.sym fun _=>zi (shS c l).length) (fun ix=>[.int .i64 (.sym fun _=>(shS c l).getD ix.den.toNat 0)])),(.sl 1 (.sym fun _=>zi (shR c l).length) (fun ix=>[.int .i64 (.sym fun _=>(shR c l).getD ix.den.toNat 0)]))]),(.int .i64 (.sym fun _=>askE c l))])):=by
  have c71:=asked71 c l h
  have c92:=fun (i:Nat) (rm:Int) (hr:RoomIn c l rm) (hi:i<c.vs.length)=>(show FSpec Tryz.prog 31 [(wpS c l),(.int .i64 (.sym fun _=>rm)),(.int .i64 (.sym fun _=>zi i)),(.sl 1 (.sym fun _=>zi (([]:List Int)).length) (fun ix=>[.int .i64 (.sym fun _=>(([]:List Int)).getD ix.den.toNat 0)]))] [] (fun r _=>r=(.tup [(.agg [(.int .i64 (.sym fun _=>smM c l (zi i) rm [])),(.int .i64 (.sym fun _=>smS c l (zi i) rm [])),(.int .i64 (.sym fun _=>smR c l (zi i) rm []))]),(.bool (.sym fun _=>someB c l (zi i) rm []))]))from some92 c l rm (zi i) [] (lookedF_spec (askE_ok h).1).1 (lookedF_spec (askE_ok h).1).2 (by simp only [zi_den];omega) (by simp only [zi_den];omega) hr.r0 hr.r1 (by simp))
  refine FSpec.is fun R hR=>qX (sc:=sc8) tyok mix Tryz.func8 rfl Tryz.call8 (by kernel_rfl) (by kernel_rfl) ?_
  generalize Tryz.prog=P at c71 c92⊢
  cbv
  have hc:=(lookedF_spec (askE_ok h).1).1
  have hfv:=hc.few.v
  have hM:=sh_yes h
  have hlen:=rooms_len hc l []
  have hne:=(askE_ok h).2
  have hri:=roomIn_at hc (l:=l) (k:=0) (by omega)
  rw [←hM.1]at hri
  have h00:=hM.1
  obtain⟨rm,hrm⟩:∃r,r=shM c l:=⟨_,rfl⟩
  rw [←hrm]at hri h00
  repeat' (first
      |with_reducible refine hold ?_ ?_
      |with_reducible refine And.intro ?_ ?_
      |(with_reducible intro hcd;(try simp only [zA,zB,zC,zD,zE,zF,zG,zH,zI,zJ,zK,zL,zM,zN,zO,zP]at hcd);try cbv)
      | (refine qQ ?_ (c71) ?hfit
         case hfit=>((repeat' (first|exact qB|refine qD ?_ ?_|exact qE (by rfl)|exact qG (by rfl)|exact Fit.refl _|exact qA|refine qC ?_ rfl ?_));done)
         try cbv)
      |fail)
  all_goals first
    |trivial
    |((try simp only [qW]at *);(try simp only [zQ,zA,zB,zC,zD,zE,zF,zG,zH,zI,zJ,zK,zL,zM,zN,zO,zP,zR,zS]at *);first|(refine qO ?_;omega)|(simp only [Hold];omega))
    |skip
  refine⟨none,[⟨.cell 19 1,3,1⟩,⟨.cell 19 2,3,1⟩],{i:Nat // i≤c.vs.length},fun x=>⟨[(2,.own 0 0),(4,.own 1 0),(6,(wpS c l)),(9,.own 19 0),(30,(.int .i64 (.sym fun _=>zi c.vs.length))),(31,(.int .i64 (.sym fun _=>zi x.1)))],[(0,.cells [(.int .i64 (.sym fun _=>c.rl)),(.int .i64 (.sym fun _=>c.rh)),(.int .i64 (.sym fun _=>c.hr)),(.sl 4 (.sym fun _=>zi c.vs.length) (fun ix=>[(.int .i64 (.sym fun _=>(c.vs.getD ix.den.toNat v0).sl)),(.int .i64 (.sym fun _=>(c.vs.getD ix.den.toNat v0).sh)),(.int .i64 (.sym fun _=>(c.vs.getD ix.den.toNat v0).rl)),(.int .i64 (.sym fun _=>(c.vs.getD ix.den.toNat v0).rh))])),(.sl 2 (.sym fun _=>zi c.ts.length) (fun ix=>[(.int .i64 (.sym fun _=>(c.ts.getD ix.den.toNat t0).top)),(.sl 3 (.sym fun _=>zi ((c.ts.getD ix.den.toNat t0).ps).length) (fun jx=>[(.int .i64 (.sym fun _=>(((c.ts.getD ix.den.toNat t0).ps).getD jx.den.toNat p0).f)),(.int .i64 (.sym fun _=>(((c.ts.getD ix.den.toNat t0).ps).getD jx.den.toNat p0).el)),(.int .i64 (.sym fun _=>(((c.ts.getD ix.den.toNat t0).ps).getD jx.den.toNat p0).eh))]))]))] 44),(1,.cells [.int .i64 (.lit 0),.val (Value.slice none 0 0),.val (Value.slice none 0 0)] 37),(19,.cells [(.int .i64 (.sym fun _=>rm)),.row 25,.row 26] 37),(25,.row 3 1 (.sym fun _=>zi ((showS c l rm x.1)).length) (fun ix=>[.int .i64 (.sym fun _=>((showS c l rm x.1)).getD ix.den.toNat 0)])),(26,.row 3 1 (.sym fun _=>zi ((showR c l rm x.1)).length) (fun ix=>[.int .i64 (.sym fun _=>((showR c l rm x.1)).getD ix.den.toNat 0)]))],60⟩,fun x=>c.vs.length-x.1,?_,?_⟩
  · refine⟨⟨0,by omega⟩,?_⟩
    cbv
    repeat' (first
      |with_reducible refine hold ?_ ?_
      |with_reducible refine And.intro ?_ ?_)
    all_goals first
      |trivial
      |exact qN (qE (by rfl))
      |exact qN (Fit.refl _)
      |exact qM (qL _)
      |(refine qM (ble_row ?_ ?_);(first|rfl|((try simp only [qW]at *);(try simp only [zQ,zA,zB,zC,zD,zE,zF,zG,zH,zI,zJ,zK,zL,zM,zN,zO,zP,zR,zS]at *);omega));intro ix h0 h1;exfalso;(try simp only [qW]at *);(try simp only [zQ,zA,zB,zC,zD,zE,zF,zG,zH,zI,zJ,zK,zL,zM,zN,zO,zP,zR,zS]at *);omega)
      |(refine qM (qK (qC (qE h00.symm) rfl (qC (Fit.refl _) rfl (qC (Fit.refl _) rfl qA)))))
      |skip
  · rintro ⟨i,hi⟩
    cbv
    have hSl:=(showS_len c l rm i).1
    have hRl:=(showS_len c l rm i).2
    have hY:showS c l rm (i+1)=showS c l rm i++[smS c l (zi i) rm []]:=rfl
    have hZ:showR c l rm (i+1)=showR c l rm i++[smR c l (zi i) rm []]:=rfl
    obtain⟨S1,hS1⟩:∃M,M=showS c l rm i:=⟨_,rfl⟩
    obtain⟨S2,hS2⟩:∃M,M=showR c l rm i:=⟨_,rfl⟩
    rw [←hS1]at hSl hY⊢
    rw [←hS2]at hRl hZ⊢
    cbv
    repeat' (first
        |with_reducible refine hold ?_ ?_
        |with_reducible refine And.intro ?_ ?_
        |(with_reducible intro hcd;(try simp only [zA,zB,zC,zD,zE,zF,zG,zH,zI,zJ,zK,zL,zM,zN,zO,zP]at hcd);try cbv)
        | (refine Exists.intro (α:=Nat) 25 ?_
           cbv
           refine Exists.intro (α:=Nat) 26 ?_
           cbv)
        | (refine qQ ?_ (c92 i rm hri (by((try simp only [qW]at *);(try simp only [zQ,zA,zB,zC,zD,zE,zF,zG,zH,zI,zJ,zK,zL,zM,zN,zO,zP,zR,zS]at *);omega))) ?hfit
           case hfit=>((refine qD (Fit.refl _) (qD (qE (by rfl)) (qD (qE (by rfl)) (qD (qP rfl) qB))));done)
           try cbv)
        | (obtain⟨L2,eL2⟩:∃y:List Int,y=S1++[smS c l (zi i) rm []]:=⟨_,rfl⟩
           refine⟨intsE L2,?_⟩
           cbv
           refine hold (hold_rowlist (L:=S1) eL2 (by(first|rfl|((try simp only [qW]at *);(try simp only [zQ,zA,zB,zC,zD,zE,zF,zG,zH,zI,zJ,zK,zL,zM,zN,zO,zP,zR,zS]at *);done)|((try simp only [qW]at *);(try simp only [zQ,zA,zB,zC,zD,zE,zF,zG,zH,zI,zJ,zK,zL,zM,zN,zO,zP,zR,zS]at *);omega))) (by rfl) (fun ix=>Fit.refl _) (fun ix h=>qC (qE (by rfl)) rfl qA) (by(try simp only [qW]at *);(try simp only [zQ,zA,zB,zC,zD,zE,zF,zG,zH,zI,zJ,zK,zL,zM,zN,zO,zP,zR,zS]at *);omega)) (Or.inl ?_)
           try cbv)
        | (obtain⟨L3,eL3⟩:∃y:List Int,y=S2++[smR c l (zi i) rm []]:=⟨_,rfl⟩
           refine⟨intsE L3,?_⟩
           cbv
           refine hold (hold_rowlist (L:=S2) eL3 (by(first|rfl|((try simp only [qW]at *);(try simp only [zQ,zA,zB,zC,zD,zE,zF,zG,zH,zI,zJ,zK,zL,zM,zN,zO,zP,zR,zS]at *);done)|((try simp only [qW]at *);(try simp only [zQ,zA,zB,zC,zD,zE,zF,zG,zH,zI,zJ,zK,zL,zM,zN,zO,zP,zR,zS]at *);omega))) (by rfl) (fun ix=>Fit.refl _) (fun ix h=>qC (qE (by rfl)) rfl qA) (by(try simp only [qW]at *);(try simp only [zQ,zA,zB,zC,zD,zE,zF,zG,zH,zI,zJ,zK,zL,zM,zN,zO,zP,zR,zS]at *);omega)) (Or.inl ?_)
           try cbv)
        |fail)
    all_goals first
      |((try simp only [qW]at *);(try simp only [zQ,zA,zB,zC,zD,zE,zF,zG,zH,zI,zJ,zK,zL,zM,zN,zO,zP,zR,zS]at *);first|(refine qO ?_;omega)|(simp only [Hold];omega))
      |((have hie:i=c.vs.length:=(by((try simp only [qW]at *);(try simp only [zQ,zA,zB,zC,zD,zE,zF,zG,zH,zI,zJ,zK,zL,zM,zN,zO,zP,zR,zS]at *);omega)));(have e1:S1=shS c l:=by rw [hS1,hie,hrm];exact hM.2.1.symm);(have e2:S2=shR c l:=by rw [hS2,hie,hrm];exact hM.2.2.symm);subst hR;rw [←e1,←e2,←hrm];exact qD (Fit.refl _) (qD (qE h.symm) qB))
      |((try simp only [zQ,zA,zB,zC,zD,zE,zF,zG,zH,zI,zJ,zK,zL,zM,zN,zO,zP,zR,zS]at *);(have hx:showS c l rm (i+1)=L2:=hY.trans eL2.symm);(have hy:showR c l rm (i+1)=L3:=hZ.trans eL3.symm);refine⟨⟨i+1,by omega⟩,by simp only [];omega,?_⟩;cbv;(repeat' (first|with_reducible refine hold ?_ ?_|with_reducible refine And.intro ?_ ?_));(all_goals first|trivial|exact qN (qE (by rfl))|exact qN (qG (by rfl))|exact qN (Fit.refl _)|exact qM (qL _)|(refine qN (qE ?_);(try simp only [qW]at *);simp only [zQ,zA,zB,zC,zD,zE,zF,zG,zH,zI,zJ,zK,zL,zM,zN,zO,zP,zR,zS]at *;omega)|(refine qM (qK ?_);(repeat' (first|exact qA|exact qB|refine qC ?_ rfl ?_|refine qD ?_ ?_|exact qE (by rfl)|exact qG (by rfl)|exact Fit.refl _|exact qH _|(refine qE ?_;(try simp only [qW]at *);simp only [zQ,zA,zB,zC,zD,zE,zF,zG,zH,zI,zJ,zK,zL,zM,zN,zO,zP,zR,zS]at *;omega)));done)|(simp only [hx,hy];first|exact qM (qL _)|(refine qM (ble_row ?_ ?_)<;>first|rfl|(rw [eL2,List.length_append];rfl)|(rw [eL3,List.length_append];rfl)|((try simp only [qW]at *);(try simp only [zQ,zA,zB,zC,zD,zE,zF,zG,zH,zI,zJ,zK,zL,zM,zN,zO,zP,zR,zS,eL2,eL3,List.length_append,List.length_cons,List.length_nil]at *);omega)|(intro ix h0 h1;exact Fit.refl _)))|skip))
      |skip
theorem show51n (c:Clr)(l:List LookT)(h:¬askE c l=0):FSpec Tryz.prog 8 [(clrS c),(lksS l)] [] (fun r _=>r=(.tup [(.agg [(.int .i64 (.sym fun _=>shM c l)),(.sl 1 (.sym fun _=>zi (shS c l).length) (fun ix=>[.int .i64 (.sym fun _=>(shS c l).getD ix.den.toNat 0)])),(.sl 1 (.sym fun _=>zi (shR c l).length) (fun ix=>[.int .i64 (.sym fun _=>(shR c l).getD ix.den.toNat 0)]))]),(.int .i64 (.sym fun _=>askE c l))])):=by
  have c71:=asked71n c l h
  refine FSpec.is fun R hR=>qX (sc:=sc8) tyok mix Tryz.func8 rfl Tryz.call8 (by kernel_rfl) (by kernel_rfl) ?_
  generalize Tryz.prog=P at c71⊢
  cbv
  have hM:=sh_no h
  repeat' (first
      |with_reducible refine And.intro ?_ ?_
      |(with_reducible intro hcd;(try simp only [zA,zB,zC,zD,zE,zF,zG,zH,zI,zJ,zK,zL,zM,zN,zO,zP]at hcd);try cbv)
      | (refine qQ ?_ (c71) ?hfit
         case hfit=>((repeat' (first|exact qB|refine qD ?_ ?_|exact qE (by rfl)|exact qG (by rfl)|exact Fit.refl _|exact qA|refine qC ?_ rfl ?_));done)
         try cbv)
      |fail)
  all_goals first
    |trivial
    |(subst hR;exact qD (qC (qE hM.1.symm) rfl (qC (qP (by rw [hM.2.1];rfl)) rfl (qC (qP (by rw [hM.2.2];rfl)) rfl qA))) (qD (Fit.refl _) qB);done)
    |skip
theorem show51 (c:Clr)(l:List LookT):FSpec Tryz.prog 8 [(clrS c),(lksS l)] [] (fun r _=>r=(.tup [(.agg [(.int .i64 (.sym fun _=>shM c l)),(.sl 1 (.sym fun _=>zi (shS c l).length) (fun ix=>[.int .i64 (.sym fun _=>(shS c l).getD ix.den.toNat 0)])),(.sl 1 (.sym fun _=>zi (shR c l).length) (fun ix=>[.int .i64 (.sym fun _=>(shR c l).getD ix.den.toNat 0)]))]),(.int .i64 (.sym fun _=>askE c l))])):=by
  by_cases h:askE c l=0
  · exact show51y c l h
  · exact show51n c l h
end Go.Proofs.YteelocfbbhchcaaGreat

namespace Go.Proofs.YteelocfbbhchcaaGreat
open Go Go.Eng Go.Proofs
set_option maxRecDepth 10000
theorem firstOf_none {f:Nat→Option (List Int)}:∀{k i:Nat},firstOf f k i=none→∀j,i≤j→j<i+k→f j=none:=by
  intro k
  induction k with
  |zero=>intro i _ j h1 h2;omega
  | succ k ih=>
    intro i h j h1 h2
    simp only [firstOf]at h
    split at h
    · cases h
    · rename_i hf
      by_cases e:j=i
      · rw [e];exact hf
      · exact ih h j (by omega) (by omega)
theorem firstOf_at {f:Nat→Option (List Int)} {r:List Int}:∀{k i:Nat},firstOf f k i=some r→∃j,i≤j∧j<i+k∧f j=some r∧∀j',i≤j'→j'<j→f j'=none:=by
  intro k
  induction k with
  |zero=>intro i h;cases h
  | succ k ih=>
    intro i h
    simp only [firstOf]at h
    split at h
    · rename_i r' hf
      cases h
      exact⟨i,Nat.le_refl _,by omega,hf,fun j' h1 h2=>by omega⟩
    · rename_i hf
      obtain⟨j,h1,h2,h3,h4⟩:=ih h
      refine⟨j,by omega,by omega,h3,fun j' a b=> ?_⟩
      by_cases e:j'=i
      · rw [e];exact hf
      · exact h4 j' (by omega) b
def Asc (n:Nat):Nat→List Int→Prop
  |_,[]=>True
  |i,x::t=>∃j:Nat,x=(j:Int)∧i≤j∧j<n∧Asc n (j+1) t
def LexLt :List Int→List Int→Prop
  |x::s,y::t=>x<y∨(x=y∧LexLt s t)
  |_,_=>False
theorem asc_room {n:Nat}:∀{s:List Int} {i:Nat},Asc n i s→s=[]∨i+s.length≤n:=by
  intro s
  induction s with
  |nil=>intro i _;exact .inl rfl
  | cons x t ih=>
    rintro i ⟨j,_,h1,h2,h3⟩
    right
    rcases ih h3 with e|e
    · subst e;simp only [List.length_cons,List.length_nil];omega
    · simp only [List.length_cons];omega
theorem choose_none {n:Nat} {ok:List Int→Bool}:∀{m:Nat} {l:List Int} {i:Nat},chooseL n ok m l i=none→∀s,Asc n i s→s.length=m→ok (l++s)=false:=by
  intro m
  induction m with
  | zero=>
    intro l i h s hs hl
    rw [List.length_eq_zero_iff.1 hl,List.append_nil]
    simp only [chooseL]at h
    split at h
    · cases h
    · rename_i q;simpa using q
  | succ m ih=>
    intro l i h s hs hl
    cases s with
    |nil=>cases hl
    | cons x t=>
      obtain⟨j,rfl,h1,h2,h3⟩:=hs
      simp only [List.length_cons]at hl
      simp only [chooseL]at h
      have hj:j<i+(n-m-i):=by
        rcases asc_room h3 with e|e
        · rw [e]at hl;simp at hl;omega
        · omega
      have:=ih (firstOf_none h j h1 hj) t h3 (by omega)
      simpa using this
theorem choose_some {n:Nat} {ok:List Int→Bool} {F:List Int}:∀{m:Nat} {l:List Int} {i:Nat},chooseL n ok m l i=some F→∃s,Asc n i s∧s.length=m∧F=l++s∧ok F=true∧∀s',Asc n i s'→s'.length=m→ok (l++s')=true→s=s'∨LexLt s s':=by
  intro m
  induction m with
  | zero=>
    intro l i h
    simp only [chooseL]at h
    split at h
    · rename_i q
      cases h
      refine⟨[],trivial,rfl,(List.append_nil _).symm,q,fun s' _ hl _=>.inl (List.length_eq_zero_iff.1 hl).symm⟩
    · cases h
  | succ m ih=>
    intro l i h
    simp only [chooseL]at h
    obtain⟨j,h1,h2,h3,h4⟩:=firstOf_at h
    obtain⟨s,a1,a2,a3,a4,a5⟩:=ih h3
    refine⟨(j:Int)::s,⟨j,rfl,h1,by omega,a1⟩,by simp [a2],by rw [a3];simp,a4,fun s' hs hl hok=> ?_⟩
    cases s' with
    |nil=>cases hl
    | cons x t=>
      obtain⟨j',rfl,b1,b2,b3⟩:=hs
      simp only [List.length_cons]at hl
      rcases Nat.lt_trichotomy j j' with e|e|e
      · exact .inr (.inl (by omega))
      · subst e
        rcases a5 t b3 (by omega) (by simpa using hok)with q|q
        · exact .inl (by rw [q])
        · exact .inr (.inr ⟨rfl,q⟩)
      · have:=choose_none (h4 j' b1 e) t b3 (by omega)
        rw [show l++[(j':Int)]++t=l++(j':Int)::t by simp,hok]at this
        cases this
theorem leave_spec {c:Clr} {l:List LookT}(h:lookedF c l=0):Asc l.length 0 (leaveL c l)∧okL c l (leaveL c l)=true ∧
    ∀s,Asc l.length 0 s→okL c l s=true→(leaveL c l).length≤s.length∧(s.length=(leaveL c l).length→leaveL c l=s∨LexLt (leaveL c l) s):=by
  have hO:=leave_yes h
  unfold leaveO at hO
  obtain⟨m,_,h2,h3,h4⟩:=firstOf_at hO
  obtain⟨s,a1,a2,a3,a4,a5⟩:=choose_some h3
  have e:leaveL c l=s:=by rw [a3];simp
  refine⟨e▸a1,a4,fun s' hs hok=> ?_⟩
  rw [e]
  have hmin:s.length≤s'.length:=by
    refine Nat.le_of_not_lt fun hlt=> ?_
    have:=choose_none (h4 s'.length (by omega) (by omega)) s' hs rfl
    rw [List.nil_append,hok]at this
    cases this
  exact⟨hmin,fun he=>a5 s' hs (by omega) (by simpa using hok)⟩
theorem right_iff {c:Clr} {l:List LookT} {v:Int} {x:Nat→Int} {o:List Int}:rightB c l v x o=true↔∀i,i<l.length→(l.getD i k0).v=v→inL o i=false→seeB c (l.getD i k0) (x (l.getD i k0).h.toNat)=true:=by
  unfold rightB
  rw [allB_t]
  constructor
  · intro h i hi h1 h2
    have:=h i hi
    unfold rightP at this
    rw [h1,h2,decide_eq_true rfl]at this
    simpa using this
  · intro h i hi
    unfold rightP
    by_cases h1:(l.getD i k0).v=v
    · cases h2:inL o i with
      |true=>simp
      |false=>rw [h i hi h1 h2];simp
    · rw [decide_eq_false h1];rfl
theorem ok_iff {c:Clr}(hc:COk c) {l:List LookT} {o:List Int}:okL c l o=true↔∃rm,c.rl≤rm∧rm≤c.rh∧∀v:Nat,v<c.vs.length→∃st rt,FitV c l o rm v st rt:=by
  unfold okL
  rw [decide_eq_true_eq]
  constructor
  · intro h
    obtain⟨rm,hm⟩:=some_mem h
    have:=(mem_rooms hc.ok.r1).1 hm
    exact⟨rm,this.1,this.2.1,(room_iff hc).1 this.2.2⟩
  · rintro⟨rm,h1,h2,h3⟩
    exact List.length_pos_of_mem ((mem_rooms hc.ok.r1).2 ⟨h1,h2,(room_iff hc).2 h3⟩)
structure Mono (c:Clr)(l:List LookT)(o:List Int)(x:Clr)(l':List LookT)(o':List Int):Prop where
  n:x.vs.length=c.vs.length
  hr:x.hr=c.hr
  r0:x.rl≤c.rl
  r1:c.rh≤x.rh
  fit:∀(rm:Int) (v:Nat) (st rt:Int),v<c.vs.length→FitV c l o rm v st rt→FitV x l' o' rm v st rt
theorem inL_no {o:List Int} {v:Int}:inL o v=false↔v∉o:=by rw [←inL_mem,Bool.not_eq_true]
theorem asc_mono {n m:Nat}(hnm:n≤m):∀{s:List Int} {i:Nat},Asc n i s→Asc m i s:=by
  intro s
  induction s with
  |nil=>intro i _;trivial
  |cons x t ih=>rintro i ⟨j,a,b,d,e⟩;exact⟨j,a,b,by omega,ih e⟩
theorem asc_snoc {n:Nat}:∀{s:List Int} {i:Nat},i≤n→Asc n i s→Asc (n+1) i (s++[(n:Int)]):=by
  intro s
  induction s with
  |nil=>intro i hi _;exact⟨n,rfl,hi,by omega,trivial⟩
  |cons x t ih=>rintro i hi ⟨j,a,b,d,e⟩;exact⟨j,a,b,by omega,ih (by omega) e⟩
end Go.Proofs.YteelocfbbhchcaaGreat

namespace Go.Proofs.YteelocfbbhchcaaGreat
open Go Go.Eng Go.Proofs
set_option maxRecDepth 10000
theorem lit_t {f:FuncId} {args:List SV} {b:Bool}(h:FSpec Tryz.prog f args [] (fun r _=>r = .bool (.sym fun _=>b)))(hb:b=true):FSpec Tryz.prog f args [] (fun r _=>r = .bool (.lit true)):=h.post fun r bs q=>⟨_,by subst q;exact qG hb,rfl⟩
theorem lit_f {f:FuncId} {args:List SV} {b:Bool}(h:FSpec Tryz.prog f args [] (fun r _=>r = .bool (.sym fun _=>b)))(hb:b=false):FSpec Tryz.prog f args [] (fun r _=>r = .bool (.lit false)):=h.post fun r bs q=>⟨_,by subst q;exact qG hb,rfl⟩
theorem lit_i {f:FuncId} {args:List SV} {n:Int}(h:FSpec Tryz.prog f args [] (fun r _=>r = .int .i64 (.sym fun _=>n))) {m:Int}(hb:n=m):FSpec Tryz.prog f args [] (fun r _=>r = .int .i64 (.lit m)):=h.post fun r bs q=>⟨_,by subst q;exact qE hb,rfl⟩
end Go.Proofs.YteelocfbbhchcaaGreat

namespace Go.Proofs.YteelocfbbhchcaaGreat
open Go Go.Eng Go.Proofs
set_option maxRecDepth 10000
def wrN (p:Nat→Bool):Nat→Nat
  |0=>0
  |n+1=>if p n=true then wrN p n |||2^n else wrN p n
theorem wrN_lt (p:Nat→Bool)(n:Nat):wrN p n<2^n:=by
  induction n with
  |zero=>simp [wrN]
  | succ n ih=>
    have h2:2^n<2^(n+1):=Nat.pow_lt_pow_right (by decide) (by omega)
    simp only [wrN]
    split
    · exact Nat.or_lt_two_pow (by omega) h2
    · omega
theorem wrN_bit (p:Nat→Bool)(n i:Nat):(wrN p n).testBit i=(decide (i<n)&&p i):=by
  induction n with
  |zero=>simp [wrN]
  | succ n ih=>
    simp only [wrN]
    split
    · rename_i h
      rw [Nat.testBit_or,ih,Nat.testBit_two_pow]
      by_cases e:n=i
      · subst e;simp [h]
      · have e1:decide (n=i)=false:=by simp [e]
        rw [e1,Bool.or_false]
        congr 1
        apply decide_eq_decide.2
        omega
    · rename_i h
      rw [ih]
      by_cases e:i=n
      · subst e;simp [h]
      · congr 1
        apply decide_eq_decide.2
        omega
theorem wrN_zero {p:Nat→Bool} {n:Nat}:wrN p n=0↔∀i,i<n→p i=false:=by
  constructor
  · intro h i hi
    have:=wrN_bit p n i
    rw [h,Nat.zero_testBit,decide_eq_true hi,Bool.true_and]at this
    exact this.symm
  · intro h
    apply Nat.eq_of_testBit_eq
    intro i
    rw [wrN_bit,Nat.zero_testBit]
    by_cases hi:i<n
    · rw [h i hi];simp
    · rw [decide_eq_false hi];rfl
theorem wrN_yes {p:Nat→Bool} {n:Nat}(h:p n=true):wrN p n |||2^n=wrN p (n+1):=by simp only [wrN,h,if_true]
theorem wrN_no {p:Nat→Bool} {n:Nat}(h:p n=false):wrN p n=wrN p (n+1):=by simp only [wrN,h,Bool.false_eq_true,if_false]
def badW (c:Clr)(l:List LookT)(v:Nat)(rm st rt:Int)(i:Nat):Bool:=decide ((l.getD i k0).v=zi v)&& !(seeB c (l.getD i k0) (runW rm st rt (l.getD i k0).h.toNat))
theorem badW_v {c:Clr} {l:List LookT} {v:Nat} {rm st rt:Int} {i:Nat}(h:¬(l.getD i k0).v=zi v):badW c l v rm st rt i=false:=by unfold badW;rw [decide_eq_false h];rfl
theorem badW_y {c:Clr} {l:List LookT} {v:Nat} {rm st rt:Int} {i:Nat}(h:(l.getD i k0).v=zi v)(h':seeB c (l.getD i k0) (runW rm st rt (l.getD i k0).h.toNat)=false):badW c l v rm st rt i=true:=by unfold badW;rw [decide_eq_true h,h'];rfl
theorem badW_n {c:Clr} {l:List LookT} {v:Nat} {rm st rt:Int} {i:Nat}(h':seeB c (l.getD i k0) (runW rm st rt (l.getD i k0).h.toNat)=true):badW c l v rm st rt i=false:=by unfold badW;rw [h'];simp
def nS (c:Clr)(v:Nat):Nat:=((c.vs.getD v v0).sh-(c.vs.getD v v0).sl+1).toNat
def nR (c:Clr)(v:Nat):Nat:=((c.vs.getD v v0).rh-(c.vs.getD v v0).rl+1).toNat
def nW (c:Clr)(v:Nat):Nat:=nS c v*nR c v
def stI (c:Clr)(v ix:Nat):Int:=(c.vs.getD v v0).sl+zi (ix/nR c v)
def rtI (c:Clr)(v ix:Nat):Int:=(c.vs.getD v v0).rl+zi (ix%nR c v)
theorem st_at {c:Clr} {v i j M:Nat}(hM:M=i*nR c v)(hj:j<nR c v):stI c v (M+j)=(c.vs.getD v v0).sl+zi i∧rtI c v (M+j)=(c.vs.getD v v0).rl+zi j:=by
  unfold stI rtI
  subst hM
  rw [Nat.add_comm,Nat.add_mul_div_right _ _ (by omega),Nat.div_eq_of_lt hj,Nat.add_mul_mod_self_right,Nat.mod_eq_of_lt hj,Nat.zero_add]
  exact⟨rfl,rfl⟩
theorem nW_bd {c:Clr}(hc:COk c) {v:Nat}(hv:v<c.vs.length):1≤nS c v∧nS c v≤21∧1≤nR c v∧nR c v≤21∧nW c v≤441:=by
  have:=hc.ok.v v hv
  unfold vatOk at this
  have a:1≤nS c v∧nS c v≤21:=by unfold nS;omega
  have b:1≤nR c v∧nR c v≤21:=by unfold nR;omega
  refine⟨a.1,a.2,b.1,b.2,?_⟩
  unfold nW
  exact Nat.le_trans (Nat.mul_le_mul a.2 b.2) (by decide)
def wrI (c:Clr)(l:List LookT)(v:Nat)(rm:Int)(ix:Nat):Nat:=wrN (badW c l v rm (stI c v ix) (rtI c v ix)) l.length
theorem way_at {c:Clr}(hc:COk c) {v ix:Nat}(hv:v<c.vs.length)(h:ix<nW c v):(c.vs.getD v v0).sl≤stI c v ix∧stI c v ix≤(c.vs.getD v v0).sh∧(c.vs.getD v v0).rl≤rtI c v ix∧rtI c v ix≤(c.vs.getD v v0).rh:=by
  have hb:=nW_bd hc hv
  unfold nW at h
  have h1:ix/nR c v<nS c v:=Nat.div_lt_of_lt_mul (by rw [Nat.mul_comm];exact h)
  have h2:ix%nR c v<nR c v:=Nat.mod_lt _ (by omega)
  unfold stI rtI
  simp only [zi_den]
  unfold nS at h1
  generalize ix/nR c v=a at *
  generalize ix%nR c v=b at *
  unfold nR at h2
  omega
theorem way_of {c:Clr}(hc:COk c) {v:Nat}(hv:v<c.vs.length) {st rt:Int}(h0:(c.vs.getD v v0).sl≤st)(h1:st≤(c.vs.getD v v0).sh)(r0:(c.vs.getD v v0).rl≤rt)(r1:rt≤(c.vs.getD v v0).rh):
    ∃ix,ix<nW c v∧stI c v ix=st∧rtI c v ix=rt:=by
  have hi:(st-(c.vs.getD v v0).sl).toNat<nS c v:=by unfold nS;omega
  have hj:(rt-(c.vs.getD v v0).rl).toNat<nR c v:=by unfold nR;omega
  have e:=st_at (c:=c) (v:=v) (i:=(st-(c.vs.getD v v0).sl).toNat) (j:=(rt-(c.vs.getD v v0).rl).toNat) rfl hj
  refine⟨_,?_,e.1.trans (by simp only [zi_den];omega),e.2.trans (by simp only [zi_den];omega)⟩
  unfold nW
  have:((st-(c.vs.getD v v0).sl).toNat+1)*nR c v≤nS c v*nR c v:=Nat.mul_le_mul_right _ hi
  rw [Nat.add_mul,Nat.one_mul]at this
  omega
end Go.Proofs.YteelocfbbhchcaaGreat
