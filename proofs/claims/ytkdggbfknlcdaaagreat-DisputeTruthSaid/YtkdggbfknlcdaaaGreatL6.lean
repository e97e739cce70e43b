/- DisputeTruth: what the law computes. No condition. -/
import Derived.Test.YtkdggbfknlcdaaaGreatT7
set_option linter.unusedVariables false
set_option linter.unusedSimpArgs false
set_option linter.deprecated false
set_option linter.all false

namespace Go.Proofs.YtkdggbfknlcdaaaGreat
open Go Go.Eng Go.Proofs Go.Eng.Dif Go.Eng.Few
set_option maxRecDepth 10000
def uzM :SC:=[(15,[⟨0,false,[],false,0,none⟩,⟨1,false,[],false,0,none⟩,⟨2,false,[0,1],false,0,none⟩,⟨3,false,[0,1,2],false,0,none⟩,⟨4,false,[],false,0,none⟩,⟨5,false,[],false,0,none⟩,⟨6,false,[4,5],false,0,none⟩,⟨7,false,[4,5,6],false,0,none⟩,⟨8,false,[4,5,6,7],false,0,none⟩,⟨9,true,[0,1,2,3,4,5,6,7,8],false,0,none⟩,⟨10,true,[0,1,2,3,4,5,6,7,8,9],true,0,none⟩,⟨11,false,[0,1,2,3,4,5,6,7,8,9,10],false,0,none⟩,⟨12,false,[0,1,2,3,4,5,6,7,8,9,10],false,0,none⟩,⟨13,false,[0,1,2,3,4,5,6,7,8,9,10,11,12],false,0,none⟩,⟨14,false,[0,1,2,3,4,5,6,7,8,9,10,11,12,13],false,0,none⟩,⟨15,false,[0,1,2,3,4,5,6,7,8,9,10],false,0,none⟩,⟨16,false,[0,1,2,3,4,5,6,7,8,9,10],false,0,none⟩,⟨17,false,[0,1,2,3,4,5,6,7,8,9,10,15,16],false,0,none⟩,⟨18,false,[0,1,2,3,4,5,6,7,8,9,10,15,16,17],false,0,none⟩,⟨19,false,[0,1,2,3,4,5,6,7,8,9,10,15,16,17,18],false,0,none⟩,⟨20,true,[0,1,2,3,4,5,6,7,8,9,10,11,12,13,14,15,16,17,18,19],false,0,none⟩,⟨21,true,[0,1,2,3,4,5,6,7,8,9,10,11,12,13,14,15,16,17,18,19,20],false,0,none⟩]),(21,[⟨0,false,[],false,0,none⟩,⟨1,false,[],false,0,none⟩,⟨2,false,[0,1],false,0,none⟩,⟨3,false,[0,1,2],false,0,none⟩,⟨4,false,[],false,0,none⟩,⟨5,false,[4],false,0,none⟩,⟨6,false,[],false,0,none⟩,⟨7,false,[6],false,0,none⟩,⟨8,false,[4,5,6,7],false,0,none⟩,⟨9,true,[0,1,2,3,4,5,6,7,8],false,0,none⟩,⟨10,true,[0,1,2,3,4,5,6,7,8,9],true,0,none⟩,⟨11,false,[0,1,2,3,4,5,6,7,8,9,10],false,0,none⟩,⟨12,false,[0,1,2,3,4,5,6,7,8,9,10],false,0,none⟩,⟨13,false,[0,1,2,3,4,5,6,7,8,9,10,11,12],false,0,none⟩,⟨14,false,[0,1,2,3,4,5,6,7,8,9,10,11,12,13],false,0,none⟩,⟨15,false,[0,1,2,3,4,5,6,7,8,9,10],false,0,none⟩,⟨16,false,[0,1,2,3,4,5,6,7,8,9,10,15],false,0,none⟩,⟨17,false,[0,1,2,3,4,5,6,7,8,9,10],false,0,none⟩,⟨18,false,[0,1,2,3,4,5,6,7,8,9,10,17],false,0,none⟩,⟨19,false,[0,1,2,3,4,5,6,7,8,9,10,15,16,17,18],false,0,none⟩,⟨20,false,[0,1,2,3,4,5,6,7,8,9,10,15,16,17,18,19],false,0,none⟩,⟨21,true,[0,1,2,3,4,5,6,7,8,9,10,11,12,13,14,15,16,17,18,19,20],false,0,none⟩,⟨22,true,[0,1,2,3,4,5,6,7,8,9,10,11,12,13,14,15,16,17,18,19,20,21],false,0,none⟩])]
theorem uze (d:Dsp)(ws:List Int)(n:Int)(h:ufL d=false):ua0 Tryz.prog 6 [(ubh d),(.sl 1 (.sym fun _=>zi ws.length) (fun ix=>[.int .u16 (.sym fun _=>ws.getD ix.den.toNat 0)])),(.int .u16 (.sym fun _=>n))] [] (fun r _=>r=(.bool (.lit true))):=by
 have c28:=uwY (uqz d) h
 have c10:=uoe
 refine ua0.is fun R hR=>qW (sc:=uzM) uan mix Tryz.func6 rfl Tryz.call6 (by kernel_rfl) (by kernel_rfl) ?_
 generalize Tryz.prog=P at c28 c10⊢
 cbv
 repeat' (first|(refine qP ?_ (c28) ?hfit;(case hfit=>((repeat' (first|exact qB|refine qD ?_ ?_|exact qE (by rfl)|exact qF (by rfl)|exact Fit.refl _|exact qA|refine qC ?_ rfl ?_));done));try cbv)|(refine qP ?_ (c10) ?hfit;(case hfit=>((repeat' (first|exact qB|refine qD ?_ ?_|exact qE (by rfl)|exact qF (by rfl)|exact Fit.refl _|exact qA|refine qC ?_ rfl ?_));done));try cbv)|fail)
 all_goals first|(subst hR;(repeat' (first|exact qA|exact qB|refine qC ?_ rfl ?_|refine qD ?_ ?_|exact qE (by rfl)|exact qF (by rfl)|exact Fit.refl _|exact qG _|(refine qE ?_;(try simp only [qV]at *);simp only [zQ,zA,zB,zC,zD,zE,zF,zG,zH,zI,zJ,zK,zL,zM,zN,zO,zP,zR,zS]at *;omega)));done)|skip
theorem uuc {n k:Int}(h:0≤n∧n≤65535)(hk:1≤k):0≤n.tdiv k∧n.tdiv k≤65535:=uhJ h hk
set_option maxHeartbeats 4000000 in
theorem uzB (d:Dsp)(ws:List Int)(n:Int)(h:ufL d=true)(hw:∀k,k<ws.length→0≤ws.getD k 0∧ws.getD k 0≤65535)(hl:ws.length≤9223372036854775807)(hn:0≤n∧n≤65535):ua0 Tryz.prog 6 [(ubh d),(.sl 1 (.sym fun _=>zi ws.length) (fun ix=>[.int .u16 (.sym fun _=>ws.getD ix.den.toNat 0)])),(.int .u16 (.sym fun _=>n))] [] (fun r _=>r=(.bool (.lit true))):=by
 have c10:=uoe
 have hth:=uuy.1 (um2.1 h).1
 have hF:=(um2.1 h).2
 have hd:=ua3.1 hF
 have c28:=uw4 (uqz d) h
 have c29:=uxK d ws hd hw hl
 have hX:=uxw hd hw
 have hp:=uyP hd hw
 obtain⟨x,hx⟩:∃x,x=rdX d ws:=⟨_,rfl⟩
 obtain⟨T,hT⟩:∃T,T=rdT d ws:=⟨_,rfl⟩
 replace c29:=ua0.fitZ c29 (B:=(.tup [(ubh x),(iS T)])) (by rw [hx,hT];exact Fit.refl _)
 have hthx:ThinT x.tw x.tm x.tv:=by rw [hx];exact hth.1
 rw [←hx]at hX hp
 rw [←hT]at hp
 clear hx hT h hth hF hd
 have s1:=hX.s1
 have s3:=hX.s3
 have p1:=hX.p1
 have p4:=hX.p4
 have hin:=uwa hX hp
 have q:=uw6 hX hin.1
 have k:=uvN hX hin.1 hn.1
 have hF:=ua3.2 hX
 have z1:=ug3 hF hin.1
 have z2:=uj2 q.1 q.2.1
 have z3:=ufq (n:=n) hF (show una n from⟨hn.1,by omega⟩) q.1
 have hTl:zi T.length=x.sn:=hin.2.1
 have c12:=uoH x hthx (by have:=hX.l4;omega) (by have:=hX.f6;omega)
 have c30:=ua0.fitZ (umc x) (B:=(.tup [(.sl 2 (.sym fun _=>x.sn) (fun ix=>[(iv fun _=>loT x [] ix.den.toNat),(iv fun _=>hiT x [] ix.den.toNat)])),(.int .i64 (.lit (0)))])) (qD (ua2 (by exact z1.2) (fun _ _ _=>Fit.refl _)) (qD (qE z1.1) qB))
 have c11:=ua0.fitZ (upp x) (B:=(.tup [(.int .i64 (.lit (0))),(.int .i64 (.lit (7)))])) (qD (qE z2.2) (qD (qE z2.1) qB))
 have c13:=ua0.fitZ (ul9 x) (B:=(.tup [(.sl 1 (.lit 0) (fun _=>[])),(.int .i64 (.lit (0)))])) (by rw [q.2.2.1];exact qD (ug5 rfl rfl) (qD (qE q.1) qB))
 have c18:=ua0.fitZ (uk3 x) (B:=(.tup [(.sl 1 (.lit 0) (fun _=>[])),(.int .i64 (.lit (0)))])) (by rw [q.2.2.2.1];exact qD (ug5 rfl rfl) (qD (qE q.1) qB))
 have c19:=ua0.fitZ (uib x) (B:=(.tup [(.sl 1 (.lit 0) (fun _=>[])),(.sl 1 (.lit 0) (fun _=>[])),(.int .i64 (.lit (0)))])) (by rw [q.2.2.2.2.1,q.2.2.2.2.2];exact qD (ug5 rfl rfl) (qD (ug5 rfl rfl) (qD (qE q.1) qB)))
 have c20:=ua0.fitZ (ukS x n) (B:=(.tup [(.sl 1 (.sym fun _=>x.pn) (fun ix=>[(iv fun _=>ufG x n ix.den.toNat)])),(.int .i64 (.lit (0)))])) (qD (ua2 (by exact z3.2) (fun _ _ _=>Fit.refl _)) (qD (qE z3.1) qB))
 have c32:=uwv T (by simp only [uaa]at hTl;omega)
 have c31:=uwJ (uvp x T (by simp only [uaa]at hTl;omega)) hp
 have hb:∀s,s<x.sn.toNat→loT x [] s≤T.getD s 0∧T.getD s 0≤hiT x [] s:=hin.2.2
 obtain⟨lo,hlo⟩:∃f,f=loT x []:=⟨_,rfl⟩
 obtain⟨hh,hhi⟩:∃f,f=hiT x []:=⟨_,rfl⟩
 obtain⟨g,hg⟩:∃f,f=ufG x n:=⟨_,rfl⟩
 rw [←hlo,←hhi]at c30 hb
 rw [←hg]at c20 k
 have k1:=k.1
 have k2:=k.2
 clear hlo hhi hg q hin z1 z2 z3 hF hX hp k hthx
 refine ua0.is fun R hR=>qW (sc:=uzM) uan mix Tryz.func6 rfl Tryz.call6 (by kernel_rfl) (by kernel_rfl) ?_
 generalize Tryz.prog=P at c10 c28 c29 c12 c30 c11 c13 c18 c19 c20 c32 c31⊢
 cbv
 repeat' (first|with_reducible refine ua4 ?_ ?_|with_reducible refine And.intro ?_ ?_|(with_reducible intro hcd;(try simp only [zA,zB,zC,zD,zE,zF,zG,zH,zI,zJ,zK,zL,zM,zN,zO,zP]at hcd);try cbv)|(refine qP ?_ (c28) ?hfit;(case hfit=>((repeat' (first|exact qB|refine qD ?_ ?_|exact qE (by rfl)|exact qF (by rfl)|exact Fit.refl _|exact qA|refine qC ?_ rfl ?_));done));try cbv)|(refine qP ?_ (c29) ?hfit;(case hfit=>((repeat' (first|exact qB|refine qD ?_ ?_|exact qE (by rfl)|exact qF (by rfl)|exact Fit.refl _|exact qA|refine qC ?_ rfl ?_));done));try cbv)|(refine qP ?_ (c12) ?hfit;(case hfit=>((repeat' (first|exact qB|refine qD ?_ ?_|exact qE (by rfl)|exact qF (by rfl)|exact Fit.refl _|exact qA|refine qC ?_ rfl ?_));done));try cbv)|(refine qP ?_ (c30) ?hfit;(case hfit=>((repeat' (first|exact qB|refine qD ?_ ?_|exact qE (by rfl)|exact qF (by rfl)|exact Fit.refl _|exact qA|refine qC ?_ rfl ?_));done));try cbv)|(refine qP ?_ (c11) ?hfit;(case hfit=>((repeat' (first|exact qB|refine qD ?_ ?_|exact qE (by rfl)|exact qF (by rfl)|exact Fit.refl _|exact qA|refine qC ?_ rfl ?_));done));try cbv)|(refine qP ?_ (c13) ?hfit;(case hfit=>((repeat' (first|exact qB|refine qD ?_ ?_|exact qE (by rfl)|exact qF (by rfl)|exact Fit.refl _|exact qA|refine qC ?_ rfl ?_));done));try cbv)|(refine qP ?_ (c18) ?hfit;(case hfit=>((repeat' (first|exact qB|refine qD ?_ ?_|exact qE (by rfl)|exact qF (by rfl)|exact Fit.refl _|exact qA|refine qC ?_ rfl ?_));done));try cbv)|(refine qP ?_ (c19) ?hfit;(case hfit=>((repeat' (first|exact qB|refine qD ?_ ?_|exact qE (by rfl)|exact qF (by rfl)|exact Fit.refl _|exact qA|refine qC ?_ rfl ?_));done));try cbv)|(refine qP ?_ (c20) ?hfit;(case hfit=>((repeat' (first|exact qB|refine qD ?_ ?_|exact qE (by rfl)|exact qF (by rfl)|exact Fit.refl _|exact qA|refine qC ?_ rfl ?_));done));try cbv)|(refine qP ?_ (c32) ?hfit;(case hfit=>((repeat' (first|exact qB|refine qD ?_ ?_|exact qE (by rfl)|exact qF (by rfl)|exact Fit.refl _|exact qA|refine qC ?_ rfl ?_));done));try cbv)|(refine qP ?_ (c31) ?hfit;(case hfit=>((repeat' (first|exact qB|refine qD ?_ ?_|exact qE (by rfl)|exact qF (by rfl)|exact Fit.refl _|exact qA|refine qC ?_ rfl ?_));done));try cbv)|fail)
 all_goals first|((try simp only [qV]at *);(try simp only [zQ,zA,zB,zC,zD,zE,zF,zG,zH,zI,zJ,zK,zL,zM,zN,zO,zP,zR,zS]at *);first|(refine qN ?_;omega)|(simp only [uaq];omega))|(exfalso;exact(by assumption:¬True) True.intro)|skip
 refine⟨none,[],{i:Nat // i≤x.sn.toNat},fun X0=>⟨[(2,(.int .u16 (.sym fun _=>n))),(7,.own 11 0),(8,(iS T)),(9,(.sl 2 (.sym fun _=>x.sn) (fun ix=>[(iv fun _=>lo ix.den.toNat),(iv fun _=>hh ix.den.toNat)]))),(20,(.sl 1 (.sym fun _=>x.pn) (fun ix=>[(iv fun _=>g ix.den.toNat)]))),(22,(iv fun _=>zi X0.1))],[(11,.cells [(iS x.tw),(iS x.tm),(.sl 1 (.sym fun _=>zi (x.tv).length) (fun ix=>[(.sl 1 (.sym fun _=>zi ((x.tv).getD ix.den.toNat []).length) (fun jx=>[(iv fun _=>((x.tv).getD ix.den.toNat []).getD jx.den.toNat 0)]))])),(iv fun _=>x.sn),(iv fun _=>x.pn),(.sl 4 (.sym fun _=>zi (x.ls).length) (fun ix=>[(iv fun _=>((x.ls).getD ix.den.toNat l0T).a),(iv fun _=>((x.ls).getD ix.den.toNat l0T).b),(iv fun _=>((x.ls).getD ix.den.toNat l0T).lo),(iv fun _=>((x.ls).getD ix.den.toNat l0T).hi)])),(.sl 6 (.sym fun _=>zi (x.fs).length) (fun ix=>[(iv fun _=>((x.fs).getD ix.den.toNat f0T).p),(iv fun _=>((x.fs).getD ix.den.toNat f0T).s),(iv fun _=>((x.fs).getD ix.den.toNat f0T).wl),(iv fun _=>((x.fs).getD ix.den.toNat f0T).wh),(iv fun _=>((x.fs).getD ix.den.toNat f0T).ml),(iv fun _=>((x.fs).getD ix.den.toNat f0T).mh)]))] 29)],200⟩,fun X0=>x.sn.toNat-X0.1,?_,?_⟩
 ·refine⟨⟨0,by omega⟩,?_⟩
  cbv
  repeat' (first|with_reducible refine ua4 ?_ ?_|with_reducible refine And.intro ?_ ?_)
  all_goals first|exact True.intro|exact qM (qE (by rfl))|exact qM (Fit.refl _)|exact qL (qK _)|skip
 ·rintro ⟨i,hi⟩
  cbv
  repeat' (first|with_reducible refine ua4 ?_ ?_|with_reducible refine And.intro ?_ ?_|(with_reducible intro hcd;(try simp only [zA,zB,zC,zD,zE,zF,zG,zH,zI,zJ,zK,zL,zM,zN,zO,zP]at hcd);try cbv)|fail)
  all_goals first|((try simp only [qV]at *);(try simp only [zQ,zA,zB,zC,zD,zE,zF,zG,zH,zI,zJ,zK,zL,zM,zN,zO,zP,zR,zS]at *);simp only [uaq];first|omega|exact⟨by omega,by omega⟩)|(exfalso;(have q1:=hb i (by((try simp only [qV]at *);(try simp only [zQ,zA,zB,zC,zD,zE,zF,zG,zH,zI,zJ,zK,zL,zM,zN,zO,zP,zR,zS]at *);omega)));(try simp only [qV]at *);(try simp only [zQ,zA,zB,zC,zD,zE,zF,zG,zH,zI,zJ,zK,zL,zM,zN,zO,zP,zR,zS]at *);omega)|((try simp only [zQ,zA,zB,zC,zD,zE,zF,zG,zH,zI,zJ,zK,zL,zM,zN,zO,zP,zR,zS]at *);refine⟨⟨i+1,(by((try simp only [qV]at *);(try simp only [zQ,zA,zB,zC,zD,zE,zF,zG,zH,zI,zJ,zK,zL,zM,zN,zO,zP,zR,zS]at *);omega))⟩,by simp only [];omega,?_⟩;cbv;(repeat' (first|with_reducible refine ua4 ?_ ?_|with_reducible refine And.intro ?_ ?_));(all_goals first|exact True.intro|exact qM (qE (by rfl))|exact qM (qF (by rfl))|exact qM (Fit.refl _)|exact qL (qK _)|(refine qM (qE ?_);(try simp only [qV]at *);simp only [zQ,zA,zB,zC,zD,zE,zF,zG,zH,zI,zJ,zK,zL,zM,zN,zO,zP,zR,zS]at *;omega)|(refine qL (qJ ?_);(repeat' (first|exact qA|exact qB|refine qC ?_ rfl ?_|refine qD ?_ ?_|exact qE (by rfl)|exact qF (by rfl)|exact Fit.refl _|exact qG _|(refine qE ?_;(try simp only [qV]at *);simp only [zQ,zA,zB,zC,zD,zE,zF,zG,zH,zI,zJ,zK,zL,zM,zN,zO,zP,zR,zS]at *;omega)));done)|skip))|skip
  refine⟨none,[],{j:Nat // j≤x.pn.toNat},fun X0=>⟨[(2,(.int .u16 (.sym fun _=>n))),(7,.own 11 0),(20,(.sl 1 (.sym fun _=>x.pn) (fun ix=>[(iv fun _=>g ix.den.toNat)]))),(23,(iv fun _=>uiS g X0.1)),(24,(iv fun _=>zi X0.1))],[(11,.cells [(iS x.tw),(iS x.tm),(.sl 1 (.sym fun _=>zi (x.tv).length) (fun ix=>[(.sl 1 (.sym fun _=>zi ((x.tv).getD ix.den.toNat []).length) (fun jx=>[(iv fun _=>((x.tv).getD ix.den.toNat []).getD jx.den.toNat 0)]))])),(iv fun _=>x.sn),(iv fun _=>x.pn),(.sl 4 (.sym fun _=>zi (x.ls).length) (fun ix=>[(iv fun _=>((x.ls).getD ix.den.toNat l0T).a),(iv fun _=>((x.ls).getD ix.den.toNat l0T).b),(iv fun _=>((x.ls).getD ix.den.toNat l0T).lo),(iv fun _=>((x.ls).getD ix.den.toNat l0T).hi)])),(.sl 6 (.sym fun _=>zi (x.fs).length) (fun ix=>[(iv fun _=>((x.fs).getD ix.den.toNat f0T).p),(iv fun _=>((x.fs).getD ix.den.toNat f0T).s),(iv fun _=>((x.fs).getD ix.den.toNat f0T).wl),(iv fun _=>((x.fs).getD ix.den.toNat f0T).wh),(iv fun _=>((x.fs).getD ix.den.toNat f0T).ml),(iv fun _=>((x.fs).getD ix.den.toNat f0T).mh)]))] 29)],300⟩,fun X0=>x.pn.toNat-X0.1,?_,?_⟩
  ·refine⟨⟨0,by omega⟩,?_⟩
   cbv
   repeat' (first|with_reducible refine ua4 ?_ ?_|with_reducible refine And.intro ?_ ?_)
   all_goals first|exact True.intro|exact qM (qE (by rfl))|exact qM (Fit.refl _)|exact qL (qK _)|skip
  ·rintro ⟨j,hj⟩
   cbv
   repeat' (first|with_reducible refine ua4 ?_ ?_|with_reducible refine And.intro ?_ ?_|(with_reducible refine qS ?_ ?_ ?_;try cbv)|(with_reducible intro hcd;(try simp only [zA,zB,zC,zD,zE,zF,zG,zH,zI,zJ,zK,zL,zM,zN,zO,zP]at hcd);try cbv)|(refine qP ?_ (c10) ?hfit;(case hfit=>((repeat' (first|exact qB|refine qD ?_ ?_|exact qE (by rfl)|exact qF (by rfl)|exact Fit.refl _|exact qA|refine qC ?_ rfl ?_));done));try cbv)|fail)
   all_goals first|(subst hR;exact Fit.refl _)|((try simp only [qV]at *);(try simp only [zQ,zA,zB,zC,zD,zE,zF,zG,zH,zI,zJ,zK,zL,zM,zN,zO,zP,zR,zS]at *);simp only [uaq];first|omega|exact⟨by omega,by omega⟩)|((have kb:=k2 j (by((try simp only [qV]at *);(try simp only [zQ,zA,zB,zC,zD,zE,zF,zG,zH,zI,zJ,zK,zL,zM,zN,zO,zP,zR,zS]at *);omega)));(have t1:=uuc (n:=n) (k:=x.pn) hn p1);(try simp only [qV]at *);(try simp only [zQ,zA,zB,zC,zD,zE,zF,zG,zH,zI,zJ,zK,zL,zM,zN,zO,zP,zR,zS]at *);first|(refine qN ?_;omega)|(simp only [uaq];first|omega|exact⟨by omega,by omega⟩))|((have sb:=uwc (f:=g) (m:=n+1) (P:=j) (fun p hp=>(k2 p (by omega)).1));(have hj9:(j:Int)*(n+1)≤4*65536:=Int.mul_le_mul (by(simp only [uaa]at *;omega)) (by omega) (by omega) (by omega));(have kb:=k2 j (by((try simp only [qV]at *);(try simp only [zQ,zA,zB,zC,zD,zE,zF,zG,zH,zI,zJ,zK,zL,zM,zN,zO,zP,zR,zS]at *);omega)));(try simp only [qV]at *);(try simp only [zQ,zA,zB,zC,zD,zE,zF,zG,zH,zI,zJ,zK,zL,zM,zN,zO,zP,zR,zS]at *);(refine qN ?_);omega)|(exfalso;(have kb:=k2 j (by((try simp only [qV]at *);(try simp only [zQ,zA,zB,zC,zD,zE,zF,zG,zH,zI,zJ,zK,zL,zM,zN,zO,zP,zR,zS]at *);omega)));(try simp only [qV]at *);(try simp only [zQ,zA,zB,zC,zD,zE,zF,zG,zH,zI,zJ,zK,zL,zM,zN,zO,zP,zR,zS]at *);omega)|(exfalso;(have e:j=x.pn.toNat:=(by((try simp only [qV]at *);(try simp only [zQ,zA,zB,zC,zD,zE,zF,zG,zH,zI,zJ,zK,zL,zM,zN,zO,zP,zR,zS]at *);omega)));(have e2:=k1);rw [←e]at e2;(try simp only [qV]at *);(try simp only [zQ,zA,zB,zC,zD,zE,zF,zG,zH,zI,zJ,zK,zL,zM,zN,zO,zP,zR,zS]at *);omega)|((try simp only [zQ,zA,zB,zC,zD,zE,zF,zG,zH,zI,zJ,zK,zL,zM,zN,zO,zP,zR,zS]at *);refine⟨⟨j+1,(by((try simp only [qV]at *);(try simp only [zQ,zA,zB,zC,zD,zE,zF,zG,zH,zI,zJ,zK,zL,zM,zN,zO,zP,zR,zS]at *);omega))⟩,by simp only [];omega,?_⟩;cbv;(repeat' (first|with_reducible refine ua4 ?_ ?_|with_reducible refine And.intro ?_ ?_));(all_goals first|exact True.intro|exact qM (qE (by rfl))|exact qM (qF (by rfl))|exact qM (Fit.refl _)|exact qL (qK _)|(refine qM (qE ?_);(try simp only [qV]at *);simp only [zQ,zA,zB,zC,zD,zE,zF,zG,zH,zI,zJ,zK,zL,zM,zN,zO,zP,zR,zS]at *;omega)|(refine qL (qJ ?_);(repeat' (first|exact qA|exact qB|refine qC ?_ rfl ?_|refine qD ?_ ?_|exact qE (by rfl)|exact qF (by rfl)|exact Fit.refl _|exact qG _|(refine qE ?_;(try simp only [qV]at *);simp only [zQ,zA,zB,zC,zD,zE,zF,zG,zH,zI,zJ,zK,zL,zM,zN,zO,zP,zR,zS]at *;omega)));done)|(exact qM (qE rfl))|skip))|skip
theorem uAa (d:Dsp)(ws:List Int)(n:Int)(hw:∀k,k<ws.length→0≤ws.getD k 0∧ws.getD k 0≤65535)(hl:ws.length≤9223372036854775807)(hn:0≤n∧n≤65535):ua0 Tryz.prog 6 [(ubh d),(.sl 1 (.sym fun _=>zi ws.length) (fun ix=>[.int .u16 (.sym fun _=>ws.getD ix.den.toNat 0)])),(.int .u16 (.sym fun _=>n))] [] (fun r _=>r = .bool (.lit true)):=by
 cases h:ufL d with
 |false=>exact uze d ws n h
 |true=>exact uzB d ws n h hw hl hn
end Go.Proofs.YtkdggbfknlcdaaaGreat
