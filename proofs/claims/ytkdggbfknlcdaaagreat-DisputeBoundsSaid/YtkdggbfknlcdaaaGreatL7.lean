/- DisputeBounds: what the law computes. No condition. -/
import Derived.Test.YtkdggbfknlcdaaaGreatT7
set_option linter.unusedVariables false
set_option linter.unusedSimpArgs false
set_option linter.deprecated false
set_option linter.all false

namespace Go.Proofs.YtkdggbfknlcdaaaGreat
open Go Go.Eng Go.Proofs Go.Eng.Dif Go.Eng.Few
set_option maxRecDepth 10000
def ug3 (f:Nat→Int)(n:Nat):List Int:=(List.range n).map f
theorem ufH (f:Nat→Int)(n:Nat):(ug3 f n).length=n:=by unfold ug3;rw [List.length_map,List.length_range]
theorem upp {f:Nat→Int} {n i:Nat}(h:i<n):(ug3 f n).getD i 0=f i:=by
 unfold ug3
 rw [List.getD_eq_getElem?_getD,List.getElem?_map,List.getElem?_range h];rfl
theorem up9 {f:Nat→Int} {n:IX} {N:Nat}(h:n.den=(N:Int)):Fit (.sl 1 n (fun ix=>[(iv fun _=>f ix.den.toNat)])) (iS (ug3 f N)):=by
 refine ua1 ?_ (fun ix h0 h1=>qC (qE ?_) rfl qA)
 ·show n.den=zi (ug3 f N).length
  rw [ufH,h];rfl
 ·show f ix.den.toNat=(ug3 f N).getD ix.den.toNat 0
  rw [h]at h1
  rw [upp (by omega)]
theorem uuZ {d:Dsp}(hd:DOk d) {t:List Int}(hn:(t.length:Int)=d.sn):(uhr d t&&ftT d t)=true↔Tr (SN d) (LO d) (FO d d.fs) (fun i=>t.getD i 0):=by
 have hS:SN d=t.length:=by unfold SN;omega
 have e:uhr d t=(inT t&&lkT d t):=by unfold uhr;rw [decide_eq_true hn];rfl
 rw [e,Bool.and_eq_true,Bool.and_eq_true]
 unfold inT lkT ftT
 simp only [uah,uav]
 constructor
 ·rintro⟨⟨h1,h2⟩,h3⟩
  refine⟨fun s hs=>h1 s (by omega),fun k hk=> ?_,fun k hk=> ?_⟩
  ·obtain⟨i,hi,ei⟩:=uwB hk
   rw [uf6]at hi
   rw [←ei,ukt hi]
   exact h2 i hi
  ·obtain⟨i,hi,ei⟩:=uxG hk
   rw [udi]at hi
   rw [←ei,ukF hi]
   exact h3 i hi
 ·rintro⟨h1,h2,h3⟩
  refine⟨⟨fun i hi=>h1 i (by omega),fun i hi=> ?_⟩,fun i hi=> ?_⟩
  ·have q:=h2 _ (uv6 (ls:=LO d) (by rw [uf6];exact hi))
   rw [ukt hi]at q
   exact q
  ·have q:=h3 _ (usx (fs:=FO d d.fs) (by rw [udi];exact hi))
   rw [ukF hi]at q
   exact q
theorem umW {d:Dsp}(hd:DOk d)(hc:ud3 d d.fs []=true) {s:Nat}(hs:s<SN d)(b:Bool):(uhr d (ug3 (ub2 d s b) d.sn.toNat)&&ftT d (ug3 (ub2 d s b) d.sn.toNat))=true∧(ug3 (ub2 d s b) d.sn.toNat).getD s 0=uex d s b:=by
 have s1:=hd.s1
 have q:=uoO hd hc hs b
 have hn:((ug3 (ub2 d s b) d.sn.toNat).length:Int)=d.sn:=by rw [ufH];omega
 constructor
 ·rw [uuZ hd hn]
  have e:∀i,i<SN d→(ug3 (ub2 d s b) d.sn.toNat).getD i 0=ub2 d s b i:=fun i hi=>upp hi
  have hk:=okk hd hd.f
  refine⟨fun i hi=>by rw [e i hi];exact q.1.r i hi,fun k hk'=> ?_,fun k hk'=> ?_⟩
  ·have a:=hk.l k hk'
   show k.lo≤(ug3 (ub2 d s b) d.sn.toNat).getD k.b 0-(ug3 (ub2 d s b) d.sn.toNat).getD k.a 0∧(ug3 (ub2 d s b) d.sn.toNat).getD k.b 0-(ug3 (ub2 d s b) d.sn.toNat).getD k.a 0≤k.hi
   rw [e _ a.1,e _ a.2.1]
   exact q.1.l k hk'
  ·have a:=hk.f k hk'
   show k.lo≤(ug3 (ub2 d s b) d.sn.toNat).getD k.s 0∧(ug3 (ub2 d s b) d.sn.toNat).getD k.s 0≤k.hi
   rw [e _ a]
   exact q.1.f k hk'
 ·rw [upp (show s<d.sn.toNat from hs)];exact q.2
theorem uoZ {f:FuncId} {args:List SV} {b c:Bool}(h:ua0 Tryz.prog f args [] (fun r _=>r = (bv fun _=>b)))(hb:b=c):ua0 Tryz.prog f args [] (fun r _=>r = .bool (.lit c)):=h.post fun r bs q=>⟨_,by subst q;exact qF hb,rfl⟩
end Go.Proofs.YtkdggbfknlcdaaaGreat

namespace Go.Proofs.YtkdggbfknlcdaaaGreat
open Go Go.Eng Go.Proofs Go.Eng.Dif Go.Eng.Few
set_option maxRecDepth 10000
def utm :SC:=[(12,[⟨0,false,[],false,0,none⟩,⟨1,false,[],false,0,none⟩,⟨2,false,[1],false,0,none⟩,⟨3,true,[0,1,2],false,0,none⟩,⟨4,true,[0,1,2,3],false,0,none⟩,⟨5,false,[0,1,2,3,4],false,0,none⟩,⟨6,false,[0,1,2,3,4],false,0,none⟩,⟨7,false,[0,1,2,3,4,5],false,0,none⟩,⟨8,true,[0,1,2,3,4,5,6,7],false,0,none⟩]),(27,[⟨0,false,[],false,0,none⟩,⟨1,false,[],false,0,none⟩,⟨2,false,[0,1],false,0,none⟩,⟨3,false,[0,1,2],false,0,none⟩,⟨4,false,[],false,0,none⟩,⟨5,false,[],false,0,none⟩,⟨6,false,[4,5],false,0,none⟩,⟨7,false,[4,5,6],false,0,none⟩,⟨8,false,[4,5,6,7],false,0,none⟩,⟨9,true,[0,1,2,3,4,5,6,7,8],false,0,none⟩]),(33,[⟨0,true,[],false,0,none⟩,⟨1,true,[0],true,0,none⟩,⟨2,false,[0,1],false,0,none⟩,⟨3,false,[0,1],false,0,none⟩,⟨4,false,[0,1,2,3],false,0,none⟩,⟨5,false,[0,1,2,3,4],false,0,none⟩,⟨6,false,[0,1],false,0,none⟩,⟨7,false,[0,1],false,0,none⟩,⟨8,false,[0,1,6,7],false,0,none⟩,⟨9,false,[0,1,6,7,8],false,0,none⟩,⟨10,false,[0,1,6,7,8,9],false,0,none⟩,⟨11,true,[0,1,2,3,4,5,6,7,8,9,10],false,0,none⟩,⟨12,true,[0,1,2,3,4,5,6,7,8,9,10,11],false,0,none⟩,⟨13,true,[0,1,2,3,4,5,6,7,8,9,10,11,12],true,0,none⟩,⟨14,true,[0,1,2,3,4,5,6,7,8,9,10,11,12,13],false,0,none⟩,⟨15,true,[0,1,2,3,4,5,6,7,8,9,10,11,12,13,14],false,0,none⟩,⟨16,true,[0,1,2,3,4,5,6,7,8,9,10,11,12,13,14,15],true,0,none⟩,⟨17,false,[0,1,2,3,4,5,6,7,8,9,10,11,12,13,14,15,16],false,0,none⟩,⟨18,false,[0,1,2,3,4,5,6,7,8,9,10,11,12,13,14,15,16],false,0,none⟩,⟨19,false,[0,1,2,3,4,5,6,7,8,9,10,11,12,13,14,15,16,17,18],false,0,none⟩,⟨20,false,[0,1,2,3,4,5,6,7,8,9,10,11,12,13,14,15,16,17,18,19],false,0,none⟩,⟨21,false,[0,1,2,3,4,5,6,7,8,9,10,11,12,13,14,15,16],false,0,none⟩,⟨22,false,[0,1,2,3,4,5,6,7,8,9,10,11,12,13,14,15,16],false,0,none⟩,⟨23,false,[0,1,2,3,4,5,6,7,8,9,10,11,12,13,14,15,16,21,22],false,0,none⟩,⟨24,false,[0,1,2,3,4,5,6,7,8,9,10,11,12,13,14,15,16,21,22,23],false,0,none⟩,⟨25,false,[0,1,2,3,4,5,6,7,8,9,10,11,12,13,14,15,16,21,22,23,24],false,0,none⟩,⟨26,true,[0,1,2,3,4,5,6,7,8,9,10,11,12,13,14,15,16,17,18,19,20,21,22,23,24,25],false,0,none⟩,⟨27,true,[0,1,2,3,4,5,6,7,8,9,10,11,12,13,14,15,16,17,18,19,20,21,22,23,24,25,26],false,0,none⟩,⟨28,true,[0,1,2,3,4,5,6,7,8,9,10,11,12,13,14,15,16,17,18,19,20,21,22,23,24,25,26,27],false,0,none⟩,⟨29,true,[0,1,2,3,4,5,6,7,8,9,10,11,12,13,14,15,16,17,18,19,20,21,22,23,24,25,26,27,28],true,0,none⟩,⟨30,true,[0,1,2,3,4,5,6,7,8,9,10,11,12,13,14,15,16,17,18,19,20,21,22,23,24,25,26,27,28,29],false,0,none⟩,⟨31,true,[0,1,2,3,4,5,6,7,8,9,10,11,12,13,14,15,16,17,18,19,20,21,22,23,24,25,26,27,28,29,30],false,0,none⟩,⟨32,true,[0,1,2,3,4,5,6,7,8,9,10,11,12,13,14,15,16,17,18,19,20,21,22,23,24,25,26,27,28,29,30,31],false,0,none⟩])]
theorem uoX {d:Dsp}(hd:DOk d):uoT (SN d) (LO d) (FO d d.fs) 0=ud3 d d.fs []:=by
 have hk:=okk hd hd.f
 rw [urf hk,ufr hk fun i _=>uzB i,ugy]
theorem up0 {d:Dsp}(hd:DOk d)(hc:ud3 d d.fs []=true) {s:Nat}(hs:s<SN d):(ubX (ub4 (SN d) (LO d) (FO d d.fs) (ubc 0))).lo s=loT d [] s∧(ubX (ub4 (SN d) (LO d) (FO d d.fs) (ubc 0))).hi s=hiT d [] s:=by
 have hk:=okk hd hd.f
 rw [(ug4 d s).1,(ug4 d s).2]
 exact uuu hk (by rw [←ugy];exact hc) hs
theorem uzV (d:Dsp)(s:Int)(b:Bool)(t:List Int)(h:udV d=false):ua0 Tryz.prog 7 [(ub0 d),(iv fun _=>s),(bv fun _=>b),(iS t)] [] (fun r _=>r=(.bool (.lit true))):=by
 have c9:=uqK (ugd d) h
 have c10:=uef
 refine ua0.is fun R hR=>qW (sc:=utm) uai mix Tryz.func7 rfl Tryz.call7 (by kernel_rfl) (by kernel_rfl) ?_
 generalize Tryz.prog=P at c9 c10⊢
 cbv
 repeat' (first|(refine qP ?_ (c9) ?hfit;(case hfit=>((repeat' (first|exact qB|refine qD ?_ ?_|exact qE (by rfl)|exact qF (by rfl)|exact Fit.refl _|exact qA|refine qC ?_ rfl ?_));done));try cbv)|(refine qP ?_ (c10) ?hfit;(case hfit=>((repeat' (first|exact qB|refine qD ?_ ?_|exact qE (by rfl)|exact qF (by rfl)|exact Fit.refl _|exact qA|refine qC ?_ rfl ?_));done));try cbv)|fail)
 all_goals first|(subst hR;(repeat' (first|exact qA|exact qB|refine qC ?_ rfl ?_|refine qD ?_ ?_|exact qE (by rfl)|exact qF (by rfl)|exact Fit.refl _|exact qG _|(refine qE ?_;(try simp only [qV]at *);simp only [zQ,zA,zB,zC,zD,zE,zF,zG,zH,zI,zJ,zK,zL,zM,zN,zO,zP,zR,zS]at *;omega)));done)|skip
theorem uzM (d:Dsp)(s:Int)(b:Bool)(t:List Int)(h:udV d=true)(ht:9<t.length):ua0 Tryz.prog 7 [(ub0 d),(iv fun _=>s),(bv fun _=>b),(iS t)] [] (fun r _=>r=(.bool (.lit true))):=by
 have c9:=ueF (ugd d) h
 have c10:=uef
 refine ua0.is fun R hR=>qW (sc:=utm) uai mix Tryz.func7 rfl Tryz.call7 (by kernel_rfl) (by kernel_rfl) ?_
 generalize Tryz.prog=P at c9 c10⊢
 cbv
 repeat' (first|(with_reducible intro hcd;exfalso;(try simp only [zQ,zA,zB,zC,zD,zE,zF,zG,zH,zI,zJ,zK,zL,zM,zN,zO,zP,zR,zS]at hcd);omega)|with_reducible refine And.intro ?_ ?_|(with_reducible intro hcd;(try simp only [zA,zB,zC,zD,zE,zF,zG,zH,zI,zJ,zK,zL,zM,zN,zO,zP]at hcd);try cbv)|(refine qP ?_ (c9) ?hfit;(case hfit=>((repeat' (first|exact qB|refine qD ?_ ?_|exact qE (by rfl)|exact qF (by rfl)|exact Fit.refl _|exact qA|refine qC ?_ rfl ?_));done));try cbv)|(refine qP ?_ (c10) ?hfit;(case hfit=>((repeat' (first|exact qB|refine qD ?_ ?_|exact qE (by rfl)|exact qF (by rfl)|exact Fit.refl _|exact qA|refine qC ?_ rfl ?_));done));try cbv)|fail)
 all_goals first|(subst hR;(repeat' (first|exact qA|exact qB|refine qC ?_ rfl ?_|refine qD ?_ ?_|exact qE (by rfl)|exact qF (by rfl)|exact Fit.refl _|exact qG _|(refine qE ?_;(try simp only [qV]at *);simp only [zQ,zA,zB,zC,zD,zE,zF,zG,zH,zI,zJ,zK,zL,zM,zN,zO,zP,zR,zS]at *;omega)));done)|skip
set_option maxHeartbeats 4000000 in
theorem uA9 (d:Dsp)(s:Int)(b:Bool)(t:List Int)(h:udV d=true)(ht:t.length≤9)(hF:¬ua5 d=0):ua0 Tryz.prog 7 [(ub0 d),(iv fun _=>s),(bv fun _=>b),(iS t)] [] (fun r _=>r=(.bool (.lit true))):=by
 have c10:=uef
 have hth:=ufF.1 h
 have c9:=ueF (ugd d) h
 have c12:=udm d hth.1 (by omega) (by omega)
 have c30:=udH d
 have c33:=uhW d s b
 have c31:=ufx d t (by omega)
 have c32:=uhI t (by omega)
 have c21:=ufw d
 have z1:=uiS hF
 have z2:=uj8 (s:=s) hF
 have hp:ujj d t=false:=by unfold ujj;rw [decide_eq_false (fun q=>hF q.1)];rfl
 obtain⟨e,he⟩:∃e,e=ua5 d:=⟨_,rfl⟩
 rw [←he]at c21 z1 z2 hF
 replace c31:=uoZ c31 hp
 replace c30:=ua0.fitZ c30 (B:=(.tup [(.sl 2 (.lit 0) (fun _=>[])),(iv fun _=>e)])) (qD (udK (by exact z1.2) rfl) (qD (qE z1.1) qB))
 replace c33:=ua0.fitZ c33 (B:=(.tup [(.sl 1 (.lit 0) (fun _=>[])),(iv fun _=>e)])) (qD (udK (by exact ueG (by omega)) rfl) (qD (qE z2) qB))
 clear z1 z2 hp h hth he
 refine ua0.is fun R hR=>qW (sc:=utm) uai mix Tryz.func7 rfl Tryz.call7 (by kernel_rfl) (by kernel_rfl) ?_
 generalize Tryz.prog=P at c10 c9 c12 c30 c33 c31 c32 c21⊢
 cbv
 repeat' (first|(with_reducible intro hcd;exfalso;(try simp only [zQ,zA,zB,zC,zD,zE,zF,zG,zH,zI,zJ,zK,zL,zM,zN,zO,zP,zR,zS]at hcd);omega)|with_reducible refine And.intro ?_ ?_|(with_reducible intro hcd;(try simp only [zA,zB,zC,zD,zE,zF,zG,zH,zI,zJ,zK,zL,zM,zN,zO,zP]at hcd);try cbv)|(refine qP ?_ (c9) ?hfit;(case hfit=>((repeat' (first|exact qB|refine qD ?_ ?_|exact qE (by rfl)|exact qF (by rfl)|exact Fit.refl _|exact qA|refine qC ?_ rfl ?_));done));try cbv)|(refine qP ?_ (c10) ?hfit;(case hfit=>((repeat' (first|exact qB|refine qD ?_ ?_|exact qE (by rfl)|exact qF (by rfl)|exact Fit.refl _|exact qA|refine qC ?_ rfl ?_));done));try cbv)|(refine qP ?_ (c12) ?hfit;(case hfit=>((repeat' (first|exact qB|refine qD ?_ ?_|exact qE (by rfl)|exact qF (by rfl)|exact Fit.refl _|exact qA|refine qC ?_ rfl ?_));done));try cbv)|(refine qP ?_ (c30) ?hfit;(case hfit=>((repeat' (first|exact qB|refine qD ?_ ?_|exact qE (by rfl)|exact qF (by rfl)|exact Fit.refl _|exact qA|refine qC ?_ rfl ?_));done));try cbv)|(refine qP ?_ (c33) ?hfit;(case hfit=>((repeat' (first|exact qB|refine qD ?_ ?_|exact qE (by rfl)|exact qF (by rfl)|exact Fit.refl _|exact qA|refine qC ?_ rfl ?_));done));try cbv)|(refine qP ?_ (c31) ?hfit;(case hfit=>((repeat' (first|exact qB|refine qD ?_ ?_|exact qE (by rfl)|exact qF (by rfl)|exact Fit.refl _|exact qA|refine qC ?_ rfl ?_));done));try cbv)|(refine qP ?_ (c32) ?hfit;(case hfit=>((repeat' (first|exact qB|refine qD ?_ ?_|exact qE (by rfl)|exact qF (by rfl)|exact Fit.refl _|exact qA|refine qC ?_ rfl ?_));done));try cbv)|(refine qP ?_ (c21) ?hfit;(case hfit=>((repeat' (first|exact qB|refine qD ?_ ?_|exact qE (by rfl)|exact qF (by rfl)|exact Fit.refl _|exact qA|refine qC ?_ rfl ?_));done));try cbv)|fail)
 all_goals first|(subst hR;(repeat' (first|exact qA|exact qB|refine qC ?_ rfl ?_|refine qD ?_ ?_|exact qE (by rfl)|exact qF (by rfl)|exact Fit.refl _|exact qG _|(refine qE ?_;(try simp only [qV]at *);simp only [zQ,zA,zB,zC,zD,zE,zF,zG,zH,zI,zJ,zK,zL,zM,zN,zO,zP,zR,zS]at *;omega)));done)|(exfalso;exact(by assumption:¬True) True.intro)|skip
set_option maxHeartbeats 4000000 in
theorem uAb (d:Dsp)(s:Int)(b:Bool)(t:List Int)(h:udV d=true)(ht:t.length≤9)(hF:ua5 d=0)(hc:ud3 d d.fs []=false)(ho:0≤s∧s≤d.sn-1):ua0 Tryz.prog 7 [(ub0 d),(iv fun _=>s),(bv fun _=>b),(iS t)] [] (fun r _=>r=(.bool (.lit true))):=by
 have c10:=uef
 have hth:=ufF.1 h
 have c9:=ueF (ugd d) h
 have c12:=udm d hth.1 (by omega) (by omega)
 have c30:=udH d
 have c33:=uhW d s b
 have c31:=ufx d t (by omega)
 have c32:=uhI t (by omega)
 have c21:=ufw d
 have hd:=ua3.1 hF
 have s1:=hd.s1
 have s3:=hd.s3
 replace c21:=ua0.fitZ c21 (B:=(.int .i64 (.lit (0)))) (qE hF)
 have c34:=ucO d t hd (by omega)
 rw [←ugL hF]at c34
 have c35:=uh5 d hd
 have c26:=uq2 d 0 hd (by decide)
 obtain⟨pv,hpv⟩:∃p,p=ujj d t:=⟨_,rfl⟩
 rw [←hpv]at c31 c34
 have c22:=(ueF (uth s 0 (d.sn-1)) (by rw [uav];exact ho))
 have z1:=uiK hF hc
 have z2:=un5 hF ho hc
 replace c30:=ua0.fitZ c30 (B:=(.tup [(.sl 2 (.lit 0) (fun _=>[])),(.int .i64 (.lit (11)))])) (qD (udK (by exact z1.2) rfl) (qD (qE z1.1) qB))
 replace c33:=ua0.fitZ c33 (B:=(.tup [(.sl 1 (.lit 0) (fun _=>[])),(.int .i64 (.lit (11)))])) (qD (udK (by exact ueG (by omega)) rfl) (qD (qE z2) qB))
 replace c26:=ua0.fitZ c26 (B:=(.tup [(.sl 2 (.sym fun _=>d.sn) (fun ix=>[(iv fun _=>(ubX (ub4 (SN d) (LO d) (FO d d.fs) (ubc 0))).lo ix.den.toNat),(iv fun _=>(ubX (ub4 (SN d) (LO d) (FO d d.fs) (ubc 0))).hi ix.den.toNat)])),(.bool (.lit false))])) (qD (Fit.refl _) (qD (qF ((uoX hd).trans hc)) qB))
 clear z1 z2 h hth hF hd hc hpv
 refine ua0.is fun R hR=>qW (sc:=utm) uai mix Tryz.func7 rfl Tryz.call7 (by kernel_rfl) (by kernel_rfl) ?_
 generalize Tryz.prog=P at c10 c9 c12 c30 c33 c31 c32 c21 c34 c35 c26 c22⊢
 cbv
 repeat' (first|(with_reducible intro hcd;exfalso;(try simp only [zQ,zA,zB,zC,zD,zE,zF,zG,zH,zI,zJ,zK,zL,zM,zN,zO,zP,zR,zS]at hcd);omega)|with_reducible refine ua4 ?_ ?_|with_reducible refine And.intro ?_ ?_|(with_reducible intro hcd;(try simp only [zA,zB,zC,zD,zE,zF,zG,zH,zI,zJ,zK,zL,zM,zN,zO,zP]at hcd);try cbv)|(refine qP ?_ (c9) ?hfit;(case hfit=>((repeat' (first|exact qB|refine qD ?_ ?_|exact qE (by rfl)|exact qF (by rfl)|exact Fit.refl _|exact qA|refine qC ?_ rfl ?_));done));try cbv)|(refine qP ?_ (c10) ?hfit;(case hfit=>((repeat' (first|exact qB|refine qD ?_ ?_|exact qE (by rfl)|exact qF (by rfl)|exact Fit.refl _|exact qA|refine qC ?_ rfl ?_));done));try cbv)|(refine qP ?_ (c12) ?hfit;(case hfit=>((repeat' (first|exact qB|refine qD ?_ ?_|exact qE (by rfl)|exact qF (by rfl)|exact Fit.refl _|exact qA|refine qC ?_ rfl ?_));done));try cbv)|(refine qP ?_ (c30) ?hfit;(case hfit=>((repeat' (first|exact qB|refine qD ?_ ?_|exact qE (by rfl)|exact qF (by rfl)|exact Fit.refl _|exact qA|refine qC ?_ rfl ?_));done));try cbv)|(refine qP ?_ (c33) ?hfit;(case hfit=>((repeat' (first|exact qB|refine qD ?_ ?_|exact qE (by rfl)|exact qF (by rfl)|exact Fit.refl _|exact qA|refine qC ?_ rfl ?_));done));try cbv)|(refine qP ?_ (c31) ?hfit;(case hfit=>((repeat' (first|exact qB|refine qD ?_ ?_|exact qE (by rfl)|exact qF (by rfl)|exact Fit.refl _|exact qA|refine qC ?_ rfl ?_));done));try cbv)|(refine qP ?_ (c32) ?hfit;(case hfit=>((repeat' (first|exact qB|refine qD ?_ ?_|exact qE (by rfl)|exact qF (by rfl)|exact Fit.refl _|exact qA|refine qC ?_ rfl ?_));done));try cbv)|(refine qP ?_ (c21) ?hfit;(case hfit=>((repeat' (first|exact qB|refine qD ?_ ?_|exact qE (by rfl)|exact qF (by rfl)|exact Fit.refl _|exact qA|refine qC ?_ rfl ?_));done));try cbv)|(refine qP ?_ (c34) ?hfit;(case hfit=>((repeat' (first|exact qB|refine qD ?_ ?_|exact qE (by rfl)|exact qF (by rfl)|exact Fit.refl _|exact qA|refine qC ?_ rfl ?_));done));try cbv)|(refine qP ?_ (c35) ?hfit;(case hfit=>((repeat' (first|exact qB|refine qD ?_ ?_|exact qE (by rfl)|exact qF (by rfl)|exact Fit.refl _|exact qA|refine qC ?_ rfl ?_));done));try cbv)|(refine qP ?_ (c26) ?hfit;(case hfit=>((repeat' (first|exact qB|refine qD ?_ ?_|exact qE (by rfl)|exact qF (by rfl)|exact Fit.refl _|exact qA|refine qC ?_ rfl ?_));done));try cbv)|(refine qP ?_ (c22) ?hfit;(case hfit=>((repeat' (first|exact qB|refine qD ?_ ?_|exact qE (by rfl)|exact qF (by rfl)|exact Fit.refl _|exact qA|refine qC ?_ rfl ?_));done));try cbv)|fail)
 all_goals first|((try simp only [qV]at *);(try simp only [zQ,zA,zB,zC,zD,zE,zF,zG,zH,zI,zJ,zK,zL,zM,zN,zO,zP,zR,zS]at *);first|(refine qN ?_;omega)|(simp only [uaj];omega))|(subst hR;(repeat' (first|exact qA|exact qB|refine qC ?_ rfl ?_|refine qD ?_ ?_|exact qE (by rfl)|exact qF (by rfl)|exact Fit.refl _|exact qG _|(refine qE ?_;(try simp only [qV]at *);simp only [zQ,zA,zB,zC,zD,zE,zF,zG,zH,zI,zJ,zK,zL,zM,zN,zO,zP,zR,zS]at *;omega)));done)|(exfalso;exact Bool.noConfusion ((beq_self_eq_true pv).symm.trans (by assumption:(pv==pv)=false)))|skip
set_option maxHeartbeats 4000000 in
theorem uz8 (d:Dsp)(s:Int)(b:Bool)(t:List Int)(h:udV d=true)(ht:t.length≤9)(hF:ua5 d=0)(hc:ud3 d d.fs []=false)(ho:¬(0≤s∧s≤d.sn-1)):ua0 Tryz.prog 7 [(ub0 d),(iv fun _=>s),(bv fun _=>b),(iS t)] [] (fun r _=>r=(.bool (.lit true))):=by
 have c10:=uef
 have hth:=ufF.1 h
 have c9:=ueF (ugd d) h
 have c12:=udm d hth.1 (by omega) (by omega)
 have c30:=udH d
 have c33:=uhW d s b
 have c31:=ufx d t (by omega)
 have c32:=uhI t (by omega)
 have c21:=ufw d
 have hd:=ua3.1 hF
 have s1:=hd.s1
 have s3:=hd.s3
 replace c21:=ua0.fitZ c21 (B:=(.int .i64 (.lit (0)))) (qE hF)
 have c34:=ucO d t hd (by omega)
 rw [←ugL hF]at c34
 have c35:=uh5 d hd
 have c26:=uq2 d 0 hd (by decide)
 obtain⟨pv,hpv⟩:∃p,p=ujj d t:=⟨_,rfl⟩
 rw [←hpv]at c31 c34
 have c22:=(uqK (uth s 0 (d.sn-1)) (by rw [uaE];exact ho))
 have z1:=uiK hF hc
 have z2:=ugT hF ho
 replace c30:=ua0.fitZ c30 (B:=(.tup [(.sl 2 (.lit 0) (fun _=>[])),(.int .i64 (.lit (11)))])) (qD (udK (by exact z1.2) rfl) (qD (qE z1.1) qB))
 replace c33:=ua0.fitZ c33 (B:=(.tup [(.sl 1 (.lit 0) (fun _=>[])),(.int .i64 (.lit (2)))])) (qD (udK (by exact ueG (by omega)) rfl) (qD (qE z2) qB))
 replace c26:=ua0.fitZ c26 (B:=(.tup [(.sl 2 (.sym fun _=>d.sn) (fun ix=>[(iv fun _=>(ubX (ub4 (SN d) (LO d) (FO d d.fs) (ubc 0))).lo ix.den.toNat),(iv fun _=>(ubX (ub4 (SN d) (LO d) (FO d d.fs) (ubc 0))).hi ix.den.toNat)])),(.bool (.lit false))])) (qD (Fit.refl _) (qD (qF ((uoX hd).trans hc)) qB))
 clear z1 z2 h hth hF hd hc hpv
 refine ua0.is fun R hR=>qW (sc:=utm) uai mix Tryz.func7 rfl Tryz.call7 (by kernel_rfl) (by kernel_rfl) ?_
 generalize Tryz.prog=P at c10 c9 c12 c30 c33 c31 c32 c21 c34 c35 c26 c22⊢
 cbv
 repeat' (first|(with_reducible intro hcd;exfalso;(try simp only [zQ,zA,zB,zC,zD,zE,zF,zG,zH,zI,zJ,zK,zL,zM,zN,zO,zP,zR,zS]at hcd);omega)|with_reducible refine ua4 ?_ ?_|with_reducible refine And.intro ?_ ?_|(with_reducible intro hcd;(try simp only [zA,zB,zC,zD,zE,zF,zG,zH,zI,zJ,zK,zL,zM,zN,zO,zP]at hcd);try cbv)|(refine qP ?_ (c9) ?hfit;(case hfit=>((repeat' (first|exact qB|refine qD ?_ ?_|exact qE (by rfl)|exact qF (by rfl)|exact Fit.refl _|exact qA|refine qC ?_ rfl ?_));done));try cbv)|(refine qP ?_ (c10) ?hfit;(case hfit=>((repeat' (first|exact qB|refine qD ?_ ?_|exact qE (by rfl)|exact qF (by rfl)|exact Fit.refl _|exact qA|refine qC ?_ rfl ?_));done));try cbv)|(refine qP ?_ (c12) ?hfit;(case hfit=>((repeat' (first|exact qB|refine qD ?_ ?_|exact qE (by rfl)|exact qF (by rfl)|exact Fit.refl _|exact qA|refine qC ?_ rfl ?_));done));try cbv)|(refine qP ?_ (c30) ?hfit;(case hfit=>((repeat' (first|exact qB|refine qD ?_ ?_|exact qE (by rfl)|exact qF (by rfl)|exact Fit.refl _|exact qA|refine qC ?_ rfl ?_));done));try cbv)|(refine qP ?_ (c33) ?hfit;(case hfit=>((repeat' (first|exact qB|refine qD ?_ ?_|exact qE (by rfl)|exact qF (by rfl)|exact Fit.refl _|exact qA|refine qC ?_ rfl ?_));done));try cbv)|(refine qP ?_ (c31) ?hfit;(case hfit=>((repeat' (first|exact qB|refine qD ?_ ?_|exact qE (by rfl)|exact qF (by rfl)|exact Fit.refl _|exact qA|refine qC ?_ rfl ?_));done));try cbv)|(refine qP ?_ (c32) ?hfit;(case hfit=>((repeat' (first|exact qB|refine qD ?_ ?_|exact qE (by rfl)|exact qF (by rfl)|exact Fit.refl _|exact qA|refine qC ?_ rfl ?_));done));try cbv)|(refine qP ?_ (c21) ?hfit;(case hfit=>((repeat' (first|exact qB|refine qD ?_ ?_|exact qE (by rfl)|exact qF (by rfl)|exact Fit.refl _|exact qA|refine qC ?_ rfl ?_));done));try cbv)|(refine qP ?_ (c34) ?hfit;(case hfit=>((repeat' (first|exact qB|refine qD ?_ ?_|exact qE (by rfl)|exact qF (by rfl)|exact Fit.refl _|exact qA|refine qC ?_ rfl ?_));done));try cbv)|(refine qP ?_ (c35) ?hfit;(case hfit=>((repeat' (first|exact qB|refine qD ?_ ?_|exact qE (by rfl)|exact qF (by rfl)|exact Fit.refl _|exact qA|refine qC ?_ rfl ?_));done));try cbv)|(refine qP ?_ (c26) ?hfit;(case hfit=>((repeat' (first|exact qB|refine qD ?_ ?_|exact qE (by rfl)|exact qF (by rfl)|exact Fit.refl _|exact qA|refine qC ?_ rfl ?_));done));try cbv)|(refine qP ?_ (c22) ?hfit;(case hfit=>((repeat' (first|exact qB|refine qD ?_ ?_|exact qE (by rfl)|exact qF (by rfl)|exact Fit.refl _|exact qA|refine qC ?_ rfl ?_));done));try cbv)|fail)
 all_goals first|((try simp only [qV]at *);(try simp only [zQ,zA,zB,zC,zD,zE,zF,zG,zH,zI,zJ,zK,zL,zM,zN,zO,zP,zR,zS]at *);first|(refine qN ?_;omega)|(simp only [uaj];omega))|(subst hR;(repeat' (first|exact qA|exact qB|refine qC ?_ rfl ?_|refine qD ?_ ?_|exact qE (by rfl)|exact qF (by rfl)|exact Fit.refl _|exact qG _|(refine qE ?_;(try simp only [qV]at *);simp only [zQ,zA,zB,zC,zD,zE,zF,zG,zH,zI,zJ,zK,zL,zM,zN,zO,zP,zR,zS]at *;omega)));done)|(exfalso;exact Bool.noConfusion ((beq_self_eq_true pv).symm.trans (by assumption:(pv==pv)=false)))|skip
set_option maxHeartbeats 4000000 in
theorem uzE (d:Dsp)(s:Int)(b:Bool)(t:List Int)(h:udV d=true)(ht:t.length≤9)(hF:ua5 d=0)(hc:ud3 d d.fs []=true)(ho:¬(0≤s∧s≤d.sn-1)):ua0 Tryz.prog 7 [(ub0 d),(iv fun _=>s),(bv fun _=>b),(iS t)] [] (fun r _=>r=(.bool (.lit true))):=by
 have c10:=uef
 have c36:=uyo
 have hth:=ufF.1 h
 have c9:=ueF (ugd d) h
 have c12:=udm d hth.1 (by omega) (by omega)
 have c30:=udH d
 have c33:=uhW d s b
 have c31:=ufx d t (by omega)
 have c32:=uhI t (by omega)
 have c21:=ufw d
 have hd:=ua3.1 hF
 have s1:=hd.s1
 have s3:=hd.s3
 replace c21:=ua0.fitZ c21 (B:=(.int .i64 (.lit (0)))) (qE hF)
 have c34:=ucO d t hd (by omega)
 rw [←ugL hF]at c34
 have c35:=uh5 d hd
 have c26:=uq2 d 0 hd (by decide)
 obtain⟨pv,hpv⟩:∃p,p=ujj d t:=⟨_,rfl⟩
 rw [←hpv]at c31 c34
 have c22:=(uqK (uth s 0 (d.sn-1)) (by rw [uaE];exact ho))
 have z1:=uei hF hc
 replace c26:=ua0.fitZ c26 (B:=(.tup [(.sl 2 (.sym fun _=>d.sn) (fun ix=>[(iv fun _=>(ubX (ub4 (SN d) (LO d) (FO d d.fs) (ubc 0))).lo ix.den.toNat),(iv fun _=>(ubX (ub4 (SN d) (LO d) (FO d d.fs) (ubc 0))).hi ix.den.toNat)])),(.bool (.lit true))])) (qD (Fit.refl _) (qD (qF ((uoX hd).trans hc)) qB))
 have rb:=fun (k:Nat) (hk:k<SN d)=>up0 hd hc hk
 obtain⟨lo,hlo⟩:∃f,f=loT d []:=⟨_,rfl⟩
 obtain⟨hh,hhi⟩:∃f,f=hiT d []:=⟨_,rfl⟩
 obtain⟨rl,hrl⟩:∃f,f=fun n=>(ubX (ub4 (SN d) (LO d) (FO d d.fs) (ubc 0))).lo n:=⟨_,rfl⟩
 obtain⟨rh,hrh⟩:∃f,f=fun n=>(ubX (ub4 (SN d) (LO d) (FO d d.fs) (ubc 0))).hi n:=⟨_,rfl⟩
 have rb2:∀k:Nat,k<d.sn.toNat→rl k=lo k∧rh k=hh k:=fun k hk=>by rw [hrl,hrh,hlo,hhi];exact rb k hk
 replace c26:=ua0.fitZ c26 (B:=(.tup [(.sl 2 (.sym fun _=>d.sn) (fun ix=>[(iv fun _=>rl ix.den.toNat),(iv fun _=>rh ix.den.toNat)])),(.bool (.lit true))])) (by rw [hrl,hrh];exact Fit.refl _)
 rw [←hlo,←hhi]at c30
 replace c30:=ua0.fitZ c30 (B:=(.tup [(.sl 2 (.sym fun _=>d.sn) (fun ix=>[(iv fun _=>lo ix.den.toNat),(iv fun _=>hh ix.den.toNat)])),(.int .i64 (.lit (0)))])) (qD (ua1 (by exact z1.2) (fun _ _ _=>Fit.refl _)) (qD (qE z1.1) qB))
 have z2:=ugT hF ho
 replace c33:=ua0.fitZ c33 (B:=(.tup [(.sl 1 (.lit 0) (fun _=>[])),(.int .i64 (.lit (2)))])) (qD (udK (by exact ueG (by omega)) rfl) (qD (qE z2) qB))
 have h33:=umN
 clear z2
 clear rb hrl hrh z1 h hth hF hd hc hpv hlo hhi
 refine ua0.is fun R hR=>qW (sc:=utm) uai mix Tryz.func7 rfl Tryz.call7 (by kernel_rfl) (by kernel_rfl) ?_
 generalize Tryz.prog=P at c10 c36 c9 c12 c30 c33 c31 c32 c21 c34 c35 c26 c22 h33⊢
 cbv
 repeat' (first|(with_reducible intro hcd;exfalso;(try simp only [zQ,zA,zB,zC,zD,zE,zF,zG,zH,zI,zJ,zK,zL,zM,zN,zO,zP,zR,zS]at hcd);omega)|with_reducible refine ua4 ?_ ?_|with_reducible refine And.intro ?_ ?_|(with_reducible intro hcd;(try simp only [zA,zB,zC,zD,zE,zF,zG,zH,zI,zJ,zK,zL,zM,zN,zO,zP]at hcd);try cbv)|(refine qP ?_ (c9) ?hfit;(case hfit=>((repeat' (first|exact qB|refine qD ?_ ?_|exact qE (by rfl)|exact qF (by rfl)|exact Fit.refl _|exact qA|refine qC ?_ rfl ?_));done));try cbv)|(refine qP ?_ (c12) ?hfit;(case hfit=>((repeat' (first|exact qB|refine qD ?_ ?_|exact qE (by rfl)|exact qF (by rfl)|exact Fit.refl _|exact qA|refine qC ?_ rfl ?_));done));try cbv)|(refine qP ?_ (c30) ?hfit;(case hfit=>((repeat' (first|exact qB|refine qD ?_ ?_|exact qE (by rfl)|exact qF (by rfl)|exact Fit.refl _|exact qA|refine qC ?_ rfl ?_));done));try cbv)|(refine qP ?_ (c33) ?hfit;(case hfit=>((repeat' (first|exact qB|refine qD ?_ ?_|exact qE (by rfl)|exact qF (by rfl)|exact Fit.refl _|exact qA|refine qC ?_ rfl ?_));done));try cbv)|(refine qP ?_ (c31) ?hfit;(case hfit=>((repeat' (first|exact qB|refine qD ?_ ?_|exact qE (by rfl)|exact qF (by rfl)|exact Fit.refl _|exact qA|refine qC ?_ rfl ?_));done));try cbv)|(refine qP ?_ (c32) ?hfit;(case hfit=>((repeat' (first|exact qB|refine qD ?_ ?_|exact qE (by rfl)|exact qF (by rfl)|exact Fit.refl _|exact qA|refine qC ?_ rfl ?_));done));try cbv)|(refine qP ?_ (c21) ?hfit;(case hfit=>((repeat' (first|exact qB|refine qD ?_ ?_|exact qE (by rfl)|exact qF (by rfl)|exact Fit.refl _|exact qA|refine qC ?_ rfl ?_));done));try cbv)|(refine qP ?_ (c34) ?hfit;(case hfit=>((repeat' (first|exact qB|refine qD ?_ ?_|exact qE (by rfl)|exact qF (by rfl)|exact Fit.refl _|exact qA|refine qC ?_ rfl ?_));done));try cbv)|(refine qP ?_ (c35) ?hfit;(case hfit=>((repeat' (first|exact qB|refine qD ?_ ?_|exact qE (by rfl)|exact qF (by rfl)|exact Fit.refl _|exact qA|refine qC ?_ rfl ?_));done));try cbv)|(refine qP ?_ (c26) ?hfit;(case hfit=>((repeat' (first|exact qB|refine qD ?_ ?_|exact qE (by rfl)|exact qF (by rfl)|exact Fit.refl _|exact qA|refine qC ?_ rfl ?_));done));try cbv)|(refine qP ?_ (c22) ?hfit;(case hfit=>((repeat' (first|exact qB|refine qD ?_ ?_|exact qE (by rfl)|exact qF (by rfl)|exact Fit.refl _|exact qA|refine qC ?_ rfl ?_));done));try cbv)|fail)
 all_goals first|((try simp only [qV]at *);(try simp only [zQ,zA,zB,zC,zD,zE,zF,zG,zH,zI,zJ,zK,zL,zM,zN,zO,zP,zR,zS]at *);first|(refine qN ?_;omega)|(simp only [uaj];omega))|(exfalso;exact(by assumption:¬True) True.intro)|(exfalso;exact Bool.noConfusion ((beq_self_eq_true pv).symm.trans (by assumption:(pv==pv)=false)))|skip
 refine⟨none,[],{i:Nat // i≤d.sn.toNat},fun x=>⟨[(1,(iv fun _=>s)),(2,(bv fun _=>b)),(4,.own 0 0),(9,(.sl 2 (.sym fun _=>d.sn) (fun ix=>[(iv fun _=>lo ix.den.toNat),(iv fun _=>hh ix.den.toNat)]))),(15,(.sl 2 (.sym fun _=>d.sn) (fun ix=>[(iv fun _=>rl ix.den.toNat),(iv fun _=>rh ix.den.toNat)]))),(17,(.int .i64 (.lit (2)))),(18,(iv fun _=>zi x.1))],[(0,.cells [(iS d.tw),(iS d.tm),(.sl 1 (.sym fun _=>zi (d.tv).length) (fun ix=>[(.sl 1 (.sym fun _=>zi ((d.tv).getD ix.den.toNat []).length) (fun jx=>[(iv fun _=>((d.tv).getD ix.den.toNat []).getD jx.den.toNat 0)]))])),(iv fun _=>d.sn),(iv fun _=>d.pn),(.sl 4 (.sym fun _=>zi (d.ls).length) (fun ix=>[(iv fun _=>((d.ls).getD ix.den.toNat l0T).a),(iv fun _=>((d.ls).getD ix.den.toNat l0T).b),(iv fun _=>((d.ls).getD ix.den.toNat l0T).lo),(iv fun _=>((d.ls).getD ix.den.toNat l0T).hi)])),(.sl 6 (.sym fun _=>zi (d.fs).length) (fun ix=>[(iv fun _=>((d.fs).getD ix.den.toNat f0T).p),(iv fun _=>((d.fs).getD ix.den.toNat f0T).s),(iv fun _=>((d.fs).getD ix.den.toNat f0T).wl),(iv fun _=>((d.fs).getD ix.den.toNat f0T).wh),(iv fun _=>((d.fs).getD ix.den.toNat f0T).ml),(iv fun _=>((d.fs).getD ix.den.toNat f0T).mh)]))] 29)],300⟩,fun x=>d.sn.toNat-x.1,?_,?_⟩
 ·refine⟨⟨0,by omega⟩,?_⟩
  cbv
  repeat' (first|with_reducible refine ua4 ?_ ?_|with_reducible refine And.intro ?_ ?_)
  all_goals first|exact True.intro|exact qM (qE (by rfl))|exact qM (qF (by rfl))|exact qM (Fit.refl _)|exact qL (qK _)|skip
 ·rintro ⟨i,hi⟩
  cbv
  repeat' (first|with_reducible refine ua4 ?_ ?_|with_reducible refine And.intro ?_ ?_|(with_reducible intro hcd;(try simp only [zA,zB,zC,zD,zE,zF,zG,zH,zI,zJ,zK,zL,zM,zN,zO,zP]at hcd);try cbv)|(refine qP ?_ (c10) ?hfit;(case hfit=>((repeat' (first|exact qB|refine qD ?_ ?_|exact qE (by rfl)|exact qF (by rfl)|exact Fit.refl _|exact qA|refine qC ?_ rfl ?_));done));try cbv)|(refine qP ?_ (c36 (rl i) (rh i)) ?hfit;(case hfit=>((repeat' (first|exact qB|refine qD ?_ ?_|exact qE (by rfl)|exact qF (by rfl)|exact Fit.refl _|exact qA|refine qC ?_ rfl ?_));done));try cbv)|fail)
  all_goals first|(with_reducible refine uqA h33 ?_ ?_)<;>simp only [List.length_cons,List.length_nil]|(subst hR;exact Fit.refl _)|(exfalso;(have q9:=rb2 i (by((try simp only [qV]at *);(try simp only [zQ,zA,zB,zC,zD,zE,zF,zG,zH,zI,zJ,zK,zL,zM,zN,zO,zP,zR,zS]at *);omega)));exact ulJ (by assumption) ⟨q9.1.symm,q9.2.symm⟩)|((try simp only [qV]at *);(try simp only [zQ,zA,zB,zC,zD,zE,zF,zG,zH,zI,zJ,zK,zL,zM,zN,zO,zP,zR,zS]at *);simp only [uaj];first|omega|exact⟨by omega,by omega⟩)|((try simp only [zQ,zA,zB,zC,zD,zE,zF,zG,zH,zI,zJ,zK,zL,zM,zN,zO,zP,zR,zS]at *);refine⟨⟨i+1,(by((try simp only [qV]at *);(try simp only [zQ,zA,zB,zC,zD,zE,zF,zG,zH,zI,zJ,zK,zL,zM,zN,zO,zP,zR,zS]at *);omega))⟩,by simp only [];omega,?_⟩;cbv;(repeat' (first|with_reducible refine ua4 ?_ ?_|with_reducible refine And.intro ?_ ?_));(all_goals first|exact True.intro|exact qM (qE (by rfl))|exact qM (qF (by rfl))|exact qM (Fit.refl _)|exact qL (qK _)|(refine qM (qE ?_);(try simp only [qV]at *);simp only [zQ,zA,zB,zC,zD,zE,zF,zG,zH,zI,zJ,zK,zL,zM,zN,zO,zP,zR,zS]at *;omega)|(refine qL (qJ ?_);(repeat' (first|exact qA|exact qB|refine qC ?_ rfl ?_|refine qD ?_ ?_|exact qE (by rfl)|exact qF (by rfl)|exact Fit.refl _|exact qG _|(refine qE ?_;(try simp only [qV]at *);simp only [zQ,zA,zB,zC,zD,zE,zF,zG,zH,zI,zJ,zK,zL,zM,zN,zO,zP,zR,zS]at *;omega)));done)|skip))|skip
set_option maxHeartbeats 4000000 in
theorem ux3 (d:Dsp)(s:Int)(b:Bool)(t:List Int)(h:udV d=true)(ht:t.length≤9)(hF:ua5 d=0)(hc:ud3 d d.fs []=true)(ho:0≤s∧s≤d.sn-1)(hb:b=true):ua0 Tryz.prog 7 [(ub0 d),(iv fun _=>s),(bv fun _=>b),(iS t)] [] (fun r _=>r=(.bool (.lit true))):=by
 have c10:=uef
 have c36:=uyo
 have hth:=ufF.1 h
 have c9:=ueF (ugd d) h
 have c12:=udm d hth.1 (by omega) (by omega)
 have c30:=udH d
 have c33:=uhW d s b
 have c31:=ufx d t (by omega)
 have c32:=uhI t (by omega)
 have c21:=ufw d
 have hd:=ua3.1 hF
 have s1:=hd.s1
 have s3:=hd.s3
 replace c21:=ua0.fitZ c21 (B:=(.int .i64 (.lit (0)))) (qE hF)
 have c34:=ucO d t hd (by omega)
 rw [←ugL hF]at c34
 have c35:=uh5 d hd
 have c26:=uq2 d 0 hd (by decide)
 obtain⟨pv,hpv⟩:∃p,p=ujj d t:=⟨_,rfl⟩
 rw [←hpv]at c31 c34
 have c22:=(ueF (uth s 0 (d.sn-1)) (by rw [uav];exact ho))
 have z2:=ufG hF ho hc
 have hss:s.toNat<SN d:=by unfold SN;omega
 have q:=umW hd hc hss b
 have c34y:=ucO d (ug3 (ub2 d s.toNat b) d.sn.toNat) hd (by rw [ufH];omega)
 replace c34y:=uoZ c34y q.1
 have hrl2:=ufH (ub2 d s.toNat b) d.sn.toNat
 replace c33:=ua0.fitZ c33 (B:=(.tup [(.sl 1 (.sym fun _=>zi ((ug3 (ub2 d s.toNat b) d.sn.toNat)).length) (fun ix=>[(iv fun _=>((ug3 (ub2 d s.toNat b) d.sn.toNat)).getD ix.den.toNat 0)])),(.int .i64 (.lit (0)))])) (qD (up9 (by show shN d s=(d.sn.toNat:Int);rw [z2.2];omega)) (qD (qE z2.1) qB))
 have he:uex d s.toNat b=if b=true then hiT d [] s.toNat else loT d [] s.toNat:=rfl
 have q2:=q.2
 rw [he]at q2
 obtain⟨TL,hT⟩:∃L,L=ug3 (ub2 d s.toNat b) d.sn.toNat:=⟨_,rfl⟩
 rw [←hT]at c33 c34y hrl2 q2
 have h33:=umN
 have z1:=uei hF hc
 replace c26:=ua0.fitZ c26 (B:=(.tup [(.sl 2 (.sym fun _=>d.sn) (fun ix=>[(iv fun _=>(ubX (ub4 (SN d) (LO d) (FO d d.fs) (ubc 0))).lo ix.den.toNat),(iv fun _=>(ubX (ub4 (SN d) (LO d) (FO d d.fs) (ubc 0))).hi ix.den.toNat)])),(.bool (.lit true))])) (qD (Fit.refl _) (qD (qF ((uoX hd).trans hc)) qB))
 have rb:=fun (k:Nat) (hk:k<SN d)=>up0 hd hc hk
 obtain⟨lo,hlo⟩:∃f,f=loT d []:=⟨_,rfl⟩
 obtain⟨hh,hhi⟩:∃f,f=hiT d []:=⟨_,rfl⟩
 obtain⟨rl,hrl⟩:∃f,f=fun n=>(ubX (ub4 (SN d) (LO d) (FO d d.fs) (ubc 0))).lo n:=⟨_,rfl⟩
 obtain⟨rh,hrh⟩:∃f,f=fun n=>(ubX (ub4 (SN d) (LO d) (FO d d.fs) (ubc 0))).hi n:=⟨_,rfl⟩
 have rb2:∀k:Nat,k<d.sn.toNat→rl k=lo k∧rh k=hh k:=fun k hk=>by rw [hrl,hrh,hlo,hhi];exact rb k hk
 replace c26:=ua0.fitZ c26 (B:=(.tup [(.sl 2 (.sym fun _=>d.sn) (fun ix=>[(iv fun _=>rl ix.den.toNat),(iv fun _=>rh ix.den.toNat)])),(.bool (.lit true))])) (by rw [hrl,hrh];exact Fit.refl _)
 rw [←hlo,←hhi]at c30
 replace c30:=ua0.fitZ c30 (B:=(.tup [(.sl 2 (.sym fun _=>d.sn) (fun ix=>[(iv fun _=>lo ix.den.toNat),(iv fun _=>hh ix.den.toNat)])),(.int .i64 (.lit (0)))])) (qD (ua1 (by exact z1.2) (fun _ _ _=>Fit.refl _)) (qD (qE z1.1) qB))
 rw [←hlo,←hhi]at q2
 have rs:=rb2 s.toNat hss
 subst hb
 simp only [if_true]at q2
 clear q he hT z2 hss
 clear rb hrl hrh z1 h hth hF hd hc hpv hlo hhi
 refine ua0.is fun R hR=>qW (sc:=utm) uai mix Tryz.func7 rfl Tryz.call7 (by kernel_rfl) (by kernel_rfl) ?_
 generalize Tryz.prog=P at c10 c36 c9 c12 c30 c33 c31 c32 c21 c34 c35 c26 c22 c34y h33⊢
 cbv
 repeat' (first|(with_reducible intro hcd;exfalso;(try simp only [zQ,zA,zB,zC,zD,zE,zF,zG,zH,zI,zJ,zK,zL,zM,zN,zO,zP,zR,zS]at hcd);omega)|with_reducible refine ua4 ?_ ?_|with_reducible refine And.intro ?_ ?_|(with_reducible intro hcd;(try simp only [zA,zB,zC,zD,zE,zF,zG,zH,zI,zJ,zK,zL,zM,zN,zO,zP]at hcd);try cbv)|(refine qP ?_ (c9) ?hfit;(case hfit=>((repeat' (first|exact qB|refine qD ?_ ?_|exact qE (by rfl)|exact qF (by rfl)|exact Fit.refl _|exact qA|refine qC ?_ rfl ?_));done));try cbv)|(refine qP ?_ (c12) ?hfit;(case hfit=>((repeat' (first|exact qB|refine qD ?_ ?_|exact qE (by rfl)|exact qF (by rfl)|exact Fit.refl _|exact qA|refine qC ?_ rfl ?_));done));try cbv)|(refine qP ?_ (c30) ?hfit;(case hfit=>((repeat' (first|exact qB|refine qD ?_ ?_|exact qE (by rfl)|exact qF (by rfl)|exact Fit.refl _|exact qA|refine qC ?_ rfl ?_));done));try cbv)|(refine qP ?_ (c33) ?hfit;(case hfit=>((repeat' (first|exact qB|refine qD ?_ ?_|exact qE (by rfl)|exact qF (by rfl)|exact Fit.refl _|exact qA|refine qC ?_ rfl ?_));done));try cbv)|(refine qP ?_ (c31) ?hfit;(case hfit=>((repeat' (first|exact qB|refine qD ?_ ?_|exact qE (by rfl)|exact qF (by rfl)|exact Fit.refl _|exact qA|refine qC ?_ rfl ?_));done));try cbv)|(refine qP ?_ (c32) ?hfit;(case hfit=>((repeat' (first|exact qB|refine qD ?_ ?_|exact qE (by rfl)|exact qF (by rfl)|exact Fit.refl _|exact qA|refine qC ?_ rfl ?_));done));try cbv)|(refine qP ?_ (c21) ?hfit;(case hfit=>((repeat' (first|exact qB|refine qD ?_ ?_|exact qE (by rfl)|exact qF (by rfl)|exact Fit.refl _|exact qA|refine qC ?_ rfl ?_));done));try cbv)|(refine qP ?_ (c34) ?hfit;(case hfit=>((repeat' (first|exact qB|refine qD ?_ ?_|exact qE (by rfl)|exact qF (by rfl)|exact Fit.refl _|exact qA|refine qC ?_ rfl ?_));done));try cbv)|(refine qP ?_ (c35) ?hfit;(case hfit=>((repeat' (first|exact qB|refine qD ?_ ?_|exact qE (by rfl)|exact qF (by rfl)|exact Fit.refl _|exact qA|refine qC ?_ rfl ?_));done));try cbv)|(refine qP ?_ (c26) ?hfit;(case hfit=>((repeat' (first|exact qB|refine qD ?_ ?_|exact qE (by rfl)|exact qF (by rfl)|exact Fit.refl _|exact qA|refine qC ?_ rfl ?_));done));try cbv)|(refine qP ?_ (c22) ?hfit;(case hfit=>((repeat' (first|exact qB|refine qD ?_ ?_|exact qE (by rfl)|exact qF (by rfl)|exact Fit.refl _|exact qA|refine qC ?_ rfl ?_));done));try cbv)|fail)
 all_goals first|((try simp only [qV]at *);(try simp only [zQ,zA,zB,zC,zD,zE,zF,zG,zH,zI,zJ,zK,zL,zM,zN,zO,zP,zR,zS]at *);first|(refine qN ?_;omega)|(simp only [uaj];omega))|(exfalso;exact(by assumption:¬True) True.intro)|(exfalso;exact Bool.noConfusion ((beq_self_eq_true pv).symm.trans (by assumption:(pv==pv)=false)))|skip
 refine⟨none,[],{i:Nat // i≤d.sn.toNat},fun x=>⟨[(1,(iv fun _=>s)),(2,(bv fun _=>true)),(4,.own 0 0),(9,(.sl 2 (.sym fun _=>d.sn) (fun ix=>[(iv fun _=>lo ix.den.toNat),(iv fun _=>hh ix.den.toNat)]))),(15,(.sl 2 (.sym fun _=>d.sn) (fun ix=>[(iv fun _=>rl ix.den.toNat),(iv fun _=>rh ix.den.toNat)]))),(17,(.int .i64 (.lit (0)))),(18,(iv fun _=>zi x.1)),(11,(iS TL))],[(0,.cells [(iS d.tw),(iS d.tm),(.sl 1 (.sym fun _=>zi (d.tv).length) (fun ix=>[(.sl 1 (.sym fun _=>zi ((d.tv).getD ix.den.toNat []).length) (fun jx=>[(iv fun _=>((d.tv).getD ix.den.toNat []).getD jx.den.toNat 0)]))])),(iv fun _=>d.sn),(iv fun _=>d.pn),(.sl 4 (.sym fun _=>zi (d.ls).length) (fun ix=>[(iv fun _=>((d.ls).getD ix.den.toNat l0T).a),(iv fun _=>((d.ls).getD ix.den.toNat l0T).b),(iv fun _=>((d.ls).getD ix.den.toNat l0T).lo),(iv fun _=>((d.ls).getD ix.den.toNat l0T).hi)])),(.sl 6 (.sym fun _=>zi (d.fs).length) (fun ix=>[(iv fun _=>((d.fs).getD ix.den.toNat f0T).p),(iv fun _=>((d.fs).getD ix.den.toNat f0T).s),(iv fun _=>((d.fs).getD ix.den.toNat f0T).wl),(iv fun _=>((d.fs).getD ix.den.toNat f0T).wh),(iv fun _=>((d.fs).getD ix.den.toNat f0T).ml),(iv fun _=>((d.fs).getD ix.den.toNat f0T).mh)]))] 29)],300⟩,fun x=>d.sn.toNat-x.1,?_,?_⟩
 ·refine⟨⟨0,by omega⟩,?_⟩
  cbv
  repeat' (first|with_reducible refine ua4 ?_ ?_|with_reducible refine And.intro ?_ ?_)
  all_goals first|exact True.intro|exact qM (qE (by rfl))|exact qM (qF (by rfl))|exact qM (Fit.refl _)|exact qL (qK _)|skip
 ·rintro ⟨i,hi⟩
  cbv
  repeat' (first|(with_reducible intro hcd;exfalso;(try simp only [zQ,zA,zB,zC,zD,zE,zF,zG,zH,zI,zJ,zK,zL,zM,zN,zO,zP,zR,zS]at hcd);omega)|with_reducible refine ua4 ?_ ?_|with_reducible refine And.intro ?_ ?_|(with_reducible intro hcd;(try simp only [zA,zB,zC,zD,zE,zF,zG,zH,zI,zJ,zK,zL,zM,zN,zO,zP]at hcd);try cbv)|(refine qP ?_ (c10) ?hfit;(case hfit=>((repeat' (first|exact qB|refine qD ?_ ?_|exact qE (by rfl)|exact qF (by rfl)|exact Fit.refl _|exact qA|refine qC ?_ rfl ?_));done));try cbv)|(refine qP ?_ (c34y) ?hfit;(case hfit=>((repeat' (first|exact qB|refine qD ?_ ?_|exact qE (by rfl)|exact qF (by rfl)|exact Fit.refl _|exact qA|refine qC ?_ rfl ?_));done));try cbv)|(refine qP ?_ (c36 (rl i) (rh i)) ?hfit;(case hfit=>((repeat' (first|exact qB|refine qD ?_ ?_|exact qE (by rfl)|exact qF (by rfl)|exact Fit.refl _|exact qA|refine qC ?_ rfl ?_));done));try cbv)|fail)
  all_goals first|(with_reducible refine uqA h33 ?_ ?_)<;>simp only [List.length_cons,List.length_nil]|(subst hR;exact Fit.refl _)|(exfalso;(have q9:=rb2 i (by((try simp only [qV]at *);(try simp only [zQ,zA,zB,zC,zD,zE,zF,zG,zH,zI,zJ,zK,zL,zM,zN,zO,zP,zR,zS]at *);omega)));exact ulJ (by assumption) ⟨q9.1.symm,q9.2.symm⟩)|((try simp only [qV]at *);(try simp only [zQ,zA,zB,zC,zD,zE,zF,zG,zH,zI,zJ,zK,zL,zM,zN,zO,zP,zR,zS]at *);simp only [uaj];first|omega|exact⟨by omega,by omega⟩)|(exfalso;exact Bool.noConfusion (by assumption:true=false))|((try simp only [zQ,zA,zB,zC,zD,zE,zF,zG,zH,zI,zJ,zK,zL,zM,zN,zO,zP,zR,zS]at *);refine⟨⟨i+1,(by((try simp only [qV]at *);(try simp only [zQ,zA,zB,zC,zD,zE,zF,zG,zH,zI,zJ,zK,zL,zM,zN,zO,zP,zR,zS]at *);omega))⟩,by simp only [];omega,?_⟩;cbv;(repeat' (first|with_reducible refine ua4 ?_ ?_|with_reducible refine And.intro ?_ ?_));(all_goals first|exact True.intro|exact qM (qE (by rfl))|exact qM (qF (by rfl))|exact qM (Fit.refl _)|exact qL (qK _)|(refine qM (qE ?_);(try simp only [qV]at *);simp only [zQ,zA,zB,zC,zD,zE,zF,zG,zH,zI,zJ,zK,zL,zM,zN,zO,zP,zR,zS]at *;omega)|(refine qL (qJ ?_);(repeat' (first|exact qA|exact qB|refine qC ?_ rfl ?_|refine qD ?_ ?_|exact qE (by rfl)|exact qF (by rfl)|exact Fit.refl _|exact qG _|(refine qE ?_;(try simp only [qV]at *);simp only [zQ,zA,zB,zC,zD,zE,zF,zG,zH,zI,zJ,zK,zL,zM,zN,zO,zP,zR,zS]at *;omega)));done)|skip))|skip
set_option maxHeartbeats 4000000 in
theorem uxs (d:Dsp)(s:Int)(b:Bool)(t:List Int)(h:udV d=true)(ht:t.length≤9)(hF:ua5 d=0)(hc:ud3 d d.fs []=true)(ho:0≤s∧s≤d.sn-1)(hb:b=false):ua0 Tryz.prog 7 [(ub0 d),(iv fun _=>s),(bv fun _=>b),(iS t)] [] (fun r _=>r=(.bool (.lit true))):=by
 have c10:=uef
 have c36:=uyo
 have hth:=ufF.1 h
 have c9:=ueF (ugd d) h
 have c12:=udm d hth.1 (by omega) (by omega)
 have c30:=udH d
 have c33:=uhW d s b
 have c31:=ufx d t (by omega)
 have c32:=uhI t (by omega)
 have c21:=ufw d
 have hd:=ua3.1 hF
 have s1:=hd.s1
 have s3:=hd.s3
 replace c21:=ua0.fitZ c21 (B:=(.int .i64 (.lit (0)))) (qE hF)
 have c34:=ucO d t hd (by omega)
 rw [←ugL hF]at c34
 have c35:=uh5 d hd
 have c26:=uq2 d 0 hd (by decide)
 obtain⟨pv,hpv⟩:∃p,p=ujj d t:=⟨_,rfl⟩
 rw [←hpv]at c31 c34
 have c22:=(ueF (uth s 0 (d.sn-1)) (by rw [uav];exact ho))
 have z2:=ufG hF ho hc
 have hss:s.toNat<SN d:=by unfold SN;omega
 have q:=umW hd hc hss b
 have c34y:=ucO d (ug3 (ub2 d s.toNat b) d.sn.toNat) hd (by rw [ufH];omega)
 replace c34y:=uoZ c34y q.1
 have hrl2:=ufH (ub2 d s.toNat b) d.sn.toNat
 replace c33:=ua0.fitZ c33 (B:=(.tup [(.sl 1 (.sym fun _=>zi ((ug3 (ub2 d s.toNat b) d.sn.toNat)).length) (fun ix=>[(iv fun _=>((ug3 (ub2 d s.toNat b) d.sn.toNat)).getD ix.den.toNat 0)])),(.int .i64 (.lit (0)))])) (qD (up9 (by show shN d s=(d.sn.toNat:Int);rw [z2.2];omega)) (qD (qE z2.1) qB))
 have he:uex d s.toNat b=if b=true then hiT d [] s.toNat else loT d [] s.toNat:=rfl
 have q2:=q.2
 rw [he]at q2
 obtain⟨TL,hT⟩:∃L,L=ug3 (ub2 d s.toNat b) d.sn.toNat:=⟨_,rfl⟩
 rw [←hT]at c33 c34y hrl2 q2
 have h33:=umN
 have z1:=uei hF hc
 replace c26:=ua0.fitZ c26 (B:=(.tup [(.sl 2 (.sym fun _=>d.sn) (fun ix=>[(iv fun _=>(ubX (ub4 (SN d) (LO d) (FO d d.fs) (ubc 0))).lo ix.den.toNat),(iv fun _=>(ubX (ub4 (SN d) (LO d) (FO d d.fs) (ubc 0))).hi ix.den.toNat)])),(.bool (.lit true))])) (qD (Fit.refl _) (qD (qF ((uoX hd).trans hc)) qB))
 have rb:=fun (k:Nat) (hk:k<SN d)=>up0 hd hc hk
 obtain⟨lo,hlo⟩:∃f,f=loT d []:=⟨_,rfl⟩
 obtain⟨hh,hhi⟩:∃f,f=hiT d []:=⟨_,rfl⟩
 obtain⟨rl,hrl⟩:∃f,f=fun n=>(ubX (ub4 (SN d) (LO d) (FO d d.fs) (ubc 0))).lo n:=⟨_,rfl⟩
 obtain⟨rh,hrh⟩:∃f,f=fun n=>(ubX (ub4 (SN d) (LO d) (FO d d.fs) (ubc 0))).hi n:=⟨_,rfl⟩
 have rb2:∀k:Nat,k<d.sn.toNat→rl k=lo k∧rh k=hh k:=fun k hk=>by rw [hrl,hrh,hlo,hhi];exact rb k hk
 replace c26:=ua0.fitZ c26 (B:=(.tup [(.sl 2 (.sym fun _=>d.sn) (fun ix=>[(iv fun _=>rl ix.den.toNat),(iv fun _=>rh ix.den.toNat)])),(.bool (.lit true))])) (by rw [hrl,hrh];exact Fit.refl _)
 rw [←hlo,←hhi]at c30
 replace c30:=ua0.fitZ c30 (B:=(.tup [(.sl 2 (.sym fun _=>d.sn) (fun ix=>[(iv fun _=>lo ix.den.toNat),(iv fun _=>hh ix.den.toNat)])),(.int .i64 (.lit (0)))])) (qD (ua1 (by exact z1.2) (fun _ _ _=>Fit.refl _)) (qD (qE z1.1) qB))
 rw [←hlo,←hhi]at q2
 have rs:=rb2 s.toNat hss
 subst hb
 simp only [Bool.false_eq_true,if_false]at q2
 clear q he hT z2 hss
 clear rb hrl hrh z1 h hth hF hd hc hpv hlo hhi
 refine ua0.is fun R hR=>qW (sc:=utm) uai mix Tryz.func7 rfl Tryz.call7 (by kernel_rfl) (by kernel_rfl) ?_
 generalize Tryz.prog=P at c10 c36 c9 c12 c30 c33 c31 c32 c21 c34 c35 c26 c22 c34y h33⊢
 cbv
 repeat' (first|(with_reducible intro hcd;exfalso;(try simp only [zQ,zA,zB,zC,zD,zE,zF,zG,zH,zI,zJ,zK,zL,zM,zN,zO,zP,zR,zS]at hcd);omega)|with_reducible refine ua4 ?_ ?_|with_reducible refine And.intro ?_ ?_|(with_reducible intro hcd;(try simp only [zA,zB,zC,zD,zE,zF,zG,zH,zI,zJ,zK,zL,zM,zN,zO,zP]at hcd);try cbv)|(refine qP ?_ (c9) ?hfit;(case hfit=>((repeat' (first|exact qB|refine qD ?_ ?_|exact qE (by rfl)|exact qF (by rfl)|exact Fit.refl _|exact qA|refine qC ?_ rfl ?_));done));try cbv)|(refine qP ?_ (c12) ?hfit;(case hfit=>((repeat' (first|exact qB|refine qD ?_ ?_|exact qE (by rfl)|exact qF (by rfl)|exact Fit.refl _|exact qA|refine qC ?_ rfl ?_));done));try cbv)|(refine qP ?_ (c30) ?hfit;(case hfit=>((repeat' (first|exact qB|refine qD ?_ ?_|exact qE (by rfl)|exact qF (by rfl)|exact Fit.refl _|exact qA|refine qC ?_ rfl ?_));done));try cbv)|(refine qP ?_ (c33) ?hfit;(case hfit=>((repeat' (first|exact qB|refine qD ?_ ?_|exact qE (by rfl)|exact qF (by rfl)|exact Fit.refl _|exact qA|refine qC ?_ rfl ?_));done));try cbv)|(refine qP ?_ (c31) ?hfit;(case hfit=>((repeat' (first|exact qB|refine qD ?_ ?_|exact qE (by rfl)|exact qF (by rfl)|exact Fit.refl _|exact qA|refine qC ?_ rfl ?_));done));try cbv)|(refine qP ?_ (c32) ?hfit;(case hfit=>((repeat' (first|exact qB|refine qD ?_ ?_|exact qE (by rfl)|exact qF (by rfl)|exact Fit.refl _|exact qA|refine qC ?_ rfl ?_));done));try cbv)|(refine qP ?_ (c21) ?hfit;(case hfit=>((repeat' (first|exact qB|refine qD ?_ ?_|exact qE (by rfl)|exact qF (by rfl)|exact Fit.refl _|exact qA|refine qC ?_ rfl ?_));done));try cbv)|(refine qP ?_ (c34) ?hfit;(case hfit=>((repeat' (first|exact qB|refine qD ?_ ?_|exact qE (by rfl)|exact qF (by rfl)|exact Fit.refl _|exact qA|refine qC ?_ rfl ?_));done));try cbv)|(refine qP ?_ (c35) ?hfit;(case hfit=>((repeat' (first|exact qB|refine qD ?_ ?_|exact qE (by rfl)|exact qF (by rfl)|exact Fit.refl _|exact qA|refine qC ?_ rfl ?_));done));try cbv)|(refine qP ?_ (c26) ?hfit;(case hfit=>((repeat' (first|exact qB|refine qD ?_ ?_|exact qE (by rfl)|exact qF (by rfl)|exact Fit.refl _|exact qA|refine qC ?_ rfl ?_));done));try cbv)|(refine qP ?_ (c22) ?hfit;(case hfit=>((repeat' (first|exact qB|refine qD ?_ ?_|exact qE (by rfl)|exact qF (by rfl)|exact Fit.refl _|exact qA|refine qC ?_ rfl ?_));done));try cbv)|fail)
 all_goals first|((try simp only [qV]at *);(try simp only [zQ,zA,zB,zC,zD,zE,zF,zG,zH,zI,zJ,zK,zL,zM,zN,zO,zP,zR,zS]at *);first|(refine qN ?_;omega)|(simp only [uaj];omega))|(exfalso;exact(by assumption:¬True) True.intro)|(exfalso;exact Bool.noConfusion ((beq_self_eq_true pv).symm.trans (by assumption:(pv==pv)=false)))|skip
 refine⟨none,[],{i:Nat // i≤d.sn.toNat},fun x=>⟨[(1,(iv fun _=>s)),(2,(bv fun _=>false)),(4,.own 0 0),(9,(.sl 2 (.sym fun _=>d.sn) (fun ix=>[(iv fun _=>lo ix.den.toNat),(iv fun _=>hh ix.den.toNat)]))),(15,(.sl 2 (.sym fun _=>d.sn) (fun ix=>[(iv fun _=>rl ix.den.toNat),(iv fun _=>rh ix.den.toNat)]))),(17,(.int .i64 (.lit (0)))),(18,(iv fun _=>zi x.1)),(11,(iS TL))],[(0,.cells [(iS d.tw),(iS d.tm),(.sl 1 (.sym fun _=>zi (d.tv).length) (fun ix=>[(.sl 1 (.sym fun _=>zi ((d.tv).getD ix.den.toNat []).length) (fun jx=>[(iv fun _=>((d.tv).getD ix.den.toNat []).getD jx.den.toNat 0)]))])),(iv fun _=>d.sn),(iv fun _=>d.pn),(.sl 4 (.sym fun _=>zi (d.ls).length) (fun ix=>[(iv fun _=>((d.ls).getD ix.den.toNat l0T).a),(iv fun _=>((d.ls).getD ix.den.toNat l0T).b),(iv fun _=>((d.ls).getD ix.den.toNat l0T).lo),(iv fun _=>((d.ls).getD ix.den.toNat l0T).hi)])),(.sl 6 (.sym fun _=>zi (d.fs).length) (fun ix=>[(iv fun _=>((d.fs).getD ix.den.toNat f0T).p),(iv fun _=>((d.fs).getD ix.den.toNat f0T).s),(iv fun _=>((d.fs).getD ix.den.toNat f0T).wl),(iv fun _=>((d.fs).getD ix.den.toNat f0T).wh),(iv fun _=>((d.fs).getD ix.den.toNat f0T).ml),(iv fun _=>((d.fs).getD ix.den.toNat f0T).mh)]))] 29)],300⟩,fun x=>d.sn.toNat-x.1,?_,?_⟩
 ·refine⟨⟨0,by omega⟩,?_⟩
  cbv
  repeat' (first|with_reducible refine ua4 ?_ ?_|with_reducible refine And.intro ?_ ?_)
  all_goals first|exact True.intro|exact qM (qE (by rfl))|exact qM (qF (by rfl))|exact qM (Fit.refl _)|exact qL (qK _)|skip
 ·rintro ⟨i,hi⟩
  cbv
  repeat' (first|(with_reducible intro hcd;exfalso;(try simp only [zQ,zA,zB,zC,zD,zE,zF,zG,zH,zI,zJ,zK,zL,zM,zN,zO,zP,zR,zS]at hcd);omega)|with_reducible refine ua4 ?_ ?_|with_reducible refine And.intro ?_ ?_|(with_reducible intro hcd;(try simp only [zA,zB,zC,zD,zE,zF,zG,zH,zI,zJ,zK,zL,zM,zN,zO,zP]at hcd);try cbv)|(refine qP ?_ (c10) ?hfit;(case hfit=>((repeat' (first|exact qB|refine qD ?_ ?_|exact qE (by rfl)|exact qF (by rfl)|exact Fit.refl _|exact qA|refine qC ?_ rfl ?_));done));try cbv)|(refine qP ?_ (c34y) ?hfit;(case hfit=>((repeat' (first|exact qB|refine qD ?_ ?_|exact qE (by rfl)|exact qF (by rfl)|exact Fit.refl _|exact qA|refine qC ?_ rfl ?_));done));try cbv)|(refine qP ?_ (c36 (rl i) (rh i)) ?hfit;(case hfit=>((repeat' (first|exact qB|refine qD ?_ ?_|exact qE (by rfl)|exact qF (by rfl)|exact Fit.refl _|exact qA|refine qC ?_ rfl ?_));done));try cbv)|fail)
  all_goals first|(with_reducible refine uqA h33 ?_ ?_)<;>simp only [List.length_cons,List.length_nil]|(subst hR;exact Fit.refl _)|(exfalso;(have q9:=rb2 i (by((try simp only [qV]at *);(try simp only [zQ,zA,zB,zC,zD,zE,zF,zG,zH,zI,zJ,zK,zL,zM,zN,zO,zP,zR,zS]at *);omega)));exact ulJ (by assumption) ⟨q9.1.symm,q9.2.symm⟩)|((try simp only [qV]at *);(try simp only [zQ,zA,zB,zC,zD,zE,zF,zG,zH,zI,zJ,zK,zL,zM,zN,zO,zP,zR,zS]at *);simp only [uaj];first|omega|exact⟨by omega,by omega⟩)|(exfalso;exact Bool.noConfusion (by assumption:true=false))|((try simp only [zQ,zA,zB,zC,zD,zE,zF,zG,zH,zI,zJ,zK,zL,zM,zN,zO,zP,zR,zS]at *);refine⟨⟨i+1,(by((try simp only [qV]at *);(try simp only [zQ,zA,zB,zC,zD,zE,zF,zG,zH,zI,zJ,zK,zL,zM,zN,zO,zP,zR,zS]at *);omega))⟩,by simp only [];omega,?_⟩;cbv;(repeat' (first|with_reducible refine ua4 ?_ ?_|with_reducible refine And.intro ?_ ?_));(all_goals first|exact True.intro|exact qM (qE (by rfl))|exact qM (qF (by rfl))|exact qM (Fit.refl _)|exact qL (qK _)|(refine qM (qE ?_);(try simp only [qV]at *);simp only [zQ,zA,zB,zC,zD,zE,zF,zG,zH,zI,zJ,zK,zL,zM,zN,zO,zP,zR,zS]at *;omega)|(refine qL (qJ ?_);(repeat' (first|exact qA|exact qB|refine qC ?_ rfl ?_|refine qD ?_ ?_|exact qE (by rfl)|exact qF (by rfl)|exact Fit.refl _|exact qG _|(refine qE ?_;(try simp only [qV]at *);simp only [zQ,zA,zB,zC,zD,zE,zF,zG,zH,zI,zJ,zK,zL,zM,zN,zO,zP,zR,zS]at *;omega)));done)|skip))|skip
theorem uBa (d:Dsp)(s:Int)(b:Bool)(t:List Int):ua0 Tryz.prog 7 [(ub0 d),(iv fun _=>s),(bv fun _=>b),(iS t)] [] (fun r _=>r = .bool (.lit true)):=by
 cases h:udV d with
 |false=>exact uzV d s b t h
 | true=>
  by_cases ht:t.length≤9
  ·by_cases hF:ua5 d=0
   ·by_cases ho:0≤s∧s≤d.sn-1
    ·cases hc:ud3 d d.fs []with
     |false=>exact uAb d s b t h ht hF hc ho
     | true=>
      cases hb:b
      ·exact uxs d s false t h ht hF hc ho rfl
      ·exact ux3 d s true t h ht hF hc ho rfl
    ·cases hc:ud3 d d.fs []with
     |false=>exact uz8 d s b t h ht hF hc ho
     |true=>exact uzE d s b t h ht hF hc ho
   ·exact uA9 d s b t h ht hF
  ·exact uzM d s b t h (by omega)
end Go.Proofs.YtkdggbfknlcdaaaGreat
