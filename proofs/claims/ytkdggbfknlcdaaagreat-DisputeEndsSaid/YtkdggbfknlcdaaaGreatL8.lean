/- DisputeEnds: what the law computes. No condition. -/
import Derived.Test.YtkdggbfknlcdaaaGreatT7
set_option linter.unusedVariables false
set_option linter.unusedSimpArgs false
set_option linter.deprecated false
set_option linter.all false

namespace Go.Proofs.YtkdggbfknlcdaaaGreat
open Go Go.Eng Go.Proofs Go.Eng.Dif Go.Eng.Few
set_option maxRecDepth 10000
def uuE :SC:=[(16,[⟨0,false,[],false,0,none⟩,⟨1,false,[],false,0,none⟩,⟨2,false,[0,1],false,0,none⟩,⟨3,false,[0,1,2],false,0,none⟩,⟨4,false,[],false,0,none⟩,⟨5,true,[0,1,2,3,4],false,0,none⟩,⟨6,true,[0,1,2,3,4,5],true,0,none⟩,⟨7,true,[0,1,2,3,4,5,6],false,0,none⟩,⟨8,true,[0,1,2,3,4,5,6,7],false,0,none⟩,⟨9,true,[0,1,2,3,4,5,6,7,8],true,0,none⟩,⟨10,false,[0,1,2,3,4,5,6,7,8,9],false,0,none⟩,⟨11,false,[0,1,2,3,4,5,6,7,8,9,10],false,0,none⟩,⟨12,false,[0,1,2,3,4,5,6,7,8,9],false,0,none⟩,⟨13,false,[0,1,2,3,4,5,6,7,8,9,12],false,0,none⟩,⟨14,true,[0,1,2,3,4,5,6,7,8,9,10,11,12,13],false,0,none⟩,⟨15,true,[0,1,2,3,4,5,6,7,8,9,10,11,12,13,14],true,0,none⟩,⟨16,false,[0,1,2,3,4,5,6,7,8,9,10,11,12,13,14,15],false,0,none⟩,⟨17,false,[0,1,2,3,4,5,6,7,8,9,10,11,12,13,14,15],false,0,none⟩,⟨18,false,[0,1,2,3,4,5,6,7,8,9,10,11,12,13,14,15,16,17],false,0,none⟩,⟨19,false,[0,1,2,3,4,5,6,7,8,9,10,11,12,13,14,15,16,17,18],false,0,none⟩,⟨20,false,[0,1,2,3,4,5,6,7,8,9,10,11,12,13,14,15],false,0,none⟩,⟨21,false,[0,1,2,3,4,5,6,7,8,9,10,11,12,13,14,15],false,0,none⟩,⟨22,false,[0,1,2,3,4,5,6,7,8,9,10,11,12,13,14,15,20,21],false,0,none⟩,⟨23,false,[0,1,2,3,4,5,6,7,8,9,10,11,12,13,14,15,20,21,22],false,0,none⟩,⟨24,false,[0,1,2,3,4,5,6,7,8,9,10,11,12,13,14,15,20,21,22,23],false,0,none⟩,⟨25,true,[0,1,2,3,4,5,6,7,8,9,10,11,12,13,14,15,16,17,18,19,20,21,22,23,24],false,0,none⟩,⟨26,true,[0,1,2,3,4,5,6,7,8,9,10,11,12,13,14,15,16,17,18,19,20,21,22,23,24,25],false,0,none⟩,⟨27,true,[0,1,2,3,4,5,6,7,8,9,10,11,12,13,14,15,16,17,18,19,20,21,22,23,24,25,26],true,0,none⟩,⟨28,false,[0,1,2,3,4,5,6,7,8,9,10,11,12,13,14,15,16,17,18,19,20,21,22,23,24,25,26,27],false,0,none⟩,⟨29,false,[0,1,2,3,4,5,6,7,8,9,10,11,12,13,14,15,16,17,18,19,20,21,22,23,24,25,26,27],false,0,none⟩,⟨30,false,[0,1,2,3,4,5,6,7,8,9,10,11,12,13,14,15,16,17,18,19,20,21,22,23,24,25,26,27,28,29],false,0,none⟩,⟨31,false,[0,1,2,3,4,5,6,7,8,9,10,11,12,13,14,15,16,17,18,19,20,21,22,23,24,25,26,27,28,29,30],false,0,none⟩,⟨32,false,[0,1,2,3,4,5,6,7,8,9,10,11,12,13,14,15,16,17,18,19,20,21,22,23,24,25,26,27],false,0,none⟩,⟨33,false,[0,1,2,3,4,5,6,7,8,9,10,11,12,13,14,15,16,17,18,19,20,21,22,23,24,25,26,27],false,0,none⟩,⟨34,false,[0,1,2,3,4,5,6,7,8,9,10,11,12,13,14,15,16,17,18,19,20,21,22,23,24,25,26,27,32,33],false,0,none⟩,⟨35,false,[0,1,2,3,4,5,6,7,8,9,10,11,12,13,14,15,16,17,18,19,20,21,22,23,24,25,26,27,32,33,34],false,0,none⟩,⟨36,false,[0,1,2,3,4,5,6,7,8,9,10,11,12,13,14,15,16,17,18,19,20,21,22,23,24,25,26,27,32,33,34,35],false,0,none⟩,⟨37,true,[0,1,2,3,4,5,6,7,8,9,10,11,12,13,14,15,16,17,18,19,20,21,22,23,24,25,26,27,28,29,30,31,32,33,34,35,36],false,0,none⟩,⟨38,true,[0,1,2,3,4,5,6,7,8,9,10,11,12,13,14,15,16,17,18,19,20,21,22,23,24,25,26,27,28,29,30,31,32,33,34,35,36,37],false,0,none⟩,⟨39,true,[0,1,2,3,4,5,6,7,8,9,10,11,12,13,14,15,16,17,18,19,20,21,22,23,24,25,26,27,28,29,30,31,32,33,34,35,36,37,38],false,0,none⟩,⟨40,true,[0,1,2,3,4,5,6,7,8,9,10,11,12,13,14,15,16,17,18,19,20,21,22,23,24,25,26,27,28,29,30,31,32,33,34,35,36,37,38,39],false,0,none⟩,⟨41,true,[0,1,2,3,4,5,6,7,8,9,10,11,12,13,14,15,16,17,18,19,20,21,22,23,24,25,26,27,28,29,30,31,32,33,34,35,36,37,38,39,40],true,0,none⟩,⟨42,true,[0,1,2,3,4,5,6,7,8,9,10,11,12,13,14,15,16,17,18,19,20,21,22,23,24,25,26,27,28,29,30,31,32,33,34,35,36,37,38,39,40,41],false,0,none⟩,⟨43,true,[0,1,2,3,4,5,6,7,8,9,10,11,12,13,14,15,16,17,18,19,20,21,22,23,24,25,26,27,28,29,30,31,32,33,34,35,36,37,38,39,40,41,42],false,0,none⟩,⟨44,true,[0,1,2,3,4,5,6,7,8,9,10,11,12,13,14,15,16,17,18,19,20,21,22,23,24,25,26,27,28,29,30,31,32,33,34,35,36,37,38,39,40,41,42,43],false,0,none⟩])]
theorem ueE (d:Dsp):ua0 Tryz.prog 28 [(ub5 d)] [] (fun r _=>r=(bv fun _=>udh d)):=by
 have c11:=uvF d
 have c47:=uuU d
 refine ua0.is fun R hR=>qW (sc:=uAp) uaj mix Tryz.func28 rfl Tryz.call28 (by kernel_rfl) (by kernel_rfl) ?_
 generalize Tryz.prog=P at c11 c47⊢
 cbv
 repeat' (first|with_reducible refine And.intro ?_ ?_|(with_reducible intro hcd;(try simp only [zA,zB,zC,zD,zE,zF,zG,zH,zI,zJ,zK,zL,zM,zN,zO,zP]at hcd);try cbv)|(refine qP ?_ (c11) ?hfit;(case hfit=>((repeat' (first|exact qB|refine qD ?_ ?_|exact qE (by rfl)|exact qF (by rfl)|exact Fit.refl _|exact qA|refine qC ?_ rfl ?_));done));try cbv)|(refine qP ?_ (c47) ?hfit;(case hfit=>((repeat' (first|exact qB|refine qD ?_ ?_|exact qE (by rfl)|exact qF (by rfl)|exact Fit.refl _|exact qA|refine qC ?_ rfl ?_));done));try cbv)|fail)
 all_goals first|(subst hR;(refine qF ?_;(try simp only [qV]at *);(try simp only [zQ,zA,zB,zC,zD,zE,zF,zG,zH,zI,zJ,zK,zL,zM,zN,zO,zP,zR,zS]at *);first|(unfold udh;simp_all;done)|(unfold udh;rw [show ug9 d=true by assumption,Bool.true_and];first|rfl|(apply Bool.eq_iff_iff.2;simp only [decide_eq_true_eq])));done)|skip
def ud6 (f:Nat→Int)(n:Nat):List Int:=(List.range n).map f
theorem ubb (f:Nat→Int)(n:Nat):(ud6 f n).length=n:=by unfold ud6;rw [List.length_map,List.length_range]
theorem upn {f:Nat→Int} {n i:Nat}(h:i<n):(ud6 f n).getD i 0=f i:=by
 unfold ud6
 rw [List.getD_eq_getElem?_getD,List.getElem?_map,List.getElem?_range h];rfl
theorem ui8 {f:Nat→Int} {n:IX} {N:Nat}(h:n.den=(N:Int)):Fit (.sl 1 n (fun ix=>[(iv fun _=>f ix.den.toNat)])) (iS (ud6 f N)):=by
 refine ua1 ?_ (fun ix h0 h1=>qC (qE ?_) rfl qA)
 ·show n.den=zi (ud6 f N).length
  rw [ubb,h];rfl
 ·show f ix.den.toNat=(ud6 f N).getD ix.den.toNat 0
  rw [h]at h1
  rw [upn (by omega)]
theorem uge {d:Dsp}(hd:DOk d)(hc:ud7 d d.fs []=true) {s:Nat}(hs:s<SN d)(b:Bool):(uhc d (ud6 (uav d s b) d.sn.toNat)&&ftT d (ud6 (uav d s b) d.sn.toNat))=true∧(ud6 (uav d s b) d.sn.toNat).getD s 0=udP d s b:=by
 have s1:=hd.s1
 have q:=uoi hd hc hs b
 have hn:((ud6 (uav d s b) d.sn.toNat).length:Int)=d.sn:=by rw [ubb];omega
 constructor
 ·rw [uoO hd hn]
  have e:∀i,i<SN d→(ud6 (uav d s b) d.sn.toNat).getD i 0=uav d s b i:=fun i hi=>upn hi
  have hk:=okk hd hd.f
  refine⟨fun i hi=>by rw [e i hi];exact q.1.r i hi,fun k hk'=> ?_,fun k hk'=> ?_⟩
  ·have a:=hk.l k hk'
   show k.lo≤(ud6 (uav d s b) d.sn.toNat).getD k.b 0-(ud6 (uav d s b) d.sn.toNat).getD k.a 0∧(ud6 (uav d s b) d.sn.toNat).getD k.b 0-(ud6 (uav d s b) d.sn.toNat).getD k.a 0≤k.hi
   rw [e _ a.1,e _ a.2.1]
   exact q.1.l k hk'
  ·have a:=hk.f k hk'
   show k.lo≤(ud6 (uav d s b) d.sn.toNat).getD k.s 0∧(ud6 (uav d s b) d.sn.toNat).getD k.s 0≤k.hi
   rw [e _ a]
   exact q.1.f k hk'
 ·rw [upn (show s<d.sn.toNat from hs)];exact q.2
theorem udb {f:FuncId} {args:List SV} {b c:Bool}(h:ua0 Tryz.prog f args [] (fun r _=>r = (bv fun _=>b)))(hb:b=c):ua0 Tryz.prog f args [] (fun r _=>r = .bool (.lit c)):=h.post fun r bs q=>⟨_,by subst q;exact qF hb,rfl⟩
theorem uym (d:Dsp)(w:Int)(b:Bool)(t:List Int)(h:udh d=false):ua0 Tryz.prog 8 [(ub5 d),(.int .u8 (.sym fun _=>w)),(bv fun _=>b),(iS t)] [] (fun r _=>r=(.bool (.lit true))):=by
 have c28:=uwW (ueE d) h
 have c10:=ueG
 refine ua0.is fun R hR=>qW (sc:=uuE) uaj mix Tryz.func8 rfl Tryz.call8 (by kernel_rfl) (by kernel_rfl) ?_
 generalize Tryz.prog=P at c28 c10⊢
 cbv
 repeat' (first|(refine qP ?_ (c28) ?hfit;(case hfit=>((repeat' (first|exact qB|refine qD ?_ ?_|exact qE (by rfl)|exact qF (by rfl)|exact Fit.refl _|exact qA|refine qC ?_ rfl ?_));done));try cbv)|(refine qP ?_ (c10) ?hfit;(case hfit=>((repeat' (first|exact qB|refine qD ?_ ?_|exact qE (by rfl)|exact qF (by rfl)|exact Fit.refl _|exact qA|refine qC ?_ rfl ?_));done));try cbv)|fail)
 all_goals first|(subst hR;(repeat' (first|exact qA|exact qB|refine qC ?_ rfl ?_|refine qD ?_ ?_|exact qE (by rfl)|exact qF (by rfl)|exact Fit.refl _|exact qG _|(refine qE ?_;(try simp only [qV]at *);simp only [zQ,zA,zB,zC,zD,zE,zF,zG,zH,zI,zJ,zK,zL,zM,zN,zO,zP,zR,zS]at *;omega)));done)|skip
theorem uzh (d:Dsp)(w:Int)(b:Bool)(t:List Int)(h:udh d=true)(ht:9<t.length):ua0 Tryz.prog 8 [(ub5 d),(.int .u8 (.sym fun _=>w)),(bv fun _=>b),(iS t)] [] (fun r _=>r=(.bool (.lit true))):=by
 have c28:=uhL (ueE d) h
 have c10:=ueG
 refine ua0.is fun R hR=>qW (sc:=uuE) uaj mix Tryz.func8 rfl Tryz.call8 (by kernel_rfl) (by kernel_rfl) ?_
 generalize Tryz.prog=P at c28 c10⊢
 cbv
 repeat' (first|(with_reducible intro hcd;exfalso;(try simp only [zQ,zA,zB,zC,zD,zE,zF,zG,zH,zI,zJ,zK,zL,zM,zN,zO,zP,zR,zS]at hcd);omega)|with_reducible refine And.intro ?_ ?_|(with_reducible intro hcd;(try simp only [zA,zB,zC,zD,zE,zF,zG,zH,zI,zJ,zK,zL,zM,zN,zO,zP]at hcd);try cbv)|(refine qP ?_ (c28) ?hfit;(case hfit=>((repeat' (first|exact qB|refine qD ?_ ?_|exact qE (by rfl)|exact qF (by rfl)|exact Fit.refl _|exact qA|refine qC ?_ rfl ?_));done));try cbv)|(refine qP ?_ (c10) ?hfit;(case hfit=>((repeat' (first|exact qB|refine qD ?_ ?_|exact qE (by rfl)|exact qF (by rfl)|exact Fit.refl _|exact qA|refine qC ?_ rfl ?_));done));try cbv)|fail)
 all_goals first|(subst hR;(repeat' (first|exact qA|exact qB|refine qC ?_ rfl ?_|refine qD ?_ ?_|exact qE (by rfl)|exact qF (by rfl)|exact Fit.refl _|exact qG _|(refine qE ?_;(try simp only [qV]at *);simp only [zQ,zA,zB,zC,zD,zE,zF,zG,zH,zI,zJ,zK,zL,zM,zN,zO,zP,zR,zS]at *;omega)));done)|skip
theorem ugz {a b q:Int} {K:Int→Prop}(h:K q)(hb:uam (b≠0))(hq:a.tmod b=q):∃q,(∀_:Unit,urk a b q)∧K q:=by
 subst hq
 exact qT h hb
theorem uyJ (d:Dsp)(w:Int)(b:Bool)(t:List Int)(h:udh d=true)(ht:t.length≤9)(hw:0≤w∧w≤255)(s:Int)(hs:w.tmod d.sn=s)(hc:ud7 d d.fs []=false):ua0 Tryz.prog 8 [(ub5 d),(.int .u8 (.sym fun _=>w)),(bv fun _=>b),(iS t)] [] (fun r _=>r=(.bool (.lit true))):=by
 have c10:=ueG
 have hth:=ugZ.1 (ucc.1 h).1
 have hF:=(ucc.1 h).2
 have hd:=ua2.1 hF
 have s1:=hd.s1
 have s3:=hd.s3
 have c28:=uhL (ueE d) h
 have c12:=ue0 d hth.1 (by omega) (by omega)
 have c30:=uet d
 have c33:=uj3 d s b
 have c31:=udw d t (by omega)
 have c32:=ueO t (by omega)
 have hsi:=ujr hw.1 s1
 rw [hs]at hsi
 have z1:=ukI hF hc
 have z2:=umP hF hsi hc
 have hp:ueN d t=false:=Bool.eq_false_iff.2 fun q=>by rw [(uo4 hd q).1]at hc;cases hc
 replace c31:=udb c31 hp
 replace c30:=ua0.fitZ c30 (B:=(.tup [(.sl 2 (.lit 0) (fun _=>[])),(.int .i64 (.lit (11)))])) (qD (umq (by exact z1.2) rfl) (qD (qE z1.1) qB))
 replace c33:=ua0.fitZ c33 (B:=(.tup [(.sl 1 (.lit 0) (fun _=>[])),(.int .i64 (.lit (11)))])) (qD (umq (by exact ugw (by omega)) rfl) (qD (qE z2) qB))
 clear z1 z2 hp h hth hF hd hc
 refine ua0.is fun R hR=>qW (sc:=uuE) uaj mix Tryz.func8 rfl Tryz.call8 (by kernel_rfl) (by kernel_rfl) ?_
 generalize Tryz.prog=P at c10 c28 c12 c30 c33 c31 c32⊢
 cbv
 repeat' (first|(refine ugz ?_ ?_ (show _=s from hs);try cbv)|(with_reducible intro hcd;exfalso;(try simp only [zQ,zA,zB,zC,zD,zE,zF,zG,zH,zI,zJ,zK,zL,zM,zN,zO,zP,zR,zS]at hcd);omega)|with_reducible refine ua4 ?_ ?_|with_reducible refine And.intro ?_ ?_|(with_reducible intro hcd;(try simp only [zA,zB,zC,zD,zE,zF,zG,zH,zI,zJ,zK,zL,zM,zN,zO,zP]at hcd);try cbv)|(refine qP ?_ (c28) ?hfit;(case hfit=>((repeat' (first|exact qB|refine qD ?_ ?_|exact qE (by rfl)|exact qF (by rfl)|exact Fit.refl _|exact qA|refine qC ?_ rfl ?_));done));try cbv)|(refine qP ?_ (c10) ?hfit;(case hfit=>((repeat' (first|exact qB|refine qD ?_ ?_|exact qE (by rfl)|exact qF (by rfl)|exact Fit.refl _|exact qA|refine qC ?_ rfl ?_));done));try cbv)|(refine qP ?_ (c12) ?hfit;(case hfit=>((repeat' (first|exact qB|refine qD ?_ ?_|exact qE (by rfl)|exact qF (by rfl)|exact Fit.refl _|exact qA|refine qC ?_ rfl ?_));done));try cbv)|(refine qP ?_ (c30) ?hfit;(case hfit=>((repeat' (first|exact qB|refine qD ?_ ?_|exact qE (by rfl)|exact qF (by rfl)|exact Fit.refl _|exact qA|refine qC ?_ rfl ?_));done));try cbv)|(refine qP ?_ (c33) ?hfit;(case hfit=>((repeat' (first|exact qB|refine qD ?_ ?_|exact qE (by rfl)|exact qF (by rfl)|exact Fit.refl _|exact qA|refine qC ?_ rfl ?_));done));try cbv)|(refine qP ?_ (c31) ?hfit;(case hfit=>((repeat' (first|exact qB|refine qD ?_ ?_|exact qE (by rfl)|exact qF (by rfl)|exact Fit.refl _|exact qA|refine qC ?_ rfl ?_));done));try cbv)|(refine qP ?_ (c32) ?hfit;(case hfit=>((repeat' (first|exact qB|refine qD ?_ ?_|exact qE (by rfl)|exact qF (by rfl)|exact Fit.refl _|exact qA|refine qC ?_ rfl ?_));done));try cbv)|fail)
 all_goals first|((try simp only [qV]at *);(try simp only [zQ,zA,zB,zC,zD,zE,zF,zG,zH,zI,zJ,zK,zL,zM,zN,zO,zP,zR,zS]at *);first|(refine qN ?_;omega)|(simp only [uam];omega))|(subst hR;(repeat' (first|exact qA|exact qB|refine qC ?_ rfl ?_|refine qD ?_ ?_|exact qE (by rfl)|exact qF (by rfl)|exact Fit.refl _|exact qG _|(refine qE ?_;(try simp only [qV]at *);simp only [zQ,zA,zB,zC,zD,zE,zF,zG,zH,zI,zJ,zK,zL,zM,zN,zO,zP,zR,zS]at *;omega)));done)|skip
theorem uvH (d:Dsp)(w:Int)(b:Bool)(t:List Int)(h:udh d=true)(ht:t.length≤9)(hw:0≤w∧w≤255)(s:Int)(hs:w.tmod d.sn=s)(hc:ud7 d d.fs []=true)(hp:ueN d t=true)(hb:b=true):ua0 Tryz.prog 8 [(ub5 d),(.int .u8 (.sym fun _=>w)),(bv fun _=>b),(iS t)] [] (fun r _=>r=(.bool (.lit true))):=by
 have c10:=ueG
 have hth:=ugZ.1 (ucc.1 h).1
 have hF:=(ucc.1 h).2
 have hd:=ua2.1 hF
 have s1:=hd.s1
 have s3:=hd.s3
 have c28:=uhL (ueE d) h
 have c12:=ue0 d hth.1 (by omega) (by omega)
 have c30:=uet d
 have c33:=uj3 d s b
 have c31:=udw d t (by omega)
 have c32:=ueO t (by omega)
 have hsi:=ujr hw.1 s1
 rw [hs]at hsi
 have z1:=udv hF hc
 have z2:=udZ hF hsi hc
 have hss:s.toNat<SN d:=by unfold SN;omega
 have q:=uge hd hc hss b
 have c34:=ueT d (ud6 (uav d s.toNat b) d.sn.toNat) hd (by rw [ubb];omega)
 have c31y:=udw d (ud6 (uav d s.toNat b) d.sn.toNat) (by rw [ubb];omega)
 have c32y:=ueO (ud6 (uav d s.toNat b) d.sn.toNat) (by rw [ubb];omega)
 replace c34:=udb c34 q.1
 replace c31y:=udb c31y ((ufP hF).trans q.1)
 have hrl:=ubb (uav d s.toNat b) d.sn.toNat
 replace c33:=ua0.fitZ c33 (B:=(.tup [(.sl 1 (.sym fun _=>zi ((ud6 (uav d s.toNat b) d.sn.toNat)).length) (fun ix=>[(iv fun _=>((ud6 (uav d s.toNat b) d.sn.toNat)).getD ix.den.toNat 0)])),(.int .i64 (.lit (0)))])) (qD (ui8 (by show shN d s=(d.sn.toNat:Int);rw [z2.2];omega)) (qD (qE z2.1) qB))
 have he:udP d s.toNat b=if b=true then hiT d [] s.toNat else loT d [] s.toNat:=rfl
 have hin:=fun p:ueN d t=true=>(uo4 hd p).2
 have hin2:ueN d t=true→zi t.length=d.sn∧loT d [] s.toNat≤t.getD s.toNat 0∧t.getD s.toNat 0≤hiT d [] s.toNat:=fun p=>⟨(hin p).1,(hin p).2 _ hss⟩
 have q2:=q.2
 rw [he]at q2
 obtain⟨TL,hT⟩:∃L,L=ud6 (uav d s.toNat b) d.sn.toNat:=⟨_,rfl⟩
 rw [←hT]at c33 c34 c31y c32y hrl q2
 obtain⟨lo,hlo⟩:∃f,f=loT d []:=⟨_,rfl⟩
 obtain⟨hh,hhi⟩:∃f,f=hiT d []:=⟨_,rfl⟩
 rw [←hlo]at c30 hin2 q2
 rw [←hhi]at c30 hin2 q2
 replace c30:=ua0.fitZ c30 (B:=(.tup [(.sl 2 (.sym fun _=>d.sn) (fun ix=>[(iv fun _=>lo ix.den.toNat),(iv fun _=>hh ix.den.toNat)])),(.int .i64 (.lit (0)))])) (qD (ua1 (by exact z1.2) (fun _ _ _=>Fit.refl _)) (qD (qE z1.1) qB))
 obtain⟨pv,hpv⟩:∃p,p=ueN d t:=⟨_,rfl⟩
 rw [←hpv]at c31 hin2
 have hpw:pv=true:=by rw [hpv];exact hp
 clear hin q he hT hlo hhi z1 z2 h hth hF hd hc hss hpv hp
 replace c31:=udb c31 hpw
 have hin3:=hin2 hpw
 clear hin2
 subst hb
 simp only [if_true]at q2
 refine ua0.is fun R hR=>qW (sc:=uuE) uaj mix Tryz.func8 rfl Tryz.call8 (by kernel_rfl) (by kernel_rfl) ?_
 generalize Tryz.prog=P at c10 c28 c12 c30 c33 c31 c32 c34 c31y c32y⊢
 cbv
 repeat' (first|(refine ugz ?_ ?_ (show _=s from hs);try cbv)|(with_reducible intro hcd;exfalso;(try simp only [zQ,zA,zB,zC,zD,zE,zF,zG,zH,zI,zJ,zK,zL,zM,zN,zO,zP,zR,zS]at hcd);omega)|with_reducible refine ua4 ?_ ?_|with_reducible refine And.intro ?_ ?_|(with_reducible intro hcd;(try simp only [zA,zB,zC,zD,zE,zF,zG,zH,zI,zJ,zK,zL,zM,zN,zO,zP]at hcd);try cbv)|(refine qP ?_ (c28) ?hfit;(case hfit=>((repeat' (first|exact qB|refine qD ?_ ?_|exact qE (by rfl)|exact qF (by rfl)|exact Fit.refl _|exact qA|refine qC ?_ rfl ?_));done));try cbv)|(refine qP ?_ (c10) ?hfit;(case hfit=>((repeat' (first|exact qB|refine qD ?_ ?_|exact qE (by rfl)|exact qF (by rfl)|exact Fit.refl _|exact qA|refine qC ?_ rfl ?_));done));try cbv)|(refine qP ?_ (c12) ?hfit;(case hfit=>((repeat' (first|exact qB|refine qD ?_ ?_|exact qE (by rfl)|exact qF (by rfl)|exact Fit.refl _|exact qA|refine qC ?_ rfl ?_));done));try cbv)|(refine qP ?_ (c30) ?hfit;(case hfit=>((repeat' (first|exact qB|refine qD ?_ ?_|exact qE (by rfl)|exact qF (by rfl)|exact Fit.refl _|exact qA|refine qC ?_ rfl ?_));done));try cbv)|(refine qP ?_ (c33) ?hfit;(case hfit=>((repeat' (first|exact qB|refine qD ?_ ?_|exact qE (by rfl)|exact qF (by rfl)|exact Fit.refl _|exact qA|refine qC ?_ rfl ?_));done));try cbv)|(refine qP ?_ (c31) ?hfit;(case hfit=>((repeat' (first|exact qB|refine qD ?_ ?_|exact qE (by rfl)|exact qF (by rfl)|exact Fit.refl _|exact qA|refine qC ?_ rfl ?_));done));try cbv)|(refine qP ?_ (c32) ?hfit;(case hfit=>((repeat' (first|exact qB|refine qD ?_ ?_|exact qE (by rfl)|exact qF (by rfl)|exact Fit.refl _|exact qA|refine qC ?_ rfl ?_));done));try cbv)|(refine qP ?_ (c34) ?hfit;(case hfit=>((repeat' (first|exact qB|refine qD ?_ ?_|exact qE (by rfl)|exact qF (by rfl)|exact Fit.refl _|exact qA|refine qC ?_ rfl ?_));done));try cbv)|(refine qP ?_ (c31y) ?hfit;(case hfit=>((repeat' (first|exact qB|refine qD ?_ ?_|exact qE (by rfl)|exact qF (by rfl)|exact Fit.refl _|exact qA|refine qC ?_ rfl ?_));done));try cbv)|(refine qP ?_ (c32y) ?hfit;(case hfit=>((repeat' (first|exact qB|refine qD ?_ ?_|exact qE (by rfl)|exact qF (by rfl)|exact Fit.refl _|exact qA|refine qC ?_ rfl ?_));done));try cbv)|fail)
 all_goals first|((try simp only [qV]at *);(try simp only [zQ,zA,zB,zC,zD,zE,zF,zG,zH,zI,zJ,zK,zL,zM,zN,zO,zP,zR,zS]at *);first|(refine qN ?_;omega)|(simp only [uam];omega))|(subst hR;(repeat' (first|exact qA|exact qB|refine qC ?_ rfl ?_|refine qD ?_ ?_|exact qE (by rfl)|exact qF (by rfl)|exact Fit.refl _|exact qG _|(refine qE ?_;(try simp only [qV]at *);simp only [zQ,zA,zB,zC,zD,zE,zF,zG,zH,zI,zJ,zK,zL,zM,zN,zO,zP,zR,zS]at *;omega)));done)|(exfalso;exact(by assumption:¬True) True.intro)|(exfalso;(try simp only [qV]at *);(try simp only [zQ,zA,zB,zC,zD,zE,zF,zG,zH,zI,zJ,zK,zL,zM,zN,zO,zP,zR,zS]at *);omega)|(exfalso;exact Bool.noConfusion (by assumption:true=false))|skip
theorem uvV (d:Dsp)(w:Int)(b:Bool)(t:List Int)(h:udh d=true)(ht:t.length≤9)(hw:0≤w∧w≤255)(s:Int)(hs:w.tmod d.sn=s)(hc:ud7 d d.fs []=true)(hp:ueN d t=true)(hb:b=false):ua0 Tryz.prog 8 [(ub5 d),(.int .u8 (.sym fun _=>w)),(bv fun _=>b),(iS t)] [] (fun r _=>r=(.bool (.lit true))):=by
 have c10:=ueG
 have hth:=ugZ.1 (ucc.1 h).1
 have hF:=(ucc.1 h).2
 have hd:=ua2.1 hF
 have s1:=hd.s1
 have s3:=hd.s3
 have c28:=uhL (ueE d) h
 have c12:=ue0 d hth.1 (by omega) (by omega)
 have c30:=uet d
 have c33:=uj3 d s b
 have c31:=udw d t (by omega)
 have c32:=ueO t (by omega)
 have hsi:=ujr hw.1 s1
 rw [hs]at hsi
 have z1:=udv hF hc
 have z2:=udZ hF hsi hc
 have hss:s.toNat<SN d:=by unfold SN;omega
 have q:=uge hd hc hss b
 have c34:=ueT d (ud6 (uav d s.toNat b) d.sn.toNat) hd (by rw [ubb];omega)
 have c31y:=udw d (ud6 (uav d s.toNat b) d.sn.toNat) (by rw [ubb];omega)
 have c32y:=ueO (ud6 (uav d s.toNat b) d.sn.toNat) (by rw [ubb];omega)
 replace c34:=udb c34 q.1
 replace c31y:=udb c31y ((ufP hF).trans q.1)
 have hrl:=ubb (uav d s.toNat b) d.sn.toNat
 replace c33:=ua0.fitZ c33 (B:=(.tup [(.sl 1 (.sym fun _=>zi ((ud6 (uav d s.toNat b) d.sn.toNat)).length) (fun ix=>[(iv fun _=>((ud6 (uav d s.toNat b) d.sn.toNat)).getD ix.den.toNat 0)])),(.int .i64 (.lit (0)))])) (qD (ui8 (by show shN d s=(d.sn.toNat:Int);rw [z2.2];omega)) (qD (qE z2.1) qB))
 have he:udP d s.toNat b=if b=true then hiT d [] s.toNat else loT d [] s.toNat:=rfl
 have hin:=fun p:ueN d t=true=>(uo4 hd p).2
 have hin2:ueN d t=true→zi t.length=d.sn∧loT d [] s.toNat≤t.getD s.toNat 0∧t.getD s.toNat 0≤hiT d [] s.toNat:=fun p=>⟨(hin p).1,(hin p).2 _ hss⟩
 have q2:=q.2
 rw [he]at q2
 obtain⟨TL,hT⟩:∃L,L=ud6 (uav d s.toNat b) d.sn.toNat:=⟨_,rfl⟩
 rw [←hT]at c33 c34 c31y c32y hrl q2
 obtain⟨lo,hlo⟩:∃f,f=loT d []:=⟨_,rfl⟩
 obtain⟨hh,hhi⟩:∃f,f=hiT d []:=⟨_,rfl⟩
 rw [←hlo]at c30 hin2 q2
 rw [←hhi]at c30 hin2 q2
 replace c30:=ua0.fitZ c30 (B:=(.tup [(.sl 2 (.sym fun _=>d.sn) (fun ix=>[(iv fun _=>lo ix.den.toNat),(iv fun _=>hh ix.den.toNat)])),(.int .i64 (.lit (0)))])) (qD (ua1 (by exact z1.2) (fun _ _ _=>Fit.refl _)) (qD (qE z1.1) qB))
 obtain⟨pv,hpv⟩:∃p,p=ueN d t:=⟨_,rfl⟩
 rw [←hpv]at c31 hin2
 have hpw:pv=true:=by rw [hpv];exact hp
 clear hin q he hT hlo hhi z1 z2 h hth hF hd hc hss hpv hp
 replace c31:=udb c31 hpw
 have hin3:=hin2 hpw
 clear hin2
 subst hb
 simp only [Bool.false_eq_true,if_false]at q2
 refine ua0.is fun R hR=>qW (sc:=uuE) uaj mix Tryz.func8 rfl Tryz.call8 (by kernel_rfl) (by kernel_rfl) ?_
 generalize Tryz.prog=P at c10 c28 c12 c30 c33 c31 c32 c34 c31y c32y⊢
 cbv
 repeat' (first|(refine ugz ?_ ?_ (show _=s from hs);try cbv)|(with_reducible intro hcd;exfalso;(try simp only [zQ,zA,zB,zC,zD,zE,zF,zG,zH,zI,zJ,zK,zL,zM,zN,zO,zP,zR,zS]at hcd);omega)|with_reducible refine ua4 ?_ ?_|with_reducible refine And.intro ?_ ?_|(with_reducible intro hcd;(try simp only [zA,zB,zC,zD,zE,zF,zG,zH,zI,zJ,zK,zL,zM,zN,zO,zP]at hcd);try cbv)|(refine qP ?_ (c28) ?hfit;(case hfit=>((repeat' (first|exact qB|refine qD ?_ ?_|exact qE (by rfl)|exact qF (by rfl)|exact Fit.refl _|exact qA|refine qC ?_ rfl ?_));done));try cbv)|(refine qP ?_ (c10) ?hfit;(case hfit=>((repeat' (first|exact qB|refine qD ?_ ?_|exact qE (by rfl)|exact qF (by rfl)|exact Fit.refl _|exact qA|refine qC ?_ rfl ?_));done));try cbv)|(refine qP ?_ (c12) ?hfit;(case hfit=>((repeat' (first|exact qB|refine qD ?_ ?_|exact qE (by rfl)|exact qF (by rfl)|exact Fit.refl _|exact qA|refine qC ?_ rfl ?_));done));try cbv)|(refine qP ?_ (c30) ?hfit;(case hfit=>((repeat' (first|exact qB|refine qD ?_ ?_|exact qE (by rfl)|exact qF (by rfl)|exact Fit.refl _|exact qA|refine qC ?_ rfl ?_));done));try cbv)|(refine qP ?_ (c33) ?hfit;(case hfit=>((repeat' (first|exact qB|refine qD ?_ ?_|exact qE (by rfl)|exact qF (by rfl)|exact Fit.refl _|exact qA|refine qC ?_ rfl ?_));done));try cbv)|(refine qP ?_ (c31) ?hfit;(case hfit=>((repeat' (first|exact qB|refine qD ?_ ?_|exact qE (by rfl)|exact qF (by rfl)|exact Fit.refl _|exact qA|refine qC ?_ rfl ?_));done));try cbv)|(refine qP ?_ (c32) ?hfit;(case hfit=>((repeat' (first|exact qB|refine qD ?_ ?_|exact qE (by rfl)|exact qF (by rfl)|exact Fit.refl _|exact qA|refine qC ?_ rfl ?_));done));try cbv)|(refine qP ?_ (c34) ?hfit;(case hfit=>((repeat' (first|exact qB|refine qD ?_ ?_|exact qE (by rfl)|exact qF (by rfl)|exact Fit.refl _|exact qA|refine qC ?_ rfl ?_));done));try cbv)|(refine qP ?_ (c31y) ?hfit;(case hfit=>((repeat' (first|exact qB|refine qD ?_ ?_|exact qE (by rfl)|exact qF (by rfl)|exact Fit.refl _|exact qA|refine qC ?_ rfl ?_));done));try cbv)|(refine qP ?_ (c32y) ?hfit;(case hfit=>((repeat' (first|exact qB|refine qD ?_ ?_|exact qE (by rfl)|exact qF (by rfl)|exact Fit.refl _|exact qA|refine qC ?_ rfl ?_));done));try cbv)|fail)
 all_goals first|((try simp only [qV]at *);(try simp only [zQ,zA,zB,zC,zD,zE,zF,zG,zH,zI,zJ,zK,zL,zM,zN,zO,zP,zR,zS]at *);first|(refine qN ?_;omega)|(simp only [uam];omega))|(subst hR;(repeat' (first|exact qA|exact qB|refine qC ?_ rfl ?_|refine qD ?_ ?_|exact qE (by rfl)|exact qF (by rfl)|exact Fit.refl _|exact qG _|(refine qE ?_;(try simp only [qV]at *);simp only [zQ,zA,zB,zC,zD,zE,zF,zG,zH,zI,zJ,zK,zL,zM,zN,zO,zP,zR,zS]at *;omega)));done)|(exfalso;exact(by assumption:¬True) True.intro)|(exfalso;(try simp only [qV]at *);(try simp only [zQ,zA,zB,zC,zD,zE,zF,zG,zH,zI,zJ,zK,zL,zM,zN,zO,zP,zR,zS]at *);omega)|(exfalso;exact Bool.noConfusion (by assumption:false=true))|skip
theorem uvE (d:Dsp)(w:Int)(b:Bool)(t:List Int)(h:udh d=true)(ht:t.length≤9)(hw:0≤w∧w≤255)(s:Int)(hs:w.tmod d.sn=s)(hc:ud7 d d.fs []=true)(hp:ueN d t=false)(hb:b=true):ua0 Tryz.prog 8 [(ub5 d),(.int .u8 (.sym fun _=>w)),(bv fun _=>b),(iS t)] [] (fun r _=>r=(.bool (.lit true))):=by
 have c10:=ueG
 have hth:=ugZ.1 (ucc.1 h).1
 have hF:=(ucc.1 h).2
 have hd:=ua2.1 hF
 have s1:=hd.s1
 have s3:=hd.s3
 have c28:=uhL (ueE d) h
 have c12:=ue0 d hth.1 (by omega) (by omega)
 have c30:=uet d
 have c33:=uj3 d s b
 have c31:=udw d t (by omega)
 have c32:=ueO t (by omega)
 have hsi:=ujr hw.1 s1
 rw [hs]at hsi
 have z1:=udv hF hc
 have z2:=udZ hF hsi hc
 have hss:s.toNat<SN d:=by unfold SN;omega
 have q:=uge hd hc hss b
 have c34:=ueT d (ud6 (uav d s.toNat b) d.sn.toNat) hd (by rw [ubb];omega)
 have c31y:=udw d (ud6 (uav d s.toNat b) d.sn.toNat) (by rw [ubb];omega)
 have c32y:=ueO (ud6 (uav d s.toNat b) d.sn.toNat) (by rw [ubb];omega)
 replace c34:=udb c34 q.1
 replace c31y:=udb c31y ((ufP hF).trans q.1)
 have hrl:=ubb (uav d s.toNat b) d.sn.toNat
 replace c33:=ua0.fitZ c33 (B:=(.tup [(.sl 1 (.sym fun _=>zi ((ud6 (uav d s.toNat b) d.sn.toNat)).length) (fun ix=>[(iv fun _=>((ud6 (uav d s.toNat b) d.sn.toNat)).getD ix.den.toNat 0)])),(.int .i64 (.lit (0)))])) (qD (ui8 (by show shN d s=(d.sn.toNat:Int);rw [z2.2];omega)) (qD (qE z2.1) qB))
 have he:udP d s.toNat b=if b=true then hiT d [] s.toNat else loT d [] s.toNat:=rfl
 have hin:=fun p:ueN d t=true=>(uo4 hd p).2
 have hin2:ueN d t=true→zi t.length=d.sn∧loT d [] s.toNat≤t.getD s.toNat 0∧t.getD s.toNat 0≤hiT d [] s.toNat:=fun p=>⟨(hin p).1,(hin p).2 _ hss⟩
 have q2:=q.2
 rw [he]at q2
 obtain⟨TL,hT⟩:∃L,L=ud6 (uav d s.toNat b) d.sn.toNat:=⟨_,rfl⟩
 rw [←hT]at c33 c34 c31y c32y hrl q2
 obtain⟨lo,hlo⟩:∃f,f=loT d []:=⟨_,rfl⟩
 obtain⟨hh,hhi⟩:∃f,f=hiT d []:=⟨_,rfl⟩
 rw [←hlo]at c30 hin2 q2
 rw [←hhi]at c30 hin2 q2
 replace c30:=ua0.fitZ c30 (B:=(.tup [(.sl 2 (.sym fun _=>d.sn) (fun ix=>[(iv fun _=>lo ix.den.toNat),(iv fun _=>hh ix.den.toNat)])),(.int .i64 (.lit (0)))])) (qD (ua1 (by exact z1.2) (fun _ _ _=>Fit.refl _)) (qD (qE z1.1) qB))
 obtain⟨pv,hpv⟩:∃p,p=ueN d t:=⟨_,rfl⟩
 rw [←hpv]at c31 hin2
 have hpw:pv=false:=by rw [hpv];exact hp
 clear hin q he hT hlo hhi z1 z2 h hth hF hd hc hss hpv hp
 replace c31:=udb c31 hpw
 clear hin2
 subst hb
 simp only [if_true]at q2
 refine ua0.is fun R hR=>qW (sc:=uuE) uaj mix Tryz.func8 rfl Tryz.call8 (by kernel_rfl) (by kernel_rfl) ?_
 generalize Tryz.prog=P at c10 c28 c12 c30 c33 c31 c32 c34 c31y c32y⊢
 cbv
 repeat' (first|(refine ugz ?_ ?_ (show _=s from hs);try cbv)|(with_reducible intro hcd;exfalso;(try simp only [zQ,zA,zB,zC,zD,zE,zF,zG,zH,zI,zJ,zK,zL,zM,zN,zO,zP,zR,zS]at hcd);omega)|with_reducible refine ua4 ?_ ?_|with_reducible refine And.intro ?_ ?_|(with_reducible intro hcd;(try simp only [zA,zB,zC,zD,zE,zF,zG,zH,zI,zJ,zK,zL,zM,zN,zO,zP]at hcd);try cbv)|(refine qP ?_ (c28) ?hfit;(case hfit=>((repeat' (first|exact qB|refine qD ?_ ?_|exact qE (by rfl)|exact qF (by rfl)|exact Fit.refl _|exact qA|refine qC ?_ rfl ?_));done));try cbv)|(refine qP ?_ (c10) ?hfit;(case hfit=>((repeat' (first|exact qB|refine qD ?_ ?_|exact qE (by rfl)|exact qF (by rfl)|exact Fit.refl _|exact qA|refine qC ?_ rfl ?_));done));try cbv)|(refine qP ?_ (c12) ?hfit;(case hfit=>((repeat' (first|exact qB|refine qD ?_ ?_|exact qE (by rfl)|exact qF (by rfl)|exact Fit.refl _|exact qA|refine qC ?_ rfl ?_));done));try cbv)|(refine qP ?_ (c30) ?hfit;(case hfit=>((repeat' (first|exact qB|refine qD ?_ ?_|exact qE (by rfl)|exact qF (by rfl)|exact Fit.refl _|exact qA|refine qC ?_ rfl ?_));done));try cbv)|(refine qP ?_ (c33) ?hfit;(case hfit=>((repeat' (first|exact qB|refine qD ?_ ?_|exact qE (by rfl)|exact qF (by rfl)|exact Fit.refl _|exact qA|refine qC ?_ rfl ?_));done));try cbv)|(refine qP ?_ (c31) ?hfit;(case hfit=>((repeat' (first|exact qB|refine qD ?_ ?_|exact qE (by rfl)|exact qF (by rfl)|exact Fit.refl _|exact qA|refine qC ?_ rfl ?_));done));try cbv)|(refine qP ?_ (c32) ?hfit;(case hfit=>((repeat' (first|exact qB|refine qD ?_ ?_|exact qE (by rfl)|exact qF (by rfl)|exact Fit.refl _|exact qA|refine qC ?_ rfl ?_));done));try cbv)|(refine qP ?_ (c34) ?hfit;(case hfit=>((repeat' (first|exact qB|refine qD ?_ ?_|exact qE (by rfl)|exact qF (by rfl)|exact Fit.refl _|exact qA|refine qC ?_ rfl ?_));done));try cbv)|(refine qP ?_ (c31y) ?hfit;(case hfit=>((repeat' (first|exact qB|refine qD ?_ ?_|exact qE (by rfl)|exact qF (by rfl)|exact Fit.refl _|exact qA|refine qC ?_ rfl ?_));done));try cbv)|(refine qP ?_ (c32y) ?hfit;(case hfit=>((repeat' (first|exact qB|refine qD ?_ ?_|exact qE (by rfl)|exact qF (by rfl)|exact Fit.refl _|exact qA|refine qC ?_ rfl ?_));done));try cbv)|fail)
 all_goals first|((try simp only [qV]at *);(try simp only [zQ,zA,zB,zC,zD,zE,zF,zG,zH,zI,zJ,zK,zL,zM,zN,zO,zP,zR,zS]at *);first|(refine qN ?_;omega)|(simp only [uam];omega))|(subst hR;(repeat' (first|exact qA|exact qB|refine qC ?_ rfl ?_|refine qD ?_ ?_|exact qE (by rfl)|exact qF (by rfl)|exact Fit.refl _|exact qG _|(refine qE ?_;(try simp only [qV]at *);simp only [zQ,zA,zB,zC,zD,zE,zF,zG,zH,zI,zJ,zK,zL,zM,zN,zO,zP,zR,zS]at *;omega)));done)|(exfalso;exact(by assumption:¬True) True.intro)|(exfalso;exact Bool.noConfusion (by assumption:true=false))|skip
theorem uwI (d:Dsp)(w:Int)(b:Bool)(t:List Int)(h:udh d=true)(ht:t.length≤9)(hw:0≤w∧w≤255)(s:Int)(hs:w.tmod d.sn=s)(hc:ud7 d d.fs []=true)(hp:ueN d t=false)(hb:b=false):ua0 Tryz.prog 8 [(ub5 d),(.int .u8 (.sym fun _=>w)),(bv fun _=>b),(iS t)] [] (fun r _=>r=(.bool (.lit true))):=by
 have c10:=ueG
 have hth:=ugZ.1 (ucc.1 h).1
 have hF:=(ucc.1 h).2
 have hd:=ua2.1 hF
 have s1:=hd.s1
 have s3:=hd.s3
 have c28:=uhL (ueE d) h
 have c12:=ue0 d hth.1 (by omega) (by omega)
 have c30:=uet d
 have c33:=uj3 d s b
 have c31:=udw d t (by omega)
 have c32:=ueO t (by omega)
 have hsi:=ujr hw.1 s1
 rw [hs]at hsi
 have z1:=udv hF hc
 have z2:=udZ hF hsi hc
 have hss:s.toNat<SN d:=by unfold SN;omega
 have q:=uge hd hc hss b
 have c34:=ueT d (ud6 (uav d s.toNat b) d.sn.toNat) hd (by rw [ubb];omega)
 have c31y:=udw d (ud6 (uav d s.toNat b) d.sn.toNat) (by rw [ubb];omega)
 have c32y:=ueO (ud6 (uav d s.toNat b) d.sn.toNat) (by rw [ubb];omega)
 replace c34:=udb c34 q.1
 replace c31y:=udb c31y ((ufP hF).trans q.1)
 have hrl:=ubb (uav d s.toNat b) d.sn.toNat
 replace c33:=ua0.fitZ c33 (B:=(.tup [(.sl 1 (.sym fun _=>zi ((ud6 (uav d s.toNat b) d.sn.toNat)).length) (fun ix=>[(iv fun _=>((ud6 (uav d s.toNat b) d.sn.toNat)).getD ix.den.toNat 0)])),(.int .i64 (.lit (0)))])) (qD (ui8 (by show shN d s=(d.sn.toNat:Int);rw [z2.2];omega)) (qD (qE z2.1) qB))
 have he:udP d s.toNat b=if b=true then hiT d [] s.toNat else loT d [] s.toNat:=rfl
 have hin:=fun p:ueN d t=true=>(uo4 hd p).2
 have hin2:ueN d t=true→zi t.length=d.sn∧loT d [] s.toNat≤t.getD s.toNat 0∧t.getD s.toNat 0≤hiT d [] s.toNat:=fun p=>⟨(hin p).1,(hin p).2 _ hss⟩
 have q2:=q.2
 rw [he]at q2
 obtain⟨TL,hT⟩:∃L,L=ud6 (uav d s.toNat b) d.sn.toNat:=⟨_,rfl⟩
 rw [←hT]at c33 c34 c31y c32y hrl q2
 obtain⟨lo,hlo⟩:∃f,f=loT d []:=⟨_,rfl⟩
 obtain⟨hh,hhi⟩:∃f,f=hiT d []:=⟨_,rfl⟩
 rw [←hlo]at c30 hin2 q2
 rw [←hhi]at c30 hin2 q2
 replace c30:=ua0.fitZ c30 (B:=(.tup [(.sl 2 (.sym fun _=>d.sn) (fun ix=>[(iv fun _=>lo ix.den.toNat),(iv fun _=>hh ix.den.toNat)])),(.int .i64 (.lit (0)))])) (qD (ua1 (by exact z1.2) (fun _ _ _=>Fit.refl _)) (qD (qE z1.1) qB))
 obtain⟨pv,hpv⟩:∃p,p=ueN d t:=⟨_,rfl⟩
 rw [←hpv]at c31 hin2
 have hpw:pv=false:=by rw [hpv];exact hp
 clear hin q he hT hlo hhi z1 z2 h hth hF hd hc hss hpv hp
 replace c31:=udb c31 hpw
 clear hin2
 subst hb
 simp only [Bool.false_eq_true,if_false]at q2
 refine ua0.is fun R hR=>qW (sc:=uuE) uaj mix Tryz.func8 rfl Tryz.call8 (by kernel_rfl) (by kernel_rfl) ?_
 generalize Tryz.prog=P at c10 c28 c12 c30 c33 c31 c32 c34 c31y c32y⊢
 cbv
 repeat' (first|(refine ugz ?_ ?_ (show _=s from hs);try cbv)|(with_reducible intro hcd;exfalso;(try simp only [zQ,zA,zB,zC,zD,zE,zF,zG,zH,zI,zJ,zK,zL,zM,zN,zO,zP,zR,zS]at hcd);omega)|with_reducible refine ua4 ?_ ?_|with_reducible refine And.intro ?_ ?_|(with_reducible intro hcd;(try simp only [zA,zB,zC,zD,zE,zF,zG,zH,zI,zJ,zK,zL,zM,zN,zO,zP]at hcd);try cbv)|(refine qP ?_ (c28) ?hfit;(case hfit=>((repeat' (first|exact qB|refine qD ?_ ?_|exact qE (by rfl)|exact qF (by rfl)|exact Fit.refl _|exact qA|refine qC ?_ rfl ?_));done));try cbv)|(refine qP ?_ (c10) ?hfit;(case hfit=>((repeat' (first|exact qB|refine qD ?_ ?_|exact qE (by rfl)|exact qF (by rfl)|exact Fit.refl _|exact qA|refine qC ?_ rfl ?_));done));try cbv)|(refine qP ?_ (c12) ?hfit;(case hfit=>((repeat' (first|exact qB|refine qD ?_ ?_|exact qE (by rfl)|exact qF (by rfl)|exact Fit.refl _|exact qA|refine qC ?_ rfl ?_));done));try cbv)|(refine qP ?_ (c30) ?hfit;(case hfit=>((repeat' (first|exact qB|refine qD ?_ ?_|exact qE (by rfl)|exact qF (by rfl)|exact Fit.refl _|exact qA|refine qC ?_ rfl ?_));done));try cbv)|(refine qP ?_ (c33) ?hfit;(case hfit=>((repeat' (first|exact qB|refine qD ?_ ?_|exact qE (by rfl)|exact qF (by rfl)|exact Fit.refl _|exact qA|refine qC ?_ rfl ?_));done));try cbv)|(refine qP ?_ (c31) ?hfit;(case hfit=>((repeat' (first|exact qB|refine qD ?_ ?_|exact qE (by rfl)|exact qF (by rfl)|exact Fit.refl _|exact qA|refine qC ?_ rfl ?_));done));try cbv)|(refine qP ?_ (c32) ?hfit;(case hfit=>((repeat' (first|exact qB|refine qD ?_ ?_|exact qE (by rfl)|exact qF (by rfl)|exact Fit.refl _|exact qA|refine qC ?_ rfl ?_));done));try cbv)|(refine qP ?_ (c34) ?hfit;(case hfit=>((repeat' (first|exact qB|refine qD ?_ ?_|exact qE (by rfl)|exact qF (by rfl)|exact Fit.refl _|exact qA|refine qC ?_ rfl ?_));done));try cbv)|(refine qP ?_ (c31y) ?hfit;(case hfit=>((repeat' (first|exact qB|refine qD ?_ ?_|exact qE (by rfl)|exact qF (by rfl)|exact Fit.refl _|exact qA|refine qC ?_ rfl ?_));done));try cbv)|(refine qP ?_ (c32y) ?hfit;(case hfit=>((repeat' (first|exact qB|refine qD ?_ ?_|exact qE (by rfl)|exact qF (by rfl)|exact Fit.refl _|exact qA|refine qC ?_ rfl ?_));done));try cbv)|fail)
 all_goals first|((try simp only [qV]at *);(try simp only [zQ,zA,zB,zC,zD,zE,zF,zG,zH,zI,zJ,zK,zL,zM,zN,zO,zP,zR,zS]at *);first|(refine qN ?_;omega)|(simp only [uam];omega))|(subst hR;(repeat' (first|exact qA|exact qB|refine qC ?_ rfl ?_|refine qD ?_ ?_|exact qE (by rfl)|exact qF (by rfl)|exact Fit.refl _|exact qG _|(refine qE ?_;(try simp only [qV]at *);simp only [zQ,zA,zB,zC,zD,zE,zF,zG,zH,zI,zJ,zK,zL,zM,zN,zO,zP,zR,zS]at *;omega)));done)|(exfalso;exact(by assumption:¬True) True.intro)|(exfalso;exact Bool.noConfusion (by assumption:false=true))|skip
theorem uzO (d:Dsp)(w:Int)(b:Bool)(t:List Int)(hw:0≤w∧w≤255):ua0 Tryz.prog 8 [(ub5 d),(.int .u8 (.sym fun _=>w)),(bv fun _=>b),(iS t)] [] (fun r _=>r = .bool (.lit true)):=by
 cases h:udh d with
 |false=>exact uym d w b t h
 | true=>
  by_cases ht:t.length≤9
  ·cases hc:ud7 d d.fs []with
   |false=>exact uyJ d w b t h ht hw _ rfl hc
   | true=>
    cases hp:ueN d t<;>cases hb:b
    ·exact uwI d w false t h ht hw _ rfl hc hp rfl
    ·exact uvE d w true t h ht hw _ rfl hc hp rfl
    ·exact uvV d w false t h ht hw _ rfl hc hp rfl
    ·exact uvH d w true t h ht hw _ rfl hc hp rfl
  ·exact uzh d w b t h (by omega)
end Go.Proofs.YtkdggbfknlcdaaaGreat
