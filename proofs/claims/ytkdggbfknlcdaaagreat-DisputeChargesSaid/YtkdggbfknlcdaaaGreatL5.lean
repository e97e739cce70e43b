/- DisputeCharges: what the law computes. No condition. -/
import Derived.Test.YtkdggbfknlcdaaaGreatT7
set_option linter.unusedVariables false
set_option linter.unusedSimpArgs false
set_option linter.deprecated false
set_option linter.all false

namespace Go.Proofs.YtkdggbfknlcdaaaGreat
open Go Go.Eng Go.Proofs Go.Eng.Dif Go.Eng.Few
set_option maxRecDepth 10000
def sc5b :SC:=[(16,[⟨0,true,[],false,0,none⟩,⟨1,true,[0],false,0,none⟩,⟨2,true,[0,1],true,0,none⟩,⟨3,true,[0,1,2],false,0,none⟩,⟨4,true,[0,1,2,3],false,0,none⟩,⟨5,true,[0,1,2,3,4],true,0,none⟩,⟨6,false,[0,1,2,3,4,5],false,0,none⟩,⟨7,false,[0,1,2,3,4,5],false,0,none⟩,⟨8,false,[0,1,2,3,4,5],false,0,none⟩,⟨9,false,[0,1,2,3,4,5],false,0,none⟩,⟨10,false,[0,1,2,3,4,5,8,9],false,0,none⟩,⟨11,false,[0,1,2,3,4,5,8,9,10],false,0,none⟩,⟨12,false,[0,1,2,3,4,5,8,9,10,11],false,0,none⟩,⟨13,false,[0,1,2,3,4,5,7,8,9,10,11,12],false,0,none⟩,⟨14,false,[0,1,2,3,4,5,7,8,9,10,11,12,13],false,0,none⟩,⟨15,false,[0,1,2,3,4,5],false,0,none⟩,⟨16,false,[0,1,2,3,4,5],false,0,none⟩,⟨17,false,[0,1,2,3,4,5],false,0,none⟩,⟨18,false,[0,1,2,3,4,5,16,17],false,0,none⟩,⟨19,false,[0,1,2,3,4,5,16,17,18],false,0,none⟩,⟨20,false,[0,1,2,3,4,5,16,17,18,19],false,0,none⟩,⟨21,false,[0,1,2,3,4,5,15,16,17,18,19,20],false,0,none⟩,⟨22,false,[0,1,2,3,4,5,15,16,17,18,19,20,21],false,0,none⟩,⟨23,false,[0,1,2,3,4,5,7,8,9,10,11,12,13,14,15,16,17,18,19,20,21,22],false,0,none⟩,⟨24,true,[0,1,2,3,4,5,6,7,8,9,10,11,12,13,14,15,16,17,18,19,20,21,22,23],false,0,none⟩,⟨25,true,[0,1,2,3,4,5,6,7,8,9,10,11,12,13,14,15,16,17,18,19,20,21,22,23,24],false,0,none⟩,⟨26,true,[0,1,2,3,4,5,6,7,8,9,10,11,12,13,14,15,16,17,18,19,20,21,22,23,24,25],true,0,none⟩,⟨27,true,[0,1,2,3,4,5,6,7,8,9,10,11,12,13,14,15,16,17,18,19,20,21,22,23,24,25,26],false,0,none⟩,⟨28,true,[0,1,2,3,4,5,6,7,8,9,10,11,12,13,14,15,16,17,18,19,20,21,22,23,24,25,26,27],false,0,none⟩,⟨29,true,[0,1,2,3,4,5,6,7,8,9,10,11,12,13,14,15,16,17,18,19,20,21,22,23,24,25,26,27,28],false,0,none⟩])]
theorem ua0.fitZ {f:FuncId} {args:List SV} {A B:SV}(h:ua0 Tryz.prog f args [] (fun r _=>r=A))(hf:Fit A B):ua0 Tryz.prog f args [] (fun r _=>r=B):=h.post fun r bs q=>⟨B,by subst q;exact hf,rfl⟩
theorem ulD {P:Program} {t m n:Nat} {p:Prop}(h:EqOk P t m)(hn:n=m)(hp:p):Hold (EqOk P t n∧p):=by
 subst hn
 exact And.intro h hp
theorem unz {fs:List Fa} {c e:Nat→Bool}:∀{n:Nat},(∀i,i<n→c i=e i)→kpN fs c n=kpN fs e n:=by
 intro n
 induction n with
 |zero=>intro _;rfl
 | succ n ih=>
  intro h
  have a:=ih fun i hi=>h i (by omega)
  have b:=h n (by omega)
  show(if c n=true then kpN fs c n++[fs.getD n f0]else kpN fs c n)=if e n=true then kpN fs e n++[fs.getD n f0]else kpN fs e n
  rw [a,b]
theorem uqX {d:Dsp}(hf:uac d=0):ubw (SN d) (LO d) (FO d d.fs) (uby (leaL d) (leaL d).length)=true∧∀s,s<SN d→(allS (sixN (SN d) (LO d) (FO d d.fs) (outN (uby (leaL d) (leaL d).length)))).lo s=loT d (leaL d) s∧(allS (sixN (SN d) (LO d) (FO d d.fs) (outN (uby (leaL d) (leaL d).length)))).hi s=hiT d (leaL d) s:=by
 have hF:=(uar hf).1
 have hd:=ua3.1 hF
 have hk:=okk hd hd.f
 have hl:=ucz d d.fs
 have hm:=ujU (unV hf)
 have e:∀i,i<d.fs.length→outN (uby (leaL d) (leaL d).length) i=outL (leaL d) i:=fun i hi=>by
  have q:=hm i hi
  unfold outN outL
  have:(uby (leaL d) (leaL d).length).testBit i=(leaL d).contains (i:Int):=by
   apply Bool.eq_iff_iff.2
   rw [q]
   simp
  rw [this]
 have ec:kpN (FO d d.fs) (outN (uby (leaL d) (leaL d).length)) d.fs.length=kpN (FO d d.fs) (outL (leaL d)) d.fs.length:=unz e
 have hc:canO (SN d) (LO d) (FO d d.fs) (outN (uby (leaL d) (leaL d).length))=true:=by
  have q:=ukP hf
  rw [ujL]at q
  unfold okF at q
  unfold canO at q⊢
  rw [hl]at q⊢
  rw [ec];exact q
 refine⟨by rw [ugv hk];exact hc,fun s hs=> ?_⟩
 have a:=upD hk hc hs
 have b:=uoo d (leaL d) s
 rw [hl,ec]at a
 rw [a.1,a.2,b.1,b.2]
 exact⟨rfl,rfl⟩
theorem urA {d:Dsp}(hE:uac d=0) {s:Nat}(hs:s<SN d): -2000≤loT d (leaL d) s∧loT d (leaL d) s≤2000∧ -2000≤hiT d (leaL d) s∧hiT d (leaL d) s≤2000:=by
 have:=uuF (ua3.1 (uar hE).1) (ukP hE) hs
 omega
theorem uwF (d:Dsp)(s g:Int)(h:ue8 d=false):ua0 Tryz.prog 5 [(dspS d),(iv fun _=>s),(iv fun _=>g)] [] (fun r _=>r=(.bool (.lit true))):=by
 have c9:=unF (uh1 d) h
 have c10:=ufe
 refine ua0.is fun R hR=>qW (sc:=sc5b) tyok mix Tryz.func5 rfl Tryz.call5 (by kernel_rfl) (by kernel_rfl) ?_
 generalize Tryz.prog=P at c9 c10⊢
 cbv
 repeat' (first
  | (refine qP ?_ (c9) ?hfit
     case hfit=>((repeat' (first|exact qB|refine qD ?_ ?_|exact qE (by rfl)|exact qF (by rfl)|exact Fit.refl _|exact qA|refine qC ?_ rfl ?_));done)
     try cbv)
  | (refine qP ?_ (c10) ?hfit
     case hfit=>((repeat' (first|exact qB|refine qD ?_ ?_|exact qE (by rfl)|exact qF (by rfl)|exact Fit.refl _|exact qA|refine qC ?_ rfl ?_));done)
     try cbv)
  |fail)
 all_goals first
  |(subst hR;(repeat' (first|exact qA|exact qB|refine qC ?_ rfl ?_|refine qD ?_ ?_|exact qE (by rfl)|exact qF (by rfl)|exact Fit.refl _|exact qG _|(refine qE ?_;(try simp only [qV]at *);simp only [zQ,zA,zB,zC,zD,zE,zF,zG,zH,zI,zJ,zK,zL,zM,zN,zO,zP,zR,zS]at *;omega)));done)
  |skip
theorem uxl (d:Dsp)(s g:Int)(h:ue8 d=true)(hF:¬ua6 d=0):ua0 Tryz.prog 5 [(dspS d),(iv fun _=>s),(iv fun _=>g)] [] (fun r _=>r=(.bool (.lit true))):=by
 have c10:=ufe
 have hth:=ugk.1 h
 have c9:=uee (uh1 d) h
 have c12:=udw d hth.1 (by omega) (by omega)
 have c25:=udU d s g
 have c21:=uel d
 have c14:=usK d hF
 have z:=upe (s:=s) (g:=g) hF
 obtain⟨e,he⟩:∃e,e=ua6 d:=⟨_,rfl⟩
 rw [←he]at c14 c21 z hF
 have c25:=ua0.fitZ c25 (B:=(.tup [(.agg [(.int .i64 (.lit (0))),(.int .i64 (.lit (0)))]),(iv fun _=>e)])) (qD (qC (qE z.2.1) rfl (qC (qE z.2.2) rfl qA)) (qD (qE z.1) qB))
 clear z he h hth
 have h33:=ugT
 refine ua0.is fun R hR=>qW (sc:=sc5b) tyok mix Tryz.func5 rfl Tryz.call5 (by kernel_rfl) (by kernel_rfl) ?_
 generalize Tryz.prog=P at c10 c9 c12 c25 c14 c21 h33⊢
 cbv
 repeat' (first
  |(with_reducible intro hcd;exfalso;(try simp only [zQ,zA,zB,zC,zD,zE,zF,zG,zH,zI,zJ,zK,zL,zM,zN,zO,zP,zR,zS]at hcd);omega)
  |with_reducible refine hold ?_ ?_
  |with_reducible refine And.intro ?_ ?_
  |(with_reducible intro hcd;(try simp only [zA,zB,zC,zD,zE,zF,zG,zH,zI,zJ,zK,zL,zM,zN,zO,zP]at hcd);try cbv)
  | (refine qP ?_ (c9) ?hfit
     case hfit=>((repeat' (first|exact qB|refine qD ?_ ?_|exact qE (by rfl)|exact qF (by rfl)|exact Fit.refl _|exact qA|refine qC ?_ rfl ?_));done)
     try cbv)
  | (refine qP ?_ (c10) ?hfit
     case hfit=>((repeat' (first|exact qB|refine qD ?_ ?_|exact qE (by rfl)|exact qF (by rfl)|exact Fit.refl _|exact qA|refine qC ?_ rfl ?_));done)
     try cbv)
  | (refine qP ?_ (c12) ?hfit
     case hfit=>((repeat' (first|exact qB|refine qD ?_ ?_|exact qE (by rfl)|exact qF (by rfl)|exact Fit.refl _|exact qA|refine qC ?_ rfl ?_));done)
     try cbv)
  | (refine qP ?_ (c25) ?hfit
     case hfit=>((repeat' (first|exact qB|refine qD ?_ ?_|exact qE (by rfl)|exact qF (by rfl)|exact Fit.refl _|exact qA|refine qC ?_ rfl ?_));done)
     try cbv)
  | (refine qP ?_ (c14) ?hfit
     case hfit=>((repeat' (first|exact qB|refine qD ?_ ?_|exact qE (by rfl)|exact qF (by rfl)|exact Fit.refl _|exact qA|refine qC ?_ rfl ?_));done)
     try cbv)
  | (refine qP ?_ (c21) ?hfit
     case hfit=>((repeat' (first|exact qB|refine qD ?_ ?_|exact qE (by rfl)|exact qF (by rfl)|exact Fit.refl _|exact qA|refine qC ?_ rfl ?_));done)
     try cbv)
  |fail)
 all_goals first
  |(subst hR;(repeat' (first|exact qA|exact qB|refine qC ?_ rfl ?_|refine qD ?_ ?_|exact qE (by rfl)|exact qF (by rfl)|exact Fit.refl _|exact qG _|(refine qE ?_;(try simp only [qV]at *);simp only [zQ,zA,zB,zC,zD,zE,zF,zG,zH,zI,zJ,zK,zL,zM,zN,zO,zP,zR,zS]at *;omega)));done)
  |(with_reducible refine ulD h33 ?_ ?_)<;>simp only [List.length_cons,List.length_nil]
  |(exfalso;exact(by assumption:¬True) True.intro)
  |skip
theorem uxg (d:Dsp)(s g:Int)(h:ue8 d=true)(hF:ua6 d=0)(ho:¬(0≤s∧s≤d.sn-1)):ua0 Tryz.prog 5 [(dspS d),(iv fun _=>s),(iv fun _=>g)] [] (fun r _=>r=(.bool (.lit true))):=by
 have c10:=ufe
 have hth:=ugk.1 h
 have c9:=uee (uh1 d) h
 have c12:=udw d hth.1 (by omega) (by omega)
 have c25:=udU d s g
 have c21:=uel d
 have s1:=(ua3.1 hF).s1
 have s3:=(ua3.1 hF).s3
 have c14:=uhF d hF
 have z:=unk hF (show ¬chOk d s g from fun q=>ho q.1)
 have c25:=ua0.fitZ c25 (B:=(.tup [(.agg [(.int .i64 (.lit (0))),(.int .i64 (.lit (0)))]),(.int .i64 (.lit (2)))])) (qD (qC (qE z.2.1) rfl (qC (qE z.2.2) rfl qA)) (qD (qE z.1) qB))
 have c21:=ua0.fitZ c21 (B:=(.int .i64 (.lit (0)))) (qE hF)
 have c22a:=(unF (in17 s 0 (d.sn-1)) (by rw [uaV];exact ho))
 clear z h hth
 have h33:=ugT
 refine ua0.is fun R hR=>qW (sc:=sc5b) tyok mix Tryz.func5 rfl Tryz.call5 (by kernel_rfl) (by kernel_rfl) ?_
 generalize Tryz.prog=P at c10 c9 c12 c25 c14 c21 c22a h33⊢
 cbv
 repeat' (first
  |with_reducible refine hold ?_ ?_
  |with_reducible refine And.intro ?_ ?_
  |(with_reducible intro hcd;(try simp only [zA,zB,zC,zD,zE,zF,zG,zH,zI,zJ,zK,zL,zM,zN,zO,zP]at hcd);try cbv)
  | (refine qP ?_ (c9) ?hfit
     case hfit=>((repeat' (first|exact qB|refine qD ?_ ?_|exact qE (by rfl)|exact qF (by rfl)|exact Fit.refl _|exact qA|refine qC ?_ rfl ?_));done)
     try cbv)
  | (refine qP ?_ (c10) ?hfit
     case hfit=>((repeat' (first|exact qB|refine qD ?_ ?_|exact qE (by rfl)|exact qF (by rfl)|exact Fit.refl _|exact qA|refine qC ?_ rfl ?_));done)
     try cbv)
  | (refine qP ?_ (c12) ?hfit
     case hfit=>((repeat' (first|exact qB|refine qD ?_ ?_|exact qE (by rfl)|exact qF (by rfl)|exact Fit.refl _|exact qA|refine qC ?_ rfl ?_));done)
     try cbv)
  | (refine qP ?_ (c25) ?hfit
     case hfit=>((repeat' (first|exact qB|refine qD ?_ ?_|exact qE (by rfl)|exact qF (by rfl)|exact Fit.refl _|exact qA|refine qC ?_ rfl ?_));done)
     try cbv)
  | (refine qP ?_ (c14) ?hfit
     case hfit=>((repeat' (first|exact qB|refine qD ?_ ?_|exact qE (by rfl)|exact qF (by rfl)|exact Fit.refl _|exact qA|refine qC ?_ rfl ?_));done)
     try cbv)
  | (refine qP ?_ (c21) ?hfit
     case hfit=>((repeat' (first|exact qB|refine qD ?_ ?_|exact qE (by rfl)|exact qF (by rfl)|exact Fit.refl _|exact qA|refine qC ?_ rfl ?_));done)
     try cbv)
  | (refine qP ?_ (c22a) ?hfit
     case hfit=>((repeat' (first|exact qB|refine qD ?_ ?_|exact qE (by rfl)|exact qF (by rfl)|exact Fit.refl _|exact qA|refine qC ?_ rfl ?_));done)
     try cbv)
  |fail)
 all_goals first
  |((try simp only [qV]at *);(try simp only [zQ,zA,zB,zC,zD,zE,zF,zG,zH,zI,zJ,zK,zL,zM,zN,zO,zP,zR,zS]at *);first|(refine qN ?_;omega)|(simp only [Hold];omega))
  |(subst hR;(repeat' (first|exact qA|exact qB|refine qC ?_ rfl ?_|refine qD ?_ ?_|exact qE (by rfl)|exact qF (by rfl)|exact Fit.refl _|exact qG _|(refine qE ?_;(try simp only [qV]at *);simp only [zQ,zA,zB,zC,zD,zE,zF,zG,zH,zI,zJ,zK,zL,zM,zN,zO,zP,zR,zS]at *;omega)));done)
  |(with_reducible refine ulD h33 ?_ ?_)<;>simp only [List.length_cons,List.length_nil]
  |(exfalso;exact(by assumption:¬True) True.intro)
  |skip
theorem uwv (d:Dsp)(s g:Int)(h:ue8 d=true)(hF:ua6 d=0)(ho:0≤s∧s≤d.sn-1)(hg:¬(0≤g∧g≤100000)):ua0 Tryz.prog 5 [(dspS d),(iv fun _=>s),(iv fun _=>g)] [] (fun r _=>r=(.bool (.lit true))):=by
 have c10:=ufe
 have hth:=ugk.1 h
 have c9:=uee (uh1 d) h
 have c12:=udw d hth.1 (by omega) (by omega)
 have c25:=udU d s g
 have c21:=uel d
 have s1:=(ua3.1 hF).s1
 have s3:=(ua3.1 hF).s3
 have c14:=uhF d hF
 have z:=unk hF (show ¬chOk d s g from fun q=>hg q.2)
 have c25:=ua0.fitZ c25 (B:=(.tup [(.agg [(.int .i64 (.lit (0))),(.int .i64 (.lit (0)))]),(.int .i64 (.lit (2)))])) (qD (qC (qE z.2.1) rfl (qC (qE z.2.2) rfl qA)) (qD (qE z.1) qB))
 have c21:=ua0.fitZ c21 (B:=(.int .i64 (.lit (0)))) (qE hF)
 have c22a:=(uee (in17 s 0 (d.sn-1)) (by rw [uaJ];exact ho))
 have c22b:=(unF (in17 g 0 100000) (by rw [uaV];exact hg))
 clear z h hth
 have h33:=ugT
 refine ua0.is fun R hR=>qW (sc:=sc5b) tyok mix Tryz.func5 rfl Tryz.call5 (by kernel_rfl) (by kernel_rfl) ?_
 generalize Tryz.prog=P at c10 c9 c12 c25 c14 c21 c22a c22b h33⊢
 cbv
 repeat' (first
  |with_reducible refine hold ?_ ?_
  |with_reducible refine And.intro ?_ ?_
  |(with_reducible intro hcd;(try simp only [zA,zB,zC,zD,zE,zF,zG,zH,zI,zJ,zK,zL,zM,zN,zO,zP]at hcd);try cbv)
  | (refine qP ?_ (c9) ?hfit
     case hfit=>((repeat' (first|exact qB|refine qD ?_ ?_|exact qE (by rfl)|exact qF (by rfl)|exact Fit.refl _|exact qA|refine qC ?_ rfl ?_));done)
     try cbv)
  | (refine qP ?_ (c10) ?hfit
     case hfit=>((repeat' (first|exact qB|refine qD ?_ ?_|exact qE (by rfl)|exact qF (by rfl)|exact Fit.refl _|exact qA|refine qC ?_ rfl ?_));done)
     try cbv)
  | (refine qP ?_ (c12) ?hfit
     case hfit=>((repeat' (first|exact qB|refine qD ?_ ?_|exact qE (by rfl)|exact qF (by rfl)|exact Fit.refl _|exact qA|refine qC ?_ rfl ?_));done)
     try cbv)
  | (refine qP ?_ (c25) ?hfit
     case hfit=>((repeat' (first|exact qB|refine qD ?_ ?_|exact qE (by rfl)|exact qF (by rfl)|exact Fit.refl _|exact qA|refine qC ?_ rfl ?_));done)
     try cbv)
  | (refine qP ?_ (c14) ?hfit
     case hfit=>((repeat' (first|exact qB|refine qD ?_ ?_|exact qE (by rfl)|exact qF (by rfl)|exact Fit.refl _|exact qA|refine qC ?_ rfl ?_));done)
     try cbv)
  | (refine qP ?_ (c21) ?hfit
     case hfit=>((repeat' (first|exact qB|refine qD ?_ ?_|exact qE (by rfl)|exact qF (by rfl)|exact Fit.refl _|exact qA|refine qC ?_ rfl ?_));done)
     try cbv)
  | (refine qP ?_ (c22a) ?hfit
     case hfit=>((repeat' (first|exact qB|refine qD ?_ ?_|exact qE (by rfl)|exact qF (by rfl)|exact Fit.refl _|exact qA|refine qC ?_ rfl ?_));done)
     try cbv)
  | (refine qP ?_ (c22b) ?hfit
     case hfit=>((repeat' (first|exact qB|refine qD ?_ ?_|exact qE (by rfl)|exact qF (by rfl)|exact Fit.refl _|exact qA|refine qC ?_ rfl ?_));done)
     try cbv)
  |fail)
 all_goals first
  |((try simp only [qV]at *);(try simp only [zQ,zA,zB,zC,zD,zE,zF,zG,zH,zI,zJ,zK,zL,zM,zN,zO,zP,zR,zS]at *);first|(refine qN ?_;omega)|(simp only [Hold];omega))
  |(subst hR;(repeat' (first|exact qA|exact qB|refine qC ?_ rfl ?_|refine qD ?_ ?_|exact qE (by rfl)|exact qF (by rfl)|exact Fit.refl _|exact qG _|(refine qE ?_;(try simp only [qV]at *);simp only [zQ,zA,zB,zC,zD,zE,zF,zG,zH,zI,zJ,zK,zL,zM,zN,zO,zP,zR,zS]at *;omega)));done)
  |(with_reducible refine ulD h33 ?_ ?_)<;>simp only [List.length_cons,List.length_nil]
  |(exfalso;exact(by assumption:¬True) True.intro)
  |skip
theorem uwH (d:Dsp)(s g:Int)(h:ue8 d=true)(hF:ua6 d=0)(ho:0≤s∧s≤d.sn-1)(hg:0≤g∧g≤100000)(hE:¬uac d=0):ua0 Tryz.prog 5 [(dspS d),(iv fun _=>s),(iv fun _=>g)] [] (fun r _=>r=(.bool (.lit true))):=by
 have c10:=ufe
 have hth:=ugk.1 h
 have c9:=uee (uh1 d) h
 have c12:=udw d hth.1 (by omega) (by omega)
 have c25:=udU d s g
 have c21:=uel d
 have s1:=(ua3.1 hF).s1
 have s3:=(ua3.1 hF).s3
 have c14:=uhF d hF
 have z:=ulX hF (show chOk d s g from⟨ho,hg⟩) hE
 have h9:=utN hF hE
 have c25:=ua0.fitZ c25 (B:=(.tup [(.agg [(.int .i64 (.lit (0))),(.int .i64 (.lit (0)))]),(.int .i64 (.lit (9)))])) (qD (qC (qE z.2.1) rfl (qC (qE z.2.2) rfl qA)) (qD (qE (z.1.trans h9)) qB))
 have c14:=ua0.fitZ c14 (B:=(.tup [(.sl 2 (.sym fun _=>zi (d.fs).length) (fun ix=>[(iv fun _=>((FO d d.fs).getD ix.den.toNat f0).lo),(iv fun _=>((FO d d.fs).getD ix.den.toNat f0).hi)])),(.int .i64 (.lit (9)))])) (qD (Fit.refl _) (qD (qE h9) qB))
 have c21:=ua0.fitZ c21 (B:=(.int .i64 (.lit (0)))) (qE hF)
 have c22a:=(uee (in17 s 0 (d.sn-1)) (by rw [uaJ];exact ho))
 have c22b:=(uee (in17 g 0 100000) (by rw [uaJ];exact hg))
 clear z h hth
 have h33:=ugT
 refine ua0.is fun R hR=>qW (sc:=sc5b) tyok mix Tryz.func5 rfl Tryz.call5 (by kernel_rfl) (by kernel_rfl) ?_
 generalize Tryz.prog=P at c10 c9 c12 c25 c14 c21 c22a c22b h33⊢
 cbv
 repeat' (first
  |with_reducible refine hold ?_ ?_
  |with_reducible refine And.intro ?_ ?_
  |(with_reducible intro hcd;(try simp only [zA,zB,zC,zD,zE,zF,zG,zH,zI,zJ,zK,zL,zM,zN,zO,zP]at hcd);try cbv)
  | (refine qP ?_ (c9) ?hfit
     case hfit=>((repeat' (first|exact qB|refine qD ?_ ?_|exact qE (by rfl)|exact qF (by rfl)|exact Fit.refl _|exact qA|refine qC ?_ rfl ?_));done)
     try cbv)
  | (refine qP ?_ (c10) ?hfit
     case hfit=>((repeat' (first|exact qB|refine qD ?_ ?_|exact qE (by rfl)|exact qF (by rfl)|exact Fit.refl _|exact qA|refine qC ?_ rfl ?_));done)
     try cbv)
  | (refine qP ?_ (c12) ?hfit
     case hfit=>((repeat' (first|exact qB|refine qD ?_ ?_|exact qE (by rfl)|exact qF (by rfl)|exact Fit.refl _|exact qA|refine qC ?_ rfl ?_));done)
     try cbv)
  | (refine qP ?_ (c25) ?hfit
     case hfit=>((repeat' (first|exact qB|refine qD ?_ ?_|exact qE (by rfl)|exact qF (by rfl)|exact Fit.refl _|exact qA|refine qC ?_ rfl ?_));done)
     try cbv)
  | (refine qP ?_ (c14) ?hfit
     case hfit=>((repeat' (first|exact qB|refine qD ?_ ?_|exact qE (by rfl)|exact qF (by rfl)|exact Fit.refl _|exact qA|refine qC ?_ rfl ?_));done)
     try cbv)
  | (refine qP ?_ (c21) ?hfit
     case hfit=>((repeat' (first|exact qB|refine qD ?_ ?_|exact qE (by rfl)|exact qF (by rfl)|exact Fit.refl _|exact qA|refine qC ?_ rfl ?_));done)
     try cbv)
  | (refine qP ?_ (c22a) ?hfit
     case hfit=>((repeat' (first|exact qB|refine qD ?_ ?_|exact qE (by rfl)|exact qF (by rfl)|exact Fit.refl _|exact qA|refine qC ?_ rfl ?_));done)
     try cbv)
  | (refine qP ?_ (c22b) ?hfit
     case hfit=>((repeat' (first|exact qB|refine qD ?_ ?_|exact qE (by rfl)|exact qF (by rfl)|exact Fit.refl _|exact qA|refine qC ?_ rfl ?_));done)
     try cbv)
  |fail)
 all_goals first
  |((try simp only [qV]at *);(try simp only [zQ,zA,zB,zC,zD,zE,zF,zG,zH,zI,zJ,zK,zL,zM,zN,zO,zP,zR,zS]at *);first|(refine qN ?_;omega)|(simp only [Hold];omega))
  |(subst hR;(repeat' (first|exact qA|exact qB|refine qC ?_ rfl ?_|refine qD ?_ ?_|exact qE (by rfl)|exact qF (by rfl)|exact Fit.refl _|exact qG _|(refine qE ?_;(try simp only [qV]at *);simp only [zQ,zA,zB,zC,zD,zE,zF,zG,zH,zI,zJ,zK,zL,zM,zN,zO,zP,zR,zS]at *;omega)));done)
  |(with_reducible refine ulD h33 ?_ ?_)<;>simp only [List.length_cons,List.length_nil]
  |(exfalso;exact(by assumption:¬True) True.intro)
  |skip
set_option maxHeartbeats 4000000 in
theorem uwr (d:Dsp)(s g:Int)(h:ue8 d=true)(hF:ua6 d=0)(ho:0≤s∧s≤d.sn-1)(hg:0≤g∧g≤100000)(hE:uac d=0):ua0 Tryz.prog 5 [(dspS d),(iv fun _=>s),(iv fun _=>g)] [] (fun r _=>r=(.bool (.lit true))):=by
 have c10:=ufe
 have c27:=ueE
 have hth:=ugk.1 h
 have c9:=uee (uh1 d) h
 have c12:=udw d hth.1 (by omega) (by omega)
 have c25:=udU d s g
 have c21:=uel d
 have s1:=(ua3.1 hF).s1
 have s3:=(ua3.1 hF).s3
 have c14:=uhF d hF
 have hd:=ua3.1 hF
 have z:=ukS hF (show chOk d s g from⟨ho,hg⟩) hE
 have hll:=upX d hF
 have has:=unV hE
 have hsn:s.toNat<SN d:=by unfold SN;omega
 have rl:=uqX hE
 have c16:=uup d _ hd rfl
 rw [utr hE rfl]at c16
 have hsd:SN d=d.sn.toNat:=rfl
 have c26:=fun (o:Nat) (ho:o≤1000)=>uvO d o hd ho
 obtain⟨L,hL⟩:∃L,L=leaL d:=⟨_,rfl⟩
 rw [←hL]at z rl c16 hll has
 have hml:uby L L.length<2^6:=Nat.lt_of_lt_of_le (uid (m:=d.fs.length) fun j hj=>by have:=ueb has j (by omega);omega) (Nat.pow_le_pow_right (by decide) hd.f6)
 have hmi:∀i,i<L.length→uby L i<2^6:=fun i hi=>Nat.lt_of_lt_of_le (uid (m:=d.fs.length) fun j hj=>by have:=ueb has j (by omega);omega) (Nat.pow_le_pow_right (by decide) hd.f6)
 have hpl:∀i,i<L.length→2^(L.getD i 0).toNat<2^6:=fun i hi=>Nat.pow_lt_pow_right (by decide) (by have:=ueb has i hi;have:=hd.f6;omega)
 have hx1:∀i,i<L.length→0≤L.getD i 0∧L.getD i 0<6:=fun i hi=>by have:=ueb has i hi;have:=hd.f6;omega
 have bnd:=urA hE hsn
 rw [←hL]at bnd
 have c26y:=ua0.fitZ (c26 (uby L L.length) (by omega)) (B:=(.tup [(.sl 2 (.sym fun _=>d.sn) (fun ix=>[(iv fun _=>(allS (sixN (SN d) (LO d) (FO d d.fs) (outN (uby L L.length)))).lo ix.den.toNat),(iv fun _=>(allS (sixN (SN d) (LO d) (FO d d.fs) (outN (uby L L.length)))).hi ix.den.toNat)])),(.bool (.lit true))])) (qD (Fit.refl _) (qD (qF rl.1) qB))
 have r2:=rl.2 s.toNat hsn
 obtain⟨lo,hlo⟩:∃f,f=fun n=>(allS (sixN (SN d) (LO d) (FO d d.fs) (outN (uby L L.length)))).lo n:=⟨_,rfl⟩
 obtain⟨hi,hhi⟩:∃f,f=fun n=>(allS (sixN (SN d) (LO d) (FO d d.fs) (outN (uby L L.length)))).hi n:=⟨_,rfl⟩
 have e1:lo s.toNat=loT d L s.toNat:=by rw [hlo];exact r2.1
 have e2:hi s.toNat=hiT d L s.toNat:=by rw [hhi];exact r2.2
 have c26y:=ua0.fitZ c26y (B:=(.tup [(.sl 2 (.sym fun _=>d.sn) (fun ix=>[(iv fun _=>lo ix.den.toNat),(iv fun _=>hi ix.den.toNat)])),(.bool (.lit true))])) (by rw [hlo,hhi];exact Fit.refl _)
 clear c26 rl hlo hhi r2
 obtain⟨x,hx⟩:∃x,x=loT d L s.toNat:=⟨_,rfl⟩
 obtain⟨y,hy⟩:∃x,x=hiT d L s.toNat:=⟨_,rfl⟩
 rw [←hx]at z bnd e1
 rw [←hy]at z bnd e2
 obtain⟨p,hp⟩:∃p,p=g*x:=⟨_,rfl⟩
 obtain⟨q,hq⟩:∃p,p=g*y:=⟨_,rfl⟩
 have b1:=ueO (x:=x) hg.1 hg.2 (by omega) (by omega)
 have b2:=ueO (x:=y) hg.1 hg.2 (by omega) (by omega)
 rw [←hp]at z b1
 rw [←hq]at z b2
 have c25:=ua0.fitZ c25 (B:=(.tup [(.agg [(iv fun _=>p.tdiv 1000),(iv fun _=>q.tdiv 1000)]),(.int .i64 (.lit (0)))])) (qD (qC (qE z.2.1) rfl (qC (qE z.2.2) rfl qA)) (qD (qE z.1) qB))
 have c14:=ua0.fitZ c14 (B:=(.tup [(.sl 2 (.sym fun _=>zi (d.fs).length) (fun ix=>[(iv fun _=>((FO d d.fs).getD ix.den.toNat f0).lo),(iv fun _=>((FO d d.fs).getD ix.den.toNat f0).hi)])),(.int .i64 (.lit (0)))])) (qD (Fit.refl _) (qD (qE hE) qB))
 have c21:=ua0.fitZ c21 (B:=(.int .i64 (.lit (0)))) (qE hF)
 have c22a:=(uee (in17 s 0 (d.sn-1)) (by rw [uaJ];exact ho))
 have c22b:=(uee (in17 g 0 100000) (by rw [uaJ];exact hg))
 clear z h hth hL hx hy has hsd hsn
 have h33:=ugT
 refine ua0.is fun R hR=>qW (sc:=sc5b) tyok mix Tryz.func5 rfl Tryz.call5 (by kernel_rfl) (by kernel_rfl) ?_
 generalize Tryz.prog=P at c10 c27 c9 c12 c25 c14 c21 c22a c22b c16 c26y h33⊢
 cbv
 repeat' (first
  |with_reducible refine hold ?_ ?_
  | (refine qP ?_ (c9) ?hfit
     case hfit=>((repeat' (first|exact qB|refine qD ?_ ?_|exact qE (by rfl)|exact qF (by rfl)|exact Fit.refl _|exact qA|refine qC ?_ rfl ?_));done)
     try cbv)
  | (refine qP ?_ (c12) ?hfit
     case hfit=>((repeat' (first|exact qB|refine qD ?_ ?_|exact qE (by rfl)|exact qF (by rfl)|exact Fit.refl _|exact qA|refine qC ?_ rfl ?_));done)
     try cbv)
  | (refine qP ?_ (c25) ?hfit
     case hfit=>((repeat' (first|exact qB|refine qD ?_ ?_|exact qE (by rfl)|exact qF (by rfl)|exact Fit.refl _|exact qA|refine qC ?_ rfl ?_));done)
     try cbv)
  | (refine qP ?_ (c14) ?hfit
     case hfit=>((repeat' (first|exact qB|refine qD ?_ ?_|exact qE (by rfl)|exact qF (by rfl)|exact Fit.refl _|exact qA|refine qC ?_ rfl ?_));done)
     try cbv)
  | (refine qP ?_ (c21) ?hfit
     case hfit=>((repeat' (first|exact qB|refine qD ?_ ?_|exact qE (by rfl)|exact qF (by rfl)|exact Fit.refl _|exact qA|refine qC ?_ rfl ?_));done)
     try cbv)
  | (refine qP ?_ (c22a) ?hfit
     case hfit=>((repeat' (first|exact qB|refine qD ?_ ?_|exact qE (by rfl)|exact qF (by rfl)|exact Fit.refl _|exact qA|refine qC ?_ rfl ?_));done)
     try cbv)
  | (refine qP ?_ (c22b) ?hfit
     case hfit=>((repeat' (first|exact qB|refine qD ?_ ?_|exact qE (by rfl)|exact qF (by rfl)|exact Fit.refl _|exact qA|refine qC ?_ rfl ?_));done)
     try cbv)
  | (refine qP ?_ (c16) ?hfit
     case hfit=>((repeat' (first|exact qB|refine qD ?_ ?_|exact qE (by rfl)|exact qF (by rfl)|exact Fit.refl _|exact qA|refine qC ?_ rfl ?_));done)
     try cbv)
  |fail)
 all_goals first
  |((try simp only [qV]at *);(try simp only [zQ,zA,zB,zC,zD,zE,zF,zG,zH,zI,zJ,zK,zL,zM,zN,zO,zP,zR,zS]at *);first|(refine qN ?_;omega)|(simp only [Hold];omega))
  |skip
 refine⟨none,[],{i:Nat // i≤L.length},fun x=>⟨[(1,(iv fun _=>s)),(2,(iv fun _=>g)),(3,.own 0 0),(7,.own 13 0),(8,(.int .i64 (.lit (0)))),(9,(.sl 2 (.sym fun _=>zi (d.fs).length) (fun ix=>[(iv fun _=>((FO d d.fs).getD ix.den.toNat f0).lo),(iv fun _=>((FO d d.fs).getD ix.den.toNat f0).hi)]))),(11,(iv fun _=>zi (uby L x.1))),(12,(iS L)),(13,(iv fun _=>zi x.1))],[(0,.cells [(iS d.tw),(iS d.tm),(.sl 1 (.sym fun _=>zi (d.tv).length) (fun ix=>[(.sl 1 (.sym fun _=>zi ((d.tv).getD ix.den.toNat []).length) (fun jx=>[(iv fun _=>((d.tv).getD ix.den.toNat []).getD jx.den.toNat 0)]))])),(iv fun _=>d.sn),(iv fun _=>d.pn),(.sl 4 (.sym fun _=>zi (d.ls).length) (fun ix=>[(iv fun _=>((d.ls).getD ix.den.toNat l0T).a),(iv fun _=>((d.ls).getD ix.den.toNat l0T).b),(iv fun _=>((d.ls).getD ix.den.toNat l0T).lo),(iv fun _=>((d.ls).getD ix.den.toNat l0T).hi)])),(.sl 6 (.sym fun _=>zi (d.fs).length) (fun ix=>[(iv fun _=>((d.fs).getD ix.den.toNat f0T).p),(iv fun _=>((d.fs).getD ix.den.toNat f0T).s),(iv fun _=>((d.fs).getD ix.den.toNat f0T).wl),(iv fun _=>((d.fs).getD ix.den.toNat f0T).wh),(iv fun _=>((d.fs).getD ix.den.toNat f0T).ml),(iv fun _=>((d.fs).getD ix.den.toNat f0T).mh)]))] 29),(13,.cells [(iv fun _=>p.tdiv 1000),(iv fun _=>q.tdiv 1000)] 59)],200⟩,fun x=>L.length-x.1,?_,?_⟩
 ·refine⟨⟨0,by omega⟩,?_⟩
  cbv
  repeat' (first
   |with_reducible refine hold ?_ ?_
   |with_reducible refine And.intro ?_ ?_)
  all_goals first
   |trivial
   |exact qM (qE (by rfl))
   |exact qM (Fit.refl _)
   |exact qL (qK _)
   |skip
 ·rintro ⟨i,hi⟩
  cbv
  repeat' (first
   |with_reducible refine hold ?_ ?_
   |with_reducible refine And.intro ?_ ?_
   | (with_reducible refine qS ?_ ?_ ?_
      try cbv)
   |(with_reducible intro hcd;(try simp only [zA,zB,zC,zD,zE,zF,zG,zH,zI,zJ,zK,zL,zM,zN,zO,zP]at hcd);try cbv)
   | (refine qP ?_ (c10) ?hfit
      case hfit=>((repeat' (first|exact qB|refine qD ?_ ?_|exact qE (by rfl)|exact qF (by rfl)|exact Fit.refl _|exact qA|refine qC ?_ rfl ?_));done)
      try cbv)
   | (with_reducible refine uwq ?_ ?_ ?_
      try cbv)
   | (refine⟨zi (uby L i |||2^(L.getD i 0).toNat),?_⟩
      cbv
      refine hold (uux (x:=uby L i) (y:=2^(L.getD i 0).toNat) (by first|rfl|((try simp only [qV]at *);(try simp only [zQ,zA,zB,zC,zD,zE,zF,zG,zH,zI,zJ,zK,zL,zM,zN,zO,zP,zR,zS]at *);rfl)) (by((try simp only [qV]at *);(try simp only [zQ,zA,zB,zC,zD,zE,zF,zG,zH,zI,zJ,zK,zL,zM,zN,zO,zP,zR,zS]at *));(try simp)) (hmi i (by((try simp only [qV]at *);(try simp only [zQ,zA,zB,zC,zD,zE,zF,zG,zH,zI,zJ,zK,zL,zM,zN,zO,zP,zR,zS]at *);omega))) (hpl i (by((try simp only [qV]at *);(try simp only [zQ,zA,zB,zC,zD,zE,zF,zG,zH,zI,zJ,zK,zL,zM,zN,zO,zP,zR,zS]at *);omega)))) ?_
      try cbv)
   | (refine qP ?_ c26y ?hfit
      case hfit=>(exact qD (Fit.refl _) (qD (Fit.refl _) (qD (qE (congrArg zi (uv6 (by((try simp only [qV]at *);(try simp only [zQ,zA,zB,zC,zD,zE,zF,zG,zH,zI,zJ,zK,zL,zM,zN,zO,zP,zR,zS]at *);omega))))) qB)))
      try cbv)
   | (refine qP ?_ (c27 (p.tdiv 1000) (q.tdiv 1000)) ?hfit
      case hfit=>(exact qD (qE (by((try simp only [qV]at *);(try simp only [zQ,zA,zB,zC,zD,zE,zF,zG,zH,zI,zJ,zK,zL,zM,zN,zO,zP,zR,zS]at *);rw [e1,←hp]))) (qD (qE (by((try simp only [qV]at *);(try simp only [zQ,zA,zB,zC,zD,zE,zF,zG,zH,zI,zJ,zK,zL,zM,zN,zO,zP,zR,zS]at *);rw [e2,←hq]))) qB))
      try cbv)
   |fail)
  all_goals first
   |trivial
   |((try clear c9);(try clear c12);(try clear c25);(try clear c14);(try clear c21);(try clear c22a);(try clear c22b);(try clear c16);(try clear c26y);(try clear c27);((try simp only [qV]at *);(try simp only [zQ,zA,zB,zC,zD,zE,zF,zG,zH,zI,zJ,zK,zL,zM,zN,zO,zP,zR,zS]at *);first|(refine qN ?_;omega)|(simp only [Hold];omega)))
   |((try clear c9);(try clear c12);(try clear c25);(try clear c14);(try clear c21);(try clear c22a);(try clear c22b);(try clear c16);(try clear c26y);(try clear c27);(subst hR;(repeat' (first|exact qA|exact qB|refine qC ?_ rfl ?_|refine qD ?_ ?_|exact qE (by rfl)|exact qF (by rfl)|exact Fit.refl _|exact qG _|(refine qE ?_;(try simp only [qV]at *);simp only [zQ,zA,zB,zC,zD,zE,zF,zG,zH,zI,zJ,zK,zL,zM,zN,zO,zP,zR,zS]at *;omega)));done))
   |((try clear c9);(try clear c12);(try clear c25);(try clear c14);(try clear c21);(try clear c22a);(try clear c22b);(try clear c16);(try clear c26y);(try clear c27);((have hq1:=hx1 i (by((try simp only [qV]at *);(try simp only [zQ,zA,zB,zC,zD,zE,zF,zG,zH,zI,zJ,zK,zL,zM,zN,zO,zP,zR,zS]at *);omega)));(try simp only [qV]at *);(try simp only [zQ,zA,zB,zC,zD,zE,zF,zG,zH,zI,zJ,zK,zL,zM,zN,zO,zP,zR,zS]at *);first|(refine udT ?_;omega)|(refine ucW ?_;omega)|(refine qN ?_;omega)))
   |((try clear c9);(try clear c12);(try clear c25);(try clear c14);(try clear c21);(try clear c22a);(try clear c22b);(try clear c16);(try clear c26y);(try clear c27);((have hq1:=hx1 i (by((try simp only [qV]at *);(try simp only [zQ,zA,zB,zC,zD,zE,zF,zG,zH,zI,zJ,zK,zL,zM,zN,zO,zP,zR,zS]at *);omega)));(try simp only [qV]at *);(try simp only [zQ,zA,zB,zC,zD,zE,zF,zG,zH,zI,zJ,zK,zL,zM,zN,zO,zP,zR,zS]at *);first|(exact uvc (by omega) (by omega))))
   |((try clear c9);(try clear c12);(try clear c25);(try clear c14);(try clear c21);(try clear c22a);(try clear c22b);(try clear c16);(try clear c26y);(try clear c27);((try simp only [qV]at *);(try simp only [zQ,zA,zB,zC,zD,zE,zF,zG,zH,zI,zJ,zK,zL,zM,zN,zO,zP,zR,zS]at *);first|(refine qN ?_;rw [e1,←hp];omega)|(refine qN ?_;rw [e2,←hq];omega)))
   |((try clear c9);(try clear c12);(try clear c25);(try clear c14);(try clear c21);(try clear c22a);(try clear c22b);(try clear c16);(try clear c26y);(try clear c27);((try simp only [qV]at *);(try simp only [zQ,zA,zB,zC,zD,zE,zF,zG,zH,zI,zJ,zK,zL,zM,zN,zO,zP,zR,zS]at *);(have t1:=udR b1);(have t2:=udR b2);refine qN ?_;first|(rw [e1,←hp];omega)|(rw [e2,←hq];omega)))
   |((try clear c9);(try clear c12);(try clear c25);(try clear c14);(try clear c21);(try clear c22a);(try clear c22b);(try clear c16);(try clear c26y);(try clear c27);((try simp only [zQ,zA,zB,zC,zD,zE,zF,zG,zH,zI,zJ,zK,zL,zM,zN,zO,zP,zR,zS]at *);refine⟨⟨i+1,by((try simp only [qV]at *);(try simp only [zQ,zA,zB,zC,zD,zE,zF,zG,zH,zI,zJ,zK,zL,zM,zN,zO,zP,zR,zS]at *);omega)⟩,by simp only [];omega,?_⟩;cbv;(repeat' (first|with_reducible refine hold ?_ ?_|with_reducible refine And.intro ?_ ?_));(all_goals first|trivial|exact qM (qE (by rfl))|exact qM (qF (by rfl))|exact qM (Fit.refl _)|exact qL (qK _)|(refine qM (qE ?_);(try simp only [qV]at *);simp only [zQ,zA,zB,zC,zD,zE,zF,zG,zH,zI,zJ,zK,zL,zM,zN,zO,zP,zR,zS]at *;omega)|(refine qL (qJ ?_);(repeat' (first|exact qA|exact qB|refine qC ?_ rfl ?_|refine qD ?_ ?_|exact qE (by rfl)|exact qF (by rfl)|exact Fit.refl _|exact qG _|(refine qE ?_;(try simp only [qV]at *);simp only [zQ,zA,zB,zC,zD,zE,zF,zG,zH,zI,zJ,zK,zL,zM,zN,zO,zP,zR,zS]at *;omega)));done)|(exact qM (qE rfl))|skip)))
   |skip
theorem law5 (d:Dsp)(s g:Int):ua0 Tryz.prog 5 [(dspS d),(iv fun _=>s),(iv fun _=>g)] [] (fun r _=>r = .bool (.lit true)):=by
 cases h:ue8 d with
 |false=>exact uwF d s g h
 | true=>
  by_cases hF:ua6 d=0
  ·by_cases ho:0≤s∧s≤d.sn-1
   ·by_cases hg:0≤g∧g≤100000
    ·by_cases hE:uac d=0
     ·exact uwr d s g h hF ho hg hE
     ·exact uwH d s g h hF ho hg hE
    ·exact uwv d s g h hF ho hg
   ·exact uxg d s g h hF ho
  ·exact uxl d s g h hF
end Go.Proofs.YtkdggbfknlcdaaaGreat
