/- CaskGauges: what the law computes. No condition. -/
import Derived.Test.YtpkgnhcfmpbidaaT8
set_option linter.unusedVariables false
set_option linter.unusedSimpArgs false
set_option linter.deprecated false
set_option linter.all false

namespace Go.Proofs.Ytpkgnhcfmpbidaa
open Go Go.Eng Go.Proofs Go.Eng.Ck Go.Eng.Few
set_option maxRecDepth 10000
theorem uw0 (c:Clr)(w d n g:Int)(h:udE c=false):ua0 Try.prog 3 [(.agg [(caS c.cs),(mvS c.mv),(gaS c.gs)]),(iv fun _=>w),(iv fun _=>d),(iv fun _=>n),(iv fun _=>g)] [] (fun r _=>r=(.bool (.lit true))):=by
 have c15:=udx c
 have c16:=ucc
 refine ua0.is fun R hR=>qY (sc:=sc3) uas mix Try.func3 rfl Try.call3 (by kernel_rfl) (by kernel_rfl) ?_
 generalize Try.prog=P at c15 c16⊢
 cbv
 repeat' (first|with_reducible refine And.intro ?_ ?_|(with_reducible intro hcd;(try simp only [zA,zB,zC,zD,zE,zF,zG,zH,zI,zJ,zK,zL,zM,zN,zO,zP]at hcd);try cbv)|(refine qQ ?_ (c15) ?hfit;(case hfit=>((repeat' (first|exact qB|refine qD ?_ ?_|exact qE (by rfl)|exact qF (by rfl)|exact Fit.refl _|exact qA|refine qC ?_ rfl ?_));done));try cbv)|(refine qQ ?_ (c16) ?hfit;(case hfit=>((repeat' (first|exact qB|refine qD ?_ ?_|exact qE (by rfl)|exact qF (by rfl)|exact Fit.refl _|exact qA|refine qC ?_ rfl ?_));done));try cbv)|fail)
 all_goals first|(subst hR;(repeat' (first|exact qA|exact qB|refine qC ?_ rfl ?_|refine qD ?_ ?_|exact qE (by rfl)|exact qF (by rfl)|exact Fit.refl _|exact qG _|(refine qE ?_;(try simp only [qX]at *);simp only [zQ,zA,zB,zC,zD,zE,zF,zG,zH,zI,zJ,zK,zL,zM,zN,zO,zP,zR,zS]at *;omega)));done)|(exfalso;rw [h]at hcd;cases hcd;done)|skip
theorem uxx (c:Clr)(w d n g:Int)(h:udE c=true)(hF:¬ua6 c=0):ua0 Try.prog 3 [(.agg [(caS c.cs),(mvS c.mv),(gaS c.gs)]),(iv fun _=>w),(iv fun _=>d),(iv fun _=>n),(iv fun _=>g)] [] (fun r _=>r=(.bool (.lit true))):=by
 have c15:=udx c
 have c16:=ucc
 have c21:=ucm c
 have c22:=uaC c
 have c23:= @ums
 have c24:= @umL
 have h39:=ud4
 have hth:=uc8.1 h
 have c18:=ubJ c ⟨by have:=hth.2;omega,by have:=hth.2;omega,by have:=hth.2;omega⟩ (fun i hi=>by have:=hth.1 i hi;omega)
 have c17:=uba c w d
 have c19:=ufJ c w n
 have c20:=udA c g
 have hth2:=hth.2
 have z1:=uos (x:=w) (d:=d) hF
 have z2:=unW (x:=w) (n:=n) hF
 have z3:=uoZ (g:=g) hF
 rw [z1.1,z1.2]at c17
 rw [z2.1,z2.2]at c19
 rw [z3.1,z3.2.1,z3.2.2]at c20
 clear hth
 refine ua0.is fun R hR=>qY (sc:=sc3) uas mix Try.func3 rfl Try.call3 (by kernel_rfl) (by kernel_rfl) ?_
 generalize Try.prog=P at c15 c16 c21 c22 c23 c24 h39 c18 c17 c19 c20⊢
 cbv
 repeat' (first|with_reducible refine ua3 ?_ ?_|with_reducible refine And.intro ?_ ?_|(with_reducible intro hcd;(try simp only [zA,zB,zC,zD,zE,zF,zG,zH,zI,zJ,zK,zL,zM,zN,zO,zP]at hcd);try cbv)|(refine qQ ?_ (c15) ?hfit;(case hfit=>((repeat' (first|exact qB|refine qD ?_ ?_|exact qE (by rfl)|exact qF (by rfl)|exact Fit.refl _|exact qA|refine qC ?_ rfl ?_));done));try cbv)|(refine qQ ?_ (c16) ?hfit;(case hfit=>((repeat' (first|exact qB|refine qD ?_ ?_|exact qE (by rfl)|exact qF (by rfl)|exact Fit.refl _|exact qA|refine qC ?_ rfl ?_));done));try cbv)|(refine qQ ?_ (c18) ?hfit;(case hfit=>((repeat' (first|exact qB|refine qD ?_ ?_|exact qE (by rfl)|exact qF (by rfl)|exact Fit.refl _|exact qA|refine qC ?_ rfl ?_));done));try cbv)|(refine qQ ?_ (c17) ?hfit;(case hfit=>((repeat' (first|exact qB|refine qD ?_ ?_|exact qE (by rfl)|exact qF (by rfl)|exact Fit.refl _|exact qA|refine qC ?_ rfl ?_));done));try cbv)|(refine qQ ?_ (c19) ?hfit;(case hfit=>((repeat' (first|exact qB|refine qD ?_ ?_|exact qE (by rfl)|exact qF (by rfl)|exact Fit.refl _|exact qA|refine qC ?_ rfl ?_));done));try cbv)|(refine qQ ?_ (c20) ?hfit;(case hfit=>((repeat' (first|exact qB|refine qD ?_ ?_|exact qE (by rfl)|exact qF (by rfl)|exact Fit.refl _|exact qA|refine qC ?_ rfl ?_));done));try cbv)|(refine qQ ?_ (c21) ?hfit;(case hfit=>((repeat' (first|exact qB|refine qD ?_ ?_|exact qE (by rfl)|exact qF (by rfl)|exact Fit.refl _|exact qA|refine qC ?_ rfl ?_));done));try cbv)|(refine qQ ?_ (c22) ?hfit;(case hfit=>((repeat' (first|exact qB|refine qD ?_ ?_|exact qE (by rfl)|exact qF (by rfl)|exact Fit.refl _|exact qA|refine qC ?_ rfl ?_));done));try cbv)|(refine uaj ?_ (c23 _ _ _);try cbv)|fail)
 all_goals first|trivial|(subst hR;(repeat' (first|exact qA|exact qB|refine qC ?_ rfl ?_|refine qD ?_ ?_|exact qE (by rfl)|exact qF (by rfl)|exact Fit.refl _|exact qG _|(refine qE ?_;(try simp only [qX]at *);simp only [zQ,zA,zB,zC,zD,zE,zF,zG,zH,zI,zJ,zK,zL,zM,zN,zO,zP,zR,zS]at *;omega)));done)|skip
end Go.Proofs.Ytpkgnhcfmpbidaa

namespace Go.Proofs.Ytpkgnhcfmpbidaa
open Go Go.Eng Go.Proofs Go.Eng.Ck Go.Eng.Few
set_option maxRecDepth 10000
theorem uvI {ms:List (Int×Int)}(h:MOk ms) {n:Int}(hn:0≤n) {x:Nat}(hx:(x:Int)≤tpD ms)(hc:ct ms x≤n):(x:Int)=bsN ms n (x+1):=((ukE h hn hx).1 hc).symm
theorem uvy {ms:List (Int×Int)}(h:MOk ms) {n:Int}(hn:0≤n) {x:Nat}(hx:(x:Int)≤tpD ms)(hc:¬ct ms x≤n):bsN ms n x=bsN ms n (x+1):=by
 have e:=(ukE h hn hx).2 hc
 cases x with
 |zero=>exact absurd (show ct ms 0≤n by rw [uhp h];exact hn) hc
 |succ x=>exact e.symm
theorem ukC {ms:List (Int×Int)} {n:Int} {x:Nat}(h0:0≤tpD ms)(hx:(x:Int)=tpD ms+1):bsN ms n x=dip ms n:=by
 have e:x=(tpD ms).toNat+1:=by omega
 rw [e];rfl
set_option maxHeartbeats 4000000 in
theorem ueY (c:Clr)(w d n g:Int)(h:udE c=true)(hF:ua6 c=0)(hG:(0≤g∧g≤(c.gs.length:Int)-1))(hW:¬(0≤w∧w≤(c.cs.length:Int)-1)):ua0 Try.prog 3 [(.agg [(caS c.cs),(mvS c.mv),(gaS c.gs)]),(iv fun _=>w),(iv fun _=>d),(iv fun _=>n),(iv fun _=>g)] [] (fun r _=>r=(.bool (.lit true))):=by
 have c15:=udx c
 have c16:=ucc
 have c23:= @ums
 have c24:= @umL
 have h39:=ud4
 have c21:=(show ua0 Try.prog 21 [(.agg [(caS c.cs),(mvS c.mv),(gaS c.gs)])] [] (fun r _=>r=(iv fun _=>0))from by have q:=ucm c;rw [hF]at q;exact q)
 have c22:=(show ua0 Try.prog 22 [(.agg [(caS c.cs),(mvS c.mv),(gaS c.gs)])] [] (fun r _=>r=(iv fun _=>0))from by have q:=uaC c;rw [hF]at q;exact q)
 have hth:=uc8.1 h
 have c18:=ubJ c ⟨by have:=hth.2;omega,by have:=hth.2;omega,by have:=hth.2;omega⟩ (fun i hi=>by have:=hth.1 i hi;omega)
 have c17:=uba c w d
 have c19:=ufJ c w n
 have c20:=udA c g
 have hth2:=hth.2
 have hC:=uaa.1 hF
 have hgB:inB 0 g (zi c.gs.length-1)=true:=by rw [uah];exact hG
 have hwB:inB 0 w (zi c.cs.length-1)=false:=by rw [uaq];exact hW
 have z1:=ugm (x:=w) (d:=d) hF (fun q=>hW q.1)
 have z2:=ugy (x:=w) (n:=n) hF (fun q=>hW q.1)
 have z3:=uer (g:=g) hF hG
 have hg:GOk c.cs c.mv.length (gAt c g):=hC.g g.toNat (by omega)
 have c25:=uiv c (gAt c g) (by omega) hg (hC.k _ (by have:=hg.c0;have:=hg.c1;omega)).m
 unfold gAt at c25 z3
 rw [z1.1,z1.2]at c17
 rw [z2.1,z2.2]at c19
 rw [z3.1,z3.2.1,z3.2.2]at c20
 clear hth z1 z2 z3
 refine ua0.is fun R hR=>qY (sc:=sc3) uas mix Try.func3 rfl Try.call3 (by kernel_rfl) (by kernel_rfl) ?_
 generalize Try.prog=P at c15 c16 c23 c24 h39 c21 c22 c18 c17 c19 c20 c25⊢
 cbv
 repeat' (first|(with_reducible intro hcd;exfalso;(try simp only [zQ,zA,zB,zC,zD,zE,zF,zG,zH,zI,zJ,zK,zL,zM,zN,zO,zP,zR,zS]at hcd);omega)|(with_reducible intro hcd;(try simp only [zA,zB,zC,zD,zE,zF,zG,zH,zI,zJ,zK,zL,zM,zN,zO,zP]at hcd);exact Bool.noConfusion (hgB.symm.trans hcd))|(with_reducible intro hcd;(try simp only [zA,zB,zC,zD,zE,zF,zG,zH,zI,zJ,zK,zL,zM,zN,zO,zP]at hcd);exact Bool.noConfusion (hwB.symm.trans hcd))|with_reducible refine ua3 ?_ ?_|with_reducible refine And.intro ?_ ?_|(with_reducible intro hcd;(try simp only [zA,zB,zC,zD,zE,zF,zG,zH,zI,zJ,zK,zL,zM,zN,zO,zP]at hcd);try cbv)|(refine qQ ?_ (c15) ?hfit;(case hfit=>((repeat' (first|exact qB|refine qD ?_ ?_|exact qE (by rfl)|exact qF (by rfl)|exact Fit.refl _|exact qA|refine qC ?_ rfl ?_));done));try cbv)|(refine qQ ?_ (c16) ?hfit;(case hfit=>((repeat' (first|exact qB|refine qD ?_ ?_|exact qE (by rfl)|exact qF (by rfl)|exact Fit.refl _|exact qA|refine qC ?_ rfl ?_));done));try cbv)|(refine qQ ?_ (c18) ?hfit;(case hfit=>((repeat' (first|exact qB|refine qD ?_ ?_|exact qE (by rfl)|exact qF (by rfl)|exact Fit.refl _|exact qA|refine qC ?_ rfl ?_));done));try cbv)|(refine qQ ?_ (c17) ?hfit;(case hfit=>((repeat' (first|exact qB|refine qD ?_ ?_|exact qE (by rfl)|exact qF (by rfl)|exact Fit.refl _|exact qA|refine qC ?_ rfl ?_));done));try cbv)|(refine qQ ?_ (c19) ?hfit;(case hfit=>((repeat' (first|exact qB|refine qD ?_ ?_|exact qE (by rfl)|exact qF (by rfl)|exact Fit.refl _|exact qA|refine qC ?_ rfl ?_));done));try cbv)|(refine qQ ?_ (c20) ?hfit;(case hfit=>((repeat' (first|exact qB|refine qD ?_ ?_|exact qE (by rfl)|exact qF (by rfl)|exact Fit.refl _|exact qA|refine qC ?_ rfl ?_));done));try cbv)|(refine qQ ?_ (c21) ?hfit;(case hfit=>((repeat' (first|exact qB|refine qD ?_ ?_|exact qE (by rfl)|exact qF (by rfl)|exact Fit.refl _|exact qA|refine qC ?_ rfl ?_));done));try cbv)|(refine qQ ?_ (c22) ?hfit;(case hfit=>((repeat' (first|exact qB|refine qD ?_ ?_|exact qE (by rfl)|exact qF (by rfl)|exact Fit.refl _|exact qA|refine qC ?_ rfl ?_));done));try cbv)|(refine uaj ?_ (c23 _ _ _);try cbv)|(refine uaj ?_ (c24 _ _);try cbv)|(refine qQ ?_ (c25) ?hfit;(case hfit=>((repeat' (first|exact qB|refine qD ?_ ?_|exact qE (by rfl)|exact qF (by rfl)|exact Fit.refl _|exact qA|refine qC ?_ rfl ?_));done));try cbv)|fail)
 all_goals first|trivial|((try simp only [qX]at *);(try simp only [zQ,zA,zB,zC,zD,zE,zF,zG,zH,zI,zJ,zK,zL,zM,zN,zO,zP,zR,zS]at *);first|(refine qO ?_;omega)|(simp only [uap];omega))|(subst hR;(repeat' (first|exact qA|exact qB|refine qC ?_ rfl ?_|refine qD ?_ ?_|exact qE (by rfl)|exact qF (by rfl)|exact Fit.refl _|exact qG _|(refine qE ?_;(try simp only [qX]at *);simp only [zQ,zA,zB,zC,zD,zE,zF,zG,zH,zI,zJ,zK,zL,zM,zN,zO,zP,zR,zS]at *;omega)));done)|skip
set_option maxHeartbeats 4000000 in
theorem upr (c:Clr)(w d n g:Int)(h:udE c=true)(hF:ua6 c=0)(hG:(0≤g∧g≤(c.gs.length:Int)-1))(hW:(0≤w∧w≤(c.cs.length:Int)-1))(hD:¬(0≤d∧d≤tpD (c.cs.getD w.toNat k0).ms))(hN:¬(0≤n∧n≤tpC (c.cs.getD w.toNat k0).ms)):ua0 Try.prog 3 [(.agg [(caS c.cs),(mvS c.mv),(gaS c.gs)]),(iv fun _=>w),(iv fun _=>d),(iv fun _=>n),(iv fun _=>g)] [] (fun r _=>r=(.bool (.lit true))):=by
 have c15:=udx c
 have c16:=ucc
 have c23:= @ums
 have c24:= @umL
 have h39:=ud4
 have c21:=(show ua0 Try.prog 21 [(.agg [(caS c.cs),(mvS c.mv),(gaS c.gs)])] [] (fun r _=>r=(iv fun _=>0))from by have q:=ucm c;rw [hF]at q;exact q)
 have c22:=(show ua0 Try.prog 22 [(.agg [(caS c.cs),(mvS c.mv),(gaS c.gs)])] [] (fun r _=>r=(iv fun _=>0))from by have q:=uaC c;rw [hF]at q;exact q)
 have hth:=uc8.1 h
 have c18:=ubJ c ⟨by have:=hth.2;omega,by have:=hth.2;omega,by have:=hth.2;omega⟩ (fun i hi=>by have:=hth.1 i hi;omega)
 have c17:=uba c w d
 have c19:=ufJ c w n
 have c20:=udA c g
 have hth2:=hth.2
 have hC:=uaa.1 hF
 have hgB:inB 0 g (zi c.gs.length-1)=true:=by rw [uah];exact hG
 have hwB:inB 0 w (zi c.cs.length-1)=true:=by rw [uah];exact hW
 have hdB:inB 0 d (tpD (c.cs.getD w.toNat k0).ms)=false:=by rw [uaq];exact hD
 have hnB:inB 0 n (tpC (c.cs.getD w.toNat k0).ms)=false:=by rw [uaq];exact hN
 have hK:=hC.k w.toNat (by omega)
 have hM:=hK.m
 have h2:=hM.two
 have h5:=hM.few
 have hT:=hM.top
 have c26:=ud0 (c.cs.getD w.toNat k0) (by omega) (by omega)
 have c28:=udj (c.cs.getD w.toNat k0) (by omega) (by omega)
 have z1:=ugm (x:=w) (d:=d) hF (fun q=>hD q.2)
 have z2:=ugy (x:=w) (n:=n) hF (fun q=>hN q.2)
 have z3:=uer (g:=g) hF hG
 have hg:GOk c.cs c.mv.length (gAt c g):=hC.g g.toNat (by omega)
 have c25:=uiv c (gAt c g) (by omega) hg (hC.k _ (by have:=hg.c0;have:=hg.c1;omega)).m
 unfold gAt at c25 z3
 rw [z1.1,z1.2]at c17
 rw [z2.1,z2.2]at c19
 rw [z3.1,z3.2.1,z3.2.2]at c20
 clear hth z1 z2 z3
 refine ua0.is fun R hR=>qY (sc:=sc3) uas mix Try.func3 rfl Try.call3 (by kernel_rfl) (by kernel_rfl) ?_
 generalize Try.prog=P at c15 c16 c23 c24 h39 c21 c22 c18 c17 c19 c20 c26 c28 c25⊢
 cbv
 repeat' (first|(with_reducible intro hcd;exfalso;(try simp only [zQ,zA,zB,zC,zD,zE,zF,zG,zH,zI,zJ,zK,zL,zM,zN,zO,zP,zR,zS]at hcd);omega)|(with_reducible intro hcd;(try simp only [zA,zB,zC,zD,zE,zF,zG,zH,zI,zJ,zK,zL,zM,zN,zO,zP]at hcd);exact Bool.noConfusion (hgB.symm.trans hcd))|(with_reducible intro hcd;(try simp only [zA,zB,zC,zD,zE,zF,zG,zH,zI,zJ,zK,zL,zM,zN,zO,zP]at hcd);exact Bool.noConfusion (hwB.symm.trans hcd))|(with_reducible intro hcd;(try simp only [zA,zB,zC,zD,zE,zF,zG,zH,zI,zJ,zK,zL,zM,zN,zO,zP]at hcd);exact Bool.noConfusion (hdB.symm.trans hcd))|(with_reducible intro hcd;(try simp only [zA,zB,zC,zD,zE,zF,zG,zH,zI,zJ,zK,zL,zM,zN,zO,zP]at hcd);exact Bool.noConfusion (hnB.symm.trans hcd))|with_reducible refine ua3 ?_ ?_|with_reducible refine And.intro ?_ ?_|(with_reducible intro hcd;(try simp only [zA,zB,zC,zD,zE,zF,zG,zH,zI,zJ,zK,zL,zM,zN,zO,zP]at hcd);try cbv)|(refine qQ ?_ (c15) ?hfit;(case hfit=>((repeat' (first|exact qB|refine qD ?_ ?_|exact qE (by rfl)|exact qF (by rfl)|exact Fit.refl _|exact qA|refine qC ?_ rfl ?_));done));try cbv)|(refine qQ ?_ (c16) ?hfit;(case hfit=>((repeat' (first|exact qB|refine qD ?_ ?_|exact qE (by rfl)|exact qF (by rfl)|exact Fit.refl _|exact qA|refine qC ?_ rfl ?_));done));try cbv)|(refine qQ ?_ (c18) ?hfit;(case hfit=>((repeat' (first|exact qB|refine qD ?_ ?_|exact qE (by rfl)|exact qF (by rfl)|exact Fit.refl _|exact qA|refine qC ?_ rfl ?_));done));try cbv)|(refine qQ ?_ (c17) ?hfit;(case hfit=>((repeat' (first|exact qB|refine qD ?_ ?_|exact qE (by rfl)|exact qF (by rfl)|exact Fit.refl _|exact qA|refine qC ?_ rfl ?_));done));try cbv)|(refine qQ ?_ (c19) ?hfit;(case hfit=>((repeat' (first|exact qB|refine qD ?_ ?_|exact qE (by rfl)|exact qF (by rfl)|exact Fit.refl _|exact qA|refine qC ?_ rfl ?_));done));try cbv)|(refine qQ ?_ (c20) ?hfit;(case hfit=>((repeat' (first|exact qB|refine qD ?_ ?_|exact qE (by rfl)|exact qF (by rfl)|exact Fit.refl _|exact qA|refine qC ?_ rfl ?_));done));try cbv)|(refine qQ ?_ (c21) ?hfit;(case hfit=>((repeat' (first|exact qB|refine qD ?_ ?_|exact qE (by rfl)|exact qF (by rfl)|exact Fit.refl _|exact qA|refine qC ?_ rfl ?_));done));try cbv)|(refine qQ ?_ (c22) ?hfit;(case hfit=>((repeat' (first|exact qB|refine qD ?_ ?_|exact qE (by rfl)|exact qF (by rfl)|exact Fit.refl _|exact qA|refine qC ?_ rfl ?_));done));try cbv)|(refine uaj ?_ (c23 _ _ _);try cbv)|(refine uaj ?_ (c24 _ _);try cbv)|(refine qQ ?_ (c25) ?hfit;(case hfit=>((repeat' (first|exact qB|refine qD ?_ ?_|exact qE (by rfl)|exact qF (by rfl)|exact Fit.refl _|exact qA|refine qC ?_ rfl ?_));done));try cbv)|(refine qQ ?_ (c26) ?hfit;(case hfit=>((repeat' (first|exact qB|refine qD ?_ ?_|exact qE (by rfl)|exact qF (by rfl)|exact Fit.refl _|exact qA|refine qC ?_ rfl ?_));done));try cbv)|(refine qQ ?_ (c28) ?hfit;(case hfit=>((repeat' (first|exact qB|refine qD ?_ ?_|exact qE (by rfl)|exact qF (by rfl)|exact Fit.refl _|exact qA|refine qC ?_ rfl ?_));done));try cbv)|fail)
 all_goals first|trivial|((try simp only [qX]at *);(try simp only [zQ,zA,zB,zC,zD,zE,zF,zG,zH,zI,zJ,zK,zL,zM,zN,zO,zP,zR,zS]at *);first|(refine qO ?_;omega)|(simp only [uap];omega))|(subst hR;(repeat' (first|exact qA|exact qB|refine qC ?_ rfl ?_|refine qD ?_ ?_|exact qE (by rfl)|exact qF (by rfl)|exact Fit.refl _|exact qG _|(refine qE ?_;(try simp only [qX]at *);simp only [zQ,zA,zB,zC,zD,zE,zF,zG,zH,zI,zJ,zK,zL,zM,zN,zO,zP,zR,zS]at *;omega)));done)|skip
set_option maxHeartbeats 4000000 in
theorem unF (c:Clr)(w d n g:Int)(h:udE c=true)(hF:ua6 c=0)(hG:(0≤g∧g≤(c.gs.length:Int)-1))(hW:(0≤w∧w≤(c.cs.length:Int)-1))(hD:(0≤d∧d≤tpD (c.cs.getD w.toNat k0).ms))(hN:¬(0≤n∧n≤tpC (c.cs.getD w.toNat k0).ms)):ua0 Try.prog 3 [(.agg [(caS c.cs),(mvS c.mv),(gaS c.gs)]),(iv fun _=>w),(iv fun _=>d),(iv fun _=>n),(iv fun _=>g)] [] (fun r _=>r=(.bool (.lit true))):=by
 have c15:=udx c
 have c16:=ucc
 have c23:= @ums
 have c24:= @umL
 have h39:=ud4
 have c21:=(show ua0 Try.prog 21 [(.agg [(caS c.cs),(mvS c.mv),(gaS c.gs)])] [] (fun r _=>r=(iv fun _=>0))from by have q:=ucm c;rw [hF]at q;exact q)
 have c22:=(show ua0 Try.prog 22 [(.agg [(caS c.cs),(mvS c.mv),(gaS c.gs)])] [] (fun r _=>r=(iv fun _=>0))from by have q:=uaC c;rw [hF]at q;exact q)
 have hth:=uc8.1 h
 have c18:=ubJ c ⟨by have:=hth.2;omega,by have:=hth.2;omega,by have:=hth.2;omega⟩ (fun i hi=>by have:=hth.1 i hi;omega)
 have c17:=uba c w d
 have c19:=ufJ c w n
 have c20:=udA c g
 have hth2:=hth.2
 have hC:=uaa.1 hF
 have hgB:inB 0 g (zi c.gs.length-1)=true:=by rw [uah];exact hG
 have hwB:inB 0 w (zi c.cs.length-1)=true:=by rw [uah];exact hW
 have hdB:inB 0 d (tpD (c.cs.getD w.toNat k0).ms)=true:=by rw [uah];exact hD
 have hnB:inB 0 n (tpC (c.cs.getD w.toNat k0).ms)=false:=by rw [uaq];exact hN
 have hK:=hC.k w.toNat (by omega)
 have hM:=hK.m
 have h2:=hM.two
 have h5:=hM.few
 have hT:=hM.top
 have c26:=ud0 (c.cs.getD w.toNat k0) (by omega) (by omega)
 have c28:=udj (c.cs.getD w.toNat k0) (by omega) (by omega)
 have c27:∀e:Int,0≤e∧e≤tpD (c.cs.getD w.toNat k0).ms→ua0 Try.prog 27 [(.agg (kcS (c.cs.getD w.toNat k0))),(iv fun _=>e)] [] (fun r _=>r=(iv fun _=>ct (c.cs.getD w.toNat k0).ms e)):=fun e he=>ucA (c.cs.getD w.toNat k0) e hM he
 have z1:=ufs (x:=w) (d:=d) hF ⟨hW,hD⟩
 have z2:=ugy (x:=w) (n:=n) hF (fun q=>hN q.2)
 have z3:=uer (g:=g) hF hG
 have hg:GOk c.cs c.mv.length (gAt c g):=hC.g g.toNat (by omega)
 have c25:=uiv c (gAt c g) (by omega) hg (hC.k _ (by have:=hg.c0;have:=hg.c1;omega)).m
 unfold gAt at c25 z3
 rw [z1.1,z1.2]at c17
 rw [z2.1,z2.2]at c19
 rw [z3.1,z3.2.1,z3.2.2]at c20
 clear hth z1 z2 z3
 unfold kAt at c17
 refine ua0.is fun R hR=>qY (sc:=sc3) uas mix Try.func3 rfl Try.call3 (by kernel_rfl) (by kernel_rfl) ?_
 generalize Try.prog=P at c15 c16 c23 c24 h39 c21 c22 c18 c17 c19 c20 c26 c28 c27 c25⊢
 cbv
 repeat' (first|(with_reducible intro hcd;exfalso;(try simp only [zQ,zA,zB,zC,zD,zE,zF,zG,zH,zI,zJ,zK,zL,zM,zN,zO,zP,zR,zS]at hcd);omega)|(with_reducible intro hcd;(try simp only [zA,zB,zC,zD,zE,zF,zG,zH,zI,zJ,zK,zL,zM,zN,zO,zP]at hcd);exact Bool.noConfusion (hgB.symm.trans hcd))|(with_reducible intro hcd;(try simp only [zA,zB,zC,zD,zE,zF,zG,zH,zI,zJ,zK,zL,zM,zN,zO,zP]at hcd);exact Bool.noConfusion (hwB.symm.trans hcd))|(with_reducible intro hcd;(try simp only [zA,zB,zC,zD,zE,zF,zG,zH,zI,zJ,zK,zL,zM,zN,zO,zP]at hcd);exact Bool.noConfusion (hdB.symm.trans hcd))|(with_reducible intro hcd;(try simp only [zA,zB,zC,zD,zE,zF,zG,zH,zI,zJ,zK,zL,zM,zN,zO,zP]at hcd);exact Bool.noConfusion (hnB.symm.trans hcd))|with_reducible refine ua3 ?_ ?_|with_reducible refine And.intro ?_ ?_|(with_reducible intro hcd;(try simp only [zA,zB,zC,zD,zE,zF,zG,zH,zI,zJ,zK,zL,zM,zN,zO,zP]at hcd);try cbv)|(refine qQ ?_ (c15) ?hfit;(case hfit=>((repeat' (first|exact qB|refine qD ?_ ?_|exact qE (by rfl)|exact qF (by rfl)|exact Fit.refl _|exact qA|refine qC ?_ rfl ?_));done));try cbv)|(refine qQ ?_ (c16) ?hfit;(case hfit=>((repeat' (first|exact qB|refine qD ?_ ?_|exact qE (by rfl)|exact qF (by rfl)|exact Fit.refl _|exact qA|refine qC ?_ rfl ?_));done));try cbv)|(refine qQ ?_ (c18) ?hfit;(case hfit=>((repeat' (first|exact qB|refine qD ?_ ?_|exact qE (by rfl)|exact qF (by rfl)|exact Fit.refl _|exact qA|refine qC ?_ rfl ?_));done));try cbv)|(refine qQ ?_ (c17) ?hfit;(case hfit=>((repeat' (first|exact qB|refine qD ?_ ?_|exact qE (by rfl)|exact qF (by rfl)|exact Fit.refl _|exact qA|refine qC ?_ rfl ?_));done));try cbv)|(refine qQ ?_ (c19) ?hfit;(case hfit=>((repeat' (first|exact qB|refine qD ?_ ?_|exact qE (by rfl)|exact qF (by rfl)|exact Fit.refl _|exact qA|refine qC ?_ rfl ?_));done));try cbv)|(refine qQ ?_ (c20) ?hfit;(case hfit=>((repeat' (first|exact qB|refine qD ?_ ?_|exact qE (by rfl)|exact qF (by rfl)|exact Fit.refl _|exact qA|refine qC ?_ rfl ?_));done));try cbv)|(refine qQ ?_ (c21) ?hfit;(case hfit=>((repeat' (first|exact qB|refine qD ?_ ?_|exact qE (by rfl)|exact qF (by rfl)|exact Fit.refl _|exact qA|refine qC ?_ rfl ?_));done));try cbv)|(refine qQ ?_ (c22) ?hfit;(case hfit=>((repeat' (first|exact qB|refine qD ?_ ?_|exact qE (by rfl)|exact qF (by rfl)|exact Fit.refl _|exact qA|refine qC ?_ rfl ?_));done));try cbv)|(refine uaj ?_ (c23 _ _ _);try cbv)|(refine uaj ?_ (c24 _ _);try cbv)|(refine qQ ?_ (c25) ?hfit;(case hfit=>((repeat' (first|exact qB|refine qD ?_ ?_|exact qE (by rfl)|exact qF (by rfl)|exact Fit.refl _|exact qA|refine qC ?_ rfl ?_));done));try cbv)|(refine qQ ?_ (c26) ?hfit;(case hfit=>((repeat' (first|exact qB|refine qD ?_ ?_|exact qE (by rfl)|exact qF (by rfl)|exact Fit.refl _|exact qA|refine qC ?_ rfl ?_));done));try cbv)|(refine qQ ?_ (c28) ?hfit;(case hfit=>((repeat' (first|exact qB|refine qD ?_ ?_|exact qE (by rfl)|exact qF (by rfl)|exact Fit.refl _|exact qA|refine qC ?_ rfl ?_));done));try cbv)|(refine qQ ?_ ((c27 d hD)) ?hfit;(case hfit=>((repeat' (first|exact qB|refine qD ?_ ?_|exact qE (by rfl)|exact qF (by rfl)|exact Fit.refl _|exact qA|refine qC ?_ rfl ?_));done));try cbv)|fail)
 all_goals first|trivial|((try simp only [qX]at *);(try simp only [zQ,zA,zB,zC,zD,zE,zF,zG,zH,zI,zJ,zK,zL,zM,zN,zO,zP,zR,zS]at *);first|(refine qO ?_;omega)|(simp only [uap];omega))|(subst hR;(repeat' (first|exact qA|exact qB|refine qC ?_ rfl ?_|refine qD ?_ ?_|exact qE (by rfl)|exact qF (by rfl)|exact Fit.refl _|exact qG _|(refine qE ?_;(try simp only [qX]at *);simp only [zQ,zA,zB,zC,zD,zE,zF,zG,zH,zI,zJ,zK,zL,zM,zN,zO,zP,zR,zS]at *;omega)));done)|skip
set_option maxHeartbeats 4000000 in
theorem uoQ (c:Clr)(w d n g:Int)(h:udE c=true)(hF:ua6 c=0)(hG:(0≤g∧g≤(c.gs.length:Int)-1))(hW:(0≤w∧w≤(c.cs.length:Int)-1))(hD:¬(0≤d∧d≤tpD (c.cs.getD w.toNat k0).ms))(hN:(0≤n∧n≤tpC (c.cs.getD w.toNat k0).ms)):ua0 Try.prog 3 [(.agg [(caS c.cs),(mvS c.mv),(gaS c.gs)]),(iv fun _=>w),(iv fun _=>d),(iv fun _=>n),(iv fun _=>g)] [] (fun r _=>r=(.bool (.lit true))):=by
 have c15:=udx c
 have c16:=ucc
 have c23:= @ums
 have c24:= @umL
 have h39:=ud4
 have c21:=(show ua0 Try.prog 21 [(.agg [(caS c.cs),(mvS c.mv),(gaS c.gs)])] [] (fun r _=>r=(iv fun _=>0))from by have q:=ucm c;rw [hF]at q;exact q)
 have c22:=(show ua0 Try.prog 22 [(.agg [(caS c.cs),(mvS c.mv),(gaS c.gs)])] [] (fun r _=>r=(iv fun _=>0))from by have q:=uaC c;rw [hF]at q;exact q)
 have hth:=uc8.1 h
 have c18:=ubJ c ⟨by have:=hth.2;omega,by have:=hth.2;omega,by have:=hth.2;omega⟩ (fun i hi=>by have:=hth.1 i hi;omega)
 have c17:=uba c w d
 have c19:=ufJ c w n
 have c20:=udA c g
 have hth2:=hth.2
 have hC:=uaa.1 hF
 have hgB:inB 0 g (zi c.gs.length-1)=true:=by rw [uah];exact hG
 have hwB:inB 0 w (zi c.cs.length-1)=true:=by rw [uah];exact hW
 have hdB:inB 0 d (tpD (c.cs.getD w.toNat k0).ms)=false:=by rw [uaq];exact hD
 have hnB:inB 0 n (tpC (c.cs.getD w.toNat k0).ms)=true:=by rw [uah];exact hN
 have hK:=hC.k w.toNat (by omega)
 have hM:=hK.m
 have h2:=hM.two
 have h5:=hM.few
 have hT:=hM.top
 have c26:=ud0 (c.cs.getD w.toNat k0) (by omega) (by omega)
 have c28:=udj (c.cs.getD w.toNat k0) (by omega) (by omega)
 have c27:∀e:Int,0≤e∧e≤tpD (c.cs.getD w.toNat k0).ms→ua0 Try.prog 27 [(.agg (kcS (c.cs.getD w.toNat k0))),(iv fun _=>e)] [] (fun r _=>r=(iv fun _=>ct (c.cs.getD w.toNat k0).ms e)):=fun e he=>ucA (c.cs.getD w.toNat k0) e hM he
 have z1:=ugm (x:=w) (d:=d) hF (fun q=>hD q.2)
 have z2:=ufg (x:=w) (n:=n) hF ⟨hW,hN⟩
 have z3:=uer (g:=g) hF hG
 have hg:GOk c.cs c.mv.length (gAt c g):=hC.g g.toNat (by omega)
 have c25:=uiv c (gAt c g) (by omega) hg (hC.k _ (by have:=hg.c0;have:=hg.c1;omega)).m
 unfold gAt at c25 z3
 rw [z1.1,z1.2]at c17
 rw [z2.1,z2.2]at c19
 rw [z3.1,z3.2.1,z3.2.2]at c20
 clear hth z1 z2 z3
 unfold kAt at c19
 refine ua0.is fun R hR=>qY (sc:=sc3) uas mix Try.func3 rfl Try.call3 (by kernel_rfl) (by kernel_rfl) ?_
 generalize Try.prog=P at c15 c16 c23 c24 h39 c21 c22 c18 c17 c19 c20 c26 c28 c27 c25⊢
 cbv
 repeat' (first|(with_reducible intro hcd;exfalso;(try simp only [zQ,zA,zB,zC,zD,zE,zF,zG,zH,zI,zJ,zK,zL,zM,zN,zO,zP,zR,zS]at hcd);omega)|(with_reducible intro hcd;(try simp only [zA,zB,zC,zD,zE,zF,zG,zH,zI,zJ,zK,zL,zM,zN,zO,zP]at hcd);exact Bool.noConfusion (hgB.symm.trans hcd))|(with_reducible intro hcd;(try simp only [zA,zB,zC,zD,zE,zF,zG,zH,zI,zJ,zK,zL,zM,zN,zO,zP]at hcd);exact Bool.noConfusion (hwB.symm.trans hcd))|(with_reducible intro hcd;(try simp only [zA,zB,zC,zD,zE,zF,zG,zH,zI,zJ,zK,zL,zM,zN,zO,zP]at hcd);exact Bool.noConfusion (hdB.symm.trans hcd))|(with_reducible intro hcd;(try simp only [zA,zB,zC,zD,zE,zF,zG,zH,zI,zJ,zK,zL,zM,zN,zO,zP]at hcd);exact Bool.noConfusion (hnB.symm.trans hcd))|with_reducible refine ua3 ?_ ?_|with_reducible refine And.intro ?_ ?_|(with_reducible intro hcd;(try simp only [zA,zB,zC,zD,zE,zF,zG,zH,zI,zJ,zK,zL,zM,zN,zO,zP]at hcd);try cbv)|(refine qQ ?_ (c15) ?hfit;(case hfit=>((repeat' (first|exact qB|refine qD ?_ ?_|exact qE (by rfl)|exact qF (by rfl)|exact Fit.refl _|exact qA|refine qC ?_ rfl ?_));done));try cbv)|(refine qQ ?_ (c16) ?hfit;(case hfit=>((repeat' (first|exact qB|refine qD ?_ ?_|exact qE (by rfl)|exact qF (by rfl)|exact Fit.refl _|exact qA|refine qC ?_ rfl ?_));done));try cbv)|(refine qQ ?_ (c18) ?hfit;(case hfit=>((repeat' (first|exact qB|refine qD ?_ ?_|exact qE (by rfl)|exact qF (by rfl)|exact Fit.refl _|exact qA|refine qC ?_ rfl ?_));done));try cbv)|(refine qQ ?_ (c17) ?hfit;(case hfit=>((repeat' (first|exact qB|refine qD ?_ ?_|exact qE (by rfl)|exact qF (by rfl)|exact Fit.refl _|exact qA|refine qC ?_ rfl ?_));done));try cbv)|(refine qQ ?_ (c19) ?hfit;(case hfit=>((repeat' (first|exact qB|refine qD ?_ ?_|exact qE (by rfl)|exact qF (by rfl)|exact Fit.refl _|exact qA|refine qC ?_ rfl ?_));done));try cbv)|(refine qQ ?_ (c20) ?hfit;(case hfit=>((repeat' (first|exact qB|refine qD ?_ ?_|exact qE (by rfl)|exact qF (by rfl)|exact Fit.refl _|exact qA|refine qC ?_ rfl ?_));done));try cbv)|(refine qQ ?_ (c21) ?hfit;(case hfit=>((repeat' (first|exact qB|refine qD ?_ ?_|exact qE (by rfl)|exact qF (by rfl)|exact Fit.refl _|exact qA|refine qC ?_ rfl ?_));done));try cbv)|(refine qQ ?_ (c22) ?hfit;(case hfit=>((repeat' (first|exact qB|refine qD ?_ ?_|exact qE (by rfl)|exact qF (by rfl)|exact Fit.refl _|exact qA|refine qC ?_ rfl ?_));done));try cbv)|(refine uaj ?_ (c23 _ _ _);try cbv)|(refine uaj ?_ (c24 _ _);try cbv)|(refine qQ ?_ (c25) ?hfit;(case hfit=>((repeat' (first|exact qB|refine qD ?_ ?_|exact qE (by rfl)|exact qF (by rfl)|exact Fit.refl _|exact qA|refine qC ?_ rfl ?_));done));try cbv)|(refine qQ ?_ (c26) ?hfit;(case hfit=>((repeat' (first|exact qB|refine qD ?_ ?_|exact qE (by rfl)|exact qF (by rfl)|exact Fit.refl _|exact qA|refine qC ?_ rfl ?_));done));try cbv)|(refine qQ ?_ (c28) ?hfit;(case hfit=>((repeat' (first|exact qB|refine qD ?_ ?_|exact qE (by rfl)|exact qF (by rfl)|exact Fit.refl _|exact qA|refine qC ?_ rfl ?_));done));try cbv)|fail)
 all_goals first|trivial|((try simp only [qX]at *);(try simp only [zQ,zA,zB,zC,zD,zE,zF,zG,zH,zI,zJ,zK,zL,zM,zN,zO,zP,zR,zS]at *);first|(refine qO ?_;omega)|(simp only [uap];omega))|(subst hR;(repeat' (first|exact qA|exact qB|refine qC ?_ rfl ?_|refine qD ?_ ?_|exact qE (by rfl)|exact qF (by rfl)|exact Fit.refl _|exact qG _|(refine qE ?_;(try simp only [qX]at *);simp only [zQ,zA,zB,zC,zD,zE,zF,zG,zH,zI,zJ,zK,zL,zM,zN,zO,zP,zR,zS]at *;omega)));done)|skip
 refine⟨none,[],{x:Nat // (x:Int)≤tpD (c.cs.getD w.toNat k0).ms+1},fun x=>⟨[(3,(iv fun _=>n)),(5,.own 0 0),(13,(iv fun _=>dip (c.cs.getD w.toNat k0).ms n)),(14,(iv fun _=>0)),(18,.own 78 0),(19,(iv fun _=>bsN (c.cs.getD w.toNat k0).ms n x.1)),(20,(iv fun _=>zi x.1))],[(0,.cells [(caS c.cs),(mvS c.mv),(gaS c.gs)] 26),(78,.cells (kcS (c.cs.getD w.toNat k0)) 52)],400⟩,fun x=>(tpD (c.cs.getD w.toNat k0).ms+1-x.1).toNat,?_,?_⟩
 ·refine⟨⟨0,by omega⟩,?_⟩
  cbv
  repeat' (first|with_reducible refine ua3 ?_ ?_|with_reducible refine And.intro ?_ ?_)
  all_goals first|trivial|exact qN (qE (by rfl))|exact qN (Fit.refl _)|exact qL (qK _)|skip
 ·rintro ⟨x,hx⟩
  cbv
  repeat' (first|with_reducible refine ua3 ?_ ?_|with_reducible refine And.intro ?_ ?_|(with_reducible intro hcd;(try simp only [zA,zB,zC,zD,zE,zF,zG,zH,zI,zJ,zK,zL,zM,zN,zO,zP]at hcd);try cbv)|(refine qQ ?_ (c16) ?hfit;(case hfit=>((repeat' (first|exact qB|refine qD ?_ ?_|exact qE (by rfl)|exact qF (by rfl)|exact Fit.refl _|exact qA|refine qC ?_ rfl ?_));done));try cbv)|(refine qQ ?_ (c26) ?hfit;(case hfit=>((repeat' (first|exact qB|refine qD ?_ ?_|exact qE (by rfl)|exact qF (by rfl)|exact Fit.refl _|exact qA|refine qC ?_ rfl ?_));done));try cbv)|(refine qQ ?_ ((c27 (zi x)  om)) ?hfit;(case hfit=>((repeat' (first|exact qB|refine qD ?_ ?_|exact qE (by rfl)|exact qF (by rfl)|exact Fit.refl _|exact qA|refine qC ?_ rfl ?_));done));try cbv)|fail)
  all_goals first|trivial|((try simp only [qX]at *);(try simp only [zQ,zA,zB,zC,zD,zE,zF,zG,zH,zI,zJ,zK,zL,zM,zN,zO,zP,zR,zS]at *);first|(refine qO ?_;omega)|(simp only [uap];omega))|(subst hR;(repeat' (first|exact qA|exact qB|refine qC ?_ rfl ?_|refine qD ?_ ?_|exact qE (by rfl)|exact qF (by rfl)|exact Fit.refl _|exact qG _|(refine qE ?_;(try simp only [qX]at *);simp only [zQ,zA,zB,zC,zD,zE,zF,zG,zH,zI,zJ,zK,zL,zM,zN,zO,zP,zR,zS]at *;omega)));done)|((try simp only [zQ,zA,zB,zC,zD,zE,zF,zG,zH,zI,zJ,zK,zL,zM,zN,zO,zP,zR,zS]at *);refine⟨⟨x+1,by((try simp only [qX]at *);(try simp only [zQ,zA,zB,zC,zD,zE,zF,zG,zH,zI,zJ,zK,zL,zM,zN,zO,zP,zR,zS]at *);omega)⟩,by((try simp only [qX]at *);(try simp only [zQ,zA,zB,zC,zD,zE,zF,zG,zH,zI,zJ,zK,zL,zM,zN,zO,zP,zR,zS]at *);(try simp only []);omega),?_⟩;cbv;(repeat' (first|with_reducible refine ua3 ?_ ?_|with_reducible refine And.intro ?_ ?_));(all_goals first|trivial|exact qN (qE (by rfl))|exact qN (qF (by rfl))|exact qN (Fit.refl _)|exact qL (qK _)|(refine qN (qE ?_);(try simp only [qX]at *);simp only [zQ,zA,zB,zC,zD,zE,zF,zG,zH,zI,zJ,zK,zL,zM,zN,zO,zP,zR,zS]at *;omega)|(refine qL (qJ ?_);(repeat' (first|exact qA|exact qB|refine qC ?_ rfl ?_|refine qD ?_ ?_|exact qE (by rfl)|exact qF (by rfl)|exact Fit.refl _|exact qG _|(refine qE ?_;(try simp only [qX]at *);simp only [zQ,zA,zB,zC,zD,zE,zF,zG,zH,zI,zJ,zK,zL,zM,zN,zO,zP,zR,zS]at *;omega)));done)|(refine qN (qE ?_);first|exact uvI hM hN.1  om (by(try simp only [qX]at *);(try simp only [zQ,zA,zB,zC,zD,zE,zF,zG,zH,zI,zJ,zK,zL,zM,zN,zO,zP,zR,zS]at *);assumption)|exact uvy hM hN.1  om  om|((try simp only [qX]at *);(try simp only [zQ,zA,zB,zC,zD,zE,zF,zG,zH,zI,zJ,zK,zL,zM,zN,zO,zP,zR,zS]at *);omega))|skip))|(exfalso;(have e9:=ukC (ms:=(c.cs.getD w.toNat k0).ms) (n:=n) (x:=x) (by omega)  om);(try simp only [qX]at *);(try simp only [zQ,zA,zB,zC,zD,zE,zF,zG,zH,zI,zJ,zK,zL,zM,zN,zO,zP,zR,zS]at *);omega)|skip
set_option maxHeartbeats 4000000 in
theorem un1 (c:Clr)(w d n g:Int)(h:udE c=true)(hF:ua6 c=0)(hG:(0≤g∧g≤(c.gs.length:Int)-1))(hW:(0≤w∧w≤(c.cs.length:Int)-1))(hD:(0≤d∧d≤tpD (c.cs.getD w.toNat k0).ms))(hN:(0≤n∧n≤tpC (c.cs.getD w.toNat k0).ms)):ua0 Try.prog 3 [(.agg [(caS c.cs),(mvS c.mv),(gaS c.gs)]),(iv fun _=>w),(iv fun _=>d),(iv fun _=>n),(iv fun _=>g)] [] (fun r _=>r=(.bool (.lit true))):=by
 have c15:=udx c
 have c16:=ucc
 have c23:= @ums
 have c24:= @umL
 have h39:=ud4
 have c21:=(show ua0 Try.prog 21 [(.agg [(caS c.cs),(mvS c.mv),(gaS c.gs)])] [] (fun r _=>r=(iv fun _=>0))from by have q:=ucm c;rw [hF]at q;exact q)
 have c22:=(show ua0 Try.prog 22 [(.agg [(caS c.cs),(mvS c.mv),(gaS c.gs)])] [] (fun r _=>r=(iv fun _=>0))from by have q:=uaC c;rw [hF]at q;exact q)
 have hth:=uc8.1 h
 have c18:=ubJ c ⟨by have:=hth.2;omega,by have:=hth.2;omega,by have:=hth.2;omega⟩ (fun i hi=>by have:=hth.1 i hi;omega)
 have c17:=uba c w d
 have c19:=ufJ c w n
 have c20:=udA c g
 have hth2:=hth.2
 have hC:=uaa.1 hF
 have hgB:inB 0 g (zi c.gs.length-1)=true:=by rw [uah];exact hG
 have hwB:inB 0 w (zi c.cs.length-1)=true:=by rw [uah];exact hW
 have hdB:inB 0 d (tpD (c.cs.getD w.toNat k0).ms)=true:=by rw [uah];exact hD
 have hnB:inB 0 n (tpC (c.cs.getD w.toNat k0).ms)=true:=by rw [uah];exact hN
 have hK:=hC.k w.toNat (by omega)
 have hM:=hK.m
 have h2:=hM.two
 have h5:=hM.few
 have hT:=hM.top
 have c26:=ud0 (c.cs.getD w.toNat k0) (by omega) (by omega)
 have c28:=udj (c.cs.getD w.toNat k0) (by omega) (by omega)
 have c27:∀e:Int,0≤e∧e≤tpD (c.cs.getD w.toNat k0).ms→ua0 Try.prog 27 [(.agg (kcS (c.cs.getD w.toNat k0))),(iv fun _=>e)] [] (fun r _=>r=(iv fun _=>ct (c.cs.getD w.toNat k0).ms e)):=fun e he=>ucA (c.cs.getD w.toNat k0) e hM he
 have z1:=ufs (x:=w) (d:=d) hF ⟨hW,hD⟩
 have z2:=ufg (x:=w) (n:=n) hF ⟨hW,hN⟩
 have z3:=uer (g:=g) hF hG
 have hg:GOk c.cs c.mv.length (gAt c g):=hC.g g.toNat (by omega)
 have c25:=uiv c (gAt c g) (by omega) hg (hC.k _ (by have:=hg.c0;have:=hg.c1;omega)).m
 unfold gAt at c25 z3
 rw [z1.1,z1.2]at c17
 rw [z2.1,z2.2]at c19
 rw [z3.1,z3.2.1,z3.2.2]at c20
 clear hth z1 z2 z3
 unfold kAt at c17 c19
 refine ua0.is fun R hR=>qY (sc:=sc3) uas mix Try.func3 rfl Try.call3 (by kernel_rfl) (by kernel_rfl) ?_
 generalize Try.prog=P at c15 c16 c23 c24 h39 c21 c22 c18 c17 c19 c20 c26 c28 c27 c25⊢
 cbv
 repeat' (first|(with_reducible intro hcd;(try simp only [zA,zB,zC,zD,zE,zF,zG,zH,zI,zJ,zK,zL,zM,zN,zO,zP]at hcd);exact Bool.noConfusion (hgB.symm.trans hcd))|(with_reducible intro hcd;(try simp only [zA,zB,zC,zD,zE,zF,zG,zH,zI,zJ,zK,zL,zM,zN,zO,zP]at hcd);exact Bool.noConfusion (hwB.symm.trans hcd))|(with_reducible intro hcd;(try simp only [zA,zB,zC,zD,zE,zF,zG,zH,zI,zJ,zK,zL,zM,zN,zO,zP]at hcd);exact Bool.noConfusion (hdB.symm.trans hcd))|(with_reducible intro hcd;(try simp only [zA,zB,zC,zD,zE,zF,zG,zH,zI,zJ,zK,zL,zM,zN,zO,zP]at hcd);exact Bool.noConfusion (hnB.symm.trans hcd))|with_reducible refine ua3 ?_ ?_|with_reducible refine And.intro ?_ ?_|(with_reducible intro hcd;(try simp only [zA,zB,zC,zD,zE,zF,zG,zH,zI,zJ,zK,zL,zM,zN,zO,zP]at hcd);try cbv)|(refine qQ ?_ (c15) ?hfit;(case hfit=>((repeat' (first|exact qB|refine qD ?_ ?_|exact qE (by rfl)|exact qF (by rfl)|exact Fit.refl _|exact qA|refine qC ?_ rfl ?_));done));try cbv)|(refine qQ ?_ (c16) ?hfit;(case hfit=>((repeat' (first|exact qB|refine qD ?_ ?_|exact qE (by rfl)|exact qF (by rfl)|exact Fit.refl _|exact qA|refine qC ?_ rfl ?_));done));try cbv)|(refine qQ ?_ (c18) ?hfit;(case hfit=>((repeat' (first|exact qB|refine qD ?_ ?_|exact qE (by rfl)|exact qF (by rfl)|exact Fit.refl _|exact qA|refine qC ?_ rfl ?_));done));try cbv)|(refine qQ ?_ (c17) ?hfit;(case hfit=>((repeat' (first|exact qB|refine qD ?_ ?_|exact qE (by rfl)|exact qF (by rfl)|exact Fit.refl _|exact qA|refine qC ?_ rfl ?_));done));try cbv)|(refine qQ ?_ (c19) ?hfit;(case hfit=>((repeat' (first|exact qB|refine qD ?_ ?_|exact qE (by rfl)|exact qF (by rfl)|exact Fit.refl _|exact qA|refine qC ?_ rfl ?_));done));try cbv)|(refine qQ ?_ (c20) ?hfit;(case hfit=>((repeat' (first|exact qB|refine qD ?_ ?_|exact qE (by rfl)|exact qF (by rfl)|exact Fit.refl _|exact qA|refine qC ?_ rfl ?_));done));try cbv)|(refine qQ ?_ (c21) ?hfit;(case hfit=>((repeat' (first|exact qB|refine qD ?_ ?_|exact qE (by rfl)|exact qF (by rfl)|exact Fit.refl _|exact qA|refine qC ?_ rfl ?_));done));try cbv)|(refine qQ ?_ (c22) ?hfit;(case hfit=>((repeat' (first|exact qB|refine qD ?_ ?_|exact qE (by rfl)|exact qF (by rfl)|exact Fit.refl _|exact qA|refine qC ?_ rfl ?_));done));try cbv)|(refine uaj ?_ (c23 _ _ _);try cbv)|(refine uaj ?_ (c24 _ _);try cbv)|(refine qQ ?_ (c25) ?hfit;(case hfit=>((repeat' (first|exact qB|refine qD ?_ ?_|exact qE (by rfl)|exact qF (by rfl)|exact Fit.refl _|exact qA|refine qC ?_ rfl ?_));done));try cbv)|(refine qQ ?_ (c26) ?hfit;(case hfit=>((repeat' (first|exact qB|refine qD ?_ ?_|exact qE (by rfl)|exact qF (by rfl)|exact Fit.refl _|exact qA|refine qC ?_ rfl ?_));done));try cbv)|(refine qQ ?_ (c28) ?hfit;(case hfit=>((repeat' (first|exact qB|refine qD ?_ ?_|exact qE (by rfl)|exact qF (by rfl)|exact Fit.refl _|exact qA|refine qC ?_ rfl ?_));done));try cbv)|(refine qQ ?_ ((c27 d hD)) ?hfit;(case hfit=>((repeat' (first|exact qB|refine qD ?_ ?_|exact qE (by rfl)|exact qF (by rfl)|exact Fit.refl _|exact qA|refine qC ?_ rfl ?_));done));try cbv)|fail)
 all_goals first|trivial|((try simp only [qX]at *);(try simp only [zQ,zA,zB,zC,zD,zE,zF,zG,zH,zI,zJ,zK,zL,zM,zN,zO,zP,zR,zS]at *);first|(refine qO ?_;omega)|(simp only [uap];omega))|(subst hR;(repeat' (first|exact qA|exact qB|refine qC ?_ rfl ?_|refine qD ?_ ?_|exact qE (by rfl)|exact qF (by rfl)|exact Fit.refl _|exact qG _|(refine qE ?_;(try simp only [qX]at *);simp only [zQ,zA,zB,zC,zD,zE,zF,zG,zH,zI,zJ,zK,zL,zM,zN,zO,zP,zR,zS]at *;omega)));done)|skip
 refine⟨none,[],{x:Nat // (x:Int)≤tpD (c.cs.getD w.toNat k0).ms+1},fun x=>⟨[(3,(iv fun _=>n)),(5,.own 0 0),(13,(iv fun _=>dip (c.cs.getD w.toNat k0).ms n)),(14,(iv fun _=>0)),(18,.own 78 0),(19,(iv fun _=>bsN (c.cs.getD w.toNat k0).ms n x.1)),(20,(iv fun _=>zi x.1))],[(0,.cells [(caS c.cs),(mvS c.mv),(gaS c.gs)] 26),(78,.cells (kcS (c.cs.getD w.toNat k0)) 52)],400⟩,fun x=>(tpD (c.cs.getD w.toNat k0).ms+1-x.1).toNat,?_,?_⟩
 ·refine⟨⟨0,by omega⟩,?_⟩
  cbv
  repeat' (first|with_reducible refine ua3 ?_ ?_|with_reducible refine And.intro ?_ ?_)
  all_goals first|trivial|exact qN (qE (by rfl))|exact qN (Fit.refl _)|exact qL (qK _)|skip
 ·rintro ⟨x,hx⟩
  cbv
  repeat' (first|with_reducible refine ua3 ?_ ?_|with_reducible refine And.intro ?_ ?_|(with_reducible intro hcd;(try simp only [zA,zB,zC,zD,zE,zF,zG,zH,zI,zJ,zK,zL,zM,zN,zO,zP]at hcd);try cbv)|(refine qQ ?_ (c16) ?hfit;(case hfit=>((repeat' (first|exact qB|refine qD ?_ ?_|exact qE (by rfl)|exact qF (by rfl)|exact Fit.refl _|exact qA|refine qC ?_ rfl ?_));done));try cbv)|(refine qQ ?_ (c26) ?hfit;(case hfit=>((repeat' (first|exact qB|refine qD ?_ ?_|exact qE (by rfl)|exact qF (by rfl)|exact Fit.refl _|exact qA|refine qC ?_ rfl ?_));done));try cbv)|(refine qQ ?_ ((c27 (zi x)  om)) ?hfit;(case hfit=>((repeat' (first|exact qB|refine qD ?_ ?_|exact qE (by rfl)|exact qF (by rfl)|exact Fit.refl _|exact qA|refine qC ?_ rfl ?_));done));try cbv)|fail)
  all_goals first|trivial|((try simp only [qX]at *);(try simp only [zQ,zA,zB,zC,zD,zE,zF,zG,zH,zI,zJ,zK,zL,zM,zN,zO,zP,zR,zS]at *);first|(refine qO ?_;omega)|(simp only [uap];omega))|(subst hR;(repeat' (first|exact qA|exact qB|refine qC ?_ rfl ?_|refine qD ?_ ?_|exact qE (by rfl)|exact qF (by rfl)|exact Fit.refl _|exact qG _|(refine qE ?_;(try simp only [qX]at *);simp only [zQ,zA,zB,zC,zD,zE,zF,zG,zH,zI,zJ,zK,zL,zM,zN,zO,zP,zR,zS]at *;omega)));done)|((try simp only [zQ,zA,zB,zC,zD,zE,zF,zG,zH,zI,zJ,zK,zL,zM,zN,zO,zP,zR,zS]at *);refine⟨⟨x+1,by((try simp only [qX]at *);(try simp only [zQ,zA,zB,zC,zD,zE,zF,zG,zH,zI,zJ,zK,zL,zM,zN,zO,zP,zR,zS]at *);omega)⟩,by((try simp only [qX]at *);(try simp only [zQ,zA,zB,zC,zD,zE,zF,zG,zH,zI,zJ,zK,zL,zM,zN,zO,zP,zR,zS]at *);(try simp only []);omega),?_⟩;cbv;(repeat' (first|with_reducible refine ua3 ?_ ?_|with_reducible refine And.intro ?_ ?_));(all_goals first|trivial|exact qN (qE (by rfl))|exact qN (qF (by rfl))|exact qN (Fit.refl _)|exact qL (qK _)|(refine qN (qE ?_);(try simp only [qX]at *);simp only [zQ,zA,zB,zC,zD,zE,zF,zG,zH,zI,zJ,zK,zL,zM,zN,zO,zP,zR,zS]at *;omega)|(refine qL (qJ ?_);(repeat' (first|exact qA|exact qB|refine qC ?_ rfl ?_|refine qD ?_ ?_|exact qE (by rfl)|exact qF (by rfl)|exact Fit.refl _|exact qG _|(refine qE ?_;(try simp only [qX]at *);simp only [zQ,zA,zB,zC,zD,zE,zF,zG,zH,zI,zJ,zK,zL,zM,zN,zO,zP,zR,zS]at *;omega)));done)|(refine qN (qE ?_);first|exact uvI hM hN.1  om (by(try simp only [qX]at *);(try simp only [zQ,zA,zB,zC,zD,zE,zF,zG,zH,zI,zJ,zK,zL,zM,zN,zO,zP,zR,zS]at *);assumption)|exact uvy hM hN.1  om  om|((try simp only [qX]at *);(try simp only [zQ,zA,zB,zC,zD,zE,zF,zG,zH,zI,zJ,zK,zL,zM,zN,zO,zP,zR,zS]at *);omega))|skip))|(exfalso;(have e9:=ukC (ms:=(c.cs.getD w.toNat k0).ms) (n:=n) (x:=x) (by omega)  om);(try simp only [qX]at *);(try simp only [zQ,zA,zB,zC,zD,zE,zF,zG,zH,zI,zJ,zK,zL,zM,zN,zO,zP,zR,zS]at *);omega)|skip
set_option maxHeartbeats 4000000 in
theorem uez (c:Clr)(w d n g:Int)(h:udE c=true)(hF:ua6 c=0)(hG:¬(0≤g∧g≤(c.gs.length:Int)-1))(hW:¬(0≤w∧w≤(c.cs.length:Int)-1)):ua0 Try.prog 3 [(.agg [(caS c.cs),(mvS c.mv),(gaS c.gs)]),(iv fun _=>w),(iv fun _=>d),(iv fun _=>n),(iv fun _=>g)] [] (fun r _=>r=(.bool (.lit true))):=by
 have c15:=udx c
 have c16:=ucc
 have c23:= @ums
 have c24:= @umL
 have h39:=ud4
 have c21:=(show ua0 Try.prog 21 [(.agg [(caS c.cs),(mvS c.mv),(gaS c.gs)])] [] (fun r _=>r=(iv fun _=>0))from by have q:=ucm c;rw [hF]at q;exact q)
 have c22:=(show ua0 Try.prog 22 [(.agg [(caS c.cs),(mvS c.mv),(gaS c.gs)])] [] (fun r _=>r=(iv fun _=>0))from by have q:=uaC c;rw [hF]at q;exact q)
 have hth:=uc8.1 h
 have c18:=ubJ c ⟨by have:=hth.2;omega,by have:=hth.2;omega,by have:=hth.2;omega⟩ (fun i hi=>by have:=hth.1 i hi;omega)
 have c17:=uba c w d
 have c19:=ufJ c w n
 have c20:=udA c g
 have hth2:=hth.2
 have hC:=uaa.1 hF
 have hgB:inB 0 g (zi c.gs.length-1)=false:=by rw [uaq];exact hG
 have hwB:inB 0 w (zi c.cs.length-1)=false:=by rw [uaq];exact hW
 have z1:=ugm (x:=w) (d:=d) hF (fun q=>hW q.1)
 have z2:=ugy (x:=w) (n:=n) hF (fun q=>hW q.1)
 have z3:=uh2 (g:=g) hF hG
 rw [z1.1,z1.2]at c17
 rw [z2.1,z2.2]at c19
 rw [z3.1,z3.2.1,z3.2.2]at c20
 clear hth z1 z2 z3
 refine ua0.is fun R hR=>qY (sc:=sc3) uas mix Try.func3 rfl Try.call3 (by kernel_rfl) (by kernel_rfl) ?_
 generalize Try.prog=P at c15 c16 c23 c24 h39 c21 c22 c18 c17 c19 c20⊢
 cbv
 repeat' (first|(with_reducible intro hcd;exfalso;(try simp only [zQ,zA,zB,zC,zD,zE,zF,zG,zH,zI,zJ,zK,zL,zM,zN,zO,zP,zR,zS]at hcd);omega)|(with_reducible intro hcd;(try simp only [zA,zB,zC,zD,zE,zF,zG,zH,zI,zJ,zK,zL,zM,zN,zO,zP]at hcd);exact Bool.noConfusion (hgB.symm.trans hcd))|(with_reducible intro hcd;(try simp only [zA,zB,zC,zD,zE,zF,zG,zH,zI,zJ,zK,zL,zM,zN,zO,zP]at hcd);exact Bool.noConfusion (hwB.symm.trans hcd))|with_reducible refine ua3 ?_ ?_|with_reducible refine And.intro ?_ ?_|(with_reducible intro hcd;(try simp only [zA,zB,zC,zD,zE,zF,zG,zH,zI,zJ,zK,zL,zM,zN,zO,zP]at hcd);try cbv)|(refine qQ ?_ (c15) ?hfit;(case hfit=>((repeat' (first|exact qB|refine qD ?_ ?_|exact qE (by rfl)|exact qF (by rfl)|exact Fit.refl _|exact qA|refine qC ?_ rfl ?_));done));try cbv)|(refine qQ ?_ (c16) ?hfit;(case hfit=>((repeat' (first|exact qB|refine qD ?_ ?_|exact qE (by rfl)|exact qF (by rfl)|exact Fit.refl _|exact qA|refine qC ?_ rfl ?_));done));try cbv)|(refine qQ ?_ (c18) ?hfit;(case hfit=>((repeat' (first|exact qB|refine qD ?_ ?_|exact qE (by rfl)|exact qF (by rfl)|exact Fit.refl _|exact qA|refine qC ?_ rfl ?_));done));try cbv)|(refine qQ ?_ (c17) ?hfit;(case hfit=>((repeat' (first|exact qB|refine qD ?_ ?_|exact qE (by rfl)|exact qF (by rfl)|exact Fit.refl _|exact qA|refine qC ?_ rfl ?_));done));try cbv)|(refine qQ ?_ (c19) ?hfit;(case hfit=>((repeat' (first|exact qB|refine qD ?_ ?_|exact qE (by rfl)|exact qF (by rfl)|exact Fit.refl _|exact qA|refine qC ?_ rfl ?_));done));try cbv)|(refine qQ ?_ (c20) ?hfit;(case hfit=>((repeat' (first|exact qB|refine qD ?_ ?_|exact qE (by rfl)|exact qF (by rfl)|exact Fit.refl _|exact qA|refine qC ?_ rfl ?_));done));try cbv)|(refine qQ ?_ (c21) ?hfit;(case hfit=>((repeat' (first|exact qB|refine qD ?_ ?_|exact qE (by rfl)|exact qF (by rfl)|exact Fit.refl _|exact qA|refine qC ?_ rfl ?_));done));try cbv)|(refine qQ ?_ (c22) ?hfit;(case hfit=>((repeat' (first|exact qB|refine qD ?_ ?_|exact qE (by rfl)|exact qF (by rfl)|exact Fit.refl _|exact qA|refine qC ?_ rfl ?_));done));try cbv)|(refine uaj ?_ (c23 _ _ _);try cbv)|fail)
 all_goals first|trivial|((try simp only [qX]at *);(try simp only [zQ,zA,zB,zC,zD,zE,zF,zG,zH,zI,zJ,zK,zL,zM,zN,zO,zP,zR,zS]at *);first|(refine qO ?_;omega)|(simp only [uap];omega))|(subst hR;(repeat' (first|exact qA|exact qB|refine qC ?_ rfl ?_|refine qD ?_ ?_|exact qE (by rfl)|exact qF (by rfl)|exact Fit.refl _|exact qG _|(refine qE ?_;(try simp only [qX]at *);simp only [zQ,zA,zB,zC,zD,zE,zF,zG,zH,zI,zJ,zK,zL,zM,zN,zO,zP,zR,zS]at *;omega)));done)|skip
set_option maxHeartbeats 4000000 in
theorem uo9 (c:Clr)(w d n g:Int)(h:udE c=true)(hF:ua6 c=0)(hG:¬(0≤g∧g≤(c.gs.length:Int)-1))(hW:(0≤w∧w≤(c.cs.length:Int)-1))(hD:¬(0≤d∧d≤tpD (c.cs.getD w.toNat k0).ms))(hN:¬(0≤n∧n≤tpC (c.cs.getD w.toNat k0).ms)):ua0 Try.prog 3 [(.agg [(caS c.cs),(mvS c.mv),(gaS c.gs)]),(iv fun _=>w),(iv fun _=>d),(iv fun _=>n),(iv fun _=>g)] [] (fun r _=>r=(.bool (.lit true))):=by
 have c15:=udx c
 have c16:=ucc
 have c23:= @ums
 have c24:= @umL
 have h39:=ud4
 have c21:=(show ua0 Try.prog 21 [(.agg [(caS c.cs),(mvS c.mv),(gaS c.gs)])] [] (fun r _=>r=(iv fun _=>0))from by have q:=ucm c;rw [hF]at q;exact q)
 have c22:=(show ua0 Try.prog 22 [(.agg [(caS c.cs),(mvS c.mv),(gaS c.gs)])] [] (fun r _=>r=(iv fun _=>0))from by have q:=uaC c;rw [hF]at q;exact q)
 have hth:=uc8.1 h
 have c18:=ubJ c ⟨by have:=hth.2;omega,by have:=hth.2;omega,by have:=hth.2;omega⟩ (fun i hi=>by have:=hth.1 i hi;omega)
 have c17:=uba c w d
 have c19:=ufJ c w n
 have c20:=udA c g
 have hth2:=hth.2
 have hC:=uaa.1 hF
 have hgB:inB 0 g (zi c.gs.length-1)=false:=by rw [uaq];exact hG
 have hwB:inB 0 w (zi c.cs.length-1)=true:=by rw [uah];exact hW
 have hdB:inB 0 d (tpD (c.cs.getD w.toNat k0).ms)=false:=by rw [uaq];exact hD
 have hnB:inB 0 n (tpC (c.cs.getD w.toNat k0).ms)=false:=by rw [uaq];exact hN
 have hK:=hC.k w.toNat (by omega)
 have hM:=hK.m
 have h2:=hM.two
 have h5:=hM.few
 have hT:=hM.top
 have c26:=ud0 (c.cs.getD w.toNat k0) (by omega) (by omega)
 have c28:=udj (c.cs.getD w.toNat k0) (by omega) (by omega)
 have z1:=ugm (x:=w) (d:=d) hF (fun q=>hD q.2)
 have z2:=ugy (x:=w) (n:=n) hF (fun q=>hN q.2)
 have z3:=uh2 (g:=g) hF hG
 rw [z1.1,z1.2]at c17
 rw [z2.1,z2.2]at c19
 rw [z3.1,z3.2.1,z3.2.2]at c20
 clear hth z1 z2 z3
 refine ua0.is fun R hR=>qY (sc:=sc3) uas mix Try.func3 rfl Try.call3 (by kernel_rfl) (by kernel_rfl) ?_
 generalize Try.prog=P at c15 c16 c23 c24 h39 c21 c22 c18 c17 c19 c20 c26 c28⊢
 cbv
 repeat' (first|(with_reducible intro hcd;exfalso;(try simp only [zQ,zA,zB,zC,zD,zE,zF,zG,zH,zI,zJ,zK,zL,zM,zN,zO,zP,zR,zS]at hcd);omega)|(with_reducible intro hcd;(try simp only [zA,zB,zC,zD,zE,zF,zG,zH,zI,zJ,zK,zL,zM,zN,zO,zP]at hcd);exact Bool.noConfusion (hgB.symm.trans hcd))|(with_reducible intro hcd;(try simp only [zA,zB,zC,zD,zE,zF,zG,zH,zI,zJ,zK,zL,zM,zN,zO,zP]at hcd);exact Bool.noConfusion (hwB.symm.trans hcd))|(with_reducible intro hcd;(try simp only [zA,zB,zC,zD,zE,zF,zG,zH,zI,zJ,zK,zL,zM,zN,zO,zP]at hcd);exact Bool.noConfusion (hdB.symm.trans hcd))|(with_reducible intro hcd;(try simp only [zA,zB,zC,zD,zE,zF,zG,zH,zI,zJ,zK,zL,zM,zN,zO,zP]at hcd);exact Bool.noConfusion (hnB.symm.trans hcd))|with_reducible refine ua3 ?_ ?_|with_reducible refine And.intro ?_ ?_|(with_reducible intro hcd;(try simp only [zA,zB,zC,zD,zE,zF,zG,zH,zI,zJ,zK,zL,zM,zN,zO,zP]at hcd);try cbv)|(refine qQ ?_ (c15) ?hfit;(case hfit=>((repeat' (first|exact qB|refine qD ?_ ?_|exact qE (by rfl)|exact qF (by rfl)|exact Fit.refl _|exact qA|refine qC ?_ rfl ?_));done));try cbv)|(refine qQ ?_ (c16) ?hfit;(case hfit=>((repeat' (first|exact qB|refine qD ?_ ?_|exact qE (by rfl)|exact qF (by rfl)|exact Fit.refl _|exact qA|refine qC ?_ rfl ?_));done));try cbv)|(refine qQ ?_ (c18) ?hfit;(case hfit=>((repeat' (first|exact qB|refine qD ?_ ?_|exact qE (by rfl)|exact qF (by rfl)|exact Fit.refl _|exact qA|refine qC ?_ rfl ?_));done));try cbv)|(refine qQ ?_ (c17) ?hfit;(case hfit=>((repeat' (first|exact qB|refine qD ?_ ?_|exact qE (by rfl)|exact qF (by rfl)|exact Fit.refl _|exact qA|refine qC ?_ rfl ?_));done));try cbv)|(refine qQ ?_ (c19) ?hfit;(case hfit=>((repeat' (first|exact qB|refine qD ?_ ?_|exact qE (by rfl)|exact qF (by rfl)|exact Fit.refl _|exact qA|refine qC ?_ rfl ?_));done));try cbv)|(refine qQ ?_ (c20) ?hfit;(case hfit=>((repeat' (first|exact qB|refine qD ?_ ?_|exact qE (by rfl)|exact qF (by rfl)|exact Fit.refl _|exact qA|refine qC ?_ rfl ?_));done));try cbv)|(refine qQ ?_ (c21) ?hfit;(case hfit=>((repeat' (first|exact qB|refine qD ?_ ?_|exact qE (by rfl)|exact qF (by rfl)|exact Fit.refl _|exact qA|refine qC ?_ rfl ?_));done));try cbv)|(refine qQ ?_ (c22) ?hfit;(case hfit=>((repeat' (first|exact qB|refine qD ?_ ?_|exact qE (by rfl)|exact qF (by rfl)|exact Fit.refl _|exact qA|refine qC ?_ rfl ?_));done));try cbv)|(refine uaj ?_ (c23 _ _ _);try cbv)|(refine qQ ?_ (c26) ?hfit;(case hfit=>((repeat' (first|exact qB|refine qD ?_ ?_|exact qE (by rfl)|exact qF (by rfl)|exact Fit.refl _|exact qA|refine qC ?_ rfl ?_));done));try cbv)|(refine qQ ?_ (c28) ?hfit;(case hfit=>((repeat' (first|exact qB|refine qD ?_ ?_|exact qE (by rfl)|exact qF (by rfl)|exact Fit.refl _|exact qA|refine qC ?_ rfl ?_));done));try cbv)|fail)
 all_goals first|trivial|((try simp only [qX]at *);(try simp only [zQ,zA,zB,zC,zD,zE,zF,zG,zH,zI,zJ,zK,zL,zM,zN,zO,zP,zR,zS]at *);first|(refine qO ?_;omega)|(simp only [uap];omega))|(subst hR;(repeat' (first|exact qA|exact qB|refine qC ?_ rfl ?_|refine qD ?_ ?_|exact qE (by rfl)|exact qF (by rfl)|exact Fit.refl _|exact qG _|(refine qE ?_;(try simp only [qX]at *);simp only [zQ,zA,zB,zC,zD,zE,zF,zG,zH,zI,zJ,zK,zL,zM,zN,zO,zP,zR,zS]at *;omega)));done)|skip
set_option maxHeartbeats 4000000 in
theorem un9 (c:Clr)(w d n g:Int)(h:udE c=true)(hF:ua6 c=0)(hG:¬(0≤g∧g≤(c.gs.length:Int)-1))(hW:(0≤w∧w≤(c.cs.length:Int)-1))(hD:(0≤d∧d≤tpD (c.cs.getD w.toNat k0).ms))(hN:¬(0≤n∧n≤tpC (c.cs.getD w.toNat k0).ms)):ua0 Try.prog 3 [(.agg [(caS c.cs),(mvS c.mv),(gaS c.gs)]),(iv fun _=>w),(iv fun _=>d),(iv fun _=>n),(iv fun _=>g)] [] (fun r _=>r=(.bool (.lit true))):=by
 have c15:=udx c
 have c16:=ucc
 have c23:= @ums
 have c24:= @umL
 have h39:=ud4
 have c21:=(show ua0 Try.prog 21 [(.agg [(caS c.cs),(mvS c.mv),(gaS c.gs)])] [] (fun r _=>r=(iv fun _=>0))from by have q:=ucm c;rw [hF]at q;exact q)
 have c22:=(show ua0 Try.prog 22 [(.agg [(caS c.cs),(mvS c.mv),(gaS c.gs)])] [] (fun r _=>r=(iv fun _=>0))from by have q:=uaC c;rw [hF]at q;exact q)
 have hth:=uc8.1 h
 have c18:=ubJ c ⟨by have:=hth.2;omega,by have:=hth.2;omega,by have:=hth.2;omega⟩ (fun i hi=>by have:=hth.1 i hi;omega)
 have c17:=uba c w d
 have c19:=ufJ c w n
 have c20:=udA c g
 have hth2:=hth.2
 have hC:=uaa.1 hF
 have hgB:inB 0 g (zi c.gs.length-1)=false:=by rw [uaq];exact hG
 have hwB:inB 0 w (zi c.cs.length-1)=true:=by rw [uah];exact hW
 have hdB:inB 0 d (tpD (c.cs.getD w.toNat k0).ms)=true:=by rw [uah];exact hD
 have hnB:inB 0 n (tpC (c.cs.getD w.toNat k0).ms)=false:=by rw [uaq];exact hN
 have hK:=hC.k w.toNat (by omega)
 have hM:=hK.m
 have h2:=hM.two
 have h5:=hM.few
 have hT:=hM.top
 have c26:=ud0 (c.cs.getD w.toNat k0) (by omega) (by omega)
 have c28:=udj (c.cs.getD w.toNat k0) (by omega) (by omega)
 have c27:∀e:Int,0≤e∧e≤tpD (c.cs.getD w.toNat k0).ms→ua0 Try.prog 27 [(.agg (kcS (c.cs.getD w.toNat k0))),(iv fun _=>e)] [] (fun r _=>r=(iv fun _=>ct (c.cs.getD w.toNat k0).ms e)):=fun e he=>ucA (c.cs.getD w.toNat k0) e hM he
 have z1:=ufs (x:=w) (d:=d) hF ⟨hW,hD⟩
 have z2:=ugy (x:=w) (n:=n) hF (fun q=>hN q.2)
 have z3:=uh2 (g:=g) hF hG
 rw [z1.1,z1.2]at c17
 rw [z2.1,z2.2]at c19
 rw [z3.1,z3.2.1,z3.2.2]at c20
 clear hth z1 z2 z3
 unfold kAt at c17
 refine ua0.is fun R hR=>qY (sc:=sc3) uas mix Try.func3 rfl Try.call3 (by kernel_rfl) (by kernel_rfl) ?_
 generalize Try.prog=P at c15 c16 c23 c24 h39 c21 c22 c18 c17 c19 c20 c26 c28 c27⊢
 cbv
 repeat' (first|(with_reducible intro hcd;exfalso;(try simp only [zQ,zA,zB,zC,zD,zE,zF,zG,zH,zI,zJ,zK,zL,zM,zN,zO,zP,zR,zS]at hcd);omega)|(with_reducible intro hcd;(try simp only [zA,zB,zC,zD,zE,zF,zG,zH,zI,zJ,zK,zL,zM,zN,zO,zP]at hcd);exact Bool.noConfusion (hgB.symm.trans hcd))|(with_reducible intro hcd;(try simp only [zA,zB,zC,zD,zE,zF,zG,zH,zI,zJ,zK,zL,zM,zN,zO,zP]at hcd);exact Bool.noConfusion (hwB.symm.trans hcd))|(with_reducible intro hcd;(try simp only [zA,zB,zC,zD,zE,zF,zG,zH,zI,zJ,zK,zL,zM,zN,zO,zP]at hcd);exact Bool.noConfusion (hdB.symm.trans hcd))|(with_reducible intro hcd;(try simp only [zA,zB,zC,zD,zE,zF,zG,zH,zI,zJ,zK,zL,zM,zN,zO,zP]at hcd);exact Bool.noConfusion (hnB.symm.trans hcd))|with_reducible refine ua3 ?_ ?_|with_reducible refine And.intro ?_ ?_|(with_reducible intro hcd;(try simp only [zA,zB,zC,zD,zE,zF,zG,zH,zI,zJ,zK,zL,zM,zN,zO,zP]at hcd);try cbv)|(refine qQ ?_ (c15) ?hfit;(case hfit=>((repeat' (first|exact qB|refine qD ?_ ?_|exact qE (by rfl)|exact qF (by rfl)|exact Fit.refl _|exact qA|refine qC ?_ rfl ?_));done));try cbv)|(refine qQ ?_ (c16) ?hfit;(case hfit=>((repeat' (first|exact qB|refine qD ?_ ?_|exact qE (by rfl)|exact qF (by rfl)|exact Fit.refl _|exact qA|refine qC ?_ rfl ?_));done));try cbv)|(refine qQ ?_ (c18) ?hfit;(case hfit=>((repeat' (first|exact qB|refine qD ?_ ?_|exact qE (by rfl)|exact qF (by rfl)|exact Fit.refl _|exact qA|refine qC ?_ rfl ?_));done));try cbv)|(refine qQ ?_ (c17) ?hfit;(case hfit=>((repeat' (first|exact qB|refine qD ?_ ?_|exact qE (by rfl)|exact qF (by rfl)|exact Fit.refl _|exact qA|refine qC ?_ rfl ?_));done));try cbv)|(refine qQ ?_ (c19) ?hfit;(case hfit=>((repeat' (first|exact qB|refine qD ?_ ?_|exact qE (by rfl)|exact qF (by rfl)|exact Fit.refl _|exact qA|refine qC ?_ rfl ?_));done));try cbv)|(refine qQ ?_ (c20) ?hfit;(case hfit=>((repeat' (first|exact qB|refine qD ?_ ?_|exact qE (by rfl)|exact qF (by rfl)|exact Fit.refl _|exact qA|refine qC ?_ rfl ?_));done));try cbv)|(refine qQ ?_ (c21) ?hfit;(case hfit=>((repeat' (first|exact qB|refine qD ?_ ?_|exact qE (by rfl)|exact qF (by rfl)|exact Fit.refl _|exact qA|refine qC ?_ rfl ?_));done));try cbv)|(refine qQ ?_ (c22) ?hfit;(case hfit=>((repeat' (first|exact qB|refine qD ?_ ?_|exact qE (by rfl)|exact qF (by rfl)|exact Fit.refl _|exact qA|refine qC ?_ rfl ?_));done));try cbv)|(refine uaj ?_ (c23 _ _ _);try cbv)|(refine qQ ?_ (c26) ?hfit;(case hfit=>((repeat' (first|exact qB|refine qD ?_ ?_|exact qE (by rfl)|exact qF (by rfl)|exact Fit.refl _|exact qA|refine qC ?_ rfl ?_));done));try cbv)|(refine qQ ?_ (c28) ?hfit;(case hfit=>((repeat' (first|exact qB|refine qD ?_ ?_|exact qE (by rfl)|exact qF (by rfl)|exact Fit.refl _|exact qA|refine qC ?_ rfl ?_));done));try cbv)|(refine qQ ?_ ((c27 d hD)) ?hfit;(case hfit=>((repeat' (first|exact qB|refine qD ?_ ?_|exact qE (by rfl)|exact qF (by rfl)|exact Fit.refl _|exact qA|refine qC ?_ rfl ?_));done));try cbv)|fail)
 all_goals first|trivial|((try simp only [qX]at *);(try simp only [zQ,zA,zB,zC,zD,zE,zF,zG,zH,zI,zJ,zK,zL,zM,zN,zO,zP,zR,zS]at *);first|(refine qO ?_;omega)|(simp only [uap];omega))|(subst hR;(repeat' (first|exact qA|exact qB|refine qC ?_ rfl ?_|refine qD ?_ ?_|exact qE (by rfl)|exact qF (by rfl)|exact Fit.refl _|exact qG _|(refine qE ?_;(try simp only [qX]at *);simp only [zQ,zA,zB,zC,zD,zE,zF,zG,zH,zI,zJ,zK,zL,zM,zN,zO,zP,zR,zS]at *;omega)));done)|skip
set_option maxHeartbeats 4000000 in
theorem unc (c:Clr)(w d n g:Int)(h:udE c=true)(hF:ua6 c=0)(hG:¬(0≤g∧g≤(c.gs.length:Int)-1))(hW:(0≤w∧w≤(c.cs.length:Int)-1))(hD:¬(0≤d∧d≤tpD (c.cs.getD w.toNat k0).ms))(hN:(0≤n∧n≤tpC (c.cs.getD w.toNat k0).ms)):ua0 Try.prog 3 [(.agg [(caS c.cs),(mvS c.mv),(gaS c.gs)]),(iv fun _=>w),(iv fun _=>d),(iv fun _=>n),(iv fun _=>g)] [] (fun r _=>r=(.bool (.lit true))):=by
 have c15:=udx c
 have c16:=ucc
 have c23:= @ums
 have c24:= @umL
 have h39:=ud4
 have c21:=(show ua0 Try.prog 21 [(.agg [(caS c.cs),(mvS c.mv),(gaS c.gs)])] [] (fun r _=>r=(iv fun _=>0))from by have q:=ucm c;rw [hF]at q;exact q)
 have c22:=(show ua0 Try.prog 22 [(.agg [(caS c.cs),(mvS c.mv),(gaS c.gs)])] [] (fun r _=>r=(iv fun _=>0))from by have q:=uaC c;rw [hF]at q;exact q)
 have hth:=uc8.1 h
 have c18:=ubJ c ⟨by have:=hth.2;omega,by have:=hth.2;omega,by have:=hth.2;omega⟩ (fun i hi=>by have:=hth.1 i hi;omega)
 have c17:=uba c w d
 have c19:=ufJ c w n
 have c20:=udA c g
 have hth2:=hth.2
 have hC:=uaa.1 hF
 have hgB:inB 0 g (zi c.gs.length-1)=false:=by rw [uaq];exact hG
 have hwB:inB 0 w (zi c.cs.length-1)=true:=by rw [uah];exact hW
 have hdB:inB 0 d (tpD (c.cs.getD w.toNat k0).ms)=false:=by rw [uaq];exact hD
 have hnB:inB 0 n (tpC (c.cs.getD w.toNat k0).ms)=true:=by rw [uah];exact hN
 have hK:=hC.k w.toNat (by omega)
 have hM:=hK.m
 have h2:=hM.two
 have h5:=hM.few
 have hT:=hM.top
 have c26:=ud0 (c.cs.getD w.toNat k0) (by omega) (by omega)
 have c28:=udj (c.cs.getD w.toNat k0) (by omega) (by omega)
 have c27:∀e:Int,0≤e∧e≤tpD (c.cs.getD w.toNat k0).ms→ua0 Try.prog 27 [(.agg (kcS (c.cs.getD w.toNat k0))),(iv fun _=>e)] [] (fun r _=>r=(iv fun _=>ct (c.cs.getD w.toNat k0).ms e)):=fun e he=>ucA (c.cs.getD w.toNat k0) e hM he
 have z1:=ugm (x:=w) (d:=d) hF (fun q=>hD q.2)
 have z2:=ufg (x:=w) (n:=n) hF ⟨hW,hN⟩
 have z3:=uh2 (g:=g) hF hG
 rw [z1.1,z1.2]at c17
 rw [z2.1,z2.2]at c19
 rw [z3.1,z3.2.1,z3.2.2]at c20
 clear hth z1 z2 z3
 unfold kAt at c19
 refine ua0.is fun R hR=>qY (sc:=sc3) uas mix Try.func3 rfl Try.call3 (by kernel_rfl) (by kernel_rfl) ?_
 generalize Try.prog=P at c15 c16 c23 c24 h39 c21 c22 c18 c17 c19 c20 c26 c28 c27⊢
 cbv
 repeat' (first|(with_reducible intro hcd;exfalso;(try simp only [zQ,zA,zB,zC,zD,zE,zF,zG,zH,zI,zJ,zK,zL,zM,zN,zO,zP,zR,zS]at hcd);omega)|(with_reducible intro hcd;(try simp only [zA,zB,zC,zD,zE,zF,zG,zH,zI,zJ,zK,zL,zM,zN,zO,zP]at hcd);exact Bool.noConfusion (hgB.symm.trans hcd))|(with_reducible intro hcd;(try simp only [zA,zB,zC,zD,zE,zF,zG,zH,zI,zJ,zK,zL,zM,zN,zO,zP]at hcd);exact Bool.noConfusion (hwB.symm.trans hcd))|(with_reducible intro hcd;(try simp only [zA,zB,zC,zD,zE,zF,zG,zH,zI,zJ,zK,zL,zM,zN,zO,zP]at hcd);exact Bool.noConfusion (hdB.symm.trans hcd))|(with_reducible intro hcd;(try simp only [zA,zB,zC,zD,zE,zF,zG,zH,zI,zJ,zK,zL,zM,zN,zO,zP]at hcd);exact Bool.noConfusion (hnB.symm.trans hcd))|with_reducible refine ua3 ?_ ?_|with_reducible refine And.intro ?_ ?_|(with_reducible intro hcd;(try simp only [zA,zB,zC,zD,zE,zF,zG,zH,zI,zJ,zK,zL,zM,zN,zO,zP]at hcd);try cbv)|(refine qQ ?_ (c15) ?hfit;(case hfit=>((repeat' (first|exact qB|refine qD ?_ ?_|exact qE (by rfl)|exact qF (by rfl)|exact Fit.refl _|exact qA|refine qC ?_ rfl ?_));done));try cbv)|(refine qQ ?_ (c16) ?hfit;(case hfit=>((repeat' (first|exact qB|refine qD ?_ ?_|exact qE (by rfl)|exact qF (by rfl)|exact Fit.refl _|exact qA|refine qC ?_ rfl ?_));done));try cbv)|(refine qQ ?_ (c18) ?hfit;(case hfit=>((repeat' (first|exact qB|refine qD ?_ ?_|exact qE (by rfl)|exact qF (by rfl)|exact Fit.refl _|exact qA|refine qC ?_ rfl ?_));done));try cbv)|(refine qQ ?_ (c17) ?hfit;(case hfit=>((repeat' (first|exact qB|refine qD ?_ ?_|exact qE (by rfl)|exact qF (by rfl)|exact Fit.refl _|exact qA|refine qC ?_ rfl ?_));done));try cbv)|(refine qQ ?_ (c19) ?hfit;(case hfit=>((repeat' (first|exact qB|refine qD ?_ ?_|exact qE (by rfl)|exact qF (by rfl)|exact Fit.refl _|exact qA|refine qC ?_ rfl ?_));done));try cbv)|(refine qQ ?_ (c20) ?hfit;(case hfit=>((repeat' (first|exact qB|refine qD ?_ ?_|exact qE (by rfl)|exact qF (by rfl)|exact Fit.refl _|exact qA|refine qC ?_ rfl ?_));done));try cbv)|(refine qQ ?_ (c21) ?hfit;(case hfit=>((repeat' (first|exact qB|refine qD ?_ ?_|exact qE (by rfl)|exact qF (by rfl)|exact Fit.refl _|exact qA|refine qC ?_ rfl ?_));done));try cbv)|(refine qQ ?_ (c22) ?hfit;(case hfit=>((repeat' (first|exact qB|refine qD ?_ ?_|exact qE (by rfl)|exact qF (by rfl)|exact Fit.refl _|exact qA|refine qC ?_ rfl ?_));done));try cbv)|(refine uaj ?_ (c23 _ _ _);try cbv)|(refine qQ ?_ (c26) ?hfit;(case hfit=>((repeat' (first|exact qB|refine qD ?_ ?_|exact qE (by rfl)|exact qF (by rfl)|exact Fit.refl _|exact qA|refine qC ?_ rfl ?_));done));try cbv)|(refine qQ ?_ (c28) ?hfit;(case hfit=>((repeat' (first|exact qB|refine qD ?_ ?_|exact qE (by rfl)|exact qF (by rfl)|exact Fit.refl _|exact qA|refine qC ?_ rfl ?_));done));try cbv)|fail)
 all_goals first|trivial|((try simp only [qX]at *);(try simp only [zQ,zA,zB,zC,zD,zE,zF,zG,zH,zI,zJ,zK,zL,zM,zN,zO,zP,zR,zS]at *);first|(refine qO ?_;omega)|(simp only [uap];omega))|(subst hR;(repeat' (first|exact qA|exact qB|refine qC ?_ rfl ?_|refine qD ?_ ?_|exact qE (by rfl)|exact qF (by rfl)|exact Fit.refl _|exact qG _|(refine qE ?_;(try simp only [qX]at *);simp only [zQ,zA,zB,zC,zD,zE,zF,zG,zH,zI,zJ,zK,zL,zM,zN,zO,zP,zR,zS]at *;omega)));done)|skip
 refine⟨none,[],{x:Nat // (x:Int)≤tpD (c.cs.getD w.toNat k0).ms+1},fun x=>⟨[(3,(iv fun _=>n)),(5,.own 0 0),(13,(iv fun _=>dip (c.cs.getD w.toNat k0).ms n)),(14,(iv fun _=>0)),(18,.own 71 0),(19,(iv fun _=>bsN (c.cs.getD w.toNat k0).ms n x.1)),(20,(iv fun _=>zi x.1))],[(0,.cells [(caS c.cs),(mvS c.mv),(gaS c.gs)] 26),(71,.cells (kcS (c.cs.getD w.toNat k0)) 52)],400⟩,fun x=>(tpD (c.cs.getD w.toNat k0).ms+1-x.1).toNat,?_,?_⟩
 ·refine⟨⟨0,by omega⟩,?_⟩
  cbv
  repeat' (first|with_reducible refine ua3 ?_ ?_|with_reducible refine And.intro ?_ ?_)
  all_goals first|trivial|exact qN (qE (by rfl))|exact qN (Fit.refl _)|exact qL (qK _)|skip
 ·rintro ⟨x,hx⟩
  cbv
  repeat' (first|with_reducible refine ua3 ?_ ?_|with_reducible refine And.intro ?_ ?_|(with_reducible intro hcd;(try simp only [zA,zB,zC,zD,zE,zF,zG,zH,zI,zJ,zK,zL,zM,zN,zO,zP]at hcd);try cbv)|(refine qQ ?_ (c16) ?hfit;(case hfit=>((repeat' (first|exact qB|refine qD ?_ ?_|exact qE (by rfl)|exact qF (by rfl)|exact Fit.refl _|exact qA|refine qC ?_ rfl ?_));done));try cbv)|(refine qQ ?_ (c26) ?hfit;(case hfit=>((repeat' (first|exact qB|refine qD ?_ ?_|exact qE (by rfl)|exact qF (by rfl)|exact Fit.refl _|exact qA|refine qC ?_ rfl ?_));done));try cbv)|(refine qQ ?_ ((c27 (zi x)  om)) ?hfit;(case hfit=>((repeat' (first|exact qB|refine qD ?_ ?_|exact qE (by rfl)|exact qF (by rfl)|exact Fit.refl _|exact qA|refine qC ?_ rfl ?_));done));try cbv)|fail)
  all_goals first|trivial|((try simp only [qX]at *);(try simp only [zQ,zA,zB,zC,zD,zE,zF,zG,zH,zI,zJ,zK,zL,zM,zN,zO,zP,zR,zS]at *);first|(refine qO ?_;omega)|(simp only [uap];omega))|(subst hR;(repeat' (first|exact qA|exact qB|refine qC ?_ rfl ?_|refine qD ?_ ?_|exact qE (by rfl)|exact qF (by rfl)|exact Fit.refl _|exact qG _|(refine qE ?_;(try simp only [qX]at *);simp only [zQ,zA,zB,zC,zD,zE,zF,zG,zH,zI,zJ,zK,zL,zM,zN,zO,zP,zR,zS]at *;omega)));done)|((try simp only [zQ,zA,zB,zC,zD,zE,zF,zG,zH,zI,zJ,zK,zL,zM,zN,zO,zP,zR,zS]at *);refine⟨⟨x+1,by((try simp only [qX]at *);(try simp only [zQ,zA,zB,zC,zD,zE,zF,zG,zH,zI,zJ,zK,zL,zM,zN,zO,zP,zR,zS]at *);omega)⟩,by((try simp only [qX]at *);(try simp only [zQ,zA,zB,zC,zD,zE,zF,zG,zH,zI,zJ,zK,zL,zM,zN,zO,zP,zR,zS]at *);(try simp only []);omega),?_⟩;cbv;(repeat' (first|with_reducible refine ua3 ?_ ?_|with_reducible refine And.intro ?_ ?_));(all_goals first|trivial|exact qN (qE (by rfl))|exact qN (qF (by rfl))|exact qN (Fit.refl _)|exact qL (qK _)|(refine qN (qE ?_);(try simp only [qX]at *);simp only [zQ,zA,zB,zC,zD,zE,zF,zG,zH,zI,zJ,zK,zL,zM,zN,zO,zP,zR,zS]at *;omega)|(refine qL (qJ ?_);(repeat' (first|exact qA|exact qB|refine qC ?_ rfl ?_|refine qD ?_ ?_|exact qE (by rfl)|exact qF (by rfl)|exact Fit.refl _|exact qG _|(refine qE ?_;(try simp only [qX]at *);simp only [zQ,zA,zB,zC,zD,zE,zF,zG,zH,zI,zJ,zK,zL,zM,zN,zO,zP,zR,zS]at *;omega)));done)|(refine qN (qE ?_);first|exact uvI hM hN.1  om (by(try simp only [qX]at *);(try simp only [zQ,zA,zB,zC,zD,zE,zF,zG,zH,zI,zJ,zK,zL,zM,zN,zO,zP,zR,zS]at *);assumption)|exact uvy hM hN.1  om  om|((try simp only [qX]at *);(try simp only [zQ,zA,zB,zC,zD,zE,zF,zG,zH,zI,zJ,zK,zL,zM,zN,zO,zP,zR,zS]at *);omega))|skip))|(exfalso;(have e9:=ukC (ms:=(c.cs.getD w.toNat k0).ms) (n:=n) (x:=x) (by omega)  om);(try simp only [qX]at *);(try simp only [zQ,zA,zB,zC,zD,zE,zF,zG,zH,zI,zJ,zK,zL,zM,zN,zO,zP,zR,zS]at *);omega)|skip
set_option maxHeartbeats 4000000 in
theorem uoI (c:Clr)(w d n g:Int)(h:udE c=true)(hF:ua6 c=0)(hG:¬(0≤g∧g≤(c.gs.length:Int)-1))(hW:(0≤w∧w≤(c.cs.length:Int)-1))(hD:(0≤d∧d≤tpD (c.cs.getD w.toNat k0).ms))(hN:(0≤n∧n≤tpC (c.cs.getD w.toNat k0).ms)):ua0 Try.prog 3 [(.agg [(caS c.cs),(mvS c.mv),(gaS c.gs)]),(iv fun _=>w),(iv fun _=>d),(iv fun _=>n),(iv fun _=>g)] [] (fun r _=>r=(.bool (.lit true))):=by
 have c15:=udx c
 have c16:=ucc
 have c23:= @ums
 have c24:= @umL
 have h39:=ud4
 have c21:=(show ua0 Try.prog 21 [(.agg [(caS c.cs),(mvS c.mv),(gaS c.gs)])] [] (fun r _=>r=(iv fun _=>0))from by have q:=ucm c;rw [hF]at q;exact q)
 have c22:=(show ua0 Try.prog 22 [(.agg [(caS c.cs),(mvS c.mv),(gaS c.gs)])] [] (fun r _=>r=(iv fun _=>0))from by have q:=uaC c;rw [hF]at q;exact q)
 have hth:=uc8.1 h
 have c18:=ubJ c ⟨by have:=hth.2;omega,by have:=hth.2;omega,by have:=hth.2;omega⟩ (fun i hi=>by have:=hth.1 i hi;omega)
 have c17:=uba c w d
 have c19:=ufJ c w n
 have c20:=udA c g
 have hth2:=hth.2
 have hC:=uaa.1 hF
 have hgB:inB 0 g (zi c.gs.length-1)=false:=by rw [uaq];exact hG
 have hwB:inB 0 w (zi c.cs.length-1)=true:=by rw [uah];exact hW
 have hdB:inB 0 d (tpD (c.cs.getD w.toNat k0).ms)=true:=by rw [uah];exact hD
 have hnB:inB 0 n (tpC (c.cs.getD w.toNat k0).ms)=true:=by rw [uah];exact hN
 have hK:=hC.k w.toNat (by omega)
 have hM:=hK.m
 have h2:=hM.two
 have h5:=hM.few
 have hT:=hM.top
 have c26:=ud0 (c.cs.getD w.toNat k0) (by omega) (by omega)
 have c28:=udj (c.cs.getD w.toNat k0) (by omega) (by omega)
 have c27:∀e:Int,0≤e∧e≤tpD (c.cs.getD w.toNat k0).ms→ua0 Try.prog 27 [(.agg (kcS (c.cs.getD w.toNat k0))),(iv fun _=>e)] [] (fun r _=>r=(iv fun _=>ct (c.cs.getD w.toNat k0).ms e)):=fun e he=>ucA (c.cs.getD w.toNat k0) e hM he
 have z1:=ufs (x:=w) (d:=d) hF ⟨hW,hD⟩
 have z2:=ufg (x:=w) (n:=n) hF ⟨hW,hN⟩
 have z3:=uh2 (g:=g) hF hG
 rw [z1.1,z1.2]at c17
 rw [z2.1,z2.2]at c19
 rw [z3.1,z3.2.1,z3.2.2]at c20
 clear hth z1 z2 z3
 unfold kAt at c17 c19
 refine ua0.is fun R hR=>qY (sc:=sc3) uas mix Try.func3 rfl Try.call3 (by kernel_rfl) (by kernel_rfl) ?_
 generalize Try.prog=P at c15 c16 c23 c24 h39 c21 c22 c18 c17 c19 c20 c26 c28 c27⊢
 cbv
 repeat' (first|(with_reducible intro hcd;exfalso;(try simp only [zQ,zA,zB,zC,zD,zE,zF,zG,zH,zI,zJ,zK,zL,zM,zN,zO,zP,zR,zS]at hcd);omega)|(with_reducible intro hcd;(try simp only [zA,zB,zC,zD,zE,zF,zG,zH,zI,zJ,zK,zL,zM,zN,zO,zP]at hcd);exact Bool.noConfusion (hgB.symm.trans hcd))|(with_reducible intro hcd;(try simp only [zA,zB,zC,zD,zE,zF,zG,zH,zI,zJ,zK,zL,zM,zN,zO,zP]at hcd);exact Bool.noConfusion (hwB.symm.trans hcd))|(with_reducible intro hcd;(try simp only [zA,zB,zC,zD,zE,zF,zG,zH,zI,zJ,zK,zL,zM,zN,zO,zP]at hcd);exact Bool.noConfusion (hdB.symm.trans hcd))|(with_reducible intro hcd;(try simp only [zA,zB,zC,zD,zE,zF,zG,zH,zI,zJ,zK,zL,zM,zN,zO,zP]at hcd);exact Bool.noConfusion (hnB.symm.trans hcd))|with_reducible refine ua3 ?_ ?_|with_reducible refine And.intro ?_ ?_|(with_reducible intro hcd;(try simp only [zA,zB,zC,zD,zE,zF,zG,zH,zI,zJ,zK,zL,zM,zN,zO,zP]at hcd);try cbv)|(refine qQ ?_ (c15) ?hfit;(case hfit=>((repeat' (first|exact qB|refine qD ?_ ?_|exact qE (by rfl)|exact qF (by rfl)|exact Fit.refl _|exact qA|refine qC ?_ rfl ?_));done));try cbv)|(refine qQ ?_ (c16) ?hfit;(case hfit=>((repeat' (first|exact qB|refine qD ?_ ?_|exact qE (by rfl)|exact qF (by rfl)|exact Fit.refl _|exact qA|refine qC ?_ rfl ?_));done));try cbv)|(refine qQ ?_ (c18) ?hfit;(case hfit=>((repeat' (first|exact qB|refine qD ?_ ?_|exact qE (by rfl)|exact qF (by rfl)|exact Fit.refl _|exact qA|refine qC ?_ rfl ?_));done));try cbv)|(refine qQ ?_ (c17) ?hfit;(case hfit=>((repeat' (first|exact qB|refine qD ?_ ?_|exact qE (by rfl)|exact qF (by rfl)|exact Fit.refl _|exact qA|refine qC ?_ rfl ?_));done));try cbv)|(refine qQ ?_ (c19) ?hfit;(case hfit=>((repeat' (first|exact qB|refine qD ?_ ?_|exact qE (by rfl)|exact qF (by rfl)|exact Fit.refl _|exact qA|refine qC ?_ rfl ?_));done));try cbv)|(refine qQ ?_ (c20) ?hfit;(case hfit=>((repeat' (first|exact qB|refine qD ?_ ?_|exact qE (by rfl)|exact qF (by rfl)|exact Fit.refl _|exact qA|refine qC ?_ rfl ?_));done));try cbv)|(refine qQ ?_ (c21) ?hfit;(case hfit=>((repeat' (first|exact qB|refine qD ?_ ?_|exact qE (by rfl)|exact qF (by rfl)|exact Fit.refl _|exact qA|refine qC ?_ rfl ?_));done));try cbv)|(refine qQ ?_ (c22) ?hfit;(case hfit=>((repeat' (first|exact qB|refine qD ?_ ?_|exact qE (by rfl)|exact qF (by rfl)|exact Fit.refl _|exact qA|refine qC ?_ rfl ?_));done));try cbv)|(refine uaj ?_ (c23 _ _ _);try cbv)|(refine qQ ?_ (c26) ?hfit;(case hfit=>((repeat' (first|exact qB|refine qD ?_ ?_|exact qE (by rfl)|exact qF (by rfl)|exact Fit.refl _|exact qA|refine qC ?_ rfl ?_));done));try cbv)|(refine qQ ?_ (c28) ?hfit;(case hfit=>((repeat' (first|exact qB|refine qD ?_ ?_|exact qE (by rfl)|exact qF (by rfl)|exact Fit.refl _|exact qA|refine qC ?_ rfl ?_));done));try cbv)|(refine qQ ?_ ((c27 d hD)) ?hfit;(case hfit=>((repeat' (first|exact qB|refine qD ?_ ?_|exact qE (by rfl)|exact qF (by rfl)|exact Fit.refl _|exact qA|refine qC ?_ rfl ?_));done));try cbv)|fail)
 all_goals first|trivial|((try simp only [qX]at *);(try simp only [zQ,zA,zB,zC,zD,zE,zF,zG,zH,zI,zJ,zK,zL,zM,zN,zO,zP,zR,zS]at *);first|(refine qO ?_;omega)|(simp only [uap];omega))|(subst hR;(repeat' (first|exact qA|exact qB|refine qC ?_ rfl ?_|refine qD ?_ ?_|exact qE (by rfl)|exact qF (by rfl)|exact Fit.refl _|exact qG _|(refine qE ?_;(try simp only [qX]at *);simp only [zQ,zA,zB,zC,zD,zE,zF,zG,zH,zI,zJ,zK,zL,zM,zN,zO,zP,zR,zS]at *;omega)));done)|skip
 refine⟨none,[],{x:Nat // (x:Int)≤tpD (c.cs.getD w.toNat k0).ms+1},fun x=>⟨[(3,(iv fun _=>n)),(5,.own 0 0),(13,(iv fun _=>dip (c.cs.getD w.toNat k0).ms n)),(14,(iv fun _=>0)),(18,.own 71 0),(19,(iv fun _=>bsN (c.cs.getD w.toNat k0).ms n x.1)),(20,(iv fun _=>zi x.1))],[(0,.cells [(caS c.cs),(mvS c.mv),(gaS c.gs)] 26),(71,.cells (kcS (c.cs.getD w.toNat k0)) 52)],400⟩,fun x=>(tpD (c.cs.getD w.toNat k0).ms+1-x.1).toNat,?_,?_⟩
 ·refine⟨⟨0,by omega⟩,?_⟩
  cbv
  repeat' (first|with_reducible refine ua3 ?_ ?_|with_reducible refine And.intro ?_ ?_)
  all_goals first|trivial|exact qN (qE (by rfl))|exact qN (Fit.refl _)|exact qL (qK _)|skip
 ·rintro ⟨x,hx⟩
  cbv
  repeat' (first|with_reducible refine ua3 ?_ ?_|with_reducible refine And.intro ?_ ?_|(with_reducible intro hcd;(try simp only [zA,zB,zC,zD,zE,zF,zG,zH,zI,zJ,zK,zL,zM,zN,zO,zP]at hcd);try cbv)|(refine qQ ?_ (c16) ?hfit;(case hfit=>((repeat' (first|exact qB|refine qD ?_ ?_|exact qE (by rfl)|exact qF (by rfl)|exact Fit.refl _|exact qA|refine qC ?_ rfl ?_));done));try cbv)|(refine qQ ?_ (c26) ?hfit;(case hfit=>((repeat' (first|exact qB|refine qD ?_ ?_|exact qE (by rfl)|exact qF (by rfl)|exact Fit.refl _|exact qA|refine qC ?_ rfl ?_));done));try cbv)|(refine qQ ?_ ((c27 (zi x)  om)) ?hfit;(case hfit=>((repeat' (first|exact qB|refine qD ?_ ?_|exact qE (by rfl)|exact qF (by rfl)|exact Fit.refl _|exact qA|refine qC ?_ rfl ?_));done));try cbv)|fail)
  all_goals first|trivial|((try simp only [qX]at *);(try simp only [zQ,zA,zB,zC,zD,zE,zF,zG,zH,zI,zJ,zK,zL,zM,zN,zO,zP,zR,zS]at *);first|(refine qO ?_;omega)|(simp only [uap];omega))|(subst hR;(repeat' (first|exact qA|exact qB|refine qC ?_ rfl ?_|refine qD ?_ ?_|exact qE (by rfl)|exact qF (by rfl)|exact Fit.refl _|exact qG _|(refine qE ?_;(try simp only [qX]at *);simp only [zQ,zA,zB,zC,zD,zE,zF,zG,zH,zI,zJ,zK,zL,zM,zN,zO,zP,zR,zS]at *;omega)));done)|((try simp only [zQ,zA,zB,zC,zD,zE,zF,zG,zH,zI,zJ,zK,zL,zM,zN,zO,zP,zR,zS]at *);refine⟨⟨x+1,by((try simp only [qX]at *);(try simp only [zQ,zA,zB,zC,zD,zE,zF,zG,zH,zI,zJ,zK,zL,zM,zN,zO,zP,zR,zS]at *);omega)⟩,by((try simp only [qX]at *);(try simp only [zQ,zA,zB,zC,zD,zE,zF,zG,zH,zI,zJ,zK,zL,zM,zN,zO,zP,zR,zS]at *);(try simp only []);omega),?_⟩;cbv;(repeat' (first|with_reducible refine ua3 ?_ ?_|with_reducible refine And.intro ?_ ?_));(all_goals first|trivial|exact qN (qE (by rfl))|exact qN (qF (by rfl))|exact qN (Fit.refl _)|exact qL (qK _)|(refine qN (qE ?_);(try simp only [qX]at *);simp only [zQ,zA,zB,zC,zD,zE,zF,zG,zH,zI,zJ,zK,zL,zM,zN,zO,zP,zR,zS]at *;omega)|(refine qL (qJ ?_);(repeat' (first|exact qA|exact qB|refine qC ?_ rfl ?_|refine qD ?_ ?_|exact qE (by rfl)|exact qF (by rfl)|exact Fit.refl _|exact qG _|(refine qE ?_;(try simp only [qX]at *);simp only [zQ,zA,zB,zC,zD,zE,zF,zG,zH,zI,zJ,zK,zL,zM,zN,zO,zP,zR,zS]at *;omega)));done)|(refine qN (qE ?_);first|exact uvI hM hN.1  om (by(try simp only [qX]at *);(try simp only [zQ,zA,zB,zC,zD,zE,zF,zG,zH,zI,zJ,zK,zL,zM,zN,zO,zP,zR,zS]at *);assumption)|exact uvy hM hN.1  om  om|((try simp only [qX]at *);(try simp only [zQ,zA,zB,zC,zD,zE,zF,zG,zH,zI,zJ,zK,zL,zM,zN,zO,zP,zR,zS]at *);omega))|skip))|(exfalso;(have e9:=ukC (ms:=(c.cs.getD w.toNat k0).ms) (n:=n) (x:=x) (by omega)  om);(try simp only [qX]at *);(try simp only [zQ,zA,zB,zC,zD,zE,zF,zG,zH,zI,zJ,zK,zL,zM,zN,zO,zP,zR,zS]at *);omega)|skip
theorem uy9 (c:Clr)(w d n g:Int):ua0 Try.prog 3 [(.agg [(caS c.cs),(mvS c.mv),(gaS c.gs)]),(iv fun _=>w),(iv fun _=>d),(iv fun _=>n),(iv fun _=>g)] [] (fun r _=>r = .bool (.lit true)):=by
 cases h:udE c with
 |false=>exact uw0 c w d n g h
 | true=>
  by_cases hF:ua6 c=0
  ·by_cases hG:0≤g∧g≤(c.gs.length:Int)-1<;>by_cases hW:0≤w∧w≤(c.cs.length:Int)-1<;>by_cases hD:0≤d∧d≤tpD (c.cs.getD w.toNat k0).ms<;>by_cases hN:0≤n∧n≤tpC (c.cs.getD w.toNat k0).ms
   ·exact un1 c w d n g h hF hG hW hD hN
   ·exact unF c w d n g h hF hG hW hD hN
   ·exact uoQ c w d n g h hF hG hW hD hN
   ·exact upr c w d n g h hF hG hW hD hN
   ·exact ueY c w d n g h hF hG hW
   ·exact ueY c w d n g h hF hG hW
   ·exact ueY c w d n g h hF hG hW
   ·exact ueY c w d n g h hF hG hW
   ·exact uoI c w d n g h hF hG hW hD hN
   ·exact un9 c w d n g h hF hG hW hD hN
   ·exact unc c w d n g h hF hG hW hD hN
   ·exact uo9 c w d n g h hF hG hW hD hN
   ·exact uez c w d n g h hF hG hW
   ·exact uez c w d n g h hF hG hW
   ·exact uez c w d n g h hF hG hW
   ·exact uez c w d n g h hF hG hW
  ·exact uxx c w d n g h hF
end Go.Proofs.Ytpkgnhcfmpbidaa
