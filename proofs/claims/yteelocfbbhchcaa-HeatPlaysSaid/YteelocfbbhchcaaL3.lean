/- HeatPlays: what the law computes. No condition. -/
import Derived.Test.YteelocfbbhchcaaT6
set_option linter.unusedVariables false
set_option linter.unusedSimpArgs false
set_option linter.deprecated false
set_option linter.all false

namespace Go.Proofs.Yteelocfbbhchcaa
open Go Go.Eng Go.Proofs
set_option maxRecDepth 10000
theorem same27 (n:Nat)(f:Nat→Int)(hn:n≤1000):FSpec Try.prog 27 [(.sl 1 (.sym fun _=>zi n) (fun ix=>[(.int .i64 (.sym fun _=>f ix.den.toNat))])),(.sl 1 (.sym fun _=>zi n) (fun ix=>[(.int .i64 (.sym fun _=>f ix.den.toNat))]))] [] (fun r _=>r = .bool (.lit true)):=
  (ints27 n n f f hn hn).post fun r bs h=>⟨_,by subst h;exact qG (eqI_yes rfl fun _ _=>rfl),rfl⟩
theorem spec_t {f:FuncId} {args:List SV} {b:Bool}(h:FSpec Try.prog f args [] (fun r _=>r = .bool (.sym fun _=>b)))(hb:b=true):FSpec Try.prog f args [] (fun r _=>r = .bool (.lit true)):=h.post fun r bs q=>⟨_,by subst q;exact qG hb,rfl⟩
theorem spec_f {f:FuncId} {args:List SV} {b:Bool}(h:FSpec Try.prog f args [] (fun r _=>r = .bool (.sym fun _=>b)))(hb:b=false):FSpec Try.prog f args [] (fun r _=>r = .bool (.lit false)):=h.post fun r bs q=>⟨_,by subst q;exact qG hb,rfl⟩
theorem spec_i {f:FuncId} {args:List SV} {n:Int}(h:FSpec Try.prog f args [] (fun r _=>r = .int .i64 (.sym fun _=>n))) {m:Int}(hb:n=m):FSpec Try.prog f args [] (fun r _=>r = .int .i64 (.lit m)):=h.post fun r bs q=>⟨_,by subst q;exact qE hb,rfl⟩
theorem look_is {c:Clr}(hC:COk c) {t s:Int}:lookB c ⟨0,0,t,s⟩=true↔(0≤t∧t<c.ts.length)∧onB (c.ts.getD t.toNat t0) s=true:=by
  rw [lookB_iff]
  constructor
  · intro h;exact⟨⟨h.t0,h.t1⟩,h.on⟩
  · intro h
    have h1:=hC.ok.h1
    have h2:=hC.ok.vn
    exact⟨Int.le_refl 0,by show(0:Int)<_;omega,Int.le_refl 0,by show(0:Int)≤_;omega,h.1.1,h.1.2,h.2⟩
theorem law3t (c:Clr)(t s rm:Int)(ss rs:List Int)(h:thinB c 0=false∨9<ss.length∨9<rs.length):FSpec Try.prog 3 [(clrS c),(.int .i64 (.sym fun _=>t)),(.int .i64 (.sym fun _=>s)),(.agg [(.int .i64 (.sym fun _=>rm)),(.sl 1 (.sym fun _=>zi (ss).length) (fun ix=>[.int .i64 (.sym fun _=>(ss).getD ix.den.toNat 0)])),(.sl 1 (.sym fun _=>zi (rs).length) (fun ix=>[.int .i64 (.sym fun _=>(rs).getD ix.den.toNat 0)]))])] [] (fun r _=>r=(.bool (.lit true))):=by
  have c15:=awake15
  have c25:= @to25
  have h33:=eqOk33
  have c22:= @within22
  have c14:=thin14 c []
  refine FSpec.is fun R hR=>qX (sc:=sc3) tyok mix Try.func3 rfl Try.call3 (by kernel_rfl) (by kernel_rfl) ?_
  generalize Try.prog=P at c15 c25 h33 c22 c14⊢
  cbv
  repeat' (first
      |with_reducible refine And.intro ?_ ?_
      |(with_reducible intro hcd;(try simp only [zA,zB,zC,zD,zE,zF,zG,zH,zI,zJ,zK,zL,zM,zN,zO,zP]at hcd);try cbv)
      | (refine qQ ?_ (c14) ?hfit
         case hfit=>((refine qD (Fit.refl _) (qD (qP rfl) qB));done)
         try cbv)
      | (refine qQ ?_ (c15) ?hfit
         case hfit=>((repeat' (first|exact qB|refine qD ?_ ?_|exact qE (by rfl)|exact qG (by rfl)|exact Fit.refl _|exact qA|refine qC ?_ rfl ?_));done)
         try cbv)
      |fail)
  all_goals first
    |(subst hR;(repeat' (first|exact qA|exact qB|refine qC ?_ rfl ?_|refine qD ?_ ?_|exact qE (by rfl)|exact qG (by rfl)|exact Fit.refl _|exact qH _|(refine qE ?_;(try simp only [qW]at *);simp only [zQ,zA,zB,zC,zD,zE,zF,zG,zH,zI,zJ,zK,zL,zM,zN,zO,zP,zR,zS]at *;omega)));done)
    |(exfalso;(try simp only [qW]at *);(try simp only [zQ,zA,zB,zC,zD,zE,zF,zG,zH,zI,zJ,zK,zL,zM,zN,zO,zP,zR,zS]at *);(have h2:thinB c 0=true:=by first|assumption|simp_all);(rcases h with h|h|h);(rw [h]at h2;cases h2);all_goals omega)
    |skip
set_option maxHeartbeats 1000000 in
theorem law3a1 (c:Clr)(t s rm:Int)(ss rs:List Int)(hT:ThinC c 0)(h1:ss.length≤9)(h2:rs.length≤9)(hF:faultC c=1):FSpec Try.prog 3 [(clrS c),(.int .i64 (.sym fun _=>t)),(.int .i64 (.sym fun _=>s)),(.agg [(.int .i64 (.sym fun _=>rm)),(.sl 1 (.sym fun _=>zi (ss).length) (fun ix=>[.int .i64 (.sym fun _=>(ss).getD ix.den.toNat 0)])),(.sl 1 (.sym fun _=>zi (rs).length) (fun ix=>[.int .i64 (.sym fun _=>(rs).getD ix.den.toNat 0)]))])] [] (fun r _=>r=(.bool (.lit true))):=by
  have hF0:¬faultC c=0:=by omega
  have e1:=(meanE_bad (t:=t) (s:=s) hF0).trans hF
  have e2:=mn_no (c:=c) (t:=t) (s:=s) (by omega)
  have e3:=playE_bad (rm:=rm) (ss:=ss) (rs:=rs) hF0
  have c15:=awake15
  have c25:= @to25
  have h33:=eqOk33
  have c14:=spec_t (thin14 c []) (thin_iff.2 hT)
  have c17:=cellar17 c (by have:=hT.v;omega) (by have:=hT.t;omega) (fun i hi=>by have:=hT.p i hi;omega)
  have c19:=truth19 rm ss rs (by omega) (by omega)
  have c20:=spec_i (fault20 c) hF
  have c21:=spec_i (check21 c) hF
  have c16:=(show FSpec Try.prog 16 [(clrS c),(.int .i64 (.sym fun _=>t)),(.int .i64 (.sym fun _=>s))] [] (fun r _=>r=(.tup [(.agg [(.int .i64 (.lit (0))),(.int .i64 (.lit (0)))]),(.int .i64 (.lit (1)))]))from(mean16 c t s).post fun r bs q=>⟨_,by subst q;exact qD (qC (qE e2.1) rfl (qC (qE e2.2) rfl qA)) (qD (qE e1) qB),rfl⟩)
  have c18:=(show FSpec Try.prog 18 [(clrS c),(.agg [(.int .i64 (.sym fun _=>rm)),(.sl 1 (.sym fun _=>zi (ss).length) (fun ix=>[.int .i64 (.sym fun _=>(ss).getD ix.den.toNat 0)])),(.sl 1 (.sym fun _=>zi (rs).length) (fun ix=>[.int .i64 (.sym fun _=>(rs).getD ix.den.toNat 0)]))])] [] (fun r _=>r=(.tup [(.sl 1 (.lit 0) (fun ix=>[(.sl 1 (.sym fun _=>zi (c.hr.toNat+1)) (fun jx=>[(.int .i64 (.sym fun _=>runW rm (ss.getD ix.den.toNat 0) (rs.getD ix.den.toNat 0) jx.den.toNat))]))])),(.int .i64 (.lit (1)))]))from(play18 c rm ss rs (by have:=hT.v;omega)).post fun r bs q=>⟨_,by subst q;exact qD (fit_sl ((congrArg zi e3.2).trans rfl) (fun _ _ _=>Fit.refl _)) (qD (qE (e3.1.trans hF)) qB),rfl⟩)
  refine FSpec.is fun R hR=>qX (sc:=sc3) tyok mix Try.func3 rfl Try.call3 (by kernel_rfl) (by kernel_rfl) ?_
  generalize Try.prog=P at c15 c25 h33 c14 c17 c19 c20 c21 c16 c18⊢
  cbv
  repeat' (first
      |with_reducible refine hold ?_ ?_
      |with_reducible refine And.intro ?_ ?_
      |(with_reducible intro hcd;(try simp only [zA,zB,zC,zD,zE,zF,zG,zH,zI,zJ,zK,zL,zM,zN,zO,zP]at hcd);try cbv)
      | (refine qQ ?_ (c14) ?hfit
         case hfit=>((refine qD (Fit.refl _) (qD (qP rfl) qB));done)
         try cbv)
      | (refine qQ ?_ (c15) ?hfit
         case hfit=>((repeat' (first|exact qB|refine qD ?_ ?_|exact qE (by rfl)|exact qG (by rfl)|exact Fit.refl _|exact qA|refine qC ?_ rfl ?_));done)
         try cbv)
      | (refine qQ ?_ (c17) ?hfit
         case hfit=>((repeat' (first|exact qB|refine qD ?_ ?_|exact qE (by rfl)|exact qG (by rfl)|exact Fit.refl _|exact qA|refine qC ?_ rfl ?_));done)
         try cbv)
      | (refine qQ ?_ (c16) ?hfit
         case hfit=>((repeat' (first|exact qB|refine qD ?_ ?_|exact qE (by rfl)|exact qG (by rfl)|exact Fit.refl _|exact qA|refine qC ?_ rfl ?_));done)
         try cbv)
      | (refine qQ ?_ (c18) ?hfit
         case hfit=>((repeat' (first|exact qB|refine qD ?_ ?_|exact qE (by rfl)|exact qG (by rfl)|exact Fit.refl _|exact qA|refine qC ?_ rfl ?_));done)
         try cbv)
      | (refine qQ ?_ (c19) ?hfit
         case hfit=>((repeat' (first|exact qB|refine qD ?_ ?_|exact qE (by rfl)|exact qG (by rfl)|exact Fit.refl _|exact qA|refine qC ?_ rfl ?_));done)
         try cbv)
      | (refine qQ ?_ (c20) ?hfit
         case hfit=>((repeat' (first|exact qB|refine qD ?_ ?_|exact qE (by rfl)|exact qG (by rfl)|exact Fit.refl _|exact qA|refine qC ?_ rfl ?_));done)
         try cbv)
      | (refine qQ ?_ (c21) ?hfit
         case hfit=>((repeat' (first|exact qB|refine qD ?_ ?_|exact qE (by rfl)|exact qG (by rfl)|exact Fit.refl _|exact qA|refine qC ?_ rfl ?_));done)
         try cbv)
      |fail)
  all_goals first
    |trivial
    |((try clear c15);(try clear c25);(try clear c14);(try clear c17);(try clear c19);(try clear c20);(try clear c21);(try clear c16);(try clear c18);(subst hR;(repeat' (first|exact qA|exact qB|refine qC ?_ rfl ?_|refine qD ?_ ?_|exact qE (by rfl)|exact qG (by rfl)|exact Fit.refl _|exact qH _|(refine qE ?_;(try simp only [qW]at *);simp only [zQ,zA,zB,zC,zD,zE,zF,zG,zH,zI,zJ,zK,zL,zM,zN,zO,zP,zR,zS]at *;omega)));done))
    |skip
set_option maxHeartbeats 1000000 in
theorem law3a3 (c:Clr)(t s rm:Int)(ss rs:List Int)(hT:ThinC c 0)(h1:ss.length≤9)(h2:rs.length≤9)(hF:faultC c=3):FSpec Try.prog 3 [(clrS c),(.int .i64 (.sym fun _=>t)),(.int .i64 (.sym fun _=>s)),(.agg [(.int .i64 (.sym fun _=>rm)),(.sl 1 (.sym fun _=>zi (ss).length) (fun ix=>[.int .i64 (.sym fun _=>(ss).getD ix.den.toNat 0)])),(.sl 1 (.sym fun _=>zi (rs).length) (fun ix=>[.int .i64 (.sym fun _=>(rs).getD ix.den.toNat 0)]))])] [] (fun r _=>r=(.bool (.lit true))):=by
  have hF0:¬faultC c=0:=by omega
  have e1:=(meanE_bad (t:=t) (s:=s) hF0).trans hF
  have e2:=mn_no (c:=c) (t:=t) (s:=s) (by omega)
  have e3:=playE_bad (rm:=rm) (ss:=ss) (rs:=rs) hF0
  have c15:=awake15
  have c25:= @to25
  have h33:=eqOk33
  have c14:=spec_t (thin14 c []) (thin_iff.2 hT)
  have c17:=cellar17 c (by have:=hT.v;omega) (by have:=hT.t;omega) (fun i hi=>by have:=hT.p i hi;omega)
  have c19:=truth19 rm ss rs (by omega) (by omega)
  have c20:=spec_i (fault20 c) hF
  have c21:=spec_i (check21 c) hF
  have c16:=(show FSpec Try.prog 16 [(clrS c),(.int .i64 (.sym fun _=>t)),(.int .i64 (.sym fun _=>s))] [] (fun r _=>r=(.tup [(.agg [(.int .i64 (.lit (0))),(.int .i64 (.lit (0)))]),(.int .i64 (.lit (3)))]))from(mean16 c t s).post fun r bs q=>⟨_,by subst q;exact qD (qC (qE e2.1) rfl (qC (qE e2.2) rfl qA)) (qD (qE e1) qB),rfl⟩)
  have c18:=(show FSpec Try.prog 18 [(clrS c),(.agg [(.int .i64 (.sym fun _=>rm)),(.sl 1 (.sym fun _=>zi (ss).length) (fun ix=>[.int .i64 (.sym fun _=>(ss).getD ix.den.toNat 0)])),(.sl 1 (.sym fun _=>zi (rs).length) (fun ix=>[.int .i64 (.sym fun _=>(rs).getD ix.den.toNat 0)]))])] [] (fun r _=>r=(.tup [(.sl 1 (.lit 0) (fun ix=>[(.sl 1 (.sym fun _=>zi (c.hr.toNat+1)) (fun jx=>[(.int .i64 (.sym fun _=>runW rm (ss.getD ix.den.toNat 0) (rs.getD ix.den.toNat 0) jx.den.toNat))]))])),(.int .i64 (.lit (3)))]))from(play18 c rm ss rs (by have:=hT.v;omega)).post fun r bs q=>⟨_,by subst q;exact qD (fit_sl ((congrArg zi e3.2).trans rfl) (fun _ _ _=>Fit.refl _)) (qD (qE (e3.1.trans hF)) qB),rfl⟩)
  refine FSpec.is fun R hR=>qX (sc:=sc3) tyok mix Try.func3 rfl Try.call3 (by kernel_rfl) (by kernel_rfl) ?_
  generalize Try.prog=P at c15 c25 h33 c14 c17 c19 c20 c21 c16 c18⊢
  cbv
  repeat' (first
      |with_reducible refine hold ?_ ?_
      |with_reducible refine And.intro ?_ ?_
      |(with_reducible intro hcd;(try simp only [zA,zB,zC,zD,zE,zF,zG,zH,zI,zJ,zK,zL,zM,zN,zO,zP]at hcd);try cbv)
      | (refine qQ ?_ (c14) ?hfit
         case hfit=>((refine qD (Fit.refl _) (qD (qP rfl) qB));done)
         try cbv)
      | (refine qQ ?_ (c15) ?hfit
         case hfit=>((repeat' (first|exact qB|refine qD ?_ ?_|exact qE (by rfl)|exact qG (by rfl)|exact Fit.refl _|exact qA|refine qC ?_ rfl ?_));done)
         try cbv)
      | (refine qQ ?_ (c17) ?hfit
         case hfit=>((repeat' (first|exact qB|refine qD ?_ ?_|exact qE (by rfl)|exact qG (by rfl)|exact Fit.refl _|exact qA|refine qC ?_ rfl ?_));done)
         try cbv)
      | (refine qQ ?_ (c16) ?hfit
         case hfit=>((repeat' (first|exact qB|refine qD ?_ ?_|exact qE (by rfl)|exact qG (by rfl)|exact Fit.refl _|exact qA|refine qC ?_ rfl ?_));done)
         try cbv)
      | (refine qQ ?_ (c18) ?hfit
         case hfit=>((repeat' (first|exact qB|refine qD ?_ ?_|exact qE (by rfl)|exact qG (by rfl)|exact Fit.refl _|exact qA|refine qC ?_ rfl ?_));done)
         try cbv)
      | (refine qQ ?_ (c19) ?hfit
         case hfit=>((repeat' (first|exact qB|refine qD ?_ ?_|exact qE (by rfl)|exact qG (by rfl)|exact Fit.refl _|exact qA|refine qC ?_ rfl ?_));done)
         try cbv)
      | (refine qQ ?_ (c20) ?hfit
         case hfit=>((repeat' (first|exact qB|refine qD ?_ ?_|exact qE (by rfl)|exact qG (by rfl)|exact Fit.refl _|exact qA|refine qC ?_ rfl ?_));done)
         try cbv)
      | (refine qQ ?_ (c21) ?hfit
         case hfit=>((repeat' (first|exact qB|refine qD ?_ ?_|exact qE (by rfl)|exact qG (by rfl)|exact Fit.refl _|exact qA|refine qC ?_ rfl ?_));done)
         try cbv)
      |fail)
  all_goals first
    |trivial
    |((try clear c15);(try clear c25);(try clear c14);(try clear c17);(try clear c19);(try clear c20);(try clear c21);(try clear c16);(try clear c18);(subst hR;(repeat' (first|exact qA|exact qB|refine qC ?_ rfl ?_|refine qD ?_ ?_|exact qE (by rfl)|exact qG (by rfl)|exact Fit.refl _|exact qH _|(refine qE ?_;(try simp only [qW]at *);simp only [zQ,zA,zB,zC,zD,zE,zF,zG,zH,zI,zJ,zK,zL,zM,zN,zO,zP,zR,zS]at *;omega)));done))
    |skip
set_option maxHeartbeats 1000000 in
theorem law3_11 (c:Clr)(t s rm:Int)(ss rs:List Int)(hT:ThinC c 0)(h1:ss.length≤9)(h2:rs.length≤9)(hC:COk c)(hl:(0≤t∧t<c.ts.length)∧onB (c.ts.getD t.toNat t0) s=true)(hTr:truthB c rm ss rs=true):FSpec Try.prog 3 [(clrS c),(.int .i64 (.sym fun _=>t)),(.int .i64 (.sym fun _=>s)),(.agg [(.int .i64 (.sym fun _=>rm)),(.sl 1 (.sym fun _=>zi (ss).length) (fun ix=>[.int .i64 (.sym fun _=>(ss).getD ix.den.toNat 0)])),(.sl 1 (.sym fun _=>zi (rs).length) (fun ix=>[.int .i64 (.sym fun _=>(rs).getD ix.den.toNat 0)]))])] [] (fun r _=>r=(.bool (.lit true))):=by
  have hF:=faultC_iff.2 hC
  have hf3:=hC.few.v
  have hf4:=hC.few.t
  have h18:=hC.ok.h1
  have h88:=hC.ok.h8
  have e1:=meanE_yes hF ((look_is hC).2 hl)
  have e2:mnLo c t s=meanLo (c.ts.getD t.toNat t0) s∧mnHi c t s=meanHi (c.ts.getD t.toNat t0) s:=mn_yes e1
  have hin:=hl.1
  have e3:=playE_yes hF hTr
  have hK:=truthB_iff.1 hTr
  have hs9:=hK.s
  have hr9:=hK.r
  have c15:=awake15
  have c25:= @to25
  have h33:=eqOk33
  have c14:=spec_t (thin14 c []) (thin_iff.2 hT)
  have c17:=cellar17 c (by have:=hT.v;omega) (by have:=hT.t;omega) (fun i hi=>by have:=hT.p i hi;omega)
  have c19:=truth19 rm ss rs (by omega) (by omega)
  have c20:=spec_i (fault20 c) hF
  have c21:=spec_i (check21 c) hF
  have c16:=(show FSpec Try.prog 16 [(clrS c),(.int .i64 (.sym fun _=>t)),(.int .i64 (.sym fun _=>s))] [] (fun r _=>r=(.tup [(.agg [(.int .i64 (.sym fun _=>meanLo (c.ts.getD t.toNat t0) s)),(.int .i64 (.sym fun _=>meanHi (c.ts.getD t.toNat t0) s))]),(.int .i64 (.lit (0)))]))from(mean16 c t s).post fun r bs q=>⟨_,by subst q;exact qD (qC (qE e2.1) rfl (qC (qE e2.2) rfl qA)) (qD (qE e1) qB),rfl⟩)
  have c18:=(show FSpec Try.prog 18 [(clrS c),(.agg [(.int .i64 (.sym fun _=>rm)),(.sl 1 (.sym fun _=>zi (ss).length) (fun ix=>[.int .i64 (.sym fun _=>(ss).getD ix.den.toNat 0)])),(.sl 1 (.sym fun _=>zi (rs).length) (fun ix=>[.int .i64 (.sym fun _=>(rs).getD ix.den.toNat 0)]))])] [] (fun r _=>r=(.tup [(.sl 1 (.sym fun _=>zi c.vs.length) (fun ix=>[(.sl 1 (.sym fun _=>zi (c.hr.toNat+1)) (fun jx=>[(.int .i64 (.sym fun _=>runW rm (ss.getD ix.den.toNat 0) (rs.getD ix.den.toNat 0) jx.den.toNat))]))])),(.int .i64 (.lit (0)))]))from(play18 c rm ss rs (by have:=hT.v;omega)).post fun r bs q=>⟨_,by subst q;exact qD (fit_sl (congrArg zi e3.2) (fun _ _ _=>Fit.refl _)) (qD (qE e3.1) qB),rfl⟩)
  have c22:=spec_t (within22 t 0 (zi c.ts.length-1)) (by rw [inB_t];simp only [zi_den];omega)
  have c23:=spec_t (on23 (c.ts.getD t.toNat t0) s (hC.fewT.on (x:=⟨0,0,t,s⟩) hl.1.1 hl.1.2)) hl.2
  have c26:=mean26 (c.ts.getD t.toNat t0) s (hC.ok.t t.toNat (by have:=hl.1;omega)) (by have:=hC.few.p t.toNat (by have:=hl.1;omega);omega) hl.2
  have c24:=spec_t (istruth24 c rm ss rs (by omega)) hTr
  have c28:=fun (i:Nat) (hi:i<c.vs.length)=>ref28 c rm (ss.getD i 0) (rs.getD i 0) (hK.way hC i hi) hC.ok.h1 hC.ok.h8
  have c27:=fun (i:Nat)=>same27 (c.hr.toNat+1) (fun n=>runW rm (ss.getD i 0) (rs.getD i 0) n) (by omega)
  refine FSpec.is fun R hR=>qX (sc:=sc3) tyok mix Try.func3 rfl Try.call3 (by kernel_rfl) (by kernel_rfl) ?_
  generalize Try.prog=P at c15 c25 h33 c14 c17 c19 c20 c21 c16 c18 c22 c23 c26 c24 c28 c27⊢
  cbv
  repeat' (first
      |with_reducible refine hold ?_ ?_
      |with_reducible refine And.intro ?_ ?_
      |(with_reducible intro hcd;(try simp only [zA,zB,zC,zD,zE,zF,zG,zH,zI,zJ,zK,zL,zM,zN,zO,zP]at hcd);try cbv)
      | (refine qQ ?_ (c14) ?hfit
         case hfit=>((refine qD (Fit.refl _) (qD (qP rfl) qB));done)
         try cbv)
      | (refine qQ ?_ (c15) ?hfit
         case hfit=>((repeat' (first|exact qB|refine qD ?_ ?_|exact qE (by rfl)|exact qG (by rfl)|exact Fit.refl _|exact qA|refine qC ?_ rfl ?_));done)
         try cbv)
      | (refine qQ ?_ (c17) ?hfit
         case hfit=>((repeat' (first|exact qB|refine qD ?_ ?_|exact qE (by rfl)|exact qG (by rfl)|exact Fit.refl _|exact qA|refine qC ?_ rfl ?_));done)
         try cbv)
      | (refine qQ ?_ (c16) ?hfit
         case hfit=>((repeat' (first|exact qB|refine qD ?_ ?_|exact qE (by rfl)|exact qG (by rfl)|exact Fit.refl _|exact qA|refine qC ?_ rfl ?_));done)
         try cbv)
      | (refine qQ ?_ (c18) ?hfit
         case hfit=>((repeat' (first|exact qB|refine qD ?_ ?_|exact qE (by rfl)|exact qG (by rfl)|exact Fit.refl _|exact qA|refine qC ?_ rfl ?_));done)
         try cbv)
      | (refine qQ ?_ (c19) ?hfit
         case hfit=>((repeat' (first|exact qB|refine qD ?_ ?_|exact qE (by rfl)|exact qG (by rfl)|exact Fit.refl _|exact qA|refine qC ?_ rfl ?_));done)
         try cbv)
      | (refine qQ ?_ (c20) ?hfit
         case hfit=>((repeat' (first|exact qB|refine qD ?_ ?_|exact qE (by rfl)|exact qG (by rfl)|exact Fit.refl _|exact qA|refine qC ?_ rfl ?_));done)
         try cbv)
      | (refine qQ ?_ (c21) ?hfit
         case hfit=>((repeat' (first|exact qB|refine qD ?_ ?_|exact qE (by rfl)|exact qG (by rfl)|exact Fit.refl _|exact qA|refine qC ?_ rfl ?_));done)
         try cbv)
      | (refine qQ ?_ (c25 _ _) (by(repeat' (first|exact qB|refine qD ?_ ?_|exact qE (by rfl)|exact qG (by rfl)|exact Fit.refl _|exact qA|refine qC ?_ rfl ?_)))
         try cbv)
      | (refine qQ ?_ (c22) ?hfit
         case hfit=>((repeat' (first|exact qB|refine qD ?_ ?_|exact qE (by rfl)|exact qG (by rfl)|exact Fit.refl _|exact qA|refine qC ?_ rfl ?_));done)
         try cbv)
      | (refine qQ ?_ (c23) ?hfit
         case hfit=>((repeat' (first|exact qB|refine qD ?_ ?_|exact qE (by rfl)|exact qG (by rfl)|exact Fit.refl _|exact qA|refine qC ?_ rfl ?_));done)
         try cbv)
      | (refine qQ ?_ (c26) ?hfit
         case hfit=>((repeat' (first|exact qB|refine qD ?_ ?_|exact qE (by rfl)|exact qG (by rfl)|exact Fit.refl _|exact qA|refine qC ?_ rfl ?_));done)
         try cbv)
      | (refine qQ ?_ (c24) ?hfit
         case hfit=>((repeat' (first|exact qB|refine qD ?_ ?_|exact qE (by rfl)|exact qG (by rfl)|exact Fit.refl _|exact qA|refine qC ?_ rfl ?_));done)
         try cbv)
      |fail)
  all_goals first
    |trivial
    |((try clear c15);(try clear c25);(try clear c14);(try clear c17);(try clear c19);(try clear c20);(try clear c21);(try clear c16);(try clear c18);(try clear c22);(try clear c23);(try clear c26);(try clear c24);(try clear c28);(try clear c27);((try simp only [qW]at *);(try simp only [zQ,zA,zB,zC,zD,zE,zF,zG,zH,zI,zJ,zK,zL,zM,zN,zO,zP,zR,zS]at *);first|(refine qO ?_;omega)|(simp only [Hold];omega)))
    |((try clear c15);(try clear c25);(try clear c14);(try clear c17);(try clear c19);(try clear c20);(try clear c21);(try clear c16);(try clear c18);(try clear c22);(try clear c23);(try clear c26);(try clear c24);(try clear c28);(try clear c27);(subst hR;(repeat' (first|exact qA|exact qB|refine qC ?_ rfl ?_|refine qD ?_ ?_|exact qE (by rfl)|exact qG (by rfl)|exact Fit.refl _|exact qH _|(refine qE ?_;(try simp only [qW]at *);simp only [zQ,zA,zB,zC,zD,zE,zF,zG,zH,zI,zJ,zK,zL,zM,zN,zO,zP,zR,zS]at *;omega)));done))
    |skip
  refine⟨none,[],{i:Nat // i≤c.vs.length},fun x=>⟨[(4,.own 0 0),(7,.own 1 0),(11,(.sl 1 (.sym fun _=>zi c.vs.length) (fun ix=>[(.sl 1 (.sym fun _=>zi (c.hr.toNat+1)) (fun jx=>[(.int .i64 (.sym fun _=>runW rm (ss.getD ix.den.toNat 0) (rs.getD ix.den.toNat 0) jx.den.toNat))]))]))),(15,(.int .i64 (.sym fun _=>zi x.1)))],[(0,.cells [(.int .i64 (.sym fun _=>c.rl)),(.int .i64 (.sym fun _=>c.rh)),(.int .i64 (.sym fun _=>c.hr)),(.sl 4 (.sym fun _=>zi c.vs.length) (fun ix=>[(.int .i64 (.sym fun _=>(c.vs.getD ix.den.toNat v0).sl)),(.int .i64 (.sym fun _=>(c.vs.getD ix.den.toNat v0).sh)),(.int .i64 (.sym fun _=>(c.vs.getD ix.den.toNat v0).rl)),(.int .i64 (.sym fun _=>(c.vs.getD ix.den.toNat v0).rh))])),(.sl 2 (.sym fun _=>zi c.ts.length) (fun ix=>[(.int .i64 (.sym fun _=>(c.ts.getD ix.den.toNat t0).top)),(.sl 3 (.sym fun _=>zi ((c.ts.getD ix.den.toNat t0).ps).length) (fun jx=>[(.int .i64 (.sym fun _=>(((c.ts.getD ix.den.toNat t0).ps).getD jx.den.toNat p0).f)),(.int .i64 (.sym fun _=>(((c.ts.getD ix.den.toNat t0).ps).getD jx.den.toNat p0).el)),(.int .i64 (.sym fun _=>(((c.ts.getD ix.den.toNat t0).ps).getD jx.den.toNat p0).eh))]))]))] 27),(1,.cells [(.int .i64 (.sym fun _=>rm)),(.sl 1 (.sym fun _=>zi (ss).length) (fun ix=>[.int .i64 (.sym fun _=>(ss).getD ix.den.toNat 0)])),(.sl 1 (.sym fun _=>zi (rs).length) (fun ix=>[.int .i64 (.sym fun _=>(rs).getD ix.den.toNat 0)]))] 30)],300⟩,fun x=>c.vs.length-x.1,?_,?_⟩
  · refine⟨⟨0,by omega⟩,?_⟩
    cbv
    repeat' (first
      |with_reducible refine hold ?_ ?_
      |with_reducible refine And.intro ?_ ?_)
    all_goals first
      |trivial
      |exact qN (qE (by rfl))
      |exact qN (Fit.refl _)
      |exact qM (qL _)
      |skip
  · rintro ⟨i,hi⟩
    cbv
    repeat' (first
        |with_reducible refine hold ?_ ?_
        |with_reducible refine And.intro ?_ ?_
        |(with_reducible intro hcd;(try simp only [zA,zB,zC,zD,zE,zF,zG,zH,zI,zJ,zK,zL,zM,zN,zO,zP]at hcd);try cbv)
        | (refine qQ ?_ (c15) ?hfit
           case hfit=>((repeat' (first|exact qB|refine qD ?_ ?_|exact qE (by rfl)|exact qG (by rfl)|exact Fit.refl _|exact qA|refine qC ?_ rfl ?_));done)
           try cbv)
        | (refine qQ ?_ (c28 i (by((try simp only [qW]at *);(try simp only [zQ,zA,zB,zC,zD,zE,zF,zG,zH,zI,zJ,zK,zL,zM,zN,zO,zP,zR,zS]at *);omega))) ?hfit
           case hfit=>((repeat' (first|exact qB|refine qD ?_ ?_|exact qE (by rfl)|exact qG (by rfl)|exact Fit.refl _|exact qA|refine qC ?_ rfl ?_));done)
           try cbv)
        | (refine qQ ?_ (c27 i) ?hfit
           case hfit=>((repeat' (first|exact qB|refine qD ?_ ?_|exact qE (by rfl)|exact qG (by rfl)|exact Fit.refl _|exact qA|refine qC ?_ rfl ?_));done)
           try cbv)
        |fail)
    all_goals first
      |((try clear c15);(try clear c25);(try clear c14);(try clear c17);(try clear c19);(try clear c20);(try clear c21);(try clear c16);(try clear c18);(try clear c22);(try clear c23);(try clear c26);(try clear c24);(try clear c28);(try clear c27);((try simp only [qW]at *);(try simp only [zQ,zA,zB,zC,zD,zE,zF,zG,zH,zI,zJ,zK,zL,zM,zN,zO,zP,zR,zS]at *);first|(refine qO ?_;omega)|(simp only [Hold];omega)))
      |((try clear c15);(try clear c25);(try clear c14);(try clear c17);(try clear c19);(try clear c20);(try clear c21);(try clear c16);(try clear c18);(try clear c22);(try clear c23);(try clear c26);(try clear c24);(try clear c28);(try clear c27);(subst hR;(repeat' (first|exact qA|exact qB|refine qC ?_ rfl ?_|refine qD ?_ ?_|exact qE (by rfl)|exact qG (by rfl)|exact Fit.refl _|exact qH _|(refine qE ?_;(try simp only [qW]at *);simp only [zQ,zA,zB,zC,zD,zE,zF,zG,zH,zI,zJ,zK,zL,zM,zN,zO,zP,zR,zS]at *;omega)));done))
      |((try clear c15);(try clear c25);(try clear c14);(try clear c17);(try clear c19);(try clear c20);(try clear c21);(try clear c16);(try clear c18);(try clear c22);(try clear c23);(try clear c26);(try clear c24);(try clear c28);(try clear c27);((try simp only [zQ,zA,zB,zC,zD,zE,zF,zG,zH,zI,zJ,zK,zL,zM,zN,zO,zP,zR,zS]at *);refine⟨⟨i+1,by omega⟩,by simp only [];omega,?_⟩;cbv;(repeat' (first|with_reducible refine hold ?_ ?_|with_reducible refine And.intro ?_ ?_));(all_goals first|trivial|exact qN (qE (by rfl))|exact qN (qG (by rfl))|exact qN (Fit.refl _)|exact qM (qL _)|(refine qN (qE ?_);(try simp only [qW]at *);simp only [zQ,zA,zB,zC,zD,zE,zF,zG,zH,zI,zJ,zK,zL,zM,zN,zO,zP,zR,zS]at *;omega)|(refine qM (qK ?_);(repeat' (first|exact qA|exact qB|refine qC ?_ rfl ?_|refine qD ?_ ?_|exact qE (by rfl)|exact qG (by rfl)|exact Fit.refl _|exact qH _|(refine qE ?_;(try simp only [qW]at *);simp only [zQ,zA,zB,zC,zD,zE,zF,zG,zH,zI,zJ,zK,zL,zM,zN,zO,zP,zR,zS]at *;omega)));done)|skip)))
      |skip
set_option maxHeartbeats 1000000 in
theorem law3_10 (c:Clr)(t s rm:Int)(ss rs:List Int)(hT:ThinC c 0)(h1:ss.length≤9)(h2:rs.length≤9)(hC:COk c)(hl:(0≤t∧t<c.ts.length)∧onB (c.ts.getD t.toNat t0) s=true)(hTr:truthB c rm ss rs=false):FSpec Try.prog 3 [(clrS c),(.int .i64 (.sym fun _=>t)),(.int .i64 (.sym fun _=>s)),(.agg [(.int .i64 (.sym fun _=>rm)),(.sl 1 (.sym fun _=>zi (ss).length) (fun ix=>[.int .i64 (.sym fun _=>(ss).getD ix.den.toNat 0)])),(.sl 1 (.sym fun _=>zi (rs).length) (fun ix=>[.int .i64 (.sym fun _=>(rs).getD ix.den.toNat 0)]))])] [] (fun r _=>r=(.bool (.lit true))):=by
  have hF:=faultC_iff.2 hC
  have hf3:=hC.few.v
  have hf4:=hC.few.t
  have h18:=hC.ok.h1
  have h88:=hC.ok.h8
  have e1:=meanE_yes hF ((look_is hC).2 hl)
  have e2:mnLo c t s=meanLo (c.ts.getD t.toNat t0) s∧mnHi c t s=meanHi (c.ts.getD t.toNat t0) s:=mn_yes e1
  have hin:=hl.1
  have e3:=playE_no (rm:=rm) (ss:=ss) (rs:=rs) hF hTr
  have c15:=awake15
  have c25:= @to25
  have h33:=eqOk33
  have c14:=spec_t (thin14 c []) (thin_iff.2 hT)
  have c17:=cellar17 c (by have:=hT.v;omega) (by have:=hT.t;omega) (fun i hi=>by have:=hT.p i hi;omega)
  have c19:=truth19 rm ss rs (by omega) (by omega)
  have c20:=spec_i (fault20 c) hF
  have c21:=spec_i (check21 c) hF
  have c16:=(show FSpec Try.prog 16 [(clrS c),(.int .i64 (.sym fun _=>t)),(.int .i64 (.sym fun _=>s))] [] (fun r _=>r=(.tup [(.agg [(.int .i64 (.sym fun _=>meanLo (c.ts.getD t.toNat t0) s)),(.int .i64 (.sym fun _=>meanHi (c.ts.getD t.toNat t0) s))]),(.int .i64 (.lit (0)))]))from(mean16 c t s).post fun r bs q=>⟨_,by subst q;exact qD (qC (qE e2.1) rfl (qC (qE e2.2) rfl qA)) (qD (qE e1) qB),rfl⟩)
  have c18:=(show FSpec Try.prog 18 [(clrS c),(.agg [(.int .i64 (.sym fun _=>rm)),(.sl 1 (.sym fun _=>zi (ss).length) (fun ix=>[.int .i64 (.sym fun _=>(ss).getD ix.den.toNat 0)])),(.sl 1 (.sym fun _=>zi (rs).length) (fun ix=>[.int .i64 (.sym fun _=>(rs).getD ix.den.toNat 0)]))])] [] (fun r _=>r=(.tup [(.sl 1 (.lit 0) (fun ix=>[(.sl 1 (.sym fun _=>zi (c.hr.toNat+1)) (fun jx=>[(.int .i64 (.sym fun _=>runW rm (ss.getD ix.den.toNat 0) (rs.getD ix.den.toNat 0) jx.den.toNat))]))])),(.int .i64 (.lit (2)))]))from(play18 c rm ss rs (by have:=hT.v;omega)).post fun r bs q=>⟨_,by subst q;exact qD (fit_sl ((congrArg zi e3.2).trans rfl) (fun _ _ _=>Fit.refl _)) (qD (qE e3.1) qB),rfl⟩)
  have c22:=spec_t (within22 t 0 (zi c.ts.length-1)) (by rw [inB_t];simp only [zi_den];omega)
  have c23:=spec_t (on23 (c.ts.getD t.toNat t0) s (hC.fewT.on (x:=⟨0,0,t,s⟩) hl.1.1 hl.1.2)) hl.2
  have c26:=mean26 (c.ts.getD t.toNat t0) s (hC.ok.t t.toNat (by have:=hl.1;omega)) (by have:=hC.few.p t.toNat (by have:=hl.1;omega);omega) hl.2
  have c24:=spec_f (istruth24 c rm ss rs (by omega)) hTr
  refine FSpec.is fun R hR=>qX (sc:=sc3) tyok mix Try.func3 rfl Try.call3 (by kernel_rfl) (by kernel_rfl) ?_
  generalize Try.prog=P at c15 c25 h33 c14 c17 c19 c20 c21 c16 c18 c22 c23 c26 c24⊢
  cbv
  repeat' (first
      |with_reducible refine hold ?_ ?_
      |with_reducible refine And.intro ?_ ?_
      |(with_reducible intro hcd;(try simp only [zA,zB,zC,zD,zE,zF,zG,zH,zI,zJ,zK,zL,zM,zN,zO,zP]at hcd);try cbv)
      | (refine qQ ?_ (c14) ?hfit
         case hfit=>((refine qD (Fit.refl _) (qD (qP rfl) qB));done)
         try cbv)
      | (refine qQ ?_ (c15) ?hfit
         case hfit=>((repeat' (first|exact qB|refine qD ?_ ?_|exact qE (by rfl)|exact qG (by rfl)|exact Fit.refl _|exact qA|refine qC ?_ rfl ?_));done)
         try cbv)
      | (refine qQ ?_ (c17) ?hfit
         case hfit=>((repeat' (first|exact qB|refine qD ?_ ?_|exact qE (by rfl)|exact qG (by rfl)|exact Fit.refl _|exact qA|refine qC ?_ rfl ?_));done)
         try cbv)
      | (refine qQ ?_ (c16) ?hfit
         case hfit=>((repeat' (first|exact qB|refine qD ?_ ?_|exact qE (by rfl)|exact qG (by rfl)|exact Fit.refl _|exact qA|refine qC ?_ rfl ?_));done)
         try cbv)
      | (refine qQ ?_ (c18) ?hfit
         case hfit=>((repeat' (first|exact qB|refine qD ?_ ?_|exact qE (by rfl)|exact qG (by rfl)|exact Fit.refl _|exact qA|refine qC ?_ rfl ?_));done)
         try cbv)
      | (refine qQ ?_ (c19) ?hfit
         case hfit=>((repeat' (first|exact qB|refine qD ?_ ?_|exact qE (by rfl)|exact qG (by rfl)|exact Fit.refl _|exact qA|refine qC ?_ rfl ?_));done)
         try cbv)
      | (refine qQ ?_ (c20) ?hfit
         case hfit=>((repeat' (first|exact qB|refine qD ?_ ?_|exact qE (by rfl)|exact qG (by rfl)|exact Fit.refl _|exact qA|refine qC ?_ rfl ?_));done)
         try cbv)
      | (refine qQ ?_ (c21) ?hfit
         case hfit=>((repeat' (first|exact qB|refine qD ?_ ?_|exact qE (by rfl)|exact qG (by rfl)|exact Fit.refl _|exact qA|refine qC ?_ rfl ?_));done)
         try cbv)
      | (refine qQ ?_ (c25 _ _) (by(repeat' (first|exact qB|refine qD ?_ ?_|exact qE (by rfl)|exact qG (by rfl)|exact Fit.refl _|exact qA|refine qC ?_ rfl ?_)))
         try cbv)
      | (refine qQ ?_ (c22) ?hfit
         case hfit=>((repeat' (first|exact qB|refine qD ?_ ?_|exact qE (by rfl)|exact qG (by rfl)|exact Fit.refl _|exact qA|refine qC ?_ rfl ?_));done)
         try cbv)
      | (refine qQ ?_ (c23) ?hfit
         case hfit=>((repeat' (first|exact qB|refine qD ?_ ?_|exact qE (by rfl)|exact qG (by rfl)|exact Fit.refl _|exact qA|refine qC ?_ rfl ?_));done)
         try cbv)
      | (refine qQ ?_ (c26) ?hfit
         case hfit=>((repeat' (first|exact qB|refine qD ?_ ?_|exact qE (by rfl)|exact qG (by rfl)|exact Fit.refl _|exact qA|refine qC ?_ rfl ?_));done)
         try cbv)
      | (refine qQ ?_ (c24) ?hfit
         case hfit=>((repeat' (first|exact qB|refine qD ?_ ?_|exact qE (by rfl)|exact qG (by rfl)|exact Fit.refl _|exact qA|refine qC ?_ rfl ?_));done)
         try cbv)
      |fail)
  all_goals first
    |trivial
    |((try clear c15);(try clear c25);(try clear c14);(try clear c17);(try clear c19);(try clear c20);(try clear c21);(try clear c16);(try clear c18);(try clear c22);(try clear c23);(try clear c26);(try clear c24);((try simp only [qW]at *);(try simp only [zQ,zA,zB,zC,zD,zE,zF,zG,zH,zI,zJ,zK,zL,zM,zN,zO,zP,zR,zS]at *);first|(refine qO ?_;omega)|(simp only [Hold];omega)))
    |((try clear c15);(try clear c25);(try clear c14);(try clear c17);(try clear c19);(try clear c20);(try clear c21);(try clear c16);(try clear c18);(try clear c22);(try clear c23);(try clear c26);(try clear c24);(subst hR;(repeat' (first|exact qA|exact qB|refine qC ?_ rfl ?_|refine qD ?_ ?_|exact qE (by rfl)|exact qG (by rfl)|exact Fit.refl _|exact qH _|(refine qE ?_;(try simp only [qW]at *);simp only [zQ,zA,zB,zC,zD,zE,zF,zG,zH,zI,zJ,zK,zL,zM,zN,zO,zP,zR,zS]at *;omega)));done))
    |skip
set_option maxHeartbeats 1000000 in
theorem law3_01 (c:Clr)(t s rm:Int)(ss rs:List Int)(hT:ThinC c 0)(h1:ss.length≤9)(h2:rs.length≤9)(hC:COk c)(hl:¬(0≤t∧t<c.ts.length))(hTr:truthB c rm ss rs=true):FSpec Try.prog 3 [(clrS c),(.int .i64 (.sym fun _=>t)),(.int .i64 (.sym fun _=>s)),(.agg [(.int .i64 (.sym fun _=>rm)),(.sl 1 (.sym fun _=>zi (ss).length) (fun ix=>[.int .i64 (.sym fun _=>(ss).getD ix.den.toNat 0)])),(.sl 1 (.sym fun _=>zi (rs).length) (fun ix=>[.int .i64 (.sym fun _=>(rs).getD ix.den.toNat 0)]))])] [] (fun r _=>r=(.bool (.lit true))):=by
  have hF:=faultC_iff.2 hC
  have hf3:=hC.few.v
  have hf4:=hC.few.t
  have h18:=hC.ok.h1
  have h88:=hC.ok.h8
  have e1:=meanE_no (t:=t) (s:=s) hF (by rw [←Bool.not_eq_true];exact fun q=>(by have h:=(look_is hC).1 q;exact hl h.1))
  have e2:=mn_no (c:=c) (t:=t) (s:=s) (by rw [e1];decide)
  have e3:=playE_yes hF hTr
  have hK:=truthB_iff.1 hTr
  have hs9:=hK.s
  have hr9:=hK.r
  have c15:=awake15
  have c25:= @to25
  have h33:=eqOk33
  have c14:=spec_t (thin14 c []) (thin_iff.2 hT)
  have c17:=cellar17 c (by have:=hT.v;omega) (by have:=hT.t;omega) (fun i hi=>by have:=hT.p i hi;omega)
  have c19:=truth19 rm ss rs (by omega) (by omega)
  have c20:=spec_i (fault20 c) hF
  have c21:=spec_i (check21 c) hF
  have c16:=(show FSpec Try.prog 16 [(clrS c),(.int .i64 (.sym fun _=>t)),(.int .i64 (.sym fun _=>s))] [] (fun r _=>r=(.tup [(.agg [(.int .i64 (.lit (0))),(.int .i64 (.lit (0)))]),(.int .i64 (.lit (2)))]))from(mean16 c t s).post fun r bs q=>⟨_,by subst q;exact qD (qC (qE e2.1) rfl (qC (qE e2.2) rfl qA)) (qD (qE e1) qB),rfl⟩)
  have c18:=(show FSpec Try.prog 18 [(clrS c),(.agg [(.int .i64 (.sym fun _=>rm)),(.sl 1 (.sym fun _=>zi (ss).length) (fun ix=>[.int .i64 (.sym fun _=>(ss).getD ix.den.toNat 0)])),(.sl 1 (.sym fun _=>zi (rs).length) (fun ix=>[.int .i64 (.sym fun _=>(rs).getD ix.den.toNat 0)]))])] [] (fun r _=>r=(.tup [(.sl 1 (.sym fun _=>zi c.vs.length) (fun ix=>[(.sl 1 (.sym fun _=>zi (c.hr.toNat+1)) (fun jx=>[(.int .i64 (.sym fun _=>runW rm (ss.getD ix.den.toNat 0) (rs.getD ix.den.toNat 0) jx.den.toNat))]))])),(.int .i64 (.lit (0)))]))from(play18 c rm ss rs (by have:=hT.v;omega)).post fun r bs q=>⟨_,by subst q;exact qD (fit_sl (congrArg zi e3.2) (fun _ _ _=>Fit.refl _)) (qD (qE e3.1) qB),rfl⟩)
  have c22:=spec_f (within22 t 0 (zi c.ts.length-1)) (by rw [inB_f];simp only [zi_den];omega)
  have c24:=spec_t (istruth24 c rm ss rs (by omega)) hTr
  have c28:=fun (i:Nat) (hi:i<c.vs.length)=>ref28 c rm (ss.getD i 0) (rs.getD i 0) (hK.way hC i hi) hC.ok.h1 hC.ok.h8
  have c27:=fun (i:Nat)=>same27 (c.hr.toNat+1) (fun n=>runW rm (ss.getD i 0) (rs.getD i 0) n) (by omega)
  refine FSpec.is fun R hR=>qX (sc:=sc3) tyok mix Try.func3 rfl Try.call3 (by kernel_rfl) (by kernel_rfl) ?_
  generalize Try.prog=P at c15 c25 h33 c14 c17 c19 c20 c21 c16 c18 c22 c24 c28 c27⊢
  cbv
  repeat' (first
      |with_reducible refine hold ?_ ?_
      |with_reducible refine And.intro ?_ ?_
      |(with_reducible intro hcd;(try simp only [zA,zB,zC,zD,zE,zF,zG,zH,zI,zJ,zK,zL,zM,zN,zO,zP]at hcd);try cbv)
      | (refine qQ ?_ (c14) ?hfit
         case hfit=>((refine qD (Fit.refl _) (qD (qP rfl) qB));done)
         try cbv)
      | (refine qQ ?_ (c15) ?hfit
         case hfit=>((repeat' (first|exact qB|refine qD ?_ ?_|exact qE (by rfl)|exact qG (by rfl)|exact Fit.refl _|exact qA|refine qC ?_ rfl ?_));done)
         try cbv)
      | (refine qQ ?_ (c17) ?hfit
         case hfit=>((repeat' (first|exact qB|refine qD ?_ ?_|exact qE (by rfl)|exact qG (by rfl)|exact Fit.refl _|exact qA|refine qC ?_ rfl ?_));done)
         try cbv)
      | (refine qQ ?_ (c16) ?hfit
         case hfit=>((repeat' (first|exact qB|refine qD ?_ ?_|exact qE (by rfl)|exact qG (by rfl)|exact Fit.refl _|exact qA|refine qC ?_ rfl ?_));done)
         try cbv)
      | (refine qQ ?_ (c18) ?hfit
         case hfit=>((repeat' (first|exact qB|refine qD ?_ ?_|exact qE (by rfl)|exact qG (by rfl)|exact Fit.refl _|exact qA|refine qC ?_ rfl ?_));done)
         try cbv)
      | (refine qQ ?_ (c19) ?hfit
         case hfit=>((repeat' (first|exact qB|refine qD ?_ ?_|exact qE (by rfl)|exact qG (by rfl)|exact Fit.refl _|exact qA|refine qC ?_ rfl ?_));done)
         try cbv)
      | (refine qQ ?_ (c20) ?hfit
         case hfit=>((repeat' (first|exact qB|refine qD ?_ ?_|exact qE (by rfl)|exact qG (by rfl)|exact Fit.refl _|exact qA|refine qC ?_ rfl ?_));done)
         try cbv)
      | (refine qQ ?_ (c21) ?hfit
         case hfit=>((repeat' (first|exact qB|refine qD ?_ ?_|exact qE (by rfl)|exact qG (by rfl)|exact Fit.refl _|exact qA|refine qC ?_ rfl ?_));done)
         try cbv)
      | (refine qQ ?_ (c22) ?hfit
         case hfit=>((repeat' (first|exact qB|refine qD ?_ ?_|exact qE (by rfl)|exact qG (by rfl)|exact Fit.refl _|exact qA|refine qC ?_ rfl ?_));done)
         try cbv)
      | (refine qQ ?_ (c24) ?hfit
         case hfit=>((repeat' (first|exact qB|refine qD ?_ ?_|exact qE (by rfl)|exact qG (by rfl)|exact Fit.refl _|exact qA|refine qC ?_ rfl ?_));done)
         try cbv)
      |fail)
  all_goals first
    |trivial
    |((try clear c15);(try clear c25);(try clear c14);(try clear c17);(try clear c19);(try clear c20);(try clear c21);(try clear c16);(try clear c18);(try clear c22);(try clear c24);(try clear c28);(try clear c27);((try simp only [qW]at *);(try simp only [zQ,zA,zB,zC,zD,zE,zF,zG,zH,zI,zJ,zK,zL,zM,zN,zO,zP,zR,zS]at *);first|(refine qO ?_;omega)|(simp only [Hold];omega)))
    |((try clear c15);(try clear c25);(try clear c14);(try clear c17);(try clear c19);(try clear c20);(try clear c21);(try clear c16);(try clear c18);(try clear c22);(try clear c24);(try clear c28);(try clear c27);(subst hR;(repeat' (first|exact qA|exact qB|refine qC ?_ rfl ?_|refine qD ?_ ?_|exact qE (by rfl)|exact qG (by rfl)|exact Fit.refl _|exact qH _|(refine qE ?_;(try simp only [qW]at *);simp only [zQ,zA,zB,zC,zD,zE,zF,zG,zH,zI,zJ,zK,zL,zM,zN,zO,zP,zR,zS]at *;omega)));done))
    |skip
  refine⟨none,[],{i:Nat // i≤c.vs.length},fun x=>⟨[(4,.own 0 0),(7,.own 1 0),(11,(.sl 1 (.sym fun _=>zi c.vs.length) (fun ix=>[(.sl 1 (.sym fun _=>zi (c.hr.toNat+1)) (fun jx=>[(.int .i64 (.sym fun _=>runW rm (ss.getD ix.den.toNat 0) (rs.getD ix.den.toNat 0) jx.den.toNat))]))]))),(15,(.int .i64 (.sym fun _=>zi x.1)))],[(0,.cells [(.int .i64 (.sym fun _=>c.rl)),(.int .i64 (.sym fun _=>c.rh)),(.int .i64 (.sym fun _=>c.hr)),(.sl 4 (.sym fun _=>zi c.vs.length) (fun ix=>[(.int .i64 (.sym fun _=>(c.vs.getD ix.den.toNat v0).sl)),(.int .i64 (.sym fun _=>(c.vs.getD ix.den.toNat v0).sh)),(.int .i64 (.sym fun _=>(c.vs.getD ix.den.toNat v0).rl)),(.int .i64 (.sym fun _=>(c.vs.getD ix.den.toNat v0).rh))])),(.sl 2 (.sym fun _=>zi c.ts.length) (fun ix=>[(.int .i64 (.sym fun _=>(c.ts.getD ix.den.toNat t0).top)),(.sl 3 (.sym fun _=>zi ((c.ts.getD ix.den.toNat t0).ps).length) (fun jx=>[(.int .i64 (.sym fun _=>(((c.ts.getD ix.den.toNat t0).ps).getD jx.den.toNat p0).f)),(.int .i64 (.sym fun _=>(((c.ts.getD ix.den.toNat t0).ps).getD jx.den.toNat p0).el)),(.int .i64 (.sym fun _=>(((c.ts.getD ix.den.toNat t0).ps).getD jx.den.toNat p0).eh))]))]))] 27),(1,.cells [(.int .i64 (.sym fun _=>rm)),(.sl 1 (.sym fun _=>zi (ss).length) (fun ix=>[.int .i64 (.sym fun _=>(ss).getD ix.den.toNat 0)])),(.sl 1 (.sym fun _=>zi (rs).length) (fun ix=>[.int .i64 (.sym fun _=>(rs).getD ix.den.toNat 0)]))] 30)],300⟩,fun x=>c.vs.length-x.1,?_,?_⟩
  · refine⟨⟨0,by omega⟩,?_⟩
    cbv
    repeat' (first
      |with_reducible refine hold ?_ ?_
      |with_reducible refine And.intro ?_ ?_)
    all_goals first
      |trivial
      |exact qN (qE (by rfl))
      |exact qN (Fit.refl _)
      |exact qM (qL _)
      |skip
  · rintro ⟨i,hi⟩
    cbv
    repeat' (first
        |with_reducible refine hold ?_ ?_
        |with_reducible refine And.intro ?_ ?_
        |(with_reducible intro hcd;(try simp only [zA,zB,zC,zD,zE,zF,zG,zH,zI,zJ,zK,zL,zM,zN,zO,zP]at hcd);try cbv)
        | (refine qQ ?_ (c15) ?hfit
           case hfit=>((repeat' (first|exact qB|refine qD ?_ ?_|exact qE (by rfl)|exact qG (by rfl)|exact Fit.refl _|exact qA|refine qC ?_ rfl ?_));done)
           try cbv)
        | (refine qQ ?_ (c28 i (by((try simp only [qW]at *);(try simp only [zQ,zA,zB,zC,zD,zE,zF,zG,zH,zI,zJ,zK,zL,zM,zN,zO,zP,zR,zS]at *);omega))) ?hfit
           case hfit=>((repeat' (first|exact qB|refine qD ?_ ?_|exact qE (by rfl)|exact qG (by rfl)|exact Fit.refl _|exact qA|refine qC ?_ rfl ?_));done)
           try cbv)
        | (refine qQ ?_ (c27 i) ?hfit
           case hfit=>((repeat' (first|exact qB|refine qD ?_ ?_|exact qE (by rfl)|exact qG (by rfl)|exact Fit.refl _|exact qA|refine qC ?_ rfl ?_));done)
           try cbv)
        |fail)
    all_goals first
      |((try clear c15);(try clear c25);(try clear c14);(try clear c17);(try clear c19);(try clear c20);(try clear c21);(try clear c16);(try clear c18);(try clear c22);(try clear c24);(try clear c28);(try clear c27);((try simp only [qW]at *);(try simp only [zQ,zA,zB,zC,zD,zE,zF,zG,zH,zI,zJ,zK,zL,zM,zN,zO,zP,zR,zS]at *);first|(refine qO ?_;omega)|(simp only [Hold];omega)))
      |((try clear c15);(try clear c25);(try clear c14);(try clear c17);(try clear c19);(try clear c20);(try clear c21);(try clear c16);(try clear c18);(try clear c22);(try clear c24);(try clear c28);(try clear c27);(subst hR;(repeat' (first|exact qA|exact qB|refine qC ?_ rfl ?_|refine qD ?_ ?_|exact qE (by rfl)|exact qG (by rfl)|exact Fit.refl _|exact qH _|(refine qE ?_;(try simp only [qW]at *);simp only [zQ,zA,zB,zC,zD,zE,zF,zG,zH,zI,zJ,zK,zL,zM,zN,zO,zP,zR,zS]at *;omega)));done))
      |((try clear c15);(try clear c25);(try clear c14);(try clear c17);(try clear c19);(try clear c20);(try clear c21);(try clear c16);(try clear c18);(try clear c22);(try clear c24);(try clear c28);(try clear c27);((try simp only [zQ,zA,zB,zC,zD,zE,zF,zG,zH,zI,zJ,zK,zL,zM,zN,zO,zP,zR,zS]at *);refine⟨⟨i+1,by omega⟩,by simp only [];omega,?_⟩;cbv;(repeat' (first|with_reducible refine hold ?_ ?_|with_reducible refine And.intro ?_ ?_));(all_goals first|trivial|exact qN (qE (by rfl))|exact qN (qG (by rfl))|exact qN (Fit.refl _)|exact qM (qL _)|(refine qN (qE ?_);(try simp only [qW]at *);simp only [zQ,zA,zB,zC,zD,zE,zF,zG,zH,zI,zJ,zK,zL,zM,zN,zO,zP,zR,zS]at *;omega)|(refine qM (qK ?_);(repeat' (first|exact qA|exact qB|refine qC ?_ rfl ?_|refine qD ?_ ?_|exact qE (by rfl)|exact qG (by rfl)|exact Fit.refl _|exact qH _|(refine qE ?_;(try simp only [qW]at *);simp only [zQ,zA,zB,zC,zD,zE,zF,zG,zH,zI,zJ,zK,zL,zM,zN,zO,zP,zR,zS]at *;omega)));done)|skip)))
      |skip
set_option maxHeartbeats 1000000 in
theorem law3_00 (c:Clr)(t s rm:Int)(ss rs:List Int)(hT:ThinC c 0)(h1:ss.length≤9)(h2:rs.length≤9)(hC:COk c)(hl:¬(0≤t∧t<c.ts.length))(hTr:truthB c rm ss rs=false):FSpec Try.prog 3 [(clrS c),(.int .i64 (.sym fun _=>t)),(.int .i64 (.sym fun _=>s)),(.agg [(.int .i64 (.sym fun _=>rm)),(.sl 1 (.sym fun _=>zi (ss).length) (fun ix=>[.int .i64 (.sym fun _=>(ss).getD ix.den.toNat 0)])),(.sl 1 (.sym fun _=>zi (rs).length) (fun ix=>[.int .i64 (.sym fun _=>(rs).getD ix.den.toNat 0)]))])] [] (fun r _=>r=(.bool (.lit true))):=by
  have hF:=faultC_iff.2 hC
  have hf3:=hC.few.v
  have hf4:=hC.few.t
  have h18:=hC.ok.h1
  have h88:=hC.ok.h8
  have e1:=meanE_no (t:=t) (s:=s) hF (by rw [←Bool.not_eq_true];exact fun q=>(by have h:=(look_is hC).1 q;exact hl h.1))
  have e2:=mn_no (c:=c) (t:=t) (s:=s) (by rw [e1];decide)
  have e3:=playE_no (rm:=rm) (ss:=ss) (rs:=rs) hF hTr
  have c15:=awake15
  have c25:= @to25
  have h33:=eqOk33
  have c14:=spec_t (thin14 c []) (thin_iff.2 hT)
  have c17:=cellar17 c (by have:=hT.v;omega) (by have:=hT.t;omega) (fun i hi=>by have:=hT.p i hi;omega)
  have c19:=truth19 rm ss rs (by omega) (by omega)
  have c20:=spec_i (fault20 c) hF
  have c21:=spec_i (check21 c) hF
  have c16:=(show FSpec Try.prog 16 [(clrS c),(.int .i64 (.sym fun _=>t)),(.int .i64 (.sym fun _=>s))] [] (fun r _=>r=(.tup [(.agg [(.int .i64 (.lit (0))),(.int .i64 (.lit (0)))]),(.int .i64 (.lit (2)))]))from(mean16 c t s).post fun r bs q=>⟨_,by subst q;exact qD (qC (qE e2.1) rfl (qC (qE e2.2) rfl qA)) (qD (qE e1) qB),rfl⟩)
  have c18:=(show FSpec Try.prog 18 [(clrS c),(.agg [(.int .i64 (.sym fun _=>rm)),(.sl 1 (.sym fun _=>zi (ss).length) (fun ix=>[.int .i64 (.sym fun _=>(ss).getD ix.den.toNat 0)])),(.sl 1 (.sym fun _=>zi (rs).length) (fun ix=>[.int .i64 (.sym fun _=>(rs).getD ix.den.toNat 0)]))])] [] (fun r _=>r=(.tup [(.sl 1 (.lit 0) (fun ix=>[(.sl 1 (.sym fun _=>zi (c.hr.toNat+1)) (fun jx=>[(.int .i64 (.sym fun _=>runW rm (ss.getD ix.den.toNat 0) (rs.getD ix.den.toNat 0) jx.den.toNat))]))])),(.int .i64 (.lit (2)))]))from(play18 c rm ss rs (by have:=hT.v;omega)).post fun r bs q=>⟨_,by subst q;exact qD (fit_sl ((congrArg zi e3.2).trans rfl) (fun _ _ _=>Fit.refl _)) (qD (qE e3.1) qB),rfl⟩)
  have c22:=spec_f (within22 t 0 (zi c.ts.length-1)) (by rw [inB_f];simp only [zi_den];omega)
  have c24:=spec_f (istruth24 c rm ss rs (by omega)) hTr
  refine FSpec.is fun R hR=>qX (sc:=sc3) tyok mix Try.func3 rfl Try.call3 (by kernel_rfl) (by kernel_rfl) ?_
  generalize Try.prog=P at c15 c25 h33 c14 c17 c19 c20 c21 c16 c18 c22 c24⊢
  cbv
  repeat' (first
      |with_reducible refine hold ?_ ?_
      |with_reducible refine And.intro ?_ ?_
      |(with_reducible intro hcd;(try simp only [zA,zB,zC,zD,zE,zF,zG,zH,zI,zJ,zK,zL,zM,zN,zO,zP]at hcd);try cbv)
      | (refine qQ ?_ (c14) ?hfit
         case hfit=>((refine qD (Fit.refl _) (qD (qP rfl) qB));done)
         try cbv)
      | (refine qQ ?_ (c15) ?hfit
         case hfit=>((repeat' (first|exact qB|refine qD ?_ ?_|exact qE (by rfl)|exact qG (by rfl)|exact Fit.refl _|exact qA|refine qC ?_ rfl ?_));done)
         try cbv)
      | (refine qQ ?_ (c17) ?hfit
         case hfit=>((repeat' (first|exact qB|refine qD ?_ ?_|exact qE (by rfl)|exact qG (by rfl)|exact Fit.refl _|exact qA|refine qC ?_ rfl ?_));done)
         try cbv)
      | (refine qQ ?_ (c16) ?hfit
         case hfit=>((repeat' (first|exact qB|refine qD ?_ ?_|exact qE (by rfl)|exact qG (by rfl)|exact Fit.refl _|exact qA|refine qC ?_ rfl ?_));done)
         try cbv)
      | (refine qQ ?_ (c18) ?hfit
         case hfit=>((repeat' (first|exact qB|refine qD ?_ ?_|exact qE (by rfl)|exact qG (by rfl)|exact Fit.refl _|exact qA|refine qC ?_ rfl ?_));done)
         try cbv)
      | (refine qQ ?_ (c19) ?hfit
         case hfit=>((repeat' (first|exact qB|refine qD ?_ ?_|exact qE (by rfl)|exact qG (by rfl)|exact Fit.refl _|exact qA|refine qC ?_ rfl ?_));done)
         try cbv)
      | (refine qQ ?_ (c20) ?hfit
         case hfit=>((repeat' (first|exact qB|refine qD ?_ ?_|exact qE (by rfl)|exact qG (by rfl)|exact Fit.refl _|exact qA|refine qC ?_ rfl ?_));done)
         try cbv)
      | (refine qQ ?_ (c21) ?hfit
         case hfit=>((repeat' (first|exact qB|refine qD ?_ ?_|exact qE (by rfl)|exact qG (by rfl)|exact Fit.refl _|exact qA|refine qC ?_ rfl ?_));done)
         try cbv)
      | (refine qQ ?_ (c22) ?hfit
         case hfit=>((repeat' (first|exact qB|refine qD ?_ ?_|exact qE (by rfl)|exact qG (by rfl)|exact Fit.refl _|exact qA|refine qC ?_ rfl ?_));done)
         try cbv)
      | (refine qQ ?_ (c24) ?hfit
         case hfit=>((repeat' (first|exact qB|refine qD ?_ ?_|exact qE (by rfl)|exact qG (by rfl)|exact Fit.refl _|exact qA|refine qC ?_ rfl ?_));done)
         try cbv)
      |fail)
  all_goals first
    |trivial
    |((try clear c15);(try clear c25);(try clear c14);(try clear c17);(try clear c19);(try clear c20);(try clear c21);(try clear c16);(try clear c18);(try clear c22);(try clear c24);((try simp only [qW]at *);(try simp only [zQ,zA,zB,zC,zD,zE,zF,zG,zH,zI,zJ,zK,zL,zM,zN,zO,zP,zR,zS]at *);first|(refine qO ?_;omega)|(simp only [Hold];omega)))
    |((try clear c15);(try clear c25);(try clear c14);(try clear c17);(try clear c19);(try clear c20);(try clear c21);(try clear c16);(try clear c18);(try clear c22);(try clear c24);(subst hR;(repeat' (first|exact qA|exact qB|refine qC ?_ rfl ?_|refine qD ?_ ?_|exact qE (by rfl)|exact qG (by rfl)|exact Fit.refl _|exact qH _|(refine qE ?_;(try simp only [qW]at *);simp only [zQ,zA,zB,zC,zD,zE,zF,zG,zH,zI,zJ,zK,zL,zM,zN,zO,zP,zR,zS]at *;omega)));done))
    |skip
set_option maxHeartbeats 1000000 in
theorem law3_21 (c:Clr)(t s rm:Int)(ss rs:List Int)(hT:ThinC c 0)(h1:ss.length≤9)(h2:rs.length≤9)(hC:COk c)(hl:(0≤t∧t<c.ts.length)∧onB (c.ts.getD t.toNat t0) s=false)(hTr:truthB c rm ss rs=true):FSpec Try.prog 3 [(clrS c),(.int .i64 (.sym fun _=>t)),(.int .i64 (.sym fun _=>s)),(.agg [(.int .i64 (.sym fun _=>rm)),(.sl 1 (.sym fun _=>zi (ss).length) (fun ix=>[.int .i64 (.sym fun _=>(ss).getD ix.den.toNat 0)])),(.sl 1 (.sym fun _=>zi (rs).length) (fun ix=>[.int .i64 (.sym fun _=>(rs).getD ix.den.toNat 0)]))])] [] (fun r _=>r=(.bool (.lit true))):=by
  have hF:=faultC_iff.2 hC
  have hf3:=hC.few.v
  have hf4:=hC.few.t
  have h18:=hC.ok.h1
  have h88:=hC.ok.h8
  have e1:=meanE_no (t:=t) (s:=s) hF (by rw [←Bool.not_eq_true];exact fun q=>(by have h:=(look_is hC).1 q;rw [hl.2]at h;exact Bool.noConfusion h.2))
  have e2:=mn_no (c:=c) (t:=t) (s:=s) (by rw [e1];decide)
  have hin:=hl.1
  have e3:=playE_yes hF hTr
  have hK:=truthB_iff.1 hTr
  have hs9:=hK.s
  have hr9:=hK.r
  have c15:=awake15
  have c25:= @to25
  have h33:=eqOk33
  have c14:=spec_t (thin14 c []) (thin_iff.2 hT)
  have c17:=cellar17 c (by have:=hT.v;omega) (by have:=hT.t;omega) (fun i hi=>by have:=hT.p i hi;omega)
  have c19:=truth19 rm ss rs (by omega) (by omega)
  have c20:=spec_i (fault20 c) hF
  have c21:=spec_i (check21 c) hF
  have c16:=(show FSpec Try.prog 16 [(clrS c),(.int .i64 (.sym fun _=>t)),(.int .i64 (.sym fun _=>s))] [] (fun r _=>r=(.tup [(.agg [(.int .i64 (.lit (0))),(.int .i64 (.lit (0)))]),(.int .i64 (.lit (2)))]))from(mean16 c t s).post fun r bs q=>⟨_,by subst q;exact qD (qC (qE e2.1) rfl (qC (qE e2.2) rfl qA)) (qD (qE e1) qB),rfl⟩)
  have c18:=(show FSpec Try.prog 18 [(clrS c),(.agg [(.int .i64 (.sym fun _=>rm)),(.sl 1 (.sym fun _=>zi (ss).length) (fun ix=>[.int .i64 (.sym fun _=>(ss).getD ix.den.toNat 0)])),(.sl 1 (.sym fun _=>zi (rs).length) (fun ix=>[.int .i64 (.sym fun _=>(rs).getD ix.den.toNat 0)]))])] [] (fun r _=>r=(.tup [(.sl 1 (.sym fun _=>zi c.vs.length) (fun ix=>[(.sl 1 (.sym fun _=>zi (c.hr.toNat+1)) (fun jx=>[(.int .i64 (.sym fun _=>runW rm (ss.getD ix.den.toNat 0) (rs.getD ix.den.toNat 0) jx.den.toNat))]))])),(.int .i64 (.lit (0)))]))from(play18 c rm ss rs (by have:=hT.v;omega)).post fun r bs q=>⟨_,by subst q;exact qD (fit_sl (congrArg zi e3.2) (fun _ _ _=>Fit.refl _)) (qD (qE e3.1) qB),rfl⟩)
  have c22:=spec_t (within22 t 0 (zi c.ts.length-1)) (by rw [inB_t];simp only [zi_den];omega)
  have c23:=spec_f (on23 (c.ts.getD t.toNat t0) s (hC.fewT.on (x:=⟨0,0,t,s⟩) hl.1.1 hl.1.2)) hl.2
  have c24:=spec_t (istruth24 c rm ss rs (by omega)) hTr
  have c28:=fun (i:Nat) (hi:i<c.vs.length)=>ref28 c rm (ss.getD i 0) (rs.getD i 0) (hK.way hC i hi) hC.ok.h1 hC.ok.h8
  have c27:=fun (i:Nat)=>same27 (c.hr.toNat+1) (fun n=>runW rm (ss.getD i 0) (rs.getD i 0) n) (by omega)
  refine FSpec.is fun R hR=>qX (sc:=sc3) tyok mix Try.func3 rfl Try.call3 (by kernel_rfl) (by kernel_rfl) ?_
  generalize Try.prog=P at c15 c25 h33 c14 c17 c19 c20 c21 c16 c18 c22 c23 c24 c28 c27⊢
  cbv
  repeat' (first
      |with_reducible refine hold ?_ ?_
      |with_reducible refine And.intro ?_ ?_
      |(with_reducible intro hcd;(try simp only [zA,zB,zC,zD,zE,zF,zG,zH,zI,zJ,zK,zL,zM,zN,zO,zP]at hcd);try cbv)
      | (refine qQ ?_ (c14) ?hfit
         case hfit=>((refine qD (Fit.refl _) (qD (qP rfl) qB));done)
         try cbv)
      | (refine qQ ?_ (c15) ?hfit
         case hfit=>((repeat' (first|exact qB|refine qD ?_ ?_|exact qE (by rfl)|exact qG (by rfl)|exact Fit.refl _|exact qA|refine qC ?_ rfl ?_));done)
         try cbv)
      | (refine qQ ?_ (c17) ?hfit
         case hfit=>((repeat' (first|exact qB|refine qD ?_ ?_|exact qE (by rfl)|exact qG (by rfl)|exact Fit.refl _|exact qA|refine qC ?_ rfl ?_));done)
         try cbv)
      | (refine qQ ?_ (c16) ?hfit
         case hfit=>((repeat' (first|exact qB|refine qD ?_ ?_|exact qE (by rfl)|exact qG (by rfl)|exact Fit.refl _|exact qA|refine qC ?_ rfl ?_));done)
         try cbv)
      | (refine qQ ?_ (c18) ?hfit
         case hfit=>((repeat' (first|exact qB|refine qD ?_ ?_|exact qE (by rfl)|exact qG (by rfl)|exact Fit.refl _|exact qA|refine qC ?_ rfl ?_));done)
         try cbv)
      | (refine qQ ?_ (c19) ?hfit
         case hfit=>((repeat' (first|exact qB|refine qD ?_ ?_|exact qE (by rfl)|exact qG (by rfl)|exact Fit.refl _|exact qA|refine qC ?_ rfl ?_));done)
         try cbv)
      | (refine qQ ?_ (c20) ?hfit
         case hfit=>((repeat' (first|exact qB|refine qD ?_ ?_|exact qE (by rfl)|exact qG (by rfl)|exact Fit.refl _|exact qA|refine qC ?_ rfl ?_));done)
         try cbv)
      | (refine qQ ?_ (c21) ?hfit
         case hfit=>((repeat' (first|exact qB|refine qD ?_ ?_|exact qE (by rfl)|exact qG (by rfl)|exact Fit.refl _|exact qA|refine qC ?_ rfl ?_));done)
         try cbv)
      | (refine qQ ?_ (c22) ?hfit
         case hfit=>((repeat' (first|exact qB|refine qD ?_ ?_|exact qE (by rfl)|exact qG (by rfl)|exact Fit.refl _|exact qA|refine qC ?_ rfl ?_));done)
         try cbv)
      | (refine qQ ?_ (c23) ?hfit
         case hfit=>((repeat' (first|exact qB|refine qD ?_ ?_|exact qE (by rfl)|exact qG (by rfl)|exact Fit.refl _|exact qA|refine qC ?_ rfl ?_));done)
         try cbv)
      | (refine qQ ?_ (c24) ?hfit
         case hfit=>((repeat' (first|exact qB|refine qD ?_ ?_|exact qE (by rfl)|exact qG (by rfl)|exact Fit.refl _|exact qA|refine qC ?_ rfl ?_));done)
         try cbv)
      |fail)
  all_goals first
    |trivial
    |((try clear c15);(try clear c25);(try clear c14);(try clear c17);(try clear c19);(try clear c20);(try clear c21);(try clear c16);(try clear c18);(try clear c22);(try clear c23);(try clear c24);(try clear c28);(try clear c27);((try simp only [qW]at *);(try simp only [zQ,zA,zB,zC,zD,zE,zF,zG,zH,zI,zJ,zK,zL,zM,zN,zO,zP,zR,zS]at *);first|(refine qO ?_;omega)|(simp only [Hold];omega)))
    |((try clear c15);(try clear c25);(try clear c14);(try clear c17);(try clear c19);(try clear c20);(try clear c21);(try clear c16);(try clear c18);(try clear c22);(try clear c23);(try clear c24);(try clear c28);(try clear c27);(subst hR;(repeat' (first|exact qA|exact qB|refine qC ?_ rfl ?_|refine qD ?_ ?_|exact qE (by rfl)|exact qG (by rfl)|exact Fit.refl _|exact qH _|(refine qE ?_;(try simp only [qW]at *);simp only [zQ,zA,zB,zC,zD,zE,zF,zG,zH,zI,zJ,zK,zL,zM,zN,zO,zP,zR,zS]at *;omega)));done))
    |skip
  refine⟨none,[],{i:Nat // i≤c.vs.length},fun x=>⟨[(4,.own 0 0),(7,.own 1 0),(11,(.sl 1 (.sym fun _=>zi c.vs.length) (fun ix=>[(.sl 1 (.sym fun _=>zi (c.hr.toNat+1)) (fun jx=>[(.int .i64 (.sym fun _=>runW rm (ss.getD ix.den.toNat 0) (rs.getD ix.den.toNat 0) jx.den.toNat))]))]))),(15,(.int .i64 (.sym fun _=>zi x.1)))],[(0,.cells [(.int .i64 (.sym fun _=>c.rl)),(.int .i64 (.sym fun _=>c.rh)),(.int .i64 (.sym fun _=>c.hr)),(.sl 4 (.sym fun _=>zi c.vs.length) (fun ix=>[(.int .i64 (.sym fun _=>(c.vs.getD ix.den.toNat v0).sl)),(.int .i64 (.sym fun _=>(c.vs.getD ix.den.toNat v0).sh)),(.int .i64 (.sym fun _=>(c.vs.getD ix.den.toNat v0).rl)),(.int .i64 (.sym fun _=>(c.vs.getD ix.den.toNat v0).rh))])),(.sl 2 (.sym fun _=>zi c.ts.length) (fun ix=>[(.int .i64 (.sym fun _=>(c.ts.getD ix.den.toNat t0).top)),(.sl 3 (.sym fun _=>zi ((c.ts.getD ix.den.toNat t0).ps).length) (fun jx=>[(.int .i64 (.sym fun _=>(((c.ts.getD ix.den.toNat t0).ps).getD jx.den.toNat p0).f)),(.int .i64 (.sym fun _=>(((c.ts.getD ix.den.toNat t0).ps).getD jx.den.toNat p0).el)),(.int .i64 (.sym fun _=>(((c.ts.getD ix.den.toNat t0).ps).getD jx.den.toNat p0).eh))]))]))] 27),(1,.cells [(.int .i64 (.sym fun _=>rm)),(.sl 1 (.sym fun _=>zi (ss).length) (fun ix=>[.int .i64 (.sym fun _=>(ss).getD ix.den.toNat 0)])),(.sl 1 (.sym fun _=>zi (rs).length) (fun ix=>[.int .i64 (.sym fun _=>(rs).getD ix.den.toNat 0)]))] 30)],300⟩,fun x=>c.vs.length-x.1,?_,?_⟩
  · refine⟨⟨0,by omega⟩,?_⟩
    cbv
    repeat' (first
      |with_reducible refine hold ?_ ?_
      |with_reducible refine And.intro ?_ ?_)
    all_goals first
      |trivial
      |exact qN (qE (by rfl))
      |exact qN (Fit.refl _)
      |exact qM (qL _)
      |skip
  · rintro ⟨i,hi⟩
    cbv
    repeat' (first
        |with_reducible refine hold ?_ ?_
        |with_reducible refine And.intro ?_ ?_
        |(with_reducible intro hcd;(try simp only [zA,zB,zC,zD,zE,zF,zG,zH,zI,zJ,zK,zL,zM,zN,zO,zP]at hcd);try cbv)
        | (refine qQ ?_ (c15) ?hfit
           case hfit=>((repeat' (first|exact qB|refine qD ?_ ?_|exact qE (by rfl)|exact qG (by rfl)|exact Fit.refl _|exact qA|refine qC ?_ rfl ?_));done)
           try cbv)
        | (refine qQ ?_ (c28 i (by((try simp only [qW]at *);(try simp only [zQ,zA,zB,zC,zD,zE,zF,zG,zH,zI,zJ,zK,zL,zM,zN,zO,zP,zR,zS]at *);omega))) ?hfit
           case hfit=>((repeat' (first|exact qB|refine qD ?_ ?_|exact qE (by rfl)|exact qG (by rfl)|exact Fit.refl _|exact qA|refine qC ?_ rfl ?_));done)
           try cbv)
        | (refine qQ ?_ (c27 i) ?hfit
           case hfit=>((repeat' (first|exact qB|refine qD ?_ ?_|exact qE (by rfl)|exact qG (by rfl)|exact Fit.refl _|exact qA|refine qC ?_ rfl ?_));done)
           try cbv)
        |fail)
    all_goals first
      |((try clear c15);(try clear c25);(try clear c14);(try clear c17);(try clear c19);(try clear c20);(try clear c21);(try clear c16);(try clear c18);(try clear c22);(try clear c23);(try clear c24);(try clear c28);(try clear c27);((try simp only [qW]at *);(try simp only [zQ,zA,zB,zC,zD,zE,zF,zG,zH,zI,zJ,zK,zL,zM,zN,zO,zP,zR,zS]at *);first|(refine qO ?_;omega)|(simp only [Hold];omega)))
      |((try clear c15);(try clear c25);(try clear c14);(try clear c17);(try clear c19);(try clear c20);(try clear c21);(try clear c16);(try clear c18);(try clear c22);(try clear c23);(try clear c24);(try clear c28);(try clear c27);(subst hR;(repeat' (first|exact qA|exact qB|refine qC ?_ rfl ?_|refine qD ?_ ?_|exact qE (by rfl)|exact qG (by rfl)|exact Fit.refl _|exact qH _|(refine qE ?_;(try simp only [qW]at *);simp only [zQ,zA,zB,zC,zD,zE,zF,zG,zH,zI,zJ,zK,zL,zM,zN,zO,zP,zR,zS]at *;omega)));done))
      |((try clear c15);(try clear c25);(try clear c14);(try clear c17);(try clear c19);(try clear c20);(try clear c21);(try clear c16);(try clear c18);(try clear c22);(try clear c23);(try clear c24);(try clear c28);(try clear c27);((try simp only [zQ,zA,zB,zC,zD,zE,zF,zG,zH,zI,zJ,zK,zL,zM,zN,zO,zP,zR,zS]at *);refine⟨⟨i+1,by omega⟩,by simp only [];omega,?_⟩;cbv;(repeat' (first|with_reducible refine hold ?_ ?_|with_reducible refine And.intro ?_ ?_));(all_goals first|trivial|exact qN (qE (by rfl))|exact qN (qG (by rfl))|exact qN (Fit.refl _)|exact qM (qL _)|(refine qN (qE ?_);(try simp only [qW]at *);simp only [zQ,zA,zB,zC,zD,zE,zF,zG,zH,zI,zJ,zK,zL,zM,zN,zO,zP,zR,zS]at *;omega)|(refine qM (qK ?_);(repeat' (first|exact qA|exact qB|refine qC ?_ rfl ?_|refine qD ?_ ?_|exact qE (by rfl)|exact qG (by rfl)|exact Fit.refl _|exact qH _|(refine qE ?_;(try simp only [qW]at *);simp only [zQ,zA,zB,zC,zD,zE,zF,zG,zH,zI,zJ,zK,zL,zM,zN,zO,zP,zR,zS]at *;omega)));done)|skip)))
      |skip
set_option maxHeartbeats 1000000 in
theorem law3_20 (c:Clr)(t s rm:Int)(ss rs:List Int)(hT:ThinC c 0)(h1:ss.length≤9)(h2:rs.length≤9)(hC:COk c)(hl:(0≤t∧t<c.ts.length)∧onB (c.ts.getD t.toNat t0) s=false)(hTr:truthB c rm ss rs=false):FSpec Try.prog 3 [(clrS c),(.int .i64 (.sym fun _=>t)),(.int .i64 (.sym fun _=>s)),(.agg [(.int .i64 (.sym fun _=>rm)),(.sl 1 (.sym fun _=>zi (ss).length) (fun ix=>[.int .i64 (.sym fun _=>(ss).getD ix.den.toNat 0)])),(.sl 1 (.sym fun _=>zi (rs).length) (fun ix=>[.int .i64 (.sym fun _=>(rs).getD ix.den.toNat 0)]))])] [] (fun r _=>r=(.bool (.lit true))):=by
  have hF:=faultC_iff.2 hC
  have hf3:=hC.few.v
  have hf4:=hC.few.t
  have h18:=hC.ok.h1
  have h88:=hC.ok.h8
  have e1:=meanE_no (t:=t) (s:=s) hF (by rw [←Bool.not_eq_true];exact fun q=>(by have h:=(look_is hC).1 q;rw [hl.2]at h;exact Bool.noConfusion h.2))
  have e2:=mn_no (c:=c) (t:=t) (s:=s) (by rw [e1];decide)
  have hin:=hl.1
  have e3:=playE_no (rm:=rm) (ss:=ss) (rs:=rs) hF hTr
  have c15:=awake15
  have c25:= @to25
  have h33:=eqOk33
  have c14:=spec_t (thin14 c []) (thin_iff.2 hT)
  have c17:=cellar17 c (by have:=hT.v;omega) (by have:=hT.t;omega) (fun i hi=>by have:=hT.p i hi;omega)
  have c19:=truth19 rm ss rs (by omega) (by omega)
  have c20:=spec_i (fault20 c) hF
  have c21:=spec_i (check21 c) hF
  have c16:=(show FSpec Try.prog 16 [(clrS c),(.int .i64 (.sym fun _=>t)),(.int .i64 (.sym fun _=>s))] [] (fun r _=>r=(.tup [(.agg [(.int .i64 (.lit (0))),(.int .i64 (.lit (0)))]),(.int .i64 (.lit (2)))]))from(mean16 c t s).post fun r bs q=>⟨_,by subst q;exact qD (qC (qE e2.1) rfl (qC (qE e2.2) rfl qA)) (qD (qE e1) qB),rfl⟩)
  have c18:=(show FSpec Try.prog 18 [(clrS c),(.agg [(.int .i64 (.sym fun _=>rm)),(.sl 1 (.sym fun _=>zi (ss).length) (fun ix=>[.int .i64 (.sym fun _=>(ss).getD ix.den.toNat 0)])),(.sl 1 (.sym fun _=>zi (rs).length) (fun ix=>[.int .i64 (.sym fun _=>(rs).getD ix.den.toNat 0)]))])] [] (fun r _=>r=(.tup [(.sl 1 (.lit 0) (fun ix=>[(.sl 1 (.sym fun _=>zi (c.hr.toNat+1)) (fun jx=>[(.int .i64 (.sym fun _=>runW rm (ss.getD ix.den.toNat 0) (rs.getD ix.den.toNat 0) jx.den.toNat))]))])),(.int .i64 (.lit (2)))]))from(play18 c rm ss rs (by have:=hT.v;omega)).post fun r bs q=>⟨_,by subst q;exact qD (fit_sl ((congrArg zi e3.2).trans rfl) (fun _ _ _=>Fit.refl _)) (qD (qE e3.1) qB),rfl⟩)
  have c22:=spec_t (within22 t 0 (zi c.ts.length-1)) (by rw [inB_t];simp only [zi_den];omega)
  have c23:=spec_f (on23 (c.ts.getD t.toNat t0) s (hC.fewT.on (x:=⟨0,0,t,s⟩) hl.1.1 hl.1.2)) hl.2
  have c24:=spec_f (istruth24 c rm ss rs (by omega)) hTr
  refine FSpec.is fun R hR=>qX (sc:=sc3) tyok mix Try.func3 rfl Try.call3 (by kernel_rfl) (by kernel_rfl) ?_
  generalize Try.prog=P at c15 c25 h33 c14 c17 c19 c20 c21 c16 c18 c22 c23 c24⊢
  cbv
  repeat' (first
      |with_reducible refine hold ?_ ?_
      |with_reducible refine And.intro ?_ ?_
      |(with_reducible intro hcd;(try simp only [zA,zB,zC,zD,zE,zF,zG,zH,zI,zJ,zK,zL,zM,zN,zO,zP]at hcd);try cbv)
      | (refine qQ ?_ (c14) ?hfit
         case hfit=>((refine qD (Fit.refl _) (qD (qP rfl) qB));done)
         try cbv)
      | (refine qQ ?_ (c15) ?hfit
         case hfit=>((repeat' (first|exact qB|refine qD ?_ ?_|exact qE (by rfl)|exact qG (by rfl)|exact Fit.refl _|exact qA|refine qC ?_ rfl ?_));done)
         try cbv)
      | (refine qQ ?_ (c17) ?hfit
         case hfit=>((repeat' (first|exact qB|refine qD ?_ ?_|exact qE (by rfl)|exact qG (by rfl)|exact Fit.refl _|exact qA|refine qC ?_ rfl ?_));done)
         try cbv)
      | (refine qQ ?_ (c16) ?hfit
         case hfit=>((repeat' (first|exact qB|refine qD ?_ ?_|exact qE (by rfl)|exact qG (by rfl)|exact Fit.refl _|exact qA|refine qC ?_ rfl ?_));done)
         try cbv)
      | (refine qQ ?_ (c18) ?hfit
         case hfit=>((repeat' (first|exact qB|refine qD ?_ ?_|exact qE (by rfl)|exact qG (by rfl)|exact Fit.refl _|exact qA|refine qC ?_ rfl ?_));done)
         try cbv)
      | (refine qQ ?_ (c19) ?hfit
         case hfit=>((repeat' (first|exact qB|refine qD ?_ ?_|exact qE (by rfl)|exact qG (by rfl)|exact Fit.refl _|exact qA|refine qC ?_ rfl ?_));done)
         try cbv)
      | (refine qQ ?_ (c20) ?hfit
         case hfit=>((repeat' (first|exact qB|refine qD ?_ ?_|exact qE (by rfl)|exact qG (by rfl)|exact Fit.refl _|exact qA|refine qC ?_ rfl ?_));done)
         try cbv)
      | (refine qQ ?_ (c21) ?hfit
         case hfit=>((repeat' (first|exact qB|refine qD ?_ ?_|exact qE (by rfl)|exact qG (by rfl)|exact Fit.refl _|exact qA|refine qC ?_ rfl ?_));done)
         try cbv)
      | (refine qQ ?_ (c22) ?hfit
         case hfit=>((repeat' (first|exact qB|refine qD ?_ ?_|exact qE (by rfl)|exact qG (by rfl)|exact Fit.refl _|exact qA|refine qC ?_ rfl ?_));done)
         try cbv)
      | (refine qQ ?_ (c23) ?hfit
         case hfit=>((repeat' (first|exact qB|refine qD ?_ ?_|exact qE (by rfl)|exact qG (by rfl)|exact Fit.refl _|exact qA|refine qC ?_ rfl ?_));done)
         try cbv)
      | (refine qQ ?_ (c24) ?hfit
         case hfit=>((repeat' (first|exact qB|refine qD ?_ ?_|exact qE (by rfl)|exact qG (by rfl)|exact Fit.refl _|exact qA|refine qC ?_ rfl ?_));done)
         try cbv)
      |fail)
  all_goals first
    |trivial
    |((try clear c15);(try clear c25);(try clear c14);(try clear c17);(try clear c19);(try clear c20);(try clear c21);(try clear c16);(try clear c18);(try clear c22);(try clear c23);(try clear c24);((try simp only [qW]at *);(try simp only [zQ,zA,zB,zC,zD,zE,zF,zG,zH,zI,zJ,zK,zL,zM,zN,zO,zP,zR,zS]at *);first|(refine qO ?_;omega)|(simp only [Hold];omega)))
    |((try clear c15);(try clear c25);(try clear c14);(try clear c17);(try clear c19);(try clear c20);(try clear c21);(try clear c16);(try clear c18);(try clear c22);(try clear c23);(try clear c24);(subst hR;(repeat' (first|exact qA|exact qB|refine qC ?_ rfl ?_|refine qD ?_ ?_|exact qE (by rfl)|exact qG (by rfl)|exact Fit.refl _|exact qH _|(refine qE ?_;(try simp only [qW]at *);simp only [zQ,zA,zB,zC,zD,zE,zF,zG,zH,zI,zJ,zK,zL,zM,zN,zO,zP,zR,zS]at *;omega)));done))
    |skip
theorem law3 (c:Clr)(t s rm:Int)(ss rs:List Int):FSpec Try.prog 3 [(clrS c),(.int .i64 (.sym fun _=>t)),(.int .i64 (.sym fun _=>s)),(.agg [(.int .i64 (.sym fun _=>rm)),(.sl 1 (.sym fun _=>zi (ss).length) (fun ix=>[.int .i64 (.sym fun _=>(ss).getD ix.den.toNat 0)])),(.sl 1 (.sym fun _=>zi (rs).length) (fun ix=>[.int .i64 (.sym fun _=>(rs).getD ix.den.toNat 0)]))])] [] (fun r _=>r = .bool (.lit true)):=by
  by_cases h:thinB c 0=false∨9<ss.length∨9<rs.length
  · exact law3t c t s rm ss rs h
  · have hT:ThinC c 0:=thin_iff.1 (by cases q:thinB c 0 with|true=>rfl|false=>exact absurd (.inl q) h)
    have h1:ss.length≤9:=Nat.le_of_not_lt fun q=>h (.inr (.inl q))
    have h2:rs.length≤9:=Nat.le_of_not_lt fun q=>h (.inr (.inr q))
    rcases faultC_cases c with hF|hF|hF
    · have hC:=faultC_iff.1 hF
      by_cases hl:0≤t∧t<c.ts.length
      · cases ho:onB (c.ts.getD t.toNat t0) s with
        | true=>
          cases hTr:truthB c rm ss rs with
          |true=>exact law3_11 c t s rm ss rs hT h1 h2 hC ⟨hl,ho⟩ hTr
          |false=>exact law3_10 c t s rm ss rs hT h1 h2 hC ⟨hl,ho⟩ hTr
        | false=>
          cases hTr:truthB c rm ss rs with
          |true=>exact law3_21 c t s rm ss rs hT h1 h2 hC ⟨hl,ho⟩ hTr
          |false=>exact law3_20 c t s rm ss rs hT h1 h2 hC ⟨hl,ho⟩ hTr
      · cases hTr:truthB c rm ss rs with
        |true=>exact law3_01 c t s rm ss rs hT h1 h2 hC hl hTr
        |false=>exact law3_00 c t s rm ss rs hT h1 h2 hC hl hTr
    · exact law3a1 c t s rm ss rs hT h1 h2 hF
    · exact law3a3 c t s rm ss rs hT h1 h2 hF
end Go.Proofs.Yteelocfbbhchcaa
