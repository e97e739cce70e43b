/- HeatShows: what the law computes. No condition. -/
import Derived.Test.YteelocfbbhchcaaGreatT7
set_option linter.unusedVariables false
set_option linter.unusedSimpArgs false
set_option linter.deprecated false
set_option linter.all false

namespace Go.Proofs.YteelocfbbhchcaaGreat
open Go Go.Eng Go.Proofs
set_option maxRecDepth 10000
theorem back20 (rm:Int)(ss rs:List Int)(h1:ss.length≤1000)(h2:rs.length≤1000):FSpec Tryz.prog 20 [(.agg [(.int .i64 (.sym fun _=>rm)),(.sl 1 (.sym fun _=>zi (ss).length) (fun ix=>[.int .i64 (.sym fun _=>(ss).getD ix.den.toNat 0)])),(.sl 1 (.sym fun _=>zi (rs).length) (fun ix=>[.int .i64 (.sym fun _=>(rs).getD ix.den.toNat 0)]))])] [] (fun r _=>r=(.agg [(.int .i64 (.sym fun _=>rm)),(.sl 1 (.sym fun _=>zi (ss).length) (fun ix=>[.int .i64 (.sym fun _=>(ss).getD ix.den.toNat 0)])),(.sl 1 (.sym fun _=>zi (rs).length) (fun ix=>[.int .i64 (.sym fun _=>(rs).getD ix.den.toNat 0)]))])):=by
  have c1:=list62 ss h1
  have c2:=list62 rs h2
  refine FSpec.is fun R hR=>qX (sc:=sc20) tyok mix Tryz.func20 rfl Tryz.call20 (by kernel_rfl) (by kernel_rfl) ?_
  generalize Tryz.prog=P at c1 c2⊢
  cbv
  repeat' (first
      | (refine qQ ?_ (c1) ?hfit
         case hfit=>((repeat' (first|exact qB|refine qD ?_ ?_|exact qE (by rfl)|exact qG (by rfl)|exact Fit.refl _|exact qA|refine qC ?_ rfl ?_));done)
         try cbv)
      | (refine qQ ?_ (c2) ?hfit
         case hfit=>((repeat' (first|exact qB|refine qD ?_ ?_|exact qE (by rfl)|exact qG (by rfl)|exact Fit.refl _|exact qA|refine qC ?_ rfl ?_));done)
         try cbv)
      |fail)
  all_goals first
    |(subst hR;(repeat' (first|exact qA|exact qB|refine qC ?_ rfl ?_|refine qD ?_ ?_|exact qE (by rfl)|exact qG (by rfl)|exact Fit.refl _|exact qH _|(refine qE ?_;(try simp only [qW]at *);simp only [zQ,zA,zB,zC,zD,zE,zF,zG,zH,zI,zJ,zK,zL,zM,zN,zO,zP,zR,zS]at *;omega)));done)
    |skip
theorem of16n (c:Clr)(l:List LookT)(rm:Int)(ss rs:List Int)(hv:c.vs.length≤1000)(h:truthB c rm ss rs=false):FSpec Tryz.prog 16 [(clrS c),(lksS l),(.agg [(.int .i64 (.sym fun _=>rm)),(.sl 1 (.sym fun _=>zi (ss).length) (fun ix=>[.int .i64 (.sym fun _=>(ss).getD ix.den.toNat 0)])),(.sl 1 (.sym fun _=>zi (rs).length) (fun ix=>[.int .i64 (.sym fun _=>(rs).getD ix.den.toNat 0)]))])] [] (fun r _=>r=(.bool (.lit false))):=by
  have c44:=lit_f (istruth24 c rm ss rs hv) h
  refine FSpec.is fun R hR=>qX (sc:=sc16) tyok mix Tryz.func16 rfl Tryz.call16 (by kernel_rfl) (by kernel_rfl) ?_
  generalize Tryz.prog=P at c44⊢
  cbv
  repeat' (first
      | (refine qQ ?_ (c44) ?hfit
         case hfit=>((repeat' (first|exact qB|refine qD ?_ ?_|exact qE (by rfl)|exact qG (by rfl)|exact Fit.refl _|exact qA|refine qC ?_ rfl ?_));done)
         try cbv)
      |fail)
  all_goals first
    |(subst hR;(repeat' (first|exact qA|exact qB|refine qC ?_ rfl ?_|refine qD ?_ ?_|exact qE (by rfl)|exact qG (by rfl)|exact Fit.refl _|exact qH _|(refine qE ?_;(try simp only [qW]at *);simp only [zQ,zA,zB,zC,zD,zE,zF,zG,zH,zI,zJ,zK,zL,zM,zN,zO,zP,zR,zS]at *;omega)));done)
    |skip
theorem of_no {c:Clr} {l:List LookT} {rm:Int} {ss rs:List Int} {i:Nat}(hi:i<l.length)(h:ofP c l rm ss rs i=false):ofT c l rm ss rs=false:=by
  unfold ofT
  rw [show allB (ofP c l rm ss rs) l.length=false from allB_no hi h,Bool.and_false]
theorem of_yes {c:Clr} {l:List LookT} {rm:Int} {ss rs:List Int}(hT:truthB c rm ss rs=true)(h:∀i,i<l.length→ofP c l rm ss rs i=true):ofT c l rm ss rs=true:=by
  unfold ofT
  rw [hT,allB_yes h];rfl
theorem of16y (c:Clr)(l:List LookT)(rm:Int)(ss rs:List Int)(hC:COk c)(hl:LooksIn c l)(hT:truthB c rm ss rs=true):FSpec Tryz.prog 16 [(clrS c),(lksS l),(.agg [(.int .i64 (.sym fun _=>rm)),(.sl 1 (.sym fun _=>zi (ss).length) (fun ix=>[.int .i64 (.sym fun _=>(ss).getD ix.den.toNat 0)])),(.sl 1 (.sym fun _=>zi (rs).length) (fun ix=>[.int .i64 (.sym fun _=>(rs).getD ix.den.toNat 0)]))])] [] (fun r _=>r=(.bool (.sym fun _=>ofT c l rm ss rs))):=by
  have hv3:=hC.few.v
  have h8:=hC.ok.h8
  have h1:=hC.ok.h1
  have h6:=hl.n
  have hTT:=truthB_iff.1 hT
  have hsl:=hTT.s
  have hrl:=hTT.r
  have hw:∀i,i<l.length→WayOk rm (ss.getD (l.getD i k0).v.toNat 0) (rs.getD (l.getD i k0).v.toNat 0):=fun i hi=>by
    have hk:=lookB_iff.1 (hl.i i hi)
    have a:=hk.v0;have b:=hk.v1
    have q:=hTT.v (l.getD i k0).v.toNat (by omega)
    have o:=hC.ok.v (l.getD i k0).v.toNat (by omega)
    have r0:=hC.ok.r0;have r2:=hC.ok.r2;have t0:=hTT.r0;have t1:=hTT.r1
    unfold vatOk at o
    exact⟨by omega,by omega,by omega,by omega,by omega,by omega⟩
  have c44:=lit_t (istruth24 c rm ss rs (by omega)) hT
  have c46:=fun (i:Nat) (hi:i<l.length)=>ref28 c rm (ss.getD (l.getD i k0).v.toNat 0) (rs.getD (l.getD i k0).v.toNat 0) (hw i hi) h1 h8
  have c45:=fun (i:Nat) (hi:i<l.length)=>right90 c (l.getD i k0) (fun n=>runW rm (ss.getD (l.getD i k0).v.toNat 0) (rs.getD (l.getD i k0).v.toNat 0) n) hC (lookB_iff.1 (hl.i i hi))
  refine FSpec.is fun R hR=>qX (sc:=sc16) tyok mix Tryz.func16 rfl Tryz.call16 (by kernel_rfl) (by kernel_rfl) ?_
  generalize Tryz.prog=P at c44 c46 c45⊢
  cbv
  repeat' (first
      | (refine qQ ?_ (c44) ?hfit
         case hfit=>((repeat' (first|exact qB|refine qD ?_ ?_|exact qE (by rfl)|exact qG (by rfl)|exact Fit.refl _|exact qA|refine qC ?_ rfl ?_));done)
         try cbv)
      |fail)
  all_goals first
    |skip
  refine⟨none,[],{i:Nat // i≤l.length∧∀j,j<i→ofP c l rm ss rs j=true},fun x=>⟨[(3,.own 0 0),(5,.own 1 0),(1,(lksS l)),(7,(.int .i64 (.sym fun _=>zi x.1)))],[(0,.cells [(.int .i64 (.sym fun _=>c.rl)),(.int .i64 (.sym fun _=>c.rh)),(.int .i64 (.sym fun _=>c.hr)),(.sl 4 (.sym fun _=>zi c.vs.length) (fun ix=>[(.int .i64 (.sym fun _=>(c.vs.getD ix.den.toNat v0).sl)),(.int .i64 (.sym fun _=>(c.vs.getD ix.den.toNat v0).sh)),(.int .i64 (.sym fun _=>(c.vs.getD ix.den.toNat v0).rl)),(.int .i64 (.sym fun _=>(c.vs.getD ix.den.toNat v0).rh))])),(.sl 2 (.sym fun _=>zi c.ts.length) (fun ix=>[(.int .i64 (.sym fun _=>(c.ts.getD ix.den.toNat t0).top)),(.sl 3 (.sym fun _=>zi ((c.ts.getD ix.den.toNat t0).ps).length) (fun jx=>[(.int .i64 (.sym fun _=>(((c.ts.getD ix.den.toNat t0).ps).getD jx.den.toNat p0).f)),(.int .i64 (.sym fun _=>(((c.ts.getD ix.den.toNat t0).ps).getD jx.den.toNat p0).el)),(.int .i64 (.sym fun _=>(((c.ts.getD ix.den.toNat t0).ps).getD jx.den.toNat p0).eh))]))]))] 27),(1,.cells [(.int .i64 (.sym fun _=>rm)),(.sl 1 (.sym fun _=>zi (ss).length) (fun ix=>[.int .i64 (.sym fun _=>(ss).getD ix.den.toNat 0)])),(.sl 1 (.sym fun _=>zi (rs).length) (fun ix=>[.int .i64 (.sym fun _=>(rs).getD ix.den.toNat 0)]))] 31)],20⟩,fun x=>l.length-x.1,?_,?_⟩
  · refine⟨⟨0,by omega,fun j hj=>by omega⟩,?_⟩
    cbv
    repeat' (first
      |with_reducible refine hold ?_ ?_
      |with_reducible refine And.intro ?_ ?_)
    all_goals first
      |trivial
      |exact qN (qE (by rfl))
      |exact qN (Fit.refl _)
      |exact qM (qL _)
      |skip
  · rintro ⟨i,hi,hq⟩
    cbv
    repeat' (first
        |with_reducible refine hold ?_ ?_
        |with_reducible refine And.intro ?_ ?_
        |(with_reducible intro hcd;(try simp only [zA,zB,zC,zD,zE,zF,zG,zH,zI,zJ,zK,zL,zM,zN,zO,zP]at hcd);try cbv)
        | (refine qQ ?_ (c46 i (by((try simp only [qW]at *);(try simp only [zQ,zA,zB,zC,zD,zE,zF,zG,zH,zI,zJ,zK,zL,zM,zN,zO,zP,zR,zS]at *);omega))) ?hfit
           case hfit=>((repeat' (first|exact qB|refine qD ?_ ?_|exact qE (by rfl)|exact qG (by rfl)|exact Fit.refl _|exact qA|refine qC ?_ rfl ?_));done)
           try cbv)
        | (refine qQ ?_ (c45 i (by((try simp only [qW]at *);(try simp only [zQ,zA,zB,zC,zD,zE,zF,zG,zH,zI,zJ,zK,zL,zM,zN,zO,zP,zR,zS]at *);omega))) ?hfit
           case hfit=>((repeat' (first|exact qB|refine qD ?_ ?_|exact qE (by rfl)|exact qG (by rfl)|exact Fit.refl _|exact qA|refine qC ?_ rfl ?_));done)
           try cbv)
        |fail)
    all_goals first
      |((try clear c44);(try clear c45);(try clear c46);((try simp only [qW]at *);(try simp only [zQ,zA,zB,zC,zD,zE,zF,zG,zH,zI,zJ,zK,zL,zM,zN,zO,zP,zR,zS]at *);first|(refine qO ?_;omega)|(simp only [Hold];omega)))
      |((try clear c44);(try clear c45);(try clear c46);((have hk:=(lookB_iff.1 (hl.i i (by((try simp only [qW]at *);(try simp only [zQ,zA,zB,zC,zD,zE,zF,zG,zH,zI,zJ,zK,zL,zM,zN,zO,zP,zR,zS]at *);omega)))));(have q1:=hk.v0);(have q2:=hk.v1);(have q3:=hk.h0);(have q4:=hk.h1);(try simp only [qW]at *);(try simp only [zQ,zA,zB,zC,zD,zE,zF,zG,zH,zI,zJ,zK,zL,zM,zN,zO,zP,zR,zS]at *);simp only [Hold];first|omega|exact⟨by omega,by omega⟩))
      |((try clear c44);(try clear c45);(try clear c46);(subst hR;refine qG ?_;exact(of_no (i:=i) (by((try simp only [qW]at *);(try simp only [zQ,zA,zB,zC,zD,zE,zF,zG,zH,zI,zJ,zK,zL,zM,zN,zO,zP,zR,zS]at *);omega)) (by assumption)).symm))
      |((try clear c44);(try clear c45);(try clear c46);(subst hR;refine qG ?_;exact(of_yes hT fun j hj=>hq j (by((try simp only [qW]at *);(try simp only [zQ,zA,zB,zC,zD,zE,zF,zG,zH,zI,zJ,zK,zL,zM,zN,zO,zP,zR,zS]at *);omega))).symm))
      |((try clear c44);(try clear c45);(try clear c46);((try simp only [zQ,zA,zB,zC,zD,zE,zF,zG,zH,zI,zJ,zK,zL,zM,zN,zO,zP,zR,zS]at *);refine⟨⟨i+1,by((try simp only [qW]at *);(try simp only [zQ,zA,zB,zC,zD,zE,zF,zG,zH,zI,zJ,zK,zL,zM,zN,zO,zP,zR,zS]at *);omega),fun j hj=>(Nat.lt_or_ge j i).elim (hq j) (fun q=>by rw [show j=i by omega];assumption)⟩,by simp only [];omega,?_⟩;cbv;(repeat' (first|with_reducible refine hold ?_ ?_|with_reducible refine And.intro ?_ ?_));(all_goals first|trivial|exact qN (qE (by rfl))|exact qN (qG (by rfl))|exact qN (Fit.refl _)|exact qM (qL _)|(refine qN (qE ?_);(try simp only [qW]at *);simp only [zQ,zA,zB,zC,zD,zE,zF,zG,zH,zI,zJ,zK,zL,zM,zN,zO,zP,zR,zS]at *;omega)|skip)))
      |skip
theorem of16 {c:Clr} {l:List LookT}(hL:lookedF c l=0)(rm:Int)(ss rs:List Int):FSpec Tryz.prog 16 [(clrS c),(lksS l),(.agg [(.int .i64 (.sym fun _=>rm)),(.sl 1 (.sym fun _=>zi (ss).length) (fun ix=>[.int .i64 (.sym fun _=>(ss).getD ix.den.toNat 0)])),(.sl 1 (.sym fun _=>zi (rs).length) (fun ix=>[.int .i64 (.sym fun _=>(rs).getD ix.den.toNat 0)]))])] [] (fun r _=>r=(.bool (.sym fun _=>proveB c l rm ss rs))):=by
  obtain⟨hC,hl⟩:=lookedF_spec hL
  rw [←of_prove hL]
  cases h:truthB c rm ss rs with
  |true=>exact of16y c l rm ss rs hC hl h
  |false=>exact(of16n c l rm ss rs (by have:=hC.few.v;omega) h).post fun r bs q=>⟨_,by subst q;exact qG (by show false=ofT c l rm ss rs;unfold ofT;rw [h];rfl),rfl⟩
theorem wrE_lt {c:Clr} {l:List LookT}(hl:LooksIn c l) {r v k:Nat}:wrE c l r v k<512:=by
  have h:=wrN_lt (badW c l v (c.rl+zi r) (stI c v k) (rtI c v k)) l.length
  have h2:2^l.length≤2^6:=Nat.pow_le_pow_right (by decide) hl.n
  unfold wrE wrI
  omega
theorem has_ref {c:Clr} {l:List LookT}(hL:lookedF c l=0)(o:Nat)(ho:o<512):FSpec Tryz.prog 19 [(.sl 1 (.sym fun _=>zi (nRm c)) (fun rx=>[(.sl 1 (.sym fun _=>zi (c.vs.length)) (fun vx=>[(.sl 2 (.sym fun _=>zi (nW c vx.den.toNat)) (fun ix=>[(.sl 1 (.sym fun _=>zi (c.hr.toNat+1)) (fun jx=>[(.int .i64 (.sym fun _=>runE c rx.den.toNat vx.den.toNat ix.den.toNat jx.den.toNat))])),(.int .i64 (.sym fun _=>zi (wrE c l rx.den.toNat vx.den.toNat ix.den.toNat)))]))]))])),(.int .i64 (.sym fun _=>zi o))] [] (fun r _=>r=(.bool (.sym fun _=>(hasA (nRm c) c.vs.length (nW c) (wrE c l)) o))):=by
  obtain⟨hC,hl⟩:=lookedF_spec hL
  exact has35 (nRm c) c.vs.length (nW c) (wrE c l) (c.hr.toNat+1) (runE c) o (by have:=hC.ok.r0;have:=hC.ok.r2;unfold nRm;omega) (by have:=hC.few.v;omega) (fun v hv=>by have:=(nW_bd hC hv).2.2.2.2;omega) (fun r v k _ _ _=>wrE_lt hl) ho
theorem shl_ob {a b:Int} {n N:Nat}(ha:a=1)(hb:b=(n:Int))(hn:n≤6)(hN:N=2^n)(h6:N≤64):Hold (0≤b∧b<(IntKind.bits .i64:Int)∧zi N=a*2^b.toNat∧inR .i64 (zi N)):=by
  subst ha
  subst hb
  refine⟨by omega,?_,?_,?_⟩
  · show(n:Int)<64
    omega
  · rw [hN];simp [zi]
  · unfold inR
    simp only [zi_den]
    omega
set_option maxHeartbeats 2000000 in
theorem leave18 (c:Clr)(l:List LookT)(N:Nat)(hL:lookedF c l=0)(hN:N=2^l.length):FSpec Tryz.prog 18 [(lksS l),(.sl 1 (.sym fun _=>zi (nRm c)) (fun rx=>[(.sl 1 (.sym fun _=>zi (c.vs.length)) (fun vx=>[(.sl 2 (.sym fun _=>zi (nW c vx.den.toNat)) (fun ix=>[(.sl 1 (.sym fun _=>zi (c.hr.toNat+1)) (fun jx=>[(.int .i64 (.sym fun _=>runE c rx.den.toNat vx.den.toNat ix.den.toNat jx.den.toNat))])),(.int .i64 (.sym fun _=>zi (wrE c l rx.den.toNat vx.den.toNat ix.den.toNat)))]))]))]))] [] (fun r _=>r=(.sl 1 (.sym fun _=>zi (bitsN (lvB l.length (hasA (nRm c) c.vs.length (nW c) (wrE c l)) N) 16).length) (fun ix=>[.int .i64 (.sym fun _=>(bitsN (lvB l.length (hasA (nRm c) c.vs.length (nW c) (wrE c l)) N) 16).getD ix.den.toNat 0)]))):=by
  have h6:=(lookedF_spec hL).2.n
  have hN6:N≤64:=by
    have:2^l.length≤2^6:=Nat.pow_le_pow_right (by decide) h6
    omega
  have hN1:1≤N:=by
    have:0<2^l.length:=Nat.pow_pos (by decide)
    omega
  have c47:=fun (k:Nat) (hk:k≤N)=>bits55 k (by omega)
  have c48:=fun (k:Nat) (B:List Int) (hB:B.length≤1000)=>less54 (bitsN k 16) B (by have:=bitsN_len k 16;omega) hB
  have c19:=fun (o:Nat) (ho:o≤N)=>has_ref hL o (by omega)
  refine FSpec.is fun R hR=>qX (sc:=sc18) tyok mix Tryz.func18 rfl Tryz.call18 (by kernel_rfl) (by kernel_rfl) ?_
  generalize Tryz.prog=P at c47 c48 c19⊢
  cbv
  repeat' (first
      |with_reducible refine hold ?_ ?_
      | (refine⟨zi N,?_⟩
         cbv
         refine hold (shl_ob (n:=l.length) (by first|rfl|((try simp only [qW]at *);(try simp only [zQ,zA,zB,zC,zD,zE,zF,zG,zH,zI,zJ,zK,zL,zM,zN,zO,zP,zR,zS]at *);rfl)) (by first|rfl|((try simp only [qW]at *);(try simp only [zQ,zA,zB,zC,zD,zE,zF,zG,zH,zI,zJ,zK,zL,zM,zN,zO,zP,zR,zS]at *);rfl)) h6 hN hN6) ?_
         try cbv)
      | (refine qQ ?_ (c47 (N-1) (by omega)) ?hfit
         case hfit=>((refine qD (qE (by(try simp only [qW]at *);(try simp only [zQ,zA,zB,zC,zD,zE,zF,zG,zH,zI,zJ,zK,zL,zM,zN,zO,zP,zR,zS]at *);omega)) qB);done)
         try cbv)
      |fail)
  all_goals first
    |((try clear c47);(try clear c48);(try clear c19);((try simp only [qW]at *);(try simp only [zQ,zA,zB,zC,zD,zE,zF,zG,zH,zI,zJ,zK,zL,zM,zN,zO,zP,zR,zS]at *);first|(refine qO ?_;omega)|(simp only [Hold];omega)))
    |((try clear c47);(try clear c48);(try clear c19);((try simp only [qW]at *);(try simp only [zQ,zA,zB,zC,zD,zE,zF,zG,zH,zI,zJ,zK,zL,zM,zN,zO,zP,zR,zS]at *);first|(refine hold_u64 ?_;omega)|(refine hold_sh64 ?_;omega)|(refine qO ?_;omega)))
    |skip
  refine⟨none,[],{x:Nat×List Int // x.1≤N∧x.2=bitsN (lvB l.length (hasA (nRm c) c.vs.length (nW c) (wrE c l)) x.1) 16},fun x=>⟨[(0,(lksS l)),(1,(.sl 1 (.sym fun _=>zi (nRm c)) (fun rx=>[(.sl 1 (.sym fun _=>zi (c.vs.length)) (fun vx=>[(.sl 2 (.sym fun _=>zi (nW c vx.den.toNat)) (fun ix=>[(.sl 1 (.sym fun _=>zi (c.hr.toNat+1)) (fun jx=>[(.int .i64 (.sym fun _=>runE c rx.den.toNat vx.den.toNat ix.den.toNat jx.den.toNat))])),(.int .i64 (.sym fun _=>zi (wrE c l rx.den.toNat vx.den.toNat ix.den.toNat)))]))]))]))),(5,(.sl 1 (.sym fun _=>zi (x.1.2).length) (fun ix=>[.int .i64 (.sym fun _=>(x.1.2).getD ix.den.toNat 0)]))),(6,(.int .i64 (.sym fun _=>zi x.1.1)))],[],60⟩,fun x=>N-x.1.1,?_,?_⟩
  · obtain⟨B0,eB0⟩:∃B0,B0=bitsN (N-1) 16:=⟨_,rfl⟩
    refine⟨⟨(0,B0),by omega,by rw [eB0];simp only [lvB,hN]⟩,?_⟩
    cbv
    repeat' (first
      |with_reducible refine hold ?_ ?_
      |with_reducible refine And.intro ?_ ?_)
    all_goals first
      |trivial
      |exact qN (qE (by rfl))
      |exact qN (Fit.refl _)
      |(subst eB0;exact qN (Fit.refl _))
      |skip
  · rintro ⟨⟨k,B⟩,hk,hB⟩
    cbv
    dsimp only at hk hB
    have hk16:k≤N:=hk
    repeat' (first
        |with_reducible refine hold ?_ ?_
        |with_reducible refine And.intro ?_ ?_
        |(with_reducible intro hcd;(try simp only [zA,zB,zC,zD,zE,zF,zG,zH,zI,zJ,zK,zL,zM,zN,zO,zP]at hcd);try cbv)
        | (refine⟨zi N,?_⟩
           cbv
           refine hold (shl_ob (n:=l.length) (by first|rfl|((try simp only [qW]at *);(try simp only [zQ,zA,zB,zC,zD,zE,zF,zG,zH,zI,zJ,zK,zL,zM,zN,zO,zP,zR,zS]at *);rfl)) (by first|rfl|((try simp only [qW]at *);(try simp only [zQ,zA,zB,zC,zD,zE,zF,zG,zH,zI,zJ,zK,zL,zM,zN,zO,zP,zR,zS]at *);rfl)) h6 hN hN6) ?_
           try cbv)
        | (refine qQ ?_ (c47 k (by((try simp only [qW]at *);(try simp only [zQ,zA,zB,zC,zD,zE,zF,zG,zH,zI,zJ,zK,zL,zM,zN,zO,zP,zR,zS]at *);omega))) ?hfit
           case hfit=>((repeat' (first|exact qB|refine qD ?_ ?_|exact qE (by rfl)|exact qG (by rfl)|exact Fit.refl _|exact qA|refine qC ?_ rfl ?_));done)
           try cbv)
        | (refine qQ ?_ (c48 k B (by rw [hB];have:=bitsN_len (lvB l.length (hasA (nRm c) c.vs.length (nW c) (wrE c l)) k) 16;omega)) ?hfit
           case hfit=>((repeat' (first|exact qB|refine qD ?_ ?_|exact qE (by rfl)|exact qG (by rfl)|exact Fit.refl _|exact qA|refine qC ?_ rfl ?_));done)
           try cbv)
        | (refine qQ ?_ (c19 k (by((try simp only [qW]at *);(try simp only [zQ,zA,zB,zC,zD,zE,zF,zG,zH,zI,zJ,zK,zL,zM,zN,zO,zP,zR,zS]at *);omega))) ?hfit
           case hfit=>((repeat' (first|exact qB|refine qD ?_ ?_|exact qE (by rfl)|exact qG (by rfl)|exact Fit.refl _|exact qA|refine qC ?_ rfl ?_));done)
           try cbv)
        |fail)
    all_goals first
      |((try clear c47);(try clear c48);(try clear c19);((try simp only [qW]at *);(try simp only [zQ,zA,zB,zC,zD,zE,zF,zG,zH,zI,zJ,zK,zL,zM,zN,zO,zP,zR,zS]at *);first|(refine qO ?_;omega)|(simp only [Hold];omega)))
      |((try clear c47);(try clear c48);(try clear c19);((try simp only [qW]at *);(try simp only [zQ,zA,zB,zC,zD,zE,zF,zG,zH,zI,zJ,zK,zL,zM,zN,zO,zP,zR,zS]at *);first|(refine hold_u64 ?_;omega)|(refine hold_sh64 ?_;omega)|(refine qO ?_;omega)))
      |((try clear c47);(try clear c48);(try clear c19);((try simp only [zQ,zA,zB,zC,zD,zE,zF,zG,zH,zI,zJ,zK,zL,zM,zN,zO,zP,zR,zS]at *);obtain⟨B1,eB1⟩:∃B1,B1=bitsN k 16:=⟨_,rfl⟩;refine⟨⟨(k+1,B1),by((try simp only [qW]at *);(try simp only [zQ,zA,zB,zC,zD,zE,zF,zG,zH,zI,zJ,zK,zL,zM,zN,zO,zP,zR,zS]at *);omega),by rw [eB1,lvB_y (h:=(hasA (nRm c) c.vs.length (nW c) (wrE c l))) (by rw [←hB];assumption) (by assumption)]⟩,by simp only [];omega,?_⟩;cbv;(repeat' (first|with_reducible refine hold ?_ ?_|with_reducible refine And.intro ?_ ?_));(all_goals first|trivial|exact qN (qE (by rfl))|exact qN (qG (by rfl))|exact qN (Fit.refl _)|exact qM (qL _)|(refine qN (qE ?_);(try simp only [qW]at *);simp only [zQ,zA,zB,zC,zD,zE,zF,zG,zH,zI,zJ,zK,zL,zM,zN,zO,zP,zR,zS]at *;omega)|(refine qM (qK ?_);(repeat' (first|exact qA|exact qB|refine qC ?_ rfl ?_|refine qD ?_ ?_|exact qE (by rfl)|exact qG (by rfl)|exact Fit.refl _|exact qH _|(refine qE ?_;(try simp only [qW]at *);simp only [zQ,zA,zB,zC,zD,zE,zF,zG,zH,zI,zJ,zK,zL,zM,zN,zO,zP,zR,zS]at *;omega)));done)|(subst eB1;exact qN (Fit.refl _))|skip)))
      |((try clear c47);(try clear c48);(try clear c19);((try simp only [zQ,zA,zB,zC,zD,zE,zF,zG,zH,zI,zJ,zK,zL,zM,zN,zO,zP,zR,zS]at *);refine⟨⟨(k+1,B),by((try simp only [qW]at *);(try simp only [zQ,zA,zB,zC,zD,zE,zF,zG,zH,zI,zJ,zK,zL,zM,zN,zO,zP,zR,zS]at *);omega),by rw [lvB_n (h:=(hasA (nRm c) c.vs.length (nW c) (wrE c l))) (by rw [←hB];assumption)];exact hB⟩,by simp only [];omega,?_⟩;cbv;(repeat' (first|with_reducible refine hold ?_ ?_|with_reducible refine And.intro ?_ ?_));(all_goals first|trivial|exact qN (qE (by rfl))|exact qN (qG (by rfl))|exact qN (Fit.refl _)|exact qM (qL _)|(refine qN (qE ?_);(try simp only [qW]at *);simp only [zQ,zA,zB,zC,zD,zE,zF,zG,zH,zI,zJ,zK,zL,zM,zN,zO,zP,zR,zS]at *;omega)|(refine qM (qK ?_);(repeat' (first|exact qA|exact qB|refine qC ?_ rfl ?_|refine qD ?_ ?_|exact qE (by rfl)|exact qG (by rfl)|exact Fit.refl _|exact qH _|(refine qE ?_;(try simp only [qW]at *);simp only [zQ,zA,zB,zC,zD,zE,zF,zG,zH,zI,zJ,zK,zL,zM,zN,zO,zP,zR,zS]at *;omega)));done)|skip)))
      |((try clear c47);(try clear c48);(try clear c19);((try simp only [zQ,zA,zB,zC,zD,zE,zF,zG,zH,zI,zJ,zK,zL,zM,zN,zO,zP,zR,zS]at *);refine⟨⟨(k+1,B),by((try simp only [qW]at *);(try simp only [zQ,zA,zB,zC,zD,zE,zF,zG,zH,zI,zJ,zK,zL,zM,zN,zO,zP,zR,zS]at *);omega),by rw [lvB_h (h:=(hasA (nRm c) c.vs.length (nW c) (wrE c l))) (by assumption)];exact hB⟩,by simp only [];omega,?_⟩;cbv;(repeat' (first|with_reducible refine hold ?_ ?_|with_reducible refine And.intro ?_ ?_));(all_goals first|trivial|exact qN (qE (by rfl))|exact qN (qG (by rfl))|exact qN (Fit.refl _)|exact qM (qL _)|(refine qN (qE ?_);(try simp only [qW]at *);simp only [zQ,zA,zB,zC,zD,zE,zF,zG,zH,zI,zJ,zK,zL,zM,zN,zO,zP,zR,zS]at *;omega)|(refine qM (qK ?_);(repeat' (first|exact qA|exact qB|refine qC ?_ rfl ?_|refine qD ?_ ?_|exact qE (by rfl)|exact qG (by rfl)|exact Fit.refl _|exact qH _|(refine qE ?_;(try simp only [qW]at *);simp only [zQ,zA,zB,zC,zD,zE,zF,zG,zH,zI,zJ,zK,zL,zM,zN,zO,zP,zR,zS]at *;omega)));done)|skip)))
      |((try clear c47);(try clear c48);(try clear c19);(subst hR;(have hke:k=N:=(by((try simp only [qW]at *);(try simp only [zQ,zA,zB,zC,zD,zE,zF,zG,zH,zI,zJ,zK,zL,zM,zN,zO,zP,zR,zS]at *);omega)));subst hke;subst hB;exact Fit.refl _))
      |skip
end Go.Proofs.YteelocfbbhchcaaGreat

namespace Go.Proofs.YteelocfbbhchcaaGreat
open Go Go.Eng Go.Proofs
set_option maxRecDepth 10000
theorem sh_e {c:Clr} {l:List LookT}(h:¬askE c l=0):shM c l=0∧shS c l=[]∧shR c l=[]:=by
  unfold shM shS shR
  rw [if_neg h,if_neg h,if_neg h]
  exact⟨rfl,rfl,rfl⟩
theorem leave_e {c:Clr} {l:List LookT}(h:¬lookedF c l=0):leaveL c l=[]:=by unfold leaveL;rw [if_neg h]
theorem show_e {c:Clr} {l:List LookT} {e:Int}(hA:askE c l=e)(h:¬e=0):FSpec Tryz.prog 8 [(clrS c),(lksS l)] [] (fun r _=>r=(.tup [(.agg [(.int .i64 (.lit (0))),(.sl 1 (.lit 0) (fun ix=>[.int .i64 (.sym fun _=>(shS c l).getD ix.den.toNat 0)])),(.sl 1 (.lit 0) (fun ix=>[.int .i64 (.sym fun _=>(shR c l).getD ix.den.toNat 0)]))]),(.int .i64 (.sym fun _=>e))])):=
  (show51 c l).post fun r bs q=>⟨_,by subst q;have s:=sh_e (c:=c) (l:=l) (by omega);exact qD (qC (qE s.1) rfl (qC (fit_sl (congrArg zi (congrArg List.length s.2.1)) (fun _ _ _=>Fit.refl _)) rfl (qC (fit_sl (congrArg zi (congrArg List.length s.2.2)) (fun _ _ _=>Fit.refl _)) rfl qA))) (qD (qE hA) qB),rfl⟩
theorem show_0 {c:Clr} {l:List LookT}(hA:askE c l=0):FSpec Tryz.prog 8 [(clrS c),(lksS l)] [] (fun r _=>r=(.tup [(.agg [(.int .i64 (.sym fun _=>shM c l)),(.sl 1 (.sym fun _=>zi (shS c l).length) (fun ix=>[.int .i64 (.sym fun _=>(shS c l).getD ix.den.toNat 0)])),(.sl 1 (.sym fun _=>zi (shR c l).length) (fun ix=>[.int .i64 (.sym fun _=>(shR c l).getD ix.den.toNat 0)]))]),(.int .i64 (.lit (0)))])):=
  (show51 c l).post fun r bs q=>⟨_,by subst q;exact qD (Fit.refl _) (qD (qE hA) qB),rfl⟩
theorem leav_e {c:Clr} {l:List LookT} {e:Int}(hA:lookedF c l=e)(h:¬e=0):FSpec Tryz.prog 11 [(clrS c),(lksS l)] [] (fun r _=>r=(.tup [(.sl 1 (.lit 0) (fun ix=>[.int .i64 (.sym fun _=>(leaveL c l).getD ix.den.toNat 0)])),(.int .i64 (.sym fun _=>e))])):=
  (leave45 c l).post fun r bs q=>⟨_,by subst q;exact qD (fit_sl (congrArg zi (congrArg List.length (leave_e (by omega)))) (fun _ _ _=>Fit.refl _)) (qD (qE hA) qB),rfl⟩
theorem leav_0 {c:Clr} {l:List LookT}(hA:lookedF c l=0):FSpec Tryz.prog 11 [(clrS c),(lksS l)] [] (fun r _=>r=(.tup [(.sl 1 (.sym fun _=>zi (leaveL c l).length) (fun ix=>[.int .i64 (.sym fun _=>(leaveL c l).getD ix.den.toNat 0)])),(.int .i64 (.lit (0)))])):=
  (leave45 c l).post fun r bs q=>⟨_,by subst q;exact qD (Fit.refl _) (qD (qE hA) qB),rfl⟩
theorem prove_n {c:Clr} {l:List LookT} {rm:Int} {ss rs:List Int}(h:¬lookedF c l=0):proveB c l rm ss rs=false:=by
  unfold proveB
  rw [decide_eq_false h];rfl
theorem eqI_refl (n:Nat)(f:Nat→Int):eqI n f n f=true:=by
  unfold eqI
  rw [decide_eq_true rfl,Bool.true_and]
  exact allB_yes fun i _=>decide_eq_true rfl
theorem askE_bad2 {c:Clr} {l:List LookT}(h:¬lookedF c l=0):askE c l=lookedF c l:=by
  unfold askE
  rw [if_neg h]
set_option maxHeartbeats 1000000 in
theorem law3t (c:Clr)(l:List LookT)(rm:Int)(ss rs:List Int)(h:¬(thinB c l.length=true∧(faultC c=0→fewC c=true)∧ss.length≤9∧rs.length≤9)):FSpec Tryz.prog 3 [(clrS c),(lksS l),(.agg [(.int .i64 (.sym fun _=>rm)),(.sl 1 (.sym fun _=>zi (ss).length) (fun ix=>[.int .i64 (.sym fun _=>(ss).getD ix.den.toNat 0)])),(.sl 1 (.sym fun _=>zi (rs).length) (fun ix=>[.int .i64 (.sym fun _=>(rs).getD ix.den.toNat 0)]))])] [] (fun r _=>r=(.bool (.lit true))):=by
  have c7:=awake15
  have c4:=thin14 c l
  have c5:=fault20 c
  have c6:=fun h:faultC c=0=>few29 c (faultC_iff.1 h)
  refine FSpec.is fun R hR=>qX (sc:=sc3) tyok mix Tryz.func3 rfl Tryz.call3 (by kernel_rfl) (by kernel_rfl) ?_
  generalize Tryz.prog=P at c7 c4 c5 c6⊢
  cbv
  repeat' (first
      |with_reducible refine And.intro ?_ ?_
      |(with_reducible intro hcd;(try simp only [zA,zB,zC,zD,zE,zF,zG,zH,zI,zJ,zK,zL,zM,zN,zO,zP]at hcd);try cbv)
      | (refine qQ ?_ (c4) ?hfit
         case hfit=>((repeat' (first|exact qB|refine qD ?_ ?_|exact qE (by rfl)|exact qG (by rfl)|exact Fit.refl _|exact qA|refine qC ?_ rfl ?_));done)
         try cbv)
      | (refine qQ ?_ (c5) ?hfit
         case hfit=>((repeat' (first|exact qB|refine qD ?_ ?_|exact qE (by rfl)|exact qG (by rfl)|exact Fit.refl _|exact qA|refine qC ?_ rfl ?_));done)
         try cbv)
      | (refine qQ ?_ (c6 (show Hold _ from ?_)) ?hfit
         case hfit=>((repeat' (first|exact qB|refine qD ?_ ?_|exact qE (by rfl)|exact qG (by rfl)|exact Fit.refl _|exact qA|refine qC ?_ rfl ?_));done)
         try cbv)
      | (refine qQ ?_ (c7) ?hfit
         case hfit=>((repeat' (first|exact qB|refine qD ?_ ?_|exact qE (by rfl)|exact qG (by rfl)|exact Fit.refl _|exact qA|refine qC ?_ rfl ?_));done)
         try cbv)
      |fail)
  all_goals first
    |trivial
    |((try clear c7);(try clear c4);(try clear c5);(try clear c6);(subst hR;(repeat' (first|exact qA|exact qB|refine qC ?_ rfl ?_|refine qD ?_ ?_|exact qE (by rfl)|exact qG (by rfl)|exact Fit.refl _|exact qH _|(refine qE ?_;(try simp only [qW]at *);simp only [zQ,zA,zB,zC,zD,zE,zF,zG,zH,zI,zJ,zK,zL,zM,zN,zO,zP,zR,zS]at *;omega)));done))
    |((try clear c7);(try clear c4);(try clear c5);(try clear c6);(exfalso;(try simp only [qW]at *);(try simp only [zQ,zA,zB,zC,zD,zE,zF,zG,zH,zI,zJ,zK,zL,zM,zN,zO,zP,zR,zS]at *);exact h ⟨by assumption,fun _=>by assumption,by omega,by omega⟩))
    |((try clear c7);(try clear c4);(try clear c5);(try clear c6);(exfalso;(try simp only [qW]at *);(try simp only [zQ,zA,zB,zC,zD,zE,zF,zG,zH,zI,zJ,zK,zL,zM,zN,zO,zP,zR,zS]at *);exact h ⟨by assumption,fun q=>absurd q (by omega),by omega,by omega⟩))
    |skip
set_option maxHeartbeats 1000000 in
theorem law3e1 (c:Clr)(l:List LookT)(rm:Int)(ss rs:List Int)(hT:ThinC c l.length)(hs:ss.length≤9)(hr:rs.length≤9)(hF:¬faultC c=0):FSpec Tryz.prog 3 [(clrS c),(lksS l),(.agg [(.int .i64 (.sym fun _=>rm)),(.sl 1 (.sym fun _=>zi (ss).length) (fun ix=>[.int .i64 (.sym fun _=>(ss).getD ix.den.toNat 0)])),(.sl 1 (.sym fun _=>zi (rs).length) (fun ix=>[.int .i64 (.sym fun _=>(rs).getD ix.den.toNat 0)]))])] [] (fun r _=>r=(.bool (.lit true))):=by
  have hE:¬lookedF c l=0:=by rw [lookedF_bad hF];exact hF
  have c7:=awake15
  have c4:=lit_t (thin14 c l) (thin_iff.2 hT)
  have c9:=cellar17 c (by have:=hT.v;omega) (by have:=hT.t;omega) (fun i hi=>by have:=hT.p i hi;omega)
  have c10:=looks31 l (by have:=hT.n;omega)
  have c13:=truth19 rm ss rs (by omega) (by omega)
  have c5:=fault20 c
  have c8:=show_e (askE_bad2 hE) hE
  have c11:=leav_e rfl hE
  have c12:=lit_f (prove49 c l rm ss rs (by have:=hT.v;omega)) (prove_n hE)
  have c14:=looked33 c l
  refine FSpec.is fun R hR=>qX (sc:=sc3) tyok mix Tryz.func3 rfl Tryz.call3 (by kernel_rfl) (by kernel_rfl) ?_
  generalize Tryz.prog=P at c7 c4 c9 c10 c13 c5 c8 c11 c12 c14⊢
  cbv
  repeat' (first
      |with_reducible refine And.intro ?_ ?_
      |(with_reducible intro hcd;(try simp only [zA,zB,zC,zD,zE,zF,zG,zH,zI,zJ,zK,zL,zM,zN,zO,zP]at hcd);try cbv)
      | (refine qQ ?_ (c4) ?hfit
         case hfit=>((repeat' (first|exact qB|refine qD ?_ ?_|exact qE (by rfl)|exact qG (by rfl)|exact Fit.refl _|exact qA|refine qC ?_ rfl ?_));done)
         try cbv)
      | (refine qQ ?_ (c5) ?hfit
         case hfit=>((repeat' (first|exact qB|refine qD ?_ ?_|exact qE (by rfl)|exact qG (by rfl)|exact Fit.refl _|exact qA|refine qC ?_ rfl ?_));done)
         try cbv)
      | (refine qQ ?_ (c7) ?hfit
         case hfit=>((repeat' (first|exact qB|refine qD ?_ ?_|exact qE (by rfl)|exact qG (by rfl)|exact Fit.refl _|exact qA|refine qC ?_ rfl ?_));done)
         try cbv)
      | (refine qQ ?_ (c9) ?hfit
         case hfit=>((repeat' (first|exact qB|refine qD ?_ ?_|exact qE (by rfl)|exact qG (by rfl)|exact Fit.refl _|exact qA|refine qC ?_ rfl ?_));done)
         try cbv)
      | (refine qQ ?_ (c10) ?hfit
         case hfit=>((repeat' (first|exact qB|refine qD ?_ ?_|exact qE (by rfl)|exact qG (by rfl)|exact Fit.refl _|exact qA|refine qC ?_ rfl ?_));done)
         try cbv)
      | (refine qQ ?_ (c8) ?hfit
         case hfit=>((repeat' (first|exact qB|refine qD ?_ ?_|exact qE (by rfl)|exact qG (by rfl)|exact Fit.refl _|exact qA|refine qC ?_ rfl ?_));done)
         try cbv)
      | (refine qQ ?_ (c11) ?hfit
         case hfit=>((repeat' (first|exact qB|refine qD ?_ ?_|exact qE (by rfl)|exact qG (by rfl)|exact Fit.refl _|exact qA|refine qC ?_ rfl ?_));done)
         try cbv)
      | (refine qQ ?_ (c13) ?hfit
         case hfit=>((repeat' (first|exact qB|refine qD ?_ ?_|exact qE (by rfl)|exact qG (by rfl)|exact Fit.refl _|exact qA|refine qC ?_ rfl ?_));done)
         try cbv)
      | (refine qQ ?_ (c12) ?hfit
         case hfit=>((repeat' (first|exact qB|refine qD ?_ ?_|exact qE (by rfl)|exact qG (by rfl)|exact Fit.refl _|exact qA|refine qC ?_ rfl ?_));done)
         try cbv)
      | (refine qQ ?_ (c14) ?hfit
         case hfit=>((repeat' (first|exact qB|refine qD ?_ ?_|exact qE (by rfl)|exact qG (by rfl)|exact Fit.refl _|exact qA|refine qC ?_ rfl ?_));done)
         try cbv)
      |fail)
  all_goals first
    |trivial
    |((try clear c7);(try clear c4);(try clear c9);(try clear c10);(try clear c13);(try clear c5);(try clear c8);(try clear c11);(try clear c12);(try clear c14);(subst hR;(repeat' (first|exact qA|exact qB|refine qC ?_ rfl ?_|refine qD ?_ ?_|exact qE (by rfl)|exact qG (by rfl)|exact Fit.refl _|exact qH _|(refine qE ?_;(try simp only [qW]at *);simp only [zQ,zA,zB,zC,zD,zE,zF,zG,zH,zI,zJ,zK,zL,zM,zN,zO,zP,zR,zS]at *;omega)));done))
    |skip
set_option maxHeartbeats 1000000 in
theorem law3e2 (c:Clr)(l:List LookT)(rm:Int)(ss rs:List Int)(hT:ThinC c l.length)(hs:ss.length≤9)(hr:rs.length≤9)(hC:COk c)(hF:fewC c=true)(hE:¬lookedF c l=0):FSpec Tryz.prog 3 [(clrS c),(lksS l),(.agg [(.int .i64 (.sym fun _=>rm)),(.sl 1 (.sym fun _=>zi (ss).length) (fun ix=>[.int .i64 (.sym fun _=>(ss).getD ix.den.toNat 0)])),(.sl 1 (.sym fun _=>zi (rs).length) (fun ix=>[.int .i64 (.sym fun _=>(rs).getD ix.den.toNat 0)]))])] [] (fun r _=>r=(.bool (.lit true))):=by
  have c7:=awake15
  have c4:=lit_t (thin14 c l) (thin_iff.2 hT)
  have c9:=cellar17 c (by have:=hT.v;omega) (by have:=hT.t;omega) (fun i hi=>by have:=hT.p i hi;omega)
  have c10:=looks31 l (by have:=hT.n;omega)
  have c13:=truth19 rm ss rs (by omega) (by omega)
  have c5:=lit_i (fault20 c) (faultC_iff.2 hC)
  have c6:=lit_t (few29 c hC) hF
  have c8:=show_e (askE_bad2 hE) hE
  have c11:=leav_e rfl hE
  have c12:=lit_f (prove49 c l rm ss rs (by have:=hT.v;omega)) (prove_n hE)
  have c14:=looked33 c l
  refine FSpec.is fun R hR=>qX (sc:=sc3) tyok mix Tryz.func3 rfl Tryz.call3 (by kernel_rfl) (by kernel_rfl) ?_
  generalize Tryz.prog=P at c7 c4 c9 c10 c13 c5 c6 c8 c11 c12 c14⊢
  cbv
  repeat' (first
      |with_reducible refine And.intro ?_ ?_
      |(with_reducible intro hcd;(try simp only [zA,zB,zC,zD,zE,zF,zG,zH,zI,zJ,zK,zL,zM,zN,zO,zP]at hcd);try cbv)
      | (refine qQ ?_ (c4) ?hfit
         case hfit=>((repeat' (first|exact qB|refine qD ?_ ?_|exact qE (by rfl)|exact qG (by rfl)|exact Fit.refl _|exact qA|refine qC ?_ rfl ?_));done)
         try cbv)
      | (refine qQ ?_ (c5) ?hfit
         case hfit=>((repeat' (first|exact qB|refine qD ?_ ?_|exact qE (by rfl)|exact qG (by rfl)|exact Fit.refl _|exact qA|refine qC ?_ rfl ?_));done)
         try cbv)
      | (refine qQ ?_ (c6) ?hfit
         case hfit=>((repeat' (first|exact qB|refine qD ?_ ?_|exact qE (by rfl)|exact qG (by rfl)|exact Fit.refl _|exact qA|refine qC ?_ rfl ?_));done)
         try cbv)
      | (refine qQ ?_ (c7) ?hfit
         case hfit=>((repeat' (first|exact qB|refine qD ?_ ?_|exact qE (by rfl)|exact qG (by rfl)|exact Fit.refl _|exact qA|refine qC ?_ rfl ?_));done)
         try cbv)
      | (refine qQ ?_ (c9) ?hfit
         case hfit=>((repeat' (first|exact qB|refine qD ?_ ?_|exact qE (by rfl)|exact qG (by rfl)|exact Fit.refl _|exact qA|refine qC ?_ rfl ?_));done)
         try cbv)
      | (refine qQ ?_ (c10) ?hfit
         case hfit=>((repeat' (first|exact qB|refine qD ?_ ?_|exact qE (by rfl)|exact qG (by rfl)|exact Fit.refl _|exact qA|refine qC ?_ rfl ?_));done)
         try cbv)
      | (refine qQ ?_ (c8) ?hfit
         case hfit=>((repeat' (first|exact qB|refine qD ?_ ?_|exact qE (by rfl)|exact qG (by rfl)|exact Fit.refl _|exact qA|refine qC ?_ rfl ?_));done)
         try cbv)
      | (refine qQ ?_ (c11) ?hfit
         case hfit=>((repeat' (first|exact qB|refine qD ?_ ?_|exact qE (by rfl)|exact qG (by rfl)|exact Fit.refl _|exact qA|refine qC ?_ rfl ?_));done)
         try cbv)
      | (refine qQ ?_ (c13) ?hfit
         case hfit=>((repeat' (first|exact qB|refine qD ?_ ?_|exact qE (by rfl)|exact qG (by rfl)|exact Fit.refl _|exact qA|refine qC ?_ rfl ?_));done)
         try cbv)
      | (refine qQ ?_ (c12) ?hfit
         case hfit=>((repeat' (first|exact qB|refine qD ?_ ?_|exact qE (by rfl)|exact qG (by rfl)|exact Fit.refl _|exact qA|refine qC ?_ rfl ?_));done)
         try cbv)
      | (refine qQ ?_ (c14) ?hfit
         case hfit=>((repeat' (first|exact qB|refine qD ?_ ?_|exact qE (by rfl)|exact qG (by rfl)|exact Fit.refl _|exact qA|refine qC ?_ rfl ?_));done)
         try cbv)
      |fail)
  all_goals first
    |trivial
    |((try clear c7);(try clear c4);(try clear c9);(try clear c10);(try clear c13);(try clear c5);(try clear c6);(try clear c8);(try clear c11);(try clear c12);(try clear c14);(subst hR;(repeat' (first|exact qA|exact qB|refine qC ?_ rfl ?_|refine qD ?_ ?_|exact qE (by rfl)|exact qG (by rfl)|exact Fit.refl _|exact qH _|(refine qE ?_;(try simp only [qW]at *);simp only [zQ,zA,zB,zC,zD,zE,zF,zG,zH,zI,zJ,zK,zL,zM,zN,zO,zP,zR,zS]at *;omega)));done))
    |skip
set_option maxHeartbeats 1000000 in
theorem law3n (c:Clr)(l:List LookT)(rm:Int)(ss rs:List Int)(hT:ThinC c l.length)(hs:ss.length≤9)(hr:rs.length≤9)(hC:COk c)(hF:fewC c=true)(hL:lookedF c l=0)(hA:askE c l=11):FSpec Tryz.prog 3 [(clrS c),(lksS l),(.agg [(.int .i64 (.sym fun _=>rm)),(.sl 1 (.sym fun _=>zi (ss).length) (fun ix=>[.int .i64 (.sym fun _=>(ss).getD ix.den.toNat 0)])),(.sl 1 (.sym fun _=>zi (rs).length) (fun ix=>[.int .i64 (.sym fun _=>(rs).getD ix.den.toNat 0)]))])] [] (fun r _=>r=(.bool (.lit true))):=by
  have hll:(leaveL c l).length≤6:=by
    have h6:=(lookedF_spec hL).2.n
    rcases asc_room (leave_spec hL).1 with e|e
    · rw [e];simp
    · omega
  have c7:=awake15
  have c4:=lit_t (thin14 c l) (thin_iff.2 hT)
  have c9:=cellar17 c (by have:=hT.v;omega) (by have:=hT.t;omega) (fun i hi=>by have:=hT.p i hi;omega)
  have c10:=looks31 l (by have:=hT.n;omega)
  have c13:=truth19 rm ss rs (by omega) (by omega)
  have c5:=lit_i (fault20 c) (faultC_iff.2 hC)
  have c6:=lit_t (few29 c hC) hF
  have c14:=lit_i (looked33 c l) hL
  have c15:=every34 c l hC (lookedF_spec hL).2
  have c11:=leav_0 hL
  have c12:=prove49 c l rm ss rs (by have:=hT.v;omega)
  have c16:=of16 hL rm ss rs
  have c18:=(show FSpec Tryz.prog 18 [(lksS l),(.sl 1 (.sym fun _=>zi (nRm c)) (fun rx=>[(.sl 1 (.sym fun _=>zi (c.vs.length)) (fun vx=>[(.sl 2 (.sym fun _=>zi (nW c vx.den.toNat)) (fun ix=>[(.sl 1 (.sym fun _=>zi (c.hr.toNat+1)) (fun jx=>[(.int .i64 (.sym fun _=>runE c rx.den.toNat vx.den.toNat ix.den.toNat jx.den.toNat))])),(.int .i64 (.sym fun _=>zi (wrE c l rx.den.toNat vx.den.toNat ix.den.toNat)))]))]))]))] [] (fun r _=>r=(.sl 1 (.sym fun _=>zi (leaveL c l).length) (fun ix=>[.int .i64 (.sym fun _=>(leaveL c l).getD ix.den.toNat 0)])))from by have:=leave18 c l (2^l.length) hL rfl;rwa [leave_ref hL (fun b _=>has_out hL b)]at this)
  have c17:=lit_t (ints27 (leaveL c l).length (leaveL c l).length (fun i=>(leaveL c l).getD i 0) (fun i=>(leaveL c l).getD i 0) (by omega) (by omega)) (eqI_refl _ _)
  have c8:=show_e hA (by omega)
  have c19:=lit_f (has_ref hL 0 (by omega)) (by cases q:hasA (nRm c) c.vs.length (nW c) (wrE c l) 0 with|false=>rfl|true=>exact absurd ((has_iff hL).1 q) (by omega))
  refine FSpec.is fun R hR=>qX (sc:=sc3) tyok mix Tryz.func3 rfl Tryz.call3 (by kernel_rfl) (by kernel_rfl) ?_
  generalize Tryz.prog=P at c7 c4 c9 c10 c13 c5 c6 c14 c15 c11 c12 c16 c18 c17 c8 c19⊢
  cbv
  repeat' (first
      |with_reducible refine And.intro ?_ ?_
      |(with_reducible intro hcd;(try simp only [zA,zB,zC,zD,zE,zF,zG,zH,zI,zJ,zK,zL,zM,zN,zO,zP]at hcd);try cbv)
      | (refine qQ ?_ (c4) ?hfit
         case hfit=>((repeat' (first|exact qB|refine qD ?_ ?_|exact qE (by rfl)|exact qG (by rfl)|exact Fit.refl _|exact qA|refine qC ?_ rfl ?_));done)
         try cbv)
      | (refine qQ ?_ (c5) ?hfit
         case hfit=>((repeat' (first|exact qB|refine qD ?_ ?_|exact qE (by rfl)|exact qG (by rfl)|exact Fit.refl _|exact qA|refine qC ?_ rfl ?_));done)
         try cbv)
      | (refine qQ ?_ (c6) ?hfit
         case hfit=>((repeat' (first|exact qB|refine qD ?_ ?_|exact qE (by rfl)|exact qG (by rfl)|exact Fit.refl _|exact qA|refine qC ?_ rfl ?_));done)
         try cbv)
      | (refine qQ ?_ (c7) ?hfit
         case hfit=>((repeat' (first|exact qB|refine qD ?_ ?_|exact qE (by rfl)|exact qG (by rfl)|exact Fit.refl _|exact qA|refine qC ?_ rfl ?_));done)
         try cbv)
      | (refine qQ ?_ (c9) ?hfit
         case hfit=>((repeat' (first|exact qB|refine qD ?_ ?_|exact qE (by rfl)|exact qG (by rfl)|exact Fit.refl _|exact qA|refine qC ?_ rfl ?_));done)
         try cbv)
      | (refine qQ ?_ (c10) ?hfit
         case hfit=>((repeat' (first|exact qB|refine qD ?_ ?_|exact qE (by rfl)|exact qG (by rfl)|exact Fit.refl _|exact qA|refine qC ?_ rfl ?_));done)
         try cbv)
      | (refine qQ ?_ (c8) ?hfit
         case hfit=>((repeat' (first|exact qB|refine qD ?_ ?_|exact qE (by rfl)|exact qG (by rfl)|exact Fit.refl _|exact qA|refine qC ?_ rfl ?_));done)
         try cbv)
      | (refine qQ ?_ (c11) ?hfit
         case hfit=>((repeat' (first|exact qB|refine qD ?_ ?_|exact qE (by rfl)|exact qG (by rfl)|exact Fit.refl _|exact qA|refine qC ?_ rfl ?_));done)
         try cbv)
      | (refine qQ ?_ (c13) ?hfit
         case hfit=>((repeat' (first|exact qB|refine qD ?_ ?_|exact qE (by rfl)|exact qG (by rfl)|exact Fit.refl _|exact qA|refine qC ?_ rfl ?_));done)
         try cbv)
      | (refine qQ ?_ (c12) ?hfit
         case hfit=>((repeat' (first|exact qB|refine qD ?_ ?_|exact qE (by rfl)|exact qG (by rfl)|exact Fit.refl _|exact qA|refine qC ?_ rfl ?_));done)
         try cbv)
      | (refine qQ ?_ (c14) ?hfit
         case hfit=>((repeat' (first|exact qB|refine qD ?_ ?_|exact qE (by rfl)|exact qG (by rfl)|exact Fit.refl _|exact qA|refine qC ?_ rfl ?_));done)
         try cbv)
      | (refine qQ ?_ (c15) ?hfit
         case hfit=>((repeat' (first|exact qB|refine qD ?_ ?_|exact qE (by rfl)|exact qG (by rfl)|exact Fit.refl _|exact qA|refine qC ?_ rfl ?_));done)
         try cbv)
      | (refine qQ ?_ (c16) ?hfit
         case hfit=>((repeat' (first|exact qB|refine qD ?_ ?_|exact qE (by rfl)|exact qG (by rfl)|exact Fit.refl _|exact qA|refine qC ?_ rfl ?_));done)
         try cbv)
      | (refine qQ ?_ (c18) ?hfit
         case hfit=>((repeat' (first|exact qB|refine qD ?_ ?_|exact qE (by rfl)|exact qG (by rfl)|exact Fit.refl _|exact qA|refine qC ?_ rfl ?_));done)
         try cbv)
      | (refine qQ ?_ (c17) ?hfit
         case hfit=>((repeat' (first|exact qB|refine qD ?_ ?_|exact qE (by rfl)|exact qG (by rfl)|exact Fit.refl _|exact qA|refine qC ?_ rfl ?_));done)
         try cbv)
      | (refine qQ ?_ (c19) ?hfit
         case hfit=>((repeat' (first|exact qB|refine qD ?_ ?_|exact qE (by rfl)|exact qG (by rfl)|exact Fit.refl _|exact qA|refine qC ?_ rfl ?_));done)
         try cbv)
      |fail)
  all_goals first
    |trivial
    |((try clear c7);(try clear c4);(try clear c9);(try clear c10);(try clear c13);(try clear c5);(try clear c6);(try clear c14);(try clear c15);(try clear c11);(try clear c12);(try clear c16);(try clear c18);(try clear c17);(try clear c8);(try clear c19);(subst hR;(repeat' (first|exact qA|exact qB|refine qC ?_ rfl ?_|refine qD ?_ ?_|exact qE (by rfl)|exact qG (by rfl)|exact Fit.refl _|exact qH _|(refine qE ?_;(try simp only [qW]at *);simp only [zQ,zA,zB,zC,zD,zE,zF,zG,zH,zI,zJ,zK,zL,zM,zN,zO,zP,zR,zS]at *;omega)));done))
    |((try clear c7);(try clear c4);(try clear c9);(try clear c10);(try clear c13);(try clear c5);(try clear c6);(try clear c14);(try clear c15);(try clear c11);(try clear c12);(try clear c16);(try clear c18);(try clear c17);(try clear c8);(try clear c19);(exfalso;(have q:(proveB c l rm ss rs==proveB c l rm ss rs)=false:=by assumption);rw [beq_self_eq_true]at q;cases q))
    |skip
set_option maxHeartbeats 1000000 in
theorem law3y (c:Clr)(l:List LookT)(rm:Int)(ss rs:List Int)(hT:ThinC c l.length)(hs:ss.length≤9)(hr:rs.length≤9)(hC:COk c)(hF:fewC c=true)(hL:lookedF c l=0)(hA:askE c l=0):FSpec Tryz.prog 3 [(clrS c),(lksS l),(.agg [(.int .i64 (.sym fun _=>rm)),(.sl 1 (.sym fun _=>zi (ss).length) (fun ix=>[.int .i64 (.sym fun _=>(ss).getD ix.den.toNat 0)])),(.sl 1 (.sym fun _=>zi (rs).length) (fun ix=>[.int .i64 (.sym fun _=>(rs).getD ix.den.toNat 0)]))])] [] (fun r _=>r=(.bool (.lit true))):=by
  have hll:(leaveL c l).length≤6:=by
    have h6:=(lookedF_spec hL).2.n
    rcases asc_room (leave_spec hL).1 with e|e
    · rw [e];simp
    · omega
  have hv3:=hC.few.v
  have hsy:=sh_yes hA
  have hsl:=showS_len c l (shM c l) c.vs.length
  have e1:(shS c l).length≤3:=by rw [hsy.2.1,hsl.1];exact hv3
  have e2:(shR c l).length≤3:=by rw [hsy.2.2,hsl.2];exact hv3
  have c7:=awake15
  have c4:=lit_t (thin14 c l) (thin_iff.2 hT)
  have c9:=cellar17 c (by have:=hT.v;omega) (by have:=hT.t;omega) (fun i hi=>by have:=hT.p i hi;omega)
  have c10:=looks31 l (by have:=hT.n;omega)
  have c13:=truth19 rm ss rs (by omega) (by omega)
  have c5:=lit_i (fault20 c) (faultC_iff.2 hC)
  have c6:=lit_t (few29 c hC) hF
  have c14:=lit_i (looked33 c l) hL
  have c15:=every34 c l hC (lookedF_spec hL).2
  have c11:=leav_0 hL
  have c12:=prove49 c l rm ss rs (by have:=hT.v;omega)
  have c16:=of16 hL rm ss rs
  have c18:=(show FSpec Tryz.prog 18 [(lksS l),(.sl 1 (.sym fun _=>zi (nRm c)) (fun rx=>[(.sl 1 (.sym fun _=>zi (c.vs.length)) (fun vx=>[(.sl 2 (.sym fun _=>zi (nW c vx.den.toNat)) (fun ix=>[(.sl 1 (.sym fun _=>zi (c.hr.toNat+1)) (fun jx=>[(.int .i64 (.sym fun _=>runE c rx.den.toNat vx.den.toNat ix.den.toNat jx.den.toNat))])),(.int .i64 (.sym fun _=>zi (wrE c l rx.den.toNat vx.den.toNat ix.den.toNat)))]))]))]))] [] (fun r _=>r=(.sl 1 (.sym fun _=>zi (leaveL c l).length) (fun ix=>[.int .i64 (.sym fun _=>(leaveL c l).getD ix.den.toNat 0)])))from by have:=leave18 c l (2^l.length) hL rfl;rwa [leave_ref hL (fun b _=>has_out hL b)]at this)
  have c17:=lit_t (ints27 (leaveL c l).length (leaveL c l).length (fun i=>(leaveL c l).getD i 0) (fun i=>(leaveL c l).getD i 0) (by omega) (by omega)) (eqI_refl _ _)
  have c8:=show_0 hA
  have c19:=lit_t (has_ref hL 0 (by omega)) ((has_iff hL).2 hA)
  have c20:=back20 (shM c l) (shS c l) (shR c l) (by omega) (by omega)
  have c16b:=lit_t (of16 hL (shM c l) (shS c l) (shR c l)) (show_prove hA)
  refine FSpec.is fun R hR=>qX (sc:=sc3) tyok mix Tryz.func3 rfl Tryz.call3 (by kernel_rfl) (by kernel_rfl) ?_
  generalize Tryz.prog=P at c7 c4 c9 c10 c13 c5 c6 c14 c15 c11 c12 c16 c18 c17 c8 c19 c20 c16b⊢
  cbv
  repeat' (first
      |with_reducible refine And.intro ?_ ?_
      |(with_reducible intro hcd;(try simp only [zA,zB,zC,zD,zE,zF,zG,zH,zI,zJ,zK,zL,zM,zN,zO,zP]at hcd);try cbv)
      | (refine qQ ?_ (c4) ?hfit
         case hfit=>((repeat' (first|exact qB|refine qD ?_ ?_|exact qE (by rfl)|exact qG (by rfl)|exact Fit.refl _|exact qA|refine qC ?_ rfl ?_));done)
         try cbv)
      | (refine qQ ?_ (c5) ?hfit
         case hfit=>((repeat' (first|exact qB|refine qD ?_ ?_|exact qE (by rfl)|exact qG (by rfl)|exact Fit.refl _|exact qA|refine qC ?_ rfl ?_));done)
         try cbv)
      | (refine qQ ?_ (c6) ?hfit
         case hfit=>((repeat' (first|exact qB|refine qD ?_ ?_|exact qE (by rfl)|exact qG (by rfl)|exact Fit.refl _|exact qA|refine qC ?_ rfl ?_));done)
         try cbv)
      | (refine qQ ?_ (c7) ?hfit
         case hfit=>((repeat' (first|exact qB|refine qD ?_ ?_|exact qE (by rfl)|exact qG (by rfl)|exact Fit.refl _|exact qA|refine qC ?_ rfl ?_));done)
         try cbv)
      | (refine qQ ?_ (c9) ?hfit
         case hfit=>((repeat' (first|exact qB|refine qD ?_ ?_|exact qE (by rfl)|exact qG (by rfl)|exact Fit.refl _|exact qA|refine qC ?_ rfl ?_));done)
         try cbv)
      | (refine qQ ?_ (c10) ?hfit
         case hfit=>((repeat' (first|exact qB|refine qD ?_ ?_|exact qE (by rfl)|exact qG (by rfl)|exact Fit.refl _|exact qA|refine qC ?_ rfl ?_));done)
         try cbv)
      | (refine qQ ?_ (c8) ?hfit
         case hfit=>((repeat' (first|exact qB|refine qD ?_ ?_|exact qE (by rfl)|exact qG (by rfl)|exact Fit.refl _|exact qA|refine qC ?_ rfl ?_));done)
         try cbv)
      | (refine qQ ?_ (c11) ?hfit
         case hfit=>((repeat' (first|exact qB|refine qD ?_ ?_|exact qE (by rfl)|exact qG (by rfl)|exact Fit.refl _|exact qA|refine qC ?_ rfl ?_));done)
         try cbv)
      | (refine qQ ?_ (c13) ?hfit
         case hfit=>((repeat' (first|exact qB|refine qD ?_ ?_|exact qE (by rfl)|exact qG (by rfl)|exact Fit.refl _|exact qA|refine qC ?_ rfl ?_));done)
         try cbv)
      | (refine qQ ?_ (c12) ?hfit
         case hfit=>((repeat' (first|exact qB|refine qD ?_ ?_|exact qE (by rfl)|exact qG (by rfl)|exact Fit.refl _|exact qA|refine qC ?_ rfl ?_));done)
         try cbv)
      | (refine qQ ?_ (c14) ?hfit
         case hfit=>((repeat' (first|exact qB|refine qD ?_ ?_|exact qE (by rfl)|exact qG (by rfl)|exact Fit.refl _|exact qA|refine qC ?_ rfl ?_));done)
         try cbv)
      | (refine qQ ?_ (c15) ?hfit
         case hfit=>((repeat' (first|exact qB|refine qD ?_ ?_|exact qE (by rfl)|exact qG (by rfl)|exact Fit.refl _|exact qA|refine qC ?_ rfl ?_));done)
         try cbv)
      | (refine qQ ?_ (c16) ?hfit
         case hfit=>((repeat' (first|exact qB|refine qD ?_ ?_|exact qE (by rfl)|exact qG (by rfl)|exact Fit.refl _|exact qA|refine qC ?_ rfl ?_));done)
         try cbv)
      | (refine qQ ?_ (c18) ?hfit
         case hfit=>((repeat' (first|exact qB|refine qD ?_ ?_|exact qE (by rfl)|exact qG (by rfl)|exact Fit.refl _|exact qA|refine qC ?_ rfl ?_));done)
         try cbv)
      | (refine qQ ?_ (c17) ?hfit
         case hfit=>((repeat' (first|exact qB|refine qD ?_ ?_|exact qE (by rfl)|exact qG (by rfl)|exact Fit.refl _|exact qA|refine qC ?_ rfl ?_));done)
         try cbv)
      | (refine qQ ?_ (c19) ?hfit
         case hfit=>((repeat' (first|exact qB|refine qD ?_ ?_|exact qE (by rfl)|exact qG (by rfl)|exact Fit.refl _|exact qA|refine qC ?_ rfl ?_));done)
         try cbv)
      | (refine qQ ?_ (c20) ?hfit
         case hfit=>((repeat' (first|exact qB|refine qD ?_ ?_|exact qE (by rfl)|exact qG (by rfl)|exact Fit.refl _|exact qA|refine qC ?_ rfl ?_));done)
         try cbv)
      | (refine qQ ?_ (c16b) ?hfit
         case hfit=>((repeat' (first|exact qB|refine qD ?_ ?_|exact qE (by rfl)|exact qG (by rfl)|exact Fit.refl _|exact qA|refine qC ?_ rfl ?_));done)
         try cbv)
      |fail)
  all_goals first
    |((try clear c7);(try clear c4);(try clear c9);(try clear c10);(try clear c13);(try clear c5);(try clear c6);(try clear c14);(try clear c15);(try clear c11);(try clear c12);(try clear c16);(try clear c18);(try clear c17);(try clear c8);(try clear c19);(try clear c20);(try clear c16b);(subst hR;(repeat' (first|exact qA|exact qB|refine qC ?_ rfl ?_|refine qD ?_ ?_|exact qE (by rfl)|exact qG (by rfl)|exact Fit.refl _|exact qH _|(refine qE ?_;(try simp only [qW]at *);simp only [zQ,zA,zB,zC,zD,zE,zF,zG,zH,zI,zJ,zK,zL,zM,zN,zO,zP,zR,zS]at *;omega)));done))
    |((try clear c7);(try clear c4);(try clear c9);(try clear c10);(try clear c13);(try clear c5);(try clear c6);(try clear c14);(try clear c15);(try clear c11);(try clear c12);(try clear c16);(try clear c18);(try clear c17);(try clear c8);(try clear c19);(try clear c20);(try clear c16b);(exfalso;(have q:(proveB c l rm ss rs==proveB c l rm ss rs)=false:=by assumption);rw [beq_self_eq_true]at q;cases q))
    |skip
theorem law3 (c:Clr)(l:List LookT)(rm:Int)(ss rs:List Int):FSpec Tryz.prog 3 [(clrS c),(lksS l),(.agg [(.int .i64 (.sym fun _=>rm)),(.sl 1 (.sym fun _=>zi (ss).length) (fun ix=>[.int .i64 (.sym fun _=>(ss).getD ix.den.toNat 0)])),(.sl 1 (.sym fun _=>zi (rs).length) (fun ix=>[.int .i64 (.sym fun _=>(rs).getD ix.den.toNat 0)]))])] [] (fun r _=>r = .bool (.lit true)):=by
  by_cases h:thinB c l.length=true∧(faultC c=0→fewC c=true)∧ss.length≤9∧rs.length≤9
  · obtain⟨hT,hf,hs,hr⟩:=h
    have hT:=thin_iff.1 hT
    by_cases hF:faultC c=0
    · have hC:=faultC_iff.1 hF
      by_cases hL:lookedF c l=0
      · by_cases hA:askE c l=0
        · exact law3y c l rm ss rs hT hs hr hC (hf hF) hL hA
        · exact law3n c l rm ss rs hT hs hr hC (hf hF) hL (by unfold askE at hA⊢;rw [if_pos hL]at hA⊢;split<;>simp_all)
      · exact law3e2 c l rm ss rs hT hs hr hC (hf hF) hL
    · exact law3e1 c l rm ss rs hT hs hr hF
  · exact law3t c l rm ss rs h
end Go.Proofs.YteelocfbbhchcaaGreat
