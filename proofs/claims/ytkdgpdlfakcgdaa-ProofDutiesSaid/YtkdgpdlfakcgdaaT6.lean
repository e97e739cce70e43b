/- Contracts of the functions that the law comes to. No condition. -/
import Derived.Test.YtkdgpdlfakcgdaaT5
import Derived.Test.YtkdgpdlfakcgdaaRows
set_option linter.unusedVariables false
set_option linter.unusedSimpArgs false
set_option linter.deprecated false

namespace Go.Proofs.Ytkdgpdlfakcgdaa
open Go Go.Eng Go.Proofs
theorem own4 :ownKnob Try.prog.godebug=none:=by kernel_rfl
theorem kids4 :Kids Try.prog (· <Try.prog.types.size):=kids_rows (by kernel_rfl) (by kernel_rfl)
theorem full4 :∀t e,t<Try.prog.types.size→Try.prog.underlying t=some (.slice e)→0<Try.prog.cellsOf e:=slices_full_of Try.prog (by kernel_rfl)
theorem u3 :Try.prog.underlying 3=some (.int .i64):=by kernel_rfl
theorem u4 :Try.prog.underlying 4=some .bool:=by kernel_rfl
theorem u22 :Try.prog.underlying 22=some (.slice 3):=by kernel_rfl
theorem u23 :Try.prog.underlying 23=some (.slice 22):=by kernel_rfl
theorem u25 :Try.prog.underlying 25=some (.struct (Try.prog.fieldsOf 25)):=by kernel_rfl
theorem u26 :Try.prog.underlying 26=some (.slice 81):=by kernel_rfl
theorem u28 :Try.prog.underlying 28=some (.struct (Try.prog.fieldsOf 28)):=by kernel_rfl
theorem u46 :Try.prog.underlying 46=some (.struct (Try.prog.fieldsOf 46)):=by kernel_rfl
theorem u81 :Try.prog.underlying 81=some (.struct (Try.prog.fieldsOf 81)):=by kernel_rfl
structure Sto where
  tw:List Int
  tm:List Int
  tv:List (List Int)
  rate:Int
  cs:List Csk
section
variable {H:Type} {enc:TypeId×Value→H} {W:World} {base:Nat} {sp:Nat→Bool} {held:Bool}
theorem dec3 :Dec enc Try.prog W base sp held 3 Int (fun n=>(Lit.int .i64 n).wf=true) (fun n=>[.int .i64 (.sym fun _=>n)]):=dec_int u3
theorem dec22 :Dec enc Try.prog W base sp held 22 (List Int) (fun l=>(∀a∈l,(Lit.int .i64 a).wf=true)∧l.length≤maxLen) (fun l=>[.sl 1 (.sym fun _=>zi l.length) (fun ix=>[.int .i64 (.sym fun _=>l.getD ix.den.toNat 0)])]):=
  dec_sl 0 u22 (by kernel_rfl) (by decide) dec3
theorem dec23 :Dec enc Try.prog W base sp held 23 (List (List Int)) (fun _=>True) (fun l=>[.sl 1 (.sym fun _=>zi l.length) (fun ix=>[.sl 1 (.sym fun _=>zi (l.getD ix.den.toNat []).length) (fun jx=>[.int .i64 (.sym fun _=>(l.getD ix.den.toNat []).getD jx.den.toNat 0)])])]):=
  dec_map id (dec_sl [] u23 (by kernel_rfl) (by decide) dec22) (fun _ _=>trivial) (fun _=>rfl)
theorem dec46 :Dec enc Try.prog W base sp held 46 (Int×Int) (fun p=>(Lit.int .i64 p.1).wf=true∧(Lit.int .i64 p.2).wf=true) (fun p=>[.int .i64 (.sym fun _=>p.1),.int .i64 (.sym fun _=>p.2)]):=
  dec_map (fun p:Int×Int×Unit=>(p.1,p.2.1)) (dec_str (fl:=[(0,3),(1,3)]) (tot:=2) u46 (by kernel_rfl) (by kernel_rfl) (decF_cons (m:=1) (by kernel_rfl) dec3 (decF_cons (m:=1) (by kernel_rfl) dec3 decF_nil))) (fun _ h=>⟨h.1,h.2.1⟩) (fun _=>rfl)
theorem dec81 :Dec enc Try.prog W base sp held 81 Csk (fun _=>True) (fun c=>[.int .i64 (.sym fun _=>c.g),.int .i64 (.sym fun _=>c.wl),.int .i64 (.sym fun _=>c.wh),.int .i64 (.sym fun _=>c.ml),.int .i64 (.sym fun _=>c.mh)]):=
  dec_map (fun p:Int×(Int×Int)×(Int×Int)×Unit=>⟨p.1,p.2.1.1,p.2.1.2,p.2.2.1.1,p.2.2.1.2⟩) (dec_str (fl:=[(0,3),(1,46),(3,46)]) (tot:=5) u81 (by kernel_rfl) (by kernel_rfl) (decF_cons (m:=1) (by kernel_rfl) dec3 (decF_cons (m:=2) (by kernel_rfl) dec46 (decF_cons (m:=2) (by kernel_rfl) dec46 decF_nil)))) (fun _ _=>trivial) (fun _=>rfl)
theorem dec26 :Dec enc Try.prog W base sp held 26 (List Csk) (fun l=>l.length≤maxLen) (fun l=>[.sl 5 (.sym fun _=>zi l.length) (fun ix=>[.int .i64 (.sym fun _=>(l.getD ix.den.toNat ck0).g),.int .i64 (.sym fun _=>(l.getD ix.den.toNat ck0).wl),.int .i64 (.sym fun _=>(l.getD ix.den.toNat ck0).wh),.int .i64 (.sym fun _=>(l.getD ix.den.toNat ck0).ml),.int .i64 (.sym fun _=>(l.getD ix.den.toNat ck0).mh)])]):=
  dec_map id (dec_sl ck0 u26 (by kernel_rfl) (by decide) dec81) (fun _ h=>h.2) (fun _=>rfl)
theorem dec25 :Dec enc Try.prog W base sp held 25 (List Int×List Int×List (List Int)) (fun _=>True) (fun p=>[.sl 1 (.sym fun _=>zi p.1.length) (fun ix=>[.int .i64 (.sym fun _=>p.1.getD ix.den.toNat 0)]),.sl 1 (.sym fun _=>zi p.2.1.length) (fun ix=>[.int .i64 (.sym fun _=>p.2.1.getD ix.den.toNat 0)]),.sl 1 (.sym fun _=>zi p.2.2.length) (fun ix=>[.sl 1 (.sym fun _=>zi (p.2.2.getD ix.den.toNat []).length) (fun jx=>[.int .i64 (.sym fun _=>(p.2.2.getD ix.den.toNat []).getD jx.den.toNat 0)])])]):=
  dec_map (fun p:List Int×List Int×List (List Int)×Unit=>(p.1,p.2.1,p.2.2.1)) (dec_str (fl:=[(0,22),(1,22),(2,23)]) (tot:=3) u25 (by kernel_rfl) (by kernel_rfl) (decF_cons (m:=1) (by kernel_rfl) dec22 (decF_cons (m:=1) (by kernel_rfl) dec22 (decF_cons (m:=1) (by kernel_rfl) dec23 decF_nil)))) (fun _ _=>trivial) (fun _=>rfl)
theorem dec28 :Dec enc Try.prog W base sp held 28 Sto (fun s=>s.cs.length≤maxLen) (fun s=>[(.sl 1 (.sym fun _=>zi (s.tw).length) (fun ix=>[.int .i64 (.sym fun _=>(s.tw).getD ix.den.toNat 0)])),(.sl 1 (.sym fun _=>zi (s.tm).length) (fun ix=>[.int .i64 (.sym fun _=>(s.tm).getD ix.den.toNat 0)])),(.sl 1 (.sym fun _=>zi (s.tv).length) (fun ix=>[(.sl 1 (.sym fun _=>zi ((s.tv).getD ix.den.toNat []).length) (fun jx=>[.int .i64 (.sym fun _=>((s.tv).getD ix.den.toNat []).getD jx.den.toNat 0)]))])),(.int .i64 (.sym fun _=>s.rate)),(.sl 5 (.sym fun _=>zi (s.cs).length) (fun ix=>[(.int .i64 (.sym fun _=>((s.cs).getD ix.den.toNat ck0).g)),(.int .i64 (.sym fun _=>((s.cs).getD ix.den.toNat ck0).wl)),(.int .i64 (.sym fun _=>((s.cs).getD ix.den.toNat ck0).wh)),(.int .i64 (.sym fun _=>((s.cs).getD ix.den.toNat ck0).ml)),(.int .i64 (.sym fun _=>((s.cs).getD ix.den.toNat ck0).mh))]))]):=
  dec_map (fun p:(List Int×List Int×List (List Int))×Int×List Csk×Unit=>⟨p.1.1,p.1.2.1,p.1.2.2,p.2.1,p.2.2.1⟩) (dec_str (fl:=[(0,25),(3,3),(4,26)]) (tot:=5) u28 (by kernel_rfl) (by kernel_rfl) (decF_cons (m:=3) (by kernel_rfl) dec25 (decF_cons (m:=1) (by kernel_rfl) dec3 (decF_cons (m:=1) (by kernel_rfl) dec26 decF_nil)))) (fun _ h=>h.2.2.1) (fun _=>rfl)
end
end Go.Proofs.Ytkdgpdlfakcgdaa

namespace Go.Proofs.Ytkdgpdlfakcgdaa.proofDuties
open Go Go.Eng Go.Proofs Go.ChangeShapes Go.WideShapes Go.ChangeAt Go.RowKit
set_option maxRecDepth 100000 in
theorem lifted (os:Os)(started:os.Started)(H:Type)(enc:TypeId×Value→H):
    ReturnsInHanded {} Try.checked os 3 .any (Rows.proofDutiesSpec.pre6 enc Try.prog Try.f3 Rows.proofDutiesRow.domain false) (Rows.proofDutiesSpec.post enc Try.prog Try.f3 false true false false):=by
  refine returnsInHanded_of_change (C:=Try.checked) own4 started (by kernel_rfl) Try.func3
    (ChangeSpec.witness6 (enc:=enc) (C:=Try.checked) false ⟨#[],#[.agg #[.slice none 0 0,.slice none 0 0,.slice none 0 0,.int .i64 0,.slice none 0 0]],[]⟩ 8 (by kernel_rfl) (by kernel_rfl) (by kernel_rfl) (by kernel_rfl)) ?_
  intro W base args ds gs before hval0 hW hcnd _
  have hval:∀(j:Nat) t v,Try.f3.params[j]? =some t→args[j]? =some v→Value.okWide Try.prog W .any base t v:=hval0
  have hW':=hW
  obtain⟨p,q,hA0,hV,rfl,_,_⟩:=hW
  have hA:DataW.TrodAll enc Try.prog W 0 (fun _=>true) true Try.f3.params.toList args.toList ds p:=hA0
  have hpar:Try.f3.params = #[28]:=by kernel_rfl
  rw [hpar]at hA hval
  obtain⟨v0,vs0,d0,ds0,p0,q0,hargs,rfl,rfl,h0,r0⟩:=trodAll_cons hA
  obtain⟨rfl,rfl,rfl⟩:=trodAll_nil r0
  obtain rfl:args = #[v0]:=by cases args;simp_all
  obtain⟨rfl,rfl⟩:=trodVars_none hV
  obtain⟨a0,w0,g0⟩:=arg_str u28 (hval 0 28 v0 rfl rfl) h0 dec28
  refine(calls_true (law3 a0.tw a0.tm a0.tv a0.rate a0.cs) (.tcons _ _ _ _ _ (g0 _) (.tnil _))).mono fun e W' ⟨he,hL⟩=> ?_
  subst he
  exact⟨_,rfl,post_true (s:=Rows.proofDutiesSpec) kids4 full4 (by rw [hpar];decide) (by kernel_rfl) u4 rfl hW' hL rfl rfl rfl⟩
theorem proved :Rows.ProofDutiesSaid:=
  OpenClaim.holds_of_wide 3 Try.f3 rfl rfl rfl rfl rfl rfl rfl ⟨rfl,rfl,rfl,rfl,rfl⟩ rfl rfl rfl rfl rfl (by kernel_rfl) Try.func3 (by kernel_rfl)
    (of_decide_eq_true (by kernel_rfl)) (by unfold Func.isWrapper;first|(rw [if_pos (by decide +kernel)];kernel_rfl)|(rw [if_neg (by decide +kernel)];exact⟨rfl,rfl⟩))
    (fun os started H enc _=>lifted os started H enc)
end Go.Proofs.Ytkdgpdlfakcgdaa.proofDuties
