/- Contracts of the functions that the laws come to. No condition. -/
import Derived.Test.YtkdgpdlfakcgdaaT6
import Derived.Test.YtkdgpdlfakcgdaaRows
set_option linter.unusedVariables false
set_option linter.unusedSimpArgs false
set_option linter.deprecated false
set_option linter.all false

namespace Go.Proofs.Ytkdgpdlfakcgdaa
open Go Go.Eng Go.Proofs
theorem own4 :ownKnob Try.prog.godebug=none:=by kernel_rfl
theorem kids4 :Kids Try.prog (· <Try.prog.types.size):=kids_rows (by kernel_rfl) (by kernel_rfl)
theorem full4 :∀t e,t<Try.prog.types.size→Try.prog.underlying t=some (.slice e)→0<Try.prog.cellsOf e:=slices_full_of Try.prog (by kernel_rfl)
theorem u3 :Try.prog.underlying 3=some (.int .i64):=by kernel_rfl
theorem u4 :Try.prog.underlying 4=some .bool:=by kernel_rfl
theorem u22 :Try.prog.underlying 22=some (.slice 3):=by kernel_rfl
theorem u23 :Try.prog.underlying 23=some (.slice 22):=by kernel_rfl
theorem u25 :Try.prog.underlying 25=some (.struct (Try.prog.fieldsOf 25)):=by kernel_rfl
theorem u26 :Try.prog.underlying 26=some (.slice 81):=by kernel_rfl
theorem u28 :Try.prog.underlying 28=some (.struct (Try.prog.fieldsOf 28)):=by kernel_rfl
theorem u46 :Try.prog.underlying 46=some (.struct (Try.prog.fieldsOf 46)):=by kernel_rfl
theorem u81 :Try.prog.underlying 81=some (.struct (Try.prog.fieldsOf 81)):=by kernel_rfl
structure Sto where
  tw:List Int
  tm:List Int
  tv:List (List Int)
  rate:Int
  cs:List Csk
section
variable {H:Type} {enc:TypeId×Value→H} {W:World} {base:Nat} {sp:Nat→Bool} {held:Bool}
theorem dec3 :Dec enc Try.prog W base sp held 3 Int (fun n=>(Lit.int .i64 n).wf=true) (fun n=>[.int .i64 (.sym fun _=>n)]):=dec_int u3
theorem dec22 :Dec enc Try.prog W base sp held 22 (List Int) (fun l=>(∀a∈l,(Lit.int .i64 a).wf=true)∧l.length≤maxLen) (fun l=>[.sl 1 (.sym fun _=>zi l.length) (fun ix=>[.int .i64 (.sym fun _=>l.getD ix.den.toNat 0)])]):=
  dec_sl 0 u22 (by kernel_rfl) (by decide) dec3
theorem dec23 :Dec enc Try.prog W base sp held 23 (List (List Int)) (fun _=>True) (fun l=>[.sl 1 (.sym fun _=>zi l.length) (fun ix=>[.sl 1 (.sym fun _=>zi (l.getD ix.den.toNat []).length) (fun jx=>[.int .i64 (.sym fun _=>(l.getD ix.den.toNat []).getD jx.den.toNat 0)])])]):=
  dec_map id (dec_sl [] u23 (by kernel_rfl) (by decide) dec22) (fun _ _=>trivial) (fun _=>rfl)
theorem dec46 :Dec enc Try.prog W base sp held 46 (Int×Int) (fun p=>(Lit.int .i64 p.1).wf=true∧(Lit.int .i64 p.2).wf=true) (fun p=>[.int .i64 (.sym fun _=>p.1),.int .i64 (.sym fun _=>p.2)]):=
  dec_map (fun p:Int×Int×Unit=>(p.1,p.2.1)) (dec_str (fl:=[(0,3),(1,3)]) (tot:=2) u46 (by kernel_rfl) (by kernel_rfl) (decF_cons (m:=1) (by kernel_rfl) dec3 (decF_cons (m:=1) (by kernel_rfl) dec3 decF_nil))) (fun _ h=>⟨h.1,h.2.1⟩) (fun _=>rfl)
theorem dec81 :Dec enc Try.prog W base sp held 81 Csk (fun _=>True) (fun c=>[.int .i64 (.sym fun _=>c.g),.int .i64 (.sym fun _=>c.wl),.int .i64 (.sym fun _=>c.wh),.int .i64 (.sym fun _=>c.ml),.int .i64 (.sym fun _=>c.mh)]):=
  dec_map (fun p:Int×(Int×Int)×(Int×Int)×Unit=>⟨p.1,p.2.1.1,p.2.1.2,p.2.2.1.1,p.2.2.1.2⟩) (dec_str (fl:=[(0,3),(1,46),(3,46)]) (tot:=5) u81 (by kernel_rfl) (by kernel_rfl) (decF_cons (m:=1) (by kernel_rfl) dec3 (decF_cons (m:=2) (by kernel_rfl) dec46 (decF_cons (m:=2) (by kernel_rfl) dec46 decF_nil)))) (fun _ _=>trivial) (fun _=>rfl)
theorem dec26 :Dec enc Try.prog W base sp held 26 (List Csk) (fun l=>l.length≤maxLen) (fun l=>[.sl 5 (.sym fun _=>zi l.length) (fun ix=>[.int .i64 (.sym fun _=>(l.getD ix.den.toNat ck0).g),.int .i64 (.sym fun _=>(l.getD ix.den.toNat ck0).wl),.int .i64 (.sym fun _=>(l.getD ix.den.toNat ck0).wh),.int .i64 (.sym fun _=>(l.getD ix.den.toNat ck0).ml),.int .i64 (.sym fun _=>(l.getD ix.den.toNat ck0).mh)])]):=
  dec_map id (dec_sl ck0 u26 (by kernel_rfl) (by decide) dec81) (fun _ h=>h.2) (fun _=>rfl)
theorem dec25 :Dec enc Try.prog W base sp held 25 (List Int×List Int×List (List Int)) (fun _=>True) (fun p=>[.sl 1 (.sym fun _=>zi p.1.length) (fun ix=>[.int .i64 (.sym fun _=>p.1.getD ix.den.toNat 0)]),.sl 1 (.sym fun _=>zi p.2.1.length) (fun ix=>[.int .i64 (.sym fun _=>p.2.1.getD ix.den.toNat 0)]),.sl 1 (.sym fun _=>zi p.2.2.length) (fun ix=>[.sl 1 (.sym fun _=>zi (p.2.2.getD ix.den.toNat []).length) (fun jx=>[.int .i64 (.sym fun _=>(p.2.2.getD ix.den.toNat []).getD jx.den.toNat 0)])])]):=
  dec_map (fun p:List Int×List Int×List (List Int)×Unit=>(p.1,p.2.1,p.2.2.1)) (dec_str (fl:=[(0,22),(1,22),(2,23)]) (tot:=3) u25 (by kernel_rfl) (by kernel_rfl) (decF_cons (m:=1) (by kernel_rfl) dec22 (decF_cons (m:=1) (by kernel_rfl) dec22 (decF_cons (m:=1) (by kernel_rfl) dec23 decF_nil)))) (fun _ _=>trivial) (fun _=>rfl)
theorem dec28 :Dec enc Try.prog W base sp held 28 Sto (fun s=>s.cs.length≤maxLen) (fun s=>[(.sl 1 (.sym fun _=>zi (s.tw).length) (fun ix=>[.int .i64 (.sym fun _=>(s.tw).getD ix.den.toNat 0)])),(.sl 1 (.sym fun _=>zi (s.tm).length) (fun ix=>[.int .i64 (.sym fun _=>(s.tm).getD ix.den.toNat 0)])),(.sl 1 (.sym fun _=>zi (s.tv).length) (fun ix=>[(.sl 1 (.sym fun _=>zi ((s.tv).getD ix.den.toNat []).length) (fun jx=>[.int .i64 (.sym fun _=>((s.tv).getD ix.den.toNat []).getD jx.den.toNat 0)]))])),(.int .i64 (.sym fun _=>s.rate)),(.sl 5 (.sym fun _=>zi (s.cs).length) (fun ix=>[(.int .i64 (.sym fun _=>((s.cs).getD ix.den.toNat ck0).g)),(.int .i64 (.sym fun _=>((s.cs).getD ix.den.toNat ck0).wl)),(.int .i64 (.sym fun _=>((s.cs).getD ix.den.toNat ck0).wh)),(.int .i64 (.sym fun _=>((s.cs).getD ix.den.toNat ck0).ml)),(.int .i64 (.sym fun _=>((s.cs).getD ix.den.toNat ck0).mh))]))]):=
  dec_map (fun p:(List Int×List Int×List (List Int))×Int×List Csk×Unit=>⟨p.1.1,p.1.2.1,p.1.2.2,p.2.1,p.2.2.1⟩) (dec_str (fl:=[(0,25),(3,3),(4,26)]) (tot:=5) u28 (by kernel_rfl) (by kernel_rfl) (decF_cons (m:=3) (by kernel_rfl) dec25 (decF_cons (m:=1) (by kernel_rfl) dec3 (decF_cons (m:=1) (by kernel_rfl) dec26 decF_nil)))) (fun _ h=>h.2.2.1) (fun _=>rfl)
end
end Go.Proofs.Ytkdgpdlfakcgdaa

namespace Go.Proofs.Ytkdgpdlfakcgdaa
open Go Go.Eng Go.Proofs
theorem u66 :Try.prog.underlying 66=some (.slice 71):=by kernel_rfl
theorem u71 :Try.prog.underlying 71=some (.struct (Try.prog.fieldsOf 71)):=by kernel_rfl
section
variable {H:Type} {enc:TypeId×Value→H} {W:World} {base:Nat} {sp:Nat→Bool} {held:Bool}
theorem dec71 :Dec enc Try.prog W base sp held 71 Dcl (fun _=>True) (fun p=>[.int .i64 (.sym fun _=>p.c),.int .i64 (.sym fun _=>p.t)]):=
  dec_map (fun p:Int×Int×Unit=>(⟨p.1,p.2.1⟩:Dcl)) (dec_str (fl:=[(0,3),(1,3)]) (tot:=2) u71 (by kernel_rfl) (by kernel_rfl) (decF_cons (m:=1) (by kernel_rfl) dec3 (decF_cons (m:=1) (by kernel_rfl) dec3 decF_nil))) (fun _ _=>trivial) (fun _=>rfl)
theorem dec66 :Dec enc Try.prog W base sp held 66 (List Dcl) (fun l=>l.length≤maxLen) (fun l=>[.sl 2 (.sym fun _=>zi l.length) (fun ix=>[.int .i64 (.sym fun _=>(l.getD ix.den.toNat dc0).c),.int .i64 (.sym fun _=>(l.getD ix.den.toNat dc0).t)])]):=
  dec_map id (dec_sl dc0 u66 (by kernel_rfl) (by decide) dec71) (fun _ h=>h.2) (fun _=>rfl)
end
end Go.Proofs.Ytkdgpdlfakcgdaa
