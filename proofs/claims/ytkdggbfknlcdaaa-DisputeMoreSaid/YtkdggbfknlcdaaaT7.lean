/- Contracts of the functions that the laws come to. No condition. -/
import Derived.Test.YtkdggbfknlcdaaaT6
import Derived.Test.YtkdggbfknlcdaaaRows
set_option linter.unusedVariables false
set_option linter.unusedSimpArgs false
set_option linter.deprecated false
set_option linter.all false

namespace Go.Proofs.Ytkdggbfknlcdaaa
open Go Go.Eng Go.Proofs
theorem own4 :ownKnob Try.prog.godebug=none:=by kernel_rfl
theorem kids4 :Kids Try.prog (· <Try.prog.types.size):=kids_rows (by kernel_rfl) (by kernel_rfl)
theorem full4 :∀t e,t<Try.prog.types.size→Try.prog.underlying t=some (.slice e)→0<Try.prog.cellsOf e:=slices_full_of Try.prog (by kernel_rfl)
theorem u3 :Try.prog.underlying 3=some (.int .i64):=by kernel_rfl
theorem u4 :Try.prog.underlying 4=some .bool:=by kernel_rfl
theorem u22 :Try.prog.underlying 22=some (.slice 3):=by kernel_rfl
theorem u23 :Try.prog.underlying 23=some (.slice 22):=by kernel_rfl
theorem u26 :Try.prog.underlying 26=some (.slice 60):=by kernel_rfl
theorem u27 :Try.prog.underlying 27=some (.slice 50):=by kernel_rfl
theorem u25 :Try.prog.underlying 25=some (.struct (Try.prog.fieldsOf 25)):=by kernel_rfl
theorem u47 :Try.prog.underlying 47=some (.struct (Try.prog.fieldsOf 47)):=by kernel_rfl
theorem u50 :Try.prog.underlying 50=some (.struct (Try.prog.fieldsOf 50)):=by kernel_rfl
theorem u60 :Try.prog.underlying 60=some (.struct (Try.prog.fieldsOf 60)):=by kernel_rfl
theorem u29 :Try.prog.underlying 29=some (.struct (Try.prog.fieldsOf 29)):=by kernel_rfl
section
variable {H:Type} {enc:TypeId×Value→H} {W:World} {base:Nat} {sp:Nat→Bool} {held:Bool}
theorem dec3 :Dec enc Try.prog W base sp held 3 Int (fun n=>(Lit.int .i64 n).wf=true) (fun n=>[.int .i64 (.sym fun _=>n)]):=dec_int u3
theorem dec22 :Dec enc Try.prog W base sp held 22 (List Int) (fun l=>(∀a∈l,(Lit.int .i64 a).wf=true)∧l.length≤maxLen) (fun l=>[.sl 1 (.sym fun _=>zi l.length) (fun ix=>[.int .i64 (.sym fun _=>l.getD ix.den.toNat 0)])]):=
  dec_sl 0 u22 (by kernel_rfl) (by decide) dec3
theorem dec23 :Dec enc Try.prog W base sp held 23 (List (List Int)) (fun _=>True) (fun l=>[.sl 1 (.sym fun _=>zi l.length) (fun ix=>[.sl 1 (.sym fun _=>zi (l.getD ix.den.toNat []).length) (fun jx=>[.int .i64 (.sym fun _=>(l.getD ix.den.toNat []).getD jx.den.toNat 0)])])]):=
  dec_map id (dec_sl [] u23 (by kernel_rfl) (by decide) dec22) (fun _ _=>trivial) (fun _=>rfl)
theorem dec25 :Dec enc Try.prog W base sp held 25 (List Int×List Int×List (List Int)) (fun _=>True) (fun p=>[.sl 1 (.sym fun _=>zi p.1.length) (fun ix=>[.int .i64 (.sym fun _=>p.1.getD ix.den.toNat 0)]),.sl 1 (.sym fun _=>zi p.2.1.length) (fun ix=>[.int .i64 (.sym fun _=>p.2.1.getD ix.den.toNat 0)]),.sl 1 (.sym fun _=>zi p.2.2.length) (fun ix=>[.sl 1 (.sym fun _=>zi (p.2.2.getD ix.den.toNat []).length) (fun jx=>[.int .i64 (.sym fun _=>(p.2.2.getD ix.den.toNat []).getD jx.den.toNat 0)])])]):=
  dec_map (fun p:List Int×List Int×List (List Int)×Unit=>(p.1,p.2.1,p.2.2.1)) (dec_str (fl:=[(0,22),(1,22),(2,23)]) (tot:=3) u25 (by kernel_rfl) (by kernel_rfl) (decF_cons (m:=1) (by kernel_rfl) dec22 (decF_cons (m:=1) (by kernel_rfl) dec22 (decF_cons (m:=1) (by kernel_rfl) dec23 decF_nil)))) (fun _ _=>trivial) (fun _=>rfl)
theorem dec47 :Dec enc Try.prog W base sp held 47 (Int×Int) (fun _=>True) (fun p=>[.int .i64 (.sym fun _=>p.1),.int .i64 (.sym fun _=>p.2)]):=
  dec_map (fun p:Int×Int×Unit=>(p.1,p.2.1)) (dec_str (fl:=[(0,3),(1,3)]) (tot:=2) u47 (by kernel_rfl) (by kernel_rfl) (decF_cons (m:=1) (by kernel_rfl) dec3 (decF_cons (m:=1) (by kernel_rfl) dec3 decF_nil))) (fun _ _=>trivial) (fun _=>rfl)
theorem dec60 :Dec enc Try.prog W base sp held 60 LkT (fun _=>True) (fun v=>[.int .i64 (.sym fun _=>v.a),.int .i64 (.sym fun _=>v.b),.int .i64 (.sym fun _=>v.lo),.int .i64 (.sym fun _=>v.hi)]):=
  dec_map (fun p:Int×Int×(Int×Int)×Unit=>(⟨p.1,p.2.1,p.2.2.1.1,p.2.2.1.2⟩:LkT)) (dec_str (fl:=[(0,3),(1,3),(2,47)]) (tot:=4) u60 (by kernel_rfl) (by kernel_rfl) (decF_cons (m:=1) (by kernel_rfl) dec3 (decF_cons (m:=1) (by kernel_rfl) dec3 (decF_cons (m:=2) (by kernel_rfl) dec47 decF_nil)))) (fun _ _=>trivial) (fun _=>rfl)
theorem dec50 :Dec enc Try.prog W base sp held 50 FaT (fun _=>True) (fun v=>[.int .i64 (.sym fun _=>v.p),.int .i64 (.sym fun _=>v.s),.int .i64 (.sym fun _=>v.wl),.int .i64 (.sym fun _=>v.wh),.int .i64 (.sym fun _=>v.ml),.int .i64 (.sym fun _=>v.mh)]):=
  dec_map (fun p:Int×Int×(Int×Int)×(Int×Int)×Unit=>(⟨p.1,p.2.1,p.2.2.1.1,p.2.2.1.2,p.2.2.2.1.1,p.2.2.2.1.2⟩:FaT)) (dec_str (fl:=[(0,3),(1,3),(2,47),(4,47)]) (tot:=6) u50 (by kernel_rfl) (by kernel_rfl) (decF_cons (m:=1) (by kernel_rfl) dec3 (decF_cons (m:=1) (by kernel_rfl) dec3 (decF_cons (m:=2) (by kernel_rfl) dec47 (decF_cons (m:=2) (by kernel_rfl) dec47 decF_nil))))) (fun _ _=>trivial) (fun _=>rfl)
theorem dec26 :Dec enc Try.prog W base sp held 26 (List LkT) (fun l=>l.length≤maxLen) (fun l=>[.sl 4 (.sym fun _=>zi l.length) (fun ix=>[.int .i64 (.sym fun _=>(l.getD ix.den.toNat l0T).a),.int .i64 (.sym fun _=>(l.getD ix.den.toNat l0T).b),.int .i64 (.sym fun _=>(l.getD ix.den.toNat l0T).lo),.int .i64 (.sym fun _=>(l.getD ix.den.toNat l0T).hi)])]):=
  dec_map id (dec_sl l0T u26 (by kernel_rfl) (by decide) dec60) (fun _ h=>h.2) (fun _=>rfl)
theorem dec27 :Dec enc Try.prog W base sp held 27 (List FaT) (fun l=>l.length≤maxLen) (fun l=>[.sl 6 (.sym fun _=>zi l.length) (fun ix=>[.int .i64 (.sym fun _=>(l.getD ix.den.toNat f0T).p),.int .i64 (.sym fun _=>(l.getD ix.den.toNat f0T).s),.int .i64 (.sym fun _=>(l.getD ix.den.toNat f0T).wl),.int .i64 (.sym fun _=>(l.getD ix.den.toNat f0T).wh),.int .i64 (.sym fun _=>(l.getD ix.den.toNat f0T).ml),.int .i64 (.sym fun _=>(l.getD ix.den.toNat f0T).mh)])]):=
  dec_map id (dec_sl f0T u27 (by kernel_rfl) (by decide) dec50) (fun _ h=>h.2) (fun _=>rfl)
end
end Go.Proofs.Ytkdggbfknlcdaaa

namespace Go.Proofs.Ytkdggbfknlcdaaa
open Go Go.Eng Go.Proofs
section
variable {H:Type} {enc:TypeId×Value→H} {W:World} {base:Nat} {sp:Nat→Bool} {held:Bool}
theorem dec27Z :DecZ enc Try.prog W base sp held 27 (List FaT) (fun l=>l.length≤maxLen∧l.length*48≤140737488351232) (fun l=>[.sl 6 (.sym fun _=>zi l.length) (fun ix=>[(.int .i64 (.sym fun _=>(l.getD ix.den.toNat f0T).p)),(.int .i64 (.sym fun _=>(l.getD ix.den.toNat f0T).s)),(.int .i64 (.sym fun _=>(l.getD ix.den.toNat f0T).wl)),(.int .i64 (.sym fun _=>(l.getD ix.den.toNat f0T).wh)),(.int .i64 (.sym fun _=>(l.getD ix.den.toNat f0T).ml)),(.int .i64 (.sym fun _=>(l.getD ix.den.toNat f0T).mh))])]):=
  decZ_sl u27 (by kernel_rfl) dec27
theorem dec29Z :DecZ enc Try.prog W base sp held 29 Dsp (fun d=>d.fs.length*48≤140737488351232) (fun d=>[(.sl 1 (.sym fun _=>zi (d.tw).length) (fun ix=>[.int .i64 (.sym fun _=>(d.tw).getD ix.den.toNat 0)])),(.sl 1 (.sym fun _=>zi (d.tm).length) (fun ix=>[.int .i64 (.sym fun _=>(d.tm).getD ix.den.toNat 0)])),(.sl 1 (.sym fun _=>zi (d.tv).length) (fun ix=>[(.sl 1 (.sym fun _=>zi ((d.tv).getD ix.den.toNat []).length) (fun jx=>[.int .i64 (.sym fun _=>((d.tv).getD ix.den.toNat []).getD jx.den.toNat 0)]))])),(.int .i64 (.sym fun _=>d.sn)),(.int .i64 (.sym fun _=>d.pn)),(.sl 4 (.sym fun _=>zi (d.ls).length) (fun ix=>[(.int .i64 (.sym fun _=>((d.ls).getD ix.den.toNat l0T).a)),(.int .i64 (.sym fun _=>((d.ls).getD ix.den.toNat l0T).b)),(.int .i64 (.sym fun _=>((d.ls).getD ix.den.toNat l0T).lo)),(.int .i64 (.sym fun _=>((d.ls).getD ix.den.toNat l0T).hi))])),(.sl 6 (.sym fun _=>zi (d.fs).length) (fun ix=>[(.int .i64 (.sym fun _=>((d.fs).getD ix.den.toNat f0T).p)),(.int .i64 (.sym fun _=>((d.fs).getD ix.den.toNat f0T).s)),(.int .i64 (.sym fun _=>((d.fs).getD ix.den.toNat f0T).wl)),(.int .i64 (.sym fun _=>((d.fs).getD ix.den.toNat f0T).wh)),(.int .i64 (.sym fun _=>((d.fs).getD ix.den.toNat f0T).ml)),(.int .i64 (.sym fun _=>((d.fs).getD ix.den.toNat f0T).mh))]))]):=
  decZ_map (fun p:(List Int×List Int×List (List Int))×Int×Int×List LkT×List FaT×Unit=>(⟨p.1.1,p.1.2.1,p.1.2.2,p.2.1,p.2.2.1,p.2.2.2.1,p.2.2.2.2.1⟩:Dsp)) (decZ_str (fl:=[(0,25),(3,3),(4,3),(5,26),(6,27)]) (tot:=7) u29 (by kernel_rfl) (by kernel_rfl) (decFZ_cons (m:=3) (by kernel_rfl) (decZ_of dec25) (decFZ_cons (m:=1) (by kernel_rfl) (decZ_of dec3) (decFZ_cons (m:=1) (by kernel_rfl) (decZ_of dec3) (decFZ_cons (m:=1) (by kernel_rfl) (decZ_of dec26) (decFZ_cons (m:=1) (by kernel_rfl) dec27Z decFZ_nil)))))) (fun _ h=>h.2.2.2.2.1.2) (fun _=>rfl)
end
end Go.Proofs.Ytkdggbfknlcdaaa
