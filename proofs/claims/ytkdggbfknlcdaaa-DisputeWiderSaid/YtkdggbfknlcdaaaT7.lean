/- Contracts of the functions that the laws come to. No condition. -/
import Derived.Test.YtkdggbfknlcdaaaT6
import Derived.Test.YtkdggbfknlcdaaaRows
set_option linter.unusedVariables false
set_option linter.unusedSimpArgs false
set_option linter.deprecated false
set_option linter.all false

namespace Go.Proofs.Ytkdggbfknlcdaaa
open Go Go.Eng Go.Proofs
theorem own4 :ownKnob Try.prog.godebug=none:=by kernel_rfl
theorem uvP :Kids Try.prog (· <Try.prog.types.size):=kids_rows (by kernel_rfl) (by kernel_rfl)
theorem uwe :∀t e,t<Try.prog.types.size→Try.prog.underlying t=some (.slice e)→0<Try.prog.cellsOf e:=slices_full_of Try.prog (by kernel_rfl)
theorem u3 :Try.prog.underlying 3=some (.int .i64):=by kernel_rfl
theorem u4 :Try.prog.underlying 4=some .bool:=by kernel_rfl
theorem u5 :Try.prog.underlying 5=some (.int .u8):=by kernel_rfl
theorem u22 :Try.prog.underlying 22=some (.slice 3):=by kernel_rfl
theorem u23 :Try.prog.underlying 23=some (.slice 22):=by kernel_rfl
theorem u26 :Try.prog.underlying 26=some (.slice 60):=by kernel_rfl
theorem u27 :Try.prog.underlying 27=some (.slice 50):=by kernel_rfl
theorem u25 :Try.prog.underlying 25=some (.struct (Try.prog.fieldsOf 25)):=by kernel_rfl
theorem u47 :Try.prog.underlying 47=some (.struct (Try.prog.fieldsOf 47)):=by kernel_rfl
theorem u50 :Try.prog.underlying 50=some (.struct (Try.prog.fieldsOf 50)):=by kernel_rfl
theorem u60 :Try.prog.underlying 60=some (.struct (Try.prog.fieldsOf 60)):=by kernel_rfl
theorem u29 :Try.prog.underlying 29=some (.struct (Try.prog.fieldsOf 29)):=by kernel_rfl
theorem uuK {n:Int}(h:(Lit.int .u8 n).wf=true):0≤n∧n≤255:=by
  simpa [Lit.wf,IntKind.min,IntKind.max,IntKind.bits,IntKind.signed]using h
section
variable {H:Type} {enc:TypeId×Value→H} {W:World} {base:Nat} {sp:Nat→Bool} {held:Bool}
theorem dec3 :Dec enc Try.prog W base sp held 3 Int (fun n=>(Lit.int .i64 n).wf=true) (fun n=>[(iv fun _=>n)]):=utn u3
theorem ut0 :Dec enc Try.prog W base sp held 22 (List Int) (fun l=>(∀a∈l,(Lit.int .i64 a).wf=true)∧l.length≤maxLen) (fun l=>[.sl 1 (.sym fun _=>zi l.length) (fun ix=>[(iv fun _=>l.getD ix.den.toNat 0)])]):=
  ul7 0 u22 (by kernel_rfl) (by decide) dec3
theorem uvE :Dec enc Try.prog W base sp held 23 (List (List Int)) (fun _=>True) (fun l=>[.sl 1 (.sym fun _=>zi l.length) (fun ix=>[.sl 1 (.sym fun _=>zi (l.getD ix.den.toNat []).length) (fun jx=>[(iv fun _=>(l.getD ix.den.toNat []).getD jx.den.toNat 0)])])]):=
  uel id (ul7 [] u23 (by kernel_rfl) (by decide) ut0) (fun _ _=>trivial) (fun _=>rfl)
theorem uw6 :Dec enc Try.prog W base sp held 25 (List Int×List Int×List (List Int)) (fun _=>True) (fun p=>[.sl 1 (.sym fun _=>zi p.1.length) (fun ix=>[(iv fun _=>p.1.getD ix.den.toNat 0)]),.sl 1 (.sym fun _=>zi p.2.1.length) (fun ix=>[(iv fun _=>p.2.1.getD ix.den.toNat 0)]),.sl 1 (.sym fun _=>zi p.2.2.length) (fun ix=>[.sl 1 (.sym fun _=>zi (p.2.2.getD ix.den.toNat []).length) (fun jx=>[(iv fun _=>(p.2.2.getD ix.den.toNat []).getD jx.den.toNat 0)])])]):=
  uel (fun p:List Int×List Int×List (List Int)×Unit=>(p.1,p.2.1,p.2.2.1)) (uhL (fl:=[(0,22),(1,22),(2,23)]) (tot:=3) u25 (by kernel_rfl) (by kernel_rfl) (ub4 (m:=1) (by kernel_rfl) ut0 (ub4 (m:=1) (by kernel_rfl) ut0 (ub4 (m:=1) (by kernel_rfl) uvE ufT)))) (fun _ _=>trivial) (fun _=>rfl)
theorem usj :Dec enc Try.prog W base sp held 47 (Int×Int) (fun _=>True) (fun p=>[(iv fun _=>p.1),(iv fun _=>p.2)]):=
  uel (fun p:Int×Int×Unit=>(p.1,p.2.1)) (uhL (fl:=[(0,3),(1,3)]) (tot:=2) u47 (by kernel_rfl) (by kernel_rfl) (ub4 (m:=1) (by kernel_rfl) dec3 (ub4 (m:=1) (by kernel_rfl) dec3 ufT))) (fun _ _=>trivial) (fun _=>rfl)
theorem uvZ :Dec enc Try.prog W base sp held 60 LkT (fun _=>True) (fun v=>[(iv fun _=>v.a),(iv fun _=>v.b),(iv fun _=>v.lo),(iv fun _=>v.hi)]):=
  uel (fun p:Int×Int×(Int×Int)×Unit=>(⟨p.1,p.2.1,p.2.2.1.1,p.2.2.1.2⟩:LkT)) (uhL (fl:=[(0,3),(1,3),(2,47)]) (tot:=4) u60 (by kernel_rfl) (by kernel_rfl) (ub4 (m:=1) (by kernel_rfl) dec3 (ub4 (m:=1) (by kernel_rfl) dec3 (ub4 (m:=2) (by kernel_rfl) usj ufT)))) (fun _ _=>trivial) (fun _=>rfl)
theorem uwi :Dec enc Try.prog W base sp held 50 FaT (fun _=>True) (fun v=>[(iv fun _=>v.p),(iv fun _=>v.s),(iv fun _=>v.wl),(iv fun _=>v.wh),(iv fun _=>v.ml),(iv fun _=>v.mh)]):=
  uel (fun p:Int×Int×(Int×Int)×(Int×Int)×Unit=>(⟨p.1,p.2.1,p.2.2.1.1,p.2.2.1.2,p.2.2.2.1.1,p.2.2.2.1.2⟩:FaT)) (uhL (fl:=[(0,3),(1,3),(2,47),(4,47)]) (tot:=6) u50 (by kernel_rfl) (by kernel_rfl) (ub4 (m:=1) (by kernel_rfl) dec3 (ub4 (m:=1) (by kernel_rfl) dec3 (ub4 (m:=2) (by kernel_rfl) usj (ub4 (m:=2) (by kernel_rfl) usj ufT))))) (fun _ _=>trivial) (fun _=>rfl)
theorem uwo :Dec enc Try.prog W base sp held 26 (List LkT) (fun l=>l.length≤maxLen) (fun l=>[.sl 4 (.sym fun _=>zi l.length) (fun ix=>[(iv fun _=>(l.getD ix.den.toNat l0T).a),(iv fun _=>(l.getD ix.den.toNat l0T).b),(iv fun _=>(l.getD ix.den.toNat l0T).lo),(iv fun _=>(l.getD ix.den.toNat l0T).hi)])]):=
  uel id (ul7 l0T u26 (by kernel_rfl) (by decide) uvZ) (fun _ h=>h.2) (fun _=>rfl)
theorem uvw :Dec enc Try.prog W base sp held 27 (List FaT) (fun l=>l.length≤maxLen) (fun l=>[.sl 6 (.sym fun _=>zi l.length) (fun ix=>[(iv fun _=>(l.getD ix.den.toNat f0T).p),(iv fun _=>(l.getD ix.den.toNat f0T).s),(iv fun _=>(l.getD ix.den.toNat f0T).wl),(iv fun _=>(l.getD ix.den.toNat f0T).wh),(iv fun _=>(l.getD ix.den.toNat f0T).ml),(iv fun _=>(l.getD ix.den.toNat f0T).mh)])]):=
  uel id (ul7 f0T u27 (by kernel_rfl) (by decide) uwi) (fun _ h=>h.2) (fun _=>rfl)
end
section
variable {H:Type} {enc:TypeId×Value→H} {W:World} {base:Nat} {sp:Nat→Bool} {held:Bool}
theorem uuy :DecZ enc Try.prog W base sp held 27 (List FaT) (fun l=>l.length≤maxLen∧l.length*48≤140737488351232) (fun l=>[.sl 6 (.sym fun _=>zi l.length) (fun ix=>[(iv fun _=>(l.getD ix.den.toNat f0T).p),(iv fun _=>(l.getD ix.den.toNat f0T).s),(iv fun _=>(l.getD ix.den.toNat f0T).wl),(iv fun _=>(l.getD ix.den.toNat f0T).wh),(iv fun _=>(l.getD ix.den.toNat f0T).ml),(iv fun _=>(l.getD ix.den.toNat f0T).mh)])]):=
  usz u27 (by kernel_rfl) uvw
theorem uuU :DecZ enc Try.prog W base sp held 29 Dsp (fun d=>d.fs.length*48≤140737488351232) (fun d=>[(iS d.tw),(iS d.tm),(.sl 1 (.sym fun _=>zi (d.tv).length) (fun ix=>[(.sl 1 (.sym fun _=>zi ((d.tv).getD ix.den.toNat []).length) (fun jx=>[(iv fun _=>((d.tv).getD ix.den.toNat []).getD jx.den.toNat 0)]))])),(iv fun _=>d.sn),(iv fun _=>d.pn),(.sl 4 (.sym fun _=>zi (d.ls).length) (fun ix=>[(iv fun _=>((d.ls).getD ix.den.toNat l0T).a),(iv fun _=>((d.ls).getD ix.den.toNat l0T).b),(iv fun _=>((d.ls).getD ix.den.toNat l0T).lo),(iv fun _=>((d.ls).getD ix.den.toNat l0T).hi)])),(.sl 6 (.sym fun _=>zi (d.fs).length) (fun ix=>[(iv fun _=>((d.fs).getD ix.den.toNat f0T).p),(iv fun _=>((d.fs).getD ix.den.toNat f0T).s),(iv fun _=>((d.fs).getD ix.den.toNat f0T).wl),(iv fun _=>((d.fs).getD ix.den.toNat f0T).wh),(iv fun _=>((d.fs).getD ix.den.toNat f0T).ml),(iv fun _=>((d.fs).getD ix.den.toNat f0T).mh)]))]):=
  upM (fun p:(List Int×List Int×List (List Int))×Int×Int×List LkT×List FaT×Unit=>(⟨p.1.1,p.1.2.1,p.1.2.2,p.2.1,p.2.2.1,p.2.2.2.1,p.2.2.2.2.1⟩:Dsp)) (uqn (fl:=[(0,25),(3,3),(4,3),(5,26),(6,27)]) (tot:=7) u29 (by kernel_rfl) (by kernel_rfl) (ucZ (m:=3) (by kernel_rfl) (uhD uw6) (ucZ (m:=1) (by kernel_rfl) (uhD dec3) (ucZ (m:=1) (by kernel_rfl) (uhD dec3) (ucZ (m:=1) (by kernel_rfl) (uhD uwo) (ucZ (m:=1) (by kernel_rfl) uuy up0)))))) (fun _ h=>h.2.2.2.2.1.2) (fun _=>rfl)
end
end Go.Proofs.Ytkdggbfknlcdaaa
