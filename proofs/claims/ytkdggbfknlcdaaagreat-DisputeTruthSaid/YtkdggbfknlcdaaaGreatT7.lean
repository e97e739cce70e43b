/- Contracts of the functions that the laws come to. No condition. -/
import Derived.Test.YtkdggbfknlcdaaaGreatT6
import Derived.Test.YtkdggbfknlcdaaaGreatRows
set_option linter.unusedVariables false
set_option linter.unusedSimpArgs false
set_option linter.deprecated false
set_option linter.all false

namespace Go.Proofs.YtkdggbfknlcdaaaGreat
open Go Go.Eng Go.Proofs
theorem uBz :ownKnob Tryz.prog.godebug=none:=by kernel_rfl
theorem uyT :Kids Tryz.prog (· <Tryz.prog.types.size):=kids_rows (by kernel_rfl) (by kernel_rfl)
theorem uyG :∀t e,t<Tryz.prog.types.size→Tryz.prog.underlying t=some (.slice e)→0<Tryz.prog.cellsOf e:=slices_full_of Tryz.prog (by kernel_rfl)
theorem u3 :Tryz.prog.underlying 3=some (.int .i64):=by kernel_rfl
theorem u4 :Tryz.prog.underlying 4=some .bool:=by kernel_rfl
theorem u69 :Tryz.prog.underlying 69=some (.int .u16):=by kernel_rfl
theorem u22 :Tryz.prog.underlying 22=some (.slice 3):=by kernel_rfl
theorem u23 :Tryz.prog.underlying 23=some (.slice 22):=by kernel_rfl
theorem u26 :Tryz.prog.underlying 26=some (.slice 100):=by kernel_rfl
theorem u27 :Tryz.prog.underlying 27=some (.slice 104):=by kernel_rfl
theorem u25 :Tryz.prog.underlying 25=some (.struct (Tryz.prog.fieldsOf 25)):=by kernel_rfl
theorem u66 :Tryz.prog.underlying 66=some (.struct (Tryz.prog.fieldsOf 66)):=by kernel_rfl
theorem uAw :Tryz.prog.underlying 104=some (.struct (Tryz.prog.fieldsOf 104)):=by kernel_rfl
theorem uAl :Tryz.prog.underlying 100=some (.struct (Tryz.prog.fieldsOf 100)):=by kernel_rfl
theorem u29 :Tryz.prog.underlying 29=some (.struct (Tryz.prog.fieldsOf 29)):=by kernel_rfl
theorem u68 :Tryz.prog.underlying 68=some (.slice 69):=by kernel_rfl
theorem ut9 {n:Int}(h:(Lit.int .u16 n).wf=true):0≤n∧n≤65535:=by
 simpa [Lit.wf,IntKind.min,IntKind.max,IntKind.bits,IntKind.signed]using h
section
variable {H:Type} {enc:TypeId×Value→H} {W:World} {base:Nat} {sp:Nat→Bool} {held:Bool}
theorem uss :Dec enc Tryz.prog W base sp held 3 Int (fun n=>(Lit.int .i64 n).wf=true) (fun n=>[(iv fun _=>n)]):=uod u3
theorem uvR :Dec enc Tryz.prog W base sp held 22 (List Int) (fun l=>(∀a∈l,(Lit.int .i64 a).wf=true)∧l.length≤maxLen) (fun l=>[.sl 1 (.sym fun _=>zi l.length) (fun ix=>[(iv fun _=>l.getD ix.den.toNat 0)])]):=
 uiQ 0 u22 (by kernel_rfl) (by decide) uss
theorem uyX :Dec enc Tryz.prog W base sp held 23 (List (List Int)) (fun _=>True) (fun l=>[.sl 1 (.sym fun _=>zi l.length) (fun ix=>[.sl 1 (.sym fun _=>zi (l.getD ix.den.toNat []).length) (fun jx=>[(iv fun _=>(l.getD ix.den.toNat []).getD jx.den.toNat 0)])])]):=
 ue6 id (uiQ [] u23 (by kernel_rfl) (by decide) uvR) (fun _ _=>trivial) (fun _=>rfl)
theorem uzj :Dec enc Tryz.prog W base sp held 25 (List Int×List Int×List (List Int)) (fun _=>True) (fun p=>[.sl 1 (.sym fun _=>zi p.1.length) (fun ix=>[(iv fun _=>p.1.getD ix.den.toNat 0)]),.sl 1 (.sym fun _=>zi p.2.1.length) (fun ix=>[(iv fun _=>p.2.1.getD ix.den.toNat 0)]),.sl 1 (.sym fun _=>zi p.2.2.length) (fun ix=>[.sl 1 (.sym fun _=>zi (p.2.2.getD ix.den.toNat []).length) (fun jx=>[(iv fun _=>(p.2.2.getD ix.den.toNat []).getD jx.den.toNat 0)])])]):=
 ue6 (fun p:List Int×List Int×List (List Int)×Unit=>(p.1,p.2.1,p.2.2.1)) (ugu (fl:=[(0,22),(1,22),(2,23)]) (tot:=3) u25 (by kernel_rfl) (by kernel_rfl) (uaC (m:=1) (by kernel_rfl) uvR (uaC (m:=1) (by kernel_rfl) uvR (uaC (m:=1) (by kernel_rfl) uyX ueS)))) (fun _ _=>trivial) (fun _=>rfl)
theorem uv0 :Dec enc Tryz.prog W base sp held 66 (Int×Int) (fun _=>True) (fun p=>[(iv fun _=>p.1),(iv fun _=>p.2)]):=
 ue6 (fun p:Int×Int×Unit=>(p.1,p.2.1)) (ugu (fl:=[(0,3),(1,3)]) (tot:=2) u66 (by kernel_rfl) (by kernel_rfl) (uaC (m:=1) (by kernel_rfl) uss (uaC (m:=1) (by kernel_rfl) uss ueS))) (fun _ _=>trivial) (fun _=>rfl)
theorem uw7 :Dec enc Tryz.prog W base sp held 100 LkT (fun _=>True) (fun v=>[(iv fun _=>v.a),(iv fun _=>v.b),(iv fun _=>v.lo),(iv fun _=>v.hi)]):=
 ue6 (fun p:Int×Int×(Int×Int)×Unit=>(⟨p.1,p.2.1,p.2.2.1.1,p.2.2.1.2⟩:LkT)) (ugu (fl:=[(0,3),(1,3),(2,66)]) (tot:=4) uAl (by kernel_rfl) (by kernel_rfl) (uaC (m:=1) (by kernel_rfl) uss (uaC (m:=1) (by kernel_rfl) uss (uaC (m:=2) (by kernel_rfl) uv0 ueS)))) (fun _ _=>trivial) (fun _=>rfl)
theorem uwo :Dec enc Tryz.prog W base sp held 104 FaT (fun _=>True) (fun v=>[(iv fun _=>v.p),(iv fun _=>v.s),(iv fun _=>v.wl),(iv fun _=>v.wh),(iv fun _=>v.ml),(iv fun _=>v.mh)]):=
 ue6 (fun p:Int×Int×(Int×Int)×(Int×Int)×Unit=>(⟨p.1,p.2.1,p.2.2.1.1,p.2.2.1.2,p.2.2.2.1.1,p.2.2.2.1.2⟩:FaT)) (ugu (fl:=[(0,3),(1,3),(2,66),(4,66)]) (tot:=6) uAw (by kernel_rfl) (by kernel_rfl) (uaC (m:=1) (by kernel_rfl) uss (uaC (m:=1) (by kernel_rfl) uss (uaC (m:=2) (by kernel_rfl) uv0 (uaC (m:=2) (by kernel_rfl) uv0 ueS))))) (fun _ _=>trivial) (fun _=>rfl)
theorem uyl :Dec enc Tryz.prog W base sp held 26 (List LkT) (fun l=>l.length≤maxLen) (fun l=>[.sl 4 (.sym fun _=>zi l.length) (fun ix=>[(iv fun _=>(l.getD ix.den.toNat l0T).a),(iv fun _=>(l.getD ix.den.toNat l0T).b),(iv fun _=>(l.getD ix.den.toNat l0T).lo),(iv fun _=>(l.getD ix.den.toNat l0T).hi)])]):=
 ue6 id (uiQ l0T u26 (by kernel_rfl) (by decide) uw7) (fun _ h=>h.2) (fun _=>rfl)
theorem uyD :Dec enc Tryz.prog W base sp held 27 (List FaT) (fun l=>l.length≤maxLen) (fun l=>[.sl 6 (.sym fun _=>zi l.length) (fun ix=>[(iv fun _=>(l.getD ix.den.toNat f0T).p),(iv fun _=>(l.getD ix.den.toNat f0T).s),(iv fun _=>(l.getD ix.den.toNat f0T).wl),(iv fun _=>(l.getD ix.den.toNat f0T).wh),(iv fun _=>(l.getD ix.den.toNat f0T).ml),(iv fun _=>(l.getD ix.den.toNat f0T).mh)])]):=
 ue6 id (uiQ f0T u27 (by kernel_rfl) (by decide) uwo) (fun _ h=>h.2) (fun _=>rfl)
theorem uz8 :Dec enc Tryz.prog W base sp held 29 Dsp (fun d=>d.ls.length≤maxLen∧d.fs.length≤maxLen) (fun d=>[(iS d.tw),(iS d.tm),(.sl 1 (.sym fun _=>zi (d.tv).length) (fun ix=>[(.sl 1 (.sym fun _=>zi ((d.tv).getD ix.den.toNat []).length) (fun jx=>[(iv fun _=>((d.tv).getD ix.den.toNat []).getD jx.den.toNat 0)]))])),(iv fun _=>d.sn),(iv fun _=>d.pn),(.sl 4 (.sym fun _=>zi (d.ls).length) (fun ix=>[(iv fun _=>((d.ls).getD ix.den.toNat l0T).a),(iv fun _=>((d.ls).getD ix.den.toNat l0T).b),(iv fun _=>((d.ls).getD ix.den.toNat l0T).lo),(iv fun _=>((d.ls).getD ix.den.toNat l0T).hi)])),(.sl 6 (.sym fun _=>zi (d.fs).length) (fun ix=>[(iv fun _=>((d.fs).getD ix.den.toNat f0T).p),(iv fun _=>((d.fs).getD ix.den.toNat f0T).s),(iv fun _=>((d.fs).getD ix.den.toNat f0T).wl),(iv fun _=>((d.fs).getD ix.den.toNat f0T).wh),(iv fun _=>((d.fs).getD ix.den.toNat f0T).ml),(iv fun _=>((d.fs).getD ix.den.toNat f0T).mh)]))]):=
 ue6 (fun p:(List Int×List Int×List (List Int))×Int×Int×List LkT×List FaT×Unit=>(⟨p.1.1,p.1.2.1,p.1.2.2,p.2.1,p.2.2.1,p.2.2.2.1,p.2.2.2.2.1⟩:Dsp)) (ugu (fl:=[(0,25),(3,3),(4,3),(5,26),(6,27)]) (tot:=7) u29 (by kernel_rfl) (by kernel_rfl) (uaC (m:=3) (by kernel_rfl) uzj (uaC (m:=1) (by kernel_rfl) uss (uaC (m:=1) (by kernel_rfl) uss (uaC (m:=1) (by kernel_rfl) uyl (uaC (m:=1) (by kernel_rfl) uyD ueS)))))) (fun _ h=>⟨h.2.2.2.1,h.2.2.2.2.1⟩) (fun _=>rfl)
theorem uys :Dec enc Tryz.prog W base sp held 69 Int (fun n=>(Lit.int .u16 n).wf=true) (fun n=>[.int .u16 (.sym fun _=>n)]):=uod u69
theorem uyb :Dec enc Tryz.prog W base sp held 68 (List Int) (fun l=>(∀a∈l,(Lit.int .u16 a).wf=true)∧l.length≤maxLen) (fun l=>[.sl 1 (.sym fun _=>zi l.length) (fun ix=>[.int .u16 (.sym fun _=>l.getD ix.den.toNat 0)])]):=
 uiQ 0 u68 (by kernel_rfl) (by decide) uys
end
end Go.Proofs.YtkdggbfknlcdaaaGreat
