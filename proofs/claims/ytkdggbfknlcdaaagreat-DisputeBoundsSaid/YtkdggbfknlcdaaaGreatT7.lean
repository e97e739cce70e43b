/- Contracts of the functions that the laws come to. No condition. -/
import Derived.Test.YtkdggbfknlcdaaaGreatT6
import Derived.Test.YtkdggbfknlcdaaaGreatRows
set_option linter.unusedVariables false
set_option linter.unusedSimpArgs false
set_option linter.deprecated false
set_option linter.all false

namespace Go.Proofs.YtkdggbfknlcdaaaGreat
open Go Go.Eng Go.Proofs
theorem uAP :ownKnob Tryz.prog.godebug=none:=by kernel_rfl
theorem uyM :Kids Tryz.prog (· <Tryz.prog.types.size):=kids_rows (by kernel_rfl) (by kernel_rfl)
theorem uza :∀t e,t<Tryz.prog.types.size→Tryz.prog.underlying t=some (.slice e)→0<Tryz.prog.cellsOf e:=slices_full_of Tryz.prog (by kernel_rfl)
theorem u3 :Tryz.prog.underlying 3=some (.int .i64):=by kernel_rfl
theorem u4 :Tryz.prog.underlying 4=some .bool:=by kernel_rfl
theorem u22 :Tryz.prog.underlying 22=some (.slice 3):=by kernel_rfl
theorem u23 :Tryz.prog.underlying 23=some (.slice 22):=by kernel_rfl
theorem u26 :Tryz.prog.underlying 26=some (.slice 100):=by kernel_rfl
theorem u27 :Tryz.prog.underlying 27=some (.slice 104):=by kernel_rfl
theorem u25 :Tryz.prog.underlying 25=some (.struct (Tryz.prog.fieldsOf 25)):=by kernel_rfl
theorem u66 :Tryz.prog.underlying 66=some (.struct (Tryz.prog.fieldsOf 66)):=by kernel_rfl
theorem uBB :Tryz.prog.underlying 104=some (.struct (Tryz.prog.fieldsOf 104)):=by kernel_rfl
theorem uAM :Tryz.prog.underlying 100=some (.struct (Tryz.prog.fieldsOf 100)):=by kernel_rfl
theorem u29 :Tryz.prog.underlying 29=some (.struct (Tryz.prog.fieldsOf 29)):=by kernel_rfl
theorem usb {H:Type} {enc:TypeId×Value→H} {P:Program} {W:World} {base:Nat} {sp:Nat→Bool} {held:Bool} {t:TypeId} {r:Reach} {b0:Nat} {v:Value} {d:DataW H} {p:List MemPlace}(ht:P.underlying t=some .bool)(hv:Value.okWide P W r b0 t v)
 (h:DataW.Trod enc P W base sp held t v d p):Arg W v Bool (fun _=>True) (fun b=>(bv fun _=>b)):=by
 obtain⟨b,rfl,_⟩:=Go.RowKit.open_bool ht hv h
 exact⟨b,trivial,fun ν=>.bool ν (.sym fun _=>b)⟩
section
variable {H:Type} {enc:TypeId×Value→H} {W:World} {base:Nat} {sp:Nat→Bool} {held:Bool}
theorem us2 :Dec enc Tryz.prog W base sp held 3 Int (fun n=>(Lit.int .i64 n).wf=true) (fun n=>[(iv fun _=>n)]):=uuQ u3
theorem usJ :Dec enc Tryz.prog W base sp held 22 (List Int) (fun l=>(∀a∈l,(Lit.int .i64 a).wf=true)∧l.length≤maxLen) (fun l=>[.sl 1 (.sym fun _=>zi l.length) (fun ix=>[(iv fun _=>l.getD ix.den.toNat 0)])]):=
 umT 0 u22 (by kernel_rfl) (by decide) us2
theorem uzC :Dec enc Tryz.prog W base sp held 23 (List (List Int)) (fun _=>True) (fun l=>[.sl 1 (.sym fun _=>zi l.length) (fun ix=>[.sl 1 (.sym fun _=>zi (l.getD ix.den.toNat []).length) (fun jx=>[(iv fun _=>(l.getD ix.den.toNat []).getD jx.den.toNat 0)])])]):=
 ue4 id (umT [] u23 (by kernel_rfl) (by decide) usJ) (fun _ _=>trivial) (fun _=>rfl)
theorem uzO :Dec enc Tryz.prog W base sp held 25 (List Int×List Int×List (List Int)) (fun _=>True) (fun p=>[.sl 1 (.sym fun _=>zi p.1.length) (fun ix=>[(iv fun _=>p.1.getD ix.den.toNat 0)]),.sl 1 (.sym fun _=>zi p.2.1.length) (fun ix=>[(iv fun _=>p.2.1.getD ix.den.toNat 0)]),.sl 1 (.sym fun _=>zi p.2.2.length) (fun ix=>[.sl 1 (.sym fun _=>zi (p.2.2.getD ix.den.toNat []).length) (fun jx=>[(iv fun _=>(p.2.2.getD ix.den.toNat []).getD jx.den.toNat 0)])])]):=
 ue4 (fun p:List Int×List Int×List (List Int)×Unit=>(p.1,p.2.1,p.2.2.1)) (uhn (fl:=[(0,22),(1,22),(2,23)]) (tot:=3) u25 (by kernel_rfl) (by kernel_rfl) (uaC (m:=1) (by kernel_rfl) usJ (uaC (m:=1) (by kernel_rfl) usJ (uaC (m:=1) (by kernel_rfl) uzC ufe)))) (fun _ _=>trivial) (fun _=>rfl)
theorem uuN :Dec enc Tryz.prog W base sp held 66 (Int×Int) (fun _=>True) (fun p=>[(iv fun _=>p.1),(iv fun _=>p.2)]):=
 ue4 (fun p:Int×Int×Unit=>(p.1,p.2.1)) (uhn (fl:=[(0,3),(1,3)]) (tot:=2) u66 (by kernel_rfl) (by kernel_rfl) (uaC (m:=1) (by kernel_rfl) us2 (uaC (m:=1) (by kernel_rfl) us2 ufe))) (fun _ _=>trivial) (fun _=>rfl)
theorem uwH :Dec enc Tryz.prog W base sp held 100 LkT (fun _=>True) (fun v=>[(iv fun _=>v.a),(iv fun _=>v.b),(iv fun _=>v.lo),(iv fun _=>v.hi)]):=
 ue4 (fun p:Int×Int×(Int×Int)×Unit=>(⟨p.1,p.2.1,p.2.2.1.1,p.2.2.1.2⟩:LkT)) (uhn (fl:=[(0,3),(1,3),(2,66)]) (tot:=4) uAM (by kernel_rfl) (by kernel_rfl) (uaC (m:=1) (by kernel_rfl) us2 (uaC (m:=1) (by kernel_rfl) us2 (uaC (m:=2) (by kernel_rfl) uuN ufe)))) (fun _ _=>trivial) (fun _=>rfl)
theorem uxC :Dec enc Tryz.prog W base sp held 104 FaT (fun _=>True) (fun v=>[(iv fun _=>v.p),(iv fun _=>v.s),(iv fun _=>v.wl),(iv fun _=>v.wh),(iv fun _=>v.ml),(iv fun _=>v.mh)]):=
 ue4 (fun p:Int×Int×(Int×Int)×(Int×Int)×Unit=>(⟨p.1,p.2.1,p.2.2.1.1,p.2.2.1.2,p.2.2.2.1.1,p.2.2.2.1.2⟩:FaT)) (uhn (fl:=[(0,3),(1,3),(2,66),(4,66)]) (tot:=6) uBB (by kernel_rfl) (by kernel_rfl) (uaC (m:=1) (by kernel_rfl) us2 (uaC (m:=1) (by kernel_rfl) us2 (uaC (m:=2) (by kernel_rfl) uuN (uaC (m:=2) (by kernel_rfl) uuN ufe))))) (fun _ _=>trivial) (fun _=>rfl)
theorem uAi :Dec enc Tryz.prog W base sp held 26 (List LkT) (fun l=>l.length≤maxLen) (fun l=>[.sl 4 (.sym fun _=>zi l.length) (fun ix=>[(iv fun _=>(l.getD ix.den.toNat l0T).a),(iv fun _=>(l.getD ix.den.toNat l0T).b),(iv fun _=>(l.getD ix.den.toNat l0T).lo),(iv fun _=>(l.getD ix.den.toNat l0T).hi)])]):=
 ue4 id (umT l0T u26 (by kernel_rfl) (by decide) uwH) (fun _ h=>h.2) (fun _=>rfl)
theorem uz7 :Dec enc Tryz.prog W base sp held 27 (List FaT) (fun l=>l.length≤maxLen) (fun l=>[.sl 6 (.sym fun _=>zi l.length) (fun ix=>[(iv fun _=>(l.getD ix.den.toNat f0T).p),(iv fun _=>(l.getD ix.den.toNat f0T).s),(iv fun _=>(l.getD ix.den.toNat f0T).wl),(iv fun _=>(l.getD ix.den.toNat f0T).wh),(iv fun _=>(l.getD ix.den.toNat f0T).ml),(iv fun _=>(l.getD ix.den.toNat f0T).mh)])]):=
 ue4 id (umT f0T u27 (by kernel_rfl) (by decide) uxC) (fun _ h=>h.2) (fun _=>rfl)
theorem uyU :Dec enc Tryz.prog W base sp held 29 Dsp (fun d=>d.ls.length≤maxLen∧d.fs.length≤maxLen) (fun d=>[(iS d.tw),(iS d.tm),(.sl 1 (.sym fun _=>zi (d.tv).length) (fun ix=>[(.sl 1 (.sym fun _=>zi ((d.tv).getD ix.den.toNat []).length) (fun jx=>[(iv fun _=>((d.tv).getD ix.den.toNat []).getD jx.den.toNat 0)]))])),(iv fun _=>d.sn),(iv fun _=>d.pn),(.sl 4 (.sym fun _=>zi (d.ls).length) (fun ix=>[(iv fun _=>((d.ls).getD ix.den.toNat l0T).a),(iv fun _=>((d.ls).getD ix.den.toNat l0T).b),(iv fun _=>((d.ls).getD ix.den.toNat l0T).lo),(iv fun _=>((d.ls).getD ix.den.toNat l0T).hi)])),(.sl 6 (.sym fun _=>zi (d.fs).length) (fun ix=>[(iv fun _=>((d.fs).getD ix.den.toNat f0T).p),(iv fun _=>((d.fs).getD ix.den.toNat f0T).s),(iv fun _=>((d.fs).getD ix.den.toNat f0T).wl),(iv fun _=>((d.fs).getD ix.den.toNat f0T).wh),(iv fun _=>((d.fs).getD ix.den.toNat f0T).ml),(iv fun _=>((d.fs).getD ix.den.toNat f0T).mh)]))]):=
 ue4 (fun p:(List Int×List Int×List (List Int))×Int×Int×List LkT×List FaT×Unit=>(⟨p.1.1,p.1.2.1,p.1.2.2,p.2.1,p.2.2.1,p.2.2.2.1,p.2.2.2.2.1⟩:Dsp)) (uhn (fl:=[(0,25),(3,3),(4,3),(5,26),(6,27)]) (tot:=7) u29 (by kernel_rfl) (by kernel_rfl) (uaC (m:=3) (by kernel_rfl) uzO (uaC (m:=1) (by kernel_rfl) us2 (uaC (m:=1) (by kernel_rfl) us2 (uaC (m:=1) (by kernel_rfl) uAi (uaC (m:=1) (by kernel_rfl) uz7 ufe)))))) (fun _ h=>⟨h.2.2.2.1,h.2.2.2.2.1⟩) (fun _=>rfl)
end
end Go.Proofs.YtkdggbfknlcdaaaGreat
