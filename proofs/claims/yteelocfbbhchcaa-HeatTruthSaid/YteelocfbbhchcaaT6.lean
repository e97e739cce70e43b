/- Contracts of the functions that the laws come to. No condition. -/
import Derived.Test.YteelocfbbhchcaaT5
import Derived.Test.YteelocfbbhchcaaRows
set_option linter.unusedVariables false
set_option linter.unusedSimpArgs false
set_option linter.deprecated false
set_option linter.all false

namespace Go.Proofs.Yteelocfbbhchcaa
open Go Go.Eng Go.Proofs
theorem own4 :ownKnob Try.prog.godebug=none:=by kernel_rfl
theorem kids4 :Kids Try.prog (· <Try.prog.types.size):=kids_rows (by kernel_rfl) (by kernel_rfl)
theorem full4 :∀t e,t<Try.prog.types.size→Try.prog.underlying t=some (.slice e)→0<Try.prog.cellsOf e:=slices_full_of Try.prog (by kernel_rfl)
theorem u3 :Try.prog.underlying 3=some (.int .i64):=by kernel_rfl
theorem u4 :Try.prog.underlying 4=some .bool:=by kernel_rfl
theorem u5 :Try.prog.underlying 5=some (.int .u8):=by kernel_rfl
theorem u24 :Try.prog.underlying 24=some (.slice 98):=by kernel_rfl
theorem u51 :Try.prog.underlying 51=some (.slice 100):=by kernel_rfl
theorem u25 :Try.prog.underlying 25=some (.slice 53):=by kernel_rfl
theorem u86 :Try.prog.underlying 86=some (.slice 5):=by kernel_rfl
theorem u23 :Try.prog.underlying 23=some (.struct (Try.prog.fieldsOf 23)):=by kernel_rfl
theorem u98 :Try.prog.underlying 98=some (.struct (Try.prog.fieldsOf 98)):=by kernel_rfl
theorem u100 :Try.prog.underlying 100=some (.struct (Try.prog.fieldsOf 100)):=by kernel_rfl
theorem u53 :Try.prog.underlying 53=some (.struct (Try.prog.fieldsOf 53)):=by kernel_rfl
theorem u27 :Try.prog.underlying 27=some (.struct (Try.prog.fieldsOf 27)):=by kernel_rfl
theorem wf_u8 {n:Int}(h:(Lit.int .u8 n).wf=true):0≤n∧n≤255:=by
  simpa [Lit.wf,IntKind.min,IntKind.max,IntKind.bits,IntKind.signed]using h
theorem words_bd {l:List Int}(h:∀a∈l,(Lit.int .u8 a).wf=true)(i:Nat):0≤l.getD i 0∧l.getD i 0≤255:=by
  rw [List.getD_eq_getElem?_getD]
  by_cases hi:i<l.length
  · rw [List.getElem?_eq_getElem hi];exact wf_u8 (h _ (List.getElem_mem hi))
  · rw [List.getElem?_eq_none (by omega)];decide
section
variable {H:Type} {enc:TypeId×Value→H} {W:World} {base:Nat} {sp:Nat→Bool} {held:Bool}
theorem dec3 :Dec enc Try.prog W base sp held 3 Int (fun n=>(Lit.int .i64 n).wf=true) (fun n=>[.int .i64 (.sym fun _=>n)]):=dec_int u3
theorem dec5 :Dec enc Try.prog W base sp held 5 Int (fun n=>(Lit.int .u8 n).wf=true) (fun n=>[.int .u8 (.sym fun _=>n)]):=dec_int u5
theorem dec86 :Dec enc Try.prog W base sp held 86 (List Int) (fun l=>(∀a∈l,(Lit.int .u8 a).wf=true)∧l.length≤maxLen) (fun l=>[.sl 1 (.sym fun _=>zi l.length) (fun ix=>[.int .u8 (.sym fun _=>l.getD ix.den.toNat 0)])]):=
  dec_sl 0 u86 (by kernel_rfl) (by decide) dec5
theorem dec23 :Dec enc Try.prog W base sp held 23 (Int×Int) (fun _=>True) (fun p=>[.int .i64 (.sym fun _=>p.1),.int .i64 (.sym fun _=>p.2)]):=
  dec_map (fun p:Int×Int×Unit=>(p.1,p.2.1)) (dec_str (fl:=[(0,3),(1,3)]) (tot:=2) u23 (by kernel_rfl) (by kernel_rfl) (decF_cons (m:=1) (by kernel_rfl) dec3 (decF_cons (m:=1) (by kernel_rfl) dec3 decF_nil))) (fun _ _=>trivial) (fun _=>rfl)
theorem dec98 :Dec enc Try.prog W base sp held 98 VatT (fun _=>True) (fun v=>[.int .i64 (.sym fun _=>v.sl),.int .i64 (.sym fun _=>v.sh),.int .i64 (.sym fun _=>v.rl),.int .i64 (.sym fun _=>v.rh)]):=
  dec_map (fun p:(Int×Int)×(Int×Int)×Unit=>(⟨p.1.1,p.1.2,p.2.1.1,p.2.1.2⟩:VatT)) (dec_str (fl:=[(0,23),(2,23)]) (tot:=4) u98 (by kernel_rfl) (by kernel_rfl) (decF_cons (m:=2) (by kernel_rfl) dec23 (decF_cons (m:=2) (by kernel_rfl) dec23 decF_nil))) (fun _ _=>trivial) (fun _=>rfl)
theorem dec100 :Dec enc Try.prog W base sp held 100 PartT (fun _=>True) (fun v=>[.int .i64 (.sym fun _=>v.f),.int .i64 (.sym fun _=>v.el),.int .i64 (.sym fun _=>v.eh)]):=
  dec_map (fun p:Int×(Int×Int)×Unit=>(⟨p.1,p.2.1.1,p.2.1.2⟩:PartT)) (dec_str (fl:=[(0,3),(1,23)]) (tot:=3) u100 (by kernel_rfl) (by kernel_rfl) (decF_cons (m:=1) (by kernel_rfl) dec3 (decF_cons (m:=2) (by kernel_rfl) dec23 decF_nil))) (fun _ _=>trivial) (fun _=>rfl)
theorem dec24 :Dec enc Try.prog W base sp held 24 (List VatT) (fun l=>l.length≤maxLen) (fun l=>[.sl 4 (.sym fun _=>zi l.length) (fun ix=>[.int .i64 (.sym fun _=>(l.getD ix.den.toNat v0).sl),.int .i64 (.sym fun _=>(l.getD ix.den.toNat v0).sh),.int .i64 (.sym fun _=>(l.getD ix.den.toNat v0).rl),.int .i64 (.sym fun _=>(l.getD ix.den.toNat v0).rh)])]):=
  dec_map id (dec_sl v0 u24 (by kernel_rfl) (by decide) dec98) (fun _ h=>h.2) (fun _=>rfl)
theorem dec51 :Dec enc Try.prog W base sp held 51 (List PartT) (fun l=>l.length≤maxLen) (fun l=>[.sl 3 (.sym fun _=>zi l.length) (fun ix=>[.int .i64 (.sym fun _=>(l.getD ix.den.toNat p0).f),.int .i64 (.sym fun _=>(l.getD ix.den.toNat p0).el),.int .i64 (.sym fun _=>(l.getD ix.den.toNat p0).eh)])]):=
  dec_map id (dec_sl p0 u51 (by kernel_rfl) (by decide) dec100) (fun _ h=>h.2) (fun _=>rfl)
theorem dec53 :Dec enc Try.prog W base sp held 53 ThmT (fun _=>True) (fun v=>[.int .i64 (.sym fun _=>v.top),.sl 3 (.sym fun _=>zi (v.ps).length) (fun jx=>[.int .i64 (.sym fun _=>((v.ps).getD jx.den.toNat p0).f),.int .i64 (.sym fun _=>((v.ps).getD jx.den.toNat p0).el),.int .i64 (.sym fun _=>((v.ps).getD jx.den.toNat p0).eh)])]):=
  dec_map (fun p:Int×List PartT×Unit=>(⟨p.1,p.2.1⟩:ThmT)) (dec_str (fl:=[(0,3),(1,51)]) (tot:=2) u53 (by kernel_rfl) (by kernel_rfl) (decF_cons (m:=1) (by kernel_rfl) dec3 (decF_cons (m:=1) (by kernel_rfl) dec51 decF_nil))) (fun _ _=>trivial) (fun _=>rfl)
theorem dec25 :Dec enc Try.prog W base sp held 25 (List ThmT) (fun l=>l.length≤maxLen) (fun l=>[.sl 2 (.sym fun _=>zi l.length) (fun ix=>[.int .i64 (.sym fun _=>(l.getD ix.den.toNat t0).top),.sl 3 (.sym fun _=>zi ((l.getD ix.den.toNat t0).ps).length) (fun jx=>[.int .i64 (.sym fun _=>(((l.getD ix.den.toNat t0).ps).getD jx.den.toNat p0).f),.int .i64 (.sym fun _=>(((l.getD ix.den.toNat t0).ps).getD jx.den.toNat p0).el),.int .i64 (.sym fun _=>(((l.getD ix.den.toNat t0).ps).getD jx.den.toNat p0).eh)])])]):=
  dec_map id (dec_sl t0 u25 (by kernel_rfl) (by decide) dec53) (fun _ h=>h.2) (fun _=>rfl)
theorem dec27 :Dec enc Try.prog W base sp held 27 Clr (fun c=>c.vs.length≤maxLen∧c.ts.length≤maxLen) (fun c=>[(.int .i64 (.sym fun _=>c.rl)),(.int .i64 (.sym fun _=>c.rh)),(.int .i64 (.sym fun _=>c.hr)),(.sl 4 (.sym fun _=>zi c.vs.length) (fun ix=>[(.int .i64 (.sym fun _=>(c.vs.getD ix.den.toNat v0).sl)),(.int .i64 (.sym fun _=>(c.vs.getD ix.den.toNat v0).sh)),(.int .i64 (.sym fun _=>(c.vs.getD ix.den.toNat v0).rl)),(.int .i64 (.sym fun _=>(c.vs.getD ix.den.toNat v0).rh))])),(.sl 2 (.sym fun _=>zi c.ts.length) (fun ix=>[(.int .i64 (.sym fun _=>(c.ts.getD ix.den.toNat t0).top)),(.sl 3 (.sym fun _=>zi ((c.ts.getD ix.den.toNat t0).ps).length) (fun jx=>[(.int .i64 (.sym fun _=>(((c.ts.getD ix.den.toNat t0).ps).getD jx.den.toNat p0).f)),(.int .i64 (.sym fun _=>(((c.ts.getD ix.den.toNat t0).ps).getD jx.den.toNat p0).el)),(.int .i64 (.sym fun _=>(((c.ts.getD ix.den.toNat t0).ps).getD jx.den.toNat p0).eh))]))]))]):=
  dec_map (fun p:(Int×Int)×Int×List VatT×List ThmT×Unit=>(⟨p.1.1,p.1.2,p.2.1,p.2.2.1,p.2.2.2.1⟩:Clr)) (dec_str (fl:=[(0,23),(2,3),(3,24),(4,25)]) (tot:=5) u27 (by kernel_rfl) (by kernel_rfl) (decF_cons (m:=2) (by kernel_rfl) dec23 (decF_cons (m:=1) (by kernel_rfl) dec3 (decF_cons (m:=1) (by kernel_rfl) dec24 (decF_cons (m:=1) (by kernel_rfl) dec25 decF_nil))))) (fun _ h=>⟨h.2.2.1,h.2.2.2.1⟩) (fun _=>rfl)
end
end Go.Proofs.Yteelocfbbhchcaa
