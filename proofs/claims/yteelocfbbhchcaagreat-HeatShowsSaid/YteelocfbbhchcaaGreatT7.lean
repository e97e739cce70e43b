/- Contracts of the functions that the laws come to. No condition. -/
import Derived.Test.YteelocfbbhchcaaGreatT6
import Derived.Test.YteelocfbbhchcaaGreatRows
set_option linter.unusedVariables false
set_option linter.unusedSimpArgs false
set_option linter.deprecated false
set_option linter.all false

namespace Go.Proofs.YteelocfbbhchcaaGreat
open Go Go.Eng Go.Proofs
theorem own4 :ownKnob Tryz.prog.godebug=none:=by kernel_rfl
theorem kids4 :Kids Tryz.prog (· <Tryz.prog.types.size):=kids_rows (by kernel_rfl) (by kernel_rfl)
theorem full4 :∀t e,t<Tryz.prog.types.size→Tryz.prog.underlying t=some (.slice e)→0<Tryz.prog.cellsOf e:=slices_full_of Tryz.prog (by kernel_rfl)
theorem u3 :Tryz.prog.underlying 3=some (.int .i64):=by kernel_rfl
theorem u4 :Tryz.prog.underlying 4=some .bool:=by kernel_rfl
theorem u29 :Tryz.prog.underlying 29=some (.slice 3):=by kernel_rfl
theorem u24 :Tryz.prog.underlying 24=some (.slice 66):=by kernel_rfl
theorem u61 :Tryz.prog.underlying 61=some (.slice 101):=by kernel_rfl
theorem u25 :Tryz.prog.underlying 25=some (.slice 63):=by kernel_rfl
theorem u28 :Tryz.prog.underlying 28=some (.slice 104):=by kernel_rfl
theorem u23 :Tryz.prog.underlying 23=some (.struct (Tryz.prog.fieldsOf 23)):=by kernel_rfl
theorem u66 :Tryz.prog.underlying 66=some (.struct (Tryz.prog.fieldsOf 66)):=by kernel_rfl
theorem u101 :Tryz.prog.underlying 101=some (.struct (Tryz.prog.fieldsOf 101)):=by kernel_rfl
theorem u63 :Tryz.prog.underlying 63=some (.struct (Tryz.prog.fieldsOf 63)):=by kernel_rfl
theorem u27 :Tryz.prog.underlying 27=some (.struct (Tryz.prog.fieldsOf 27)):=by kernel_rfl
theorem u31 :Tryz.prog.underlying 31=some (.struct (Tryz.prog.fieldsOf 31)):=by kernel_rfl
theorem u104 :Tryz.prog.underlying 104=some (.struct (Tryz.prog.fieldsOf 104)):=by kernel_rfl
section
variable {H:Type} {enc:TypeId×Value→H} {W:World} {base:Nat} {sp:Nat→Bool} {held:Bool}
theorem dec3 :Dec enc Tryz.prog W base sp held 3 Int (fun n=>(Lit.int .i64 n).wf=true) (fun n=>[.int .i64 (.sym fun _=>n)]):=dec_int u3
theorem dec29 :Dec enc Tryz.prog W base sp held 29 (List Int) (fun l=>(∀a∈l,(Lit.int .i64 a).wf=true)∧l.length≤maxLen) (fun l=>[.sl 1 (.sym fun _=>zi l.length) (fun ix=>[.int .i64 (.sym fun _=>l.getD ix.den.toNat 0)])]):=
  dec_sl 0 u29 (by kernel_rfl) (by decide) dec3
theorem dec23 :Dec enc Tryz.prog W base sp held 23 (Int×Int) (fun _=>True) (fun p=>[.int .i64 (.sym fun _=>p.1),.int .i64 (.sym fun _=>p.2)]):=
  dec_map (fun p:Int×Int×Unit=>(p.1,p.2.1)) (dec_str (fl:=[(0,3),(1,3)]) (tot:=2) u23 (by kernel_rfl) (by kernel_rfl) (decF_cons (m:=1) (by kernel_rfl) dec3 (decF_cons (m:=1) (by kernel_rfl) dec3 decF_nil))) (fun _ _=>trivial) (fun _=>rfl)
theorem dec66 :Dec enc Tryz.prog W base sp held 66 VatT (fun _=>True) (fun v=>[.int .i64 (.sym fun _=>v.sl),.int .i64 (.sym fun _=>v.sh),.int .i64 (.sym fun _=>v.rl),.int .i64 (.sym fun _=>v.rh)]):=
  dec_map (fun p:(Int×Int)×(Int×Int)×Unit=>(⟨p.1.1,p.1.2,p.2.1.1,p.2.1.2⟩:VatT)) (dec_str (fl:=[(0,23),(2,23)]) (tot:=4) u66 (by kernel_rfl) (by kernel_rfl) (decF_cons (m:=2) (by kernel_rfl) dec23 (decF_cons (m:=2) (by kernel_rfl) dec23 decF_nil))) (fun _ _=>trivial) (fun _=>rfl)
theorem dec101 :Dec enc Tryz.prog W base sp held 101 PartT (fun _=>True) (fun v=>[.int .i64 (.sym fun _=>v.f),.int .i64 (.sym fun _=>v.el),.int .i64 (.sym fun _=>v.eh)]):=
  dec_map (fun p:Int×(Int×Int)×Unit=>(⟨p.1,p.2.1.1,p.2.1.2⟩:PartT)) (dec_str (fl:=[(0,3),(1,23)]) (tot:=3) u101 (by kernel_rfl) (by kernel_rfl) (decF_cons (m:=1) (by kernel_rfl) dec3 (decF_cons (m:=2) (by kernel_rfl) dec23 decF_nil))) (fun _ _=>trivial) (fun _=>rfl)
theorem dec104 :Dec enc Tryz.prog W base sp held 104 LookT (fun _=>True) (fun v=>[.int .i64 (.sym fun _=>v.v),.int .i64 (.sym fun _=>v.h),.int .i64 (.sym fun _=>v.t),.int .i64 (.sym fun _=>v.s)]):=
  dec_map (fun p:Int×Int×Int×Int×Unit=>(⟨p.1,p.2.1,p.2.2.1,p.2.2.2.1⟩:LookT)) (dec_str (fl:=[(0,3),(1,3),(2,3),(3,3)]) (tot:=4) u104 (by kernel_rfl) (by kernel_rfl) (decF_cons (m:=1) (by kernel_rfl) dec3 (decF_cons (m:=1) (by kernel_rfl) dec3 (decF_cons (m:=1) (by kernel_rfl) dec3 (decF_cons (m:=1) (by kernel_rfl) dec3 decF_nil))))) (fun _ _=>trivial) (fun _=>rfl)
theorem dec24 :Dec enc Tryz.prog W base sp held 24 (List VatT) (fun l=>l.length≤maxLen) (fun l=>[.sl 4 (.sym fun _=>zi l.length) (fun ix=>[.int .i64 (.sym fun _=>(l.getD ix.den.toNat v0).sl),.int .i64 (.sym fun _=>(l.getD ix.den.toNat v0).sh),.int .i64 (.sym fun _=>(l.getD ix.den.toNat v0).rl),.int .i64 (.sym fun _=>(l.getD ix.den.toNat v0).rh)])]):=
  dec_map id (dec_sl v0 u24 (by kernel_rfl) (by decide) dec66) (fun _ h=>h.2) (fun _=>rfl)
theorem dec61 :Dec enc Tryz.prog W base sp held 61 (List PartT) (fun l=>l.length≤maxLen) (fun l=>[.sl 3 (.sym fun _=>zi l.length) (fun ix=>[.int .i64 (.sym fun _=>(l.getD ix.den.toNat p0).f),.int .i64 (.sym fun _=>(l.getD ix.den.toNat p0).el),.int .i64 (.sym fun _=>(l.getD ix.den.toNat p0).eh)])]):=
  dec_map id (dec_sl p0 u61 (by kernel_rfl) (by decide) dec101) (fun _ h=>h.2) (fun _=>rfl)
theorem dec28 :Dec enc Tryz.prog W base sp held 28 (List LookT) (fun l=>l.length≤maxLen) (fun l=>[.sl 4 (.sym fun _=>zi l.length) (fun ix=>[.int .i64 (.sym fun _=>(l.getD ix.den.toNat k0).v),.int .i64 (.sym fun _=>(l.getD ix.den.toNat k0).h),.int .i64 (.sym fun _=>(l.getD ix.den.toNat k0).t),.int .i64 (.sym fun _=>(l.getD ix.den.toNat k0).s)])]):=
  dec_map id (dec_sl k0 u28 (by kernel_rfl) (by decide) dec104) (fun _ h=>h.2) (fun _=>rfl)
theorem dec63 :Dec enc Tryz.prog W base sp held 63 ThmT (fun _=>True) (fun v=>[.int .i64 (.sym fun _=>v.top),.sl 3 (.sym fun _=>zi (v.ps).length) (fun jx=>[.int .i64 (.sym fun _=>((v.ps).getD jx.den.toNat p0).f),.int .i64 (.sym fun _=>((v.ps).getD jx.den.toNat p0).el),.int .i64 (.sym fun _=>((v.ps).getD jx.den.toNat p0).eh)])]):=
  dec_map (fun p:Int×List PartT×Unit=>(⟨p.1,p.2.1⟩:ThmT)) (dec_str (fl:=[(0,3),(1,61)]) (tot:=2) u63 (by kernel_rfl) (by kernel_rfl) (decF_cons (m:=1) (by kernel_rfl) dec3 (decF_cons (m:=1) (by kernel_rfl) dec61 decF_nil))) (fun _ _=>trivial) (fun _=>rfl)
theorem dec25 :Dec enc Tryz.prog W base sp held 25 (List ThmT) (fun l=>l.length≤maxLen) (fun l=>[.sl 2 (.sym fun _=>zi l.length) (fun ix=>[.int .i64 (.sym fun _=>(l.getD ix.den.toNat t0).top),.sl 3 (.sym fun _=>zi ((l.getD ix.den.toNat t0).ps).length) (fun jx=>[.int .i64 (.sym fun _=>(((l.getD ix.den.toNat t0).ps).getD jx.den.toNat p0).f),.int .i64 (.sym fun _=>(((l.getD ix.den.toNat t0).ps).getD jx.den.toNat p0).el),.int .i64 (.sym fun _=>(((l.getD ix.den.toNat t0).ps).getD jx.den.toNat p0).eh)])])]):=
  dec_map id (dec_sl t0 u25 (by kernel_rfl) (by decide) dec63) (fun _ h=>h.2) (fun _=>rfl)
theorem dec27 :Dec enc Tryz.prog W base sp held 27 Clr (fun c=>c.vs.length≤maxLen∧c.ts.length≤maxLen) (fun c=>[(.int .i64 (.sym fun _=>c.rl)),(.int .i64 (.sym fun _=>c.rh)),(.int .i64 (.sym fun _=>c.hr)),(.sl 4 (.sym fun _=>zi c.vs.length) (fun ix=>[(.int .i64 (.sym fun _=>(c.vs.getD ix.den.toNat v0).sl)),(.int .i64 (.sym fun _=>(c.vs.getD ix.den.toNat v0).sh)),(.int .i64 (.sym fun _=>(c.vs.getD ix.den.toNat v0).rl)),(.int .i64 (.sym fun _=>(c.vs.getD ix.den.toNat v0).rh))])),(.sl 2 (.sym fun _=>zi c.ts.length) (fun ix=>[(.int .i64 (.sym fun _=>(c.ts.getD ix.den.toNat t0).top)),(.sl 3 (.sym fun _=>zi ((c.ts.getD ix.den.toNat t0).ps).length) (fun jx=>[(.int .i64 (.sym fun _=>(((c.ts.getD ix.den.toNat t0).ps).getD jx.den.toNat p0).f)),(.int .i64 (.sym fun _=>(((c.ts.getD ix.den.toNat t0).ps).getD jx.den.toNat p0).el)),(.int .i64 (.sym fun _=>(((c.ts.getD ix.den.toNat t0).ps).getD jx.den.toNat p0).eh))]))]))]):=
  dec_map (fun p:(Int×Int)×Int×List VatT×List ThmT×Unit=>(⟨p.1.1,p.1.2,p.2.1,p.2.2.1,p.2.2.2.1⟩:Clr)) (dec_str (fl:=[(0,23),(2,3),(3,24),(4,25)]) (tot:=5) u27 (by kernel_rfl) (by kernel_rfl) (decF_cons (m:=2) (by kernel_rfl) dec23 (decF_cons (m:=1) (by kernel_rfl) dec3 (decF_cons (m:=1) (by kernel_rfl) dec24 (decF_cons (m:=1) (by kernel_rfl) dec25 decF_nil))))) (fun _ h=>⟨h.2.2.1,h.2.2.2.1⟩) (fun _=>rfl)
def Tru :Type:=Int×List Int×List Int
theorem dec31 :Dec enc Tryz.prog W base sp held 31 Tru (fun p=>p.2.1.length≤maxLen∧p.2.2.length≤maxLen) (fun p=>[.int .i64 (.sym fun _=>p.1),(.sl 1 (.sym fun _=>zi (p.2.1).length) (fun ix=>[.int .i64 (.sym fun _=>(p.2.1).getD ix.den.toNat 0)])),(.sl 1 (.sym fun _=>zi (p.2.2).length) (fun ix=>[.int .i64 (.sym fun _=>(p.2.2).getD ix.den.toNat 0)]))]):=
  dec_map (fun p:Int×List Int×List Int×Unit=>(p.1,p.2.1,p.2.2.1)) (dec_str (fl:=[(0,3),(1,29),(2,29)]) (tot:=3) u31 (by kernel_rfl) (by kernel_rfl) (decF_cons (m:=1) (by kernel_rfl) dec3 (decF_cons (m:=1) (by kernel_rfl) dec29 (decF_cons (m:=1) (by kernel_rfl) dec29 decF_nil)))) (fun _ h=>⟨h.2.1.2,h.2.2.1.2⟩) (fun _=>rfl)
end
end Go.Proofs.YteelocfbbhchcaaGreat
