/- Contracts of the functions that the laws come to. No condition. -/
import Derived.Test.YtdacdjdccibaiaaT5
import Derived.Test.YtdacdjdccibaiaaRows
set_option linter.unusedVariables false
set_option linter.unusedSimpArgs false
set_option linter.deprecated false
set_option linter.all false

namespace Go.Proofs.Ytdacdjdccibaiaa
open Go Go.Eng Go.Proofs
theorem own4 :ownKnob Try.prog.godebug=none:=by kernel_rfl
theorem kids4 :Kids Try.prog (· <Try.prog.types.size):=kids_rows (by kernel_rfl) (by kernel_rfl)
theorem full4 :∀t e,t<Try.prog.types.size→Try.prog.underlying t=some (.slice e)→0<Try.prog.cellsOf e:=slices_full_of Try.prog (by kernel_rfl)
theorem u3 :Try.prog.underlying 3=some (.int .i64):=by kernel_rfl
theorem u4 :Try.prog.underlying 4=some .bool:=by kernel_rfl
theorem u5 :Try.prog.underlying 5=some (.int .u8):=by kernel_rfl
theorem u29 :Try.prog.underlying 29=some (.slice 5):=by kernel_rfl
theorem u22 :Try.prog.underlying 22=some (.slice 3):=by kernel_rfl
theorem u23 :Try.prog.underlying 23=some (.slice 22):=by kernel_rfl
theorem u25 :Try.prog.underlying 25=some (.struct (Try.prog.fieldsOf 25)):=by kernel_rfl
theorem u26 :Try.prog.underlying 26=some (.slice 36):=by kernel_rfl
theorem u28 :Try.prog.underlying 28=some (.struct (Try.prog.fieldsOf 28)):=by kernel_rfl
theorem u34 :Try.prog.underlying 34=some (.struct (Try.prog.fieldsOf 34)):=by kernel_rfl
theorem u36 :Try.prog.underlying 36=some (.struct (Try.prog.fieldsOf 36)):=by kernel_rfl
theorem wf_u8 {n:Int}(h:(Lit.int .u8 n).wf=true):0≤n∧n≤255:=by
  simpa [Lit.wf,IntKind.min,IntKind.max,IntKind.bits,IntKind.signed]using h
theorem words_bd {l:List Int}(h:∀a∈l,(Lit.int .u8 a).wf=true)(i:Nat):0≤l.getD i 0∧l.getD i 0≤255:=by
  rcases Nat.lt_or_ge i l.length with q|q
  · rw [List.getD_eq_getElem?_getD,List.getElem?_eq_getElem q];exact wf_u8 (h _ (List.getElem_mem q))
  · rw [List.getD_eq_getElem?_getD,List.getElem?_eq_none q];exact⟨Int.le_refl _,by decide⟩
theorem words_len {l:List Int}(h:l.length≤maxLen):l.length≤9223372036854775807:=Nat.le_trans h (by decide)
structure Sto where
  tw:List Int
  tm:List Int
  tv:List (List Int)
  rate:Int
  cs:List Csk
section
variable {H:Type} {enc:TypeId×Value→H} {W:World} {base:Nat} {sp:Nat→Bool} {held:Bool}
theorem dec3 :Dec enc Try.prog W base sp held 3 Int (fun n=>(Lit.int .i64 n).wf=true) (fun n=>[.int .i64 (.sym fun _=>n)]):=dec_int u3
theorem dec22 :Dec enc Try.prog W base sp held 22 (List Int) (fun l=>(∀a∈l,(Lit.int .i64 a).wf=true)∧l.length≤maxLen) (fun l=>[.sl 1 (.sym fun _=>zi l.length) (fun ix=>[.int .i64 (.sym fun _=>l.getD ix.den.toNat 0)])]):=
  dec_sl 0 u22 (by kernel_rfl) (by decide) dec3
theorem dec23 :Dec enc Try.prog W base sp held 23 (List (List Int)) (fun _=>True) (fun l=>[.sl 1 (.sym fun _=>zi l.length) (fun ix=>[.sl 1 (.sym fun _=>zi (l.getD ix.den.toNat []).length) (fun jx=>[.int .i64 (.sym fun _=>(l.getD ix.den.toNat []).getD jx.den.toNat 0)])])]):=
  dec_map id (dec_sl [] u23 (by kernel_rfl) (by decide) dec22) (fun _ _=>trivial) (fun _=>rfl)
theorem dec34 :Dec enc Try.prog W base sp held 34 (Int×Int) (fun p=>(Lit.int .i64 p.1).wf=true∧(Lit.int .i64 p.2).wf=true) (fun p=>[.int .i64 (.sym fun _=>p.1),.int .i64 (.sym fun _=>p.2)]):=
  dec_map (fun p:Int×Int×Unit=>(p.1,p.2.1)) (dec_str (fl:=[(0,3),(1,3)]) (tot:=2) u34 (by kernel_rfl) (by kernel_rfl) (decF_cons (m:=1) (by kernel_rfl) dec3 (decF_cons (m:=1) (by kernel_rfl) dec3 decF_nil))) (fun _ h=>⟨h.1,h.2.1⟩) (fun _=>rfl)
theorem dec36 :Dec enc Try.prog W base sp held 36 Csk (fun _=>True) (fun c=>[.int .i64 (.sym fun _=>c.g),.int .i64 (.sym fun _=>c.wl),.int .i64 (.sym fun _=>c.wh),.int .i64 (.sym fun _=>c.ml),.int .i64 (.sym fun _=>c.mh)]):=
  dec_map (fun p:Int×(Int×Int)×(Int×Int)×Unit=>⟨p.1,p.2.1.1,p.2.1.2,p.2.2.1.1,p.2.2.1.2⟩) (dec_str (fl:=[(0,3),(1,34),(3,34)]) (tot:=5) u36 (by kernel_rfl) (by kernel_rfl) (decF_cons (m:=1) (by kernel_rfl) dec3 (decF_cons (m:=2) (by kernel_rfl) dec34 (decF_cons (m:=2) (by kernel_rfl) dec34 decF_nil)))) (fun _ _=>trivial) (fun _=>rfl)
theorem dec26 :Dec enc Try.prog W base sp held 26 (List Csk) (fun l=>l.length≤maxLen) (fun l=>[.sl 5 (.sym fun _=>zi l.length) (fun ix=>[.int .i64 (.sym fun _=>(l.getD ix.den.toNat ck0).g),.int .i64 (.sym fun _=>(l.getD ix.den.toNat ck0).wl),.int .i64 (.sym fun _=>(l.getD ix.den.toNat ck0).wh),.int .i64 (.sym fun _=>(l.getD ix.den.toNat ck0).ml),.int .i64 (.sym fun _=>(l.getD ix.den.toNat ck0).mh)])]):=
  dec_map id (dec_sl ck0 u26 (by kernel_rfl) (by decide) dec36) (fun _ h=>h.2) (fun _=>rfl)
theorem dec25 :Dec enc Try.prog W base sp held 25 (List Int×List Int×List (List Int)) (fun _=>True) (fun p=>[.sl 1 (.sym fun _=>zi p.1.length) (fun ix=>[.int .i64 (.sym fun _=>p.1.getD ix.den.toNat 0)]),.sl 1 (.sym fun _=>zi p.2.1.length) (fun ix=>[.int .i64 (.sym fun _=>p.2.1.getD ix.den.toNat 0)]),.sl 1 (.sym fun _=>zi p.2.2.length) (fun ix=>[.sl 1 (.sym fun _=>zi (p.2.2.getD ix.den.toNat []).length) (fun jx=>[.int .i64 (.sym fun _=>(p.2.2.getD ix.den.toNat []).getD jx.den.toNat 0)])])]):=
  dec_map (fun p:List Int×List Int×List (List Int)×Unit=>(p.1,p.2.1,p.2.2.1)) (dec_str (fl:=[(0,22),(1,22),(2,23)]) (tot:=3) u25 (by kernel_rfl) (by kernel_rfl) (decF_cons (m:=1) (by kernel_rfl) dec22 (decF_cons (m:=1) (by kernel_rfl) dec22 (decF_cons (m:=1) (by kernel_rfl) dec23 decF_nil)))) (fun _ _=>trivial) (fun _=>rfl)
theorem dec5 :Dec enc Try.prog W base sp held 5 Int (fun n=>(Lit.int .u8 n).wf=true) (fun n=>[.int .u8 (.sym fun _=>n)]):=dec_int u5
theorem dec29 :Dec enc Try.prog W base sp held 29 (List Int) (fun l=>(∀a∈l,(Lit.int .u8 a).wf=true)∧l.length≤maxLen) (fun l=>[.sl 1 (.sym fun _=>zi l.length) (fun ix=>[.int .u8 (.sym fun _=>l.getD ix.den.toNat 0)])]):=
  dec_sl 0 u29 (by kernel_rfl) (by decide) dec5
theorem dec28 :Dec enc Try.prog W base sp held 28 Sto (fun s=>s.cs.length≤maxLen) (fun s=>[(.sl 1 (.sym fun _=>zi (s.tw).length) (fun ix=>[.int .i64 (.sym fun _=>(s.tw).getD ix.den.toNat 0)])),(.sl 1 (.sym fun _=>zi (s.tm).length) (fun ix=>[.int .i64 (.sym fun _=>(s.tm).getD ix.den.toNat 0)])),(.sl 1 (.sym fun _=>zi (s.tv).length) (fun ix=>[(.sl 1 (.sym fun _=>zi ((s.tv).getD ix.den.toNat []).length) (fun jx=>[.int .i64 (.sym fun _=>((s.tv).getD ix.den.toNat []).getD jx.den.toNat 0)]))])),(.int .i64 (.sym fun _=>s.rate)),(.sl 5 (.sym fun _=>zi (s.cs).length) (fun ix=>[(.int .i64 (.sym fun _=>((s.cs).getD ix.den.toNat ck0).g)),(.int .i64 (.sym fun _=>((s.cs).getD ix.den.toNat ck0).wl)),(.int .i64 (.sym fun _=>((s.cs).getD ix.den.toNat ck0).wh)),(.int .i64 (.sym fun _=>((s.cs).getD ix.den.toNat ck0).ml)),(.int .i64 (.sym fun _=>((s.cs).getD ix.den.toNat ck0).mh))]))]):=
  dec_map (fun p:(List Int×List Int×List (List Int))×Int×List Csk×Unit=>⟨p.1.1,p.1.2.1,p.1.2.2,p.2.1,p.2.2.1⟩) (dec_str (fl:=[(0,25),(3,3),(4,26)]) (tot:=5) u28 (by kernel_rfl) (by kernel_rfl) (decF_cons (m:=3) (by kernel_rfl) dec25 (decF_cons (m:=1) (by kernel_rfl) dec3 (decF_cons (m:=1) (by kernel_rfl) dec26 decF_nil)))) (fun _ h=>h.2.2.1) (fun _=>rfl)
end
end Go.Proofs.Ytdacdjdccibaiaa
