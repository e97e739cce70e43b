/- Contracts of the functions that the laws come to. No condition. -/
import Derived.Test.YteelocfbbhchcaaT5
import Derived.Test.YteelocfbbhchcaaRows
import Derived.SizedLaws
set_option linter.unusedVariables false
set_option linter.unusedSimpArgs false
set_option linter.deprecated false
set_option linter.all false

namespace Go.Proofs.Yteelocfbbhchcaa
open Go Go.Eng Go.Proofs
theorem own4 :ownKnob Try.prog.godebug=none:=by kernel_rfl
theorem kids4 :Kids Try.prog (· <Try.prog.types.size):=kids_rows (by kernel_rfl) (by kernel_rfl)
theorem full4 :∀t e,t<Try.prog.types.size→Try.prog.underlying t=some (.slice e)→0<Try.prog.cellsOf e:=slices_full_of Try.prog (by kernel_rfl)
theorem u3 :Try.prog.underlying 3=some (.int .i64):=by kernel_rfl
theorem u4 :Try.prog.underlying 4=some .bool:=by kernel_rfl
theorem u5 :Try.prog.underlying 5=some (.int .u8):=by kernel_rfl
theorem u103 :Try.prog.underlying 103=some (.int .i16):=by kernel_rfl
theorem u28 :Try.prog.underlying 28=some (.slice 3):=by kernel_rfl
theorem u24 :Try.prog.underlying 24=some (.slice 98):=by kernel_rfl
theorem u51 :Try.prog.underlying 51=some (.slice 100):=by kernel_rfl
theorem u25 :Try.prog.underlying 25=some (.slice 53):=by kernel_rfl
theorem u60 :Try.prog.underlying 60=some (.slice 90):=by kernel_rfl
theorem u79 :Try.prog.underlying 79=some (.slice 106):=by kernel_rfl
theorem u86 :Try.prog.underlying 86=some (.slice 5):=by kernel_rfl
theorem u23 :Try.prog.underlying 23=some (.struct (Try.prog.fieldsOf 23)):=by kernel_rfl
theorem u98 :Try.prog.underlying 98=some (.struct (Try.prog.fieldsOf 98)):=by kernel_rfl
theorem u100 :Try.prog.underlying 100=some (.struct (Try.prog.fieldsOf 100)):=by kernel_rfl
theorem u53 :Try.prog.underlying 53=some (.struct (Try.prog.fieldsOf 53)):=by kernel_rfl
theorem u27 :Try.prog.underlying 27=some (.struct (Try.prog.fieldsOf 27)):=by kernel_rfl
theorem u30 :Try.prog.underlying 30=some (.struct (Try.prog.fieldsOf 30)):=by kernel_rfl
theorem u90 :Try.prog.underlying 90=some (.struct (Try.prog.fieldsOf 90)):=by kernel_rfl
theorem u106 :Try.prog.underlying 106=some (.struct (Try.prog.fieldsOf 106)):=by kernel_rfl
theorem wf_u8 {n:Int}(h:(Lit.int .u8 n).wf=true):0≤n∧n≤255:=by
  simpa [Lit.wf,IntKind.min,IntKind.max,IntKind.bits,IntKind.signed]using h
theorem wf_i16 {n:Int}(h:(Lit.int .i16 n).wf=true): -32768≤n∧n≤32767:=by
  simpa [Lit.wf,IntKind.min,IntKind.max,IntKind.bits,IntKind.signed]using h
theorem words_bd {l:List Int}(h:∀a∈l,(Lit.int .u8 a).wf=true)(i:Nat):0≤l.getD i 0∧l.getD i 0≤255:=by
  rw [List.getD_eq_getElem?_getD]
  by_cases hi:i<l.length
  · rw [List.getElem?_eq_getElem hi];exact wf_u8 (h _ (List.getElem_mem hi))
  · rw [List.getElem?_eq_none (by omega)];decide
section
variable {H:Type} {enc:TypeId×Value→H} {W:World} {base:Nat} {sp:Nat→Bool} {held:Bool}
theorem dec3 :Dec enc Try.prog W base sp held 3 Int (fun n=>(Lit.int .i64 n).wf=true) (fun n=>[.int .i64 (.sym fun _=>n)]):=dec_int u3
theorem dec5 :Dec enc Try.prog W base sp held 5 Int (fun n=>(Lit.int .u8 n).wf=true) (fun n=>[.int .u8 (.sym fun _=>n)]):=dec_int u5
theorem dec28 :Dec enc Try.prog W base sp held 28 (List Int) (fun l=>(∀a∈l,(Lit.int .i64 a).wf=true)∧l.length≤maxLen) (fun l=>[.sl 1 (.sym fun _=>zi l.length) (fun ix=>[.int .i64 (.sym fun _=>l.getD ix.den.toNat 0)])]):=
  dec_sl 0 u28 (by kernel_rfl) (by decide) dec3
theorem dec86 :Dec enc Try.prog W base sp held 86 (List Int) (fun l=>(∀a∈l,(Lit.int .u8 a).wf=true)∧l.length≤maxLen) (fun l=>[.sl 1 (.sym fun _=>zi l.length) (fun ix=>[.int .u8 (.sym fun _=>l.getD ix.den.toNat 0)])]):=
  dec_sl 0 u86 (by kernel_rfl) (by decide) dec5
theorem dec23 :Dec enc Try.prog W base sp held 23 (Int×Int) (fun _=>True) (fun p=>[.int .i64 (.sym fun _=>p.1),.int .i64 (.sym fun _=>p.2)]):=
  dec_map (fun p:Int×Int×Unit=>(p.1,p.2.1)) (dec_str (fl:=[(0,3),(1,3)]) (tot:=2) u23 (by kernel_rfl) (by kernel_rfl) (decF_cons (m:=1) (by kernel_rfl) dec3 (decF_cons (m:=1) (by kernel_rfl) dec3 decF_nil))) (fun _ _=>trivial) (fun _=>rfl)
theorem dec98 :Dec enc Try.prog W base sp held 98 VatT (fun _=>True) (fun v=>[.int .i64 (.sym fun _=>v.sl),.int .i64 (.sym fun _=>v.sh),.int .i64 (.sym fun _=>v.rl),.int .i64 (.sym fun _=>v.rh)]):=
  dec_map (fun p:(Int×Int)×(Int×Int)×Unit=>(⟨p.1.1,p.1.2,p.2.1.1,p.2.1.2⟩:VatT)) (dec_str (fl:=[(0,23),(2,23)]) (tot:=4) u98 (by kernel_rfl) (by kernel_rfl) (decF_cons (m:=2) (by kernel_rfl) dec23 (decF_cons (m:=2) (by kernel_rfl) dec23 decF_nil))) (fun _ _=>trivial) (fun _=>rfl)
theorem dec100 :Dec enc Try.prog W base sp held 100 PartT (fun _=>True) (fun v=>[.int .i64 (.sym fun _=>v.f),.int .i64 (.sym fun _=>v.el),.int .i64 (.sym fun _=>v.eh)]):=
  dec_map (fun p:Int×(Int×Int)×Unit=>(⟨p.1,p.2.1.1,p.2.1.2⟩:PartT)) (dec_str (fl:=[(0,3),(1,23)]) (tot:=3) u100 (by kernel_rfl) (by kernel_rfl) (decF_cons (m:=1) (by kernel_rfl) dec3 (decF_cons (m:=2) (by kernel_rfl) dec23 decF_nil))) (fun _ _=>trivial) (fun _=>rfl)
theorem dec90 :Dec enc Try.prog W base sp held 90 LookT (fun _=>True) (fun v=>[.int .i64 (.sym fun _=>v.v),.int .i64 (.sym fun _=>v.h),.int .i64 (.sym fun _=>v.t),.int .i64 (.sym fun _=>v.s)]):=
  dec_map (fun p:Int×Int×Int×Int×Unit=>(⟨p.1,p.2.1,p.2.2.1,p.2.2.2.1⟩:LookT)) (dec_str (fl:=[(0,3),(1,3),(2,3),(3,3)]) (tot:=4) u90 (by kernel_rfl) (by kernel_rfl) (decF_cons (m:=1) (by kernel_rfl) dec3 (decF_cons (m:=1) (by kernel_rfl) dec3 (decF_cons (m:=1) (by kernel_rfl) dec3 (decF_cons (m:=1) (by kernel_rfl) dec3 decF_nil))))) (fun _ _=>trivial) (fun _=>rfl)
theorem dec106 :Dec enc Try.prog W base sp held 106 PorT (fun _=>True) (fun v=>[.int .i64 (.sym fun _=>v.q),.int .i64 (.sym fun _=>v.lo),.int .i64 (.sym fun _=>v.hi)]):=
  dec_map (fun p:Int×(Int×Int)×Unit=>(⟨p.1,p.2.1.1,p.2.1.2⟩:PorT)) (dec_str (fl:=[(0,3),(1,23)]) (tot:=3) u106 (by kernel_rfl) (by kernel_rfl) (decF_cons (m:=1) (by kernel_rfl) dec3 (decF_cons (m:=2) (by kernel_rfl) dec23 decF_nil))) (fun _ _=>trivial) (fun _=>rfl)
theorem dec24 :Dec enc Try.prog W base sp held 24 (List VatT) (fun l=>l.length≤maxLen) (fun l=>[.sl 4 (.sym fun _=>zi l.length) (fun ix=>[.int .i64 (.sym fun _=>(l.getD ix.den.toNat v0).sl),.int .i64 (.sym fun _=>(l.getD ix.den.toNat v0).sh),.int .i64 (.sym fun _=>(l.getD ix.den.toNat v0).rl),.int .i64 (.sym fun _=>(l.getD ix.den.toNat v0).rh)])]):=
  dec_map id (dec_sl v0 u24 (by kernel_rfl) (by decide) dec98) (fun _ h=>h.2) (fun _=>rfl)
theorem dec51 :Dec enc Try.prog W base sp held 51 (List PartT) (fun l=>l.length≤maxLen) (fun l=>[.sl 3 (.sym fun _=>zi l.length) (fun ix=>[.int .i64 (.sym fun _=>(l.getD ix.den.toNat p0).f),.int .i64 (.sym fun _=>(l.getD ix.den.toNat p0).el),.int .i64 (.sym fun _=>(l.getD ix.den.toNat p0).eh)])]):=
  dec_map id (dec_sl p0 u51 (by kernel_rfl) (by decide) dec100) (fun _ h=>h.2) (fun _=>rfl)
theorem dec60 :Dec enc Try.prog W base sp held 60 (List LookT) (fun l=>l.length≤maxLen) (fun l=>[.sl 4 (.sym fun _=>zi l.length) (fun ix=>[.int .i64 (.sym fun _=>(l.getD ix.den.toNat k0).v),.int .i64 (.sym fun _=>(l.getD ix.den.toNat k0).h),.int .i64 (.sym fun _=>(l.getD ix.den.toNat k0).t),.int .i64 (.sym fun _=>(l.getD ix.den.toNat k0).s)])]):=
  dec_map id (dec_sl k0 u60 (by kernel_rfl) (by decide) dec90) (fun _ h=>h.2) (fun _=>rfl)
theorem dec79 :Dec enc Try.prog W base sp held 79 (List PorT) (fun l=>l.length≤maxLen) (fun l=>[.sl 3 (.sym fun _=>zi l.length) (fun ix=>[.int .i64 (.sym fun _=>(l.getD ix.den.toNat q0).q),.int .i64 (.sym fun _=>(l.getD ix.den.toNat q0).lo),.int .i64 (.sym fun _=>(l.getD ix.den.toNat q0).hi)])]):=
  dec_map id (dec_sl q0 u79 (by kernel_rfl) (by decide) dec106) (fun _ h=>h.2) (fun _=>rfl)
theorem dec53 :Dec enc Try.prog W base sp held 53 ThmT (fun _=>True) (fun v=>[.int .i64 (.sym fun _=>v.top),.sl 3 (.sym fun _=>zi (v.ps).length) (fun jx=>[.int .i64 (.sym fun _=>((v.ps).getD jx.den.toNat p0).f),.int .i64 (.sym fun _=>((v.ps).getD jx.den.toNat p0).el),.int .i64 (.sym fun _=>((v.ps).getD jx.den.toNat p0).eh)])]):=
  dec_map (fun p:Int×List PartT×Unit=>(⟨p.1,p.2.1⟩:ThmT)) (dec_str (fl:=[(0,3),(1,51)]) (tot:=2) u53 (by kernel_rfl) (by kernel_rfl) (decF_cons (m:=1) (by kernel_rfl) dec3 (decF_cons (m:=1) (by kernel_rfl) dec51 decF_nil))) (fun _ _=>trivial) (fun _=>rfl)
theorem dec25 :Dec enc Try.prog W base sp held 25 (List ThmT) (fun l=>l.length≤maxLen) (fun l=>[.sl 2 (.sym fun _=>zi l.length) (fun ix=>[.int .i64 (.sym fun _=>(l.getD ix.den.toNat t0).top),.sl 3 (.sym fun _=>zi ((l.getD ix.den.toNat t0).ps).length) (fun jx=>[.int .i64 (.sym fun _=>(((l.getD ix.den.toNat t0).ps).getD jx.den.toNat p0).f),.int .i64 (.sym fun _=>(((l.getD ix.den.toNat t0).ps).getD jx.den.toNat p0).el),.int .i64 (.sym fun _=>(((l.getD ix.den.toNat t0).ps).getD jx.den.toNat p0).eh)])])]):=
  dec_map id (dec_sl t0 u25 (by kernel_rfl) (by decide) dec53) (fun _ h=>h.2) (fun _=>rfl)
theorem dec27 :Dec enc Try.prog W base sp held 27 Clr (fun c=>c.vs.length≤maxLen∧c.ts.length≤maxLen) (fun c=>[(.int .i64 (.sym fun _=>c.rl)),(.int .i64 (.sym fun _=>c.rh)),(.int .i64 (.sym fun _=>c.hr)),(.sl 4 (.sym fun _=>zi c.vs.length) (fun ix=>[(.int .i64 (.sym fun _=>(c.vs.getD ix.den.toNat v0).sl)),(.int .i64 (.sym fun _=>(c.vs.getD ix.den.toNat v0).sh)),(.int .i64 (.sym fun _=>(c.vs.getD ix.den.toNat v0).rl)),(.int .i64 (.sym fun _=>(c.vs.getD ix.den.toNat v0).rh))])),(.sl 2 (.sym fun _=>zi c.ts.length) (fun ix=>[(.int .i64 (.sym fun _=>(c.ts.getD ix.den.toNat t0).top)),(.sl 3 (.sym fun _=>zi ((c.ts.getD ix.den.toNat t0).ps).length) (fun jx=>[(.int .i64 (.sym fun _=>(((c.ts.getD ix.den.toNat t0).ps).getD jx.den.toNat p0).f)),(.int .i64 (.sym fun _=>(((c.ts.getD ix.den.toNat t0).ps).getD jx.den.toNat p0).el)),(.int .i64 (.sym fun _=>(((c.ts.getD ix.den.toNat t0).ps).getD jx.den.toNat p0).eh))]))]))]):=
  dec_map (fun p:(Int×Int)×Int×List VatT×List ThmT×Unit=>(⟨p.1.1,p.1.2,p.2.1,p.2.2.1,p.2.2.2.1⟩:Clr)) (dec_str (fl:=[(0,23),(2,3),(3,24),(4,25)]) (tot:=5) u27 (by kernel_rfl) (by kernel_rfl) (decF_cons (m:=2) (by kernel_rfl) dec23 (decF_cons (m:=1) (by kernel_rfl) dec3 (decF_cons (m:=1) (by kernel_rfl) dec24 (decF_cons (m:=1) (by kernel_rfl) dec25 decF_nil))))) (fun _ h=>⟨h.2.2.1,h.2.2.2.1⟩) (fun _=>rfl)
def Tru :Type:=Int×List Int×List Int
theorem dec30 :Dec enc Try.prog W base sp held 30 Tru (fun p=>p.2.1.length≤maxLen∧p.2.2.length≤maxLen) (fun p=>[.int .i64 (.sym fun _=>p.1),(.sl 1 (.sym fun _=>zi (p.2.1).length) (fun ix=>[.int .i64 (.sym fun _=>(p.2.1).getD ix.den.toNat 0)])),(.sl 1 (.sym fun _=>zi (p.2.2).length) (fun ix=>[.int .i64 (.sym fun _=>(p.2.2).getD ix.den.toNat 0)]))]):=
  dec_map (fun p:Int×List Int×List Int×Unit=>(p.1,p.2.1,p.2.2.1)) (dec_str (fl:=[(0,3),(1,28),(2,28)]) (tot:=3) u30 (by kernel_rfl) (by kernel_rfl) (decF_cons (m:=1) (by kernel_rfl) dec3 (decF_cons (m:=1) (by kernel_rfl) dec28 (decF_cons (m:=1) (by kernel_rfl) dec28 decF_nil)))) (fun _ h=>⟨h.2.1.2,h.2.2.1.2⟩) (fun _=>rfl)
end
end Go.Proofs.Yteelocfbbhchcaa

namespace Go.Proofs.Yteelocfbbhchcaa
open Go Go.Eng Go.Proofs Go.ChangeShapes Go.WideShapes Go.ChangeAt Go.RowKit
theorem rel_sl_len {μ:Mem} {ν:Vl} {sz:Nat} {n:IX} {e:IX→List SV} {a:Option Addr} {len cap:Nat}(h:Rel μ ν (.sl sz n e) (.slice a len cap)):n.den=(len:Int):=by
  cases h with
  |slnil _ _ _ _ _ _ h1 h2=>rw [h1];rfl
  |sl _ _ _ _ _ _ _ _ _ h1 h2=>exact h2
section
variable {H:Type} {enc:TypeId×Value→H} {P:Program} {W:World} {base:Nat} {sp:Nat→Bool} {held:Bool}
theorem arg_sl_sz {t e:TypeId} {r:Reach} {b0:Nat} {v:Value} {d:DataW H} {p:List MemPlace} {α:Type} {pa:List α→Prop} {sz:Nat} {ea:List α→IX→List SV}(ht:P.underlying t=some (.slice e))(hv:Value.okWide P W r b0 t v)
    (h:DataW.Trod enc P W base sp held t v d p) (hd:Dec enc P W base sp held t (List α) pa (fun a=>[.sl sz (.sym fun _=>zi a.length) (ea a)])):
    ∃a:List α,(pa a∧(a.length=0∨∃elems spare,d = .slice elems spare∧elems.length=a.length))∧∀ν,Rel (memOf W) ν (.sl sz (.sym fun _=>zi a.length) (ea a)) v:=by
  obtain⟨a0,len,cap,rfl⟩:=okWide_slice ht hv
  obtain⟨n,hn⟩:=h
  obtain⟨a,h1,h2⟩:=hd n _ _ hn
  have hrel:∀ν,Rel (memOf W) ν (.sl sz (.sym fun _=>zi a.length) (ea a)) (.slice a0 len cap):=fun ν=>by
    obtain⟨c,rest,q1,q2,_,_⟩:=relL_cons_inv (by intro n f e;cases e) (h2 ν)
    simp only [Value.cells,List.cons.injEq]at q1
    rw [q1.1];exact q2
  have hlen:(a.length:Int)=(len:Int):=rel_sl_len (hrel Vl.nil)
  refine⟨a,⟨h1,?_⟩,hrel⟩
  rcases DataW.trod_slice ht hn with⟨hc,_⟩|⟨a',len',cap',elems,rest,m,_,hc,hx,_,_,_,hl,_⟩
  · simp only [Value.cells,List.cons.injEq,Value.slice.injEq]at hc
    left
    have:=hc.1.2.1
    omega
  · simp only [Value.cells,List.cons.injEq,Value.slice.injEq]at hc
    right
    have e1:=hc.1.2.1
    refine⟨elems.map (·.1),rest.map (·.1),(Prod.ext_iff.1 hx).1,?_⟩
    rw [List.length_map,hl]
    omega
theorem sized_bd {ts:List TypeId} {ds:List (DataW H)}(hz:(DataW.weightsEach P ts ds).all (· ≤reachBytes)=true) {j:Nat} {t e:TypeId} {d:DataW H} {α:Type} {a:List α} {B:Nat}(ht:ts[j]? =some t)(hd:ds[j]? =some d)(hu:P.underlying t=some (.slice e))(hB:P.bytesOf e=B)
    (h:a.length=0∨∃elems spare,d = .slice elems spare∧elems.length=a.length):a.length*B≤140737488351232:=by
  rcases h with h|⟨elems,spare,rfl,he⟩
  · rw [h];omega
  · have:=sized_slice hz ht hd hu
    rw [hB]at this
    have h2:elems.length*B≤(elems.length+spare.length)*B:=Nat.mul_le_mul_right _ (by omega)
    have h3:reachBytes=140737488351232:=rfl
    rw [←he];omega
end
end Go.Proofs.Yteelocfbbhchcaa
