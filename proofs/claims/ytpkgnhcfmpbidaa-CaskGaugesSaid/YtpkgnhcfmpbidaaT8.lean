/- Contracts of the functions that the laws come to. No condition. -/
import Derived.Test.YtpkgnhcfmpbidaaT7
import Derived.Test.YtpkgnhcfmpbidaaRows
set_option linter.unusedVariables false
set_option linter.unusedSimpArgs false
set_option linter.deprecated false
set_option linter.all false

namespace Go.Proofs.Ytpkgnhcfmpbidaa
open Go Go.Eng Go.Proofs Go.Eng.Ck
theorem uyN :ownKnob Try.prog.godebug=none:=by kernel_rfl
theorem uvO :Kids Try.prog (· <Try.prog.types.size):=kids_rows (by kernel_rfl) (by kernel_rfl)
theorem uwi :∀t e,t<Try.prog.types.size→Try.prog.underlying t=some (.slice e)→0<Try.prog.cellsOf e:=slices_full_of Try.prog (by kernel_rfl)
theorem u3 :Try.prog.underlying 3=some (.int .i64):=by kernel_rfl
theorem u4 :Try.prog.underlying 4=some .bool:=by kernel_rfl
theorem u22 :Try.prog.underlying 22=some (.slice 52):=by kernel_rfl
theorem u23 :Try.prog.underlying 23=some (.slice 82):=by kernel_rfl
theorem u24 :Try.prog.underlying 24=some (.slice 49):=by kernel_rfl
theorem u50 :Try.prog.underlying 50=some (.slice 126):=by kernel_rfl
theorem u26 :Try.prog.underlying 26=some (.struct (Try.prog.fieldsOf 26)):=by kernel_rfl
theorem u46 :Try.prog.underlying 46=some (.struct (Try.prog.fieldsOf 46)):=by kernel_rfl
theorem u49 :Try.prog.underlying 49=some (.struct (Try.prog.fieldsOf 49)):=by kernel_rfl
theorem u52 :Try.prog.underlying 52=some (.struct (Try.prog.fieldsOf 52)):=by kernel_rfl
theorem u82 :Try.prog.underlying 82=some (.struct (Try.prog.fieldsOf 82)):=by kernel_rfl
theorem uz5 :Try.prog.underlying 126=some (.struct (Try.prog.fieldsOf 126)):=by kernel_rfl
section
variable {H:Type} {enc:TypeId×Value→H} {W:World} {base:Nat} {sp:Nat→Bool} {held:Bool}
theorem uqr {P:Program} {t:TypeId}(ht:P.underlying t=some .bool):Dec enc P W base sp held t Bool (fun _=>True) (fun b=>[(bv fun _=>b)]):=fun n cs x h=>by
 obtain⟨b,rfl,_⟩:=DataW.trod_bool ht h
 exact⟨b,trivial,fun ν=>.cons ν _ _ _ _ (.bool ν (.sym fun _=>b)) rfl (.nil ν)⟩
theorem urm :Dec enc Try.prog W base sp held 3 Int (fun n=>(Lit.int .i64 n).wf=true) (fun n=>[(iv fun _=>n)]):=usI u3
theorem uyz :Dec enc Try.prog W base sp held 4 Bool (fun _=>True) (fun b=>[(bv fun _=>b)]):=uqr u4
theorem uqM :Dec enc Try.prog W base sp held 46 (Int×Int) (fun _=>True) (fun p=>[(iv fun _=>p.1),(iv fun _=>p.2)]):=
 ucW (fun p:Int×Int×Unit=>(p.1,p.2.1)) (ufw (fl:=[(0,3),(1,3)]) (tot:=2) u46 (by kernel_rfl) (by kernel_rfl) (uaF (m:=1) (by kernel_rfl) urm (uaF (m:=1) (by kernel_rfl) urm ued))) (fun _ _=>trivial) (fun _=>rfl)
theorem uuW :Dec enc Try.prog W base sp held 126 (Int×Int) (fun _=>True) (fun p=>[(iv fun _=>p.1),(iv fun _=>p.2)]):=
 ucW (fun p:Int×Int×Unit=>(p.1,p.2.1)) (ufw (fl:=[(0,3),(1,3)]) (tot:=2) uz5 (by kernel_rfl) (by kernel_rfl) (uaF (m:=1) (by kernel_rfl) urm (uaF (m:=1) (by kernel_rfl) urm ued))) (fun _ _=>trivial) (fun _=>rfl)
theorem uwp :Dec enc Try.prog W base sp held 50 (List (Int×Int)) (fun l=>l.length≤maxLen) (fun l=>[.sl 2 (.sym fun _=>zi l.length) (fun ix=>[(iv fun _=>mD l ix.den.toNat),(iv fun _=>mC l ix.den.toNat)])]):=
 ucW id (ul2 m0 u50 (by kernel_rfl) (by decide) uuW) (fun _ h=>h.2) (fun _=>rfl)
theorem uwN :Dec enc Try.prog W base sp held 52 Csk (fun _=>True) (fun k=>[(.sl 2 (.sym fun _=>zi (k.ms).length) (fun ix=>[(iv fun _=>mD (k.ms) ix.den.toNat),(iv fun _=>mC (k.ms) ix.den.toNat)])),(iv fun _=>k.sl),(iv fun _=>k.sh),(iv fun _=>k.kl),(iv fun _=>k.kh)]):=
 ucW (fun p:List (Int×Int)×(Int×Int)×(Int×Int)×Unit=>(⟨p.1,p.2.1.1,p.2.1.2,p.2.2.1.1,p.2.2.1.2⟩:Csk)) (ufw (fl:=[(0,50),(1,46),(3,46)]) (tot:=5) u52 (by kernel_rfl) (by kernel_rfl) (uaF (m:=1) (by kernel_rfl) uwp (uaF (m:=2) (by kernel_rfl) uqM (uaF (m:=2) (by kernel_rfl) uqM ued)))) (fun _ _=>trivial) (fun _=>rfl)
theorem uxC :Dec enc Try.prog W base sp held 82 Mov (fun _=>True) (fun m=>[(iv fun _=>m.f),(iv fun _=>m.t),(iv fun _=>m.ql),(iv fun _=>m.qh)]):=
 ucW (fun p:Int×Int×(Int×Int)×Unit=>(⟨p.1,p.2.1,p.2.2.1.1,p.2.2.1.2⟩:Mov)) (ufw (fl:=[(0,3),(1,3),(2,46)]) (tot:=4) u82 (by kernel_rfl) (by kernel_rfl) (uaF (m:=1) (by kernel_rfl) urm (uaF (m:=1) (by kernel_rfl) urm (uaF (m:=2) (by kernel_rfl) uqM ued)))) (fun _ _=>trivial) (fun _=>rfl)
theorem uwj :Dec enc Try.prog W base sp held 49 Gau (fun _=>True) (fun g=>[(iv fun _=>g.c),(iv fun _=>g.a),(iv fun _=>g.dl),(iv fun _=>g.dh),(bv fun _=>g.dry)]):=
 ucW (fun p:Int×Int×(Int×Int)×Bool×Unit=>(⟨p.1,p.2.1,p.2.2.1.1,p.2.2.1.2,p.2.2.2.1⟩:Gau)) (ufw (fl:=[(0,3),(1,3),(2,46),(4,4)]) (tot:=5) u49 (by kernel_rfl) (by kernel_rfl) (uaF (m:=1) (by kernel_rfl) urm (uaF (m:=1) (by kernel_rfl) urm (uaF (m:=2) (by kernel_rfl) uqM (uaF (m:=1) (by kernel_rfl) uyz ued))))) (fun _ _=>trivial) (fun _=>rfl)
theorem uxk :Dec enc Try.prog W base sp held 22 (List Csk) (fun l=>l.length≤maxLen) (fun l=>[.sl 5 (.sym fun _=>zi l.length) (fun ix=>[(.sl 2 (.sym fun _=>zi (((l).getD ix.den.toNat k0).ms).length) (fun jx=>[(iv fun _=>mD (((l).getD ix.den.toNat k0).ms) jx.den.toNat),(iv fun _=>mC (((l).getD ix.den.toNat k0).ms) jx.den.toNat)])),(iv fun _=>((l).getD ix.den.toNat k0).sl),(iv fun _=>((l).getD ix.den.toNat k0).sh),(iv fun _=>((l).getD ix.den.toNat k0).kl),(iv fun _=>((l).getD ix.den.toNat k0).kh)])]):=
 ucW id (ul2 k0 u22 (by kernel_rfl) (by decide) uwN) (fun _ h=>h.2) (fun _=>rfl)
theorem uwk :Dec enc Try.prog W base sp held 23 (List Mov) (fun l=>l.length≤maxLen) (fun l=>[.sl 4 (.sym fun _=>zi l.length) (fun ix=>[(iv fun _=>((l).getD ix.den.toNat v0).f),(iv fun _=>((l).getD ix.den.toNat v0).t),(iv fun _=>((l).getD ix.den.toNat v0).ql),(iv fun _=>((l).getD ix.den.toNat v0).qh)])]):=
 ucW id (ul2 v0 u23 (by kernel_rfl) (by decide) uxC) (fun _ h=>h.2) (fun _=>rfl)
theorem uvU :Dec enc Try.prog W base sp held 24 (List Gau) (fun l=>l.length≤maxLen) (fun l=>[.sl 5 (.sym fun _=>zi l.length) (fun ix=>[(iv fun _=>((l).getD ix.den.toNat g0).c),(iv fun _=>((l).getD ix.den.toNat g0).a),(iv fun _=>((l).getD ix.den.toNat g0).dl),(iv fun _=>((l).getD ix.den.toNat g0).dh),(bv fun _=>((l).getD ix.den.toNat g0).dry)])]):=
 ucW id (ul2 g0 u24 (by kernel_rfl) (by decide) uwj) (fun _ h=>h.2) (fun _=>rfl)
theorem uwZ :Dec enc Try.prog W base sp held 26 Clr (fun c=>c.cs.length≤maxLen∧c.mv.length≤maxLen∧c.gs.length≤maxLen) (fun c=>[(.sl 5 (.sym fun _=>zi (c.cs).length) (fun ix=>[(.sl 2 (.sym fun _=>zi (((c.cs).getD ix.den.toNat k0).ms).length) (fun jx=>[(iv fun _=>mD (((c.cs).getD ix.den.toNat k0).ms) jx.den.toNat),(iv fun _=>mC (((c.cs).getD ix.den.toNat k0).ms) jx.den.toNat)])),(iv fun _=>((c.cs).getD ix.den.toNat k0).sl),(iv fun _=>((c.cs).getD ix.den.toNat k0).sh),(iv fun _=>((c.cs).getD ix.den.toNat k0).kl),(iv fun _=>((c.cs).getD ix.den.toNat k0).kh)])),(.sl 4 (.sym fun _=>zi (c.mv).length) (fun ix=>[(iv fun _=>((c.mv).getD ix.den.toNat v0).f),(iv fun _=>((c.mv).getD ix.den.toNat v0).t),(iv fun _=>((c.mv).getD ix.den.toNat v0).ql),(iv fun _=>((c.mv).getD ix.den.toNat v0).qh)])),(.sl 5 (.sym fun _=>zi (c.gs).length) (fun ix=>[(iv fun _=>((c.gs).getD ix.den.toNat g0).c),(iv fun _=>((c.gs).getD ix.den.toNat g0).a),(iv fun _=>((c.gs).getD ix.den.toNat g0).dl),(iv fun _=>((c.gs).getD ix.den.toNat g0).dh),(bv fun _=>((c.gs).getD ix.den.toNat g0).dry)]))]):=
 ucW (fun p:List Csk×List Mov×List Gau×Unit=>(⟨p.1,p.2.1,p.2.2.1⟩:Clr)) (ufw (fl:=[(0,22),(1,23),(2,24)]) (tot:=3) u26 (by kernel_rfl) (by kernel_rfl) (uaF (m:=1) (by kernel_rfl) uxk (uaF (m:=1) (by kernel_rfl) uwk (uaF (m:=1) (by kernel_rfl) uvU ued)))) (fun _ h=>⟨h.1,h.2.1,h.2.2.1⟩) (fun _=>rfl)
end
end Go.Proofs.Ytpkgnhcfmpbidaa
