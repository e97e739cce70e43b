/- Contracts of the functions that the laws come to. No condition. -/
import Derived.Test.YtkdgpdlfakcgdaaT5
import Derived.Test.YtkdgpdlfakcgdaaRows
set_option linter.unusedVariables false
set_option linter.unusedSimpArgs false
set_option linter.deprecated false
set_option linter.all false

namespace Go.Proofs.Ytkdgpdlfakcgdaa
open Go Go.Eng Go.Proofs
theorem own4 :ownKnob Try.prog.godebug=none:=by kernel_rfl
theorem kids4 :Kids Try.prog (· <Try.prog.types.size):=kids_rows (by kernel_rfl) (by kernel_rfl)
theorem full4 :∀t e,t<Try.prog.types.size→Try.prog.underlying t=some (.slice e)→0<Try.prog.cellsOf e:=slices_full_of Try.prog (by kernel_rfl)
theorem u3 :Try.prog.underlying 3=some (.int .i64):=by kernel_rfl
theorem u4 :Try.prog.underlying 4=some .bool:=by kernel_rfl
theorem u22 :Try.prog.underlying 22=some (.slice 3):=by kernel_rfl
theorem u23 :Try.prog.underlying 23=some (.slice 22):=by kernel_rfl
theorem u25 :Try.prog.underlying 25=some (.struct (Try.prog.fieldsOf 25)):=by kernel_rfl
theorem u26 :Try.prog.underlying 26=some (.slice 81):=by kernel_rfl
theorem u28 :Try.prog.underlying 28=some (.struct (Try.prog.fieldsOf 28)):=by kernel_rfl
theorem u46 :Try.prog.underlying 46=some (.struct (Try.prog.fieldsOf 46)):=by kernel_rfl
theorem u81 :Try.prog.underlying 81=some (.struct (Try.prog.fieldsOf 81)):=by kernel_rfl
structure Sto where
  tw:List Int
  tm:List Int
  tv:List (List Int)
  rate:Int
  cs:List Csk
section
variable {H:Type} {enc:TypeId×Value→H} {W:World} {base:Nat} {sp:Nat→Bool} {held:Bool}
theorem dec3 :Dec enc Try.prog W base sp held 3 Int (fun n=>(Lit.int .i64 n).wf=true) (fun n=>[.int .i64 (.sym fun _=>n)]):=dec_int u3
theorem dec22 :Dec enc Try.prog W base sp held 22 (List Int) (fun l=>(∀a∈l,(Lit.int .i64 a).wf=true)∧l.length≤maxLen) (fun l=>[.sl 1 (.sym fun _=>zi l.length) (fun ix=>[.int .i64 (.sym fun _=>l.getD ix.den.toNat 0)])]):=
  dec_sl 0 u22 (by kernel_rfl) (by decide) dec3
theorem dec23 :Dec enc Try.prog W base sp held 23 (List (List Int)) (fun _=>True) (fun l=>[.sl 1 (.sym fun _=>zi l.length) (fun ix=>[.sl 1 (.sym fun _=>zi (l.getD ix.den.toNat []).length) (fun jx=>[.int .i64 (.sym fun _=>(l.getD ix.den.toNat []).getD jx.den.toNat 0)])])]):=
  dec_map id (dec_sl [] u23 (by kernel_rfl) (by decide) dec22) (fun _ _=>trivial) (fun _=>rfl)
theorem dec46 :Dec enc Try.prog W base sp held 46 (Int×Int) (fun p=>(Lit.int .i64 p.1).wf=true∧(Lit.int .i64 p.2).wf=true) (fun p=>[.int .i64 (.sym fun _=>p.1),.int .i64 (.sym fun _=>p.2)]):=
  dec_map (fun p:Int×Int×Unit=>(p.1,p.2.1)) (dec_str (fl:=[(0,3),(1,3)]) (tot:=2) u46 (by kernel_rfl) (by kernel_rfl) (decF_cons (m:=1) (by kernel_rfl) dec3 (decF_cons (m:=1) (by kernel_rfl) dec3 decF_nil))) (fun _ h=>⟨h.1,h.2.1⟩) (fun _=>rfl)
theorem dec81 :Dec enc Try.prog W base sp held 81 Csk (fun _=>True) (fun c=>[.int .i64 (.sym fun _=>c.g),.int .i64 (.sym fun _=>c.wl),.int .i64 (.sym fun _=>c.wh),.int .i64 (.sym fun _=>c.ml),.int .i64 (.sym fun _=>c.mh)]):=
  dec_map (fun p:Int×(Int×Int)×(Int×Int)×Unit=>⟨p.1,p.2.1.1,p.2.1.2,p.2.2.1.1,p.2.2.1.2⟩) (dec_str (fl:=[(0,3),(1,46),(3,46)]) (tot:=5) u81 (by kernel_rfl) (by kernel_rfl) (decF_cons (m:=1) (by kernel_rfl) dec3 (decF_cons (m:=2) (by kernel_rfl) dec46 (decF_cons (m:=2) (by kernel_rfl) dec46 decF_nil)))) (fun _ _=>trivial) (fun _=>rfl)
theorem dec26 :Dec enc Try.prog W base sp held 26 (List Csk) (fun l=>l.length≤maxLen) (fun l=>[.sl 5 (.sym fun _=>zi l.length) (fun ix=>[.int .i64 (.sym fun _=>(l.getD ix.den.toNat ck0).g),.int .i64 (.sym fun _=>(l.getD ix.den.toNat ck0).wl),.int .i64 (.sym fun _=>(l.getD ix.den.toNat ck0).wh),.int .i64 (.sym fun _=>(l.getD ix.den.toNat ck0).ml),.int .i64 (.sym fun _=>(l.getD ix.den.toNat ck0).mh)])]):=
  dec_map id (dec_sl ck0 u26 (by kernel_rfl) (by decide) dec81) (fun _ h=>h.2) (fun _=>rfl)
theorem dec25 :Dec enc Try.prog W base sp held 25 (List Int×List Int×List (List Int)) (fun _=>True) (fun p=>[.sl 1 (.sym fun _=>zi p.1.length) (fun ix=>[.int .i64 (.sym fun _=>p.1.getD ix.den.toNat 0)]),.sl 1 (.sym fun _=>zi p.2.1.length) (fun ix=>[.int .i64 (.sym fun _=>p.2.1.getD ix.den.toNat 0)]),.sl 1 (.sym fun _=>zi p.2.2.length) (fun ix=>[.sl 1 (.sym fun _=>zi (p.2.2.getD ix.den.toNat []).length) (fun jx=>[.int .i64 (.sym fun _=>(p.2.2.getD ix.den.toNat []).getD jx.den.toNat 0)])])]):=
  dec_map (fun p:List Int×List Int×List (List Int)×Unit=>(p.1,p.2.1,p.2.2.1)) (dec_str (fl:=[(0,22),(1,22),(2,23)]) (tot:=3) u25 (by kernel_rfl) (by kernel_rfl) (decF_cons (m:=1) (by kernel_rfl) dec22 (decF_cons (m:=1) (by kernel_rfl) dec22 (decF_cons (m:=1) (by kernel_rfl) dec23 decF_nil)))) (fun _ _=>trivial) (fun _=>rfl)
theorem dec28 :Dec enc Try.prog W base sp held 28 Sto (fun s=>s.cs.length≤maxLen) (fun s=>[(.sl 1 (.sym fun _=>zi (s.tw).length) (fun ix=>[.int .i64 (.sym fun _=>(s.tw).getD ix.den.toNat 0)])),(.sl 1 (.sym fun _=>zi (s.tm).length) (fun ix=>[.int .i64 (.sym fun _=>(s.tm).getD ix.den.toNat 0)])),(.sl 1 (.sym fun _=>zi (s.tv).length) (fun ix=>[(.sl 1 (.sym fun _=>zi ((s.tv).getD ix.den.toNat []).length) (fun jx=>[.int .i64 (.sym fun _=>((s.tv).getD ix.den.toNat []).getD jx.den.toNat 0)]))])),(.int .i64 (.sym fun _=>s.rate)),(.sl 5 (.sym fun _=>zi (s.cs).length) (fun ix=>[(.int .i64 (.sym fun _=>((s.cs).getD ix.den.toNat ck0).g)),(.int .i64 (.sym fun _=>((s.cs).getD ix.den.toNat ck0).wl)),(.int .i64 (.sym fun _=>((s.cs).getD ix.den.toNat ck0).wh)),(.int .i64 (.sym fun _=>((s.cs).getD ix.den.toNat ck0).ml)),(.int .i64 (.sym fun _=>((s.cs).getD ix.den.toNat ck0).mh))]))]):=
  dec_map (fun p:(List Int×List Int×List (List Int))×Int×List Csk×Unit=>⟨p.1.1,p.1.2.1,p.1.2.2,p.2.1,p.2.2.1⟩) (dec_str (fl:=[(0,25),(3,3),(4,26)]) (tot:=5) u28 (by kernel_rfl) (by kernel_rfl) (decF_cons (m:=3) (by kernel_rfl) dec25 (decF_cons (m:=1) (by kernel_rfl) dec3 (decF_cons (m:=1) (by kernel_rfl) dec26 decF_nil)))) (fun _ h=>h.2.2.1) (fun _=>rfl)
end
end Go.Proofs.Ytkdgpdlfakcgdaa

namespace Go.Proofs.Ytkdgpdlfakcgdaa
open Go Go.Eng Go.Proofs
theorem u5 :Try.prog.underlying 5=some (.int .u8):=by kernel_rfl
theorem u83 :Try.prog.underlying 83=some (.int .u16):=by kernel_rfl
theorem u66 :Try.prog.underlying 66=some (.slice 71):=by kernel_rfl
theorem u71 :Try.prog.underlying 71=some (.struct (Try.prog.fieldsOf 71)):=by kernel_rfl
theorem wf_u8 {n:Int}(h:(Lit.int .u8 n).wf=true):0≤n∧n≤255:=by
  simpa [Lit.wf,IntKind.min,IntKind.max,IntKind.bits,IntKind.signed]using h
theorem wf_u16 {n:Int}(h:(Lit.int .u16 n).wf=true):0≤n∧n≤65535:=by
  simpa [Lit.wf,IntKind.min,IntKind.max,IntKind.bits,IntKind.signed]using h
section
variable {H:Type} {enc:TypeId×Value→H} {W:World} {base:Nat} {sp:Nat→Bool} {held:Bool}
theorem dec71 :Dec enc Try.prog W base sp held 71 Dcl (fun _=>True) (fun p=>[.int .i64 (.sym fun _=>p.c),.int .i64 (.sym fun _=>p.t)]):=
  dec_map (fun p:Int×Int×Unit=>(⟨p.1,p.2.1⟩:Dcl)) (dec_str (fl:=[(0,3),(1,3)]) (tot:=2) u71 (by kernel_rfl) (by kernel_rfl) (decF_cons (m:=1) (by kernel_rfl) dec3 (decF_cons (m:=1) (by kernel_rfl) dec3 decF_nil))) (fun _ _=>trivial) (fun _=>rfl)
theorem dec66 :Dec enc Try.prog W base sp held 66 (List Dcl) (fun l=>l.length≤maxLen) (fun l=>[.sl 2 (.sym fun _=>zi l.length) (fun ix=>[.int .i64 (.sym fun _=>(l.getD ix.den.toNat dc0).c),.int .i64 (.sym fun _=>(l.getD ix.den.toNat dc0).t)])]):=
  dec_map id (dec_sl dc0 u66 (by kernel_rfl) (by decide) dec71) (fun _ h=>h.2) (fun _=>rfl)
end
end Go.Proofs.Ytkdgpdlfakcgdaa

namespace Go.Proofs.Ytkdgpdlfakcgdaa
open Go Go.Eng Go.Proofs
theorem bits_pair (k:Int):∀m,(bitsL k m).Pairwise (· < ·):=by
  intro m
  induction m with
  |zero=>exact List.Pairwise.nil
  | succ m ih=>
    by_cases h:(k.fdiv (2^m)).tmod 2=1
    · rw [bits_yes h,List.pairwise_append]
      refine⟨ih,List.pairwise_singleton _ _,fun a ha b hb=> ?_⟩
      obtain⟨p,hp,rfl,_⟩:=bits_mem.1 ha
      have:b=(m:Int):=by simpa using hb
      omega
    · rw [bits_no h];exact ih
theorem pair_getD {l:List Int}(h:l.Pairwise (· < ·)) {i:Nat}(h0:0<i)(hi:i<l.length):l.getD (i-1) 0<l.getD i 0:=by
  rw [List.getD_eq_getElem?_getD,List.getElem?_eq_getElem (show i-1<l.length by omega),List.getD_eq_getElem?_getD,List.getElem?_eq_getElem hi]
  exact List.pairwise_iff_getElem.1 h _ _ (by omega) hi (by omega)
theorem some_blend {n:Nat} {b:Int}(h0:0<n)(hn:n≤6)(hb:0≤b∧b≤255):blendB n (someP n b)=true∧(someP n b).length≤1000:=by
  have hs:=some_spec h0 hn hb
  refine⟨blend_iff.2 ⟨hs.1,fun i hi=>⟨?_,fun h=> ?_⟩⟩,hs.2.few⟩
  · have:=hs.2.at' i hi
    omega
  · unfold someP at hi⊢
    split at hi
    · simp at hi;omega
    · rename_i h1
      rw [if_neg h1]
      exact pair_getD (bits_pair _ _) h hi
theorem map_getD {n:Nat} {f:Nat→Int} {i:Nat}(hi:i<n):((List.range n).map f).getD i 0=f i:=by
  rw [List.getD_eq_getElem?_getD,List.getElem?_map,List.getElem?_range hi];rfl
theorem loA_k {tw tm:List Int} {tv:List (List Int)} {cs:List Csk} {j:Nat}(hj:j<cs.length):loA tw tm tv cs cs.length j=sLo tw tm tv (cs.getD j ck0):=by
  simp only [loA];rw [if_pos hj]
theorem hiA_k {tw tm:List Int} {tv:List (List Int)} {cs:List Csk} {j:Nat}(hj:j<cs.length):hiA tw tm tv cs cs.length j=sHi tw tm tv (cs.getD j ck0):=by
  simp only [hiA];rw [if_pos hj]
end Go.Proofs.Ytkdgpdlfakcgdaa

namespace Go.Proofs.Ytkdgpdlfakcgdaa
open Go Go.Eng Go.Proofs
def oneB (n:Nat):Bool:=(List.range n).all fun j=>(allL n).contains [(j:Int)]
end Go.Proofs.Ytkdgpdlfakcgdaa

namespace Go.Proofs.Ytkdgpdlfakcgdaa
open Go Go.Eng Go.Proofs
set_option maxRecDepth 10000
theorem ready41c (tw tm:List Int)(tv:List (List Int))(rate:Int)(cs:List Csk):FSpec Try.prog 41 [(stoS tw tm tv rate cs)] [] (fun r _=>r=(.bool (.sym fun _=>thinS tw tm tv cs&&decide (faultS tw tm tv rate cs=0)&&decide (0<cs.length)))):=by
  have c18:=thin18 tw tm tv rate cs
  have c24:=fault24 tw tm tv rate cs
  refine FSpec.is fun R hR=>qW (sc:=sc41) tyok mix Try.func41 rfl Try.call41 (by kernel_rfl) (by kernel_rfl) ?_
  generalize Try.prog=P at c18 c24⊢
  cbv
  repeat' (first
      |with_reducible refine hold ?_ ?_
      |with_reducible refine And.intro ?_ ?_
      | (with_reducible refine qS ?_ ?_ ?_
         try cbv)
      | (with_reducible refine qT ?_ ?_
         try cbv)
      |(with_reducible intro hcd;(try simp only [zA,zB,zC,zD,zE,zF,zG,zH,zI,zJ,zK,zL,zM,zN,zO,zP]at hcd);try cbv)
      | (refine qP ?_ (c18) ?hfit
         case hfit=>((repeat' (first|exact qB|refine qD ?_ ?_|exact qE (by rfl)|exact qF (by rfl)|exact Fit.refl _|exact qA|refine qC ?_ rfl ?_));done)
         try cbv)
      | (refine qP ?_ (c24) ?hfit
         case hfit=>((repeat' (first|exact qB|refine qD ?_ ?_|exact qE (by rfl)|exact qF (by rfl)|exact Fit.refl _|exact qA|refine qC ?_ rfl ?_));done)
         try cbv)
      |fail)
  all_goals first
    |trivial
    |((try simp only [qV]at *);(try simp only [zQ,zA,zB,zC,zD,zE,zF,zG,zH,zI,zJ,zK,zL,zM,zN,zO,zP,zR,zS]at *);first|(refine qN ?_;omega)|(simp only [Hold];omega))
    |(subst hR;(repeat' (first|exact qA|exact qB|refine qC ?_ rfl ?_|refine qD ?_ ?_|exact qE (by rfl)|exact qF (by rfl)|exact Fit.refl _|exact qG _|(refine qE ?_;(try simp only [qV]at *);simp only [zQ,zA,zB,zC,zD,zE,zF,zG,zH,zI,zJ,zK,zL,zM,zN,zO,zP,zR,zS]at *;omega)));done)
    |(subst hR;(refine qF ?_;(try simp only [qV]at *);(try simp only [zQ,zA,zB,zC,zD,zE,zF,zG,zH,zI,zJ,zK,zL,zM,zN,zO,zP,zR,zS]at *);simp_all<;>omega);done)
    |(simp only [Hold];decide)
    |skip
structure Rdy (tw tm:List Int)(tv:List (List Int))(rate:Int)(cs:List Csk):Prop where
  thin:thinS tw tm tv cs=true
  ok:SOk tw tm tv rate cs
  some:0<cs.length
theorem rdy_or (tw tm:List Int)(tv:List (List Int))(rate:Int)(cs:List Csk):Rdy tw tm tv rate cs∨(thinS tw tm tv cs&&decide (faultS tw tm tv rate cs=0)&&decide (0<cs.length))=false:=by
  by_cases h:(thinS tw tm tv cs&&decide (faultS tw tm tv rate cs=0)&&decide (0<cs.length))=true
  · simp only [Bool.and_eq_true,decide_eq_true_eq]at h
    exact .inl ⟨h.1.1,faultS_iff.1 h.1.2,h.2⟩
  · exact .inr (by simpa using h)
theorem ready41n (tw tm:List Int)(tv:List (List Int))(rate:Int)(cs:List Csk)(h:(thinS tw tm tv cs&&decide (faultS tw tm tv rate cs=0)&&decide (0<cs.length))=false):FSpec Try.prog 41 [(stoS tw tm tv rate cs)] [] (fun r _=>r = .bool (.lit false)):=
  (ready41c tw tm tv rate cs).post fun r bs e=>⟨_,by subst e;exact qF h,rfl⟩
theorem ready41y (tw tm:List Int)(tv:List (List Int))(rate:Int)(cs:List Csk)(h:Rdy tw tm tv rate cs):FSpec Try.prog 41 [(stoS tw tm tv rate cs)] [] (fun r _=>r = .bool (.lit true)):=
  (ready41c tw tm tv rate cs).post fun r bs e=>⟨_,by subst e;refine qF ?_;show(thinS tw tm tv cs&&decide (faultS tw tm tv rate cs=0)&&decide (0<cs.length))=true;simp [h.thin,faultS_iff.2 h.ok,h.some],rfl⟩
theorem duty44z (tw tm:List Int)(tv:List (List Int))(rate:Int)(cs:List Csk)(t:List Int)(hS:SOk tw tm tv rate cs)(hT:truthB tw tm tv cs t=true):FSpec Try.prog 44 [(stoS tw tm tv rate cs),(.sl 1 (.sym fun _=>zi (t).length) (fun ix=>[.int .i64 (.sym fun _=>(t).getD ix.den.toNat 0)]))] [] (fun r _=>r=(.tup [(.int .i64 (.sym fun _=>dutyP rate cs (fun j=>t.getD j 0) cs.length)),(.int .i64 (.lit 0))])):=
  (duty44 tw tm tv rate cs t hS hT).post fun r bs e=>⟨_,by subst e;(have hlen:=(truth_iff.1 hT).1);(try rw [hlen]);(repeat' (first|exact qA|exact qB|refine qC ?_ rfl ?_|refine qD ?_ ?_|exact qE (by rfl)|exact qF (by rfl)|exact Fit.refl _)),rfl⟩
theorem duties22z (tw tm:List Int)(tv:List (List Int))(rate:Int)(cs:List Csk)(hS:SOk tw tm tv rate cs):FSpec Try.prog 22 [(stoS tw tm tv rate cs)] [] (fun r _=>r=(.tup [(.agg [(.int .i64 (.sym fun _=>dutyP rate cs (loA tw tm tv cs cs.length) cs.length)),(.int .i64 (.sym fun _=>dutyP rate cs (hiA tw tm tv cs cs.length) cs.length))]),(.int .i64 (.lit 0))])):=
  (duties22 tw tm tv rate cs hS).post fun r bs e=>⟨_,by subst e;(repeat' (first|exact qA|exact qB|refine qC ?_ rfl ?_|refine qD ?_ ?_|exact qE (by rfl)|exact qF (by rfl)|exact Fit.refl _)),rfl⟩
theorem blend27z (tw tm:List Int)(tv:List (List Int))(rate:Int)(cs:List Csk)(l:List Int)(water:Int)(hS:SOk tw tm tv rate cs)(hll:l.length≤1000)(hb:blendB cs.length l=true)(hw:0≤water∧water≤99):FSpec Try.prog 27 [(stoS tw tm tv rate cs),(.sl 1 (.sym fun _=>zi (l).length) (fun ix=>[.int .i64 (.sym fun _=>(l).getD ix.den.toNat 0)])),(.int .i64 (.sym fun _=>water))] [] (fun r _=>r=(.tup [(.agg [(.int .i64 (.sym fun _=>strP cs l water (fun j=>sLo tw tm tv (cs.getD j ck0)))),(.int .i64 (.sym fun _=>strP cs l water (fun j=>sHi tw tm tv (cs.getD j ck0))))]),(.int .i64 (.lit 0))])):=
  (blend27 tw tm tv rate cs l water hS hll hb hw).post fun r bs e=>⟨_,by subst e;(repeat' (first|exact qA|exact qB|refine qC ?_ rfl ?_|refine qD ?_ ?_|exact qE (by rfl)|exact qF (by rfl)|exact Fit.refl _)),rfl⟩
theorem strengths51z (tw tm:List Int)(tv:List (List Int))(rate:Int)(cs:List Csk)(hS:SOk tw tm tv rate cs):FSpec Try.prog 51 [(stoS tw tm tv rate cs)] [] (fun r _=>r=(.tup [(knoS tw tm tv cs),(.int .i64 (.lit 0))])):=
  (strengths51 tw tm tv rate cs hS).post fun r bs e=>⟨_,by subst e;(repeat' (first|exact qA|exact qB|refine qC ?_ rfl ?_|refine qD ?_ ?_|exact qE (by rfl)|exact qF (by rfl)|exact Fit.refl _)),rfl⟩
end Go.Proofs.Ytkdgpdlfakcgdaa

namespace Go.Proofs.Ytkdgpdlfakcgdaa
open Go Go.Eng Go.Proofs
theorem hold_rowupd {n ix:Int} {o2:Nat} {e e':IX→List SV} {x:List SV}(h0:ix<n)(h1:∀jx:IX,0≤jx.den→jx.den<n→jx.den≠ix→Fit (.agg (e jx)) (.agg (e' jx)))
    (h2:∀jx:IX,0≤jx.den→jx.den<n→jx.den=ix→∃l,putC (e jx) o2 x=some l∧Fit (.agg l) (.agg (e' jx))):Hold (ix<n∧RowUpd n e ix o2 x e'):=
  ⟨h0,fun jx a b c=>(h1 jx a b c).le,fun jx a b c=>by obtain⟨l,p,q⟩:=h2 jx a b c;exact⟨l,p,q.le⟩⟩
theorem setl_k {P:Program} {f:FuncId} {args args':List SV} {K:SV→Prop} {R:SV}(h:K R)(hF:FSpec P f args' [] fun r _=>r=R)(ha:Fit (.tup args) (.tup args')):
    ∃post:SV→Prop,FSpec P f args [] (fun r _=>post r)∧∀r,post r→K r:=⟨fun r=>r=R,hF.pre ha,fun r hr=>hr▸h⟩
end Go.Proofs.Ytkdgpdlfakcgdaa

namespace Go.Proofs.Ytkdgpdlfakcgdaa
open Go Go.Eng Go.Proofs
theorem wider_one {tw tm:List Int} {tv:List (List Int)} {c d:Csk}(hT:TOk tw tm tv)(hc:Box tw tm c.wl c.wh c.ml c.mh)(hd:Box tw tm d.wl d.wh d.ml d.mh)(h1:d.wl≤c.wl)(h2:c.wh≤d.wh)(h3:d.ml≤c.ml)(h4:c.mh≤d.mh):
    sLo tw tm tv d≤sLo tw tm tv c∧sHi tw tm tv c≤sHi tw tm tv d:=by
  have hC:=b_isB hT hc
  have hD:=b_isB hT hd
  obtain⟨w1,m1,a1,a2,a3,a4,a5⟩:=hC.lo
  obtain⟨w2,m2,b1,b2,b3,b4,b5⟩:=hC.hi
  have k1:=(hD.le w1 m1 (by omega) (by omega) (by omega) (by omega)).1
  have k2:=(hD.le w2 m2 (by omega) (by omega) (by omega) (by omega)).2
  unfold sLo sHi
  omega
structure Wid (tw tm:List Int)(tv:List (List Int))(cs xs:List Csk):Prop where
  len:xs.length=cs.length
  gal:∀j,(xs.getD j ck0).g=(cs.getD j ck0).g
  lo:∀j,j<cs.length→sLo tw tm tv (xs.getD j ck0)≤sLo tw tm tv (cs.getD j ck0)
  hi:∀j,j<cs.length→sHi tw tm tv (cs.getD j ck0)≤sHi tw tm tv (xs.getD j ck0)
theorem duty_gal {rate:Int} {cs xs:List Csk} {f:Nat→Int}(h:∀j,(xs.getD j ck0).g=(cs.getD j ck0).g):∀n,dutyP rate xs f n=dutyP rate cs f n:=by
  intro n
  induction n with
  |zero=>rfl
  |succ n ih=>simp only [dutyP,h,ih]
theorem gal_gal {cs xs:List Csk} {l:List Int}(h:∀j,(xs.getD j ck0).g=(cs.getD j ck0).g):∀n,galP xs l n=galP cs l n:=by
  intro n
  induction n with
  |zero=>rfl
  |succ n ih=>simp only [galP,h,ih]
theorem spi_gal {cs xs:List Csk} {l:List Int} {f:Nat→Int}(h:∀j,(xs.getD j ck0).g=(cs.getD j ck0).g):∀n,spiP xs l f n=spiP cs l f n:=by
  intro n
  induction n with
  |zero=>rfl
  |succ n ih=>simp only [spiP,h,ih]
section
variable {tw tm:List Int} {tv:List (List Int)} {rate:Int} {cs xs:List Csk}
theorem wid_duty (hS:SOk tw tm tv rate cs)(hX:SOk tw tm tv rate xs)(hW:Wid tw tm tv cs xs):
    dutyP rate xs (loA tw tm tv xs xs.length) xs.length≤dutyP rate cs (loA tw tm tv cs cs.length) cs.length∧dutyP rate cs (hiA tw tm tv cs cs.length) cs.length≤dutyP rate xs (hiA tw tm tv xs xs.length) xs.length:=by
  rw [duty_gal hW.gal,duty_gal hW.gal,hW.len]
  refine⟨duty_mono hS.rate.1 _ (Nat.le_refl _) (fun i hi=>by have:=hS.gal i hi;omega) fun j hj=> ?_,duty_mono hS.rate.1 _ (Nat.le_refl _) (fun i hi=>by have:=hS.gal i hi;omega) fun j hj=> ?_⟩
  · have h1:=lo_bd hX j
    rw [hW.len]at h1
    have h2:=hW.lo j hj
    have e1:loA tw tm tv xs cs.length j=sLo tw tm tv (xs.getD j ck0):=by simp only [loA];rw [if_pos hj]
    rw [loA_k hj]
    omega
  · have h1:=lo_bd hS j
    have h2:=hW.hi j hj
    have e1:hiA tw tm tv xs cs.length j=sHi tw tm tv (xs.getD j ck0):=by simp only [hiA];rw [if_pos hj]
    rw [hiA_k hj]at *
    omega
theorem wid_str {l:List Int} {w:Int}(hS:SOk tw tm tv rate cs)(hX:SOk tw tm tv rate xs)(hW:Wid tw tm tv cs xs)(hb:blendB cs.length l=true)(hl:l.length≤1000)(hw:0≤w):
    strP xs l w (fun j=>sLo tw tm tv (xs.getD j ck0))≤strP cs l w (fun j=>sLo tw tm tv (cs.getD j ck0))∧strP cs l w (fun j=>sHi tw tm tv (cs.getD j ck0))≤strP xs l w (fun j=>sHi tw tm tv (xs.getD j ck0)):=by
  have hi:=blend_in hb hl
  have h0:=(blend_iff.1 hb).1
  have e:∀f,strP xs l w f=strP cs l w f:=fun f=>by unfold strP;rw [spi_gal hW.gal,gal_gal hW.gal]
  rw [e,e]
  exact⟨str_mono hS.gal hi h0 hw fun j hj=>⟨(s_bd hX.t (hX.box j (by rw [hW.len];exact hj))).1,hW.lo j hj⟩,str_mono hS.gal hi h0 hw fun j hj=>⟨by have:=s_bd hS.t (hS.box j hj);omega,hW.hi j hj⟩⟩
theorem wid_wat {l:List Int} {s:Int}(hS:SOk tw tm tv rate cs)(hW:Wid tw tm tv cs xs)(hb:blendB cs.length l=true)(hl:l.length≤1000)(hs:0≤s):
    watQ cs l (fun j=>sHi tw tm tv (cs.getD j ck0)) s≤watQ xs l (fun j=>sHi tw tm tv (xs.getD j ck0)) s:=by
  have hi:=blend_in hb hl
  unfold watQ
  rw [spi_gal hW.gal,gal_gal hW.gal]
  have h1:=spi_mono (t:=fun j=>sHi tw tm tv (cs.getD j ck0)) (t':=fun j=>sHi tw tm tv (xs.getD j ck0)) (fun i q=>by have:=hS.gal i q;omega) hi l.length (Nat.le_refl _) fun j hj=>hW.hi j hj
  have h2:=spi_nn (t:=fun j=>sHi tw tm tv (cs.getD j ck0)) (fun i q=>by have:=hS.gal i q;omega) hi (fun j hj=>by have:=s_bd hS.t (hS.box j hj);omega) l.length (Nat.le_refl _)
  rw [Int.tdiv_eq_ediv_of_nonneg h2,Int.tdiv_eq_ediv_of_nonneg (by omega)]
  have:=Int.ediv_le_ediv (show(0:Int)<s+1 by omega) h1
  omega
theorem wid_can (hW:Wid tw tm tv cs xs) {c d:Int}(h:canB cs (fun j=>sLo tw tm tv (cs.getD j ck0)) (fun j=>sHi tw tm tv (cs.getD j ck0)) cs.length [c,d]=true):
    canB xs (fun j=>sLo tw tm tv (xs.getD j ck0)) (fun j=>sHi tw tm tv (xs.getD j ck0)) xs.length [c,d]=true:=by
  unfold canB hasT at h⊢
  simp only [List.getD_cons_zero,List.getD_cons_succ,Bool.and_eq_true,decide_eq_true_eq,List.any_eq_true,List.mem_range]at h⊢
  obtain⟨h1,j,h2,h3⟩:=h
  have a:=hW.lo c.toNat (by omega)
  have b:=hW.hi c.toNat (by omega)
  refine⟨by rw [hW.len];exact h1,(sLo tw tm tv (cs.getD c.toNat ck0)+j-sLo tw tm tv (xs.getD c.toNat ck0)).toNat,by omega,?_⟩
  rw [hW.gal,h3]
  congr 1
  omega
theorem fal_sub {p q:List Int→Bool} {D:List (Int×Int)}(h:∀c d,p [c,d]=true→q [c,d]=true):∀n,∀x∈falL q D n,x∈falL p D n:=by
  intro n
  induction n with
  |zero=>intro x hx;exact hx
  | succ n ih=>
    intro x hx
    simp only [falL]at hx⊢
    split at hx
    · rename_i hq
      split
      · exact ih x hx
      · exact List.mem_append_left _ (ih x hx)
    · rename_i hq
      rw [if_neg (fun e=>hq (h _ _ e))]
      rcases List.mem_append.1 hx with k|k
      · exact List.mem_append_left _ (ih x k)
      · exact List.mem_append_right _ k
end
def wide1 (tw:List Int)(c:Csk)(y:Int):Csk:=
  ⟨c.g,if c.wl-y.tmod 3>tw.getD 0 0 then c.wl-y.tmod 3 else tw.getD 0 0,if c.wh+(y.tdiv 4).tmod 3<tw.getD (tw.length-1) 0 then c.wh+(y.tdiv 4).tmod 3 else tw.getD (tw.length-1) 0,c.ml,c.mh⟩
def wide2 (tm:List Int)(c:Csk)(y:Int):Csk:=
  ⟨c.g,c.wl,c.wh,if c.ml-(y.tdiv 16).tmod 3>tm.getD 0 0 then c.ml-(y.tdiv 16).tmod 3 else tm.getD 0 0,if c.mh+y.tdiv 64<tm.getD (tm.length-1) 0 then c.mh+y.tdiv 64 else tm.getD (tm.length-1) 0⟩
theorem set_at {cs:List Csk} {k j:Nat} {v:Csk}:(cs.set k v).getD j ck0=if j=k∧k<cs.length then v else cs.getD j ck0:=by
  rw [List.getD_eq_getElem?_getD,List.getElem?_set]
  by_cases e:k=j
  · subst e
    by_cases h:k<cs.length
    · simp [h]
    · rw [if_pos rfl,if_neg h,if_neg (by simp [h]),List.getD_eq_getElem?_getD,List.getElem?_eq_none (by omega)]
  · rw [if_neg e,if_neg (by omega),List.getD_eq_getElem?_getD]
theorem quo_bd3 {y:Int}(hy:0≤y∧y≤255):(0≤y.tmod 3∧y.tmod 3≤2)∧(0≤(y.tdiv 4).tmod 3∧(y.tdiv 4).tmod 3≤2)∧(0≤(y.tdiv 16).tmod 3∧(y.tdiv 16).tmod 3≤2)∧0≤y.tdiv 64∧y.tdiv 64≤3∧0≤y.tdiv 4∧y.tdiv 4≤255∧0≤y.tdiv 16∧y.tdiv 16≤255:=by
  have h4:=tdiv_bd0 hy.1 (show(0:Int)<4 by decide)
  have h16:=tdiv_bd0 hy.1 (show(0:Int)<16 by decide)
  have a:=tmod_bd2 hy.1 (show(0:Int)<3 by decide)
  have b:=tmod_bd2 h4.1 (show(0:Int)<3 by decide)
  have c:=tmod_bd2 h16.1 (show(0:Int)<3 by decide)
  have d:y.tdiv 64=y/64:=Int.tdiv_eq_ediv_of_nonneg hy.1
  omega
theorem wide_ok {tw tm:List Int} {tv:List (List Int)} {rate:Int} {cs:List Csk} {k:Nat} {y:Int}(hS:SOk tw tm tv rate cs)(hk:k<cs.length)(hy:0≤y∧y≤255):
    SOk tw tm tv rate (cs.set k (wide2 tm (wide1 tw (cs.getD k ck0) y) y))∧Wid tw tm tv cs (cs.set k (wide2 tm (wide1 tw (cs.getD k ck0) y) y)):=by
  have hq:=quo_bd3 hy
  have hb:=hS.box k hk
  have hbw:=hb.w;have hb0:=hb.w0;have hb1:=hb.w1;have hbm:=hb.m;have hc0:=hb.m0;have hc1:=hb.m1
  have hB:Box tw tm (wide2 tm (wide1 tw (cs.getD k ck0) y) y).wl (wide2 tm (wide1 tw (cs.getD k ck0) y) y).wh (wide2 tm (wide1 tw (cs.getD k ck0) y) y).ml (wide2 tm (wide1 tw (cs.getD k ck0) y) y).mh:=by
    constructor<;>simp only [wide1,wide2]<;>omega
  have hw:=wider_one (c:=cs.getD k ck0) (d:=wide2 tm (wide1 tw (cs.getD k ck0) y) y) hS.t hb hB (by simp only [wide1,wide2];omega) (by simp only [wide1,wide2];omega) (by simp only [wide1,wide2];omega) (by simp only [wide1,wide2];omega)
  refine⟨⟨hS.t,by simpa using hS.few,hS.rate,fun i hi=> ?_,fun i hi=> ?_⟩,⟨by simp,fun j=> ?_,fun j hj=> ?_,fun j hj=> ?_⟩⟩
  · rw [List.length_set]at hi
    rw [set_at]
    split
    · exact hS.gal k hk
    · exact hS.gal i hi
  · rw [List.length_set]at hi
    rw [set_at]
    split
    · exact hB
    · exact hS.box i hi
  · rw [set_at]
    split
    · rename_i e;rw [e.1];rfl
    · rfl
  · rw [set_at]
    split
    · rename_i e;rw [e.1];exact hw.1
    · exact Int.le_refl _
  · rw [set_at]
    split
    · rename_i e;rw [e.1];exact hw.2
    · exact Int.le_refl _
end Go.Proofs.Ytkdgpdlfakcgdaa
