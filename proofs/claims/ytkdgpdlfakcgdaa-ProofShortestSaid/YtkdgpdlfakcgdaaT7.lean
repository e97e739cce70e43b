/- Contracts of the functions that the laws come to. No condition. -/
import Derived.Test.YtkdgpdlfakcgdaaT6
import Derived.Test.YtkdgpdlfakcgdaaRows
set_option linter.unusedVariables false
set_option linter.unusedSimpArgs false
set_option linter.deprecated false
set_option linter.all false

namespace Go.Proofs.Ytkdgpdlfakcgdaa
open Go Go.Eng Go.Proofs
theorem own4 :ownKnob Try.prog.godebug=none:=by kernel_rfl
theorem kids4 :Kids Try.prog (· <Try.prog.types.size):=kids_rows (by kernel_rfl) (by kernel_rfl)
theorem full4 :∀t e,t<Try.prog.types.size→Try.prog.underlying t=some (.slice e)→0<Try.prog.cellsOf e:=slices_full_of Try.prog (by kernel_rfl)
theorem u3 :Try.prog.underlying 3=some (.int .i64):=by kernel_rfl
theorem u4 :Try.prog.underlying 4=some .bool:=by kernel_rfl
theorem u22 :Try.prog.underlying 22=some (.slice 3):=by kernel_rfl
theorem u23 :Try.prog.underlying 23=some (.slice 22):=by kernel_rfl
theorem u25 :Try.prog.underlying 25=some (.struct (Try.prog.fieldsOf 25)):=by kernel_rfl
theorem u26 :Try.prog.underlying 26=some (.slice 81):=by kernel_rfl
theorem u28 :Try.prog.underlying 28=some (.struct (Try.prog.fieldsOf 28)):=by kernel_rfl
theorem u46 :Try.prog.underlying 46=some (.struct (Try.prog.fieldsOf 46)):=by kernel_rfl
theorem u81 :Try.prog.underlying 81=some (.struct (Try.prog.fieldsOf 81)):=by kernel_rfl
structure Sto where
  tw:List Int
  tm:List Int
  tv:List (List Int)
  rate:Int
  cs:List Csk
section
variable {H:Type} {enc:TypeId×Value→H} {W:World} {base:Nat} {sp:Nat→Bool} {held:Bool}
theorem dec3 :Dec enc Try.prog W base sp held 3 Int (fun n=>(Lit.int .i64 n).wf=true) (fun n=>[.int .i64 (.sym fun _=>n)]):=dec_int u3
theorem dec22 :Dec enc Try.prog W base sp held 22 (List Int) (fun l=>(∀a∈l,(Lit.int .i64 a).wf=true)∧l.length≤maxLen) (fun l=>[.sl 1 (.sym fun _=>zi l.length) (fun ix=>[.int .i64 (.sym fun _=>l.getD ix.den.toNat 0)])]):=
  dec_sl 0 u22 (by kernel_rfl) (by decide) dec3
theorem dec23 :Dec enc Try.prog W base sp held 23 (List (List Int)) (fun _=>True) (fun l=>[.sl 1 (.sym fun _=>zi l.length) (fun ix=>[.sl 1 (.sym fun _=>zi (l.getD ix.den.toNat []).length) (fun jx=>[.int .i64 (.sym fun _=>(l.getD ix.den.toNat []).getD jx.den.toNat 0)])])]):=
  dec_map id (dec_sl [] u23 (by kernel_rfl) (by decide) dec22) (fun _ _=>trivial) (fun _=>rfl)
theorem dec46 :Dec enc Try.prog W base sp held 46 (Int×Int) (fun p=>(Lit.int .i64 p.1).wf=true∧(Lit.int .i64 p.2).wf=true) (fun p=>[.int .i64 (.sym fun _=>p.1),.int .i64 (.sym fun _=>p.2)]):=
  dec_map (fun p:Int×Int×Unit=>(p.1,p.2.1)) (dec_str (fl:=[(0,3),(1,3)]) (tot:=2) u46 (by kernel_rfl) (by kernel_rfl) (decF_cons (m:=1) (by kernel_rfl) dec3 (decF_cons (m:=1) (by kernel_rfl) dec3 decF_nil))) (fun _ h=>⟨h.1,h.2.1⟩) (fun _=>rfl)
theorem dec81 :Dec enc Try.prog W base sp held 81 Csk (fun _=>True) (fun c=>[.int .i64 (.sym fun _=>c.g),.int .i64 (.sym fun _=>c.wl),.int .i64 (.sym fun _=>c.wh),.int .i64 (.sym fun _=>c.ml),.int .i64 (.sym fun _=>c.mh)]):=
  dec_map (fun p:Int×(Int×Int)×(Int×Int)×Unit=>⟨p.1,p.2.1.1,p.2.1.2,p.2.2.1.1,p.2.2.1.2⟩) (dec_str (fl:=[(0,3),(1,46),(3,46)]) (tot:=5) u81 (by kernel_rfl) (by kernel_rfl) (decF_cons (m:=1) (by kernel_rfl) dec3 (decF_cons (m:=2) (by kernel_rfl) dec46 (decF_cons (m:=2) (by kernel_rfl) dec46 decF_nil)))) (fun _ _=>trivial) (fun _=>rfl)
theorem dec26 :Dec enc Try.prog W base sp held 26 (List Csk) (fun l=>l.length≤maxLen) (fun l=>[.sl 5 (.sym fun _=>zi l.length) (fun ix=>[.int .i64 (.sym fun _=>(l.getD ix.den.toNat ck0).g),.int .i64 (.sym fun _=>(l.getD ix.den.toNat ck0).wl),.int .i64 (.sym fun _=>(l.getD ix.den.toNat ck0).wh),.int .i64 (.sym fun _=>(l.getD ix.den.toNat ck0).ml),.int .i64 (.sym fun _=>(l.getD ix.den.toNat ck0).mh)])]):=
  dec_map id (dec_sl ck0 u26 (by kernel_rfl) (by decide) dec81) (fun _ h=>h.2) (fun _=>rfl)
theorem dec25 :Dec enc Try.prog W base sp held 25 (List Int×List Int×List (List Int)) (fun _=>True) (fun p=>[.sl 1 (.sym fun _=>zi p.1.length) (fun ix=>[.int .i64 (.sym fun _=>p.1.getD ix.den.toNat 0)]),.sl 1 (.sym fun _=>zi p.2.1.length) (fun ix=>[.int .i64 (.sym fun _=>p.2.1.getD ix.den.toNat 0)]),.sl 1 (.sym fun _=>zi p.2.2.length) (fun ix=>[.sl 1 (.sym fun _=>zi (p.2.2.getD ix.den.toNat []).length) (fun jx=>[.int .i64 (.sym fun _=>(p.2.2.getD ix.den.toNat []).getD jx.den.toNat 0)])])]):=
  dec_map (fun p:List Int×List Int×List (List Int)×Unit=>(p.1,p.2.1,p.2.2.1)) (dec_str (fl:=[(0,22),(1,22),(2,23)]) (tot:=3) u25 (by kernel_rfl) (by kernel_rfl) (decF_cons (m:=1) (by kernel_rfl) dec22 (decF_cons (m:=1) (by kernel_rfl) dec22 (decF_cons (m:=1) (by kernel_rfl) dec23 decF_nil)))) (fun _ _=>trivial) (fun _=>rfl)
theorem dec28 :Dec enc Try.prog W base sp held 28 Sto (fun s=>s.cs.length≤maxLen) (fun s=>[(.sl 1 (.sym fun _=>zi (s.tw).length) (fun ix=>[.int .i64 (.sym fun _=>(s.tw).getD ix.den.toNat 0)])),(.sl 1 (.sym fun _=>zi (s.tm).length) (fun ix=>[.int .i64 (.sym fun _=>(s.tm).getD ix.den.toNat 0)])),(.sl 1 (.sym fun _=>zi (s.tv).length) (fun ix=>[(.sl 1 (.sym fun _=>zi ((s.tv).getD ix.den.toNat []).length) (fun jx=>[.int .i64 (.sym fun _=>((s.tv).getD ix.den.toNat []).getD jx.den.toNat 0)]))])),(.int .i64 (.sym fun _=>s.rate)),(.sl 5 (.sym fun _=>zi (s.cs).length) (fun ix=>[(.int .i64 (.sym fun _=>((s.cs).getD ix.den.toNat ck0).g)),(.int .i64 (.sym fun _=>((s.cs).getD ix.den.toNat ck0).wl)),(.int .i64 (.sym fun _=>((s.cs).getD ix.den.toNat ck0).wh)),(.int .i64 (.sym fun _=>((s.cs).getD ix.den.toNat ck0).ml)),(.int .i64 (.sym fun _=>((s.cs).getD ix.den.toNat ck0).mh))]))]):=
  dec_map (fun p:(List Int×List Int×List (List Int))×Int×List Csk×Unit=>⟨p.1.1,p.1.2.1,p.1.2.2,p.2.1,p.2.2.1⟩) (dec_str (fl:=[(0,25),(3,3),(4,26)]) (tot:=5) u28 (by kernel_rfl) (by kernel_rfl) (decF_cons (m:=3) (by kernel_rfl) dec25 (decF_cons (m:=1) (by kernel_rfl) dec3 (decF_cons (m:=1) (by kernel_rfl) dec26 decF_nil)))) (fun _ h=>h.2.2.1) (fun _=>rfl)
end
end Go.Proofs.Ytkdgpdlfakcgdaa

namespace Go.Proofs.Ytkdgpdlfakcgdaa
open Go Go.Eng Go.Proofs
theorem u5 :Try.prog.underlying 5=some (.int .u8):=by kernel_rfl
theorem u83 :Try.prog.underlying 83=some (.int .u16):=by kernel_rfl
theorem u74 :Try.prog.underlying 74=some (.slice 83):=by kernel_rfl
theorem wf_u8 {n:Int}(h:(Lit.int .u8 n).wf=true):0≤n∧n≤255:=by
  simpa [Lit.wf,IntKind.min,IntKind.max,IntKind.bits,IntKind.signed]using h
theorem wf_u16 {n:Int}(h:(Lit.int .u16 n).wf=true):0≤n∧n≤65535:=by
  simpa [Lit.wf,IntKind.min,IntKind.max,IntKind.bits,IntKind.signed]using h
theorem words_bd {l:List Int}(h:∀a∈l,(Lit.int .u16 a).wf=true)(i:Nat):0≤l.getD i 0∧l.getD i 0≤65535:=by
  rw [List.getD_eq_getElem?_getD]
  by_cases hi:i<l.length
  · rw [List.getElem?_eq_getElem hi];exact wf_u16 (h _ (List.getElem_mem hi))
  · rw [List.getElem?_eq_none (by omega)];decide
theorem words_len {l:List Int}(h:l.length≤maxLen):l.length≤9223372036854775807:=h
section
variable {H:Type} {enc:TypeId×Value→H} {W:World} {base:Nat} {sp:Nat→Bool} {held:Bool}
theorem dec83 :Dec enc Try.prog W base sp held 83 Int (fun n=>(Lit.int .u16 n).wf=true) (fun n=>[.int .u16 (.sym fun _=>n)]):=dec_int u83
theorem dec74 :Dec enc Try.prog W base sp held 74 (List Int) (fun l=>(∀a∈l,(Lit.int .u16 a).wf=true)∧l.length≤maxLen) (fun l=>[.sl 1 (.sym fun _=>zi l.length) (fun ix=>[.int .u16 (.sym fun _=>l.getD ix.den.toNat 0)])]):=
  dec_sl 0 u74 (by kernel_rfl) (by decide) dec83
end
end Go.Proofs.Ytkdgpdlfakcgdaa

namespace Go.Proofs.Ytkdgpdlfakcgdaa
open Go Go.Eng Go.Proofs
set_option maxRecDepth 10000
def inB (n:Nat):Bool:=(allL n).all fun a=>decide (a.length≤1000)&&a.all fun x=>decide (0≤x)&&decide (x<(n:Int))
theorem in6 :∀n,n≤6→inB n=true:=by
  intro n hn
  match n,hn with
  |0,_=>decide +kernel
  |1,_=>decide +kernel
  |2,_=>decide +kernel
  |3,_=>decide +kernel
  |4,_=>decide +kernel
  |5,_=>decide +kernel
  |6,_=>decide +kernel
theorem all_in {n:Nat}(hn:n≤6) {l:List Int}(h:l∈allL n):InCs n l:=by
  have h1:=in6 n hn
  simp only [inB,List.all_eq_true,Bool.and_eq_true,decide_eq_true_eq]at h1
  refine⟨(h1 l h).1,fun j hj=> ?_⟩
  rw [List.getD_eq_getElem?_getD,List.getElem?_eq_getElem hj]
  exact(h1 l h).2 _ (List.getElem_mem hj)
end Go.Proofs.Ytkdgpdlfakcgdaa

namespace Go.Proofs.Ytkdgpdlfakcgdaa
open Go Go.Eng Go.Proofs
theorem bits_pair (k:Int):∀m,(bitsL k m).Pairwise (· < ·):=by
  intro m
  induction m with
  |zero=>exact List.Pairwise.nil
  | succ m ih=>
    by_cases h:(k.fdiv (2^m)).tmod 2=1
    · rw [bits_yes h,List.pairwise_append]
      refine⟨ih,List.pairwise_singleton _ _,fun a ha b hb=> ?_⟩
      obtain⟨p,hp,rfl,_⟩:=bits_mem.1 ha
      have:b=(m:Int):=by simpa using hb
      omega
    · rw [bits_no h];exact ih
theorem pair_getD {l:List Int}(h:l.Pairwise (· < ·)) {i:Nat}(h0:0<i)(hi:i<l.length):l.getD (i-1) 0<l.getD i 0:=by
  rw [List.getD_eq_getElem?_getD,List.getElem?_eq_getElem (show i-1<l.length by omega),List.getD_eq_getElem?_getD,List.getElem?_eq_getElem hi]
  exact List.pairwise_iff_getElem.1 h _ _ (by omega) hi (by omega)
theorem some_blend {n:Nat} {b:Int}(h0:0<n)(hn:n≤6)(hb:0≤b∧b≤255):blendB n (someP n b)=true∧(someP n b).length≤1000:=by
  have hs:=some_spec h0 hn hb
  refine⟨blend_iff.2 ⟨hs.1,fun i hi=>⟨?_,fun h=> ?_⟩⟩,hs.2.few⟩
  · have:=hs.2.at' i hi
    omega
  · unfold someP at hi⊢
    split at hi
    · simp at hi;omega
    · rename_i h1
      rw [if_neg h1]
      exact pair_getD (bits_pair _ _) h hi
def pickL (tw tm:List Int)(tv:List (List Int))(cs:List Csk)(ws:List Int):List Int:=(List.range cs.length).map (pickT ws (fun j=>sLo tw tm tv (cs.getD j ck0)) (fun j=>sHi tw tm tv (cs.getD j ck0)))
theorem map_getD {n:Nat} {f:Nat→Int} {i:Nat}(hi:i<n):((List.range n).map f).getD i 0=f i:=by
  rw [List.getD_eq_getElem?_getD,List.getElem?_map,List.getElem?_range hi];rfl
theorem pick_truth {tw tm:List Int} {tv:List (List Int)} {rate:Int} {cs:List Csk} {ws:List Int}(hS:SOk tw tm tv rate cs)(hw:∀i,0≤ws.getD i 0):truthB tw tm tv cs (pickL tw tm tv cs ws)=true:=by
  refine truth_iff.2 ⟨by simp [pickL],fun i hi=> ?_⟩
  rw [pickL,map_getD hi]
  exact pick_bd hw (s_bd hS.t (hS.box i hi)).2.1
theorem truth_bd {tw tm:List Int} {tv:List (List Int)} {rate:Int} {cs:List Csk} {t:List Int}(hS:SOk tw tm tv rate cs)(h:truthB tw tm tv cs t=true)(j:Nat):0≤t.getD j 0∧t.getD j 0≤2000:=by
  have h:=truth_iff.1 h
  by_cases hj:j<cs.length
  · have h1:=h.2 j hj
    have h2:=s_bd hS.t (hS.box j hj)
    omega
  · have:t.getD j 0=0:=by rw [List.getD_eq_getElem?_getD,List.getElem?_eq_none (by omega)];rfl
    omega
theorem tenths_spec {g t:Int}(h:0≤g*t):100*tenthsP g t≤g*t∧g*t<100*(tenthsP g t+1):=by
  unfold tenthsP
  rw [Int.tdiv_eq_ediv_of_nonneg h]
  omega
theorem loA_k {tw tm:List Int} {tv:List (List Int)} {cs:List Csk} {j:Nat}(hj:j<cs.length):loA tw tm tv cs cs.length j=sLo tw tm tv (cs.getD j ck0):=by
  simp only [loA];rw [if_pos hj]
theorem hiA_k {tw tm:List Int} {tv:List (List Int)} {cs:List Csk} {j:Nat}(hj:j<cs.length):hiA tw tm tv cs cs.length j=sHi tw tm tv (cs.getD j ck0):=by
  simp only [hiA];rw [if_pos hj]
theorem truth_duty {tw tm:List Int} {tv:List (List Int)} {rate:Int} {cs:List Csk} {t:List Int}(hS:SOk tw tm tv rate cs)(h:truthB tw tm tv cs t=true):
    dutyP rate cs (loA tw tm tv cs cs.length) cs.length≤dutyP rate cs (fun j=>t.getD j 0) cs.length∧dutyP rate cs (fun j=>t.getD j 0) cs.length≤dutyP rate cs (hiA tw tm tv cs cs.length) cs.length:=by
  have ht:=truth_iff.1 h
  refine⟨duty_mono hS.rate.1 _ (Nat.le_refl _) (fun i hi=>by have:=hS.gal i hi;omega) fun j hj=>⟨(lo_bd hS j).1,?_⟩,duty_mono hS.rate.1 _ (Nat.le_refl _) (fun i hi=>by have:=hS.gal i hi;omega) fun j hj=>⟨(truth_bd hS h j).1,?_⟩⟩
  · rw [loA_k hj];exact(ht.2 j hj).1
  · rw [hiA_k hj];exact(ht.2 j hj).2
theorem truth_str {tw tm:List Int} {tv:List (List Int)} {rate:Int} {cs:List Csk} {t l:List Int} {w:Int}(hS:SOk tw tm tv rate cs)(h:truthB tw tm tv cs t=true)(hb:blendB cs.length l=true)(hl:l.length≤1000)(hw:0≤w):
    strP cs l w (fun j=>sLo tw tm tv (cs.getD j ck0))≤strP cs l w (fun j=>t.getD j 0)∧strP cs l w (fun j=>t.getD j 0)≤strP cs l w (fun j=>sHi tw tm tv (cs.getD j ck0)):=by
  have ht:=truth_iff.1 h
  have hi:=blend_in hb hl
  have h0:=(blend_iff.1 hb).1
  exact⟨str_mono hS.gal hi h0 hw fun j hj=>⟨(s_bd hS.t (hS.box j hj)).1,(ht.2 j hj).1⟩,str_mono hS.gal hi h0 hw fun j hj=>⟨(truth_bd hS h j).1,(ht.2 j hj).2⟩⟩
theorem duty_at {rate:Int} {cs:List Csk} {t:Nat→Int} {i:Nat}:dutyP rate cs t i+(tenthsP (cs.getD i ck0).g (t i)*rate+9).tdiv 10=dutyP rate cs t (i+1):=by
  simp only [dutyP,owedP]
  congr 2
  omega
end Go.Proofs.Ytkdgpdlfakcgdaa

namespace Go.Proofs.Ytkdgpdlfakcgdaa
open Go Go.Eng Go.Proofs
theorem wat_iff {tw tm:List Int} {tv:List (List Int)} {rate:Int} {cs:List Csk} {l:List Int} {s n:Int}(hS:SOk tw tm tv rate cs)(hb:blendB cs.length l=true)(hll:l.length≤1000)(hs:0≤s)(hn:0≤n):
    strP cs l n (fun j=>sHi tw tm tv (cs.getD j ck0))≤s↔watQ cs l (fun j=>sHi tw tm tv (cs.getD j ck0)) s≤n:=by
  have hi:=blend_in hb hll
  have h0:=(blend_iff.1 hb).1
  have hg:=gal_bd hS.gal hi l.length (Nat.le_refl _)
  refine str_le_iff hs hn (by omega) ?_
  exact spi_nn (fun i q=>by have:=hS.gal i q;omega) hi (fun j hj=>by have:=s_bd hS.t (hS.box j hj);omega) l.length (Nat.le_refl _)
theorem wat_anti {tw tm:List Int} {tv:List (List Int)} {rate:Int} {cs:List Csk} {l:List Int} {s s':Int}(hS:SOk tw tm tv rate cs)(hb:blendB cs.length l=true)(hll:l.length≤1000)(hs:0≤s)(h:s≤s'):
    watQ cs l (fun j=>sHi tw tm tv (cs.getD j ck0)) s'≤max 0 (watQ cs l (fun j=>sHi tw tm tv (cs.getD j ck0)) s):=by
  have h1:=(wat_iff (n:=max 0 (watQ cs l (fun j=>sHi tw tm tv (cs.getD j ck0)) s)) hS hb hll hs (by omega)).2 (by omega)
  exact(wat_iff hS hb hll (by omega) (by omega)).1 (by omega)
theorem str_nn {tw tm:List Int} {tv:List (List Int)} {rate:Int} {cs:List Csk} {l:List Int} {w:Int}(hS:SOk tw tm tv rate cs)(hb:blendB cs.length l=true)(hll:l.length≤1000)(hw:0≤w):
    0≤strP cs l w (fun j=>sLo tw tm tv (cs.getD j ck0)):=by
  have hi:=blend_in hb hll
  have h0:=(blend_iff.1 hb).1
  have hg:=gal_bd hS.gal hi l.length (Nat.le_refl _)
  unfold strP
  exact(tdiv_bd0 (spi_nn (fun i q=>by have:=hS.gal i q;omega) hi (fun j hj=>by have:=s_bd hS.t (hS.box j hj);omega) l.length (Nat.le_refl _)) (by omega)).1
def blB (n:Nat):Bool:=(allL n).all fun a=>blendB n a
theorem bl6 :∀n,n≤6→blB n=true:=by
  intro n hn
  match n,hn with
  |0,_=>decide +kernel
  |1,_=>decide +kernel
  |2,_=>decide +kernel
  |3,_=>decide +kernel
  |4,_=>decide +kernel
  |5,_=>decide +kernel
  |6,_=>decide +kernel
def oneB (n:Nat):Bool:=(List.range n).all fun j=>(allL n).contains [(j:Int)]
theorem one6 :∀n,n≤6→oneB n=true:=by
  intro n hn
  match n,hn with
  |0,_=>decide +kernel
  |1,_=>decide +kernel
  |2,_=>decide +kernel
  |3,_=>decide +kernel
  |4,_=>decide +kernel
  |5,_=>decide +kernel
  |6,_=>decide +kernel
theorem few_blend {n:Nat}(hn:n≤6) {ok:List Int→Bool} {F:List Int}(h:fewP n ok=some F):ok F=true∧blendB n F=true∧F∈allL n∧F.length≤1000:=by
  rw [few_find]at h
  have hm:=List.mem_of_find?_eq_some h
  have h2:=bl6 n hn
  simp only [blB,List.all_eq_true]at h2
  exact⟨List.find?_some h,h2 F hm,hm,(all_in hn hm).few⟩
theorem some_all {n:Nat} {b:Int}(h0:0<n)(hn:n≤6)(hb:0≤b∧b≤255):someP n b∈allL n:=by
  have hp:(0:Int)<2^n:=Int.pow_pos (by decide)
  have hm:=tmod_bd2 hb.1 hp
  unfold someP
  split
  · have h1:=tmod_bd2 hb.1 (show(0:Int)<n by omega)
    have h2:=one6 n hn
    simp only [oneB,List.all_eq_true,List.mem_range,List.contains_iff_mem]at h2
    have:=h2 (b.tmod n).toNat (by omega)
    rwa [show((b.tmod (n:Int)).toNat:Int)=b.tmod n by omega]at this
  · rename_i hl
    have hk:0<b.tmod (2^n):=by
      rcases Int.lt_or_eq_of_le hm.1 with q|q
      · exact q
      · exfalso;apply hl;rw [←q];decide
    have h2:=mem6 n hn
    simp only [memB,Bool.and_eq_true,List.all_eq_true,List.mem_range,List.contains_iff_mem]at h2
    have hpn:((2^n:Nat):Int)=2^n:=by simp
    have:=h2.1 ((b.tmod (2^n)).toNat-1) (by omega)
    rwa [show(((b.tmod (2^n)).toNat-1:Nat):Int)+1=b.tmod (2^n) by omega]at this
theorem few_none {n:Nat} {ok:List Int→Bool}(h:fewP n ok=none) {x:List Int}(hx:x∈allL n):ok x=false:=by
  rw [few_find]at h
  simpa using List.find?_eq_none.1 h x hx
theorem few_least {n:Nat}(hn:n≤6) {ok:List Int→Bool} {F x:List Int}(h:fewP n ok=some F)(hx:x∈allL n)(hok:ok x=true):shorterP x F=false:=by
  have hs:=sort6 n hn
  simp only [sortB,Bool.and_eq_true,decide_eq_true_eq,List.all_eq_true,Bool.not_eq_true']at hs
  rw [few_find]at h
  obtain⟨_,u1,u2,he,hno⟩:=List.find?_eq_some_iff_append.1 h
  rw [he]at hx hs
  rcases List.mem_append.1 hx with q|q
  · have:=hno x q
    rw [hok]at this
    cases this
  · rcases List.mem_cons.1 q with rfl|q
    · exact hs.2 x (by simp)
    · have h3:=(List.pairwise_append.1 hs.1).2.1
      exact((List.pairwise_cons.1 h3).1 x q).2
end Go.Proofs.Ytkdgpdlfakcgdaa

namespace Go.Proofs.Ytkdgpdlfakcgdaa
open Go Go.Eng Go.Proofs
def fixC (c:Csk):Csk:=⟨c.g,c.wl,c.wl,c.ml,c.ml⟩
theorem fix_get {cs:List Csk}(k:Nat):(cs.map fixC).getD k ck0=fixC (cs.getD k ck0):=by
  rw [List.getD_eq_getElem?_getD,List.getElem?_map,List.getD_eq_getElem?_getD]
  cases cs[k]? with
  |none=>rfl
  |some c=>rfl
theorem fix_ok {tw tm:List Int} {tv:List (List Int)} {rate:Int} {cs:List Csk}(hS:SOk tw tm tv rate cs):SOk tw tm tv rate (cs.map fixC):=by
  refine⟨hS.t,by simpa using hS.few,hS.rate,fun i hi=> ?_,fun i hi=> ?_⟩
  · rw [fix_get];exact hS.gal i (by simpa using hi)
  · rw [fix_get]
    have h:=hS.box i (by simpa using hi)
    exact⟨Int.le_refl _,h.w0,Int.le_trans h.w h.w1,Int.le_refl _,h.m0,Int.le_trans h.m h.m1⟩
theorem fix_one {tw tm:List Int} {tv:List (List Int)} {rate:Int} {cs:List Csk}(hS:SOk tw tm tv rate cs) {i:Nat}(hi:i<(cs.map fixC).length):
    sLo tw tm tv ((cs.map fixC).getD i ck0)=sHi tw tm tv ((cs.map fixC).getD i ck0):=by
  have hB:=b_isB hS.t ((fix_ok hS).box i hi)
  rw [fix_get]at hB⊢
  obtain⟨w1,m1,h1,h2,h3,h4,h5⟩:=hB.lo
  obtain⟨w2,m2,g1,g2,g3,g4,g5⟩:=hB.hi
  simp only [fixC]at *
  unfold sLo sHi
  simp only
  rw [h5,g5,show w1=w2 by omega,show m1=m2 by omega]
def ownP (cs:List Csk)(l:List Int)(t:Nat→Int):Nat→Int
  |0=>0
  |n+1=>ownP cs l t n+tenthsP (cs.getD (l.getD n 0).toNat ck0).g (t (l.getD n 0).toNat)
def mnP (l:List Int)(t:Nat→Int):Nat→Int
  |0=>9999
  |n+1=>if t (l.getD n 0).toNat<mnP l t n then t (l.getD n 0).toNat else mnP l t n
def mxP (l:List Int)(t:Nat→Int):Nat→Int
  |0=>0
  |n+1=>if t (l.getD n 0).toNat>mxP l t n then t (l.getD n 0).toNat else mxP l t n
theorem own_sp {cs:List Csk} {l:List Int} {t:Nat→Int}(hg:∀i,i<cs.length→1≤(cs.getD i ck0).g∧(cs.getD i ck0).g≤99)(hl:InCs cs.length l)(ht:∀j,j<cs.length→0≤t j∧t j≤2000):
    ∀n,n≤l.length→(100*ownP cs l t n≤spiP cs l t n∧spiP cs l t n≤100*ownP cs l t n+99*n)∧0≤ownP cs l t n∧ownP cs l t n≤1980*n:=by
  intro n
  induction n with
  |zero=>intro _;simp [ownP,spiP]
  | succ n ih=>
    intro hn
    have h:=ih (by omega)
    have ha:=hl.at' n hn
    have hg:=hg (l.getD n 0).toNat (by omega)
    have ht:=ht (l.getD n 0).toNat (by omega)
    have hm:=mul_le2 (by omega:(0:Int)≤(cs.getD (l.getD n 0).toNat ck0).g) hg.2 ht.1 ht.2
    have hs:=tenths_spec hm.1
    have hb:=tenths_bd (by omega) hg.2 ht.1 ht.2
    simp only [ownP,spiP]
    omega
theorem mn_bd {cs:List Csk} {l:List Int} {t:Nat→Int}(hl:InCs cs.length l)(ht:∀j,j<cs.length→0≤t j∧t j≤2000):
    ∀n,n≤l.length→(0≤mnP l t n∧mnP l t n≤9999)∧0≤mxP l t n∧mxP l t n≤2000:=by
  intro n
  induction n with
  |zero=>intro _;simp [mnP,mxP]
  | succ n ih=>
    intro hn
    have h:=ih (by omega)
    have ha:=hl.at' n hn
    have ht:=ht (l.getD n 0).toNat (by omega)
    simp only [mnP,mxP]
    omega
theorem mn_sp {cs:List Csk} {l:List Int} {t:Nat→Int}(hg:∀i,i<cs.length→1≤(cs.getD i ck0).g∧(cs.getD i ck0).g≤99)(hl:InCs cs.length l):
    ∀n,n≤l.length→mnP l t n*galP cs l n≤spiP cs l t n∧spiP cs l t n≤mxP l t n*galP cs l n:=by
  intro n
  induction n with
  |zero=>intro _;simp [galP,spiP]
  | succ n ih=>
    intro hn
    have h:=ih (by omega)
    have ha:=hl.at' n hn
    have hgb:=gal_bd hg hl n (by omega)
    have hg:=hg (l.getD n 0).toNat (by omega)
    simp only [galP,spiP,mnP,mxP]
    generalize (cs.getD (l.getD n 0).toNat ck0).g=g at *
    generalize t (l.getD n 0).toNat=v at *
    rw [Int.mul_add,Int.mul_add]
    have e:g*v=v*g:=Int.mul_comm _ _
    have k1:(if v<mnP l t n then v else mnP l t n)*galP cs l n≤mnP l t n*galP cs l n:=Int.mul_le_mul_of_nonneg_right (by omega) (by omega)
    have k2:(if v<mnP l t n then v else mnP l t n)*g≤v*g:=Int.mul_le_mul_of_nonneg_right (by omega) (by omega)
    have k3:mxP l t n*galP cs l n≤(if v>mxP l t n then v else mxP l t n)*galP cs l n:=Int.mul_le_mul_of_nonneg_right (by omega) (by omega)
    have k4:v*g≤(if v>mxP l t n then v else mxP l t n)*g:=Int.mul_le_mul_of_nonneg_right (by omega) (by omega)
    omega
theorem mixed {cs:List Csk} {l:List Int} {t:Nat→Int}(hg:∀i,i<cs.length→1≤(cs.getD i ck0).g∧(cs.getD i ck0).g≤99)(hl:InCs cs.length l)(h0:0<l.length)(ht:∀j,j<cs.length→0≤t j∧t j≤2000):
    mnP l t l.length≤strP cs l 0 t∧strP cs l 0 t≤mxP l t l.length∧(0≤galP cs l l.length*strP cs l 0 t∧galP cs l l.length*strP cs l 0 t≤200000000) ∧
    (galP cs l l.length*strP cs l 0 t).tdiv 100≤ownP cs l t l.length+l.length-1∧ownP cs l t l.length-(galP cs l l.length+99).tdiv 100≤(galP cs l l.length*strP cs l 0 t).tdiv 100:=by
  have hgb:=gal_bd hg hl l.length (Nat.le_refl _)
  have ho:=own_sp hg hl ht l.length (Nat.le_refl _)
  have hm:=mn_sp (t:=t) hg hl l.length (Nat.le_refl _)
  have hb:=mn_bd hl ht l.length (Nat.le_refl _)
  have hfew:=hl.few
  have hs0:0≤spiP cs l t l.length:=by omega
  have hG:0<galP cs l l.length:=by omega
  have hdef:strP cs l 0 t=spiP cs l t l.length/galP cs l l.length:=by
    unfold strP
    rw [Int.add_zero,Int.tdiv_eq_ediv_of_nonneg hs0]
  have h1:mnP l t l.length≤strP cs l 0 t:=by rw [hdef];exact(Int.le_ediv_iff_mul_le hG).2 hm.1
  have h2:strP cs l 0 t≤mxP l t l.length:=by
    rw [hdef]
    exact Int.ediv_le_of_le_mul hG hm.2
  have hd:=Int.mul_ediv_add_emod (spiP cs l t l.length) (galP cs l l.length)
  have hr0:=Int.emod_nonneg (spiP cs l t l.length) (show galP cs l l.length≠0 by omega)
  have hr1:=Int.emod_lt_of_pos (spiP cs l t l.length) hG
  rw [←hdef]at hd
  generalize strP cs l 0 t=b at *
  have hx0:0≤galP cs l l.length*b:=Int.mul_nonneg (by omega) (by omega)
  rw [Int.tdiv_eq_ediv_of_nonneg hx0,Int.tdiv_eq_ediv_of_nonneg (show(0:Int)≤galP cs l l.length+99 by omega)]
  generalize galP cs l l.length*b=x at *
  omega
end Go.Proofs.Ytkdgpdlfakcgdaa

namespace Go.Proofs.Ytkdgpdlfakcgdaa
open Go Go.Eng Go.Proofs
set_option maxRecDepth 10000
theorem ready41c (tw tm:List Int)(tv:List (List Int))(rate:Int)(cs:List Csk):FSpec Try.prog 41 [(stoS tw tm tv rate cs)] [] (fun r _=>r=(.bool (.sym fun _=>thinS tw tm tv cs&&decide (faultS tw tm tv rate cs=0)&&decide (0<cs.length)))):=by
  have c18:=thin18 tw tm tv rate cs
  have c24:=fault24 tw tm tv rate cs
  refine FSpec.is fun R hR=>qW (sc:=sc41) tyok mix Try.func41 rfl Try.call41 (by kernel_rfl) (by kernel_rfl) ?_
  generalize Try.prog=P at c18 c24⊢
  cbv
  repeat' (first
      |with_reducible refine hold ?_ ?_
      |with_reducible refine And.intro ?_ ?_
      | (with_reducible refine qS ?_ ?_ ?_
         try cbv)
      | (with_reducible refine qT ?_ ?_
         try cbv)
      |(with_reducible intro hcd;(try simp only [zA,zB,zC,zD,zE,zF,zG,zH,zI,zJ,zK,zL,zM,zN,zO,zP]at hcd);try cbv)
      | (refine qP ?_ (c18) ?hfit
         case hfit=>((repeat' (first|exact qB|refine qD ?_ ?_|exact qE (by rfl)|exact qF (by rfl)|exact Fit.refl _|exact qA|refine qC ?_ rfl ?_));done)
         try cbv)
      | (refine qP ?_ (c24) ?hfit
         case hfit=>((repeat' (first|exact qB|refine qD ?_ ?_|exact qE (by rfl)|exact qF (by rfl)|exact Fit.refl _|exact qA|refine qC ?_ rfl ?_));done)
         try cbv)
      |fail)
  all_goals first
    |trivial
    |((try simp only [qV]at *);(try simp only [zQ,zA,zB,zC,zD,zE,zF,zG,zH,zI,zJ,zK,zL,zM,zN,zO,zP,zR,zS]at *);first|(refine qN ?_;omega)|(simp only [Hold];omega))
    |(subst hR;(repeat' (first|exact qA|exact qB|refine qC ?_ rfl ?_|refine qD ?_ ?_|exact qE (by rfl)|exact qF (by rfl)|exact Fit.refl _|exact qG _|(refine qE ?_;(try simp only [qV]at *);simp only [zQ,zA,zB,zC,zD,zE,zF,zG,zH,zI,zJ,zK,zL,zM,zN,zO,zP,zR,zS]at *;omega)));done)
    |(subst hR;(refine qF ?_;(try simp only [qV]at *);(try simp only [zQ,zA,zB,zC,zD,zE,zF,zG,zH,zI,zJ,zK,zL,zM,zN,zO,zP,zR,zS]at *);simp_all<;>omega);done)
    |(simp only [Hold];decide)
    |skip
structure Rdy (tw tm:List Int)(tv:List (List Int))(rate:Int)(cs:List Csk):Prop where
  thin:thinS tw tm tv cs=true
  ok:SOk tw tm tv rate cs
  some:0<cs.length
theorem rdy_or (tw tm:List Int)(tv:List (List Int))(rate:Int)(cs:List Csk):Rdy tw tm tv rate cs∨(thinS tw tm tv cs&&decide (faultS tw tm tv rate cs=0)&&decide (0<cs.length))=false:=by
  by_cases h:(thinS tw tm tv cs&&decide (faultS tw tm tv rate cs=0)&&decide (0<cs.length))=true
  · simp only [Bool.and_eq_true,decide_eq_true_eq]at h
    exact .inl ⟨h.1.1,faultS_iff.1 h.1.2,h.2⟩
  · exact .inr (by simpa using h)
theorem ready41n (tw tm:List Int)(tv:List (List Int))(rate:Int)(cs:List Csk)(h:(thinS tw tm tv cs&&decide (faultS tw tm tv rate cs=0)&&decide (0<cs.length))=false):FSpec Try.prog 41 [(stoS tw tm tv rate cs)] [] (fun r _=>r = .bool (.lit false)):=
  (ready41c tw tm tv rate cs).post fun r bs e=>⟨_,by subst e;exact qF h,rfl⟩
theorem ready41y (tw tm:List Int)(tv:List (List Int))(rate:Int)(cs:List Csk)(h:Rdy tw tm tv rate cs):FSpec Try.prog 41 [(stoS tw tm tv rate cs)] [] (fun r _=>r = .bool (.lit true)):=
  (ready41c tw tm tv rate cs).post fun r bs e=>⟨_,by subst e;refine qF ?_;show(thinS tw tm tv cs&&decide (faultS tw tm tv rate cs=0)&&decide (0<cs.length))=true;simp [h.thin,faultS_iff.2 h.ok,h.some],rfl⟩
theorem picked42w (tw tm:List Int)(tv:List (List Int))(rate:Int)(cs:List Csk)(ws:List Int)(hS:SOk tw tm tv rate cs)(hws:∀i,0≤ws.getD i 0∧ws.getD i 0≤65535)(hwl:ws.length≤9223372036854775807):FSpec Try.prog 42 [(stoS tw tm tv rate cs),(.sl 1 (.sym fun _=>zi ws.length) (fun ix=>[.int .u16 (.sym fun _=>ws.getD ix.den.toNat 0)]))] [] (fun r _=>r=(.sl 1 (.sym fun _=>zi cs.length) (fun ix=>[(.int .i64 (.sym fun _=>pickT ws (fun j=>sLo tw tm tv (cs.getD j ck0)) (fun j=>sHi tw tm tv (cs.getD j ck0)) ix.den.toNat))]))):=by
  have c49:=strengths49 tw tm tv rate cs hS
  refine FSpec.is fun R hR=>qW (sc:=sc42) tyok mix Try.func42 rfl Try.call42 (by kernel_rfl) (by kernel_rfl) ?_
  generalize Try.prog=P at c49⊢
  cbv
  repeat' (first
      |with_reducible refine hold ?_ ?_
      |with_reducible refine And.intro ?_ ?_
      | (with_reducible refine qS ?_ ?_ ?_
         try cbv)
      | (with_reducible refine qT ?_ ?_
         try cbv)
      |(with_reducible intro hcd;(try simp only [zA,zB,zC,zD,zE,zF,zG,zH,zI,zJ,zK,zL,zM,zN,zO,zP]at hcd);try cbv)
      | (refine qP ?_ (c49) ?hfit
         case hfit=>((repeat' (first|exact qB|refine qD ?_ ?_|exact qE (by rfl)|exact qF (by rfl)|exact Fit.refl _|exact qA|refine qC ?_ rfl ?_));done)
         try cbv)
      |fail)
  all_goals first
    |trivial
    |((try simp only [qV]at *);(try simp only [zQ,zA,zB,zC,zD,zE,zF,zG,zH,zI,zJ,zK,zL,zM,zN,zO,zP,zR,zS]at *);first|(refine qN ?_;omega)|(simp only [Hold];omega))
    |(simp only [Hold];decide)
    |skip
  refine⟨none,[⟨.tmp 6,3,1⟩],{i:Nat // i≤cs.length},fun x=>⟨[(1,(.sl 1 (.sym fun _=>zi ws.length) (fun ix=>[.int .u16 (.sym fun _=>ws.getD ix.den.toNat 0)]))),(2,.own 0 0),(5,(knoS tw tm tv cs)),(6,.row 7),(7,(.int .i64 (.sym fun _=>zi x.1)))],[(0,.cells [(.sl 1 (.sym fun _=>zi (tw).length) (fun ix=>[.int .i64 (.sym fun _=>(tw).getD ix.den.toNat 0)])),(.sl 1 (.sym fun _=>zi (tm).length) (fun ix=>[.int .i64 (.sym fun _=>(tm).getD ix.den.toNat 0)])),(.sl 1 (.sym fun _=>zi (tv).length) (fun ix=>[(.sl 1 (.sym fun _=>zi ((tv).getD ix.den.toNat []).length) (fun jx=>[.int .i64 (.sym fun _=>((tv).getD ix.den.toNat []).getD jx.den.toNat 0)]))])),(.int .i64 (.sym fun _=>rate)),(.sl 5 (.sym fun _=>zi (cs).length) (fun ix=>[(.int .i64 (.sym fun _=>((cs).getD ix.den.toNat ck0).g)),(.int .i64 (.sym fun _=>((cs).getD ix.den.toNat ck0).wl)),(.int .i64 (.sym fun _=>((cs).getD ix.den.toNat ck0).wh)),(.int .i64 (.sym fun _=>((cs).getD ix.den.toNat ck0).ml)),(.int .i64 (.sym fun _=>((cs).getD ix.den.toNat ck0).mh))]))] 28),(7,.row 3 1 (.sym fun _=>zi x.1) (fun ix=>[(.int .i64 (.sym fun _=>pickT ws (fun j=>sLo tw tm tv (cs.getD j ck0)) (fun j=>sHi tw tm tv (cs.getD j ck0)) ix.den.toNat))]))],60⟩,fun x=>cs.length-x.1,?_,?_⟩
  · refine⟨⟨0,by omega⟩,?_⟩
    cbv
    repeat' (first
      |with_reducible refine hold ?_ ?_
      |with_reducible refine And.intro ?_ ?_)
    all_goals first
      |trivial
      |exact qM (qE (by rfl))
      |exact qM (qF (by rfl))
      |exact qM (Fit.refl _)
      |exact qL (qK _)
      |(refine qM (qE ?_);(try simp only [qV]at *);simp only [zQ,zA,zB,zC,zD,zE,zF,zG,zH,zI,zJ,zK,zL,zM,zN,zO,zP,zR,zS]at *;omega)
      |(refine qL (ble_row ?_ ?_);(first|rfl|((try simp only [qV]at *);(try simp only [zQ,zA,zB,zC,zD,zE,zF,zG,zH,zI,zJ,zK,zL,zM,zN,zO,zP,zR,zS]at *);omega));intro ix h0 h1;first|exact Fit.refl _|(exfalso;(try simp only [qV]at *);(try simp only [zQ,zA,zB,zC,zD,zE,zF,zG,zH,zI,zJ,zK,zL,zM,zN,zO,zP,zR,zS]at *);omega))
      |skip
  · rintro ⟨i, hi2⟩
    cbv
    all_goals (try have hfew:=hS.few)
    by_cases hlt:i<cs.length
    · have hsb :=s_bd hS.t (hS.box i hlt)
      by_cases hw0:ws.length=0
      · repeat' (first
            |with_reducible refine hold ?_ ?_
            |with_reducible refine And.intro ?_ ?_
            | (with_reducible refine qS ?_ ?_ ?_
               try cbv)
            | (with_reducible refine qT ?_ ?_
               try cbv)
            |(with_reducible intro hcd;(try simp only [zA,zB,zC,zD,zE,zF,zG,zH,zI,zJ,zK,zL,zM,zN,zO,zP]at hcd);try cbv)
            | (fail_if_success (exfalso;(try simp only [qV]at *);(try simp only [zQ,zA,zB,zC,zD,zE,zF,zG,zH,zI,zJ,zK,zL,zM,zN,zO,zP,zR,zS]at *);omega)
               refine⟨fun ix=>[(.int .i64 (.sym fun _=>pickT ws (fun j=>sLo tw tm tv (cs.getD j ck0)) (fun j=>sHi tw tm tv (cs.getD j ck0)) ix.den.toNat))],?_⟩
               cbv
               refine hold (hold_rowapp (by intro ix jx h0 h1 h2;simp only [h2];exact Fit.refl _) (by intro ix jx h0 h1 h2;(have h3:jx.den.toNat=i:=by((try simp only [qV]at *);(try simp only [zQ,zA,zB,zC,zD,zE,zF,zG,zH,zI,zJ,zK,zL,zM,zN,zO,zP,zR,zS]at *);omega));simp only [h3];refine qC (qE ?_) rfl qA;simp only [pickT];(try simp only [qV]at *);(try simp only [zQ,zA,zB,zC,zD,zE,zF,zG,zH,zI,zJ,zK,zL,zM,zN,zO,zP,zR,zS]at *);rw [if_pos hw0]) (by(try simp only [qV]at *);(try simp only [zQ,zA,zB,zC,zD,zE,zF,zG,zH,zI,zJ,zK,zL,zM,zN,zO,zP,zR,zS]at *);omega)) (Or.inl ?_)
               try cbv)
            |fail)
        all_goals first
          |trivial
          |((try simp only [qV]at *);(try simp only [zQ,zA,zB,zC,zD,zE,zF,zG,zH,zI,zJ,zK,zL,zM,zN,zO,zP,zR,zS]at *);first|(refine qN ?_;omega)|(simp only [Hold];omega))
          |(subst hR;(have hie:i=cs.length:=by((try simp only [qV]at *);(try simp only [zQ,zA,zB,zC,zD,zE,zF,zG,zH,zI,zJ,zK,zL,zM,zN,zO,zP,zR,zS]at *);omega));subst hie;(repeat' (first|exact qA|exact Fit.refl _|exact qE (by rfl)|refine qC ?_ rfl ?_));done;done)
          |((try simp only [qV]at *);(try simp only [zQ,zA,zB,zC,zD,zE,zF,zG,zH,zI,zJ,zK,zL,zM,zN,zO,zP,zR,zS]at *);first|(refine hold_u64 ?_;omega)|(refine qN ?_;omega))
          |(exfalso;(try simp only [qV]at *);(try simp only [zQ,zA,zB,zC,zD,zE,zF,zG,zH,zI,zJ,zK,zL,zM,zN,zO,zP,zR,zS]at *);omega)
          |((have hq:=tmod_bd2 (a:=(i:Int)) (b:=(ws.length:Int)) (by omega) (by omega));(have hv:=hws ((i:Int).tmod (ws.length:Int)).toNat);(try simp only [qV]at *);(try simp only [zQ,zA,zB,zC,zD,zE,zF,zG,zH,zI,zJ,zK,zL,zM,zN,zO,zP,zR,zS]at *);first|(refine qN ?_;omega)|(simp only [Hold];omega))
          |((have hq:=tmod_bd2 (a:=(i:Int)) (b:=(ws.length:Int)) (by omega) (by omega));(have hv:=hws ((i:Int).tmod (ws.length:Int)).toNat);(have hr2:=tmod_bd2 (a:=ws.getD ((i:Int).tmod (ws.length:Int)).toNat 0) (b:=sHi tw tm tv (cs.getD i ck0)-sLo tw tm tv (cs.getD i ck0)+1) (by omega) (by omega));(try simp only [qV]at *);(try simp only [zQ,zA,zB,zC,zD,zE,zF,zG,zH,zI,zJ,zK,zL,zM,zN,zO,zP,zR,zS]at *);first|(refine qN ?_;omega)|(simp only [Hold];omega))
          |((try simp only [zQ,zA,zB,zC,zD,zE,zF,zG,zH,zI,zJ,zK,zL,zM,zN,zO,zP,zR,zS]at *);refine⟨⟨i+1,by((try simp only [qV]at *);(try simp only [zQ,zA,zB,zC,zD,zE,zF,zG,zH,zI,zJ,zK,zL,zM,zN,zO,zP,zR,zS]at *);omega)⟩,by simp only [];omega,?_⟩;cbv;(repeat' (first|with_reducible refine hold ?_ ?_|with_reducible refine And.intro ?_ ?_));(all_goals first|trivial|exact qM (qE (by rfl))|exact qM (qF (by rfl))|exact qM (Fit.refl _)|exact qL (qK _)|(refine qM (qE ?_);(try simp only [qV]at *);simp only [zQ,zA,zB,zC,zD,zE,zF,zG,zH,zI,zJ,zK,zL,zM,zN,zO,zP,zR,zS]at *;omega)|(refine qL (ble_row ?_ ?_);(first|rfl|((try simp only [qV]at *);(try simp only [zQ,zA,zB,zC,zD,zE,zF,zG,zH,zI,zJ,zK,zL,zM,zN,zO,zP,zR,zS]at *);omega));intro ix h0 h1;first|exact Fit.refl _|(exfalso;(try simp only [qV]at *);(try simp only [zQ,zA,zB,zC,zD,zE,zF,zG,zH,zI,zJ,zK,zL,zM,zN,zO,zP,zR,zS]at *);omega))|skip))
          |(simp only [Hold];decide)
          |skip
      · repeat' (first
            |with_reducible refine hold ?_ ?_
            |with_reducible refine And.intro ?_ ?_
            | (with_reducible refine qS ?_ ?_ ?_
               try cbv)
            | (with_reducible refine qT ?_ ?_
               try cbv)
            |(with_reducible intro hcd;(try simp only [zA,zB,zC,zD,zE,zF,zG,zH,zI,zJ,zK,zL,zM,zN,zO,zP]at hcd);try cbv)
            | (fail_if_success (exfalso;(try simp only [qV]at *);(try simp only [zQ,zA,zB,zC,zD,zE,zF,zG,zH,zI,zJ,zK,zL,zM,zN,zO,zP,zR,zS]at *);omega)
               refine⟨fun ix=>[(.int .i64 (.sym fun _=>pickT ws (fun j=>sLo tw tm tv (cs.getD j ck0)) (fun j=>sHi tw tm tv (cs.getD j ck0)) ix.den.toNat))],?_⟩
               cbv
               refine hold (hold_rowapp (by intro ix jx h0 h1 h2;simp only [h2];exact Fit.refl _) (by intro ix jx h0 h1 h2;(have h3:jx.den.toNat=i:=by((try simp only [qV]at *);(try simp only [zQ,zA,zB,zC,zD,zE,zF,zG,zH,zI,zJ,zK,zL,zM,zN,zO,zP,zR,zS]at *);omega));simp only [h3];refine qC (qE ?_) rfl qA;simp only [pickT];(try simp only [qV]at *);(try simp only [zQ,zA,zB,zC,zD,zE,zF,zG,zH,zI,zJ,zK,zL,zM,zN,zO,zP,zR,zS]at *);rw [if_neg hw0]) (by(try simp only [qV]at *);(try simp only [zQ,zA,zB,zC,zD,zE,zF,zG,zH,zI,zJ,zK,zL,zM,zN,zO,zP,zR,zS]at *);omega)) (Or.inl ?_)
               try cbv)
            |fail)
        all_goals first
          |trivial
          |((try simp only [qV]at *);(try simp only [zQ,zA,zB,zC,zD,zE,zF,zG,zH,zI,zJ,zK,zL,zM,zN,zO,zP,zR,zS]at *);first|(refine qN ?_;omega)|(simp only [Hold];omega))
          |(subst hR;(have hie:i=cs.length:=by((try simp only [qV]at *);(try simp only [zQ,zA,zB,zC,zD,zE,zF,zG,zH,zI,zJ,zK,zL,zM,zN,zO,zP,zR,zS]at *);omega));subst hie;(repeat' (first|exact qA|exact Fit.refl _|exact qE (by rfl)|refine qC ?_ rfl ?_));done;done)
          |((try simp only [qV]at *);(try simp only [zQ,zA,zB,zC,zD,zE,zF,zG,zH,zI,zJ,zK,zL,zM,zN,zO,zP,zR,zS]at *);first|(refine hold_u64 ?_;omega)|(refine qN ?_;omega))
          |(exfalso;(try simp only [qV]at *);(try simp only [zQ,zA,zB,zC,zD,zE,zF,zG,zH,zI,zJ,zK,zL,zM,zN,zO,zP,zR,zS]at *);omega)
          |((have hq:=tmod_bd2 (a:=(i:Int)) (b:=(ws.length:Int)) (by omega) (by omega));(have hv:=hws ((i:Int).tmod (ws.length:Int)).toNat);(try simp only [qV]at *);(try simp only [zQ,zA,zB,zC,zD,zE,zF,zG,zH,zI,zJ,zK,zL,zM,zN,zO,zP,zR,zS]at *);first|(refine qN ?_;omega)|(simp only [Hold];omega))
          |((have hq:=tmod_bd2 (a:=(i:Int)) (b:=(ws.length:Int)) (by omega) (by omega));(have hv:=hws ((i:Int).tmod (ws.length:Int)).toNat);(have hr2:=tmod_bd2 (a:=ws.getD ((i:Int).tmod (ws.length:Int)).toNat 0) (b:=sHi tw tm tv (cs.getD i ck0)-sLo tw tm tv (cs.getD i ck0)+1) (by omega) (by omega));(try simp only [qV]at *);(try simp only [zQ,zA,zB,zC,zD,zE,zF,zG,zH,zI,zJ,zK,zL,zM,zN,zO,zP,zR,zS]at *);first|(refine qN ?_;omega)|(simp only [Hold];omega))
          |((try simp only [zQ,zA,zB,zC,zD,zE,zF,zG,zH,zI,zJ,zK,zL,zM,zN,zO,zP,zR,zS]at *);refine⟨⟨i+1,by((try simp only [qV]at *);(try simp only [zQ,zA,zB,zC,zD,zE,zF,zG,zH,zI,zJ,zK,zL,zM,zN,zO,zP,zR,zS]at *);omega)⟩,by simp only [];omega,?_⟩;cbv;(repeat' (first|with_reducible refine hold ?_ ?_|with_reducible refine And.intro ?_ ?_));(all_goals first|trivial|exact qM (qE (by rfl))|exact qM (qF (by rfl))|exact qM (Fit.refl _)|exact qL (qK _)|(refine qM (qE ?_);(try simp only [qV]at *);simp only [zQ,zA,zB,zC,zD,zE,zF,zG,zH,zI,zJ,zK,zL,zM,zN,zO,zP,zR,zS]at *;omega)|(refine qL (ble_row ?_ ?_);(first|rfl|((try simp only [qV]at *);(try simp only [zQ,zA,zB,zC,zD,zE,zF,zG,zH,zI,zJ,zK,zL,zM,zN,zO,zP,zR,zS]at *);omega));intro ix h0 h1;first|exact Fit.refl _|(exfalso;(try simp only [qV]at *);(try simp only [zQ,zA,zB,zC,zD,zE,zF,zG,zH,zI,zJ,zK,zL,zM,zN,zO,zP,zR,zS]at *);omega))|skip))
          |(simp only [Hold];decide)
          |skip
    · repeat' (first
          |with_reducible refine hold ?_ ?_
          |with_reducible refine And.intro ?_ ?_
          | (with_reducible refine qS ?_ ?_ ?_
             try cbv)
          | (with_reducible refine qT ?_ ?_
             try cbv)
          |(with_reducible intro hcd;(try simp only [zA,zB,zC,zD,zE,zF,zG,zH,zI,zJ,zK,zL,zM,zN,zO,zP]at hcd);try cbv)
          |fail)
      all_goals first
        |trivial
        |((try simp only [qV]at *);(try simp only [zQ,zA,zB,zC,zD,zE,zF,zG,zH,zI,zJ,zK,zL,zM,zN,zO,zP,zR,zS]at *);first|(refine qN ?_;omega)|(simp only [Hold];omega))
        |(subst hR;(have hie:i=cs.length:=by((try simp only [qV]at *);(try simp only [zQ,zA,zB,zC,zD,zE,zF,zG,zH,zI,zJ,zK,zL,zM,zN,zO,zP,zR,zS]at *);omega));subst hie;(repeat' (first|exact qA|exact Fit.refl _|exact qE (by rfl)|refine qC ?_ rfl ?_));done;done)
        |((try simp only [qV]at *);(try simp only [zQ,zA,zB,zC,zD,zE,zF,zG,zH,zI,zJ,zK,zL,zM,zN,zO,zP,zR,zS]at *);first|(refine hold_u64 ?_;omega)|(refine qN ?_;omega))
        |(exfalso;(try simp only [qV]at *);(try simp only [zQ,zA,zB,zC,zD,zE,zF,zG,zH,zI,zJ,zK,zL,zM,zN,zO,zP,zR,zS]at *);omega)
        |((have hq:=tmod_bd2 (a:=(i:Int)) (b:=(ws.length:Int)) (by omega) (by omega));(have hv:=hws ((i:Int).tmod (ws.length:Int)).toNat);(try simp only [qV]at *);(try simp only [zQ,zA,zB,zC,zD,zE,zF,zG,zH,zI,zJ,zK,zL,zM,zN,zO,zP,zR,zS]at *);first|(refine qN ?_;omega)|(simp only [Hold];omega))
        |((have hq:=tmod_bd2 (a:=(i:Int)) (b:=(ws.length:Int)) (by omega) (by omega));(have hv:=hws ((i:Int).tmod (ws.length:Int)).toNat);(have hr2:=tmod_bd2 (a:=ws.getD ((i:Int).tmod (ws.length:Int)).toNat 0) (b:=sHi tw tm tv (cs.getD i ck0)-sLo tw tm tv (cs.getD i ck0)+1) (by omega) (by omega));(try simp only [qV]at *);(try simp only [zQ,zA,zB,zC,zD,zE,zF,zG,zH,zI,zJ,zK,zL,zM,zN,zO,zP,zR,zS]at *);first|(refine qN ?_;omega)|(simp only [Hold];omega))
        |((try simp only [zQ,zA,zB,zC,zD,zE,zF,zG,zH,zI,zJ,zK,zL,zM,zN,zO,zP,zR,zS]at *);refine⟨⟨i+1,by((try simp only [qV]at *);(try simp only [zQ,zA,zB,zC,zD,zE,zF,zG,zH,zI,zJ,zK,zL,zM,zN,zO,zP,zR,zS]at *);omega)⟩,by simp only [];omega,?_⟩;cbv;(repeat' (first|with_reducible refine hold ?_ ?_|with_reducible refine And.intro ?_ ?_));(all_goals first|trivial|exact qM (qE (by rfl))|exact qM (qF (by rfl))|exact qM (Fit.refl _)|exact qL (qK _)|(refine qM (qE ?_);(try simp only [qV]at *);simp only [zQ,zA,zB,zC,zD,zE,zF,zG,zH,zI,zJ,zK,zL,zM,zN,zO,zP,zR,zS]at *;omega)|(refine qL (ble_row ?_ ?_);(first|rfl|((try simp only [qV]at *);(try simp only [zQ,zA,zB,zC,zD,zE,zF,zG,zH,zI,zJ,zK,zL,zM,zN,zO,zP,zR,zS]at *);omega));intro ix h0 h1;first|exact Fit.refl _|(exfalso;(try simp only [qV]at *);(try simp only [zQ,zA,zB,zC,zD,zE,zF,zG,zH,zI,zJ,zK,zL,zM,zN,zO,zP,zR,zS]at *);omega))|skip))
        |(simp only [Hold];decide)
        |skip
theorem picked42l (tw tm:List Int)(tv:List (List Int))(rate:Int)(cs:List Csk)(ws:List Int)(hS:SOk tw tm tv rate cs)(hws:∀i,0≤ws.getD i 0∧ws.getD i 0≤65535)(hwl:ws.length≤9223372036854775807):FSpec Try.prog 42 [(stoS tw tm tv rate cs),(.sl 1 (.sym fun _=>zi ws.length) (fun ix=>[.int .u16 (.sym fun _=>ws.getD ix.den.toNat 0)]))] [] (fun r _=>r=(.sl 1 (.sym fun _=>zi (pickL tw tm tv cs ws).length) (fun ix=>[.int .i64 (.sym fun _=>(pickL tw tm tv cs ws).getD ix.den.toNat 0)]))):=
  (picked42w tw tm tv rate cs ws hS hws hwl).post fun r bs e=>⟨_,by subst e;exact fit_fn,rfl⟩
theorem duty44z (tw tm:List Int)(tv:List (List Int))(rate:Int)(cs:List Csk)(t:List Int)(hS:SOk tw tm tv rate cs)(hT:truthB tw tm tv cs t=true):FSpec Try.prog 44 [(stoS tw tm tv rate cs),(.sl 1 (.sym fun _=>zi (t).length) (fun ix=>[.int .i64 (.sym fun _=>(t).getD ix.den.toNat 0)]))] [] (fun r _=>r=(.tup [(.int .i64 (.sym fun _=>dutyP rate cs (fun j=>t.getD j 0) cs.length)),(.int .i64 (.lit 0))])):=
  (duty44 tw tm tv rate cs t hS hT).post fun r bs e=>⟨_,by subst e;(have hlen:=(truth_iff.1 hT).1);(try rw [hlen]);(repeat' (first|exact qA|exact qB|refine qC ?_ rfl ?_|refine qD ?_ ?_|exact qE (by rfl)|exact qF (by rfl)|exact Fit.refl _)),rfl⟩
theorem duties22z (tw tm:List Int)(tv:List (List Int))(rate:Int)(cs:List Csk)(hS:SOk tw tm tv rate cs):FSpec Try.prog 22 [(stoS tw tm tv rate cs)] [] (fun r _=>r=(.tup [(.agg [(.int .i64 (.sym fun _=>dutyP rate cs (loA tw tm tv cs cs.length) cs.length)),(.int .i64 (.sym fun _=>dutyP rate cs (hiA tw tm tv cs cs.length) cs.length))]),(.int .i64 (.lit 0))])):=
  (duties22 tw tm tv rate cs hS).post fun r bs e=>⟨_,by subst e;(repeat' (first|exact qA|exact qB|refine qC ?_ rfl ?_|refine qD ?_ ?_|exact qE (by rfl)|exact qF (by rfl)|exact Fit.refl _)),rfl⟩
theorem blend27z (tw tm:List Int)(tv:List (List Int))(rate:Int)(cs:List Csk)(l:List Int)(water:Int)(hS:SOk tw tm tv rate cs)(hll:l.length≤1000)(hb:blendB cs.length l=true)(hw:0≤water∧water≤99):FSpec Try.prog 27 [(stoS tw tm tv rate cs),(.sl 1 (.sym fun _=>zi (l).length) (fun ix=>[.int .i64 (.sym fun _=>(l).getD ix.den.toNat 0)])),(.int .i64 (.sym fun _=>water))] [] (fun r _=>r=(.tup [(.agg [(.int .i64 (.sym fun _=>strP cs l water (fun j=>sLo tw tm tv (cs.getD j ck0)))),(.int .i64 (.sym fun _=>strP cs l water (fun j=>sHi tw tm tv (cs.getD j ck0))))]),(.int .i64 (.lit 0))])):=
  (blend27 tw tm tv rate cs l water hS hll hb hw).post fun r bs e=>⟨_,by subst e;(repeat' (first|exact qA|exact qB|refine qC ?_ rfl ?_|refine qD ?_ ?_|exact qE (by rfl)|exact qF (by rfl)|exact Fit.refl _)),rfl⟩
theorem tenths45z (tw tm:List Int)(tv:List (List Int))(rate:Int)(cs:List Csk)(t:List Int)(hS:SOk tw tm tv rate cs)(hT:truthB tw tm tv cs t=true):FSpec Try.prog 45 [(stoS tw tm tv rate cs),(.sl 1 (.sym fun _=>zi (t).length) (fun ix=>[.int .i64 (.sym fun _=>(t).getD ix.den.toNat 0)]))] [] (fun r _=>r=(.tup [(.sl 1 (.sym fun _=>zi cs.length) (fun ix=>[(.int .i64 (.sym fun _=>tenthsP (cs.getD ix.den.toNat ck0).g (t.getD ix.den.toNat 0)))])),(.int .i64 (.lit 0))])):=
  (tenths45 tw tm tv rate cs t hS hT).post fun r bs e=>⟨_,by subst e;(repeat' (first|exact qA|exact qB|refine qC ?_ rfl ?_|refine qD ?_ ?_|exact qE (by rfl)|exact qF (by rfl)|exact Fit.refl _)),rfl⟩
theorem strengths51z (tw tm:List Int)(tv:List (List Int))(rate:Int)(cs:List Csk)(hS:SOk tw tm tv rate cs):FSpec Try.prog 51 [(stoS tw tm tv rate cs)] [] (fun r _=>r=(.tup [(knoS tw tm tv cs),(.int .i64 (.lit 0))])):=
  (strengths51 tw tm tv rate cs hS).post fun r bs e=>⟨_,by subst e;(repeat' (first|exact qA|exact qB|refine qC ?_ rfl ?_|refine qD ?_ ?_|exact qE (by rfl)|exact qF (by rfl)|exact Fit.refl _)),rfl⟩
end Go.Proofs.Ytkdgpdlfakcgdaa

namespace Go.Proofs.Ytkdgpdlfakcgdaa
open Go Go.Eng Go.Proofs
theorem hold_rowupd {n ix:Int} {o2:Nat} {e e':IX→List SV} {x:List SV}(h0:ix<n)(h1:∀jx:IX,0≤jx.den→jx.den<n→jx.den≠ix→Fit (.agg (e jx)) (.agg (e' jx)))
    (h2:∀jx:IX,0≤jx.den→jx.den<n→jx.den=ix→∃l,putC (e jx) o2 x=some l∧Fit (.agg l) (.agg (e' jx))):Hold (ix<n∧RowUpd n e ix o2 x e'):=
  ⟨h0,fun jx a b c=>(h1 jx a b c).le,fun jx a b c=>by obtain⟨l,p,q⟩:=h2 jx a b c;exact⟨l,p,q.le⟩⟩
theorem setl_k {P:Program} {f:FuncId} {args args':List SV} {K:SV→Prop} {R:SV}(h:K R)(hF:FSpec P f args' [] fun r _=>r=R)(ha:Fit (.tup args) (.tup args')):
    ∃post:SV→Prop,FSpec P f args [] (fun r _=>post r)∧∀r,post r→K r:=⟨fun r=>r=R,hF.pre ha,fun r hr=>hr▸h⟩
end Go.Proofs.Ytkdgpdlfakcgdaa

namespace Go.Proofs.Ytkdgpdlfakcgdaa
open Go Go.Eng Go.Proofs
theorem can_true {cs:List Csk} {lo hi:Nat→Int} {k:Nat} {s d:Int}(hk:k<cs.length)(h:lo k≤s∧s≤hi k)(hd:d=tenthsP (cs.getD k ck0).g s):canB cs lo hi cs.length [(k:Int),d]=true:=by
  unfold canB hasT
  simp only [List.getD_cons_zero,List.getD_cons_succ,Int.toNat_natCast,Bool.and_eq_true,decide_eq_true_eq,List.any_eq_true,List.mem_range]
  exact⟨by omega,(s-lo k).toNat,by omega,by rw [hd,show lo k+((s-lo k).toNat:Int)=s by omega]⟩
theorem can_lo {cs:List Csk} {lo hi:Nat→Int} {k:Nat} {d:Int}(hg:0≤(cs.getD k ck0).g)(h0:0≤lo k)(hd:d<tenthsP (cs.getD k ck0).g (lo k)):canB cs lo hi cs.length [(k:Int),d]=false:=by
  rw [Bool.eq_false_iff]
  unfold canB hasT
  simp only [List.getD_cons_zero,List.getD_cons_succ,Int.toNat_natCast,ne_eq,Bool.and_eq_true,decide_eq_true_eq,List.any_eq_true,List.mem_range,not_and,not_exists]
  intro _ j _ e
  have:=tenths_mono hg h0 (show lo k≤lo k+(j:Int) by omega)
  omega
theorem can_hi {cs:List Csk} {lo hi:Nat→Int} {k:Nat} {d:Int}(hg:0≤(cs.getD k ck0).g)(h0:0≤lo k)(hd:tenthsP (cs.getD k ck0).g (hi k)<d):canB cs lo hi cs.length [(k:Int),d]=false:=by
  rw [Bool.eq_false_iff]
  unfold canB hasT
  simp only [List.getD_cons_zero,List.getD_cons_succ,Int.toNat_natCast,ne_eq,Bool.and_eq_true,decide_eq_true_eq,List.any_eq_true,List.mem_range,not_and,not_exists]
  intro _ j hj e
  have:=tenths_mono hg (show 0≤lo k+(j:Int) by omega) (show lo k+(j:Int)≤hi k by omega)
  omega
def decD (cs:List Csk)(t:List Int)(k:Nat)(a b y:Int):List (Int×Int):=
  (List.range cs.length).map (fun (i:Nat)=>((i:Int),tenthsP (cs.getD i ck0).g (t.getD i 0)))++[((k:Int),a),((k:Int),b),((k:Int),a-1-y),((k:Int),b+1+y)]
theorem decD_len {cs:List Csk} {t:List Int} {k:Nat} {a b y:Int}:(decD cs t k a b y).length=cs.length+4:=by simp [decD]
theorem decD_get {cs:List Csk} {t:List Int} {k:Nat} {a b y:Int} {i:Nat}(hi:i<cs.length):(decD cs t k a b y).getD i (0,0)=((i:Int),tenthsP (cs.getD i ck0).g (t.getD i 0)):=by
  unfold decD
  rw [List.getD_eq_getElem?_getD,List.getElem?_append_left (by simpa using hi),List.getElem?_map,List.getElem?_range hi];rfl
theorem decD_end {cs:List Csk} {t:List Int} {k:Nat} {a b y:Int}(j:Nat):(decD cs t k a b y).getD (cs.length+j) (0,0)=[((k:Int),a),((k:Int),b),((k:Int),a-1-y),((k:Int),b+1+y)].getD j (0,0):=by
  unfold decD
  rw [List.getD_eq_getElem?_getD,List.getElem?_append_right (by simp),List.getD_eq_getElem?_getD]
  simp
theorem decD_ok {cs:List Csk} {t:List Int} {k:Nat} {a b y:Int}(hk:k<cs.length):decB cs.length (decD cs t k a b y)=true:=by
  refine dec_iff.2 fun i hi=> ?_
  rw [decD_len]at hi
  by_cases h:i<cs.length
  · rw [decD_get h];simp only;omega
  · obtain⟨j,rfl⟩:∃j,i=cs.length+j:=⟨i-cs.length,by omega⟩
    rw [decD_end]
    match j,(show j<4 by omega)with
    |0,_=>simp;omega
    |1,_=>simp;omega
    |2,_=>simp;omega
    |3,_=>simp;omega
theorem declared {cs:List Csk} {lo hi:Nat→Int} {t:List Int} {k:Nat} {a b y:Int}(hg:∀i,i<cs.length→0≤(cs.getD i ck0).g)(hb:∀i,i<cs.length→0≤lo i∧lo i≤hi i)(ht:∀i,i<cs.length→lo i≤t.getD i 0∧t.getD i 0≤hi i)
    (hk:k<cs.length) (ha:a=tenthsP (cs.getD k ck0).g (lo k)) (hbb:b=tenthsP (cs.getD k ck0).g (hi k)) (hy:0≤y):
    falL (canB cs lo hi cs.length) (decD cs t k a b y) (decD cs t k a b y).length=[((cs.length+2:Nat):Int),((cs.length+3:Nat):Int)]:=by
  have h0:∀n,n≤cs.length→falL (canB cs lo hi cs.length) (decD cs t k a b y) n=[]:=by
    intro n
    induction n with
    |zero=>intro _;rfl
    | succ n ih=>
      intro hn
      rw [falL_y (by rw [decD_get (show n<cs.length by omega)];exact can_true (by omega) (ht n (by omega)) rfl)]
      exact ih (by omega)
  rw [decD_len]
  rw [show cs.length+4=cs.length+3+1 from rfl,falL_n (by rw [decD_end 3];show canB _ _ _ _ [(k:Int),b+1+y]=false;exact can_hi (hg k hk) (hb k hk).1 (by omega))]
  rw [show cs.length+3=cs.length+2+1 from rfl,falL_n (by rw [decD_end 2];show canB _ _ _ _ [(k:Int),a-1-y]=false;exact can_lo (hg k hk) (hb k hk).1 (by omega))]
  rw [show cs.length+2=cs.length+1+1 from rfl,falL_y (by rw [decD_end 1];exact can_true hk ⟨(hb k hk).2,Int.le_refl _⟩ hbb)]
  rw [falL_y (by have:=decD_end (cs:=cs) (t:=t) (k:=k) (a:=a) (b:=b) (y:=y) 0;rw [Nat.add_zero]at this;rw [this];exact can_true hk ⟨Int.le_refl _,(hb k hk).2⟩ ha)]
  rw [h0 _ (Nat.le_refl _)]
  rfl
end Go.Proofs.Ytkdgpdlfakcgdaa
