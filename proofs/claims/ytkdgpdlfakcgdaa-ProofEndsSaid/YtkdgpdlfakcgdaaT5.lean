/- Contracts of the functions that the laws come to. No condition. -/
import Derived.Test.YtkdgpdlfakcgdaaT4
set_option linter.unusedVariables false
set_option linter.unusedSimpArgs false
set_option linter.deprecated false

namespace Go.Proofs.Ytkdgpdlfakcgdaa
open Go Go.Eng Go.Proofs
set_option maxRecDepth 10000
theorem gallons77 (tw tm:List Int)(tv:List (List Int))(rate:Int)(cs:List Csk)(l:List Int)(hg:∀i,i<cs.length→1≤(cs.getD i ck0).g∧(cs.getD i ck0).g≤99)(hl:InCs cs.length l):FSpec Try.prog 77 [(stoS tw tm tv rate cs),(.sl 1 (.sym fun _=>zi (l).length) (fun ix=>[.int .i64 (.sym fun _=>(l).getD ix.den.toNat 0)]))] [] (fun r _=>r=(.int .i64 (.sym fun _=>galP cs l l.length))):=by
  refine FSpec.is fun R hR=>qW (sc:=sc77) tyok mix Try.func77 rfl Try.call77 (by kernel_rfl) (by kernel_rfl) ?_
  generalize Try.prog=P
  cbv
  repeat' (first
      |with_reducible refine hold ?_ ?_
      |with_reducible refine And.intro ?_ ?_
      | (with_reducible refine qS ?_ ?_ ?_
         try cbv)
      | (with_reducible refine qT ?_ ?_
         try cbv)
      |(with_reducible intro hcd;(try simp only [zA,zB,zC,zD,zE,zF,zG,zH,zI,zJ,zK,zL,zM,zN,zO,zP]at hcd);try cbv)
      |fail)
  all_goals first
    |trivial
    |((try simp only [qV]at *);(try simp only [zQ,zA,zB,zC,zD,zE,zF,zG,zH,zI,zJ,zK,zL,zM,zN,zO,zP,zR,zS]at *);first|(refine qN ?_;omega)|(simp only [Hold];omega))
    |skip
  refine⟨none,[],{i:Nat // i≤l.length},fun x=>⟨[(1,(.sl 1 (.sym fun _=>zi (l).length) (fun ix=>[.int .i64 (.sym fun _=>(l).getD ix.den.toNat 0)]))),(2,.own 0 0),(5,(.int .i64 (.sym fun _=>galP cs l x.1))),(6,(.int .i64 (.sym fun _=>zi x.1)))],[(0,.cells [(.sl 1 (.sym fun _=>zi (tw).length) (fun ix=>[.int .i64 (.sym fun _=>(tw).getD ix.den.toNat 0)])),(.sl 1 (.sym fun _=>zi (tm).length) (fun ix=>[.int .i64 (.sym fun _=>(tm).getD ix.den.toNat 0)])),(.sl 1 (.sym fun _=>zi (tv).length) (fun ix=>[(.sl 1 (.sym fun _=>zi ((tv).getD ix.den.toNat []).length) (fun jx=>[.int .i64 (.sym fun _=>((tv).getD ix.den.toNat []).getD jx.den.toNat 0)]))])),(.int .i64 (.sym fun _=>rate)),(.sl 5 (.sym fun _=>zi (cs).length) (fun ix=>[(.int .i64 (.sym fun _=>((cs).getD ix.den.toNat ck0).g)),(.int .i64 (.sym fun _=>((cs).getD ix.den.toNat ck0).wl)),(.int .i64 (.sym fun _=>((cs).getD ix.den.toNat ck0).wh)),(.int .i64 (.sym fun _=>((cs).getD ix.den.toNat ck0).ml)),(.int .i64 (.sym fun _=>((cs).getD ix.den.toNat ck0).mh))]))] 28)],30⟩,fun x=>l.length-x.1,?_,?_⟩
  · refine⟨⟨0,by omega⟩,?_⟩
    cbv
    repeat' (first
      |with_reducible refine hold ?_ ?_
      |with_reducible refine And.intro ?_ ?_)
    all_goals first
      |trivial
      |exact qM (qE (by rfl))
      |exact qM (qF (by rfl))
      |exact qM (Fit.refl _)
      |exact qL (qK _)
      |(refine qM (qE ?_);(try simp only [qV]at *);simp only [zQ,zA,zB,zC,zD,zE,zF,zG,zH,zI,zJ,zK,zL,zM,zN,zO,zP,zR,zS]at *;omega)
      |skip
  · rintro ⟨i,hi⟩
    cbv
    have hb:=gal_bd hg hl i hi
    have hfew:=hl.few
    repeat' (first
        |with_reducible refine hold ?_ ?_
        |with_reducible refine And.intro ?_ ?_
        | (with_reducible refine qS ?_ ?_ ?_
           try cbv)
        | (with_reducible refine qT ?_ ?_
           try cbv)
        |(with_reducible intro hcd;(try simp only [zA,zB,zC,zD,zE,zF,zG,zH,zI,zJ,zK,zL,zM,zN,zO,zP]at hcd);try cbv)
        |fail)
    all_goals (try have hlt:i<l.length:=(by(try simp only [qV]at *);(try simp only [zQ,zA,zB,zC,zD,zE,zF,zG,zH,zI,zJ,zK,zL,zM,zN,zO,zP,zR,zS]at *);omega))
    all_goals (try have ha:=hl.at' i hlt)
    all_goals (try have hb2:=gal_bd hg hl (i+1) hlt)
    all_goals first
      |trivial
      |((try simp only [qV]at *);(try simp only [zQ,zA,zB,zC,zD,zE,zF,zG,zH,zI,zJ,zK,zL,zM,zN,zO,zP,zR,zS]at *);first|(refine qN ?_;omega)|(simp only [Hold];omega))
      |(subst hR;(have hie:i=l.length:=by((try simp only [qV]at *);(try simp only [zQ,zA,zB,zC,zD,zE,zF,zG,zH,zI,zJ,zK,zL,zM,zN,zO,zP,zR,zS]at *);omega));subst hie;(repeat' (first|exact qA|exact qB|refine qC ?_ rfl ?_|refine qD ?_ ?_|exact qE (by rfl)|exact qF (by rfl)|exact Fit.refl _|exact qG _|(refine qE ?_;(try simp only [qV]at *);simp only [zQ,zA,zB,zC,zD,zE,zF,zG,zH,zI,zJ,zK,zL,zM,zN,zO,zP,zR,zS]at *;omega)));done)
      |((try simp only [qV]at *);(try simp only [zQ,zA,zB,zC,zD,zE,zF,zG,zH,zI,zJ,zK,zL,zM,zN,zO,zP,zR,zS]at *);simp only [galP]at hb2;first|(refine qN ?_;omega)|(simp only [Hold];omega))
      |((try simp only [zQ,zA,zB,zC,zD,zE,zF,zG,zH,zI,zJ,zK,zL,zM,zN,zO,zP,zR,zS]at *);refine⟨⟨i+1,by((try simp only [qV]at *);(try simp only [zQ,zA,zB,zC,zD,zE,zF,zG,zH,zI,zJ,zK,zL,zM,zN,zO,zP,zR,zS]at *);omega)⟩,by simp only [];omega,?_⟩;cbv;(repeat' (first|with_reducible refine hold ?_ ?_|with_reducible refine And.intro ?_ ?_));(all_goals first|trivial|exact qM (qE (by rfl))|exact qM (qF (by rfl))|exact qM (Fit.refl _)|exact qL (qK _)|(refine qM (qE ?_);(try simp only [qV]at *);simp only [zQ,zA,zB,zC,zD,zE,zF,zG,zH,zI,zJ,zK,zL,zM,zN,zO,zP,zR,zS]at *;omega)|skip))
      |skip
theorem strength46 (tw tm:List Int)(tv:List (List Int))(rate:Int)(cs:List Csk)(l:List Int)(water:Int)(t:Nat→Int)(m:Nat)(hg:∀i,i<cs.length→1≤(cs.getD i ck0).g∧(cs.getD i ck0).g≤99)(hl:InCs cs.length l)(h0:0<l.length)(hw:0≤water∧water≤1000000000000)(ht:∀j,0≤t j∧t j≤2000)(hm:cs.length≤m):FSpec Try.prog 46 [(stoS tw tm tv rate cs),(.sl 1 (.sym fun _=>zi (l).length) (fun ix=>[.int .i64 (.sym fun _=>(l).getD ix.den.toNat 0)])),(.int .i64 (.sym fun _=>water)),(.sl 1 (.sym fun _=>zi m) (fun ix=>[.int .i64 (.sym fun _=>t ix.den.toNat)]))] [] (fun r _=>r=(.int .i64 (.sym fun _=>strP cs l water t))):=by
  have c77:=gallons77 tw tm tv rate cs l hg hl
  refine FSpec.is fun R hR=>qW (sc:=sc46) tyok mix Try.func46 rfl Try.call46 (by kernel_rfl) (by kernel_rfl) ?_
  generalize Try.prog=P at c77⊢
  cbv
  repeat' (first
      |with_reducible refine hold ?_ ?_
      |with_reducible refine And.intro ?_ ?_
      | (with_reducible refine qS ?_ ?_ ?_
         try cbv)
      | (with_reducible refine qT ?_ ?_
         try cbv)
      |(with_reducible intro hcd;(try simp only [zA,zB,zC,zD,zE,zF,zG,zH,zI,zJ,zK,zL,zM,zN,zO,zP]at hcd);try cbv)
      |fail)
  all_goals first
    |trivial
    |((try simp only [qV]at *);(try simp only [zQ,zA,zB,zC,zD,zE,zF,zG,zH,zI,zJ,zK,zL,zM,zN,zO,zP,zR,zS]at *);first|(refine qN ?_;omega)|(simp only [Hold];omega))
    |skip
  refine⟨none,[],{i:Nat // i≤l.length},fun x=>⟨[(1,(.sl 1 (.sym fun _=>zi (l).length) (fun ix=>[.int .i64 (.sym fun _=>(l).getD ix.den.toNat 0)]))),(2,(.int .i64 (.sym fun _=>water))),(3,(.sl 1 (.sym fun _=>zi m) (fun ix=>[.int .i64 (.sym fun _=>t ix.den.toNat)]))),(4,.own 0 0),(9,(.int .i64 (.sym fun _=>spiP cs l t x.1))),(10,(.int .i64 (.sym fun _=>zi x.1)))],[(0,.cells [(.sl 1 (.sym fun _=>zi (tw).length) (fun ix=>[.int .i64 (.sym fun _=>(tw).getD ix.den.toNat 0)])),(.sl 1 (.sym fun _=>zi (tm).length) (fun ix=>[.int .i64 (.sym fun _=>(tm).getD ix.den.toNat 0)])),(.sl 1 (.sym fun _=>zi (tv).length) (fun ix=>[(.sl 1 (.sym fun _=>zi ((tv).getD ix.den.toNat []).length) (fun jx=>[.int .i64 (.sym fun _=>((tv).getD ix.den.toNat []).getD jx.den.toNat 0)]))])),(.int .i64 (.sym fun _=>rate)),(.sl 5 (.sym fun _=>zi (cs).length) (fun ix=>[(.int .i64 (.sym fun _=>((cs).getD ix.den.toNat ck0).g)),(.int .i64 (.sym fun _=>((cs).getD ix.den.toNat ck0).wl)),(.int .i64 (.sym fun _=>((cs).getD ix.den.toNat ck0).wh)),(.int .i64 (.sym fun _=>((cs).getD ix.den.toNat ck0).ml)),(.int .i64 (.sym fun _=>((cs).getD ix.den.toNat ck0).mh))]))] 28)],30⟩,fun x=>l.length-x.1,?_,?_⟩
  · refine⟨⟨0,by omega⟩,?_⟩
    cbv
    repeat' (first
      |with_reducible refine hold ?_ ?_
      |with_reducible refine And.intro ?_ ?_)
    all_goals first
      |trivial
      |exact qM (qE (by rfl))
      |exact qM (qF (by rfl))
      |exact qM (Fit.refl _)
      |exact qL (qK _)
      |(refine qM (qE ?_);(try simp only [qV]at *);simp only [zQ,zA,zB,zC,zD,zE,zF,zG,zH,zI,zJ,zK,zL,zM,zN,zO,zP,zR,zS]at *;omega)
      |skip
  · rintro ⟨i,hi⟩
    cbv
    have hb:=spi_bd hg hl ht i hi
    have hfew:=hl.few
    have hgb:=gal_bd hg hl l.length (Nat.le_refl _)
    repeat' (first
        |with_reducible refine hold ?_ ?_
        |with_reducible refine And.intro ?_ ?_
        | (with_reducible refine qS ?_ ?_ ?_
           try cbv)
        | (with_reducible refine qT ?_ ?_
           try cbv)
        |(with_reducible intro hcd;(try simp only [zA,zB,zC,zD,zE,zF,zG,zH,zI,zJ,zK,zL,zM,zN,zO,zP]at hcd);try cbv)
        | (refine qP ?_ (c77) ?hfit
           case hfit=>((repeat' (first|exact qB|refine qD ?_ ?_|exact qE (by rfl)|exact qF (by rfl)|exact Fit.refl _|exact qA|refine qC ?_ rfl ?_));done)
           try cbv)
        |fail)
    all_goals (try have hlt:i<l.length:=(by(try simp only [qV]at *);(try simp only [zQ,zA,zB,zC,zD,zE,zF,zG,zH,zI,zJ,zK,zL,zM,zN,zO,zP,zR,zS]at *);omega))
    all_goals (try have ha:=hl.at' i hlt)
    all_goals (try have hb2:=spi_bd hg hl ht (i+1) hlt)
    all_goals first
      |trivial
      |((try simp only [qV]at *);(try simp only [zQ,zA,zB,zC,zD,zE,zF,zG,zH,zI,zJ,zK,zL,zM,zN,zO,zP,zR,zS]at *);first|(refine qN ?_;omega)|(simp only [Hold];omega))
      |(subst hR;(have hie:i=l.length:=by((try simp only [qV]at *);(try simp only [zQ,zA,zB,zC,zD,zE,zF,zG,zH,zI,zJ,zK,zL,zM,zN,zO,zP,zR,zS]at *);omega));subst hie;(repeat' (first|exact qA|exact qB|refine qC ?_ rfl ?_|refine qD ?_ ?_|exact qE (by rfl)|exact qF (by rfl)|exact Fit.refl _|exact qG _|(refine qE ?_;(try simp only [qV]at *);simp only [zQ,zA,zB,zC,zD,zE,zF,zG,zH,zI,zJ,zK,zL,zM,zN,zO,zP,zR,zS]at *;omega)));done)
      |((try simp only [qV]at *);(try simp only [zQ,zA,zB,zC,zD,zE,zF,zG,zH,zI,zJ,zK,zL,zM,zN,zO,zP,zR,zS]at *);simp only [spiP]at hb2;first|(refine qN ?_;omega)|(simp only [Hold];omega))
      |((try simp only [qV]at *);(try simp only [zQ,zA,zB,zC,zD,zE,zF,zG,zH,zI,zJ,zK,zL,zM,zN,zO,zP,zR,zS]at *);have hg2:=hg (l.getD i 0).toNat (by omega);have hp:=mul_le2 (a:=(cs.getD (l.getD i 0).toNat ck0).g) (b:=t (l.getD i 0).toNat) (by omega) hg2.2 (ht _).1 (ht _).2;(first|(refine qN ?_;omega)|(simp only [Hold];omega)))
      |(have hs:=str_bd (water:=water) hg hl h0 ht hw.1;(try simp only [qV]at *);(try simp only [zQ,zA,zB,zC,zD,zE,zF,zG,zH,zI,zJ,zK,zL,zM,zN,zO,zP,zR,zS]at *);have hie:i=l.length:=(by omega);subst hie;simp only [strP]at hs;first|(refine qN ?_;omega)|(simp only [Hold];omega))
      |((try simp only [zQ,zA,zB,zC,zD,zE,zF,zG,zH,zI,zJ,zK,zL,zM,zN,zO,zP,zR,zS]at *);refine⟨⟨i+1,by((try simp only [qV]at *);(try simp only [zQ,zA,zB,zC,zD,zE,zF,zG,zH,zI,zJ,zK,zL,zM,zN,zO,zP,zR,zS]at *);omega)⟩,by simp only [];omega,?_⟩;cbv;(repeat' (first|with_reducible refine hold ?_ ?_|with_reducible refine And.intro ?_ ?_));(all_goals first|trivial|exact qM (qE (by rfl))|exact qM (qF (by rfl))|exact qM (Fit.refl _)|exact qL (qK _)|(refine qM (qE ?_);(try simp only [qV]at *);simp only [zQ,zA,zB,zC,zD,zE,zF,zG,zH,zI,zJ,zK,zL,zM,zN,zO,zP,zR,zS]at *;omega)|skip))
      |skip
end Go.Proofs.Ytkdgpdlfakcgdaa

namespace Go.Proofs.Ytkdgpdlfakcgdaa
theorem tenths_mono {g s s':Int}(hg:0≤g)(h0:0≤s)(h:s≤s'):tenthsP g s≤tenthsP g s':=by
  unfold tenthsP
  have a:=Int.mul_nonneg hg h0
  have b:=Int.mul_le_mul_of_nonneg_left h hg
  rw [Int.tdiv_eq_ediv_of_nonneg a,Int.tdiv_eq_ediv_of_nonneg (by omega)]
  omega
theorem owed_mono {n n' rate:Int}(hr:0≤rate)(h0:0≤n)(h:n≤n'):owedP n rate≤owedP n' rate:=by
  unfold owedP
  have a:=Int.mul_nonneg h0 hr
  have b:=Int.mul_le_mul_of_nonneg_right h hr
  rw [Int.tdiv_eq_ediv_of_nonneg (by omega),Int.tdiv_eq_ediv_of_nonneg (by omega)]
  omega
theorem tenths_nn {g s:Int}(hg:0≤g)(h0:0≤s):0≤tenthsP g s:=by
  unfold tenthsP
  have a:=Int.mul_nonneg hg h0
  rw [Int.tdiv_eq_ediv_of_nonneg a]
  omega
theorem duty_mono {rate:Int} {cs:List Csk} {l l':Nat→Int}(hr:0≤rate):∀n,n≤cs.length→(∀i,i<cs.length→0≤(cs.getD i ck0).g)→(∀j,j<n→0≤l j∧l j≤l' j)→dutyP rate cs l n≤dutyP rate cs l' n:=by
  intro n
  induction n with
  |zero=>intro _ _ _;exact Int.le_refl _
  | succ n ih=>
    intro hn hg hl
    have a:=ih (by omega) hg fun j hj=>hl j (by omega)
    have g:=hg n (by omega)
    have b:=hl n (by omega)
    have c:=owed_mono hr (tenths_nn g b.1) (tenths_mono g b.1 b.2)
    simp only [dutyP]
    omega
theorem spi_mono {cs:List Csk} {l:List Int} {t t':Nat→Int}(hg:∀i,i<cs.length→0≤(cs.getD i ck0).g)(hl:InCs cs.length l):∀n,n≤l.length→(∀j,j<cs.length→t j≤t' j)→spiP cs l t n≤spiP cs l t' n:=by
  intro n
  induction n with
  |zero=>intro _ _;exact Int.le_refl _
  | succ n ih=>
    intro hn ht
    have a:=ih (by omega) ht
    have b:=hl.at' n (by omega)
    have c:=Int.mul_le_mul_of_nonneg_left (ht (l.getD n 0).toNat (by omega)) (hg (l.getD n 0).toNat (by omega))
    simp only [spiP]
    omega
theorem spi_nn {cs:List Csk} {l:List Int} {t:Nat→Int}(hg:∀i,i<cs.length→0≤(cs.getD i ck0).g)(hl:InCs cs.length l)(ht:∀j,j<cs.length→0≤t j):∀n,n≤l.length→0≤spiP cs l t n:=by
  intro n
  induction n with
  |zero=>intro _;exact Int.le_refl _
  | succ n ih=>
    intro hn
    have a:=ih (by omega)
    have b:=hl.at' n (by omega)
    have c:=Int.mul_nonneg (hg (l.getD n 0).toNat (by omega)) (ht (l.getD n 0).toNat (by omega))
    simp only [spiP]
    omega
theorem str_mono {cs:List Csk} {l:List Int} {water:Int} {t t':Nat→Int}(hg:∀i,i<cs.length→1≤(cs.getD i ck0).g∧(cs.getD i ck0).g≤99)(hl:InCs cs.length l)(h0:0<l.length)(hw:0≤water)(ht:∀j,j<cs.length→0≤t j∧t j≤t' j):strP cs l water t≤strP cs l water t':=by
  have hg':∀i,i<cs.length→0≤(cs.getD i ck0).g:=fun i hi=>by have:=hg i hi;omega
  have a:=spi_mono hg' hl l.length (Nat.le_refl _) fun j hj=>(ht j hj).2
  have b:=spi_nn hg' hl (fun j hj=>(ht j hj).1) l.length (Nat.le_refl _)
  have c:=gal_bd hg hl l.length (Nat.le_refl _)
  unfold strP
  rw [Int.tdiv_eq_ediv_of_nonneg b,Int.tdiv_eq_ediv_of_nonneg (by omega)]
  exact Int.ediv_le_ediv (by omega) a
theorem spi_congr {cs:List Csk} {l:List Int} {t t':Nat→Int}(hl:InCs cs.length l)(ht:∀j,j<cs.length→t j=t' j):∀n,n≤l.length→spiP cs l t n=spiP cs l t' n:=by
  intro n
  induction n with
  |zero=>intro _;rfl
  | succ n ih=>
    intro hn
    have b:=hl.at' n (by omega)
    simp only [spiP]
    rw [ih (by omega),ht (l.getD n 0).toNat (by omega)]
theorem str_congr {cs:List Csk} {l:List Int} {water:Int} {t t':Nat→Int}(hl:InCs cs.length l)(ht:∀j,j<cs.length→t j=t' j):strP cs l water t=strP cs l water t':=by
  unfold strP
  rw [spi_congr hl ht l.length (Nat.le_refl _)]
end Go.Proofs.Ytkdgpdlfakcgdaa

namespace Go.Proofs.Ytkdgpdlfakcgdaa
open Go Go.Eng Go.Proofs
set_option maxRecDepth 10000
theorem fit_fn {n:Nat} {f:Nat→Int}:Fit (.sl 1 (.sym fun _=>zi n) (fun ix=>[.int .i64 (.sym fun _=>f ix.den.toNat)])) (.sl 1 (.sym fun _=>zi (((List.range n).map f)).length) (fun ix=>[.int .i64 (.sym fun _=>(((List.range n).map f)).getD ix.den.toNat 0)])):=
  fit_sl (by simp only [den_sym,zi_den,List.length_map,List.length_range]) fun ix h0 h1=>qC (qE (by
    simp only [den_sym,zi_den]at *
    rw [List.getD_eq_getElem?_getD,List.getElem?_map,List.getElem?_range (by omega)];rfl)) rfl qA
end Go.Proofs.Ytkdgpdlfakcgdaa

namespace Go.Proofs.Ytkdgpdlfakcgdaa
def bitAt (k:Int)(p:Nat):Bool:=decide ((k.fdiv (2^p)).tmod 2=1)
def bitsL (k:Int):Nat→List Int
  |0=>[]
  |p+1=>if bitAt k p=true then bitsL k p++[(p:Int)]else bitsL k p
theorem bits_yes {k:Int} {p:Nat}(h:(k.fdiv (2^p)).tmod 2=1):bitsL k (p+1)=bitsL k p++[(p:Int)]:=by
  simp only [bitsL,bitAt,decide_eq_true h,if_true]
theorem bits_no {k:Int} {p:Nat}(h:¬(k.fdiv (2^p)).tmod 2=1):bitsL k (p+1)=bitsL k p:=by
  simp only [bitsL,bitAt,decide_eq_false h]
  rfl
theorem fdiv_nn {k:Int}(h:0≤k)(p:Nat):k.fdiv (2^p)=k/(2^p):=Int.fdiv_eq_ediv_of_nonneg _ (Int.le_of_lt (Int.pow_pos (by decide)))
theorem shr_bd {k:Int}(h:0≤k)(p:Nat):0≤k.fdiv (2^p)∧k.fdiv (2^p)≤k:=by
  rw [fdiv_nn h]
  exact⟨Int.ediv_nonneg h (Int.le_of_lt (Int.pow_pos (by decide))),Int.ediv_le_self _ h⟩
theorem shr_zero {k:Int} {n:Nat}(h:0≤k)(hk:k<2^n):k.fdiv (2^n)=0:=by
  rw [fdiv_nn h]
  exact Int.ediv_eq_zero_of_lt h hk
theorem shr_next {k:Int} {p:Nat}(h:0≤k)(h0:k.fdiv (2^p)=0):k.fdiv (2^(p+1))=0:=by
  rw [fdiv_nn h]at *
  have hp:(0:Int)<2^p:=Int.pow_pos (by decide)
  have:k<2^p:=by
    rcases Int.lt_or_le k (2^p)with q|q
    · exact q
    · have:=(Int.le_ediv_iff_mul_le hp).2 (show 1*2^p≤k by omega)
      omega
  refine Int.ediv_eq_zero_of_lt h ?_
  rw [Int.pow_succ]
  omega
theorem bits_stop {k:Int} {p:Nat}(h:0≤k)(h0:k.fdiv (2^p)=0):∀m,bitsL k (p+m)=bitsL k p:=by
  have hz:∀m,k.fdiv (2^(p+m))=0:=by
    intro m
    induction m with
    |zero=>exact h0
    |succ m ih=>exact shr_next h ih
  intro m
  induction m with
  |zero=>rfl
  | succ m ih=>
    rw [←ih]
    exact bits_no (p:=p+m) (by rw [hz m];decide)
theorem bits_len (k:Int):∀n,(bitsL k n).length≤n:=by
  intro n
  induction n with
  |zero=>exact Nat.le_refl _
  | succ n ih=>
    simp only [bitsL]
    split
    · simp;omega
    · omega
end Go.Proofs.Ytkdgpdlfakcgdaa

namespace Go.Proofs.Ytkdgpdlfakcgdaa
open Go Go.Eng Go.Proofs
set_option maxRecDepth 10000
theorem bits70 (k:Int)(hk:0≤k∧k<2^16):FSpec Try.prog 70 [(.int .i64 (.sym fun _=>k))] [] (fun r _=>r=(.sl 1 (.sym fun _=>zi (bitsL k 16).length) (fun ix=>[.int .i64 (.sym fun _=>(bitsL k 16).getD ix.den.toNat 0)]))):=by
  refine FSpec.is fun R hR=>qW (sc:=sc70) tyok mix Try.func70 rfl Try.call70 (by kernel_rfl) (by kernel_rfl) ?_
  generalize Try.prog=P
  cbv
  repeat' (first
      |with_reducible refine hold ?_ ?_
      |with_reducible refine And.intro ?_ ?_
      | (with_reducible refine qS ?_ ?_ ?_
         try cbv)
      | (with_reducible refine qT ?_ ?_
         try cbv)
      |(with_reducible intro hcd;(try simp only [zA,zB,zC,zD,zE,zF,zG,zH,zI,zJ,zK,zL,zM,zN,zO,zP]at hcd);try cbv)
      | (with_reducible refine shr_k ?_ ?_
         try cbv)
      | (with_reducible refine shl_k ?_ ?_ ?_
         try cbv)
      |fail)
  all_goals first
    |trivial
    |((try simp only [qV]at *);(try simp only [zQ,zA,zB,zC,zD,zE,zF,zG,zH,zI,zJ,zK,zL,zM,zN,zO,zP,zR,zS]at *);first|(refine qN ?_;omega)|(simp only [Hold];omega))
    |((try simp only [qV]at *);(try simp only [zQ,zA,zB,zC,zD,zE,zF,zG,zH,zI,zJ,zK,zL,zM,zN,zO,zP,zR,zS]at *);first|(refine hold_u64 ?_;omega)|(refine hold_u8 ?_;omega)|(refine hold_sh64 ?_;omega))
    |skip
  refine⟨none,[⟨.tmp 3,3,1⟩],{x:Nat×List Int // x.1≤16∧x.2=bitsL k x.1},fun x=>⟨[(0,(.int .i64 (.sym fun _=>k))),(3,.row 3),(4,(.int .i64 (.sym fun _=>zi x.1.1)))],[(3,.row 3 1 (.sym fun _=>zi (x.1.2).length) (fun ix=>[.int .i64 (.sym fun _=>(x.1.2).getD ix.den.toNat 0)]))],30⟩,fun x=>16-x.1.1,?_,?_⟩
  · refine⟨⟨(0,[]),by omega,rfl⟩,?_⟩
    cbv
    repeat' (first
      |with_reducible refine hold ?_ ?_
      |with_reducible refine And.intro ?_ ?_)
    all_goals first
      |trivial
      |exact qM (qE (by rfl))
      |exact qM (qF (by rfl))
      |exact qM (Fit.refl _)
      |exact qL (qK _)
      |(refine qM (qE ?_);(try simp only [qV]at *);simp only [zQ,zA,zB,zC,zD,zE,zF,zG,zH,zI,zJ,zK,zL,zM,zN,zO,zP,zR,zS]at *;omega)
      |(refine qL (ble_row ?_ ?_);(first|rfl|((try simp only [qV]at *);(try simp only [zQ,zA,zB,zC,zD,zE,zF,zG,zH,zI,zJ,zK,zL,zM,zN,zO,zP,zR,zS]at *);omega));intro ix h0 h1;exfalso;(try simp only [qV]at *);(try simp only [zQ,zA,zB,zC,zD,zE,zF,zG,zH,zI,zJ,zK,zL,zM,zN,zO,zP,zR,zS]at *);omega)
      |skip
  · rintro ⟨⟨p,L⟩,hp,hL⟩
    cbv
    dsimp only at hp hL
    have hs:=shr_bd hk.1 p
    have hs16:=shr_zero hk.1 hk.2
    have hlen:=bits_len k p
    rw [←hL]at hlen
    repeat' (first
        |with_reducible refine hold ?_ ?_
        |with_reducible refine And.intro ?_ ?_
        | (with_reducible refine qS ?_ ?_ ?_
           try cbv)
        | (with_reducible refine qT ?_ ?_
           try cbv)
        |(with_reducible intro hcd;(try simp only [zA,zB,zC,zD,zE,zF,zG,zH,zI,zJ,zK,zL,zM,zN,zO,zP]at hcd);try cbv)
        | (with_reducible refine shr_k ?_ ?_
           try cbv)
        | (with_reducible refine shl_k ?_ ?_ ?_
           try cbv)
        | (obtain⟨L2,eL2⟩:∃y:List Int,y=L++[zi p]:=⟨_,rfl⟩
           refine⟨intsE L2,?_⟩
           cbv
           refine hold (hold_rowlist (L:=L) eL2 (by(first|rfl|((try simp only [qV]at *);(try simp only [zQ,zA,zB,zC,zD,zE,zF,zG,zH,zI,zJ,zK,zL,zM,zN,zO,zP,zR,zS]at *);done)|((try simp only [qV]at *);(try simp only [zQ,zA,zB,zC,zD,zE,zF,zG,zH,zI,zJ,zK,zL,zM,zN,zO,zP,zR,zS]at *);omega))) (by rfl) (fun ix=>Fit.refl _) (fun ix h=>qC (qE (by rfl)) rfl qA) (by(try simp only [qV]at *);(try simp only [zQ,zA,zB,zC,zD,zE,zF,zG,zH,zI,zJ,zK,zL,zM,zN,zO,zP,zR,zS]at *);omega)) (Or.inl ?_)
           try cbv)
        |fail)
    all_goals first
      |trivial
      |((try simp only [qV]at *);(try simp only [zQ,zA,zB,zC,zD,zE,zF,zG,zH,zI,zJ,zK,zL,zM,zN,zO,zP,zR,zS]at *);first|(refine qN ?_;omega)|(simp only [Hold];omega))
      |(subst hR;(have hz:k.fdiv (2^p)=0:=(by(try simp only [qV]at *);(try simp only [zQ,zA,zB,zC,zD,zE,zF,zG,zH,zI,zJ,zK,zL,zM,zN,zO,zP,zR,zS]at *);omega));(have he:=bits_stop hk.1 hz (16-p));rw [show p+(16-p)=16 by omega,←hL]at he;rw [he];(first|exact Fit.refl _|(repeat' (first|exact qA|exact Fit.refl _|refine qC ?_ rfl ?_)));done)
      |((try simp only [qV]at *);(try simp only [zQ,zA,zB,zC,zD,zE,zF,zG,zH,zI,zJ,zK,zL,zM,zN,zO,zP,zR,zS]at *);first|(refine hold_u64 ?_;omega)|(refine hold_u8 ?_;omega)|(refine hold_sh64 ?_;omega))
      |((have hp16:p<16:=(Nat.lt_of_le_of_ne hp (fun e=>by subst e;(try simp only [qV]at *);(try simp only [zQ,zA,zB,zC,zD,zE,zF,zG,zH,zI,zJ,zK,zL,zM,zN,zO,zP,zR,zS]at *);omega)));((try simp only [zQ,zA,zB,zC,zD,zE,zF,zG,zH,zI,zJ,zK,zL,zM,zN,zO,zP,zR,zS]at *);refine⟨⟨(p+1,L2),by((try simp only [qV]at *);(try simp only [zQ,zA,zB,zC,zD,zE,zF,zG,zH,zI,zJ,zK,zL,zM,zN,zO,zP,zR,zS]at *);omega),by rw [eL2,hL];exact(bits_yes (by(try simp only [qV]at *);(try simp only [zQ,zA,zB,zC,zD,zE,zF,zG,zH,zI,zJ,zK,zL,zM,zN,zO,zP,zR,zS]at *);assumption)).symm⟩,by simp only [];omega,?_⟩;cbv;(repeat' (first|with_reducible refine hold ?_ ?_|with_reducible refine And.intro ?_ ?_));(all_goals first|trivial|exact qM (qE (by rfl))|exact qM (qF (by rfl))|exact qM (Fit.refl _)|exact qL (qK _)|(refine qM (qE ?_);(try simp only [qV]at *);simp only [zQ,zA,zB,zC,zD,zE,zF,zG,zH,zI,zJ,zK,zL,zM,zN,zO,zP,zR,zS]at *;omega)|(refine qL (ble_list ?_ ?_);(first|rfl|((try simp only [qV]at *);(try simp only [zQ,zA,zB,zC,zD,zE,zF,zG,zH,zI,zJ,zK,zL,zM,zN,zO,zP,zR,zS]at *);simp only [eL2,List.length_append,List.length_cons,List.length_nil];omega));intro ix;(try simp only [eL2]);first|exact Fit.refl _|exact qC (qE (by rfl)) rfl qA)|skip)))
      |((have hp16:p<16:=(Nat.lt_of_le_of_ne hp (fun e=>by subst e;(try simp only [qV]at *);(try simp only [zQ,zA,zB,zC,zD,zE,zF,zG,zH,zI,zJ,zK,zL,zM,zN,zO,zP,zR,zS]at *);omega)));((try simp only [zQ,zA,zB,zC,zD,zE,zF,zG,zH,zI,zJ,zK,zL,zM,zN,zO,zP,zR,zS]at *);refine⟨⟨(p+1,L),by((try simp only [qV]at *);(try simp only [zQ,zA,zB,zC,zD,zE,zF,zG,zH,zI,zJ,zK,zL,zM,zN,zO,zP,zR,zS]at *);omega),by rw [hL];exact(bits_no (by(try simp only [qV]at *);(try simp only [zQ,zA,zB,zC,zD,zE,zF,zG,zH,zI,zJ,zK,zL,zM,zN,zO,zP,zR,zS]at *);assumption)).symm⟩,by simp only [];omega,?_⟩;cbv;(repeat' (first|with_reducible refine hold ?_ ?_|with_reducible refine And.intro ?_ ?_));(all_goals first|trivial|exact qM (qE (by rfl))|exact qM (qF (by rfl))|exact qM (Fit.refl _)|exact qL (qK _)|(refine qM (qE ?_);(try simp only [qV]at *);simp only [zQ,zA,zB,zC,zD,zE,zF,zG,zH,zI,zJ,zK,zL,zM,zN,zO,zP,zR,zS]at *;omega)|(refine qL (ble_list ?_ ?_);(first|rfl|((try simp only [qV]at *);(try simp only [zQ,zA,zB,zC,zD,zE,zF,zG,zH,zI,zJ,zK,zL,zM,zN,zO,zP,zR,zS]at *);simp only [List.length_append,List.length_cons,List.length_nil];omega));intro ix;first|exact Fit.refl _|exact qC (qE (by rfl)) rfl qA)|skip)))
      |skip
end Go.Proofs.Ytkdgpdlfakcgdaa

namespace Go.Proofs.Ytkdgpdlfakcgdaa
theorem bits_mem {k:Int} {x:Int}:∀{n:Nat},x∈bitsL k n↔∃p:Nat,p<n∧x=(p:Int)∧bitAt k p=true:=by
  intro n
  induction n with
  |zero=>simp [bitsL]
  | succ n ih=>
    simp only [bitsL]
    split
    · rename_i h
      rw [List.mem_append,ih,List.mem_singleton]
      constructor
      · rintro(⟨p,h1,h2,h3⟩|h1)
        · exact⟨p,by omega,h2,h3⟩
        · exact⟨n,by omega,h1,h⟩
      · rintro⟨p,h1,h2,h3⟩
        by_cases e:p=n
        · subst e;exact .inr h2
        · exact .inl ⟨p,by omega,h2,h3⟩
    · rename_i h
      rw [ih]
      constructor
      · rintro⟨p,h1,h2,h3⟩;exact⟨p,by omega,h2,h3⟩
      · rintro⟨p,h1,h2,h3⟩
        by_cases e:p=n
        · subst e;exact absurd h3 h
        · exact⟨p,by omega,h2,h3⟩
theorem bit_lt {k:Int} {p n:Nat}(h0:0≤k)(h:k<2^n)(hb:bitAt k p=true):p<n:=by
  have hb:=of_decide_eq_true hb
  by_cases q:n≤p
  · have hz:∀m,k.fdiv (2^(n+m))=0:=by
      intro m
      induction m with
      |zero=>exact shr_zero h0 h
      |succ m ih=>exact shr_next h0 ih
    have:=hz (p-n)
    rw [show n+(p-n)=p by omega]at this
    rw [this]at hb
    exact absurd hb (by decide)
  · omega
theorem bits_in {k:Int} {n m:Nat}(h0:0≤k)(h:k<2^n)(hm:m≤1000):InCs n (bitsL k m):=by
  refine⟨Nat.le_trans (bits_len k m) hm,fun j hj=> ?_⟩
  have hx:(bitsL k m).getD j 0∈bitsL k m:=by
    rw [List.getD_eq_getElem?_getD,List.getElem?_eq_getElem hj]
    exact List.getElem_mem hj
  obtain⟨p,h1,h2,h3⟩:=bits_mem.1 hx
  have:=bit_lt h0 h h3
  omega
end Go.Proofs.Ytkdgpdlfakcgdaa

namespace Go.Proofs.Ytkdgpdlfakcgdaa
open Go Go.Eng Go.Proofs
set_option maxRecDepth 10000
def surB (cs:List Csk)(lo hi:Nat→Int)(a b:Int)(l:List Int):Bool:=decide (a≤strP cs l 0 lo)&&decide (strP cs l 0 hi≤b)
end Go.Proofs.Ytkdgpdlfakcgdaa

namespace Go.Proofs.Ytkdgpdlfakcgdaa
def someP (n:Nat)(b:Int):List Int:=if(bitsL (b.tmod (2^n)) 16).length=0 then [b.tmod n]else bitsL (b.tmod (2^n)) 16
theorem tmod_bd2 {a b:Int}(ha:0≤a)(hb:0<b):0≤a.tmod b∧a.tmod b<b:=by
  rw [Int.tmod_eq_emod_of_nonneg ha]
  exact⟨Int.emod_nonneg _ (by omega),Int.emod_lt_of_pos _ hb⟩
theorem some_spec {n:Nat} {b:Int}(h0:0<n)(hn:n≤6)(hb:0≤b∧b≤255):0<(someP n b).length∧InCs n (someP n b):=by
  have hp:(0:Int)<2^n:=Int.pow_pos (by decide)
  have hm:=tmod_bd2 hb.1 hp
  unfold someP
  split
  · have:=tmod_bd2 hb.1 (show(0:Int)<n by omega)
    refine⟨by simp,by simp,fun j hj=> ?_⟩
    have:j=0:=by simpa using hj
    subst this
    exact this
  · exact⟨by omega,bits_in hm.1 hm.2 (by omega)⟩
end Go.Proofs.Ytkdgpdlfakcgdaa

namespace Go.Proofs.Ytkdgpdlfakcgdaa
open Go Go.Eng Go.Proofs
set_option maxRecDepth 10000
theorem pow_le64 {n:Nat}(h:n≤6):(2:Int)^n≤64:=by
  have:2^n≤2^6:=Nat.pow_le_pow_right (by omega) h
  have h2:((2^n:Nat):Int)≤((2^6:Nat):Int):=by omega
  simpa using h2
theorem some43 (tw tm:List Int)(tv:List (List Int))(rate:Int)(cs:List Csk)(b:Int)(hc:0<cs.length∧cs.length≤6)(hb:0≤b∧b≤255):FSpec Try.prog 43 [(stoS tw tm tv rate cs),(.int .u8 (.sym fun _=>b))] [] (fun r _=>r=(.sl 1 (.sym fun _=>zi (someP cs.length b).length) (fun ix=>[.int .i64 (.sym fun _=>(someP cs.length b).getD ix.den.toNat 0)]))):=by
  have c70:=fun (h:0≤b.tmod (1*2^(zi cs.length).toNat)∧b.tmod (1*2^(zi cs.length).toNat)<2^16)=>bits70 (b.tmod (1*2^(zi cs.length).toNat)) h
  refine FSpec.is fun R hR=>qW (sc:=sc43) tyok mix Try.func43 rfl Try.call43 (by kernel_rfl) (by kernel_rfl) ?_
  generalize Try.prog=P at c70⊢
  cbv
  have hpw:(0:Int)<2^cs.length:=Int.pow_pos (by decide)
  have hpw2:(2:Int)^cs.length≤64:=pow_le64 hc.2
  have hm:=tmod_bd2 hb.1 hpw
  have hm2:=tmod_bd2 hb.1 (show(0:Int)<cs.length by omega)
  have hln:=bits_len (b.tmod (2^cs.length)) 16
  repeat' (first
      |with_reducible refine hold ?_ ?_
      |with_reducible refine And.intro ?_ ?_
      | (with_reducible refine qS ?_ ?_ ?_
         try cbv)
      | (with_reducible refine qT ?_ ?_
         try cbv)
      |(with_reducible intro hcd;(try simp only [zA,zB,zC,zD,zE,zF,zG,zH,zI,zJ,zK,zL,zM,zN,zO,zP]at hcd);try cbv)
      | (refine qP ?_ (c70 (show Hold _ from ?_)) ?hfit
         case hfit=>((repeat' (first|exact qB|refine qD ?_ ?_|exact qE (by rfl)|exact qF (by rfl)|exact Fit.refl _|exact qA|refine qC ?_ rfl ?_));done)
         try cbv)
      | (with_reducible refine shr_k ?_ ?_
         try cbv)
      | (with_reducible refine shl_k ?_ ?_ ?_
         try cbv)
      |fail)
  all_goals first
    |trivial
    |((try simp only [qV]at *);(try simp only [zQ,zA,zB,zC,zD,zE,zF,zG,zH,zI,zJ,zK,zL,zM,zN,zO,zP,zR,zS]at *);first|(refine qN ?_;omega)|(simp only [Hold];omega))
    |(subst hR;((have hl0:(bitsL (b.tmod (2^cs.length)) 16).length=0:=by((try simp only [qV]at *);(try simp only [zQ,zA,zB,zC,zD,zE,zF,zG,zH,zI,zJ,zK,zL,zM,zN,zO,zP,zR,zS]at *);(try simp only [Int.one_mul]at *);omega));rw [show someP cs.length b=[b.tmod cs.length]from if_pos hl0];(refine fit_sl (by rfl) (fun ix h0 h1=> ?_);(have h1z:ix.den<1:=h1);(have hz:ix.den=0:=by omega);rw [hz];exact qC (qE rfl) rfl qA));done)
    |(subst hR;((have hl0:¬(bitsL (b.tmod (2^cs.length)) 16).length=0:=by((try simp only [qV]at *);(try simp only [zQ,zA,zB,zC,zD,zE,zF,zG,zH,zI,zJ,zK,zL,zM,zN,zO,zP,zR,zS]at *);(try simp only [Int.one_mul]at *);omega));rw [show someP cs.length b=bitsL (b.tmod (2^cs.length)) 16 from if_neg hl0];(try simp only [qV]at *);(try simp only [zQ,zA,zB,zC,zD,zE,zF,zG,zH,zI,zJ,zK,zL,zM,zN,zO,zP,zR,zS]at *);(try simp only [Int.one_mul]);exact Fit.refl _);done)
    |((try simp only [qV]at *);(try simp only [zQ,zA,zB,zC,zD,zE,zF,zG,zH,zI,zJ,zK,zL,zM,zN,zO,zP,zR,zS]at *);first|(refine hold_u64 ?_;omega)|(refine hold_sh64 ?_;omega)|(refine qN ?_;omega))
    |((try simp only [qV]at *);(try simp only [zQ,zA,zB,zC,zD,zE,zF,zG,zH,zI,zJ,zK,zL,zM,zN,zO,zP,zR,zS]at *);(try simp only [Int.one_mul]at *);first|(simp only [Hold];omega)|(refine qN ?_;omega))
    |skip
end Go.Proofs.Ytkdgpdlfakcgdaa

namespace Go.Proofs.Ytkdgpdlfakcgdaa
theorem blend_ent {n:Nat} {l:List Int}:(decide (0<l.length)&&decide (∀i,i<l.length→entP l ((n:Int)-1) i=true))=blendB n l:=by
  rw [Bool.eq_iff_iff,blend_iff]
  simp only [Bool.and_eq_true,decide_eq_true_eq]
  constructor
  · rintro⟨h0,h⟩
    refine⟨h0,fun i hi=> ?_⟩
    have h1:=h i hi
    simp only [entP,Bool.and_eq_true,decide_eq_true_eq]at h1
    have h2:=entP_bd (i:=i) (most:=(n:Int)-1) fun j hj=>h j (by omega)
    refine⟨by omega,fun hi0=> ?_⟩
    obtain⟨k,rfl⟩:∃k,i=k+1:=⟨i-1,by omega⟩
    rw [lastAt_succ]at h1
    rw [Nat.add_sub_cancel];omega
  · rintro⟨h0,h⟩
    refine⟨h0,fun i hi=> ?_⟩
    have h1:=h i hi
    unfold stepOk at h1
    simp only [entP,Bool.and_eq_true,decide_eq_true_eq]
    refine⟨?_,h1.1.2⟩
    by_cases e:i=0
    · subst e;rw [lastAt_zero];omega
    · have:=h1.2 (by omega)
      simp only [lastAt,e,if_false]
      omega
end Go.Proofs.Ytkdgpdlfakcgdaa

namespace Go.Proofs.Ytkdgpdlfakcgdaa
open Go Go.Eng Go.Proofs
set_option maxRecDepth 10000
theorem blend89 (tw tm:List Int)(tv:List (List Int))(rate:Int)(cs:List Csk)(l:List Int)(most:Int)(i:Nat)(hc:cs.length≤1000)(hm:most=zi cs.length-1)(hi:i<l.length∧∀j,j<i→entP l most j=true):FSpec Try.prog 89 [(.int .i64 (.sym fun _=>l.getD i 0)),.own 0 0,.own 1 0] [.cells [(.int .i64 (.sym fun _=>lastAt l (i)))] 3,.cells [(wrkS tw tm tv rate cs)] 105] (fun r bs=>r=(.bool (.sym fun _=>entP l most i))∧bs=[.cells [(.int .i64 (.sym fun _=>lastAt l (i+1)))] 3,.cells [(wrkS tw tm tv rate cs)] 105]):=by
  have c64:= @within64
  refine FSpec.isB rfl fun R B hR hB=>qW (sc:=sc89) tyok mix Try.func89 rfl Try.call89 (by kernel_rfl) (by kernel_rfl) ?_
  generalize Try.prog=P at c64⊢
  cbv
  subst hm
  have hb:=entP_bd hi.2
  repeat' (first
      |with_reducible refine hold ?_ ?_
      |with_reducible refine And.intro ?_ ?_
      | (with_reducible refine qS ?_ ?_ ?_
         try cbv)
      | (with_reducible refine qT ?_ ?_
         try cbv)
      |(with_reducible intro hcd;(try simp only [zA,zB,zC,zD,zE,zF,zG,zH,zI,zJ,zK,zL,zM,zN,zO,zP]at hcd);try cbv)
      | (refine qP ?_ (c64 _ _ _) (by(repeat' (first|exact qB|refine qD ?_ ?_|exact qE (by rfl)|exact qF (by rfl)|exact Fit.refl _|exact qA|refine qC ?_ rfl ?_)))
         try cbv)
      |fail)
  all_goals first
    |trivial
    |((try simp only [qV]at *);(try simp only [zQ,zA,zB,zC,zD,zE,zF,zG,zH,zI,zJ,zK,zL,zM,zN,zO,zP,zR,zS]at *);first|(refine qN ?_;omega)|(simp only [Hold];omega))
    |(subst hR;(repeat' (first|exact qA|exact qB|refine qC ?_ rfl ?_|refine qD ?_ ?_|exact qE (by rfl)|exact qF (by rfl)|exact Fit.refl _|exact qG _|(refine qE ?_;(try simp only [qV]at *);simp only [zQ,zA,zB,zC,zD,zE,zF,zG,zH,zI,zJ,zK,zL,zM,zN,zO,zP,zR,zS]at *;omega)));done)
    |(subst hR;(refine qF ?_;rfl);done)
    |(subst hB;refine qI (qJ (qC (qE ?_) rfl qA)) (qI (qK _) qH);simp only [zQ,zA,zB,zC,zD,zE,zF,zG,zH,zI,zJ,zK,zL,zM,zN,zO,zP,zR,zS,lastAt_succ];done)
    |skip
theorem lam105_bl (tw tm:List Int)(tv:List (List Int))(rate:Int)(cs:List Csk)(l:List Int)(most:Int)(hc:cs.length≤1000)(hm:most=zi cs.length-1)(hfew:l.length≤1000)(i:Nat)(hi:i<l.length∧∀j,j<i→(entP l most (j))=true):FSpec Try.prog 105 [(.int .i64 (.sym fun _=>l.getD (i) 0)),.own 0 0] [.cells [.clo 89 [] [.own 1 0,.own 2 0]] 139,.cells [(.int .i64 (.sym fun _=>lastAt l (i)))] 3,.cells [(wrkS tw tm tv rate cs)] 105] (fun r bs=>r=(.bool (.sym fun _=> !(entP l most (i))))∧bs=[.cells [.clo 89 [] [.own 1 0,.own 2 0]] 139,.cells [(.int .i64 (.sym fun _=>lastAt l (i+1)))] 3,.cells [(wrkS tw tm tv rate cs)] 105]):=by
  have cf:=blend89 tw tm tv rate cs l most i hc hm hi
  refine FSpec.isB rfl fun R B hR hB=>qW (sc:=sc105) tyok mix Try.func105 rfl Try.call105 (by kernel_rfl) (by kernel_rfl) ?_
  generalize Try.prog=P at cf⊢
  cbv
  repeat' (first
      |with_reducible refine hold ?_ ?_
      |with_reducible refine And.intro ?_ ?_
      | (with_reducible refine qS ?_ ?_ ?_
         try cbv)
      | (with_reducible refine qT ?_ ?_
         try cbv)
      |(with_reducible intro hcd;(try simp only [zA,zB,zC,zD,zE,zF,zG,zH,zI,zJ,zK,zL,zM,zN,zO,zP]at hcd);try cbv)
      | (refine⟨some [1,2],?_⟩
         cbv
         refine qQ ?_ (cf) (by cbv;(repeat' (first|exact qB|refine qD ?_ ?_|exact qE (by rfl)|exact qF (by rfl)|exact Fit.refl _|exact qA|refine qC ?_ rfl ?_))) (by cbv;(repeat' (first|exact qH|refine qI ?_ ?_|exact qK _|refine qJ ?_|exact qA|exact qE (by rfl)|exact qF (by rfl)|exact Fit.refl _|exact qG _|refine qC ?_ rfl ?_)))
         try cbv)
      |fail)
  all_goals first
    |trivial
    |((try simp only [qV]at *);(try simp only [zQ,zA,zB,zC,zD,zE,zF,zG,zH,zI,zJ,zK,zL,zM,zN,zO,zP,zR,zS]at *);first|(refine qN ?_;omega)|(simp only [Hold];omega))
    |(subst hR;(repeat' (first|exact qA|exact qB|refine qC ?_ rfl ?_|refine qD ?_ ?_|exact qE (by rfl)|exact qF (by rfl)|exact Fit.refl _|exact qG _|(refine qE ?_;(try simp only [qV]at *);simp only [zQ,zA,zB,zC,zD,zE,zF,zG,zH,zI,zJ,zK,zL,zM,zN,zO,zP,zR,zS]at *;omega)));done)
    |(subst hB;(repeat' (first|exact qH|refine qI ?_ ?_|exact qK _|refine qJ ?_|exact qA|exact qE (by rfl)|exact qF (by rfl)|exact Fit.refl _|exact qG _|refine qC ?_ rfl ?_));done)
    |skip
theorem idx121_bl (tw tm:List Int)(tv:List (List Int))(rate:Int)(cs:List Csk)(l:List Int)(most:Int)(hc:cs.length≤1000)(hm:most=zi cs.length-1)(hfew:l.length≤1000):FSpec Try.prog 121 [(.sl 1 (.sym fun _=>zi (l).length) (fun ix=>[.int .i64 (.sym fun _=>(l).getD ix.den.toNat 0)])),.clo 105 [] [.own 0 0]] [.cells [.clo 89 [] [.own 1 0,.own 2 0]] 139,.cells [(.int .i64 (.sym fun _=>lastAt l (0)))] 3,.cells [(wrkS tw tm tv rate cs)] 105] (fun r bs=>r=(.int .i64 (.sym fun _=>fidx (fun i=>entP l most (i)) (l.length) 0))∧bs=[.cells [.clo 89 [] [.own 1 0,.own 2 0]] 139,.cells [.any] 3,.cells [(wrkS tw tm tv rate cs)] 105]):=by
  have cl:=lam105_bl tw tm tv rate cs l most hc hm hfew
  refine FSpec.isB rfl fun R B hR hB=>qW (sc:=sc121) tyok mix Try.func121 rfl Try.call121 (by kernel_rfl) (by kernel_rfl) ?_
  generalize Try.prog=P at cl⊢
  cbv
  repeat' (first
      |with_reducible refine hold ?_ ?_
      |with_reducible refine And.intro ?_ ?_
      | (with_reducible refine qS ?_ ?_ ?_
         try cbv)
      | (with_reducible refine qT ?_ ?_
         try cbv)
      |(with_reducible intro hcd;(try simp only [zA,zB,zC,zD,zE,zF,zG,zH,zI,zJ,zK,zL,zM,zN,zO,zP]at hcd);try cbv)
      |fail)
  all_goals first
    |trivial
    |((try simp only [qV]at *);(try simp only [zQ,zA,zB,zC,zD,zE,zF,zG,zH,zI,zJ,zK,zL,zM,zN,zO,zP,zR,zS]at *);first|(refine qN ?_;omega)|(simp only [Hold];omega))
    |skip
  refine⟨none,[],{i:Nat // i≤l.length∧fidx (fun i=>entP l most (i)) (l.length) 0=fidx (fun i=>entP l most (i)) (l.length-i) i∧∀j,j<i→(entP l most (j))=true},fun x=>⟨[(0,(.sl 1 (.sym fun _=>zi (l).length) (fun ix=>[.int .i64 (.sym fun _=>(l).getD ix.den.toNat 0)]))),(1,.clo 105 [] [.own 0 0]),(7,(.int .i64 (.sym fun _=>zi (l.length)))),(8,(.int .i64 (.sym fun _=>zi x.1)))],[(0,.cells [.clo 89 [] [.own 1 0,.own 2 0]] 139),(1,.cells [(.int .i64 (.sym fun _=>lastAt l (x.1)))] 3),(2,.cells [(wrkS tw tm tv rate cs)] 105)],20⟩,fun x=>l.length-x.1,?_,?_⟩
  · refine⟨⟨0,by omega,rfl,fun j hj=>by omega⟩,?_⟩
    cbv
    repeat' (first
      |with_reducible refine hold ?_ ?_
      |with_reducible refine And.intro ?_ ?_)
    all_goals first
      |trivial
      |exact qM (qE (by rfl))
      |exact qM (qF (by rfl))
      |exact qM (Fit.refl _)
      |exact qL (qK _)
      |(refine qM (qE ?_);(try simp only [qV]at *);simp only [zQ,zA,zB,zC,zD,zE,zF,zG,zH,zI,zJ,zK,zL,zM,zN,zO,zP,zR,zS]at *;omega)
      |(refine qL (qJ ?_);(repeat' (first|exact qA|exact qB|refine qC ?_ rfl ?_|refine qD ?_ ?_|exact qE (by rfl)|exact qF (by rfl)|exact Fit.refl _|exact qG _|(refine qE ?_;(try simp only [qV]at *);simp only [zQ,zA,zB,zC,zD,zE,zF,zG,zH,zI,zJ,zK,zL,zM,zN,zO,zP,zR,zS]at *;omega)));done)
      |skip
  · rintro ⟨i,hi,hr,hq⟩
    cbv
    repeat' (first
        |with_reducible refine hold ?_ ?_
        |with_reducible refine And.intro ?_ ?_
        | (with_reducible refine qS ?_ ?_ ?_
           try cbv)
        | (with_reducible refine qT ?_ ?_
           try cbv)
        |(with_reducible intro hcd;(try simp only [zA,zB,zC,zD,zE,zF,zG,zH,zI,zJ,zK,zL,zM,zN,zO,zP]at hcd);try cbv)
        | (refine⟨some [0,1,2],?_⟩
           cbv
           refine qQ ?_ (cl i ⟨by(try simp only [qV]at *);simp only [zi_den]at *;omega,hq⟩) (by cbv;(repeat' (first|exact qB|refine qD ?_ ?_|exact qE (by rfl)|exact qF (by rfl)|exact Fit.refl _|exact qA|refine qC ?_ rfl ?_))) (by cbv;(repeat' (first|exact qH|refine qI ?_ ?_|exact qK _|refine qJ ?_|exact qA|exact qE (by rfl)|exact qF (by rfl)|exact Fit.refl _|exact qG _|refine qC ?_ rfl ?_)))
           try cbv)
        |fail)
    all_goals first
      |trivial
      |((try simp only [qV]at *);(try simp only [zQ,zA,zB,zC,zD,zE,zF,zG,zH,zI,zJ,zK,zL,zM,zN,zO,zP,zR,zS]at *);first|(refine qN ?_;omega)|(simp only [Hold];omega))
      |(subst hR;(refine qE ?_;simp only [zQ,zA,zB,zC,zD,zE,zF,zG,zH,zI,zJ,zK,zL,zM,zN,zO,zP,zR,zS]at *;rw [hr,fidx_stop (by omega) hcd]);done)
      |(subst hR;(refine qE ?_;simp only [zQ,zA,zB,zC,zD,zE,zF,zG,zH,zI,zJ,zK,zL,zM,zN,zO,zP,zR,zS]at *;rw [hr,show l.length-i=0 by omega];rfl);done)
      |(subst hB;(repeat' (first|exact qH|refine qI ?_ ?_|exact qK _|refine qJ ?_|exact qA|exact qE (by rfl)|exact qF (by rfl)|exact Fit.refl _|exact qG _|refine qC ?_ rfl ?_));done)
      |((try simp only [zQ,zA,zB,zC,zD,zE,zF,zG,zH,zI,zJ,zK,zL,zM,zN,zO,zP,zR,zS]at *);refine⟨⟨i+1,by omega,by rw [hr,fidx_go (by omega) hcd];(try congr 1)<;>omega,fun j hj=>(Nat.lt_or_ge j i).elim (hq j) (fun q=>by rw [show j=i by omega];exact hcd)⟩,by simp only [];omega,?_⟩;cbv;(repeat' (first|with_reducible refine hold ?_ ?_|with_reducible refine And.intro ?_ ?_));(all_goals first|trivial|exact qM (qE (by rfl))|exact qM (qF (by rfl))|exact qM (Fit.refl _)|exact qL (qK _)|(refine qM (qE ?_);(try simp only [qV]at *);simp only [zQ,zA,zB,zC,zD,zE,zF,zG,zH,zI,zJ,zK,zL,zM,zN,zO,zP,zR,zS]at *;omega)|(refine qL (qJ ?_);(repeat' (first|exact qA|exact qB|refine qC ?_ rfl ?_|refine qD ?_ ?_|exact qE (by rfl)|exact qF (by rfl)|exact Fit.refl _|exact qG _|(refine qE ?_;(try simp only [qV]at *);simp only [zQ,zA,zB,zC,zD,zE,zF,zG,zH,zI,zJ,zK,zL,zM,zN,zO,zP,zR,zS]at *;omega)));done)|skip))
      |skip
theorem cont104_bl (tw tm:List Int)(tv:List (List Int))(rate:Int)(cs:List Csk)(l:List Int)(most:Int)(hc:cs.length≤1000)(hm:most=zi cs.length-1)(hfew:l.length≤1000):FSpec Try.prog 104 [(.sl 1 (.sym fun _=>zi (l).length) (fun ix=>[.int .i64 (.sym fun _=>(l).getD ix.den.toNat 0)])),.clo 105 [] [.own 0 0]] [.cells [.clo 89 [] [.own 1 0,.own 2 0]] 139,.cells [(.int .i64 (.sym fun _=>lastAt l (0)))] 3,.cells [(wrkS tw tm tv rate cs)] 105] (fun r bs=>r=(.bool (.sym fun _=>decide (0≤fidx (fun i=>entP l most (i)) (l.length) 0)))∧bs=[.cells [.clo 89 [] [.own 1 0,.own 2 0]] 139,.cells [.any] 3,.cells [(wrkS tw tm tv rate cs)] 105]):=by
  have ci:=idx121_bl tw tm tv rate cs l most hc hm hfew
  refine FSpec.isB rfl fun R B hR hB=>qW (sc:=sc104) tyok mix Try.func104 rfl Try.call104 (by kernel_rfl) (by kernel_rfl) ?_
  generalize Try.prog=P at ci⊢
  cbv
  repeat' (first
      |with_reducible refine hold ?_ ?_
      |with_reducible refine And.intro ?_ ?_
      | (with_reducible refine qS ?_ ?_ ?_
         try cbv)
      | (with_reducible refine qT ?_ ?_
         try cbv)
      |(with_reducible intro hcd;(try simp only [zA,zB,zC,zD,zE,zF,zG,zH,zI,zJ,zK,zL,zM,zN,zO,zP]at hcd);try cbv)
      | (refine⟨some [0,1,2],?_⟩
         cbv
         refine qQ ?_ (ci) (by cbv;(repeat' (first|exact qB|refine qD ?_ ?_|exact qE (by rfl)|exact qF (by rfl)|exact Fit.refl _|exact qA|refine qC ?_ rfl ?_))) (by cbv;(repeat' (first|exact qH|refine qI ?_ ?_|exact qK _|refine qJ ?_|exact qA|exact qE (by rfl)|exact qF (by rfl)|exact Fit.refl _|exact qG _|refine qC ?_ rfl ?_)))
         try cbv)
      |fail)
  all_goals first
    |trivial
    |((try simp only [qV]at *);(try simp only [zQ,zA,zB,zC,zD,zE,zF,zG,zH,zI,zJ,zK,zL,zM,zN,zO,zP,zR,zS]at *);first|(refine qN ?_;omega)|(simp only [Hold];omega))
    |(subst hR;(repeat' (first|exact qA|exact qB|refine qC ?_ rfl ?_|refine qD ?_ ?_|exact qE (by rfl)|exact qF (by rfl)|exact Fit.refl _|exact qG _|(refine qE ?_;(try simp only [qV]at *);simp only [zQ,zA,zB,zC,zD,zE,zF,zG,zH,zI,zJ,zK,zL,zM,zN,zO,zP,zR,zS]at *;omega)));done)
    |(subst hB;(repeat' (first|exact qH|refine qI ?_ ?_|exact qK _|refine qJ ?_|exact qA|exact qE (by rfl)|exact qF (by rfl)|exact Fit.refl _|exact qG _|refine qC ?_ rfl ?_));done)
    |skip
theorem all88_bl (tw tm:List Int)(tv:List (List Int))(rate:Int)(cs:List Csk)(l:List Int)(most:Int)(hc:cs.length≤1000)(hm:most=zi cs.length-1)(hfew:l.length≤1000):FSpec Try.prog 88 [(.sl 1 (.sym fun _=>zi (l).length) (fun ix=>[.int .i64 (.sym fun _=>(l).getD ix.den.toNat 0)])),.clo 89 [] [.own 0 0,.own 1 0]] [.cells [(.int .i64 (.sym fun _=>lastAt l (0)))] 3,.cells [(wrkS tw tm tv rate cs)] 105] (fun r bs=>r=(.bool (.sym fun _=> !(decide (0≤fidx (fun i=>entP l most (i)) (l.length) 0))))∧bs=[.cells [.any] 3,.cells [(wrkS tw tm tv rate cs)] 105]):=by
  have cc:=cont104_bl tw tm tv rate cs l most hc hm hfew
  refine FSpec.isB rfl fun R B hR hB=>qW (sc:=sc88) tyok mix Try.func88 rfl Try.call88 (by kernel_rfl) (by kernel_rfl) ?_
  generalize Try.prog=P at cc⊢
  cbv
  repeat' (first
      |with_reducible refine hold ?_ ?_
      |with_reducible refine And.intro ?_ ?_
      | (with_reducible refine qS ?_ ?_ ?_
         try cbv)
      | (with_reducible refine qT ?_ ?_
         try cbv)
      |(with_reducible intro hcd;(try simp only [zA,zB,zC,zD,zE,zF,zG,zH,zI,zJ,zK,zL,zM,zN,zO,zP]at hcd);try cbv)
      | (refine⟨some [2,0,1],?_⟩
         cbv
         refine qQ ?_ (cc) (by cbv;(repeat' (first|exact qB|refine qD ?_ ?_|exact qE (by rfl)|exact qF (by rfl)|exact Fit.refl _|exact qA|refine qC ?_ rfl ?_))) (by cbv;(repeat' (first|exact qH|refine qI ?_ ?_|exact qK _|refine qJ ?_|exact qA|exact qE (by rfl)|exact qF (by rfl)|exact Fit.refl _|exact qG _|refine qC ?_ rfl ?_)))
         try cbv)
      |fail)
  all_goals first
    |trivial
    |((try simp only [qV]at *);(try simp only [zQ,zA,zB,zC,zD,zE,zF,zG,zH,zI,zJ,zK,zL,zM,zN,zO,zP,zR,zS]at *);first|(refine qN ?_;omega)|(simp only [Hold];omega))
    |(subst hR;(repeat' (first|exact qA|exact qB|refine qC ?_ rfl ?_|refine qD ?_ ?_|exact qE (by rfl)|exact qF (by rfl)|exact Fit.refl _|exact qG _|(refine qE ?_;(try simp only [qV]at *);simp only [zQ,zA,zB,zC,zD,zE,zF,zG,zH,zI,zJ,zK,zL,zM,zN,zO,zP,zR,zS]at *;omega)));done)
    |(subst hB;(repeat' (first|exact qH|refine qI ?_ ?_|exact qK _|refine qJ ?_|exact qA|exact qE (by rfl)|exact qF (by rfl)|exact Fit.refl _|exact qG _|refine qC ?_ rfl ?_));done)
    |skip
theorem blended63 (tw tm:List Int)(tv:List (List Int))(rate:Int)(cs:List Csk)(l:List Int)(hc:cs.length≤1000)(hl:l.length≤1000):FSpec Try.prog 63 [(wrkS tw tm tv rate cs),(.sl 1 (.sym fun _=>zi (l).length) (fun ix=>[.int .i64 (.sym fun _=>(l).getD ix.den.toNat 0)]))] [] (fun r _=>r=(.bool (.sym fun _=>blendB cs.length l))):=by
  have ca:=all88_bl tw tm tv rate cs l (zi cs.length-1) hc rfl hl
  refine FSpec.is fun R hR=>qW (sc:=sc63) tyok mix Try.func63 rfl Try.call63 (by kernel_rfl) (by kernel_rfl) ?_
  generalize Try.prog=P at ca⊢
  cbv
  repeat' (first
      |with_reducible refine hold ?_ ?_
      |with_reducible refine And.intro ?_ ?_
      | (with_reducible refine qS ?_ ?_ ?_
         try cbv)
      | (with_reducible refine qT ?_ ?_
         try cbv)
      |(with_reducible intro hcd;(try simp only [zA,zB,zC,zD,zE,zF,zG,zH,zI,zJ,zK,zL,zM,zN,zO,zP]at hcd);try cbv)
      | (refine⟨some [2,0],?_⟩
         cbv
         refine qQ ?_ (ca) (by cbv;(repeat' (first|exact qB|refine qD ?_ ?_|exact qE (by rfl)|exact qF (by rfl)|exact Fit.refl _|exact qA|refine qC ?_ rfl ?_))) (by cbv;(repeat' (first|exact qH|refine qI ?_ ?_|exact qK _|refine qJ ?_|exact qA|exact qE (by rfl)|exact qF (by rfl)|exact Fit.refl _|exact qG _|refine qC ?_ rfl ?_)))
         try cbv)
      |fail)
  all_goals first
    |trivial
    |((try simp only [qV]at *);(try simp only [zQ,zA,zB,zC,zD,zE,zF,zG,zH,zI,zJ,zK,zL,zM,zN,zO,zP,zR,zS]at *);first|(refine qN ?_;omega)|(simp only [Hold];omega))
    |(subst hR;(refine qF ?_;simp only [zC];rw [all_iff];(have hbe:=blend_ent (n:=cs.length) (l:=l));(try simp only [qV]at *);(try simp only [zQ,zA,zB,zC,zD,zE,zF,zG,zH,zI,zJ,zK,zL,zM,zN,zO,zP,zR,zS]at *);rw [←hbe];(have h2:0<l.length:=(by omega));rw [decide_eq_true h2,Bool.true_and];exact decide_eq_decide.2 Iff.rfl);done)
    |(subst hR;(refine qF ?_;(have hbe:=blend_ent (n:=cs.length) (l:=l));(try simp only [qV]at *);(try simp only [zQ,zA,zB,zC,zD,zE,zF,zG,zH,zI,zJ,zK,zL,zM,zN,zO,zP,zR,zS]at *);rw [←hbe];have h2:¬0<l.length:=(by omega);simp [h2]);done)
    |skip
end Go.Proofs.Ytkdgpdlfakcgdaa

namespace Go.Proofs.Ytkdgpdlfakcgdaa
def sp2 (cs:List Csk)(l:List Int)(lo hi:Nat→Int)(n j:Nat):Int:=if j=0 then spiP cs l lo n else spiP cs l hi n
def sp1 (cs:List Csk)(l:List Int)(lo hi:Nat→Int)(n j:Nat):Int:=if j=0 then spiP cs l lo (n+1)else spiP cs l hi n
theorem sp1_new {cs:List Csk} {l:List Int} {lo hi:Nat→Int} {n j:Nat}(h:j=0):sp2 cs l lo hi n 0+(cs.getD (l.getD n 0).toNat ck0).g*lo (l.getD n 0).toNat=sp1 cs l lo hi n j:=by
  subst h;simp [sp1,sp2,spiP]
theorem sp1_old {cs:List Csk} {l:List Int} {lo hi:Nat→Int} {n j:Nat}(h:j≠0):sp2 cs l lo hi n j=sp1 cs l lo hi n j:=by
  simp [sp1,sp2,h]
theorem sp2_new {cs:List Csk} {l:List Int} {lo hi:Nat→Int} {n j:Nat}(h:j=1):sp1 cs l lo hi n 1+(cs.getD (l.getD n 0).toNat ck0).g*hi (l.getD n 0).toNat=sp2 cs l lo hi (n+1) j:=by
  subst h;simp [sp1,sp2,spiP]
theorem sp2_old {cs:List Csk} {l:List Int} {lo hi:Nat→Int} {n j:Nat}(h:j=0):sp1 cs l lo hi n j=sp2 cs l lo hi (n+1) j:=by
  subst h;simp [sp1,sp2]
theorem sp_bd {cs:List Csk} {l:List Int} {lo hi:Nat→Int}(hg:∀i,i<cs.length→1≤(cs.getD i ck0).g∧(cs.getD i ck0).g≤99)(hl:InCs cs.length l)(hr:∀j,j<cs.length→0≤lo j∧lo j≤2000∧0≤hi j∧hi j≤2000):
    ∀n,n≤l.length→(0≤spiP cs l lo n∧spiP cs l lo n≤198000*n)∧0≤spiP cs l hi n∧spiP cs l hi n≤198000*n:=by
  have hlo:∀n,n≤l.length→spiP cs l lo n=spiP cs l (fun j=>if j<cs.length then lo j else 0) n:=spi_congr hl fun j hj=>by simp [hj]
  have hhi:∀n,n≤l.length→spiP cs l hi n=spiP cs l (fun j=>if j<cs.length then hi j else 0) n:=spi_congr hl fun j hj=>by simp [hj]
  intro n hn
  rw [hlo n hn,hhi n hn]
  exact⟨spi_bd hg hl (fun j=>by split<;>(try have:=hr j (by assumption))<;>omega) n hn,spi_bd hg hl (fun j=>by split<;>(try have:=hr j (by assumption))<;>omega) n hn⟩
end Go.Proofs.Ytkdgpdlfakcgdaa

namespace Go.Proofs.Ytkdgpdlfakcgdaa
def firstOf (f:Nat→Option (List Int)):Nat→Nat→Option (List Int)
  |0,_=>none
  | k+1,i=>match f i with
    |some r=>some r
    |none=>firstOf f k (i+1)
theorem firstOf_hit {f:Nat→Option (List Int)} {k i:Nat} {r:List Int}(hk:0<k)(h:f i=some r):firstOf f k i=some r:=by
  cases k with
  |zero=>omega
  |succ k=>simp only [firstOf,h]
theorem firstOf_go {f:Nat→Option (List Int)} {k i:Nat}(hk:0<k)(h:f i=none):firstOf f k i=firstOf f (k-1) (i+1):=by
  cases k with
  |zero=>omega
  |succ k=>simp only [firstOf,h,Nat.add_sub_cancel]
def chooseL (n:Nat)(ok:List Int→Bool):Nat→List Int→Nat→Option (List Int)
  |0,l,_=>if ok l=true then some l else none
  |m+1,l,i=>firstOf (fun j=>chooseL n ok m (l++[(j:Int)]) (j+1)) (n-m-i) i
def fewP (n:Nat)(ok:List Int→Bool):Option (List Int):=firstOf (fun m=>chooseL n ok (m+1) [] 0) n 0
end Go.Proofs.Ytkdgpdlfakcgdaa

namespace Go.Proofs.Ytkdgpdlfakcgdaa
open Go Go.Eng Go.Proofs
set_option maxRecDepth 10000
theorem clone69 (l:List Int)(hl:l.length≤1000):FSpecN Try.prog 69 [(.sl 1 (.sym fun _=>zi (l).length) (fun ix=>[.int .i64 (.sym fun _=>(l).getD ix.den.toNat 0)]))] [] (fun r bs=>r = .row 0∧bs=[.row 3 1 (.sym fun _=>zi l.length) (fun ix=>[.int .i64 (.sym fun _=>l.getD ix.den.toNat 0)])]):=by
  refine FSpecN.is rfl rfl fun R B hR hB=>fspecN_vc (sc:=sc69) tyok mix Try.func69 rfl Try.call69 (by kernel_rfl) (by kernel_rfl) ?_
  generalize Try.prog=P
  cbv
  repeat' (first
      |with_reducible refine hold ?_ ?_
      |with_reducible refine And.intro ?_ ?_
      | (with_reducible refine qS ?_ ?_ ?_
         try cbv)
      | (with_reducible refine qT ?_ ?_
         try cbv)
      |(with_reducible intro hcd;(try simp only [zA,zB,zC,zD,zE,zF,zG,zH,zI,zJ,zK,zL,zM,zN,zO,zP]at hcd);try cbv)
      | (refine⟨intsE l,?_⟩
         cbv
         refine hold (hold_rowapp (fun ix jx h0 h1 h2=>(by exfalso;(try simp only [qV]at *);(try simp only [zQ,zA,zB,zC,zD,zE,zF,zG,zH,zI,zJ,zK,zL,zM,zN,zO,zP,zR,zS]at *);omega)) (fun ix jx h0 h1 h2=>qC (qE (by simp only [den_sym];rw [h2];simp)) rfl qA) (by(try simp only [qV]at *);(try simp only [zQ,zA,zB,zC,zD,zE,zF,zG,zH,zI,zJ,zK,zL,zM,zN,zO,zP,zR,zS]at *);omega)) (Or.inl ?_)
         try cbv)
      |(with_reducible intro hcd;(try simp only [zA,zB,zC,zD,zE,zF,zG,zH,zI,zJ,zK,zL,zM,zN,zO,zP]at hcd);try cbv)
      |fail)
  all_goals first
    |trivial
    |((try simp only [qV]at *);(try simp only [zQ,zA,zB,zC,zD,zE,zF,zG,zH,zI,zJ,zK,zL,zM,zN,zO,zP,zR,zS]at *);first|(refine qN ?_;omega)|(simp only [Hold];omega))
    |(refine⟨[⟨.tmp 2,3,1⟩],(4:Nat),?_⟩;cbv;subst hR;subst hB;refine⟨?_,?_⟩;(first|exact Fit.refl _|((repeat' (first|exact qA|exact qB|refine qC ?_ rfl ?_|refine qD ?_ ?_|exact qE (by rfl)|exact qF (by rfl)|exact Fit.refl _|exact qG _|(refine qE ?_;(try simp only [qV]at *);simp only [zQ,zA,zB,zC,zD,zE,zF,zG,zH,zI,zJ,zK,zL,zM,zN,zO,zP,zR,zS]at *;omega)));done));(repeat' (first|exact qH|refine qI ?_ ?_));(all_goals first|exact qK _|(refine qJ ?_;(repeat' (first|exact qA|exact qB|refine qC ?_ rfl ?_|refine qD ?_ ?_|exact qE (by rfl)|exact qF (by rfl)|exact Fit.refl _|exact qG _|(refine qE ?_;(try simp only [qV]at *);simp only [zQ,zA,zB,zC,zD,zE,zF,zG,zH,zI,zJ,zK,zL,zM,zN,zO,zP,zR,zS]at *;omega)));done)|(refine ble_row ?_ ?_;(first|rfl|((try simp only [qV]at *);(try simp only [zQ,zA,zB,zC,zD,zE,zF,zG,zH,zI,zJ,zK,zL,zM,zN,zO,zP,zR,zS]at *);omega));intro ix h0 h1;first|exact Fit.refl _|(exfalso;(try simp only [qV]at *);(try simp only [zQ,zA,zB,zC,zD,zE,zF,zG,zH,zI,zJ,zK,zL,zM,zN,zO,zP,zR,zS]at *);omega))))
    |(refine⟨[],(4:Nat),?_⟩;cbv;subst hR;subst hB;refine⟨?_,?_⟩;(first|exact Fit.refl _|((repeat' (first|exact qA|exact qB|refine qC ?_ rfl ?_|refine qD ?_ ?_|exact qE (by rfl)|exact qF (by rfl)|exact Fit.refl _|exact qG _|(refine qE ?_;(try simp only [qV]at *);simp only [zQ,zA,zB,zC,zD,zE,zF,zG,zH,zI,zJ,zK,zL,zM,zN,zO,zP,zR,zS]at *;omega)));done));(repeat' (first|exact qH|refine qI ?_ ?_));(all_goals first|exact qK _|(refine qJ ?_;(repeat' (first|exact qA|exact qB|refine qC ?_ rfl ?_|refine qD ?_ ?_|exact qE (by rfl)|exact qF (by rfl)|exact Fit.refl _|exact qG _|(refine qE ?_;(try simp only [qV]at *);simp only [zQ,zA,zB,zC,zD,zE,zF,zG,zH,zI,zJ,zK,zL,zM,zN,zO,zP,zR,zS]at *;omega)));done)|(refine ble_row ?_ ?_;(first|rfl|((try simp only [qV]at *);(try simp only [zQ,zA,zB,zC,zD,zE,zF,zG,zH,zI,zJ,zK,zL,zM,zN,zO,zP,zR,zS]at *);omega));intro ix h0 h1;first|exact Fit.refl _|(exfalso;(try simp only [qV]at *);(try simp only [zQ,zA,zB,zC,zD,zE,zF,zG,zH,zI,zJ,zK,zL,zM,zN,zO,zP,zR,zS]at *);omega))))
    |(refine⟨[],(5:Nat),?_⟩;cbv;subst hR;subst hB;refine⟨?_,?_⟩;(first|exact Fit.refl _|((repeat' (first|exact qA|exact qB|refine qC ?_ rfl ?_|refine qD ?_ ?_|exact qE (by rfl)|exact qF (by rfl)|exact Fit.refl _|exact qG _|(refine qE ?_;(try simp only [qV]at *);simp only [zQ,zA,zB,zC,zD,zE,zF,zG,zH,zI,zJ,zK,zL,zM,zN,zO,zP,zR,zS]at *;omega)));done));(repeat' (first|exact qH|refine qI ?_ ?_));(all_goals first|exact qK _|(refine qJ ?_;(repeat' (first|exact qA|exact qB|refine qC ?_ rfl ?_|refine qD ?_ ?_|exact qE (by rfl)|exact qF (by rfl)|exact Fit.refl _|exact qG _|(refine qE ?_;(try simp only [qV]at *);simp only [zQ,zA,zB,zC,zD,zE,zF,zG,zH,zI,zJ,zK,zL,zM,zN,zO,zP,zR,zS]at *;omega)));done)|(refine ble_row ?_ ?_;(first|rfl|((try simp only [qV]at *);(try simp only [zQ,zA,zB,zC,zD,zE,zF,zG,zH,zI,zJ,zK,zL,zM,zN,zO,zP,zR,zS]at *);omega));intro ix h0 h1;first|exact Fit.refl _|(exfalso;(try simp only [qV]at *);(try simp only [zQ,zA,zB,zC,zD,zE,zF,zG,zH,zI,zJ,zK,zL,zM,zN,zO,zP,zR,zS]at *);omega))))
    |(refine⟨[],(6:Nat),?_⟩;cbv;subst hR;subst hB;refine⟨?_,?_⟩;(first|exact Fit.refl _|((repeat' (first|exact qA|exact qB|refine qC ?_ rfl ?_|refine qD ?_ ?_|exact qE (by rfl)|exact qF (by rfl)|exact Fit.refl _|exact qG _|(refine qE ?_;(try simp only [qV]at *);simp only [zQ,zA,zB,zC,zD,zE,zF,zG,zH,zI,zJ,zK,zL,zM,zN,zO,zP,zR,zS]at *;omega)));done));(repeat' (first|exact qH|refine qI ?_ ?_));(all_goals first|exact qK _|(refine qJ ?_;(repeat' (first|exact qA|exact qB|refine qC ?_ rfl ?_|refine qD ?_ ?_|exact qE (by rfl)|exact qF (by rfl)|exact Fit.refl _|exact qG _|(refine qE ?_;(try simp only [qV]at *);simp only [zQ,zA,zB,zC,zD,zE,zF,zG,zH,zI,zJ,zK,zL,zM,zN,zO,zP,zR,zS]at *;omega)));done)|(refine ble_row ?_ ?_;(first|rfl|((try simp only [qV]at *);(try simp only [zQ,zA,zB,zC,zD,zE,zF,zG,zH,zI,zJ,zK,zL,zM,zN,zO,zP,zR,zS]at *);omega));intro ix h0 h1;first|exact Fit.refl _|(exfalso;(try simp only [qV]at *);(try simp only [zQ,zA,zB,zC,zD,zE,zF,zG,zH,zI,zJ,zK,zL,zM,zN,zO,zP,zR,zS]at *);omega))))
    |(refine⟨[],(7:Nat),?_⟩;cbv;subst hR;subst hB;refine⟨?_,?_⟩;(first|exact Fit.refl _|((repeat' (first|exact qA|exact qB|refine qC ?_ rfl ?_|refine qD ?_ ?_|exact qE (by rfl)|exact qF (by rfl)|exact Fit.refl _|exact qG _|(refine qE ?_;(try simp only [qV]at *);simp only [zQ,zA,zB,zC,zD,zE,zF,zG,zH,zI,zJ,zK,zL,zM,zN,zO,zP,zR,zS]at *;omega)));done));(repeat' (first|exact qH|refine qI ?_ ?_));(all_goals first|exact qK _|(refine qJ ?_;(repeat' (first|exact qA|exact qB|refine qC ?_ rfl ?_|refine qD ?_ ?_|exact qE (by rfl)|exact qF (by rfl)|exact Fit.refl _|exact qG _|(refine qE ?_;(try simp only [qV]at *);simp only [zQ,zA,zB,zC,zD,zE,zF,zG,zH,zI,zJ,zK,zL,zM,zN,zO,zP,zR,zS]at *;omega)));done)|(refine ble_row ?_ ?_;(first|rfl|((try simp only [qV]at *);(try simp only [zQ,zA,zB,zC,zD,zE,zF,zG,zH,zI,zJ,zK,zL,zM,zN,zO,zP,zR,zS]at *);omega));intro ix h0 h1;first|exact Fit.refl _|(exfalso;(try simp only [qV]at *);(try simp only [zQ,zA,zB,zC,zD,zE,zF,zG,zH,zI,zJ,zK,zL,zM,zN,zO,zP,zR,zS]at *);omega))))
    |((try simp only [qV]at *);(try simp only [zQ,zA,zB,zC,zD,zE,zF,zG,zH,zI,zJ,zK,zL,zM,zN,zO,zP,zR,zS]at *);simp only [Hold];omega)
    |skip
end Go.Proofs.Ytkdgpdlfakcgdaa

namespace Go.Proofs.Ytkdgpdlfakcgdaa
open Go Go.Eng Go.Proofs
set_option maxRecDepth 10000
theorem ends91 :FSpec Try.prog 91 [] [] (fun r _=>r=(.agg [.clo 107 [] [],.clo 108 [] []])):=by
  refine FSpec.is fun R hR=>qW (sc:=sc91) tyok mix Try.func91 rfl Try.call91 (by kernel_rfl) (by kernel_rfl) ?_
  generalize Try.prog=P
  cbv
  repeat' (first
      |with_reducible refine hold ?_ ?_
      |with_reducible refine And.intro ?_ ?_
      | (with_reducible refine qS ?_ ?_ ?_
         try cbv)
      | (with_reducible refine qT ?_ ?_
         try cbv)
      |(with_reducible intro hcd;(try simp only [zA,zB,zC,zD,zE,zF,zG,zH,zI,zJ,zK,zL,zM,zN,zO,zP]at hcd);try cbv)
      |fail)
  all_goals first
    |trivial
    |((try simp only [qV]at *);(try simp only [zQ,zA,zB,zC,zD,zE,zF,zG,zH,zI,zJ,zK,zL,zM,zN,zO,zP,zR,zS]at *);first|(refine qN ?_;omega)|(simp only [Hold];omega))
    |(subst hR;(repeat' (first|exact qA|exact qB|refine qC ?_ rfl ?_|refine qD ?_ ?_|exact qE (by rfl)|exact qF (by rfl)|exact Fit.refl _|exact qG _|(refine qE ?_;(try simp only [qV]at *);simp only [zQ,zA,zB,zC,zD,zE,zF,zG,zH,zI,zJ,zK,zL,zM,zN,zO,zP,zR,zS]at *;omega)));done)
    |(subst hR;exact Fit.refl _;done)
    |skip
theorem of90 (tw tm:List Int)(tv:List (List Int))(rate:Int)(cs:List Csk)(l:List Int)(water:Int):FSpec Try.prog 90 [(wrkS tw tm tv rate cs),(.agg [(.sl 1 (.sym fun _=>zi (l).length) (fun ix=>[.int .i64 (.sym fun _=>(l).getD ix.den.toNat 0)])),(.int .i64 (.sym fun _=>water))])] [] (fun r _=>r = .clo 106 [] [.pp 0 [(.sl 1 (.sym fun _=>zi (l).length) (fun ix=>[.int .i64 (.sym fun _=>(l).getD ix.den.toNat 0)])),(.int .i64 (.sym fun _=>water))],.pp 0 [(wrkS tw tm tv rate cs)]]):=by
  refine FSpec.is fun R hR=>qW (sc:=sc90) tyok mix Try.func90 rfl Try.call90 (by kernel_rfl) (by kernel_rfl) ?_
  generalize Try.prog=P
  cbv
  repeat' (first
      |with_reducible refine hold ?_ ?_
      |with_reducible refine And.intro ?_ ?_
      | (with_reducible refine qS ?_ ?_ ?_
         try cbv)
      | (with_reducible refine qT ?_ ?_
         try cbv)
      |(with_reducible intro hcd;(try simp only [zA,zB,zC,zD,zE,zF,zG,zH,zI,zJ,zK,zL,zM,zN,zO,zP]at hcd);try cbv)
      |fail)
  all_goals first
    |trivial
    |((try simp only [qV]at *);(try simp only [zQ,zA,zB,zC,zD,zE,zF,zG,zH,zI,zJ,zK,zL,zM,zN,zO,zP,zR,zS]at *);first|(refine qN ?_;omega)|(simp only [Hold];omega))
    |(subst hR;(repeat' (first|exact qA|exact qB|refine qC ?_ rfl ?_|refine qD ?_ ?_|exact qE (by rfl)|exact qF (by rfl)|exact Fit.refl _|exact qG _|(refine qE ?_;(try simp only [qV]at *);simp only [zQ,zA,zB,zC,zD,zE,zF,zG,zH,zI,zJ,zK,zL,zM,zN,zO,zP,zR,zS]at *;omega)));done)
    |(subst hR;exact Fit.refl _;done)
    |skip
theorem of106 (tw tm:List Int)(tv:List (List Int))(rate:Int)(cs:List Csk)(l:List Int)(water:Int)(hl:InCs cs.length l):ISpec Try.prog 106 [.pp 0 [(.sl 1 (.sym fun _=>zi (l).length) (fun ix=>[.int .i64 (.sym fun _=>(l).getD ix.den.toNat 0)])),(.int .i64 (.sym fun _=>water))],.pp 0 [(wrkS tw tm tv rate cs)]] l.length (fun n:Nat=>[(.int .i64 (.sym fun _=>l.getD n 0)),(.agg [(.int .i64 (.sym fun _=>(cs.getD (l.getD n 0).toNat ck0).g)),(.int .i64 (.sym fun _=>(cs.getD (l.getD n 0).toNat ck0).wl)),(.int .i64 (.sym fun _=>(cs.getD (l.getD n 0).toNat ck0).wh)),(.int .i64 (.sym fun _=>(cs.getD (l.getD n 0).toNat ck0).ml)),(.int .i64 (.sym fun _=>(cs.getD (l.getD n 0).toNat ck0).mh))])]):=by
  have hfew:=hl.few
  obtain⟨el,hel⟩:∃el:Nat→List SV,el=(fun n:Nat=>[(.int .i64 (.sym fun _=>l.getD n 0)),(.agg [(.int .i64 (.sym fun _=>(cs.getD (l.getD n 0).toNat ck0).g)),(.int .i64 (.sym fun _=>(cs.getD (l.getD n 0).toNat ck0).wl)),(.int .i64 (.sym fun _=>(cs.getD (l.getD n 0).toNat ck0).wh)),(.int .i64 (.sym fun _=>(cs.getD (l.getD n 0).toNat ck0).ml)),(.int .i64 (.sym fun _=>(cs.getD (l.getD n 0).toNat ck0).mh))])]):=⟨_,rfl⟩
  have help:∀i,el i=[(.int .i64 (.sym fun _=>l.getD i 0)),(.agg [(.int .i64 (.sym fun _=>(cs.getD (l.getD i 0).toNat ck0).g)),(.int .i64 (.sym fun _=>(cs.getD (l.getD i 0).toNat ck0).wl)),(.int .i64 (.sym fun _=>(cs.getD (l.getD i 0).toNat ck0).wh)),(.int .i64 (.sym fun _=>(cs.getD (l.getD i 0).toNat ck0).ml)),(.int .i64 (.sym fun _=>(cs.getD (l.getD i 0).toNat ck0).mh))])]:=fun i=>by rw [hel]
  have hpl:∀i,plainS (.tup (el i))=true:=fun i=>by rw [hel];rfl
  rw [←hel]
  clear hel
  refine(?_:∀L,L=l.length→ISpec Try.prog 106 [.pp 0 [(.sl 1 (.sym fun _=>zi (l).length) (fun ix=>[.int .i64 (.sym fun _=>(l).getD ix.den.toNat 0)])),(.int .i64 (.sym fun _=>water))],.pp 0 [(wrkS tw tm tv rate cs)]] L el) _ rfl
  intro L hL
  refine ispec_of_vc (sc:=sc106) tyok mix Try.func106 rfl Try.call106 (by kernel_rfl) (by kernel_rfl) fun y=> ?_
  generalize Try.prog=P
  refine⟨rfl,rfl,hpl,?_⟩
  cbv
  repeat' (first
      |with_reducible refine hold_done ?_
      |with_reducible refine hold ?_ ?_
      |with_reducible refine And.intro ?_ ?_
      | (with_reducible refine qS ?_ ?_ ?_
         try cbv)
      | (with_reducible refine qT ?_ ?_
         try cbv)
      |(with_reducible intro hcd;(try simp only [zA,zB,zC,zD,zE,zF,zG,zH,zI,zJ,zK,zL,zM,zN,zO,zP]at hcd);try cbv)
      |fail)
  all_goals first
    |trivial
    |((try simp only [qV]at *);(try simp only [zQ,zA,zB,zC,zD,zE,zF,zG,zH,zI,zJ,zK,zL,zM,zN,zO,zP,zR,zS]at *);first|(refine qN ?_;omega)|(simp only [Hold];omega))
    |skip
  refine⟨none,[],{i:Nat // i≤l.length},fun x=>.atg fun _=>x.1,fun x=>⟨[(0,.val (Value.func (Fn.yield y) ⟨[]⟩ ⟨[]⟩)),(1,.pp 0 [(.sl 1 (.sym fun _=>zi (l).length) (fun ix=>[.int .i64 (.sym fun _=>(l).getD ix.den.toNat 0)])),(.int .i64 (.sym fun _=>water))]),(2,.pp 0 [(wrkS tw tm tv rate cs)]),(7,(.sl 1 (.sym fun _=>zi (l).length) (fun ix=>[.int .i64 (.sym fun _=>(l).getD ix.den.toNat 0)]))),(8,(.int .i64 (.sym fun _=>zi l.length))),(9,(.int .i64 (.sym fun _=>zi x.1)))],[],20⟩,fun x=>l.length-x.1,?_,?_⟩
  · refine⟨⟨0,by omega⟩,?_⟩
    cbv
    repeat' (first
      |with_reducible refine hold ?_ ?_
      |with_reducible refine And.intro ?_ ?_)
    all_goals first
      |trivial
      |exact qM (qE (by rfl))
      |exact qM (qF (by rfl))
      |exact qM (Fit.refl _)
      |exact qL (qK _)
      |(refine qM (qE ?_);(try simp only [qV]at *);simp only [zQ,zA,zB,zC,zD,zE,zF,zG,zH,zI,zJ,zK,zL,zM,zN,zO,zP,zR,zS]at *;omega)
      |(refine hold_geq ?_;simp only [];omega)
      |skip
  · rintro ⟨i,hi2⟩
    cbv
    all_goals (try have hlt2:=hi2)
    repeat' (first
        |with_reducible refine hold ?_ ?_
        |with_reducible refine And.intro ?_ ?_
        | (with_reducible refine qS ?_ ?_ ?_
           try cbv)
        | (with_reducible refine qT ?_ ?_
           try cbv)
        |(with_reducible intro hcd;(try simp only [zA,zB,zC,zD,zE,zF,zG,zH,zI,zJ,zK,zL,zM,zN,zO,zP]at hcd);try cbv)
        |fail)
    all_goals first
      |trivial
      |((try simp only [qV]at *);(try simp only [zQ,zA,zB,zC,zD,zE,zF,zG,zH,zI,zJ,zK,zL,zM,zN,zO,zP,zR,zS]at *);first|(refine qN ?_;omega)|(simp only [Hold];omega))
      |((have hlt:i<l.length:=(by(try simp only [qV]at *);(try simp only [zQ,zA,zB,zC,zD,zE,zF,zG,zH,zI,zJ,zK,zL,zM,zN,zO,zP,zR,zS]at *);omega));(have ha:=hl.at' i hlt);(try simp only [qV]at *);(try simp only [zQ,zA,zB,zC,zD,zE,zF,zG,zH,zI,zJ,zK,zL,zM,zN,zO,zP,zR,zS]at *);simp only [Hold];omega)
      |((have hlt:i<l.length:=(by(try simp only [qV]at *);(try simp only [zQ,zA,zB,zC,zD,zE,zF,zG,zH,zI,zJ,zK,zL,zM,zN,zO,zP,zR,zS]at *);omega));refine hold_yield (by rw [hL];exact hlt) ?_;rw [help];(repeat' (first|exact qA|exact qB|refine qC ?_ rfl ?_|refine qD ?_ ?_|exact qE (by rfl)|exact qF (by rfl)|exact Fit.refl _|exact qG _|(refine qE ?_;(try simp only [qV]at *);simp only [zQ,zA,zB,zC,zD,zE,zF,zG,zH,zI,zJ,zK,zL,zM,zN,zO,zP,zR,zS]at *;omega)));done)
      |((try simp only [zQ,zA,zB,zC,zD,zE,zF,zG,zH,zI,zJ,zK,zL,zM,zN,zO,zP,zR,zS]at *);refine⟨⟨i+1,by((try simp only [qV]at *);(try simp only [zQ,zA,zB,zC,zD,zE,zF,zG,zH,zI,zJ,zK,zL,zM,zN,zO,zP,zR,zS]at *);omega)⟩,by simp only [];omega,?_⟩;cbv;(repeat' (first|with_reducible refine hold ?_ ?_|with_reducible refine And.intro ?_ ?_));(all_goals first|trivial|exact qM (qE (by rfl))|exact qM (qF (by rfl))|exact qM (Fit.refl _)|exact qL (qK _)|(refine qM (qE ?_);(try simp only [qV]at *);simp only [zQ,zA,zB,zC,zD,zE,zF,zG,zH,zI,zJ,zK,zL,zM,zN,zO,zP,zR,zS]at *;omega)|(refine hold_geq ?_;simp only [];omega)|skip))
      |(show i=L;(try simp only [qV]at *);(try simp only [zQ,zA,zB,zC,zD,zE,zF,zG,zH,zI,zJ,zK,zL,zM,zN,zO,zP,zR,zS]at *);omega)
      |trivial
      |skip
end Go.Proofs.Ytkdgpdlfakcgdaa

namespace Go.Proofs.Ytkdgpdlfakcgdaa
open Go Go.Eng Go.Proofs
set_option maxRecDepth 10000
theorem sums66 (tw tm:List Int)(tv:List (List Int))(rate:Int)(cs:List Csk)(l:List Int)(water:Int)(lo hi:Nat→Int)(hg:∀i,i<cs.length→1≤(cs.getD i ck0).g∧(cs.getD i ck0).g≤99)(hl:InCs cs.length l)(hw:0≤water∧water≤1000000000000)(hlo:lo=(fun j=>sLo tw tm tv (cs.getD j ck0)))(hhi:hi=(fun j=>sHi tw tm tv (cs.getD j ck0)))(hr:∀j,j<cs.length→0≤lo j∧lo j≤2000∧0≤hi j∧hi j≤2000):FSpec Try.prog 66 [(wrkS tw tm tv rate cs),(.agg [(.sl 1 (.sym fun _=>zi (l).length) (fun ix=>[.int .i64 (.sym fun _=>(l).getD ix.den.toNat 0)])),(.int .i64 (.sym fun _=>water))])] [] (fun r _=>r=(.tup [(.int .i64 (.sym fun _=>galP cs l l.length+water)),(.agg [.arr 2 (fun ix=>.int .i64 (.sym fun _=>sp2 cs l lo hi l.length ix.den.toNat))])])):=by
  have c90:=of90 tw tm tv rate cs l water
  have c91:=ends91
  have c107:= @low107
  have c108:= @high108
  obtain⟨el,hel⟩:∃el:Nat→List SV,el=(fun n:Nat=>[(.int .i64 (.sym fun _=>l.getD n 0)),(.agg [(.int .i64 (.sym fun _=>(cs.getD (l.getD n 0).toNat ck0).g)),(.int .i64 (.sym fun _=>(cs.getD (l.getD n 0).toNat ck0).wl)),(.int .i64 (.sym fun _=>(cs.getD (l.getD n 0).toNat ck0).wh)),(.int .i64 (.sym fun _=>(cs.getD (l.getD n 0).toNat ck0).ml)),(.int .i64 (.sym fun _=>(cs.getD (l.getD n 0).toNat ck0).mh))])]):=⟨_,rfl⟩
  obtain⟨L,hL⟩:∃L,L=l.length:=⟨_,rfl⟩
  have cI:ISpec Try.prog 106 [.pp 0 [(.sl 1 (.sym fun _=>zi (l).length) (fun ix=>[.int .i64 (.sym fun _=>(l).getD ix.den.toNat 0)])),(.int .i64 (.sym fun _=>water))],.pp 0 [(wrkS tw tm tv rate cs)]] L el:=by rw [hel,hL];exact of106 tw tm tv rate cs l water hl
  have elen:∀i,(el i).length=2∧SV.idsL (el i)=[]:=fun i=>by rw [hel];exact⟨rfl,rfl⟩
  have ei:∀i,el i=[(.int .i64 (.sym fun _=>l.getD i 0)),(.agg [(.int .i64 (.sym fun _=>(cs.getD (l.getD i 0).toNat ck0).g)),(.int .i64 (.sym fun _=>(cs.getD (l.getD i 0).toNat ck0).wl)),(.int .i64 (.sym fun _=>(cs.getD (l.getD i 0).toNat ck0).wh)),(.int .i64 (.sym fun _=>(cs.getD (l.getD i 0).toNat ck0).ml)),(.int .i64 (.sym fun _=>(cs.getD (l.getD i 0).toNat ck0).mh))])]:=fun i=>by rw [hel]
  clear hel
  subst hlo;subst hhi
  refine FSpec.is fun R hR=>qW (sc:=sc66) tyok mix Try.func66 rfl Try.call66 (by kernel_rfl) (by kernel_rfl) ?_
  generalize Try.prog=P at c90 c91 c107 c108 cI⊢
  cbv
  repeat' (first
      |with_reducible refine hold ?_ ?_
      |with_reducible refine And.intro ?_ ?_
      | (with_reducible refine qS ?_ ?_ ?_
         try cbv)
      | (with_reducible refine qT ?_ ?_
         try cbv)
      |(with_reducible intro hcd;(try simp only [zA,zB,zC,zD,zE,zF,zG,zH,zI,zJ,zK,zL,zM,zN,zO,zP]at hcd);try cbv)
      | (refine qP ?_ (c90) ?hfit
         case hfit=>((repeat' (first|exact qB|refine qD ?_ ?_|exact qE (by rfl)|exact qF (by rfl)|exact Fit.refl _|exact qA|refine qC ?_ rfl ?_));done)
         try cbv)
      |fail)
  all_goals first
    |trivial
    |((try simp only [qV]at *);(try simp only [zQ,zA,zB,zC,zD,zE,zF,zG,zH,zI,zJ,zK,zL,zM,zN,zO,zP,zR,zS]at *);first|(refine qN ?_;omega)|(simp only [Hold];omega))
    |skip
  refine⟨[],L,el,Unit,fun i _=>([(0,.cells [(wrkS tw tm tv rate cs)] 105),(1,.cells [(.sl 1 (.sym fun _=>zi (l).length) (fun ix=>[.int .i64 (.sym fun _=>(l).getD ix.den.toNat 0)])),(.int .i64 (.sym fun _=>water))] 118),(2,.cells [(.int .i64 (.sym fun _=>galP cs l i+water))] 3),(3,.cells [.arr 2 (fun ix=>.int .i64 (.sym fun _=>sp2 cs l (fun j=>sLo tw tm tv (cs.getD j ck0)) (fun j=>sHi tw tm tv (cs.getD j ck0)) (i) ix.den.toNat))] 119)],40),?_⟩
  cbv
  refine⟨fun _=>⟨cI,elen⟩,⟨(),?_⟩,?_,?_⟩
  · cbv
    repeat' (first
      |with_reducible refine hold ?_ ?_
      |with_reducible refine And.intro ?_ ?_)
    all_goals first
      |trivial
      |exact qM (qE (by rfl))
      |exact qM (qF (by rfl))
      |exact qM (Fit.refl _)
      |exact qL (qK _)
      |(refine qM (qE ?_);(try simp only [qV]at *);simp only [zQ,zA,zB,zC,zD,zE,zF,zG,zH,zI,zJ,zK,zL,zM,zN,zO,zP,zR,zS]at *;omega)
      |(refine qL (qJ ?_);first|(refine qC (qE ?_) rfl qA;(try simp only [qV]at *);(try simp only [zQ,zA,zB,zC,zD,zE,zF,zG,zH,zI,zJ,zK,zL,zM,zN,zO,zP,zR,zS]at *);simp only [galP];omega)|(refine fit_arr (fun ix h0 h1=> ?_) qA;refine qE ?_;simp only [sp2,zA,zB];(first|rfl|(split<;>rfl))))
      |skip
  · intro i _ hil
    rw [hL]at hil
    simp only [ei]
    cbv
    have hfew:=hl.few
    repeat' (first
        |with_reducible refine hold ?_ ?_
        |with_reducible refine And.intro ?_ ?_
        | (with_reducible refine qS ?_ ?_ ?_
           try cbv)
        | (with_reducible refine qT ?_ ?_
           try cbv)
        |(with_reducible intro hcd;(try simp only [zA,zB,zC,zD,zE,zF,zG,zH,zI,zJ,zK,zL,zM,zN,zO,zP]at hcd);try cbv)
        | (refine qP ?_ (c91) ?hfit
           case hfit=>((repeat' (first|exact qB|refine qD ?_ ?_|exact qE (by rfl)|exact qF (by rfl)|exact Fit.refl _|exact qA|refine qC ?_ rfl ?_));done)
           try cbv)
        |fail)
    all_goals first
      |trivial
      |((try simp only [qV]at *);(try simp only [zQ,zA,zB,zC,zD,zE,zF,zG,zH,zI,zJ,zK,zL,zM,zN,zO,zP,zR,zS]at *);first|(refine qN ?_;omega)|(simp only [Hold];omega))
      |(have hgb:=gal_bd hg hl i (Nat.le_of_lt hil);have ha:=hl.at' i hil;have hgi:=hg (l.getD i 0).toNat (by omega);have hri:=hr (l.getD i 0).toNat (by omega);have hs0:=sp_bd hg hl hr i (Nat.le_of_lt hil);have hp0:=mul_le2 (a:=(cs.getD (l.getD i 0).toNat ck0).g) (b:=sLo tw tm tv (cs.getD (l.getD i 0).toNat ck0)) (by omega) hgi.2 hri.1 hri.2.1;have hp1:=mul_le2 (a:=(cs.getD (l.getD i 0).toNat ck0).g) (b:=sHi tw tm tv (cs.getD (l.getD i 0).toNat ck0)) (by omega) hgi.2 hri.2.2.1 hri.2.2.2;(try simp only [qV]at *);(try simp only [zQ,zA,zB,zC,zD,zE,zF,zG,zH,zI,zJ,zK,zL,zM,zN,zO,zP,zR,zS]at *);first|(refine qN ?_;omega)|(simp only [Hold];omega)|(refine qN ?_;simp only [sp2,sp1]at *;simp at *;omega))
      |skip
    refine⟨some 3,?_⟩
    cbv
    repeat' (first
        |with_reducible refine hold ?_ ?_
        |with_reducible refine And.intro ?_ ?_
        | (with_reducible refine qS ?_ ?_ ?_
           try cbv)
        | (with_reducible refine qT ?_ ?_
           try cbv)
        |(with_reducible intro hcd;(try simp only [zA,zB,zC,zD,zE,zF,zG,zH,zI,zJ,zK,zL,zM,zN,zO,zP]at hcd);try cbv)
        | (refine qP ?_ (c107 _ _) (by(repeat' (first|exact qB|refine qD ?_ ?_|exact qE (by rfl)|exact qF (by rfl)|exact Fit.refl _|exact qA|refine qC ?_ rfl ?_)))
           try cbv)
        | (refine qP ?_ (c108 _ _) (by(repeat' (first|exact qB|refine qD ?_ ?_|exact qE (by rfl)|exact qF (by rfl)|exact Fit.refl _|exact qA|refine qC ?_ rfl ?_)))
           try cbv)
        | (refine⟨fun ix=>.int .i64 (.sym fun _=>sp1 cs l (fun j=>sLo tw tm tv (cs.getD j ck0)) (fun j=>sHi tw tm tv (cs.getD j ck0)) i ix.den.toNat),?_⟩
           cbv
           refine hold (hold_arrupd (by intro jx h0 h1 h2;refine qE ?_;(have hz:jx.den.toNat=0:=by((try simp only [qV]at *);(try simp only [zQ,zA,zB,zC,zD,zE,zF,zG,zH,zI,zJ,zK,zL,zM,zN,zO,zP,zR,zS]at *);omega));(try simp only [qV]at *);(try simp only [zQ,zA,zB,zC,zD,zE,zF,zG,zH,zI,zJ,zK,zL,zM,zN,zO,zP,zR,zS]at *);exact sp1_new hz) (by intro jx h0 h1 h2;refine qE ?_;(have hz:jx.den.toNat≠0:=by((try simp only [qV]at *);(try simp only [zQ,zA,zB,zC,zD,zE,zF,zG,zH,zI,zJ,zK,zL,zM,zN,zO,zP,zR,zS]at *);omega));(try simp only [qV]at *);(try simp only [zQ,zA,zB,zC,zD,zE,zF,zG,zH,zI,zJ,zK,zL,zM,zN,zO,zP,zR,zS]at *);exact sp1_old hz)) ?_
           try cbv)
        | (refine⟨fun ix=>.int .i64 (.sym fun _=>sp2 cs l (fun j=>sLo tw tm tv (cs.getD j ck0)) (fun j=>sHi tw tm tv (cs.getD j ck0)) (i+1) ix.den.toNat),?_⟩
           cbv
           refine hold (hold_arrupd (by intro jx h0 h1 h2;refine qE ?_;(have hz:jx.den.toNat=1:=by((try simp only [qV]at *);(try simp only [zQ,zA,zB,zC,zD,zE,zF,zG,zH,zI,zJ,zK,zL,zM,zN,zO,zP,zR,zS]at *);omega));(try simp only [qV]at *);(try simp only [zQ,zA,zB,zC,zD,zE,zF,zG,zH,zI,zJ,zK,zL,zM,zN,zO,zP,zR,zS]at *);exact sp2_new hz) (by intro jx h0 h1 h2;refine qE ?_;(have hz:jx.den.toNat=0:=by((try simp only [qV]at *);(try simp only [zQ,zA,zB,zC,zD,zE,zF,zG,zH,zI,zJ,zK,zL,zM,zN,zO,zP,zR,zS]at *);omega));(try simp only [qV]at *);(try simp only [zQ,zA,zB,zC,zD,zE,zF,zG,zH,zI,zJ,zK,zL,zM,zN,zO,zP,zR,zS]at *);exact sp2_old hz)) ?_
           try cbv)
        |fail)
    all_goals first
      |trivial
      |((try simp only [qV]at *);(try simp only [zQ,zA,zB,zC,zD,zE,zF,zG,zH,zI,zJ,zK,zL,zM,zN,zO,zP,zR,zS]at *);first|(refine qN ?_;omega)|(simp only [Hold];omega))
      |(have hgb:=gal_bd hg hl i (Nat.le_of_lt hil);have ha:=hl.at' i hil;have hgi:=hg (l.getD i 0).toNat (by omega);have hri:=hr (l.getD i 0).toNat (by omega);have hs0:=sp_bd hg hl hr i (Nat.le_of_lt hil);have hp0:=mul_le2 (a:=(cs.getD (l.getD i 0).toNat ck0).g) (b:=sLo tw tm tv (cs.getD (l.getD i 0).toNat ck0)) (by omega) hgi.2 hri.1 hri.2.1;have hp1:=mul_le2 (a:=(cs.getD (l.getD i 0).toNat ck0).g) (b:=sHi tw tm tv (cs.getD (l.getD i 0).toNat ck0)) (by omega) hgi.2 hri.2.2.1 hri.2.2.2;(try simp only [qV]at *);(try simp only [zQ,zA,zB,zC,zD,zE,zF,zG,zH,zI,zJ,zK,zL,zM,zN,zO,zP,zR,zS]at *);first|(refine qN ?_;omega)|(simp only [Hold];omega)|(refine qN ?_;simp only [sp2,sp1]at *;simp at *;omega))
      |(refine⟨(),?_⟩;cbv;(repeat' (first|with_reducible refine hold ?_ ?_|with_reducible refine And.intro ?_ ?_));(all_goals first|trivial|exact qM (qE (by rfl))|exact qM (qF (by rfl))|exact qM (Fit.refl _)|exact qL (qK _)|(refine qM (qE ?_);(try simp only [qV]at *);simp only [zQ,zA,zB,zC,zD,zE,zF,zG,zH,zI,zJ,zK,zL,zM,zN,zO,zP,zR,zS]at *;omega)|(refine qL (qJ ?_);first|(refine qC (qE ?_) rfl qA;(try simp only [qV]at *);(try simp only [zQ,zA,zB,zC,zD,zE,zF,zG,zH,zI,zJ,zK,zL,zM,zN,zO,zP,zR,zS]at *);simp only [galP];omega)|(refine fit_arr (fun ix h0 h1=> ?_) qA;refine qE ?_;simp only [sp2,zA,zB];(first|rfl|(split<;>rfl))))|skip))
      |skip
  · intro _
    cbv
    repeat' (first
        |with_reducible refine hold ?_ ?_
        |with_reducible refine And.intro ?_ ?_
        | (with_reducible refine qS ?_ ?_ ?_
           try cbv)
        | (with_reducible refine qT ?_ ?_
           try cbv)
        |(with_reducible intro hcd;(try simp only [zA,zB,zC,zD,zE,zF,zG,zH,zI,zJ,zK,zL,zM,zN,zO,zP]at hcd);try cbv)
        | (refine⟨(2:Nat),?_⟩
           cbv)
        |fail)
    all_goals first
      |trivial
      |((try simp only [qV]at *);(try simp only [zQ,zA,zB,zC,zD,zE,zF,zG,zH,zI,zJ,zK,zL,zM,zN,zO,zP,zR,zS]at *);first|(refine qN ?_;omega)|(simp only [Hold];omega))
      |(subst hR;(subst hL;exact qD (qE (by rfl)) (qD (Fit.refl _) qB));done)
      |skip
end Go.Proofs.Ytkdgpdlfakcgdaa

namespace Go.Proofs.Ytkdgpdlfakcgdaa
def watQ (cs:List Csk)(l:List Int)(t:Nat→Int)(s:Int):Int:=(spiP cs l t l.length).tdiv (s+1)+1-galP cs l l.length
theorem tdiv_bd0 {a b:Int}(ha:0≤a)(hb:0<b):0≤a.tdiv b∧a.tdiv b≤a:=by
  rw [Int.tdiv_eq_ediv_of_nonneg ha]
  exact⟨Int.ediv_nonneg ha (by omega),Int.ediv_le_self _ ha⟩
end Go.Proofs.Ytkdgpdlfakcgdaa

namespace Go.Proofs.Ytkdgpdlfakcgdaa
open Go Go.Eng Go.Proofs
set_option maxRecDepth 10000
theorem strength65 (tw tm:List Int)(tv:List (List Int))(rate:Int)(cs:List Csk)(l:List Int)(water:Int)(hg:∀i,i<cs.length→1≤(cs.getD i ck0).g∧(cs.getD i ck0).g≤99)(hl:InCs cs.length l)(h0:0<l.length)(hw:0≤water∧water≤1000000000000)(hr:∀j,j<cs.length→0≤sLo tw tm tv (cs.getD j ck0)∧sLo tw tm tv (cs.getD j ck0)≤2000∧0≤sHi tw tm tv (cs.getD j ck0)∧sHi tw tm tv (cs.getD j ck0)≤2000):FSpec Try.prog 65 [(wrkS tw tm tv rate cs),(.agg [(.sl 1 (.sym fun _=>zi (l).length) (fun ix=>[.int .i64 (.sym fun _=>(l).getD ix.den.toNat 0)])),(.int .i64 (.sym fun _=>water))])] [] (fun r _=>r=(.agg [(.int .i64 (.sym fun _=>strP cs l water (fun j=>sLo tw tm tv (cs.getD j ck0)))),(.int .i64 (.sym fun _=>strP cs l water (fun j=>sHi tw tm tv (cs.getD j ck0))))])):=by
  have c66:=sums66 tw tm tv rate cs l water (fun j=>sLo tw tm tv (cs.getD j ck0)) (fun j=>sHi tw tm tv (cs.getD j ck0)) hg hl hw rfl rfl hr
  refine FSpec.is fun R hR=>qW (sc:=sc65) tyok mix Try.func65 rfl Try.call65 (by kernel_rfl) (by kernel_rfl) ?_
  generalize Try.prog=P at c66⊢
  cbv
  have hfew:=hl.few
  have hgb:=gal_bd hg hl l.length (Nat.le_refl _)
  have hsb:=sp_bd (lo:=(fun j=>sLo tw tm tv (cs.getD j ck0))) (hi:=(fun j=>sHi tw tm tv (cs.getD j ck0))) hg hl hr l.length (Nat.le_refl _)
  repeat' (first
      |with_reducible refine hold ?_ ?_
      |with_reducible refine And.intro ?_ ?_
      | (with_reducible refine qS ?_ ?_ ?_
         try cbv)
      | (with_reducible refine qT ?_ ?_
         try cbv)
      |(with_reducible intro hcd;(try simp only [zA,zB,zC,zD,zE,zF,zG,zH,zI,zJ,zK,zL,zM,zN,zO,zP]at hcd);try cbv)
      | (refine qP ?_ (c66) ?hfit
         case hfit=>((repeat' (first|exact qB|refine qD ?_ ?_|exact qE (by rfl)|exact qF (by rfl)|exact Fit.refl _|exact qA|refine qC ?_ rfl ?_));done)
         try cbv)
      | (refine⟨(1:Nat),?_⟩
         cbv)
      |fail)
  all_goals first
    |trivial
    |((try simp only [qV]at *);(try simp only [zQ,zA,zB,zC,zD,zE,zF,zG,zH,zI,zJ,zK,zL,zM,zN,zO,zP,zR,zS]at *);first|(refine qN ?_;omega)|(simp only [Hold];omega))
    |(subst hR;(exact qC (qE (by rfl)) rfl (qC (qE (by rfl)) rfl qA));done)
    |((try simp only [qV]at *);(try simp only [zQ,zA,zB,zC,zD,zE,zF,zG,zH,zI,zJ,zK,zL,zM,zN,zO,zP,zR,zS]at *);(have hq0:=tdiv_bd0 (b:=galP cs l l.length+water) hsb.1.1 (by omega));(have hq1:=tdiv_bd0 (b:=galP cs l l.length+water) hsb.2.1 (by omega));first|exact qN ⟨Int.le_trans (by decide) hq0.1,Int.le_trans hq0.2 (by omega)⟩|exact qN ⟨Int.le_trans (by decide) hq1.1,Int.le_trans hq1.2 (by omega)⟩)
    |skip
theorem sok_hr {tw tm:List Int} {tv:List (List Int)} {rate:Int} {cs:List Csk}(hS:SOk tw tm tv rate cs):∀j,j<cs.length→0≤sLo tw tm tv (cs.getD j ck0)∧sLo tw tm tv (cs.getD j ck0)≤2000∧0≤sHi tw tm tv (cs.getD j ck0)∧sHi tw tm tv (cs.getD j ck0)≤2000:=fun j hj=>by
  have:=s_bd hS.t (hS.box j hj)
  omega
theorem blend27 (tw tm:List Int)(tv:List (List Int))(rate:Int)(cs:List Csk)(l:List Int)(water:Int)(hS:SOk tw tm tv rate cs)(hll:l.length≤1000)(hb:blendB cs.length l=true)(hw:0≤water∧water≤99):FSpec Try.prog 27 [(stoS tw tm tv rate cs),(.sl 1 (.sym fun _=>zi (l).length) (fun ix=>[.int .i64 (.sym fun _=>(l).getD ix.den.toNat 0)])),(.int .i64 (.sym fun _=>water))] [] (fun r _=>r=(.tup [(.agg [(.int .i64 (.sym fun _=>strP cs l water (fun j=>sLo tw tm tv (cs.getD j ck0)))),(.int .i64 (.sym fun _=>strP cs l water (fun j=>sHi tw tm tv (cs.getD j ck0))))]),(.int .i64 (.sym fun _=>0))])):=by
  have c59:=open59 tw tm tv rate cs hS
  have c63:=blended63 tw tm tv rate cs l (by have:=hS.few;omega) hll
  have c64:= @within64
  have c65:=strength65 tw tm tv rate cs l water hS.gal (blend_in hb hll) (blend_iff.1 hb).1 (by omega) (sok_hr hS)
  refine FSpec.is fun R hR=>qW (sc:=sc27) tyok mix Try.func27 rfl Try.call27 (by kernel_rfl) (by kernel_rfl) ?_
  generalize Try.prog=P at c59 c63 c64 c65⊢
  cbv
  repeat' (first
      |with_reducible refine hold ?_ ?_
      |with_reducible refine And.intro ?_ ?_
      | (with_reducible refine qS ?_ ?_ ?_
         try cbv)
      | (with_reducible refine qT ?_ ?_
         try cbv)
      |(with_reducible intro hcd;(try simp only [zA,zB,zC,zD,zE,zF,zG,zH,zI,zJ,zK,zL,zM,zN,zO,zP]at hcd);try cbv)
      | (refine qP ?_ (c59) ?hfit
         case hfit=>((repeat' (first|exact qB|refine qD ?_ ?_|exact qE (by rfl)|exact qF (by rfl)|exact Fit.refl _|exact qA|refine qC ?_ rfl ?_));done)
         try cbv)
      | (refine qP ?_ (c63) ?hfit
         case hfit=>((repeat' (first|exact qB|refine qD ?_ ?_|exact qE (by rfl)|exact qF (by rfl)|exact Fit.refl _|exact qA|refine qC ?_ rfl ?_));done)
         try cbv)
      | (refine qP ?_ (c64 _ _ _) (by(repeat' (first|exact qB|refine qD ?_ ?_|exact qE (by rfl)|exact qF (by rfl)|exact Fit.refl _|exact qA|refine qC ?_ rfl ?_)))
         try cbv)
      | (refine qP ?_ (c65) ?hfit
         case hfit=>((repeat' (first|exact qB|refine qD ?_ ?_|exact qE (by rfl)|exact qF (by rfl)|exact Fit.refl _|exact qA|refine qC ?_ rfl ?_));done)
         try cbv)
      |fail)
  all_goals first
    |trivial
    |((try simp only [qV]at *);(try simp only [zQ,zA,zB,zC,zD,zE,zF,zG,zH,zI,zJ,zK,zL,zM,zN,zO,zP,zR,zS]at *);first|(refine qN ?_;omega)|(simp only [Hold];omega))
    |(subst hR;(repeat' (first|exact qA|exact qB|refine qC ?_ rfl ?_|refine qD ?_ ?_|exact qE (by rfl)|exact qF (by rfl)|exact Fit.refl _|exact qG _|(refine qE ?_;(try simp only [qV]at *);simp only [zQ,zA,zB,zC,zD,zE,zF,zG,zH,zI,zJ,zK,zL,zM,zN,zO,zP,zR,zS]at *;omega)));done)
    |(exfalso;simp_all;done)
    |(exfalso;simp_all;omega)
    |skip
theorem prove29 (tw tm:List Int)(tv:List (List Int))(rate:Int)(cs:List Csk)(l:List Int)(water a b:Int)(hS:SOk tw tm tv rate cs)(hll:l.length≤1000)(hb:blendB cs.length l=true)(hw:0≤water∧water≤99):FSpec Try.prog 29 [(stoS tw tm tv rate cs),(.sl 1 (.sym fun _=>zi (l).length) (fun ix=>[.int .i64 (.sym fun _=>(l).getD ix.den.toNat 0)])),(.int .i64 (.sym fun _=>water)),(.agg [(.int .i64 (.sym fun _=>a)),(.int .i64 (.sym fun _=>b))])] [] (fun r _=>r=(.bool (.sym fun _=>decide (a≤strP cs l water (fun j=>sLo tw tm tv (cs.getD j ck0)))&&decide (strP cs l water (fun j=>sHi tw tm tv (cs.getD j ck0))≤b)))):=by
  have c27:=blend27 tw tm tv rate cs l water hS hll hb hw
  refine FSpec.is fun R hR=>qW (sc:=sc29) tyok mix Try.func29 rfl Try.call29 (by kernel_rfl) (by kernel_rfl) ?_
  generalize Try.prog=P at c27⊢
  cbv
  repeat' (first
      |with_reducible refine hold ?_ ?_
      |with_reducible refine And.intro ?_ ?_
      | (with_reducible refine qS ?_ ?_ ?_
         try cbv)
      | (with_reducible refine qT ?_ ?_
         try cbv)
      |(with_reducible intro hcd;(try simp only [zA,zB,zC,zD,zE,zF,zG,zH,zI,zJ,zK,zL,zM,zN,zO,zP]at hcd);try cbv)
      | (refine qP ?_ (c27) ?hfit
         case hfit=>((repeat' (first|exact qB|refine qD ?_ ?_|exact qE (by rfl)|exact qF (by rfl)|exact Fit.refl _|exact qA|refine qC ?_ rfl ?_));done)
         try cbv)
      |fail)
  all_goals first
    |trivial
    |((try simp only [qV]at *);(try simp only [zQ,zA,zB,zC,zD,zE,zF,zG,zH,zI,zJ,zK,zL,zM,zN,zO,zP,zR,zS]at *);first|(refine qN ?_;omega)|(simp only [Hold];omega))
    |(subst hR;(repeat' (first|exact qA|exact qB|refine qC ?_ rfl ?_|refine qD ?_ ?_|exact qE (by rfl)|exact qF (by rfl)|exact Fit.refl _|exact qG _|(refine qE ?_;(try simp only [qV]at *);simp only [zQ,zA,zB,zC,zD,zE,zF,zG,zH,zI,zJ,zK,zL,zM,zN,zO,zP,zR,zS]at *;omega)));done)
    |(subst hR;(exact qF (by rw [decide_eq_true (by assumption)];rfl));done)
    |(subst hR;(exact qF (by rw [decide_eq_false (by assumption)];rfl));done)
    |(exfalso;simp_all;done)
    |skip
end Go.Proofs.Ytkdgpdlfakcgdaa

namespace Go.Proofs.Ytkdgpdlfakcgdaa
open Go Go.Eng Go.Proofs
set_option maxRecDepth 10000
theorem watQ_eq {cs:List Csk} {l:List Int} {t:Nat→Int} {s:Int}:watQ cs l t s=((spiP cs l t l.length).tdiv (s+1)+1-(galP cs l l.length+0)):=by
  show(spiP cs l t l.length).tdiv (s+1)+1-galP cs l l.length=_
  omega
theorem watQ_le {cs:List Csk} {l:List Int} {t:Nat→Int} {s:Int}(h:watQ cs l t s≤99)(h':99<(if 0<((spiP cs l t l.length).tdiv (s+1)+1-(galP cs l l.length+0))then((spiP cs l t l.length).tdiv (s+1)+1-(galP cs l l.length+0))else 0)):False:=by
  rw [←watQ_eq]at h'
  split at h'<;>omega
theorem watQ_gt {cs:List Csk} {l:List Int} {t:Nat→Int} {s:Int}(h:99<watQ cs l t s)(h':¬99<(if 0<((spiP cs l t l.length).tdiv (s+1)+1-(galP cs l l.length+0))then((spiP cs l t l.length).tdiv (s+1)+1-(galP cs l l.length+0))else 0)):False:=by
  rw [←watQ_eq]at h'
  split at h'<;>omega
theorem watQ_max {cs:List Csk} {l:List Int} {t:Nat→Int} {s:Int}:(if 0<((spiP cs l t l.length).tdiv (s+1)+1-(galP cs l l.length+0))then((spiP cs l t l.length).tdiv (s+1)+1-(galP cs l l.length+0))else 0)=max 0 (watQ cs l t s):=by
  rw [←watQ_eq]
  split<;>omega
theorem water33 (tw tm:List Int)(tv:List (List Int))(rate:Int)(cs:List Csk)(l:List Int)(s:Int)(hS:SOk tw tm tv rate cs)(hll:l.length≤1000)(hb:blendB cs.length l=true)(hs:1≤s∧s≤2000)(hn:watQ cs l (fun j=>sHi tw tm tv (cs.getD j ck0)) s≤99):FSpec Try.prog 33 [(stoS tw tm tv rate cs),(.sl 1 (.sym fun _=>zi (l).length) (fun ix=>[.int .i64 (.sym fun _=>(l).getD ix.den.toNat 0)])),(.int .i64 (.sym fun _=>s))] [] (fun r _=>r=(.tup [(.int .i64 (.sym fun _=>max 0 (watQ cs l (fun j=>sHi tw tm tv (cs.getD j ck0)) s))),(.int .i64 (.sym fun _=>0))])):=by
  have c59:=open59 tw tm tv rate cs hS
  have c63:=blended63 tw tm tv rate cs l (by have:=hS.few;omega) hll
  have c64:= @within64
  have c66:=sums66 tw tm tv rate cs l 0 (fun j=>sLo tw tm tv (cs.getD j ck0)) (fun j=>sHi tw tm tv (cs.getD j ck0)) hS.gal (blend_in hb hll) (by omega) rfl rfl (sok_hr hS)
  refine FSpec.is fun R hR=>qW (sc:=sc33) tyok mix Try.func33 rfl Try.call33 (by kernel_rfl) (by kernel_rfl) ?_
  generalize Try.prog=P at c59 c63 c64 c66⊢
  cbv
  have hl:=blend_in hb hll
  have hfew:=hl.few
  have h0:=(blend_iff.1 hb).1
  have hgb:=gal_bd hS.gal hl l.length (Nat.le_refl _)
  have hsb:=sp_bd (lo:=(fun j=>sLo tw tm tv (cs.getD j ck0))) (hi:=(fun j=>sHi tw tm tv (cs.getD j ck0))) hS.gal hl (sok_hr hS) l.length (Nat.le_refl _)
  have hq0:=tdiv_bd0 (b:=s+1) hsb.2.1 (by omega)
  have hwq:watQ cs l (fun j=>sHi tw tm tv (cs.getD j ck0)) s=(spiP cs l (fun j=>sHi tw tm tv (cs.getD j ck0)) l.length).tdiv (s+1)+1-galP cs l l.length:=rfl
  have hq2: -9223372036854775808≤(spiP cs l (fun j=>sHi tw tm tv (cs.getD j ck0)) l.length).tdiv (s+1)+1-(galP cs l l.length+0)∧(spiP cs l (fun j=>sHi tw tm tv (cs.getD j ck0)) l.length).tdiv (s+1)+1-(galP cs l l.length+0)≤9223372036854775807:=by omega
  repeat' (first
      |with_reducible refine hold ?_ ?_
      |with_reducible refine And.intro ?_ ?_
      | (with_reducible refine qS ?_ ?_ ?_
         try cbv)
      | (with_reducible refine qT ?_ ?_
         try cbv)
      |(with_reducible intro hcd;(try simp only [zA,zB,zC,zD,zE,zF,zG,zH,zI,zJ,zK,zL,zM,zN,zO,zP]at hcd);try cbv)
      | (refine qP ?_ (c59) ?hfit
         case hfit=>((repeat' (first|exact qB|refine qD ?_ ?_|exact qE (by rfl)|exact qF (by rfl)|exact Fit.refl _|exact qA|refine qC ?_ rfl ?_));done)
         try cbv)
      | (refine qP ?_ (c63) ?hfit
         case hfit=>((repeat' (first|exact qB|refine qD ?_ ?_|exact qE (by rfl)|exact qF (by rfl)|exact Fit.refl _|exact qA|refine qC ?_ rfl ?_));done)
         try cbv)
      | (refine qP ?_ (c64 _ _ _) (by(repeat' (first|exact qB|refine qD ?_ ?_|exact qE (by rfl)|exact qF (by rfl)|exact Fit.refl _|exact qA|refine qC ?_ rfl ?_)))
         try cbv)
      | (refine qP ?_ (c66) ?hfit
         case hfit=>((repeat' (first|exact qB|refine qD ?_ ?_|exact qE (by rfl)|exact qF (by rfl)|exact Fit.refl _|exact qA|refine qC ?_ rfl ?_));done)
         try cbv)
      | (refine⟨(1:Nat),?_⟩
         cbv)
      |fail)
  all_goals first
    |trivial
    |((try simp only [qV]at *);(try simp only [zQ,zA,zB,zC,zD,zE,zF,zG,zH,zI,zJ,zK,zL,zM,zN,zO,zP,zR,zS]at *);first|(refine qN ?_;omega)|(simp only [Hold];omega))
    |(subst hR;(exact Bool.noConfusion (hb.symm.trans (by assumption:blendB cs.length l=false)));done)
    |(subst hR;(exact Bool.noConfusion ((Bool.and_eq_true_iff.2 ⟨decide_eq_true hs.1,decide_eq_true hs.2⟩).symm.trans (by assumption)));done)
    |(subst hR;(repeat' (first|exact qA|exact qB|refine qC ?_ rfl ?_|refine qD ?_ ?_|exact qE (by rfl)|exact qF (by rfl)|exact Fit.refl _|exact qG _|(refine qE ?_;(try simp only [qV]at *);simp only [zQ,zA,zB,zC,zD,zE,zF,zG,zH,zI,zJ,zK,zL,zM,zN,zO,zP,zR,zS]at *;omega)));done)
    |((try simp only [qV]at *);(try simp only [zQ,zA,zB,zC,zD,zE,zF,zG,zH,zI,zJ,zK,zL,zM,zN,zO,zP,zR,zS]at *);first|exact qN ⟨Int.le_trans (by decide) hq0.1,Int.le_trans hq0.2 (by omega)⟩|exact qN ⟨Int.le_trans (by omega) hq0.1,Int.le_trans hq0.2 (by omega)⟩)
    |((try simp only [qV]at *);(try simp only [zQ,zA,zB,zC,zD,zE,zF,zG,zH,zI,zJ,zK,zL,zM,zN,zO,zP,zR,zS]at *);exact qN ⟨Int.le_trans (by decide) (Int.add_le_add hq0.1 (Int.le_refl 1)),Int.le_trans (Int.add_le_add hq0.2 (Int.le_refl 1)) (by omega)⟩)
    |(exact qN hq2)
    |(exact(watQ_le hn hcd).elim)
    |(exact(watQ_gt hn hcd).elim)
    |(subst hR;exact qD (qE watQ_max) (qD (qE rfl) qB))
    |skip
theorem water33x (tw tm:List Int)(tv:List (List Int))(rate:Int)(cs:List Csk)(l:List Int)(s:Int)(hS:SOk tw tm tv rate cs)(hll:l.length≤1000)(hb:blendB cs.length l=true)(hs:1≤s∧s≤2000)(hn:99<watQ cs l (fun j=>sHi tw tm tv (cs.getD j ck0)) s):FSpec Try.prog 33 [(stoS tw tm tv rate cs),(.sl 1 (.sym fun _=>zi (l).length) (fun ix=>[.int .i64 (.sym fun _=>(l).getD ix.den.toNat 0)])),(.int .i64 (.sym fun _=>s))] [] (fun r _=>r=(.tup [(.int .i64 (.sym fun _=>0)),(.int .i64 (.sym fun _=>10))])):=by
  have c59:=open59 tw tm tv rate cs hS
  have c63:=blended63 tw tm tv rate cs l (by have:=hS.few;omega) hll
  have c64:= @within64
  have c66:=sums66 tw tm tv rate cs l 0 (fun j=>sLo tw tm tv (cs.getD j ck0)) (fun j=>sHi tw tm tv (cs.getD j ck0)) hS.gal (blend_in hb hll) (by omega) rfl rfl (sok_hr hS)
  refine FSpec.is fun R hR=>qW (sc:=sc33) tyok mix Try.func33 rfl Try.call33 (by kernel_rfl) (by kernel_rfl) ?_
  generalize Try.prog=P at c59 c63 c64 c66⊢
  cbv
  have hl:=blend_in hb hll
  have hfew:=hl.few
  have h0:=(blend_iff.1 hb).1
  have hgb:=gal_bd hS.gal hl l.length (Nat.le_refl _)
  have hsb:=sp_bd (lo:=(fun j=>sLo tw tm tv (cs.getD j ck0))) (hi:=(fun j=>sHi tw tm tv (cs.getD j ck0))) hS.gal hl (sok_hr hS) l.length (Nat.le_refl _)
  have hq0:=tdiv_bd0 (b:=s+1) hsb.2.1 (by omega)
  have hwq:watQ cs l (fun j=>sHi tw tm tv (cs.getD j ck0)) s=(spiP cs l (fun j=>sHi tw tm tv (cs.getD j ck0)) l.length).tdiv (s+1)+1-galP cs l l.length:=rfl
  have hq2: -9223372036854775808≤(spiP cs l (fun j=>sHi tw tm tv (cs.getD j ck0)) l.length).tdiv (s+1)+1-(galP cs l l.length+0)∧(spiP cs l (fun j=>sHi tw tm tv (cs.getD j ck0)) l.length).tdiv (s+1)+1-(galP cs l l.length+0)≤9223372036854775807:=by omega
  repeat' (first
      |with_reducible refine hold ?_ ?_
      |with_reducible refine And.intro ?_ ?_
      | (with_reducible refine qS ?_ ?_ ?_
         try cbv)
      | (with_reducible refine qT ?_ ?_
         try cbv)
      |(with_reducible intro hcd;(try simp only [zA,zB,zC,zD,zE,zF,zG,zH,zI,zJ,zK,zL,zM,zN,zO,zP]at hcd);try cbv)
      | (refine qP ?_ (c59) ?hfit
         case hfit=>((repeat' (first|exact qB|refine qD ?_ ?_|exact qE (by rfl)|exact qF (by rfl)|exact Fit.refl _|exact qA|refine qC ?_ rfl ?_));done)
         try cbv)
      | (refine qP ?_ (c63) ?hfit
         case hfit=>((repeat' (first|exact qB|refine qD ?_ ?_|exact qE (by rfl)|exact qF (by rfl)|exact Fit.refl _|exact qA|refine qC ?_ rfl ?_));done)
         try cbv)
      | (refine qP ?_ (c64 _ _ _) (by(repeat' (first|exact qB|refine qD ?_ ?_|exact qE (by rfl)|exact qF (by rfl)|exact Fit.refl _|exact qA|refine qC ?_ rfl ?_)))
         try cbv)
      | (refine qP ?_ (c66) ?hfit
         case hfit=>((repeat' (first|exact qB|refine qD ?_ ?_|exact qE (by rfl)|exact qF (by rfl)|exact Fit.refl _|exact qA|refine qC ?_ rfl ?_));done)
         try cbv)
      | (refine⟨(1:Nat),?_⟩
         cbv)
      |fail)
  all_goals first
    |trivial
    |((try simp only [qV]at *);(try simp only [zQ,zA,zB,zC,zD,zE,zF,zG,zH,zI,zJ,zK,zL,zM,zN,zO,zP,zR,zS]at *);first|(refine qN ?_;omega)|(simp only [Hold];omega))
    |(subst hR;(exact Bool.noConfusion (hb.symm.trans (by assumption:blendB cs.length l=false)));done)
    |(subst hR;(exact Bool.noConfusion ((Bool.and_eq_true_iff.2 ⟨decide_eq_true hs.1,decide_eq_true hs.2⟩).symm.trans (by assumption)));done)
    |(subst hR;(repeat' (first|exact qA|exact qB|refine qC ?_ rfl ?_|refine qD ?_ ?_|exact qE (by rfl)|exact qF (by rfl)|exact Fit.refl _|exact qG _|(refine qE ?_;(try simp only [qV]at *);simp only [zQ,zA,zB,zC,zD,zE,zF,zG,zH,zI,zJ,zK,zL,zM,zN,zO,zP,zR,zS]at *;omega)));done)
    |((try simp only [qV]at *);(try simp only [zQ,zA,zB,zC,zD,zE,zF,zG,zH,zI,zJ,zK,zL,zM,zN,zO,zP,zR,zS]at *);first|exact qN ⟨Int.le_trans (by decide) hq0.1,Int.le_trans hq0.2 (by omega)⟩|exact qN ⟨Int.le_trans (by omega) hq0.1,Int.le_trans hq0.2 (by omega)⟩)
    |((try simp only [qV]at *);(try simp only [zQ,zA,zB,zC,zD,zE,zF,zG,zH,zI,zJ,zK,zL,zM,zN,zO,zP,zR,zS]at *);exact qN ⟨Int.le_trans (by decide) (Int.add_le_add hq0.1 (Int.le_refl 1)),Int.le_trans (Int.add_le_add hq0.2 (Int.le_refl 1)) (by omega)⟩)
    |(exact qN hq2)
    |(exact(watQ_le hn hcd).elim)
    |(exact(watQ_gt hn hcd).elim)
    |(subst hR;exact qD (qE watQ_max) (qD (qE rfl) qB))
    |skip
end Go.Proofs.Ytkdgpdlfakcgdaa

namespace Go.Proofs.Ytkdgpdlfakcgdaa
open Go Go.Eng Go.Proofs
set_option maxRecDepth 10000
theorem chooseY (tw tm:List Int)(tv:List (List Int))(rate:Int)(cs:List Csk)(a b:Int)(l:List Int)(i:Int)(hS:SOk tw tm tv rate cs)(hl:InCs cs.length l)(h0:0<l.length)(hok:(surB cs (fun j=>sLo tw tm tv (cs.getD j ck0)) (fun j=>sHi tw tm tv (cs.getD j ck0)) a b) l=true):FSpec Try.prog 68 [(.sl 1 (.sym fun _=>zi (l).length) (fun ix=>[.int .i64 (.sym fun _=>(l).getD ix.den.toNat 0)])),(.int .i64 (.sym fun _=>i)),(.int .i64 (.sym fun _=>0)),.own 0 0,.own 1 0,.own 2 0,.own 3 0] [.cells [.any] 22,.cells [(wrkS tw tm tv rate cs)] 105,.cells [(.int .i64 (.sym fun _=>a)),(.int .i64 (.sym fun _=>b))] 35,.cells [.clo 68 [] [.own 0 0,.own 1 0,.own 2 0,.own 3 0]] 123] (fun r bs=>r=(.bool (.sym fun _=>true))∧bs=[.cells [(.sl 1 (.sym fun _=>zi (l).length) (fun ix=>[.int .i64 (.sym fun _=>(l).getD ix.den.toNat 0)]))] 22,.cells [(wrkS tw tm tv rate cs)] 105,.cells [(.int .i64 (.sym fun _=>a)),(.int .i64 (.sym fun _=>b))] 35,.cells [.clo 68 [] [.own 0 0,.own 1 0,.own 2 0,.own 3 0]] 123]):=by
  have c65:=strength65 tw tm tv rate cs l 0 hS.gal hl h0 (by omega) (sok_hr hS)
  refine FSpec.isB rfl fun R B hR hB=>qW (sc:=sc68) tyok mix Try.func68 rfl Try.call68 (by kernel_rfl) (by kernel_rfl) ?_
  generalize Try.prog=P at c65⊢
  cbv
  repeat' (first
      |with_reducible refine hold ?_ ?_
      |with_reducible refine And.intro ?_ ?_
      | (with_reducible refine qS ?_ ?_ ?_
         try cbv)
      | (with_reducible refine qT ?_ ?_
         try cbv)
      |(with_reducible intro hcd;(try simp only [zA,zB,zC,zD,zE,zF,zG,zH,zI,zJ,zK,zL,zM,zN,zO,zP]at hcd);try cbv)
      | (refine qP ?_ (c65) ?hfit
         case hfit=>((repeat' (first|exact qB|refine qD ?_ ?_|exact qE (by rfl)|exact qF (by rfl)|exact Fit.refl _|exact qA|refine qC ?_ rfl ?_));done)
         try cbv)
      | ((first|(refine qR ?_ (c65) rfl (by cbv;(repeat' (first|exact qB|refine qD ?_ ?_|exact qE (by rfl)|exact qF (by rfl)|exact Fit.refl _|exact qA|refine qC ?_ rfl ?_))))|(refine⟨none,?_⟩;refine qR ?_ (c65) rfl (by cbv;(repeat' (first|exact qB|refine qD ?_ ?_|exact qE (by rfl)|exact qF (by rfl)|exact Fit.refl _|exact qA|refine qC ?_ rfl ?_)))))
         try cbv)
      |fail)
  all_goals first
    |trivial
    |((try simp only [qV]at *);(try simp only [zQ,zA,zB,zC,zD,zE,zF,zG,zH,zI,zJ,zK,zL,zM,zN,zO,zP,zR,zS]at *);first|(refine qN ?_;omega)|(simp only [Hold];omega))
    |(subst hR;exact(hcd (of_decide_eq_true (Bool.and_eq_true_iff.1 hok).1)).elim;done)
    |(subst hR;(repeat' (first|exact qA|exact qB|refine qC ?_ rfl ?_|refine qD ?_ ?_|exact qE (by rfl)|exact qF (by rfl)|exact Fit.refl _|exact qG _|(refine qE ?_;(try simp only [qV]at *);simp only [zQ,zA,zB,zC,zD,zE,zF,zG,zH,zI,zJ,zK,zL,zM,zN,zO,zP,zR,zS]at *;omega)));done)
    |(subst hR;(exact qF (by unfold surB at hok;rw [←hok];rw [decide_eq_true (by assumption)];rfl));done)
    |(subst hB;(repeat' (first|exact qH|refine qI ?_ ?_|exact qK _|refine qJ ?_|exact qA|exact qE (by rfl)|exact qF (by rfl)|exact Fit.refl _|exact qG _|refine qC ?_ rfl ?_));done)
    |(exfalso;unfold surB at hok;simp [*]at hok;done)
    |skip
theorem chooseN (tw tm:List Int)(tv:List (List Int))(rate:Int)(cs:List Csk)(a b:Int)(l:List Int)(i:Int)(hS:SOk tw tm tv rate cs)(hl:InCs cs.length l)(h0:0<l.length)(hok:(surB cs (fun j=>sLo tw tm tv (cs.getD j ck0)) (fun j=>sHi tw tm tv (cs.getD j ck0)) a b) l=false):FSpec Try.prog 68 [(.sl 1 (.sym fun _=>zi (l).length) (fun ix=>[.int .i64 (.sym fun _=>(l).getD ix.den.toNat 0)])),(.int .i64 (.sym fun _=>i)),(.int .i64 (.sym fun _=>0)),.own 0 0,.own 1 0,.own 2 0,.own 3 0] [.cells [.any] 22,.cells [(wrkS tw tm tv rate cs)] 105,.cells [(.int .i64 (.sym fun _=>a)),(.int .i64 (.sym fun _=>b))] 35,.cells [.clo 68 [] [.own 0 0,.own 1 0,.own 2 0,.own 3 0]] 123] (fun r bs=>r=(.bool (.sym fun _=>false))∧bs=[.cells [.any] 22,.cells [(wrkS tw tm tv rate cs)] 105,.cells [(.int .i64 (.sym fun _=>a)),(.int .i64 (.sym fun _=>b))] 35,.cells [.clo 68 [] [.own 0 0,.own 1 0,.own 2 0,.own 3 0]] 123]):=by
  have c65:=strength65 tw tm tv rate cs l 0 hS.gal hl h0 (by omega) (sok_hr hS)
  refine FSpec.isB rfl fun R B hR hB=>qW (sc:=sc68) tyok mix Try.func68 rfl Try.call68 (by kernel_rfl) (by kernel_rfl) ?_
  generalize Try.prog=P at c65⊢
  cbv
  repeat' (first
      |with_reducible refine hold ?_ ?_
      |with_reducible refine And.intro ?_ ?_
      | (with_reducible refine qS ?_ ?_ ?_
         try cbv)
      | (with_reducible refine qT ?_ ?_
         try cbv)
      |(with_reducible intro hcd;(try simp only [zA,zB,zC,zD,zE,zF,zG,zH,zI,zJ,zK,zL,zM,zN,zO,zP]at hcd);try cbv)
      | (refine qP ?_ (c65) ?hfit
         case hfit=>((repeat' (first|exact qB|refine qD ?_ ?_|exact qE (by rfl)|exact qF (by rfl)|exact Fit.refl _|exact qA|refine qC ?_ rfl ?_));done)
         try cbv)
      | ((first|(refine qR ?_ (c65) rfl (by cbv;(repeat' (first|exact qB|refine qD ?_ ?_|exact qE (by rfl)|exact qF (by rfl)|exact Fit.refl _|exact qA|refine qC ?_ rfl ?_))))|(refine⟨none,?_⟩;refine qR ?_ (c65) rfl (by cbv;(repeat' (first|exact qB|refine qD ?_ ?_|exact qE (by rfl)|exact qF (by rfl)|exact Fit.refl _|exact qA|refine qC ?_ rfl ?_)))))
         try cbv)
      |fail)
  all_goals first
    |trivial
    |((try simp only [qV]at *);(try simp only [zQ,zA,zB,zC,zD,zE,zF,zG,zH,zI,zJ,zK,zL,zM,zN,zO,zP,zR,zS]at *);first|(refine qN ?_;omega)|(simp only [Hold];omega))
    |(subst hR;exact(hcd (of_decide_eq_true (Bool.and_eq_true_iff.1 hok).1)).elim;done)
    |(subst hR;(repeat' (first|exact qA|exact qB|refine qC ?_ rfl ?_|refine qD ?_ ?_|exact qE (by rfl)|exact qF (by rfl)|exact Fit.refl _|exact qG _|(refine qE ?_;(try simp only [qV]at *);simp only [zQ,zA,zB,zC,zD,zE,zF,zG,zH,zI,zJ,zK,zL,zM,zN,zO,zP,zR,zS]at *;omega)));done)
    |(subst hR;(exact qF (by unfold surB at hok;rw [←hok];rw [decide_eq_true (by assumption)];rfl));done)
    |(subst hB;(repeat' (first|exact qH|refine qI ?_ ?_|exact qK _|refine qJ ?_|exact qA|exact qE (by rfl)|exact qF (by rfl)|exact Fit.refl _|exact qG _|refine qC ?_ rfl ?_));done)
    |(exfalso;unfold surB at hok;simp [*]at hok;done)
    |skip
theorem zi_app {L l:List Int} {x:Int}(h:L=l++[x]):zi l.length+1=zi L.length:=by
  subst h
  simp only [zi_den,List.length_append,List.length_cons,List.length_nil]
  omega
theorem stepY (tw tm:List Int)(tv:List (List Int))(rate:Int)(cs:List Csk)(a b:Int)(l:List Int)(i k M:Nat)(F:List Int)(hS:SOk tw tm tv rate cs)(hl:InCs cs.length l)(hli:l.length≤i)(hM:M=k+1)(him:i+M≤cs.length)(hch:firstOf (fun j=>chooseL cs.length (surB cs (fun j=>sLo tw tm tv (cs.getD j ck0)) (fun j=>sHi tw tm tv (cs.getD j ck0)) a b) k (l++[(j:Int)]) (j+1)) (cs.length+1-M-i) i=some F)(ih:∀(j:Nat),i≤j→j+M≤cs.length→(∀F L:List Int,L=l++[(j:Int)]→chooseL cs.length (surB cs (fun j=>sLo tw tm tv (cs.getD j ck0)) (fun j=>sHi tw tm tv (cs.getD j ck0)) a b) k (l++[(j:Int)]) (j+1)=some F→FSpec Try.prog 68 [(.sl 1 (.sym fun _=>zi (L).length) (fun ix=>[.int .i64 (.sym fun _=>(L).getD ix.den.toNat 0)])),(.int .i64 (.sym fun _=>zi j+1)),(.int .i64 (.sym fun _=>zi M-1)),.own 0 0,.own 1 0,.own 2 0,.own 3 0] [.cells [.any] 22,.cells [(wrkS tw tm tv rate cs)] 105,.cells [(.int .i64 (.sym fun _=>a)),(.int .i64 (.sym fun _=>b))] 35,.cells [.clo 68 [] [.own 0 0,.own 1 0,.own 2 0,.own 3 0]] 123] (fun r bs=>r=(.bool (.sym fun _=>true))∧bs=[.cells [(.sl 1 (.sym fun _=>zi (F).length) (fun ix=>[.int .i64 (.sym fun _=>(F).getD ix.den.toNat 0)]))] 22,.cells [(wrkS tw tm tv rate cs)] 105,.cells [(.int .i64 (.sym fun _=>a)),(.int .i64 (.sym fun _=>b))] 35,.cells [.clo 68 [] [.own 0 0,.own 1 0,.own 2 0,.own 3 0]] 123]))∧(∀L:List Int,L=l++[(j:Int)]→chooseL cs.length (surB cs (fun j=>sLo tw tm tv (cs.getD j ck0)) (fun j=>sHi tw tm tv (cs.getD j ck0)) a b) k (l++[(j:Int)]) (j+1)=none→FSpec Try.prog 68 [(.sl 1 (.sym fun _=>zi (L).length) (fun ix=>[.int .i64 (.sym fun _=>(L).getD ix.den.toNat 0)])),(.int .i64 (.sym fun _=>zi j+1)),(.int .i64 (.sym fun _=>zi M-1)),.own 0 0,.own 1 0,.own 2 0,.own 3 0] [.cells [.any] 22,.cells [(wrkS tw tm tv rate cs)] 105,.cells [(.int .i64 (.sym fun _=>a)),(.int .i64 (.sym fun _=>b))] 35,.cells [.clo 68 [] [.own 0 0,.own 1 0,.own 2 0,.own 3 0]] 123] (fun r bs=>r=(.bool (.sym fun _=>false))∧bs=[.cells [.any] 22,.cells [(wrkS tw tm tv rate cs)] 105,.cells [(.int .i64 (.sym fun _=>a)),(.int .i64 (.sym fun _=>b))] 35,.cells [.clo 68 [] [.own 0 0,.own 1 0,.own 2 0,.own 3 0]] 123]))):FSpec Try.prog 68 [(.sl 1 (.sym fun _=>zi (l).length) (fun ix=>[.int .i64 (.sym fun _=>(l).getD ix.den.toNat 0)])),(.int .i64 (.sym fun _=>zi i)),(.int .i64 (.sym fun _=>zi M)),.own 0 0,.own 1 0,.own 2 0,.own 3 0] [.cells [.any] 22,.cells [(wrkS tw tm tv rate cs)] 105,.cells [(.int .i64 (.sym fun _=>a)),(.int .i64 (.sym fun _=>b))] 35,.cells [.clo 68 [] [.own 0 0,.own 1 0,.own 2 0,.own 3 0]] 123] (fun r bs=>r=(.bool (.sym fun _=>true))∧bs=[.cells [(.sl 1 (.sym fun _=>zi (F).length) (fun ix=>[.int .i64 (.sym fun _=>(F).getD ix.den.toNat 0)]))] 22,.cells [(wrkS tw tm tv rate cs)] 105,.cells [(.int .i64 (.sym fun _=>a)),(.int .i64 (.sym fun _=>b))] 35,.cells [.clo 68 [] [.own 0 0,.own 1 0,.own 2 0,.own 3 0]] 123]):=by
  have c69:=clone69 l (by have:=hS.few;omega)
  have ihY:=fun (j:Nat) h h1=>(ih j h h1).1
  have ihN:=fun (j:Nat) h h1=>(ih j h h1).2
  refine FSpec.isB rfl fun R B hR hB=>qW (sc:=sc68) tyok mix Try.func68 rfl Try.call68 (by kernel_rfl) (by kernel_rfl) ?_
  generalize Try.prog=P at c69 ihY ihN⊢
  cbv
  have hfew:=hS.few
  repeat' (first
      |with_reducible refine hold ?_ ?_
      |with_reducible refine And.intro ?_ ?_
      | (with_reducible refine qS ?_ ?_ ?_
         try cbv)
      | (with_reducible refine qT ?_ ?_
         try cbv)
      |(with_reducible intro hcd;(try simp only [zA,zB,zC,zD,zE,zF,zG,zH,zI,zJ,zK,zL,zM,zN,zO,zP]at hcd);try cbv)
      |fail)
  all_goals first
    |trivial
    |((try simp only [qV]at *);(try simp only [zQ,zA,zB,zC,zD,zE,zF,zG,zH,zI,zJ,zK,zL,zM,zN,zO,zP,zR,zS]at *);first|(refine qN ?_;omega)|(simp only [Hold];omega))
    |(exfalso;(try simp only [qV]at *);(try simp only [zQ,zA,zB,zC,zD,zE,zF,zG,zH,zI,zJ,zK,zL,zM,zN,zO,zP,zR,zS]at *);omega)
    |skip
  refine⟨none,[],{x:Nat // i≤x∧x+M≤cs.length+1∧firstOf (fun j=>chooseL cs.length (surB cs (fun j=>sLo tw tm tv (cs.getD j ck0)) (fun j=>sHi tw tm tv (cs.getD j ck0)) a b) k (l++[(j:Int)]) (j+1)) (cs.length+1-M-x) x=some F},fun x=>⟨[(0,(.sl 1 (.sym fun _=>zi (l).length) (fun ix=>[.int .i64 (.sym fun _=>(l).getD ix.den.toNat 0)]))),(2,(.int .i64 (.sym fun _=>zi M))),(3,.own 0 0),(4,.own 1 0),(5,.own 2 0),(6,.own 3 0),(12,(.int .i64 (.sym fun _=>zi x.1)))],[(0,.cells [.any] 22),(1,.cells [(wrkS tw tm tv rate cs)] 105),(2,.cells [(.int .i64 (.sym fun _=>a)),(.int .i64 (.sym fun _=>b))] 35),(3,.cells [.clo 68 [] [.own 0 0,.own 1 0,.own 2 0,.own 3 0]] 123)],40⟩,fun x=>cs.length+1-x.1,?_,?_⟩
  · refine⟨⟨i,by omega,by omega,hch⟩,?_⟩
    cbv
    repeat' (first
      |with_reducible refine hold ?_ ?_
      |with_reducible refine And.intro ?_ ?_)
    all_goals first
      |trivial
      |exact qM (qE (by rfl))
      |exact qM (qF (by rfl))
      |exact qM (Fit.refl _)
      |exact qL (qK _)
      |(refine qM (qE ?_);(try simp only [qV]at *);simp only [zQ,zA,zB,zC,zD,zE,zF,zG,zH,zI,zJ,zK,zL,zM,zN,zO,zP,zR,zS]at *;omega)
      |(refine qL (qJ ?_);(repeat' (first|exact qA|exact qB|refine qC ?_ rfl ?_|refine qD ?_ ?_|exact qE (by rfl)|exact qF (by rfl)|exact Fit.refl _|exact qG _|(refine qE ?_;(try simp only [qV]at *);simp only [zQ,zA,zB,zC,zD,zE,zF,zG,zH,zI,zJ,zK,zL,zM,zN,zO,zP,zR,zS]at *;omega)));done)
      |skip
  · rintro ⟨x,h1,h2,h3⟩
    cbv
    repeat' (first
        |with_reducible refine hold ?_ ?_
        |with_reducible refine And.intro ?_ ?_
        | (with_reducible refine qS ?_ ?_ ?_
           try cbv)
        | (with_reducible refine qT ?_ ?_
           try cbv)
        |(with_reducible intro hcd;(try simp only [zA,zB,zC,zD,zE,zF,zG,zH,zI,zJ,zK,zL,zM,zN,zO,zP]at hcd);try cbv)
        | (refine Or.inr ⟨true,?_⟩
           cbv
           refine qU ?_ (c69) (by cbv;(repeat' (first|exact qB|refine qD ?_ ?_|exact qE (by rfl)|exact qF (by rfl)|exact Fit.refl _|exact qA|refine qC ?_ rfl ?_))) (by cbv;(repeat' (first|exact qH|refine qI ?_ ?_|exact qK _|refine qJ ?_|exact qA|exact qE (by rfl)|exact qF (by rfl)|exact Fit.refl _|exact qG _|refine qC ?_ rfl ?_)))
           try cbv)
        | (obtain⟨L2,eL2⟩:∃y:List Int,y=l++[(x:Int)]:=⟨_,rfl⟩
           refine⟨intsE L2,?_⟩
           cbv
           refine hold (hold_rowlist (L:=l) eL2 (by(first|rfl|((try simp only [qV]at *);(try simp only [zQ,zA,zB,zC,zD,zE,zF,zG,zH,zI,zJ,zK,zL,zM,zN,zO,zP,zR,zS]at *);done)|((try simp only [qV]at *);(try simp only [zQ,zA,zB,zC,zD,zE,zF,zG,zH,zI,zJ,zK,zL,zM,zN,zO,zP,zR,zS]at *);omega))) (by rfl) (fun ix=>Fit.refl _) (fun ix h=>qC (qE (by rfl)) rfl qA) (by(try simp only [qV]at *);(try simp only [zQ,zA,zB,zC,zD,zE,zF,zG,zH,zI,zJ,zK,zL,zM,zN,zO,zP,zR,zS]at *);omega)) (Or.inr ⟨true,?_⟩)
           try cbv)
        | (refine⟨(0:Nat),?_⟩
           cbv)
        |((rcases hcj:chooseL cs.length (surB cs (fun j=>sLo tw tm tv (cs.getD j ck0)) (fun j=>sHi tw tm tv (cs.getD j ck0)) a b) k (l++[(x:Int)]) (x+1)with _|G)<;>(first|(refine⟨some [0,1,2,3],?_⟩;cbv;refine qQ ?_ (ihN x (by((try simp only [qV]at *);(try simp only [zQ,zA,zB,zC,zD,zE,zF,zG,zH,zI,zJ,zK,zL,zM,zN,zO,zP,zR,zS]at *);omega)) (by((try simp only [qV]at *);(try simp only [zQ,zA,zB,zC,zD,zE,zF,zG,zH,zI,zJ,zK,zL,zM,zN,zO,zP,zR,zS]at *);omega)) L2 eL2 hcj) (by cbv;refine qD (fit_sl (zi_app eL2) (fun _ _ _=>Fit.refl _)) ?_;(repeat' (first|exact qB|refine qD ?_ ?_|exact qE (by rfl)|exact qF (by rfl)|exact Fit.refl _|exact qA|refine qC ?_ rfl ?_))) (by cbv;(repeat' (first|exact qH|refine qI ?_ ?_|exact qK _|refine qJ ?_|exact qA|exact qE (by rfl)|exact qF (by rfl)|exact Fit.refl _|exact qG _|refine qC ?_ rfl ?_)));(try cbv))|(refine⟨some [0,1,2,3],?_⟩;cbv;refine qQ ?_ (ihY x (by((try simp only [qV]at *);(try simp only [zQ,zA,zB,zC,zD,zE,zF,zG,zH,zI,zJ,zK,zL,zM,zN,zO,zP,zR,zS]at *);omega)) (by((try simp only [qV]at *);(try simp only [zQ,zA,zB,zC,zD,zE,zF,zG,zH,zI,zJ,zK,zL,zM,zN,zO,zP,zR,zS]at *);omega)) G L2 eL2 hcj) (by cbv;refine qD (fit_sl (zi_app eL2) (fun _ _ _=>Fit.refl _)) ?_;(repeat' (first|exact qB|refine qD ?_ ?_|exact qE (by rfl)|exact qF (by rfl)|exact Fit.refl _|exact qA|refine qC ?_ rfl ?_))) (by cbv;(repeat' (first|exact qH|refine qI ?_ ?_|exact qK _|refine qJ ?_|exact qA|exact qE (by rfl)|exact qF (by rfl)|exact Fit.refl _|exact qG _|refine qC ?_ rfl ?_)));(try cbv))))
        |fail)
    all_goals first
      |trivial
      |((try simp only [qV]at *);(try simp only [zQ,zA,zB,zC,zD,zE,zF,zG,zH,zI,zJ,zK,zL,zM,zN,zO,zP,zR,zS]at *);first|(refine qN ?_;omega)|(simp only [Hold];omega))
      |(subst hR;(repeat' (first|exact qA|exact qB|refine qC ?_ rfl ?_|refine qD ?_ ?_|exact qE (by rfl)|exact qF (by rfl)|exact Fit.refl _|exact qG _|(refine qE ?_;(try simp only [qV]at *);simp only [zQ,zA,zB,zC,zD,zE,zF,zG,zH,zI,zJ,zK,zL,zM,zN,zO,zP,zR,zS]at *;omega)));done)
      |(subst hB;(repeat' (first|exact qH|refine qI ?_ ?_|exact qK _|refine qJ ?_|exact qA|exact qE (by rfl)|exact qF (by rfl)|exact Fit.refl _|exact qG _|refine qC ?_ rfl ?_));done)
      |((try simp only [qV]at *);(try simp only [zQ,zA,zB,zC,zD,zE,zF,zG,zH,zI,zJ,zK,zL,zM,zN,zO,zP,zR,zS]at *);simp only [Hold];omega)
      |(cases (firstOf_hit (f:=(fun j=>chooseL cs.length (surB cs (fun j=>sLo tw tm tv (cs.getD j ck0)) (fun j=>sHi tw tm tv (cs.getD j ck0)) a b) k (l++[(j:Int)]) (j+1))) (k:=cs.length+1-M-x) (i:=x) (by((try simp only [qV]at *);(try simp only [zQ,zA,zB,zC,zD,zE,zF,zG,zH,zI,zJ,zK,zL,zM,zN,zO,zP,zR,zS]at *);omega)) hcj).symm.trans h3;done)
      |(cases (firstOf_hit (f:=(fun j=>chooseL cs.length (surB cs (fun j=>sLo tw tm tv (cs.getD j ck0)) (fun j=>sHi tw tm tv (cs.getD j ck0)) a b) k (l++[(j:Int)]) (j+1))) (k:=cs.length+1-M-x) (i:=x) (by((try simp only [qV]at *);(try simp only [zQ,zA,zB,zC,zD,zE,zF,zG,zH,zI,zJ,zK,zL,zM,zN,zO,zP,zR,zS]at *);omega)) hcj).symm.trans h3;subst hB;(repeat' (first|exact qH|refine qI ?_ ?_|exact qK _|refine qJ ?_|exact qA|exact qE (by rfl)|exact qF (by rfl)|exact Fit.refl _|exact qG _|refine qC ?_ rfl ?_));done)
      |((have hz:cs.length+1-M-x=0:=by((try simp only [qV]at *);(try simp only [zQ,zA,zB,zC,zD,zE,zF,zG,zH,zI,zJ,zK,zL,zM,zN,zO,zP,zR,zS]at *);omega));rw [hz]at h3;cases h3;done)
      |((try simp only [zQ,zA,zB,zC,zD,zE,zF,zG,zH,zI,zJ,zK,zL,zM,zN,zO,zP,zR,zS]at *);refine⟨⟨x+1,by omega,by omega,by rw [show cs.length+1-M-(x+1)=cs.length+1-M-x-1 by omega];exact(firstOf_go (f:=(fun j=>chooseL cs.length (surB cs (fun j=>sLo tw tm tv (cs.getD j ck0)) (fun j=>sHi tw tm tv (cs.getD j ck0)) a b) k (l++[(j:Int)]) (j+1))) (k:=cs.length+1-M-x) (i:=x) (by omega) hcj).symm.trans h3⟩,by simp only [];omega,?_⟩;cbv;(repeat' (first|with_reducible refine hold ?_ ?_|with_reducible refine And.intro ?_ ?_));(all_goals first|trivial|exact qM (qE (by rfl))|exact qM (qF (by rfl))|exact qM (Fit.refl _)|exact qL (qK _)|(refine qM (qE ?_);(try simp only [qV]at *);simp only [zQ,zA,zB,zC,zD,zE,zF,zG,zH,zI,zJ,zK,zL,zM,zN,zO,zP,zR,zS]at *;omega)|(refine qL (qJ ?_);(repeat' (first|exact qA|exact qB|refine qC ?_ rfl ?_|refine qD ?_ ?_|exact qE (by rfl)|exact qF (by rfl)|exact Fit.refl _|exact qG _|(refine qE ?_;(try simp only [qV]at *);simp only [zQ,zA,zB,zC,zD,zE,zF,zG,zH,zI,zJ,zK,zL,zM,zN,zO,zP,zR,zS]at *;omega)));done)|skip))
      |skip
theorem stepN (tw tm:List Int)(tv:List (List Int))(rate:Int)(cs:List Csk)(a b:Int)(l:List Int)(i k M:Nat)(hS:SOk tw tm tv rate cs)(hl:InCs cs.length l)(hli:l.length≤i)(hM:M=k+1)(him:i+M≤cs.length)(hch:firstOf (fun j=>chooseL cs.length (surB cs (fun j=>sLo tw tm tv (cs.getD j ck0)) (fun j=>sHi tw tm tv (cs.getD j ck0)) a b) k (l++[(j:Int)]) (j+1)) (cs.length+1-M-i) i=none)(ih:∀(j:Nat),i≤j→j+M≤cs.length→(∀F L:List Int,L=l++[(j:Int)]→chooseL cs.length (surB cs (fun j=>sLo tw tm tv (cs.getD j ck0)) (fun j=>sHi tw tm tv (cs.getD j ck0)) a b) k (l++[(j:Int)]) (j+1)=some F→FSpec Try.prog 68 [(.sl 1 (.sym fun _=>zi (L).length) (fun ix=>[.int .i64 (.sym fun _=>(L).getD ix.den.toNat 0)])),(.int .i64 (.sym fun _=>zi j+1)),(.int .i64 (.sym fun _=>zi M-1)),.own 0 0,.own 1 0,.own 2 0,.own 3 0] [.cells [.any] 22,.cells [(wrkS tw tm tv rate cs)] 105,.cells [(.int .i64 (.sym fun _=>a)),(.int .i64 (.sym fun _=>b))] 35,.cells [.clo 68 [] [.own 0 0,.own 1 0,.own 2 0,.own 3 0]] 123] (fun r bs=>r=(.bool (.sym fun _=>true))∧bs=[.cells [(.sl 1 (.sym fun _=>zi (F).length) (fun ix=>[.int .i64 (.sym fun _=>(F).getD ix.den.toNat 0)]))] 22,.cells [(wrkS tw tm tv rate cs)] 105,.cells [(.int .i64 (.sym fun _=>a)),(.int .i64 (.sym fun _=>b))] 35,.cells [.clo 68 [] [.own 0 0,.own 1 0,.own 2 0,.own 3 0]] 123]))∧(∀L:List Int,L=l++[(j:Int)]→chooseL cs.length (surB cs (fun j=>sLo tw tm tv (cs.getD j ck0)) (fun j=>sHi tw tm tv (cs.getD j ck0)) a b) k (l++[(j:Int)]) (j+1)=none→FSpec Try.prog 68 [(.sl 1 (.sym fun _=>zi (L).length) (fun ix=>[.int .i64 (.sym fun _=>(L).getD ix.den.toNat 0)])),(.int .i64 (.sym fun _=>zi j+1)),(.int .i64 (.sym fun _=>zi M-1)),.own 0 0,.own 1 0,.own 2 0,.own 3 0] [.cells [.any] 22,.cells [(wrkS tw tm tv rate cs)] 105,.cells [(.int .i64 (.sym fun _=>a)),(.int .i64 (.sym fun _=>b))] 35,.cells [.clo 68 [] [.own 0 0,.own 1 0,.own 2 0,.own 3 0]] 123] (fun r bs=>r=(.bool (.sym fun _=>false))∧bs=[.cells [.any] 22,.cells [(wrkS tw tm tv rate cs)] 105,.cells [(.int .i64 (.sym fun _=>a)),(.int .i64 (.sym fun _=>b))] 35,.cells [.clo 68 [] [.own 0 0,.own 1 0,.own 2 0,.own 3 0]] 123]))):FSpec Try.prog 68 [(.sl 1 (.sym fun _=>zi (l).length) (fun ix=>[.int .i64 (.sym fun _=>(l).getD ix.den.toNat 0)])),(.int .i64 (.sym fun _=>zi i)),(.int .i64 (.sym fun _=>zi M)),.own 0 0,.own 1 0,.own 2 0,.own 3 0] [.cells [.any] 22,.cells [(wrkS tw tm tv rate cs)] 105,.cells [(.int .i64 (.sym fun _=>a)),(.int .i64 (.sym fun _=>b))] 35,.cells [.clo 68 [] [.own 0 0,.own 1 0,.own 2 0,.own 3 0]] 123] (fun r bs=>r=(.bool (.sym fun _=>false))∧bs=[.cells [.any] 22,.cells [(wrkS tw tm tv rate cs)] 105,.cells [(.int .i64 (.sym fun _=>a)),(.int .i64 (.sym fun _=>b))] 35,.cells [.clo 68 [] [.own 0 0,.own 1 0,.own 2 0,.own 3 0]] 123]):=by
  have c69:=clone69 l (by have:=hS.few;omega)
  have ihY:=fun (j:Nat) h h1=>(ih j h h1).1
  have ihN:=fun (j:Nat) h h1=>(ih j h h1).2
  refine FSpec.isB rfl fun R B hR hB=>qW (sc:=sc68) tyok mix Try.func68 rfl Try.call68 (by kernel_rfl) (by kernel_rfl) ?_
  generalize Try.prog=P at c69 ihY ihN⊢
  cbv
  have hfew:=hS.few
  repeat' (first
      |with_reducible refine hold ?_ ?_
      |with_reducible refine And.intro ?_ ?_
      | (with_reducible refine qS ?_ ?_ ?_
         try cbv)
      | (with_reducible refine qT ?_ ?_
         try cbv)
      |(with_reducible intro hcd;(try simp only [zA,zB,zC,zD,zE,zF,zG,zH,zI,zJ,zK,zL,zM,zN,zO,zP]at hcd);try cbv)
      |fail)
  all_goals first
    |trivial
    |((try simp only [qV]at *);(try simp only [zQ,zA,zB,zC,zD,zE,zF,zG,zH,zI,zJ,zK,zL,zM,zN,zO,zP,zR,zS]at *);first|(refine qN ?_;omega)|(simp only [Hold];omega))
    |(exfalso;(try simp only [qV]at *);(try simp only [zQ,zA,zB,zC,zD,zE,zF,zG,zH,zI,zJ,zK,zL,zM,zN,zO,zP,zR,zS]at *);omega)
    |skip
  refine⟨none,[],{x:Nat // i≤x∧x+M≤cs.length+1∧firstOf (fun j=>chooseL cs.length (surB cs (fun j=>sLo tw tm tv (cs.getD j ck0)) (fun j=>sHi tw tm tv (cs.getD j ck0)) a b) k (l++[(j:Int)]) (j+1)) (cs.length+1-M-x) x=none},fun x=>⟨[(0,(.sl 1 (.sym fun _=>zi (l).length) (fun ix=>[.int .i64 (.sym fun _=>(l).getD ix.den.toNat 0)]))),(2,(.int .i64 (.sym fun _=>zi M))),(3,.own 0 0),(4,.own 1 0),(5,.own 2 0),(6,.own 3 0),(12,(.int .i64 (.sym fun _=>zi x.1)))],[(0,.cells [.any] 22),(1,.cells [(wrkS tw tm tv rate cs)] 105),(2,.cells [(.int .i64 (.sym fun _=>a)),(.int .i64 (.sym fun _=>b))] 35),(3,.cells [.clo 68 [] [.own 0 0,.own 1 0,.own 2 0,.own 3 0]] 123)],40⟩,fun x=>cs.length+1-x.1,?_,?_⟩
  · refine⟨⟨i,by omega,by omega,hch⟩,?_⟩
    cbv
    repeat' (first
      |with_reducible refine hold ?_ ?_
      |with_reducible refine And.intro ?_ ?_)
    all_goals first
      |trivial
      |exact qM (qE (by rfl))
      |exact qM (qF (by rfl))
      |exact qM (Fit.refl _)
      |exact qL (qK _)
      |(refine qM (qE ?_);(try simp only [qV]at *);simp only [zQ,zA,zB,zC,zD,zE,zF,zG,zH,zI,zJ,zK,zL,zM,zN,zO,zP,zR,zS]at *;omega)
      |(refine qL (qJ ?_);(repeat' (first|exact qA|exact qB|refine qC ?_ rfl ?_|refine qD ?_ ?_|exact qE (by rfl)|exact qF (by rfl)|exact Fit.refl _|exact qG _|(refine qE ?_;(try simp only [qV]at *);simp only [zQ,zA,zB,zC,zD,zE,zF,zG,zH,zI,zJ,zK,zL,zM,zN,zO,zP,zR,zS]at *;omega)));done)
      |skip
  · rintro ⟨x,h1,h2,h3⟩
    cbv
    repeat' (first
        |with_reducible refine hold ?_ ?_
        |with_reducible refine And.intro ?_ ?_
        | (with_reducible refine qS ?_ ?_ ?_
           try cbv)
        | (with_reducible refine qT ?_ ?_
           try cbv)
        |(with_reducible intro hcd;(try simp only [zA,zB,zC,zD,zE,zF,zG,zH,zI,zJ,zK,zL,zM,zN,zO,zP]at hcd);try cbv)
        | (refine Or.inr ⟨true,?_⟩
           cbv
           refine qU ?_ (c69) (by cbv;(repeat' (first|exact qB|refine qD ?_ ?_|exact qE (by rfl)|exact qF (by rfl)|exact Fit.refl _|exact qA|refine qC ?_ rfl ?_))) (by cbv;(repeat' (first|exact qH|refine qI ?_ ?_|exact qK _|refine qJ ?_|exact qA|exact qE (by rfl)|exact qF (by rfl)|exact Fit.refl _|exact qG _|refine qC ?_ rfl ?_)))
           try cbv)
        | (obtain⟨L2,eL2⟩:∃y:List Int,y=l++[(x:Int)]:=⟨_,rfl⟩
           refine⟨intsE L2,?_⟩
           cbv
           refine hold (hold_rowlist (L:=l) eL2 (by(first|rfl|((try simp only [qV]at *);(try simp only [zQ,zA,zB,zC,zD,zE,zF,zG,zH,zI,zJ,zK,zL,zM,zN,zO,zP,zR,zS]at *);done)|((try simp only [qV]at *);(try simp only [zQ,zA,zB,zC,zD,zE,zF,zG,zH,zI,zJ,zK,zL,zM,zN,zO,zP,zR,zS]at *);omega))) (by rfl) (fun ix=>Fit.refl _) (fun ix h=>qC (qE (by rfl)) rfl qA) (by(try simp only [qV]at *);(try simp only [zQ,zA,zB,zC,zD,zE,zF,zG,zH,zI,zJ,zK,zL,zM,zN,zO,zP,zR,zS]at *);omega)) (Or.inr ⟨true,?_⟩)
           try cbv)
        | (refine⟨(0:Nat),?_⟩
           cbv)
        |((rcases hcj:chooseL cs.length (surB cs (fun j=>sLo tw tm tv (cs.getD j ck0)) (fun j=>sHi tw tm tv (cs.getD j ck0)) a b) k (l++[(x:Int)]) (x+1)with _|G)<;>(first|(refine⟨some [0,1,2,3],?_⟩;cbv;refine qQ ?_ (ihN x (by((try simp only [qV]at *);(try simp only [zQ,zA,zB,zC,zD,zE,zF,zG,zH,zI,zJ,zK,zL,zM,zN,zO,zP,zR,zS]at *);omega)) (by((try simp only [qV]at *);(try simp only [zQ,zA,zB,zC,zD,zE,zF,zG,zH,zI,zJ,zK,zL,zM,zN,zO,zP,zR,zS]at *);omega)) L2 eL2 hcj) (by cbv;refine qD (fit_sl (zi_app eL2) (fun _ _ _=>Fit.refl _)) ?_;(repeat' (first|exact qB|refine qD ?_ ?_|exact qE (by rfl)|exact qF (by rfl)|exact Fit.refl _|exact qA|refine qC ?_ rfl ?_))) (by cbv;(repeat' (first|exact qH|refine qI ?_ ?_|exact qK _|refine qJ ?_|exact qA|exact qE (by rfl)|exact qF (by rfl)|exact Fit.refl _|exact qG _|refine qC ?_ rfl ?_)));(try cbv))|(refine⟨some [0,1,2,3],?_⟩;cbv;refine qQ ?_ (ihY x (by((try simp only [qV]at *);(try simp only [zQ,zA,zB,zC,zD,zE,zF,zG,zH,zI,zJ,zK,zL,zM,zN,zO,zP,zR,zS]at *);omega)) (by((try simp only [qV]at *);(try simp only [zQ,zA,zB,zC,zD,zE,zF,zG,zH,zI,zJ,zK,zL,zM,zN,zO,zP,zR,zS]at *);omega)) G L2 eL2 hcj) (by cbv;refine qD (fit_sl (zi_app eL2) (fun _ _ _=>Fit.refl _)) ?_;(repeat' (first|exact qB|refine qD ?_ ?_|exact qE (by rfl)|exact qF (by rfl)|exact Fit.refl _|exact qA|refine qC ?_ rfl ?_))) (by cbv;(repeat' (first|exact qH|refine qI ?_ ?_|exact qK _|refine qJ ?_|exact qA|exact qE (by rfl)|exact qF (by rfl)|exact Fit.refl _|exact qG _|refine qC ?_ rfl ?_)));(try cbv))))
        |fail)
    all_goals first
      |trivial
      |((try simp only [qV]at *);(try simp only [zQ,zA,zB,zC,zD,zE,zF,zG,zH,zI,zJ,zK,zL,zM,zN,zO,zP,zR,zS]at *);first|(refine qN ?_;omega)|(simp only [Hold];omega))
      |(subst hR;(repeat' (first|exact qA|exact qB|refine qC ?_ rfl ?_|refine qD ?_ ?_|exact qE (by rfl)|exact qF (by rfl)|exact Fit.refl _|exact qG _|(refine qE ?_;(try simp only [qV]at *);simp only [zQ,zA,zB,zC,zD,zE,zF,zG,zH,zI,zJ,zK,zL,zM,zN,zO,zP,zR,zS]at *;omega)));done)
      |(subst hB;(repeat' (first|exact qH|refine qI ?_ ?_|exact qK _|refine qJ ?_|exact qA|exact qE (by rfl)|exact qF (by rfl)|exact Fit.refl _|exact qG _|refine qC ?_ rfl ?_));done)
      |((try simp only [qV]at *);(try simp only [zQ,zA,zB,zC,zD,zE,zF,zG,zH,zI,zJ,zK,zL,zM,zN,zO,zP,zR,zS]at *);simp only [Hold];omega)
      |(cases (firstOf_hit (f:=(fun j=>chooseL cs.length (surB cs (fun j=>sLo tw tm tv (cs.getD j ck0)) (fun j=>sHi tw tm tv (cs.getD j ck0)) a b) k (l++[(j:Int)]) (j+1))) (k:=cs.length+1-M-x) (i:=x) (by((try simp only [qV]at *);(try simp only [zQ,zA,zB,zC,zD,zE,zF,zG,zH,zI,zJ,zK,zL,zM,zN,zO,zP,zR,zS]at *);omega)) hcj).symm.trans h3;done)
      |(cases (firstOf_hit (f:=(fun j=>chooseL cs.length (surB cs (fun j=>sLo tw tm tv (cs.getD j ck0)) (fun j=>sHi tw tm tv (cs.getD j ck0)) a b) k (l++[(j:Int)]) (j+1))) (k:=cs.length+1-M-x) (i:=x) (by((try simp only [qV]at *);(try simp only [zQ,zA,zB,zC,zD,zE,zF,zG,zH,zI,zJ,zK,zL,zM,zN,zO,zP,zR,zS]at *);omega)) hcj).symm.trans h3;subst hB;(repeat' (first|exact qH|refine qI ?_ ?_|exact qK _|refine qJ ?_|exact qA|exact qE (by rfl)|exact qF (by rfl)|exact Fit.refl _|exact qG _|refine qC ?_ rfl ?_));done)
      |((have hz:cs.length+1-M-x=0:=by((try simp only [qV]at *);(try simp only [zQ,zA,zB,zC,zD,zE,zF,zG,zH,zI,zJ,zK,zL,zM,zN,zO,zP,zR,zS]at *);omega));rw [hz]at h3;cases h3;done)
      |((try simp only [zQ,zA,zB,zC,zD,zE,zF,zG,zH,zI,zJ,zK,zL,zM,zN,zO,zP,zR,zS]at *);refine⟨⟨x+1,by omega,by omega,by rw [show cs.length+1-M-(x+1)=cs.length+1-M-x-1 by omega];exact(firstOf_go (f:=(fun j=>chooseL cs.length (surB cs (fun j=>sLo tw tm tv (cs.getD j ck0)) (fun j=>sHi tw tm tv (cs.getD j ck0)) a b) k (l++[(j:Int)]) (j+1))) (k:=cs.length+1-M-x) (i:=x) (by omega) hcj).symm.trans h3⟩,by simp only [];omega,?_⟩;cbv;(repeat' (first|with_reducible refine hold ?_ ?_|with_reducible refine And.intro ?_ ?_));(all_goals first|trivial|exact qM (qE (by rfl))|exact qM (qF (by rfl))|exact qM (Fit.refl _)|exact qL (qK _)|(refine qM (qE ?_);(try simp only [qV]at *);simp only [zQ,zA,zB,zC,zD,zE,zF,zG,zH,zI,zJ,zK,zL,zM,zN,zO,zP,zR,zS]at *;omega)|(refine qL (qJ ?_);(repeat' (first|exact qA|exact qB|refine qC ?_ rfl ?_|refine qD ?_ ?_|exact qE (by rfl)|exact qF (by rfl)|exact Fit.refl _|exact qG _|(refine qE ?_;(try simp only [qV]at *);simp only [zQ,zA,zB,zC,zD,zE,zF,zG,zH,zI,zJ,zK,zL,zM,zN,zO,zP,zR,zS]at *;omega)));done)|skip))
      |skip
theorem choose68 (tw tm:List Int)(tv:List (List Int))(rate:Int)(cs:List Csk)(a b:Int)(hS:SOk tw tm tv rate cs):∀(m:Nat) (l:List Int) (i:Nat) (ie me:Int),ie=(i:Int)→me=(m:Int)→InCs cs.length l→l.length≤i→i+m≤cs.length→(m=0→0<l.length) →
    (∀F:List Int,chooseL cs.length (surB cs (fun j=>sLo tw tm tv (cs.getD j ck0)) (fun j=>sHi tw tm tv (cs.getD j ck0)) a b) m l i=some F→FSpec Try.prog 68 [(.sl 1 (.sym fun _=>zi (l).length) (fun ix=>[.int .i64 (.sym fun _=>(l).getD ix.den.toNat 0)])),(.int .i64 (.sym fun _=>ie)),(.int .i64 (.sym fun _=>me)),.own 0 0,.own 1 0,.own 2 0,.own 3 0] [.cells [.any] 22,.cells [(wrkS tw tm tv rate cs)] 105,.cells [(.int .i64 (.sym fun _=>a)),(.int .i64 (.sym fun _=>b))] 35,.cells [.clo 68 [] [.own 0 0,.own 1 0,.own 2 0,.own 3 0]] 123] (fun r bs=>r=(.bool (.sym fun _=>true))∧bs=[.cells [(.sl 1 (.sym fun _=>zi (F).length) (fun ix=>[.int .i64 (.sym fun _=>(F).getD ix.den.toNat 0)]))] 22,.cells [(wrkS tw tm tv rate cs)] 105,.cells [(.int .i64 (.sym fun _=>a)),(.int .i64 (.sym fun _=>b))] 35,.cells [.clo 68 [] [.own 0 0,.own 1 0,.own 2 0,.own 3 0]] 123]))∧(chooseL cs.length (surB cs (fun j=>sLo tw tm tv (cs.getD j ck0)) (fun j=>sHi tw tm tv (cs.getD j ck0)) a b) m l i=none→FSpec Try.prog 68 [(.sl 1 (.sym fun _=>zi (l).length) (fun ix=>[.int .i64 (.sym fun _=>(l).getD ix.den.toNat 0)])),(.int .i64 (.sym fun _=>ie)),(.int .i64 (.sym fun _=>me)),.own 0 0,.own 1 0,.own 2 0,.own 3 0] [.cells [.any] 22,.cells [(wrkS tw tm tv rate cs)] 105,.cells [(.int .i64 (.sym fun _=>a)),(.int .i64 (.sym fun _=>b))] 35,.cells [.clo 68 [] [.own 0 0,.own 1 0,.own 2 0,.own 3 0]] 123] (fun r bs=>r=(.bool (.sym fun _=>false))∧bs=[.cells [.any] 22,.cells [(wrkS tw tm tv rate cs)] 105,.cells [(.int .i64 (.sym fun _=>a)),(.int .i64 (.sym fun _=>b))] 35,.cells [.clo 68 [] [.own 0 0,.own 1 0,.own 2 0,.own 3 0]] 123])):=by
  intro m
  induction m with
  | zero=>
    intro l i ie me hie hme hl hli him h0
    have hm0:me=0:=by omega
    subst hm0
    constructor
    · intro F hF
      simp only [chooseL]at hF
      split at hF
      · rename_i h;cases hF;exact chooseY tw tm tv rate cs a b l ie hS hl (h0 rfl) h
      · cases hF
    · intro hF
      simp only [chooseL]at hF
      split at hF
      · cases hF
      · rename_i h;exact chooseN tw tm tv rate cs a b l ie hS hl (h0 rfl) (by simpa using h)
  | succ k ih=>
    intro l i ie me hie hme hl hli him h0
    have hfew:=hS.few
    have ih':∀(j:Nat) (L:List Int),L=l++[(j:Int)]→i≤j→j+(k+1)≤cs.length→_:=fun j L hL hj hjm=>ih L (j+1) (zi j+1) (zi (k+1)-1) (by simp only [zi_den];omega) (by simp only [zi_den];omega) ⟨by subst hL;simp only [List.length_append,List.length_cons,List.length_nil];omega,by
      subst hL
      intro q hq
      simp only [List.length_append,List.length_cons,List.length_nil]at hq
      rcases Nat.lt_or_ge q l.length with h|h
      · simp only [List.getD_eq_getElem?_getD,List.getElem?_append_left h];have:=hl.at' q h;simp only [List.getD_eq_getElem?_getD]at this;exact this
      · simp only [List.getD_eq_getElem?_getD,List.getElem?_append_right h,show q-l.length=0 by omega,List.getElem?_cons_zero,Option.getD_some];omega⟩ (by subst hL;simp only [List.length_append,List.length_cons,List.length_nil];omega) (by omega) (fun _=>by subst hL;simp only [List.length_append,List.length_cons,List.length_nil];omega)
    subst hie
    subst hme
    constructor
    · intro F hF
      exact stepY tw tm tv rate cs a b l i k (k+1) F hS hl hli rfl him (by rw [show cs.length+1-(k+1)-i=cs.length-k-i by omega];exact hF) fun j h1 h2=>⟨fun F L hL hc=>(ih' j L hL h1 h2).1 F (by rw [hL];exact hc),fun L hL hc=>(ih' j L hL h1 h2).2 (by rw [hL];exact hc)⟩
    · intro hF
      exact stepN tw tm tv rate cs a b l i k (k+1) hS hl hli rfl him (by rw [show cs.length+1-(k+1)-i=cs.length-k-i by omega];exact hF) fun j h1 h2=>⟨fun F L hL hc=>(ih' j L hL h1 h2).1 F (by rw [hL];exact hc),fun L hL hc=>(ih' j L hL h1 h2).2 (by rw [hL];exact hc)⟩
end Go.Proofs.Ytkdgpdlfakcgdaa

namespace Go.Proofs.Ytkdgpdlfakcgdaa
open Go Go.Eng Go.Proofs
set_option maxRecDepth 10000
theorem fewest35 (tw tm:List Int)(tv:List (List Int))(rate:Int)(cs:List Csk)(a b:Int)(F:List Int)(hS:SOk tw tm tv rate cs)(hab:a≤b)(hch:fewP cs.length (surB cs (fun j=>sLo tw tm tv (cs.getD j ck0)) (fun j=>sHi tw tm tv (cs.getD j ck0)) a b)=some F):FSpec Try.prog 35 [(stoS tw tm tv rate cs),(.agg [(.int .i64 (.sym fun _=>a)),(.int .i64 (.sym fun _=>b))])] [] (fun r _=>r=(.tup [(.sl 1 (.sym fun _=>zi (F).length) (fun ix=>[.int .i64 (.sym fun _=>(F).getD ix.den.toNat 0)])),(.int .i64 (.sym fun _=>0))])):=by
  have c59:=open59 tw tm tv rate cs hS
  have c68:=choose68 tw tm tv rate cs a b hS
  refine FSpec.is fun R hR=>qW (sc:=sc35) tyok mix Try.func35 rfl Try.call35 (by kernel_rfl) (by kernel_rfl) ?_
  generalize Try.prog=P at c59 c68⊢
  cbv
  have hfew:=hS.few
  repeat' (first
      |with_reducible refine hold ?_ ?_
      |with_reducible refine And.intro ?_ ?_
      | (with_reducible refine qS ?_ ?_ ?_
         try cbv)
      | (with_reducible refine qT ?_ ?_
         try cbv)
      |(with_reducible intro hcd;(try simp only [zA,zB,zC,zD,zE,zF,zG,zH,zI,zJ,zK,zL,zM,zN,zO,zP]at hcd);try cbv)
      | (refine qP ?_ (c59) ?hfit
         case hfit=>((repeat' (first|exact qB|refine qD ?_ ?_|exact qE (by rfl)|exact qF (by rfl)|exact Fit.refl _|exact qA|refine qC ?_ rfl ?_));done)
         try cbv)
      |fail)
  all_goals first
    |trivial
    |((try simp only [qV]at *);(try simp only [zQ,zA,zB,zC,zD,zE,zF,zG,zH,zI,zJ,zK,zL,zM,zN,zO,zP,zR,zS]at *);first|(refine qN ?_;omega)|(simp only [Hold];omega))
    |(subst hR;(repeat' (first|exact qA|exact qB|refine qC ?_ rfl ?_|refine qD ?_ ?_|exact qE (by rfl)|exact qF (by rfl)|exact Fit.refl _|exact qG _|(refine qE ?_;(try simp only [qV]at *);simp only [zQ,zA,zB,zC,zD,zE,zF,zG,zH,zI,zJ,zK,zL,zM,zN,zO,zP,zR,zS]at *;omega)));done)
    |(exfalso;(try simp only [qV]at *);(try simp only [zQ,zA,zB,zC,zD,zE,zF,zG,zH,zI,zJ,zK,zL,zM,zN,zO,zP,zR,zS]at *);omega)
    |skip
  refine⟨none,[],{x:Nat // x≤cs.length∧firstOf (fun m=>chooseL cs.length (surB cs (fun j=>sLo tw tm tv (cs.getD j ck0)) (fun j=>sHi tw tm tv (cs.getD j ck0)) a b) (m+1) [] 0) (cs.length-x) x=some F},fun x=>⟨[(8,.own 21 0),(9,.own 22 0),(10,(.bool (.lit false))),(33,(.int .i64 (.sym fun _=>zi cs.length))),(34,(.int .i64 (.sym fun _=>zi x.1)))],[(21,.cells [.any] 22),(9,.cells [(wrkS tw tm tv rate cs)] 105),(1,.cells [(.int .i64 (.sym fun _=>a)),(.int .i64 (.sym fun _=>b))] 35),(22,.cells [.clo 68 [] [.own 21 0,.own 9 0,.own 1 0,.own 22 0]] 123)],60⟩,fun x=>cs.length-x.1,?_,?_⟩
  · refine⟨⟨0,by omega,hch⟩,?_⟩
    cbv
    repeat' (first
      |with_reducible refine hold ?_ ?_
      |with_reducible refine And.intro ?_ ?_)
    all_goals first
      |trivial
      |exact qM (qE (by rfl))
      |exact qM (qF (by rfl))
      |exact qM (Fit.refl _)
      |exact qL (qK _)
      |(refine qM (qE ?_);(try simp only [qV]at *);simp only [zQ,zA,zB,zC,zD,zE,zF,zG,zH,zI,zJ,zK,zL,zM,zN,zO,zP,zR,zS]at *;omega)
      |(refine qL (qJ ?_);(repeat' (first|exact qA|exact qB|refine qC ?_ rfl ?_|refine qD ?_ ?_|exact qE (by rfl)|exact qF (by rfl)|exact Fit.refl _|exact qG _|(refine qE ?_;(try simp only [qV]at *);simp only [zQ,zA,zB,zC,zD,zE,zF,zG,zH,zI,zJ,zK,zL,zM,zN,zO,zP,zR,zS]at *;omega)));done)
      |skip
  · rintro ⟨x,h2,h3⟩
    cbv
    repeat' (first
        |with_reducible refine hold ?_ ?_
        |with_reducible refine And.intro ?_ ?_
        | (with_reducible refine qS ?_ ?_ ?_
           try cbv)
        | (with_reducible refine qT ?_ ?_
           try cbv)
        |(with_reducible intro hcd;(try simp only [zA,zB,zC,zD,zE,zF,zG,zH,zI,zJ,zK,zL,zM,zN,zO,zP]at hcd);try cbv)
        |((rcases hcj:chooseL cs.length (surB cs (fun j=>sLo tw tm tv (cs.getD j ck0)) (fun j=>sHi tw tm tv (cs.getD j ck0)) a b) (x+1) [] 0 with _|G)<;>(first|(refine⟨some [21,9,1,22],?_⟩;cbv;refine qQ ?_ ((c68 (x+1) [] 0 0 (zi x+1) rfl (by(try simp only [qV]);simp only [zi_den];omega) ⟨by simp,fun j hj=>by simp at hj⟩ (by simp) (by((try simp only [qV]at *);(try simp only [zQ,zA,zB,zC,zD,zE,zF,zG,zH,zI,zJ,zK,zL,zM,zN,zO,zP,zR,zS]at *);omega)) (fun h=>by omega)).2 hcj) (by cbv;refine qD (qO rfl) ?_;(repeat' (first|exact qB|refine qD ?_ ?_|exact qE (by rfl)|exact qF (by rfl)|exact Fit.refl _|exact qA|refine qC ?_ rfl ?_))) (by cbv;(repeat' (first|exact qH|refine qI ?_ ?_|exact qK _|refine qJ ?_|exact qA|exact qE (by rfl)|exact qF (by rfl)|exact Fit.refl _|exact qG _|refine qC ?_ rfl ?_)));(try cbv))|(refine⟨some [21,9,1,22],?_⟩;cbv;refine qQ ?_ ((c68 (x+1) [] 0 0 (zi x+1) rfl (by(try simp only [qV]);simp only [zi_den];omega) ⟨by simp,fun j hj=>by simp at hj⟩ (by simp) (by((try simp only [qV]at *);(try simp only [zQ,zA,zB,zC,zD,zE,zF,zG,zH,zI,zJ,zK,zL,zM,zN,zO,zP,zR,zS]at *);omega)) (fun h=>by omega)).1 G hcj) (by cbv;refine qD (qO rfl) ?_;(repeat' (first|exact qB|refine qD ?_ ?_|exact qE (by rfl)|exact qF (by rfl)|exact Fit.refl _|exact qA|refine qC ?_ rfl ?_))) (by cbv;(repeat' (first|exact qH|refine qI ?_ ?_|exact qK _|refine qJ ?_|exact qA|exact qE (by rfl)|exact qF (by rfl)|exact Fit.refl _|exact qG _|refine qC ?_ rfl ?_)));(try cbv))))
        |fail)
    all_goals first
      |trivial
      |((try simp only [qV]at *);(try simp only [zQ,zA,zB,zC,zD,zE,zF,zG,zH,zI,zJ,zK,zL,zM,zN,zO,zP,zR,zS]at *);first|(refine qN ?_;omega)|(simp only [Hold];omega))
      |(subst hR;(repeat' (first|exact qA|exact qB|refine qC ?_ rfl ?_|refine qD ?_ ?_|exact qE (by rfl)|exact qF (by rfl)|exact Fit.refl _|exact qG _|(refine qE ?_;(try simp only [qV]at *);simp only [zQ,zA,zB,zC,zD,zE,zF,zG,zH,zI,zJ,zK,zL,zM,zN,zO,zP,zR,zS]at *;omega)));done)
      |((try simp only [qV]at *);(try simp only [zQ,zA,zB,zC,zD,zE,zF,zG,zH,zI,zJ,zK,zL,zM,zN,zO,zP,zR,zS]at *);simp only [Hold];omega)
      |(cases (firstOf_hit (f:=fun m=>chooseL cs.length (surB cs (fun j=>sLo tw tm tv (cs.getD j ck0)) (fun j=>sHi tw tm tv (cs.getD j ck0)) a b) (m+1) [] 0) (k:=cs.length-x) (i:=x) (by((try simp only [qV]at *);(try simp only [zQ,zA,zB,zC,zD,zE,zF,zG,zH,zI,zJ,zK,zL,zM,zN,zO,zP,zR,zS]at *);omega)) hcj).symm.trans h3;done)
      |(cases (firstOf_hit (f:=fun m=>chooseL cs.length (surB cs (fun j=>sLo tw tm tv (cs.getD j ck0)) (fun j=>sHi tw tm tv (cs.getD j ck0)) a b) (m+1) [] 0) (k:=cs.length-x) (i:=x) (by((try simp only [qV]at *);(try simp only [zQ,zA,zB,zC,zD,zE,zF,zG,zH,zI,zJ,zK,zL,zM,zN,zO,zP,zR,zS]at *);omega)) hcj).symm.trans h3;subst hR;(repeat' (first|exact qA|exact qB|refine qC ?_ rfl ?_|refine qD ?_ ?_|exact qE (by rfl)|exact qF (by rfl)|exact Fit.refl _|exact qG _|(refine qE ?_;(try simp only [qV]at *);simp only [zQ,zA,zB,zC,zD,zE,zF,zG,zH,zI,zJ,zK,zL,zM,zN,zO,zP,zR,zS]at *;omega)));done)
      |((have hz:cs.length-x=0:=by((try simp only [qV]at *);(try simp only [zQ,zA,zB,zC,zD,zE,zF,zG,zH,zI,zJ,zK,zL,zM,zN,zO,zP,zR,zS]at *);omega));rw [hz]at h3;cases h3;done)
      |((try simp only [zQ,zA,zB,zC,zD,zE,zF,zG,zH,zI,zJ,zK,zL,zM,zN,zO,zP,zR,zS]at *);refine⟨⟨x+1,by omega,by rw [show cs.length-(x+1)=cs.length-x-1 by omega];exact(firstOf_go (f:=fun m=>chooseL cs.length (surB cs (fun j=>sLo tw tm tv (cs.getD j ck0)) (fun j=>sHi tw tm tv (cs.getD j ck0)) a b) (m+1) [] 0) (k:=cs.length-x) (i:=x) (by omega) hcj).symm.trans h3⟩,by simp only [];omega,?_⟩;cbv;(repeat' (first|with_reducible refine hold ?_ ?_|with_reducible refine And.intro ?_ ?_));(all_goals first|trivial|exact qM (qE (by rfl))|exact qM (qF (by rfl))|exact qM (Fit.refl _)|exact qL (qK _)|(refine qM (qE ?_);(try simp only [qV]at *);simp only [zQ,zA,zB,zC,zD,zE,zF,zG,zH,zI,zJ,zK,zL,zM,zN,zO,zP,zR,zS]at *;omega)|(refine qL (qJ ?_);(repeat' (first|exact qA|exact qB|refine qC ?_ rfl ?_|refine qD ?_ ?_|exact qE (by rfl)|exact qF (by rfl)|exact Fit.refl _|exact qG _|(refine qE ?_;(try simp only [qV]at *);simp only [zQ,zA,zB,zC,zD,zE,zF,zG,zH,zI,zJ,zK,zL,zM,zN,zO,zP,zR,zS]at *;omega)));done)|skip))
      |skip
end Go.Proofs.Ytkdgpdlfakcgdaa

namespace Go.Proofs.Ytkdgpdlfakcgdaa
open Go Go.Eng Go.Proofs
def hasT (g a:Int)(n:Nat)(d:Int):Bool:=(List.range n).any fun j=>decide (d=tenthsP g (a+(j:Int)))
def canB (cs:List Csk)(lo hi:Nat→Int)(n:Nat)(ks:List Int):Bool:=decide (0≤ks.getD 0 0∧ks.getD 0 0<(n:Int))&&hasT (cs.getD (ks.getD 0 0).toNat ck0).g (lo (ks.getD 0 0).toNat) (hi (ks.getD 0 0).toNat-lo (ks.getD 0 0).toNat+1).toNat (ks.getD 1 0)
def canJ (cs:List Csk)(lo hi:Nat→Int)(n j:Nat)(ks:List Int):Bool:=canB cs lo hi n ks||(decide (ks.getD 0 0=(n:Int))&&hasT (cs.getD n ck0).g (lo n) j (ks.getD 1 0))
def canF (p:List Int→Bool)(ks:List Int):Option SV:=if p ks=true then some (.bool (.lit true))else none
theorem hasT_succ {g a d:Int} {n:Nat}:hasT g a (n+1) d=(hasT g a n d||decide (d=tenthsP g (a+(n:Int)))):=by
  simp [hasT,List.range_succ,List.any_append]
theorem canB_zero {cs:List Csk} {lo hi:Nat→Int}:canB cs lo hi 0=fun _=>false:=by
  funext ks
  simp only [canB,Bool.and_eq_false_iff,decide_eq_false_iff_not]
  left;omega
theorem canJ_zero {cs:List Csk} {lo hi:Nat→Int} {n:Nat}:canJ cs lo hi n 0=canB cs lo hi n:=by
  funext ks
  simp [canJ,hasT]
theorem canJ_all {cs:List Csk} {lo hi:Nat→Int} {n j:Nat}(hj:(j:Int)=hi n-lo n+1):canJ cs lo hi n j=canB cs lo hi (n+1):=by
  funext ks
  unfold canJ canB
  rw [show ∀x y:Bool,(x=y)=(x=true↔y=true)from fun x y=>by cases x<;>cases y<;>simp]
  simp only [Bool.or_eq_true,Bool.and_eq_true,decide_eq_true_eq]
  have hjn:(hi n-lo n+1).toNat=j:=by omega
  constructor
  · rintro(⟨h1,h2⟩|⟨h1,h2⟩)
    · exact⟨by omega,h2⟩
    · rw [h1,show((n:Int)).toNat=n from rfl,hjn];exact⟨by omega,h2⟩
  · rintro⟨h1,h2⟩
    by_cases q:ks.getD 0 0=(n:Int)
    · rw [q,show((n:Int)).toNat=n from rfl,hjn]at h2
      exact .inr ⟨q,h2⟩
    · exact .inl ⟨by omega,h2⟩
theorem le_true :Le (.bool (.lit true)) (.bool (.lit true)):=fun _ _ _ h=>h
theorem canF_upd {cs:List Csk} {lo hi:Nat→Int} {n j:Nat} {x d:Int} {f f':List Int→Option SV}(hf:f=canF (canJ cs lo hi n j))(hf':f'=canF (canJ cs lo hi n (j+1)))(hx:x=(n:Int))(hd:d=tenthsP (cs.getD n ck0).g (lo n+(j:Int))):MapUpd 2 f [x,d] (.bool (.lit true)) f':=by
  subst hf hf' hx hd
  intro ks hk
  match ks,hk with
  | [a, b],_=>
    refine⟨fun hq=> ?_,fun hq=> ?_⟩
    · simp only [List.cons.injEq,and_true]at hq
      obtain⟨rfl,rfl⟩:=hq
      have:canJ cs lo hi n (j+1) [(n:Int),tenthsP (cs.getD n ck0).g (lo n+(j:Int))]=true:=by
        simp [canJ,hasT_succ]
      simp only [canF,this,if_true]
      exact le_true
    · have:canJ cs lo hi n (j+1) [a,b]=canJ cs lo hi n j [a,b]:=by
        simp only [canJ,hasT_succ,List.getD_cons_zero,List.getD_cons_succ]
        by_cases h1:a=(n:Int)
        · have h2:b≠tenthsP (cs.getD n ck0).g (lo n+(j:Int)):=fun h2=>hq (by rw [h1,h2])
          rw [decide_eq_false h2,Bool.or_false]
        · rw [decide_eq_false h1];simp
      simp only [canF,this]
      cases canJ cs lo hi n j [a,b]with
      |true=>exact le_true
      |false=>trivial
theorem canF_zero {cs:List Csk} {lo hi:Nat→Int}:(fun _=>none)=canF (canB cs lo hi 0):=by
  funext ks
  rw [canB_zero];rfl
def decB (n:Nat)(D:List (Int×Int)):Bool:=decide (∀i,i<D.length→(decide (0≤(D.getD i (0,0)).1)&&decide ((D.getD i (0,0)).1≤(n:Int)-1))=true)
def falL (p:List Int→Bool)(D:List (Int×Int)):Nat→List Int
  |0=>[]
  |k+1=>if p [(D.getD k (0,0)).1,(D.getD k (0,0)).2]=true then falL p D k else falL p D k++[(k:Int)]
theorem falL_len {p:List Int→Bool} {D:List (Int×Int)}(k:Nat):(falL p D k).length≤k:=by
  induction k with
  |zero=>simp [falL]
  | succ k ih=>
    simp only [falL]
    split
    · omega
    · simp only [List.length_append,List.length_cons,List.length_nil];omega
theorem falL_y {p:List Int→Bool} {D:List (Int×Int)} {k:Nat}(h:p [(D.getD k (0,0)).1,(D.getD k (0,0)).2]=true):falL p D (k+1)=falL p D k:=by
  simp only [falL,h,if_true]
theorem falL_n {p:List Int→Bool} {D:List (Int×Int)} {k:Nat}(h:p [(D.getD k (0,0)).1,(D.getD k (0,0)).2]=false):falL p D (k+1)=falL p D k++[(k:Int)]:=by
  simp only [falL,h,if_false,Bool.false_eq_true]
theorem canF_some {p:List Int→Bool} {ks:List Int} {s:SV}(h:canF p ks=some s):p ks=true∧s = .bool (.lit true):=by
  unfold canF at h
  split at h
  · rename_i q;cases h;exact⟨q,rfl⟩
  · cases h
theorem canF_none {p:List Int→Bool} {ks:List Int}(h:canF p ks=none):p ks=false:=by
  unfold canF at h
  split at h
  · cases h
  · rename_i q;simpa using q
end Go.Proofs.Ytkdgpdlfakcgdaa

namespace Go.Proofs.Ytkdgpdlfakcgdaa
open Go Go.Eng Go.Proofs
set_option maxRecDepth 10000
theorem false74 (tw tm:List Int)(tv:List (List Int))(rate:Int)(cs:List Csk)(n:Nat)(d e:Int)(hn:n=cs.length∧n≤1000):FSpec Try.prog 74 [(.agg [(.int .i64 (.sym fun _=>d)),(.int .i64 (.sym fun _=>e))]),.own 0 0] [.cells [(wrkS tw tm tv rate cs)] 105] (fun r bs=>r=(.bool (.sym fun _=>decide (0≤d)&&decide (d≤(n:Int)-1)))∧bs=[.cells [(wrkS tw tm tv rate cs)] 105]):=by
  have c64:= @within64
  refine FSpec.isB rfl fun R B hR hB=>qW (sc:=sc74) tyok mix Try.func74 rfl Try.call74 (by kernel_rfl) (by kernel_rfl) ?_
  generalize Try.prog=P at c64⊢
  cbv
  repeat' (first
      |with_reducible refine hold ?_ ?_
      |with_reducible refine And.intro ?_ ?_
      | (with_reducible refine qS ?_ ?_ ?_
         try cbv)
      | (with_reducible refine qT ?_ ?_
         try cbv)
      |(with_reducible intro hcd;(try simp only [zA,zB,zC,zD,zE,zF,zG,zH,zI,zJ,zK,zL,zM,zN,zO,zP]at hcd);try cbv)
      | (refine qP ?_ (c64 _ _ _) (by(repeat' (first|exact qB|refine qD ?_ ?_|exact qE (by rfl)|exact qF (by rfl)|exact Fit.refl _|exact qA|refine qC ?_ rfl ?_)))
         try cbv)
      |fail)
  all_goals first
    |trivial
    |((try simp only [qV]at *);(try simp only [zQ,zA,zB,zC,zD,zE,zF,zG,zH,zI,zJ,zK,zL,zM,zN,zO,zP,zR,zS]at *);first|(refine qN ?_;omega)|(simp only [Hold];omega))
    |(subst hR;(repeat' (first|exact qA|exact qB|refine qC ?_ rfl ?_|refine qD ?_ ?_|exact qE (by rfl)|exact qF (by rfl)|exact Fit.refl _|exact qG _|(refine qE ?_;(try simp only [qV]at *);simp only [zQ,zA,zB,zC,zD,zE,zF,zG,zH,zI,zJ,zK,zL,zM,zN,zO,zP,zR,zS]at *;omega)));done)
    |(subst hR;(exact qF (by rw [hn.1];rfl));done)
    |(subst hB;(repeat' (first|exact qH|refine qI ?_ ?_|exact qK _|refine qJ ?_|exact qA|exact qE (by rfl)|exact qF (by rfl)|exact Fit.refl _|exact qG _|refine qC ?_ rfl ?_));done)
    |skip
theorem lam94_decl (tw tm:List Int)(tv:List (List Int))(rate:Int)(cs:List Csk)(n:Nat)(D:List (Int×Int))(hn:n=cs.length∧n≤1000)(hfew:D.length≤1000)(i:Nat)(hi:i<D.length∧∀j,j<i→(decide (0≤(D.getD (j) (0,0)).1)&&decide ((D.getD (j) (0,0)).1≤(n:Int)-1))=true):FSpec Try.prog 94 [(.agg [(.int .i64 (.sym fun _=>(D.getD (i) (0,0)).1)),(.int .i64 (.sym fun _=>(D.getD (i) (0,0)).2))]),.own 0 0] [.cells [.clo 74 [] [.own 1 0]] 128,.cells [(wrkS tw tm tv rate cs)] 105] (fun r bs=>r=(.bool (.sym fun _=> !(decide (0≤(D.getD (i) (0,0)).1)&&decide ((D.getD (i) (0,0)).1≤(n:Int)-1))))∧bs=[.cells [.clo 74 [] [.own 1 0]] 128,.cells [(wrkS tw tm tv rate cs)] 105]):=by
  have cf:=false74 tw tm tv rate cs n (D.getD i (0,0)).1 (D.getD i (0,0)).2 hn
  refine FSpec.isB rfl fun R B hR hB=>qW (sc:=sc94) tyok mix Try.func94 rfl Try.call94 (by kernel_rfl) (by kernel_rfl) ?_
  generalize Try.prog=P at cf⊢
  cbv
  repeat' (first
      |with_reducible refine hold ?_ ?_
      |with_reducible refine And.intro ?_ ?_
      | (with_reducible refine qS ?_ ?_ ?_
         try cbv)
      | (with_reducible refine qT ?_ ?_
         try cbv)
      |(with_reducible intro hcd;(try simp only [zA,zB,zC,zD,zE,zF,zG,zH,zI,zJ,zK,zL,zM,zN,zO,zP]at hcd);try cbv)
      | (refine⟨some [1],?_⟩
         cbv
         refine qQ ?_ (cf) (by cbv;(repeat' (first|exact qB|refine qD ?_ ?_|exact qE (by rfl)|exact qF (by rfl)|exact Fit.refl _|exact qA|refine qC ?_ rfl ?_))) (by cbv;(repeat' (first|exact qH|refine qI ?_ ?_|exact qK _|refine qJ ?_|exact qA|exact qE (by rfl)|exact qF (by rfl)|exact Fit.refl _|exact qG _|refine qC ?_ rfl ?_)))
         try cbv)
      |fail)
  all_goals first
    |trivial
    |((try simp only [qV]at *);(try simp only [zQ,zA,zB,zC,zD,zE,zF,zG,zH,zI,zJ,zK,zL,zM,zN,zO,zP,zR,zS]at *);first|(refine qN ?_;omega)|(simp only [Hold];omega))
    |(subst hR;(repeat' (first|exact qA|exact qB|refine qC ?_ rfl ?_|refine qD ?_ ?_|exact qE (by rfl)|exact qF (by rfl)|exact Fit.refl _|exact qG _|(refine qE ?_;(try simp only [qV]at *);simp only [zQ,zA,zB,zC,zD,zE,zF,zG,zH,zI,zJ,zK,zL,zM,zN,zO,zP,zR,zS]at *;omega)));done)
    |(subst hB;(repeat' (first|exact qH|refine qI ?_ ?_|exact qK _|refine qJ ?_|exact qA|exact qE (by rfl)|exact qF (by rfl)|exact Fit.refl _|exact qG _|refine qC ?_ rfl ?_));done)
    |skip
theorem idx109_decl (tw tm:List Int)(tv:List (List Int))(rate:Int)(cs:List Csk)(n:Nat)(D:List (Int×Int))(hn:n=cs.length∧n≤1000)(hfew:D.length≤1000):FSpec Try.prog 109 [(.sl 2 (.sym fun _=>zi D.length) (fun ix=>[(.int .i64 (.sym fun _=>(D.getD ix.den.toNat (0,0)).1)),(.int .i64 (.sym fun _=>(D.getD ix.den.toNat (0,0)).2))])),.clo 94 [] [.own 0 0]] [.cells [.clo 74 [] [.own 1 0]] 128,.cells [(wrkS tw tm tv rate cs)] 105] (fun r bs=>r=(.int .i64 (.sym fun _=>fidx (fun i=>decide (0≤(D.getD (i) (0,0)).1)&&decide ((D.getD (i) (0,0)).1≤(n:Int)-1)) (D.length) 0))∧bs=[.cells [.clo 74 [] [.own 1 0]] 128,.cells [(wrkS tw tm tv rate cs)] 105]):=by
  have cl:=lam94_decl tw tm tv rate cs n D hn hfew
  refine FSpec.isB rfl fun R B hR hB=>qW (sc:=sc109) tyok mix Try.func109 rfl Try.call109 (by kernel_rfl) (by kernel_rfl) ?_
  generalize Try.prog=P at cl⊢
  cbv
  repeat' (first
      |with_reducible refine hold ?_ ?_
      |with_reducible refine And.intro ?_ ?_
      | (with_reducible refine qS ?_ ?_ ?_
         try cbv)
      | (with_reducible refine qT ?_ ?_
         try cbv)
      |(with_reducible intro hcd;(try simp only [zA,zB,zC,zD,zE,zF,zG,zH,zI,zJ,zK,zL,zM,zN,zO,zP]at hcd);try cbv)
      |fail)
  all_goals first
    |trivial
    |((try simp only [qV]at *);(try simp only [zQ,zA,zB,zC,zD,zE,zF,zG,zH,zI,zJ,zK,zL,zM,zN,zO,zP,zR,zS]at *);first|(refine qN ?_;omega)|(simp only [Hold];omega))
    |skip
  refine⟨none,[],{i:Nat // i≤D.length∧fidx (fun i=>decide (0≤(D.getD (i) (0,0)).1)&&decide ((D.getD (i) (0,0)).1≤(n:Int)-1)) (D.length) 0=fidx (fun i=>decide (0≤(D.getD (i) (0,0)).1)&&decide ((D.getD (i) (0,0)).1≤(n:Int)-1)) (D.length-i) i∧∀j,j<i→(decide (0≤(D.getD (j) (0,0)).1)&&decide ((D.getD (j) (0,0)).1≤(n:Int)-1))=true},fun x=>⟨[(0,(.sl 2 (.sym fun _=>zi D.length) (fun ix=>[(.int .i64 (.sym fun _=>(D.getD ix.den.toNat (0,0)).1)),(.int .i64 (.sym fun _=>(D.getD ix.den.toNat (0,0)).2))]))),(1,.clo 94 [] [.own 0 0]),(7,(.int .i64 (.sym fun _=>zi (D.length)))),(8,(.int .i64 (.sym fun _=>zi x.1)))],[(0,.cells [.clo 74 [] [.own 1 0]] 128),(1,.cells [(wrkS tw tm tv rate cs)] 105)],20⟩,fun x=>D.length-x.1,?_,?_⟩
  · refine⟨⟨0,by omega,rfl,fun j hj=>by omega⟩,?_⟩
    cbv
    repeat' (first
      |with_reducible refine hold ?_ ?_
      |with_reducible refine And.intro ?_ ?_)
    all_goals first
      |trivial
      |exact qM (qE (by rfl))
      |exact qM (qF (by rfl))
      |exact qM (Fit.refl _)
      |exact qL (qK _)
      |(refine qM (qE ?_);(try simp only [qV]at *);simp only [zQ,zA,zB,zC,zD,zE,zF,zG,zH,zI,zJ,zK,zL,zM,zN,zO,zP,zR,zS]at *;omega)
      |(refine qL (qJ ?_);(repeat' (first|exact qA|exact qB|refine qC ?_ rfl ?_|refine qD ?_ ?_|exact qE (by rfl)|exact qF (by rfl)|exact Fit.refl _|exact qG _|(refine qE ?_;(try simp only [qV]at *);simp only [zQ,zA,zB,zC,zD,zE,zF,zG,zH,zI,zJ,zK,zL,zM,zN,zO,zP,zR,zS]at *;omega)));done)
      |skip
  · rintro ⟨i,hi,hr,hq⟩
    cbv
    repeat' (first
        |with_reducible refine hold ?_ ?_
        |with_reducible refine And.intro ?_ ?_
        | (with_reducible refine qS ?_ ?_ ?_
           try cbv)
        | (with_reducible refine qT ?_ ?_
           try cbv)
        |(with_reducible intro hcd;(try simp only [zA,zB,zC,zD,zE,zF,zG,zH,zI,zJ,zK,zL,zM,zN,zO,zP]at hcd);try cbv)
        | (refine⟨some [0,1],?_⟩
           cbv
           refine qQ ?_ (cl i ⟨by(try simp only [qV]at *);simp only [zi_den]at *;omega,hq⟩) (by cbv;(repeat' (first|exact qB|refine qD ?_ ?_|exact qE (by rfl)|exact qF (by rfl)|exact Fit.refl _|exact qA|refine qC ?_ rfl ?_))) (by cbv;(repeat' (first|exact qH|refine qI ?_ ?_|exact qK _|refine qJ ?_|exact qA|exact qE (by rfl)|exact qF (by rfl)|exact Fit.refl _|exact qG _|refine qC ?_ rfl ?_)))
           try cbv)
        |fail)
    all_goals first
      |trivial
      |((try simp only [qV]at *);(try simp only [zQ,zA,zB,zC,zD,zE,zF,zG,zH,zI,zJ,zK,zL,zM,zN,zO,zP,zR,zS]at *);first|(refine qN ?_;omega)|(simp only [Hold];omega))
      |(subst hR;(refine qE ?_;simp only [zQ,zA,zB,zC,zD,zE,zF,zG,zH,zI,zJ,zK,zL,zM,zN,zO,zP,zR,zS]at *;rw [hr,fidx_stop (by omega) hcd]);done)
      |(subst hR;(refine qE ?_;simp only [zQ,zA,zB,zC,zD,zE,zF,zG,zH,zI,zJ,zK,zL,zM,zN,zO,zP,zR,zS]at *;rw [hr,show D.length-i=0 by omega];rfl);done)
      |(subst hB;(repeat' (first|exact qH|refine qI ?_ ?_|exact qK _|refine qJ ?_|exact qA|exact qE (by rfl)|exact qF (by rfl)|exact Fit.refl _|exact qG _|refine qC ?_ rfl ?_));done)
      |((try simp only [zQ,zA,zB,zC,zD,zE,zF,zG,zH,zI,zJ,zK,zL,zM,zN,zO,zP,zR,zS]at *);refine⟨⟨i+1,by omega,by rw [hr,fidx_go (by omega) hcd];(try congr 1)<;>omega,fun j hj=>(Nat.lt_or_ge j i).elim (hq j) (fun q=>by rw [show j=i by omega];exact hcd)⟩,by simp only [];omega,?_⟩;cbv;(repeat' (first|with_reducible refine hold ?_ ?_|with_reducible refine And.intro ?_ ?_));(all_goals first|trivial|exact qM (qE (by rfl))|exact qM (qF (by rfl))|exact qM (Fit.refl _)|exact qL (qK _)|(refine qM (qE ?_);(try simp only [qV]at *);simp only [zQ,zA,zB,zC,zD,zE,zF,zG,zH,zI,zJ,zK,zL,zM,zN,zO,zP,zR,zS]at *;omega)|(refine qL (qJ ?_);(repeat' (first|exact qA|exact qB|refine qC ?_ rfl ?_|refine qD ?_ ?_|exact qE (by rfl)|exact qF (by rfl)|exact Fit.refl _|exact qG _|(refine qE ?_;(try simp only [qV]at *);simp only [zQ,zA,zB,zC,zD,zE,zF,zG,zH,zI,zJ,zK,zL,zM,zN,zO,zP,zR,zS]at *;omega)));done)|skip))
      |skip
theorem cont93_decl (tw tm:List Int)(tv:List (List Int))(rate:Int)(cs:List Csk)(n:Nat)(D:List (Int×Int))(hn:n=cs.length∧n≤1000)(hfew:D.length≤1000):FSpec Try.prog 93 [(.sl 2 (.sym fun _=>zi D.length) (fun ix=>[(.int .i64 (.sym fun _=>(D.getD ix.den.toNat (0,0)).1)),(.int .i64 (.sym fun _=>(D.getD ix.den.toNat (0,0)).2))])),.clo 94 [] [.own 0 0]] [.cells [.clo 74 [] [.own 1 0]] 128,.cells [(wrkS tw tm tv rate cs)] 105] (fun r bs=>r=(.bool (.sym fun _=>decide (0≤fidx (fun i=>decide (0≤(D.getD (i) (0,0)).1)&&decide ((D.getD (i) (0,0)).1≤(n:Int)-1)) (D.length) 0)))∧bs=[.cells [.clo 74 [] [.own 1 0]] 128,.cells [(wrkS tw tm tv rate cs)] 105]):=by
  have ci:=idx109_decl tw tm tv rate cs n D hn hfew
  refine FSpec.isB rfl fun R B hR hB=>qW (sc:=sc93) tyok mix Try.func93 rfl Try.call93 (by kernel_rfl) (by kernel_rfl) ?_
  generalize Try.prog=P at ci⊢
  cbv
  repeat' (first
      |with_reducible refine hold ?_ ?_
      |with_reducible refine And.intro ?_ ?_
      | (with_reducible refine qS ?_ ?_ ?_
         try cbv)
      | (with_reducible refine qT ?_ ?_
         try cbv)
      |(with_reducible intro hcd;(try simp only [zA,zB,zC,zD,zE,zF,zG,zH,zI,zJ,zK,zL,zM,zN,zO,zP]at hcd);try cbv)
      | (refine⟨some [0,1],?_⟩
         cbv
         refine qQ ?_ (ci) (by cbv;(repeat' (first|exact qB|refine qD ?_ ?_|exact qE (by rfl)|exact qF (by rfl)|exact Fit.refl _|exact qA|refine qC ?_ rfl ?_))) (by cbv;(repeat' (first|exact qH|refine qI ?_ ?_|exact qK _|refine qJ ?_|exact qA|exact qE (by rfl)|exact qF (by rfl)|exact Fit.refl _|exact qG _|refine qC ?_ rfl ?_)))
         try cbv)
      |fail)
  all_goals first
    |trivial
    |((try simp only [qV]at *);(try simp only [zQ,zA,zB,zC,zD,zE,zF,zG,zH,zI,zJ,zK,zL,zM,zN,zO,zP,zR,zS]at *);first|(refine qN ?_;omega)|(simp only [Hold];omega))
    |(subst hR;(repeat' (first|exact qA|exact qB|refine qC ?_ rfl ?_|refine qD ?_ ?_|exact qE (by rfl)|exact qF (by rfl)|exact Fit.refl _|exact qG _|(refine qE ?_;(try simp only [qV]at *);simp only [zQ,zA,zB,zC,zD,zE,zF,zG,zH,zI,zJ,zK,zL,zM,zN,zO,zP,zR,zS]at *;omega)));done)
    |(subst hB;(repeat' (first|exact qH|refine qI ?_ ?_|exact qK _|refine qJ ?_|exact qA|exact qE (by rfl)|exact qF (by rfl)|exact Fit.refl _|exact qG _|refine qC ?_ rfl ?_));done)
    |skip
theorem all73_decl (tw tm:List Int)(tv:List (List Int))(rate:Int)(cs:List Csk)(n:Nat)(D:List (Int×Int))(hn:n=cs.length∧n≤1000)(hfew:D.length≤1000):FSpec Try.prog 73 [(.sl 2 (.sym fun _=>zi D.length) (fun ix=>[(.int .i64 (.sym fun _=>(D.getD ix.den.toNat (0,0)).1)),(.int .i64 (.sym fun _=>(D.getD ix.den.toNat (0,0)).2))])),.clo 74 [] [.own 0 0]] [.cells [(wrkS tw tm tv rate cs)] 105] (fun r bs=>r=(.bool (.sym fun _=> !(decide (0≤fidx (fun i=>decide (0≤(D.getD (i) (0,0)).1)&&decide ((D.getD (i) (0,0)).1≤(n:Int)-1)) (D.length) 0))))∧bs=[.cells [(wrkS tw tm tv rate cs)] 105]):=by
  have cc:=cont93_decl tw tm tv rate cs n D hn hfew
  refine FSpec.isB rfl fun R B hR hB=>qW (sc:=sc73) tyok mix Try.func73 rfl Try.call73 (by kernel_rfl) (by kernel_rfl) ?_
  generalize Try.prog=P at cc⊢
  cbv
  repeat' (first
      |with_reducible refine hold ?_ ?_
      |with_reducible refine And.intro ?_ ?_
      | (with_reducible refine qS ?_ ?_ ?_
         try cbv)
      | (with_reducible refine qT ?_ ?_
         try cbv)
      |(with_reducible intro hcd;(try simp only [zA,zB,zC,zD,zE,zF,zG,zH,zI,zJ,zK,zL,zM,zN,zO,zP]at hcd);try cbv)
      | (refine⟨some [1,0],?_⟩
         cbv
         refine qQ ?_ (cc) (by cbv;(repeat' (first|exact qB|refine qD ?_ ?_|exact qE (by rfl)|exact qF (by rfl)|exact Fit.refl _|exact qA|refine qC ?_ rfl ?_))) (by cbv;(repeat' (first|exact qH|refine qI ?_ ?_|exact qK _|refine qJ ?_|exact qA|exact qE (by rfl)|exact qF (by rfl)|exact Fit.refl _|exact qG _|refine qC ?_ rfl ?_)))
         try cbv)
      |fail)
  all_goals first
    |trivial
    |((try simp only [qV]at *);(try simp only [zQ,zA,zB,zC,zD,zE,zF,zG,zH,zI,zJ,zK,zL,zM,zN,zO,zP,zR,zS]at *);first|(refine qN ?_;omega)|(simp only [Hold];omega))
    |(subst hR;(repeat' (first|exact qA|exact qB|refine qC ?_ rfl ?_|refine qD ?_ ?_|exact qE (by rfl)|exact qF (by rfl)|exact Fit.refl _|exact qG _|(refine qE ?_;(try simp only [qV]at *);simp only [zQ,zA,zB,zC,zD,zE,zF,zG,zH,zI,zJ,zK,zL,zM,zN,zO,zP,zR,zS]at *;omega)));done)
    |(subst hB;(repeat' (first|exact qH|refine qI ?_ ?_|exact qK _|refine qJ ?_|exact qA|exact qE (by rfl)|exact qF (by rfl)|exact Fit.refl _|exact qG _|refine qC ?_ rfl ?_));done)
    |skip
theorem all73r (tw tm:List Int)(tv:List (List Int))(rate:Int)(cs:List Csk)(D:List (Int×Int))(hc:cs.length≤1000)(h:D.length≤1000):FSpec Try.prog 73 [(.sl 2 (.sym fun _=>zi D.length) (fun ix=>[(.int .i64 (.sym fun _=>(D.getD ix.den.toNat (0,0)).1)),(.int .i64 (.sym fun _=>(D.getD ix.den.toNat (0,0)).2))])),.clo 74 [] [.own 0 0]] [.cells [(wrkS tw tm tv rate cs)] 105] (fun r bs=>r=(.bool (.sym fun _=>decB cs.length D))∧bs=[.cells [(wrkS tw tm tv rate cs)] 105]):=by
  have:=all73_decl tw tm tv rate cs cs.length D ⟨rfl,hc⟩ h
  simp only [all_iff]at this
  exact this
end Go.Proofs.Ytkdgpdlfakcgdaa

namespace Go.Proofs.Ytkdgpdlfakcgdaa
open Go Go.Eng Go.Proofs
set_option maxRecDepth 10000
theorem look_can {f:List Int→Option SV} {p:List Int→Bool} {k:List Int} {M:SV→Prop} {N:Prop}(hf:f=canF p)(h1:p k=true→M (.bool (.lit true)))(h2:p k=false→N):∃r:Option SV,(∀_:Unit,f k=r)∧match r with
    |some s=>M s
    | none=>N:=look_k (fun s hs=>by
      rw [hf]at hs
      obtain⟨hc,rfl⟩:=canF_some hs
      exact h1 hc) fun hs=>by rw [hf]at hs;exact h2 (canF_none hs)
theorem mapTy129 :MapTy Try.prog 129 87 4:=by
  show Try.prog.underlying 129=some (.map 87 4)
  kernel_rfl
theorem keyOk87 :KeyOk Try.prog 87 false 2:=keyOk_strI (by kernel_rfl)
theorem false38r (tw tm:List Int)(tv:List (List Int))(rate:Int)(cs:List Csk)(D:List (Int×Int))(hS:SOk tw tm tv rate cs)(hl:D.length≤1000)(hd:decB cs.length D=false):FSpec Try.prog 38 [(stoS tw tm tv rate cs),(.sl 2 (.sym fun _=>zi D.length) (fun ix=>[(.int .i64 (.sym fun _=>(D.getD ix.den.toNat (0,0)).1)),(.int .i64 (.sym fun _=>(D.getD ix.den.toNat (0,0)).2))]))] [] (fun r _=>r=(.tup [(.val (.slice none 0 0)),(.int .i64 (.sym fun _=>2))])):=by
  have c59:=open59 tw tm tv rate cs hS
  have c73:=all73r tw tm tv rate cs D (by have:=hS.few;omega) hl
  refine FSpec.is fun R hR=>qW (sc:=sc38) tyok mix Try.func38 rfl Try.call38 (by kernel_rfl) (by kernel_rfl) ?_
  generalize Try.prog=P at c59 c73⊢
  cbv
  repeat' (first
      |with_reducible refine hold ?_ ?_
      |with_reducible refine And.intro ?_ ?_
      | (with_reducible refine qS ?_ ?_ ?_
         try cbv)
      | (with_reducible refine qT ?_ ?_
         try cbv)
      |(with_reducible intro hcd;(try simp only [zA,zB,zC,zD,zE,zF,zG,zH,zI,zJ,zK,zL,zM,zN,zO,zP]at hcd);try cbv)
      | (refine qP ?_ (c59) ?hfit
         case hfit=>((repeat' (first|exact qB|refine qD ?_ ?_|exact qE (by rfl)|exact qF (by rfl)|exact Fit.refl _|exact qA|refine qC ?_ rfl ?_));done)
         try cbv)
      | (refine⟨some [8],?_⟩
         cbv
         refine qQ ?_ (c73) (by cbv;(repeat' (first|exact qB|refine qD ?_ ?_|exact qE (by rfl)|exact qF (by rfl)|exact Fit.refl _|exact qA|refine qC ?_ rfl ?_))) (by cbv;(repeat' (first|exact qH|refine qI ?_ ?_|exact qK _|refine qJ ?_|exact qA|exact qE (by rfl)|exact qF (by rfl)|exact Fit.refl _|exact qG _|refine qC ?_ rfl ?_)))
         try cbv)
      |fail)
  all_goals first
    |trivial
    |((try simp only [qV]at *);(try simp only [zQ,zA,zB,zC,zD,zE,zF,zG,zH,zI,zJ,zK,zL,zM,zN,zO,zP,zR,zS]at *);first|(refine qN ?_;omega)|(simp only [Hold];omega))
    |(subst hR;(repeat' (first|exact qA|exact qB|refine qC ?_ rfl ?_|refine qD ?_ ?_|exact qE (by rfl)|exact qF (by rfl)|exact Fit.refl _|exact qG _|(refine qE ?_;(try simp only [qV]at *);simp only [zQ,zA,zB,zC,zD,zE,zF,zG,zH,zI,zJ,zK,zL,zM,zN,zO,zP,zR,zS]at *;omega)));done)
    |(exact Bool.noConfusion (hd.symm.trans (by assumption:decB cs.length D=true)))
    |skip
theorem false38 (tw tm:List Int)(tv:List (List Int))(rate:Int)(cs:List Csk)(D:List (Int×Int))(hS:SOk tw tm tv rate cs)(hl:D.length≤1000)(hd:decB cs.length D=true):FSpec Try.prog 38 [(stoS tw tm tv rate cs),(.sl 2 (.sym fun _=>zi D.length) (fun ix=>[(.int .i64 (.sym fun _=>(D.getD ix.den.toNat (0,0)).1)),(.int .i64 (.sym fun _=>(D.getD ix.den.toNat (0,0)).2))]))] [] (fun r _=>r=(.tup [(.sl 1 (.sym fun _=>zi (falL (canB cs (fun j=>sLo tw tm tv (cs.getD j ck0)) (fun j=>sHi tw tm tv (cs.getD j ck0)) cs.length) D D.length).length) (fun ix=>[.int .i64 (.sym fun _=>(falL (canB cs (fun j=>sLo tw tm tv (cs.getD j ck0)) (fun j=>sHi tw tm tv (cs.getD j ck0)) cs.length) D D.length).getD ix.den.toNat 0)])),(.int .i64 (.sym fun _=>0))])):=by
  have c59:=open59 tw tm tv rate cs hS
  have c73:=all73r tw tm tv rate cs D (by have:=hS.few;omega) hl
  have hmt:=mapTy129
  have hko:=keyOk87
  have c75:=fun (i:Nat) (hi:i<cs.length) (d:Int) (h:0≤d∧d≤2000)=>tenths75c (cs.getD i ck0).g d (hS.gal i hi) h
  refine FSpec.is fun R hR=>qW (sc:=sc38) tyok mix Try.func38 rfl Try.call38 (by kernel_rfl) (by kernel_rfl) ?_
  generalize Try.prog=P at c59 c73 hmt hko c75⊢
  cbv
  have hfew:=hS.few
  repeat' (first
      |with_reducible refine hold ?_ ?_
      |with_reducible refine And.intro ?_ ?_
      | (with_reducible refine qS ?_ ?_ ?_
         try cbv)
      | (with_reducible refine qT ?_ ?_
         try cbv)
      |(with_reducible intro hcd;(try simp only [zA,zB,zC,zD,zE,zF,zG,zH,zI,zJ,zK,zL,zM,zN,zO,zP]at hcd);try cbv)
      | (refine qP ?_ (c59) ?hfit
         case hfit=>((repeat' (first|exact qB|refine qD ?_ ?_|exact qE (by rfl)|exact qF (by rfl)|exact Fit.refl _|exact qA|refine qC ?_ rfl ?_));done)
         try cbv)
      | (refine⟨some [8],?_⟩
         cbv
         refine qQ ?_ (c73) (by cbv;(repeat' (first|exact qB|refine qD ?_ ?_|exact qE (by rfl)|exact qF (by rfl)|exact Fit.refl _|exact qA|refine qC ?_ rfl ?_))) (by cbv;(repeat' (first|exact qH|refine qI ?_ ?_|exact qK _|refine qJ ?_|exact qA|exact qE (by rfl)|exact qF (by rfl)|exact Fit.refl _|exact qG _|refine qC ?_ rfl ?_)))
         try cbv)
      | (refine⟨87,4,false,2,?_⟩
         cbv
         refine hold ⟨hmt,fun h=>by cases h⟩ ?_
         try cbv)
      |fail)
  all_goals first
    |trivial
    |((try simp only [qV]at *);(try simp only [zQ,zA,zB,zC,zD,zE,zF,zG,zH,zI,zJ,zK,zL,zM,zN,zO,zP,zR,zS]at *);first|(refine qN ?_;omega)|(simp only [Hold];omega))
    |(exact Bool.noConfusion (hd.symm.trans (by assumption:decB cs.length D=false)))
    |skip
  refine⟨none,[],{x:Nat×(List Int→Option SV) // x.1≤cs.length∧x.2=canF (canB cs (fun j=>sLo tw tm tv (cs.getD j ck0)) (fun j=>sHi tw tm tv (cs.getD j ck0)) x.1)},fun x=>⟨[(1,(.sl 2 (.sym fun _=>zi D.length) (fun ix=>[(.int .i64 (.sym fun _=>(D.getD ix.den.toNat (0,0)).1)),(.int .i64 (.sym fun _=>(D.getD ix.den.toNat (0,0)).2))]))),(6,.own 8 0),(8,.mp 19),(33,(knoS tw tm tv cs)),(34,(.int .i64 (.sym fun _=>zi cs.length))),(35,(.int .i64 (.sym fun _=>zi x.1.1)))],[(19,.map 87 4 false 2 x.1.2),(8,.cells [(wrkS tw tm tv rate cs)] 105)],60⟩,fun x=>cs.length-x.1.1,?_,?_⟩
  · refine⟨⟨(0,fun _=>none),by omega,canF_zero⟩,?_⟩
    cbv
    repeat' (first
      |with_reducible refine hold ?_ ?_
      |with_reducible refine And.intro ?_ ?_)
    all_goals first
      |trivial
      |exact qM (qE (by rfl))
      |exact qM (qF (by rfl))
      |exact qM (Fit.refl _)
      |exact qL (qK _)
      |(refine qM (qE ?_);(try simp only [qV]at *);simp only [zQ,zA,zB,zC,zD,zE,zF,zG,zH,zI,zJ,zK,zL,zM,zN,zO,zP,zR,zS]at *;omega)
      |skip
  · rintro ⟨⟨i,f⟩,hi,hf⟩
    cbv
    dsimp only at hi hf
    repeat' (first
        |with_reducible refine hold ?_ ?_
        |with_reducible refine And.intro ?_ ?_
        | (with_reducible refine qS ?_ ?_ ?_
           try cbv)
        | (with_reducible refine qT ?_ ?_
           try cbv)
        |(with_reducible intro hcd;(try simp only [zA,zB,zC,zD,zE,zF,zG,zH,zI,zJ,zK,zL,zM,zN,zO,zP]at hcd);try cbv)
        |fail)
    all_goals first
      |trivial
      |((try simp only [qV]at *);(try simp only [zQ,zA,zB,zC,zD,zE,zF,zG,zH,zI,zJ,zK,zL,zM,zN,zO,zP,zR,zS]at *);first|(refine qN ?_;omega)|(simp only [Hold];omega))
      |((try simp only [qV]at *);(try simp only [zQ,zA,zB,zC,zD,zE,zF,zG,zH,zI,zJ,zK,zL,zM,zN,zO,zP,zR,zS]at *);simp only [Hold];omega)
      |skip
    · have hlt :i<cs.length:=by((try simp only [qV]at *);(try simp only [zQ,zA,zB,zC,zD,zE,zF,zG,zH,zI,zJ,zK,zL,zM,zN,zO,zP,zR,zS]at *);omega)
      have hb:=s_bd hS.t (hS.box i hlt)
      refine⟨none,[],{x:Nat×(List Int→Option SV) // (x.1:Int)≤sHi tw tm tv (cs.getD i ck0)-sLo tw tm tv (cs.getD i ck0)+1∧x.2=canF (canJ cs (fun j=>sLo tw tm tv (cs.getD j ck0)) (fun j=>sHi tw tm tv (cs.getD j ck0)) i x.1)},fun x=>⟨[(1,(.sl 2 (.sym fun _=>zi D.length) (fun ix=>[(.int .i64 (.sym fun _=>(D.getD ix.den.toNat (0,0)).1)),(.int .i64 (.sym fun _=>(D.getD ix.den.toNat (0,0)).2))]))),(6,.own 8 0),(8,.mp 19),(9,(.int .i64 (.sym fun _=>zi i))),(10,.own 64 0),(11,(.int .i64 (.sym fun _=>sLo tw tm tv (cs.getD i ck0)+zi x.1.1))),(33,(knoS tw tm tv cs)),(34,(.int .i64 (.sym fun _=>zi cs.length))),(35,(.int .i64 (.sym fun _=>zi i)))],[(19,.map 87 4 false 2 x.1.2),(8,.cells [(wrkS tw tm tv rate cs)] 105),(64,.cells [(.int .i64 (.sym fun _=>sLo tw tm tv (cs.getD i ck0))),(.int .i64 (.sym fun _=>sHi tw tm tv (cs.getD i ck0)))] 35)],90⟩,fun x=>((sHi tw tm tv (cs.getD i ck0)-sLo tw tm tv (cs.getD i ck0)+1)-x.1.1).toNat,?_,?_⟩
      · refine⟨⟨(0,f),by omega,by rw [hf,canJ_zero]⟩,?_⟩
        cbv
        repeat' (first
          |with_reducible refine hold ?_ ?_
          |with_reducible refine And.intro ?_ ?_)
        all_goals first
          |trivial
          |exact qM (qE (by rfl))
          |exact qM (qF (by rfl))
          |exact qM (Fit.refl _)
          |exact qL (qK _)
          |(refine qM (qE ?_);(try simp only [qV]at *);simp only [zQ,zA,zB,zC,zD,zE,zF,zG,zH,zI,zJ,zK,zL,zM,zN,zO,zP,zR,zS]at *;omega)
          |skip
      · rintro ⟨⟨j,f2⟩,hj,hf2⟩
        cbv
        dsimp only at hj hf2
        repeat' (first
            |with_reducible refine hold ?_ ?_
            |with_reducible refine And.intro ?_ ?_
            | (with_reducible refine qS ?_ ?_ ?_
               try cbv)
            | (with_reducible refine qT ?_ ?_
               try cbv)
            |(with_reducible intro hcd;(try simp only [zA,zB,zC,zD,zE,zF,zG,zH,zI,zJ,zK,zL,zM,zN,zO,zP]at hcd);try cbv)
            | (refine qP ?_ (c75 i hlt (sLo tw tm tv (cs.getD i ck0)+zi j) (show Hold _ from ?_)) ?hfit
               case hfit=>((repeat' (first|exact qB|refine qD ?_ ?_|exact qE (by rfl)|exact qF (by rfl)|exact Fit.refl _|exact qA|refine qC ?_ rfl ?_));done)
               try cbv)
            | (obtain⟨f3,ef3⟩:∃y,y=canF (canJ cs (fun j=>sLo tw tm tv (cs.getD j ck0)) (fun j=>sHi tw tm tv (cs.getD j ck0)) i (j+1)):=⟨_,rfl⟩
               refine⟨f3,?_⟩
               cbv
               refine hold ⟨rfl,rfl,hmt,hko,canF_upd hf2 ef3 (by rfl) (by rfl)⟩ ?_
               try cbv)
            |fail)
        all_goals first
          |trivial
          |((try simp only [qV]at *);(try simp only [zQ,zA,zB,zC,zD,zE,zF,zG,zH,zI,zJ,zK,zL,zM,zN,zO,zP,zR,zS]at *);first|(refine qN ?_;omega)|(simp only [Hold];omega))
          |((try simp only [qV]at *);(try simp only [zQ,zA,zB,zC,zD,zE,zF,zG,zH,zI,zJ,zK,zL,zM,zN,zO,zP,zR,zS]at *);simp only [Hold];omega)
          |((try simp only [zQ,zA,zB,zC,zD,zE,zF,zG,zH,zI,zJ,zK,zL,zM,zN,zO,zP,zR,zS]at *);refine⟨⟨(j+1,f3),by(show((j+1:Nat):Int)≤_;(try simp only [qV]at *);(try simp only [zQ,zA,zB,zC,zD,zE,zF,zG,zH,zI,zJ,zK,zL,zM,zN,zO,zP,zR,zS]at *);omega),ef3⟩,by((try simp only []);(try dsimp only);(try simp only [qV]at *);(try simp only [zQ,zA,zB,zC,zD,zE,zF,zG,zH,zI,zJ,zK,zL,zM,zN,zO,zP,zR,zS]at *);omega),?_⟩;cbv;(repeat' (first|with_reducible refine hold ?_ ?_|with_reducible refine And.intro ?_ ?_));(all_goals first|trivial|exact qM (qE (by rfl))|exact qM (qF (by rfl))|exact qM (Fit.refl _)|exact qL (qK _)|(refine qM (qE ?_);(try simp only [qV]at *);simp only [zQ,zA,zB,zC,zD,zE,zF,zG,zH,zI,zJ,zK,zL,zM,zN,zO,zP,zR,zS]at *;omega)|skip))
          |((try simp only [zQ,zA,zB,zC,zD,zE,zF,zG,zH,zI,zJ,zK,zL,zM,zN,zO,zP,zR,zS]at *);refine⟨⟨(i+1,f2),by((try simp only [qV]at *);(try simp only [zQ,zA,zB,zC,zD,zE,zF,zG,zH,zI,zJ,zK,zL,zM,zN,zO,zP,zR,zS]at *);omega),by rw [hf2,canJ_all (lo:=(fun j=>sLo tw tm tv (cs.getD j ck0))) (hi:=(fun j=>sHi tw tm tv (cs.getD j ck0))) (by((try simp only [qV]at *);(try simp only [zQ,zA,zB,zC,zD,zE,zF,zG,zH,zI,zJ,zK,zL,zM,zN,zO,zP,zR,zS]at *);omega))]⟩,by simp only [];omega,?_⟩;cbv;(repeat' (first|with_reducible refine hold ?_ ?_|with_reducible refine And.intro ?_ ?_));(all_goals first|trivial|exact qM (qE (by rfl))|exact qM (qF (by rfl))|exact qM (Fit.refl _)|exact qL (qK _)|(refine qM (qE ?_);(try simp only [qV]at *);simp only [zQ,zA,zB,zC,zD,zE,zF,zG,zH,zI,zJ,zK,zL,zM,zN,zO,zP,zR,zS]at *;omega)|skip))
          |skip
    · have hie :i=cs.length:=by((try simp only [qV]at *);(try simp only [zQ,zA,zB,zC,zD,zE,zF,zG,zH,zI,zJ,zK,zL,zM,zN,zO,zP,zR,zS]at *);omega)
      rw [hie]at hf
      refine⟨none,[⟨.tmp 12,3,1⟩],{x:Nat×List Int // x.1≤D.length∧x.2=falL (canB cs (fun j=>sLo tw tm tv (cs.getD j ck0)) (fun j=>sHi tw tm tv (cs.getD j ck0)) cs.length) D x.1},fun x=>⟨[(8,.mp 19),(12,.row 65),(63,(.sl 2 (.sym fun _=>zi D.length) (fun ix=>[(.int .i64 (.sym fun _=>(D.getD ix.den.toNat (0,0)).1)),(.int .i64 (.sym fun _=>(D.getD ix.den.toNat (0,0)).2))]))),(64,(.int .i64 (.sym fun _=>zi D.length))),(65,(.int .i64 (.sym fun _=>zi x.1.1)))],[(19,.map 87 4 false 2 f),(65,.row 3 1 (.sym fun _=>zi (x.1.2).length) (fun ix=>[.int .i64 (.sym fun _=>(x.1.2).getD ix.den.toNat 0)]))],100⟩,fun x=>D.length-x.1.1,?_,?_⟩
      · refine⟨⟨(0,[]),by omega,rfl⟩,?_⟩
        cbv
        repeat' (first
          |with_reducible refine hold ?_ ?_
          |with_reducible refine And.intro ?_ ?_)
        all_goals first
          |trivial
          |exact qM (qE (by rfl))
          |exact qM (qF (by rfl))
          |exact qM (Fit.refl _)
          |exact qL (qK _)
          |(refine qM (qE ?_);(try simp only [qV]at *);simp only [zQ,zA,zB,zC,zD,zE,zF,zG,zH,zI,zJ,zK,zL,zM,zN,zO,zP,zR,zS]at *;omega)
          |(refine qL (ble_row ?_ ?_);(first|rfl|((try simp only [qV]at *);(try simp only [zQ,zA,zB,zC,zD,zE,zF,zG,zH,zI,zJ,zK,zL,zM,zN,zO,zP,zR,zS]at *);omega));intro ix h0 h1;exfalso;(try simp only [qV]at *);(try simp only [zQ,zA,zB,zC,zD,zE,zF,zG,zH,zI,zJ,zK,zL,zM,zN,zO,zP,zR,zS]at *);omega)
          |skip
      · rintro ⟨⟨k,L⟩,hk,hL⟩
        cbv
        dsimp only at hk hL
        have hlen:=falL_len (p:=canB cs (fun j=>sLo tw tm tv (cs.getD j ck0)) (fun j=>sHi tw tm tv (cs.getD j ck0)) cs.length) (D:=D) k
        rw [←hL]at hlen
        repeat' (first
            |with_reducible refine hold ?_ ?_
            |with_reducible refine And.intro ?_ ?_
            | (with_reducible refine qS ?_ ?_ ?_
               try cbv)
            | (with_reducible refine qT ?_ ?_
               try cbv)
            |(with_reducible intro hcd;(try simp only [zA,zB,zC,zD,zE,zF,zG,zH,zI,zJ,zK,zL,zM,zN,zO,zP]at hcd);try cbv)
            |(refine look_can hf ?_ ?_<;>((with_reducible intro hc);(try cbv)))
            | (obtain⟨L2,eL2⟩:∃y:List Int,y=L++[zi k]:=⟨_,rfl⟩
               refine⟨intsE L2,?_⟩
               cbv
               refine hold (hold_rowlist (L:=L) eL2 (by(first|rfl|((try simp only [qV]at *);(try simp only [zQ,zA,zB,zC,zD,zE,zF,zG,zH,zI,zJ,zK,zL,zM,zN,zO,zP,zR,zS]at *);done)|((try simp only [qV]at *);(try simp only [zQ,zA,zB,zC,zD,zE,zF,zG,zH,zI,zJ,zK,zL,zM,zN,zO,zP,zR,zS]at *);omega))) (by rfl) (fun ix=>Fit.refl _) (fun ix h=>qC (qE (by rfl)) rfl qA) (by(try simp only [qV]at *);(try simp only [zQ,zA,zB,zC,zD,zE,zF,zG,zH,zI,zJ,zK,zL,zM,zN,zO,zP,zR,zS]at *);omega)) (Or.inl ?_)
               try cbv)
            |fail)
        all_goals first
          |trivial
          |((try simp only [qV]at *);(try simp only [zQ,zA,zB,zC,zD,zE,zF,zG,zH,zI,zJ,zK,zL,zM,zN,zO,zP,zR,zS]at *);first|(refine qN ?_;omega)|(simp only [Hold];omega))
          |(subst hR;((have hke:k=D.length:=by((try simp only [qV]at *);(try simp only [zQ,zA,zB,zC,zD,zE,zF,zG,zH,zI,zJ,zK,zL,zM,zN,zO,zP,zR,zS]at *);omega));(have hq:L=falL (canB cs (fun j=>sLo tw tm tv (cs.getD j ck0)) (fun j=>sHi tw tm tv (cs.getD j ck0)) cs.length) D D.length:=hke▸hL);rw [←hq];(first|exact Fit.refl _|(repeat' (first|exact qA|exact Fit.refl _|exact qE (by rfl)|refine qD ?_ ?_|exact qB))));done)
          |(exact⟨rfl,rfl,hmt,hko⟩)
          |((try simp only [qV]at *);(try simp only [zQ,zA,zB,zC,zD,zE,zF,zG,zH,zI,zJ,zK,zL,zM,zN,zO,zP,zR,zS]at *);simp only [Hold];omega)
          |((try simp only [zQ,zA,zB,zC,zD,zE,zF,zG,zH,zI,zJ,zK,zL,zM,zN,zO,zP,zR,zS]at *);refine⟨⟨(k+1,L2),by((try simp only [qV]at *);(try simp only [zQ,zA,zB,zC,zD,zE,zF,zG,zH,zI,zJ,zK,zL,zM,zN,zO,zP,zR,zS]at *);omega),by rw [eL2,hL];exact(falL_n hc).symm⟩,by simp only [];omega,?_⟩;cbv;(repeat' (first|with_reducible refine hold ?_ ?_|with_reducible refine And.intro ?_ ?_));(all_goals first|trivial|exact qM (qE (by rfl))|exact qM (qF (by rfl))|exact qM (Fit.refl _)|exact qL (qK _)|(refine qM (qE ?_);(try simp only [qV]at *);simp only [zQ,zA,zB,zC,zD,zE,zF,zG,zH,zI,zJ,zK,zL,zM,zN,zO,zP,zR,zS]at *;omega)|(refine qL (ble_list ?_ ?_);(first|rfl|((try simp only [qV]at *);(try simp only [zQ,zA,zB,zC,zD,zE,zF,zG,zH,zI,zJ,zK,zL,zM,zN,zO,zP,zR,zS]at *);simp only [eL2,List.length_append,List.length_cons,List.length_nil];omega));intro ix;(try simp only [eL2]);first|exact Fit.refl _|exact qC (qE (by rfl)) rfl qA)|skip))
          |((try simp only [zQ,zA,zB,zC,zD,zE,zF,zG,zH,zI,zJ,zK,zL,zM,zN,zO,zP,zR,zS]at *);refine⟨⟨(k+1,L),by((try simp only [qV]at *);(try simp only [zQ,zA,zB,zC,zD,zE,zF,zG,zH,zI,zJ,zK,zL,zM,zN,zO,zP,zR,zS]at *);omega),by rw [hL];exact(falL_y hc).symm⟩,by simp only [];omega,?_⟩;cbv;(repeat' (first|with_reducible refine hold ?_ ?_|with_reducible refine And.intro ?_ ?_));(all_goals first|trivial|exact qM (qE (by rfl))|exact qM (qF (by rfl))|exact qM (Fit.refl _)|exact qL (qK _)|(refine qM (qE ?_);(try simp only [qV]at *);simp only [zQ,zA,zB,zC,zD,zE,zF,zG,zH,zI,zJ,zK,zL,zM,zN,zO,zP,zR,zS]at *;omega)|(refine qL (ble_list ?_ ?_);(first|rfl|((try simp only [qV]at *);(try simp only [zQ,zA,zB,zC,zD,zE,zF,zG,zH,zI,zJ,zK,zL,zM,zN,zO,zP,zR,zS]at *);simp only [List.length_append,List.length_cons,List.length_nil];omega));intro ix;first|exact Fit.refl _|exact qC (qE (by rfl)) rfl qA)|skip))
          |skip
end Go.Proofs.Ytkdgpdlfakcgdaa

namespace Go.Proofs.Ytkdgpdlfakcgdaa
open Go Go.Eng Go.Proofs
set_option maxRecDepth 10000
def tw3 :List Int:=[10,14,20]
def tm3 :List Int:=[0,10,20]
def tv3 :List (List Int):=[[900,1260,1800],[810,1179,1728],[720,1080,1530]]
def cs3 :List Csk:=[⟨50,10,10,10,10⟩,⟨30,14,14,0,1⟩,⟨20,20,20,20,20⟩]
def D3 :List (Int×Int):=[(1,254),(1,255),(0,630),(1,242)]
theorem sok3 :SOk tw3 tm3 tv3 120 cs3:=faultS_iff.1 (by kernel_rfl)
theorem three56 :FSpec Try.prog 56 [] [] (fun r _=>r=(stoS tw3 tm3 tv3 120 cs3)):=by
  have c47:= @between47
  refine FSpec.is fun R hR=>qW (sc:=sc56) tyok mix Try.func56 rfl Try.call56 (by kernel_rfl) (by kernel_rfl) ?_
  generalize Try.prog=P at c47⊢
  cbv
  repeat' (first
      |with_reducible refine hold ?_ ?_
      |with_reducible refine And.intro ?_ ?_
      | (with_reducible refine qS ?_ ?_ ?_
         try cbv)
      | (with_reducible refine qT ?_ ?_
         try cbv)
      |(with_reducible intro hcd;(try simp only [zA,zB,zC,zD,zE,zF,zG,zH,zI,zJ,zK,zL,zM,zN,zO,zP]at hcd);try cbv)
      | (refine qP ?_ (c47 _ _) (by(repeat' (first|exact qB|refine qD ?_ ?_|exact qE (by rfl)|exact qF (by rfl)|exact Fit.refl _|exact qA|refine qC ?_ rfl ?_)))
         try cbv)
      |fail)
  all_goals first
    |trivial
    |((try simp only [qV]at *);(try simp only [zQ,zA,zB,zC,zD,zE,zF,zG,zH,zI,zJ,zK,zL,zM,zN,zO,zP,zR,zS]at *);first|(refine qN ?_;omega)|(simp only [Hold];omega))
    |(subst hR;(repeat' (first|exact qA|exact qB|refine qC ?_ rfl ?_|refine qD ?_ ?_|exact qE (by rfl)|exact qF (by rfl)|exact qE (by kernel_rfl)|exact qF (by kernel_rfl)|exact Fit.refl _|(first|(refine fit_sl (by rfl) (fun ix h0 h1=> ?_);(have h2:ix.den<2:=h1);(have hx:ix.den.toNat=0∨ix.den.toNat=1:=by omega);(rcases hx with hx|hx<;>simp only [hx]))|(refine fit_sl (by rfl) (fun ix h0 h1=> ?_);(have h2:ix.den<3:=h1);(have hx:ix.den.toNat=0∨ix.den.toNat=1∨ix.den.toNat=2:=by omega);(rcases hx with hx|hx|hx<;>simp only [hx]))|(refine fit_sl (by rfl) (fun ix h0 h1=> ?_);(have h2:ix.den<4:=h1);(have hx:ix.den.toNat=0∨ix.den.toNat=1∨ix.den.toNat=2∨ix.den.toNat=3:=by omega);(rcases hx with hx|hx|hx|hx<;>simp only [hx])))));done)
    |(simp only [Hold];decide)
    |skip
theorem ten3 :FSpec Try.prog 45 [(stoS tw3 tm3 tv3 120 cs3),(.sl 1 (.sym fun _=>zi ([1260,820,1530]).length) (fun ix=>[.int .i64 (.sym fun _=>([1260,820,1530]).getD ix.den.toNat 0)]))] [] (fun r _=>r=(.tup [(.sl 1 (.sym fun _=>zi ([630,246,306]).length) (fun ix=>[.int .i64 (.sym fun _=>([630,246,306]).getD ix.den.toNat 0)])),(.int .i64 (.lit 0))])):=
  (tenths45 tw3 tm3 tv3 120 cs3 [1260,820,1530] sok3 (by kernel_rfl)).post fun r bs h=>⟨_,by subst h;(repeat' (first|exact qA|exact qB|refine qC ?_ rfl ?_|refine qD ?_ ?_|exact qE (by rfl)|exact qF (by rfl)|exact qE (by kernel_rfl)|exact qF (by kernel_rfl)|exact Fit.refl _|(first|(refine fit_sl (by rfl) (fun ix h0 h1=> ?_);(have h2:ix.den<2:=h1);(have hx:ix.den.toNat=0∨ix.den.toNat=1:=by omega);(rcases hx with hx|hx<;>simp only [hx]))|(refine fit_sl (by rfl) (fun ix h0 h1=> ?_);(have h2:ix.den<3:=h1);(have hx:ix.den.toNat=0∨ix.den.toNat=1∨ix.den.toNat=2:=by omega);(rcases hx with hx|hx|hx<;>simp only [hx]))|(refine fit_sl (by rfl) (fun ix h0 h1=> ?_);(have h2:ix.den<4:=h1);(have hx:ix.den.toNat=0∨ix.den.toNat=1∨ix.den.toNat=2∨ix.den.toNat=3:=by omega);(rcases hx with hx|hx|hx|hx<;>simp only [hx]))))),rfl⟩
theorem duty3 :FSpec Try.prog 44 [(stoS tw3 tm3 tv3 120 cs3),(.sl 1 (.sym fun _=>zi ([1260,820,1530]).length) (fun ix=>[.int .i64 (.sym fun _=>([1260,820,1530]).getD ix.den.toNat 0)]))] [] (fun r _=>r=(.tup [(.int .i64 (.lit 14184)),(.int .i64 (.lit 0))])):=
  (duty44 tw3 tm3 tv3 120 cs3 [1260,820,1530] sok3 (by kernel_rfl)).post fun r bs h=>⟨_,by subst h;(repeat' (first|exact qA|exact qB|refine qC ?_ rfl ?_|refine qD ?_ ?_|exact qE (by rfl)|exact qF (by rfl)|exact qE (by kernel_rfl)|exact qF (by kernel_rfl)|exact Fit.refl _|(first|(refine fit_sl (by rfl) (fun ix h0 h1=> ?_);(have h2:ix.den<2:=h1);(have hx:ix.den.toNat=0∨ix.den.toNat=1:=by omega);(rcases hx with hx|hx<;>simp only [hx]))|(refine fit_sl (by rfl) (fun ix h0 h1=> ?_);(have h2:ix.den<3:=h1);(have hx:ix.den.toNat=0∨ix.den.toNat=1∨ix.den.toNat=2:=by omega);(rcases hx with hx|hx|hx<;>simp only [hx]))|(refine fit_sl (by rfl) (fun ix h0 h1=> ?_);(have h2:ix.den<4:=h1);(have hx:ix.den.toNat=0∨ix.den.toNat=1∨ix.den.toNat=2∨ix.den.toNat=3:=by omega);(rcases hx with hx|hx|hx|hx<;>simp only [hx]))))),rfl⟩
theorem duties3 :FSpec Try.prog 22 [(stoS tw3 tm3 tv3 120 cs3)] [] (fun r _=>r=(.tup [(.agg [(.int .i64 (.lit 14148)),(.int .i64 (.lit 14280))]),(.int .i64 (.lit 0))])):=
  (duties22 tw3 tm3 tv3 120 cs3 sok3).post fun r bs h=>⟨_,by subst h;(repeat' (first|exact qA|exact qB|refine qC ?_ rfl ?_|refine qD ?_ ?_|exact qE (by rfl)|exact qF (by rfl)|exact qE (by kernel_rfl)|exact qF (by kernel_rfl)|exact Fit.refl _|(first|(refine fit_sl (by rfl) (fun ix h0 h1=> ?_);(have h2:ix.den<2:=h1);(have hx:ix.den.toNat=0∨ix.den.toNat=1:=by omega);(rcases hx with hx|hx<;>simp only [hx]))|(refine fit_sl (by rfl) (fun ix h0 h1=> ?_);(have h2:ix.den<3:=h1);(have hx:ix.den.toNat=0∨ix.den.toNat=1∨ix.den.toNat=2:=by omega);(rcases hx with hx|hx|hx<;>simp only [hx]))|(refine fit_sl (by rfl) (fun ix h0 h1=> ?_);(have h2:ix.den<4:=h1);(have hx:ix.den.toNat=0∨ix.den.toNat=1∨ix.den.toNat=2∨ix.den.toNat=3:=by omega);(rcases hx with hx|hx|hx|hx<;>simp only [hx]))))),rfl⟩
theorem blend3 :FSpec Try.prog 27 [(stoS tw3 tm3 tv3 120 cs3),(.sl 1 (.sym fun _=>zi ([0,1]).length) (fun ix=>[.int .i64 (.sym fun _=>([0,1]).getD ix.den.toNat 0)])),(.int .i64 (.sym fun _=>0))] [] (fun r _=>r=(.tup [(.agg [(.int .i64 (.lit 1091)),(.int .i64 (.lit 1105))]),(.int .i64 (.lit 0))])):=
  (blend27 tw3 tm3 tv3 120 cs3 [0,1] 0 sok3 (by decide) (by kernel_rfl) (by decide)).post fun r bs h=>⟨_,by subst h;(repeat' (first|exact qA|exact qB|refine qC ?_ rfl ?_|refine qD ?_ ?_|exact qE (by rfl)|exact qF (by rfl)|exact qE (by kernel_rfl)|exact qF (by kernel_rfl)|exact Fit.refl _|(first|(refine fit_sl (by rfl) (fun ix h0 h1=> ?_);(have h2:ix.den<2:=h1);(have hx:ix.den.toNat=0∨ix.den.toNat=1:=by omega);(rcases hx with hx|hx<;>simp only [hx]))|(refine fit_sl (by rfl) (fun ix h0 h1=> ?_);(have h2:ix.den<3:=h1);(have hx:ix.den.toNat=0∨ix.den.toNat=1∨ix.den.toNat=2:=by omega);(rcases hx with hx|hx|hx<;>simp only [hx]))|(refine fit_sl (by rfl) (fun ix h0 h1=> ?_);(have h2:ix.den<4:=h1);(have hx:ix.den.toNat=0∨ix.den.toNat=1∨ix.den.toNat=2∨ix.den.toNat=3:=by omega);(rcases hx with hx|hx|hx|hx<;>simp only [hx]))))),rfl⟩
theorem water3 :FSpec Try.prog 33 [(stoS tw3 tm3 tv3 120 cs3),(.sl 1 (.sym fun _=>zi ([0,1]).length) (fun ix=>[.int .i64 (.sym fun _=>([0,1]).getD ix.den.toNat 0)])),(.int .i64 (.sym fun _=>1000))] [] (fun r _=>r=(.tup [(.int .i64 (.lit 9)),(.int .i64 (.lit 0))])):=
  (water33 tw3 tm3 tv3 120 cs3 [0,1] 1000 sok3 (by decide) (by kernel_rfl) (by decide) (by decide)).post fun r bs h=>⟨_,by subst h;(repeat' (first|exact qA|exact qB|refine qC ?_ rfl ?_|refine qD ?_ ?_|exact qE (by rfl)|exact qF (by rfl)|exact qE (by kernel_rfl)|exact qF (by kernel_rfl)|exact Fit.refl _|(first|(refine fit_sl (by rfl) (fun ix h0 h1=> ?_);(have h2:ix.den<2:=h1);(have hx:ix.den.toNat=0∨ix.den.toNat=1:=by omega);(rcases hx with hx|hx<;>simp only [hx]))|(refine fit_sl (by rfl) (fun ix h0 h1=> ?_);(have h2:ix.den<3:=h1);(have hx:ix.den.toNat=0∨ix.den.toNat=1∨ix.den.toNat=2:=by omega);(rcases hx with hx|hx|hx<;>simp only [hx]))|(refine fit_sl (by rfl) (fun ix h0 h1=> ?_);(have h2:ix.den<4:=h1);(have hx:ix.den.toNat=0∨ix.den.toNat=1∨ix.den.toNat=2∨ix.den.toNat=3:=by omega);(rcases hx with hx|hx|hx|hx<;>simp only [hx]))))),rfl⟩
theorem prove3 :FSpec Try.prog 29 [(stoS tw3 tm3 tv3 120 cs3),(.sl 1 (.sym fun _=>zi ([0,1]).length) (fun ix=>[.int .i64 (.sym fun _=>([0,1]).getD ix.den.toNat 0)])),(.int .i64 (.sym fun _=>0)),(.agg [(.int .i64 (.sym fun _=>1091)),(.int .i64 (.sym fun _=>1105))])] [] (fun r _=>r=(.bool (.lit true))):=
  (prove29 tw3 tm3 tv3 120 cs3 [0,1] 0 1091 1105 sok3 (by decide) (by kernel_rfl) (by decide)).post fun r bs h=>⟨_,by subst h;(repeat' (first|exact qA|exact qB|refine qC ?_ rfl ?_|refine qD ?_ ?_|exact qE (by rfl)|exact qF (by rfl)|exact qE (by kernel_rfl)|exact qF (by kernel_rfl)|exact Fit.refl _|(first|(refine fit_sl (by rfl) (fun ix h0 h1=> ?_);(have h2:ix.den<2:=h1);(have hx:ix.den.toNat=0∨ix.den.toNat=1:=by omega);(rcases hx with hx|hx<;>simp only [hx]))|(refine fit_sl (by rfl) (fun ix h0 h1=> ?_);(have h2:ix.den<3:=h1);(have hx:ix.den.toNat=0∨ix.den.toNat=1∨ix.den.toNat=2:=by omega);(rcases hx with hx|hx|hx<;>simp only [hx]))|(refine fit_sl (by rfl) (fun ix h0 h1=> ?_);(have h2:ix.den<4:=h1);(have hx:ix.den.toNat=0∨ix.den.toNat=1∨ix.den.toNat=2∨ix.den.toNat=3:=by omega);(rcases hx with hx|hx|hx|hx<;>simp only [hx]))))),rfl⟩
theorem fewest3 :FSpec Try.prog 35 [(stoS tw3 tm3 tv3 120 cs3),(.agg [(.int .i64 (.sym fun _=>1000)),(.int .i64 (.sym fun _=>1200))])] [] (fun r _=>r=(.tup [(.sl 1 (.sym fun _=>zi ([0,1]).length) (fun ix=>[.int .i64 (.sym fun _=>([0,1]).getD ix.den.toNat 0)])),(.int .i64 (.lit 0))])):=
  (fewest35 tw3 tm3 tv3 120 cs3 1000 1200 [0,1] sok3 (by decide) (by kernel_rfl)).post fun r bs h=>⟨_,by subst h;(repeat' (first|exact qA|exact qB|refine qC ?_ rfl ?_|refine qD ?_ ?_|exact qE (by rfl)|exact qF (by rfl)|exact qE (by kernel_rfl)|exact qF (by kernel_rfl)|exact Fit.refl _|(first|(refine fit_sl (by rfl) (fun ix h0 h1=> ?_);(have h2:ix.den<2:=h1);(have hx:ix.den.toNat=0∨ix.den.toNat=1:=by omega);(rcases hx with hx|hx<;>simp only [hx]))|(refine fit_sl (by rfl) (fun ix h0 h1=> ?_);(have h2:ix.den<3:=h1);(have hx:ix.den.toNat=0∨ix.den.toNat=1∨ix.den.toNat=2:=by omega);(rcases hx with hx|hx|hx<;>simp only [hx]))|(refine fit_sl (by rfl) (fun ix h0 h1=> ?_);(have h2:ix.den<4:=h1);(have hx:ix.den.toNat=0∨ix.den.toNat=1∨ix.den.toNat=2∨ix.den.toNat=3:=by omega);(rcases hx with hx|hx|hx|hx<;>simp only [hx]))))),rfl⟩
theorem fal3 :falL (canB cs3 (fun j=>sLo tw3 tm3 tv3 (cs3.getD j ck0)) (fun j=>sHi tw3 tm3 tv3 (cs3.getD j ck0)) cs3.length) D3 D3.length=[1,3]:=by kernel_rfl
theorem false3 :FSpec Try.prog 38 [(stoS tw3 tm3 tv3 120 cs3),(.sl 2 (.sym fun _=>zi D3.length) (fun ix=>[(.int .i64 (.sym fun _=>(D3.getD ix.den.toNat (0,0)).1)),(.int .i64 (.sym fun _=>(D3.getD ix.den.toNat (0,0)).2))]))] [] (fun r _=>r=(.tup [(.sl 1 (.sym fun _=>zi ([1,3]).length) (fun ix=>[.int .i64 (.sym fun _=>([1,3]).getD ix.den.toNat 0)])),(.int .i64 (.lit 0))])):=
  (false38 tw3 tm3 tv3 120 cs3 D3 sok3 (by decide) (by kernel_rfl)).post fun r bs h=>⟨_,by subst h;rw [fal3];(repeat' (first|exact qA|exact qB|refine qC ?_ rfl ?_|refine qD ?_ ?_|exact qE (by rfl)|exact qF (by rfl)|exact qE (by kernel_rfl)|exact qF (by kernel_rfl)|exact Fit.refl _|(first|(refine fit_sl (by rfl) (fun ix h0 h1=> ?_);(have h2:ix.den<2:=h1);(have hx:ix.den.toNat=0∨ix.den.toNat=1:=by omega);(rcases hx with hx|hx<;>simp only [hx]))|(refine fit_sl (by rfl) (fun ix h0 h1=> ?_);(have h2:ix.den<3:=h1);(have hx:ix.den.toNat=0∨ix.den.toNat=1∨ix.den.toNat=2:=by omega);(rcases hx with hx|hx|hx<;>simp only [hx]))|(refine fit_sl (by rfl) (fun ix h0 h1=> ?_);(have h2:ix.den<4:=h1);(have hx:ix.den.toNat=0∨ix.den.toNat=1∨ix.den.toNat=2∨ix.den.toNat=3:=by omega);(rcases hx with hx|hx|hx|hx<;>simp only [hx]))))),rfl⟩
theorem same3a :FSpec Try.prog 37 [(.sl 1 (.sym fun _=>zi ([630,246,306]).length) (fun ix=>[.int .i64 (.sym fun _=>([630,246,306]).getD ix.den.toNat 0)])),(.sl 1 (.sym fun _=>zi ([630,246,306]).length) (fun ix=>[.int .i64 (.sym fun _=>([630,246,306]).getD ix.den.toNat 0)]))] [] (fun r _=>r=(.bool (.lit true))):=
  (same37 [630,246,306] [630,246,306] (by decide)).post fun r bs h=>⟨_,by subst h;(repeat' (first|exact qA|exact qB|refine qC ?_ rfl ?_|refine qD ?_ ?_|exact qE (by rfl)|exact qF (by rfl)|exact qE (by kernel_rfl)|exact qF (by kernel_rfl)|exact Fit.refl _|(first|(refine fit_sl (by rfl) (fun ix h0 h1=> ?_);(have h2:ix.den<2:=h1);(have hx:ix.den.toNat=0∨ix.den.toNat=1:=by omega);(rcases hx with hx|hx<;>simp only [hx]))|(refine fit_sl (by rfl) (fun ix h0 h1=> ?_);(have h2:ix.den<3:=h1);(have hx:ix.den.toNat=0∨ix.den.toNat=1∨ix.den.toNat=2:=by omega);(rcases hx with hx|hx|hx<;>simp only [hx]))|(refine fit_sl (by rfl) (fun ix h0 h1=> ?_);(have h2:ix.den<4:=h1);(have hx:ix.den.toNat=0∨ix.den.toNat=1∨ix.den.toNat=2∨ix.den.toNat=3:=by omega);(rcases hx with hx|hx|hx|hx<;>simp only [hx]))))),rfl⟩
theorem same3b :FSpec Try.prog 37 [(.sl 1 (.sym fun _=>zi ([0,1]).length) (fun ix=>[.int .i64 (.sym fun _=>([0,1]).getD ix.den.toNat 0)])),(.sl 1 (.sym fun _=>zi ([0,1]).length) (fun ix=>[.int .i64 (.sym fun _=>([0,1]).getD ix.den.toNat 0)]))] [] (fun r _=>r=(.bool (.lit true))):=
  (same37 [0,1] [0,1] (by decide)).post fun r bs h=>⟨_,by subst h;(repeat' (first|exact qA|exact qB|refine qC ?_ rfl ?_|refine qD ?_ ?_|exact qE (by rfl)|exact qF (by rfl)|exact qE (by kernel_rfl)|exact qF (by kernel_rfl)|exact Fit.refl _|(first|(refine fit_sl (by rfl) (fun ix h0 h1=> ?_);(have h2:ix.den<2:=h1);(have hx:ix.den.toNat=0∨ix.den.toNat=1:=by omega);(rcases hx with hx|hx<;>simp only [hx]))|(refine fit_sl (by rfl) (fun ix h0 h1=> ?_);(have h2:ix.den<3:=h1);(have hx:ix.den.toNat=0∨ix.den.toNat=1∨ix.den.toNat=2:=by omega);(rcases hx with hx|hx|hx<;>simp only [hx]))|(refine fit_sl (by rfl) (fun ix h0 h1=> ?_);(have h2:ix.den<4:=h1);(have hx:ix.den.toNat=0∨ix.den.toNat=1∨ix.den.toNat=2∨ix.den.toNat=3:=by omega);(rcases hx with hx|hx|hx|hx<;>simp only [hx]))))),rfl⟩
theorem same3c :FSpec Try.prog 37 [(.sl 1 (.sym fun _=>zi ([1,3]).length) (fun ix=>[.int .i64 (.sym fun _=>([1,3]).getD ix.den.toNat 0)])),(.sl 1 (.sym fun _=>zi ([1,3]).length) (fun ix=>[.int .i64 (.sym fun _=>([1,3]).getD ix.den.toNat 0)]))] [] (fun r _=>r=(.bool (.lit true))):=
  (same37 [1,3] [1,3] (by decide)).post fun r bs h=>⟨_,by subst h;(repeat' (first|exact qA|exact qB|refine qC ?_ rfl ?_|refine qD ?_ ?_|exact qE (by rfl)|exact qF (by rfl)|exact qE (by kernel_rfl)|exact qF (by kernel_rfl)|exact Fit.refl _|(first|(refine fit_sl (by rfl) (fun ix h0 h1=> ?_);(have h2:ix.den<2:=h1);(have hx:ix.den.toNat=0∨ix.den.toNat=1:=by omega);(rcases hx with hx|hx<;>simp only [hx]))|(refine fit_sl (by rfl) (fun ix h0 h1=> ?_);(have h2:ix.den<3:=h1);(have hx:ix.den.toNat=0∨ix.den.toNat=1∨ix.den.toNat=2:=by omega);(rcases hx with hx|hx|hx<;>simp only [hx]))|(refine fit_sl (by rfl) (fun ix h0 h1=> ?_);(have h2:ix.den<4:=h1);(have hx:ix.den.toNat=0∨ix.den.toNat=1∨ix.den.toNat=2∨ix.den.toNat=3:=by omega);(rcases hx with hx|hx|hx|hx<;>simp only [hx]))))),rfl⟩
end Go.Proofs.Ytkdgpdlfakcgdaa

namespace Go.Proofs.Ytkdgpdlfakcgdaa
open Go Go.Eng Go.Proofs
set_option maxRecDepth 10000
set_option maxHeartbeats 1000000 in
theorem awake21 :FSpec Try.prog 21 [] [] (fun r _=>r=(.bool (.lit true))):=by
  have kthree56:=three56
  have kten3:=ten3
  have kduty3:=duty3
  have kduties3:=duties3
  have kblend3:=blend3
  have kwater3:=water3
  have kprove3:=prove3
  have kfewest3:=fewest3
  have kfalse3:=false3
  have ksame3a:=same3a
  have ksame3b:=same3b
  have ksame3c:=same3c
  have c47:= @between47
  have h35:=eqOk35
  refine FSpec.is fun R hR=>qW (sc:=sc21) tyok mix Try.func21 rfl Try.call21 (by kernel_rfl) (by kernel_rfl) ?_
  generalize Try.prog=P at kthree56 kten3 kduty3 kduties3 kblend3 kwater3 kprove3 kfewest3 kfalse3 ksame3a ksame3b ksame3c c47 h35⊢
  cbv
  repeat' (first
      |with_reducible refine hold ?_ ?_
      |with_reducible refine And.intro ?_ ?_
      | (with_reducible refine qS ?_ ?_ ?_
         try cbv)
      | (with_reducible refine qT ?_ ?_
         try cbv)
      |(with_reducible intro hcd;(try simp only [zA,zB,zC,zD,zE,zF,zG,zH,zI,zJ,zK,zL,zM,zN,zO,zP]at hcd);try cbv)
      | (refine qP ?_ (c47 _ _) (by(repeat' (first|exact qB|refine qD ?_ ?_|exact qE (by rfl)|exact qF (by rfl)|exact Fit.refl _|exact qA|refine qC ?_ rfl ?_)))
         try cbv)
      | (refine qP ?_ (kthree56) ?hfit
         case hfit=>((repeat' (first|exact qA|exact qB|refine qC ?_ rfl ?_|refine qD ?_ ?_|exact qE (by rfl)|exact qF (by rfl)|exact Fit.refl _|(first|(refine fit_sl (by rfl) (fun ix h0 h1=> ?_);(have h2:ix.den<2:=h1);(have hx:ix.den.toNat=0∨ix.den.toNat=1:=by omega);(rcases hx with hx|hx<;>simp only [hx]))|(refine fit_sl (by rfl) (fun ix h0 h1=> ?_);(have h2:ix.den<3:=h1);(have hx:ix.den.toNat=0∨ix.den.toNat=1∨ix.den.toNat=2:=by omega);(rcases hx with hx|hx|hx<;>simp only [hx]))|(refine fit_sl (by rfl) (fun ix h0 h1=> ?_);(have h2:ix.den<4:=h1);(have hx:ix.den.toNat=0∨ix.den.toNat=1∨ix.den.toNat=2∨ix.den.toNat=3:=by omega);(rcases hx with hx|hx|hx|hx<;>simp only [hx])))));done)
         try cbv)
      | (refine qP ?_ (kten3) ?hfit
         case hfit=>((repeat' (first|exact qA|exact qB|refine qC ?_ rfl ?_|refine qD ?_ ?_|exact qE (by rfl)|exact qF (by rfl)|exact Fit.refl _|(first|(refine fit_sl (by rfl) (fun ix h0 h1=> ?_);(have h2:ix.den<2:=h1);(have hx:ix.den.toNat=0∨ix.den.toNat=1:=by omega);(rcases hx with hx|hx<;>simp only [hx]))|(refine fit_sl (by rfl) (fun ix h0 h1=> ?_);(have h2:ix.den<3:=h1);(have hx:ix.den.toNat=0∨ix.den.toNat=1∨ix.den.toNat=2:=by omega);(rcases hx with hx|hx|hx<;>simp only [hx]))|(refine fit_sl (by rfl) (fun ix h0 h1=> ?_);(have h2:ix.den<4:=h1);(have hx:ix.den.toNat=0∨ix.den.toNat=1∨ix.den.toNat=2∨ix.den.toNat=3:=by omega);(rcases hx with hx|hx|hx|hx<;>simp only [hx])))));done)
         try cbv)
      | (refine qP ?_ (kduty3) ?hfit
         case hfit=>((repeat' (first|exact qA|exact qB|refine qC ?_ rfl ?_|refine qD ?_ ?_|exact qE (by rfl)|exact qF (by rfl)|exact Fit.refl _|(first|(refine fit_sl (by rfl) (fun ix h0 h1=> ?_);(have h2:ix.den<2:=h1);(have hx:ix.den.toNat=0∨ix.den.toNat=1:=by omega);(rcases hx with hx|hx<;>simp only [hx]))|(refine fit_sl (by rfl) (fun ix h0 h1=> ?_);(have h2:ix.den<3:=h1);(have hx:ix.den.toNat=0∨ix.den.toNat=1∨ix.den.toNat=2:=by omega);(rcases hx with hx|hx|hx<;>simp only [hx]))|(refine fit_sl (by rfl) (fun ix h0 h1=> ?_);(have h2:ix.den<4:=h1);(have hx:ix.den.toNat=0∨ix.den.toNat=1∨ix.den.toNat=2∨ix.den.toNat=3:=by omega);(rcases hx with hx|hx|hx|hx<;>simp only [hx])))));done)
         try cbv)
      | (refine qP ?_ (kduties3) ?hfit
         case hfit=>((repeat' (first|exact qA|exact qB|refine qC ?_ rfl ?_|refine qD ?_ ?_|exact qE (by rfl)|exact qF (by rfl)|exact Fit.refl _|(first|(refine fit_sl (by rfl) (fun ix h0 h1=> ?_);(have h2:ix.den<2:=h1);(have hx:ix.den.toNat=0∨ix.den.toNat=1:=by omega);(rcases hx with hx|hx<;>simp only [hx]))|(refine fit_sl (by rfl) (fun ix h0 h1=> ?_);(have h2:ix.den<3:=h1);(have hx:ix.den.toNat=0∨ix.den.toNat=1∨ix.den.toNat=2:=by omega);(rcases hx with hx|hx|hx<;>simp only [hx]))|(refine fit_sl (by rfl) (fun ix h0 h1=> ?_);(have h2:ix.den<4:=h1);(have hx:ix.den.toNat=0∨ix.den.toNat=1∨ix.den.toNat=2∨ix.den.toNat=3:=by omega);(rcases hx with hx|hx|hx|hx<;>simp only [hx])))));done)
         try cbv)
      | (refine qP ?_ (kblend3) ?hfit
         case hfit=>((repeat' (first|exact qA|exact qB|refine qC ?_ rfl ?_|refine qD ?_ ?_|exact qE (by rfl)|exact qF (by rfl)|exact Fit.refl _|(first|(refine fit_sl (by rfl) (fun ix h0 h1=> ?_);(have h2:ix.den<2:=h1);(have hx:ix.den.toNat=0∨ix.den.toNat=1:=by omega);(rcases hx with hx|hx<;>simp only [hx]))|(refine fit_sl (by rfl) (fun ix h0 h1=> ?_);(have h2:ix.den<3:=h1);(have hx:ix.den.toNat=0∨ix.den.toNat=1∨ix.den.toNat=2:=by omega);(rcases hx with hx|hx|hx<;>simp only [hx]))|(refine fit_sl (by rfl) (fun ix h0 h1=> ?_);(have h2:ix.den<4:=h1);(have hx:ix.den.toNat=0∨ix.den.toNat=1∨ix.den.toNat=2∨ix.den.toNat=3:=by omega);(rcases hx with hx|hx|hx|hx<;>simp only [hx])))));done)
         try cbv)
      | (refine qP ?_ (kwater3) ?hfit
         case hfit=>((repeat' (first|exact qA|exact qB|refine qC ?_ rfl ?_|refine qD ?_ ?_|exact qE (by rfl)|exact qF (by rfl)|exact Fit.refl _|(first|(refine fit_sl (by rfl) (fun ix h0 h1=> ?_);(have h2:ix.den<2:=h1);(have hx:ix.den.toNat=0∨ix.den.toNat=1:=by omega);(rcases hx with hx|hx<;>simp only [hx]))|(refine fit_sl (by rfl) (fun ix h0 h1=> ?_);(have h2:ix.den<3:=h1);(have hx:ix.den.toNat=0∨ix.den.toNat=1∨ix.den.toNat=2:=by omega);(rcases hx with hx|hx|hx<;>simp only [hx]))|(refine fit_sl (by rfl) (fun ix h0 h1=> ?_);(have h2:ix.den<4:=h1);(have hx:ix.den.toNat=0∨ix.den.toNat=1∨ix.den.toNat=2∨ix.den.toNat=3:=by omega);(rcases hx with hx|hx|hx|hx<;>simp only [hx])))));done)
         try cbv)
      | (refine qP ?_ (kprove3) ?hfit
         case hfit=>((repeat' (first|exact qA|exact qB|refine qC ?_ rfl ?_|refine qD ?_ ?_|exact qE (by rfl)|exact qF (by rfl)|exact Fit.refl _|(first|(refine fit_sl (by rfl) (fun ix h0 h1=> ?_);(have h2:ix.den<2:=h1);(have hx:ix.den.toNat=0∨ix.den.toNat=1:=by omega);(rcases hx with hx|hx<;>simp only [hx]))|(refine fit_sl (by rfl) (fun ix h0 h1=> ?_);(have h2:ix.den<3:=h1);(have hx:ix.den.toNat=0∨ix.den.toNat=1∨ix.den.toNat=2:=by omega);(rcases hx with hx|hx|hx<;>simp only [hx]))|(refine fit_sl (by rfl) (fun ix h0 h1=> ?_);(have h2:ix.den<4:=h1);(have hx:ix.den.toNat=0∨ix.den.toNat=1∨ix.den.toNat=2∨ix.den.toNat=3:=by omega);(rcases hx with hx|hx|hx|hx<;>simp only [hx])))));done)
         try cbv)
      | (refine qP ?_ (kfewest3) ?hfit
         case hfit=>((repeat' (first|exact qA|exact qB|refine qC ?_ rfl ?_|refine qD ?_ ?_|exact qE (by rfl)|exact qF (by rfl)|exact Fit.refl _|(first|(refine fit_sl (by rfl) (fun ix h0 h1=> ?_);(have h2:ix.den<2:=h1);(have hx:ix.den.toNat=0∨ix.den.toNat=1:=by omega);(rcases hx with hx|hx<;>simp only [hx]))|(refine fit_sl (by rfl) (fun ix h0 h1=> ?_);(have h2:ix.den<3:=h1);(have hx:ix.den.toNat=0∨ix.den.toNat=1∨ix.den.toNat=2:=by omega);(rcases hx with hx|hx|hx<;>simp only [hx]))|(refine fit_sl (by rfl) (fun ix h0 h1=> ?_);(have h2:ix.den<4:=h1);(have hx:ix.den.toNat=0∨ix.den.toNat=1∨ix.den.toNat=2∨ix.den.toNat=3:=by omega);(rcases hx with hx|hx|hx|hx<;>simp only [hx])))));done)
         try cbv)
      | (refine qP ?_ (kfalse3) ?hfit
         case hfit=>((repeat' (first|exact qA|exact qB|refine qC ?_ rfl ?_|refine qD ?_ ?_|exact qE (by rfl)|exact qF (by rfl)|exact Fit.refl _|(first|(refine fit_sl (by rfl) (fun ix h0 h1=> ?_);(have h2:ix.den<2:=h1);(have hx:ix.den.toNat=0∨ix.den.toNat=1:=by omega);(rcases hx with hx|hx<;>simp only [hx]))|(refine fit_sl (by rfl) (fun ix h0 h1=> ?_);(have h2:ix.den<3:=h1);(have hx:ix.den.toNat=0∨ix.den.toNat=1∨ix.den.toNat=2:=by omega);(rcases hx with hx|hx|hx<;>simp only [hx]))|(refine fit_sl (by rfl) (fun ix h0 h1=> ?_);(have h2:ix.den<4:=h1);(have hx:ix.den.toNat=0∨ix.den.toNat=1∨ix.den.toNat=2∨ix.den.toNat=3:=by omega);(rcases hx with hx|hx|hx|hx<;>simp only [hx])))));done)
         try cbv)
      | (refine qP ?_ (ksame3a) ?hfit
         case hfit=>((repeat' (first|exact qA|exact qB|refine qC ?_ rfl ?_|refine qD ?_ ?_|exact qE (by rfl)|exact qF (by rfl)|exact Fit.refl _|(first|(refine fit_sl (by rfl) (fun ix h0 h1=> ?_);(have h2:ix.den<2:=h1);(have hx:ix.den.toNat=0∨ix.den.toNat=1:=by omega);(rcases hx with hx|hx<;>simp only [hx]))|(refine fit_sl (by rfl) (fun ix h0 h1=> ?_);(have h2:ix.den<3:=h1);(have hx:ix.den.toNat=0∨ix.den.toNat=1∨ix.den.toNat=2:=by omega);(rcases hx with hx|hx|hx<;>simp only [hx]))|(refine fit_sl (by rfl) (fun ix h0 h1=> ?_);(have h2:ix.den<4:=h1);(have hx:ix.den.toNat=0∨ix.den.toNat=1∨ix.den.toNat=2∨ix.den.toNat=3:=by omega);(rcases hx with hx|hx|hx|hx<;>simp only [hx])))));done)
         try cbv)
      | (refine qP ?_ (ksame3b) ?hfit
         case hfit=>((repeat' (first|exact qA|exact qB|refine qC ?_ rfl ?_|refine qD ?_ ?_|exact qE (by rfl)|exact qF (by rfl)|exact Fit.refl _|(first|(refine fit_sl (by rfl) (fun ix h0 h1=> ?_);(have h2:ix.den<2:=h1);(have hx:ix.den.toNat=0∨ix.den.toNat=1:=by omega);(rcases hx with hx|hx<;>simp only [hx]))|(refine fit_sl (by rfl) (fun ix h0 h1=> ?_);(have h2:ix.den<3:=h1);(have hx:ix.den.toNat=0∨ix.den.toNat=1∨ix.den.toNat=2:=by omega);(rcases hx with hx|hx|hx<;>simp only [hx]))|(refine fit_sl (by rfl) (fun ix h0 h1=> ?_);(have h2:ix.den<4:=h1);(have hx:ix.den.toNat=0∨ix.den.toNat=1∨ix.den.toNat=2∨ix.den.toNat=3:=by omega);(rcases hx with hx|hx|hx|hx<;>simp only [hx])))));done)
         try cbv)
      | (refine qP ?_ (ksame3c) ?hfit
         case hfit=>((repeat' (first|exact qA|exact qB|refine qC ?_ rfl ?_|refine qD ?_ ?_|exact qE (by rfl)|exact qF (by rfl)|exact Fit.refl _|(first|(refine fit_sl (by rfl) (fun ix h0 h1=> ?_);(have h2:ix.den<2:=h1);(have hx:ix.den.toNat=0∨ix.den.toNat=1:=by omega);(rcases hx with hx|hx<;>simp only [hx]))|(refine fit_sl (by rfl) (fun ix h0 h1=> ?_);(have h2:ix.den<3:=h1);(have hx:ix.den.toNat=0∨ix.den.toNat=1∨ix.den.toNat=2:=by omega);(rcases hx with hx|hx|hx<;>simp only [hx]))|(refine fit_sl (by rfl) (fun ix h0 h1=> ?_);(have h2:ix.den<4:=h1);(have hx:ix.den.toNat=0∨ix.den.toNat=1∨ix.den.toNat=2∨ix.den.toNat=3:=by omega);(rcases hx with hx|hx|hx|hx<;>simp only [hx])))));done)
         try cbv)
      | (refine qR ?_ (kten3) rfl ?hfit
         case hfit=>(cbv;(repeat' (first|exact qA|exact qB|refine qC ?_ rfl ?_|refine qD ?_ ?_|exact qE (by rfl)|exact qF (by rfl)|exact Fit.refl _|(first|(refine fit_sl (by rfl) (fun ix h0 h1=> ?_);(have h2:ix.den<2:=h1);(have hx:ix.den.toNat=0∨ix.den.toNat=1:=by omega);(rcases hx with hx|hx<;>simp only [hx]))|(refine fit_sl (by rfl) (fun ix h0 h1=> ?_);(have h2:ix.den<3:=h1);(have hx:ix.den.toNat=0∨ix.den.toNat=1∨ix.den.toNat=2:=by omega);(rcases hx with hx|hx|hx<;>simp only [hx]))|(refine fit_sl (by rfl) (fun ix h0 h1=> ?_);(have h2:ix.den<4:=h1);(have hx:ix.den.toNat=0∨ix.den.toNat=1∨ix.den.toNat=2∨ix.den.toNat=3:=by omega);(rcases hx with hx|hx|hx|hx<;>simp only [hx])))));done)
         try cbv)
      | (refine⟨none,?_⟩
         refine qR ?_ (kten3) rfl ?hfit
         case hfit=>(cbv;(repeat' (first|exact qA|exact qB|refine qC ?_ rfl ?_|refine qD ?_ ?_|exact qE (by rfl)|exact qF (by rfl)|exact Fit.refl _|(first|(refine fit_sl (by rfl) (fun ix h0 h1=> ?_);(have h2:ix.den<2:=h1);(have hx:ix.den.toNat=0∨ix.den.toNat=1:=by omega);(rcases hx with hx|hx<;>simp only [hx]))|(refine fit_sl (by rfl) (fun ix h0 h1=> ?_);(have h2:ix.den<3:=h1);(have hx:ix.den.toNat=0∨ix.den.toNat=1∨ix.den.toNat=2:=by omega);(rcases hx with hx|hx|hx<;>simp only [hx]))|(refine fit_sl (by rfl) (fun ix h0 h1=> ?_);(have h2:ix.den<4:=h1);(have hx:ix.den.toNat=0∨ix.den.toNat=1∨ix.den.toNat=2∨ix.den.toNat=3:=by omega);(rcases hx with hx|hx|hx|hx<;>simp only [hx])))));done)
         try cbv)
      | (refine qR ?_ (kduty3) rfl ?hfit
         case hfit=>(cbv;(repeat' (first|exact qA|exact qB|refine qC ?_ rfl ?_|refine qD ?_ ?_|exact qE (by rfl)|exact qF (by rfl)|exact Fit.refl _|(first|(refine fit_sl (by rfl) (fun ix h0 h1=> ?_);(have h2:ix.den<2:=h1);(have hx:ix.den.toNat=0∨ix.den.toNat=1:=by omega);(rcases hx with hx|hx<;>simp only [hx]))|(refine fit_sl (by rfl) (fun ix h0 h1=> ?_);(have h2:ix.den<3:=h1);(have hx:ix.den.toNat=0∨ix.den.toNat=1∨ix.den.toNat=2:=by omega);(rcases hx with hx|hx|hx<;>simp only [hx]))|(refine fit_sl (by rfl) (fun ix h0 h1=> ?_);(have h2:ix.den<4:=h1);(have hx:ix.den.toNat=0∨ix.den.toNat=1∨ix.den.toNat=2∨ix.den.toNat=3:=by omega);(rcases hx with hx|hx|hx|hx<;>simp only [hx])))));done)
         try cbv)
      | (refine⟨none,?_⟩
         refine qR ?_ (kduty3) rfl ?hfit
         case hfit=>(cbv;(repeat' (first|exact qA|exact qB|refine qC ?_ rfl ?_|refine qD ?_ ?_|exact qE (by rfl)|exact qF (by rfl)|exact Fit.refl _|(first|(refine fit_sl (by rfl) (fun ix h0 h1=> ?_);(have h2:ix.den<2:=h1);(have hx:ix.den.toNat=0∨ix.den.toNat=1:=by omega);(rcases hx with hx|hx<;>simp only [hx]))|(refine fit_sl (by rfl) (fun ix h0 h1=> ?_);(have h2:ix.den<3:=h1);(have hx:ix.den.toNat=0∨ix.den.toNat=1∨ix.den.toNat=2:=by omega);(rcases hx with hx|hx|hx<;>simp only [hx]))|(refine fit_sl (by rfl) (fun ix h0 h1=> ?_);(have h2:ix.den<4:=h1);(have hx:ix.den.toNat=0∨ix.den.toNat=1∨ix.den.toNat=2∨ix.den.toNat=3:=by omega);(rcases hx with hx|hx|hx|hx<;>simp only [hx])))));done)
         try cbv)
      | (refine qR ?_ (kduties3) rfl ?hfit
         case hfit=>(cbv;(repeat' (first|exact qA|exact qB|refine qC ?_ rfl ?_|refine qD ?_ ?_|exact qE (by rfl)|exact qF (by rfl)|exact Fit.refl _|(first|(refine fit_sl (by rfl) (fun ix h0 h1=> ?_);(have h2:ix.den<2:=h1);(have hx:ix.den.toNat=0∨ix.den.toNat=1:=by omega);(rcases hx with hx|hx<;>simp only [hx]))|(refine fit_sl (by rfl) (fun ix h0 h1=> ?_);(have h2:ix.den<3:=h1);(have hx:ix.den.toNat=0∨ix.den.toNat=1∨ix.den.toNat=2:=by omega);(rcases hx with hx|hx|hx<;>simp only [hx]))|(refine fit_sl (by rfl) (fun ix h0 h1=> ?_);(have h2:ix.den<4:=h1);(have hx:ix.den.toNat=0∨ix.den.toNat=1∨ix.den.toNat=2∨ix.den.toNat=3:=by omega);(rcases hx with hx|hx|hx|hx<;>simp only [hx])))));done)
         try cbv)
      | (refine⟨none,?_⟩
         refine qR ?_ (kduties3) rfl ?hfit
         case hfit=>(cbv;(repeat' (first|exact qA|exact qB|refine qC ?_ rfl ?_|refine qD ?_ ?_|exact qE (by rfl)|exact qF (by rfl)|exact Fit.refl _|(first|(refine fit_sl (by rfl) (fun ix h0 h1=> ?_);(have h2:ix.den<2:=h1);(have hx:ix.den.toNat=0∨ix.den.toNat=1:=by omega);(rcases hx with hx|hx<;>simp only [hx]))|(refine fit_sl (by rfl) (fun ix h0 h1=> ?_);(have h2:ix.den<3:=h1);(have hx:ix.den.toNat=0∨ix.den.toNat=1∨ix.den.toNat=2:=by omega);(rcases hx with hx|hx|hx<;>simp only [hx]))|(refine fit_sl (by rfl) (fun ix h0 h1=> ?_);(have h2:ix.den<4:=h1);(have hx:ix.den.toNat=0∨ix.den.toNat=1∨ix.den.toNat=2∨ix.den.toNat=3:=by omega);(rcases hx with hx|hx|hx|hx<;>simp only [hx])))));done)
         try cbv)
      | (refine qR ?_ (kblend3) rfl ?hfit
         case hfit=>(cbv;(repeat' (first|exact qA|exact qB|refine qC ?_ rfl ?_|refine qD ?_ ?_|exact qE (by rfl)|exact qF (by rfl)|exact Fit.refl _|(first|(refine fit_sl (by rfl) (fun ix h0 h1=> ?_);(have h2:ix.den<2:=h1);(have hx:ix.den.toNat=0∨ix.den.toNat=1:=by omega);(rcases hx with hx|hx<;>simp only [hx]))|(refine fit_sl (by rfl) (fun ix h0 h1=> ?_);(have h2:ix.den<3:=h1);(have hx:ix.den.toNat=0∨ix.den.toNat=1∨ix.den.toNat=2:=by omega);(rcases hx with hx|hx|hx<;>simp only [hx]))|(refine fit_sl (by rfl) (fun ix h0 h1=> ?_);(have h2:ix.den<4:=h1);(have hx:ix.den.toNat=0∨ix.den.toNat=1∨ix.den.toNat=2∨ix.den.toNat=3:=by omega);(rcases hx with hx|hx|hx|hx<;>simp only [hx])))));done)
         try cbv)
      | (refine⟨none,?_⟩
         refine qR ?_ (kblend3) rfl ?hfit
         case hfit=>(cbv;(repeat' (first|exact qA|exact qB|refine qC ?_ rfl ?_|refine qD ?_ ?_|exact qE (by rfl)|exact qF (by rfl)|exact Fit.refl _|(first|(refine fit_sl (by rfl) (fun ix h0 h1=> ?_);(have h2:ix.den<2:=h1);(have hx:ix.den.toNat=0∨ix.den.toNat=1:=by omega);(rcases hx with hx|hx<;>simp only [hx]))|(refine fit_sl (by rfl) (fun ix h0 h1=> ?_);(have h2:ix.den<3:=h1);(have hx:ix.den.toNat=0∨ix.den.toNat=1∨ix.den.toNat=2:=by omega);(rcases hx with hx|hx|hx<;>simp only [hx]))|(refine fit_sl (by rfl) (fun ix h0 h1=> ?_);(have h2:ix.den<4:=h1);(have hx:ix.den.toNat=0∨ix.den.toNat=1∨ix.den.toNat=2∨ix.den.toNat=3:=by omega);(rcases hx with hx|hx|hx|hx<;>simp only [hx])))));done)
         try cbv)
      | (refine qR ?_ (kwater3) rfl ?hfit
         case hfit=>(cbv;(repeat' (first|exact qA|exact qB|refine qC ?_ rfl ?_|refine qD ?_ ?_|exact qE (by rfl)|exact qF (by rfl)|exact Fit.refl _|(first|(refine fit_sl (by rfl) (fun ix h0 h1=> ?_);(have h2:ix.den<2:=h1);(have hx:ix.den.toNat=0∨ix.den.toNat=1:=by omega);(rcases hx with hx|hx<;>simp only [hx]))|(refine fit_sl (by rfl) (fun ix h0 h1=> ?_);(have h2:ix.den<3:=h1);(have hx:ix.den.toNat=0∨ix.den.toNat=1∨ix.den.toNat=2:=by omega);(rcases hx with hx|hx|hx<;>simp only [hx]))|(refine fit_sl (by rfl) (fun ix h0 h1=> ?_);(have h2:ix.den<4:=h1);(have hx:ix.den.toNat=0∨ix.den.toNat=1∨ix.den.toNat=2∨ix.den.toNat=3:=by omega);(rcases hx with hx|hx|hx|hx<;>simp only [hx])))));done)
         try cbv)
      | (refine⟨none,?_⟩
         refine qR ?_ (kwater3) rfl ?hfit
         case hfit=>(cbv;(repeat' (first|exact qA|exact qB|refine qC ?_ rfl ?_|refine qD ?_ ?_|exact qE (by rfl)|exact qF (by rfl)|exact Fit.refl _|(first|(refine fit_sl (by rfl) (fun ix h0 h1=> ?_);(have h2:ix.den<2:=h1);(have hx:ix.den.toNat=0∨ix.den.toNat=1:=by omega);(rcases hx with hx|hx<;>simp only [hx]))|(refine fit_sl (by rfl) (fun ix h0 h1=> ?_);(have h2:ix.den<3:=h1);(have hx:ix.den.toNat=0∨ix.den.toNat=1∨ix.den.toNat=2:=by omega);(rcases hx with hx|hx|hx<;>simp only [hx]))|(refine fit_sl (by rfl) (fun ix h0 h1=> ?_);(have h2:ix.den<4:=h1);(have hx:ix.den.toNat=0∨ix.den.toNat=1∨ix.den.toNat=2∨ix.den.toNat=3:=by omega);(rcases hx with hx|hx|hx|hx<;>simp only [hx])))));done)
         try cbv)
      | (refine qR ?_ (kprove3) rfl ?hfit
         case hfit=>(cbv;(repeat' (first|exact qA|exact qB|refine qC ?_ rfl ?_|refine qD ?_ ?_|exact qE (by rfl)|exact qF (by rfl)|exact Fit.refl _|(first|(refine fit_sl (by rfl) (fun ix h0 h1=> ?_);(have h2:ix.den<2:=h1);(have hx:ix.den.toNat=0∨ix.den.toNat=1:=by omega);(rcases hx with hx|hx<;>simp only [hx]))|(refine fit_sl (by rfl) (fun ix h0 h1=> ?_);(have h2:ix.den<3:=h1);(have hx:ix.den.toNat=0∨ix.den.toNat=1∨ix.den.toNat=2:=by omega);(rcases hx with hx|hx|hx<;>simp only [hx]))|(refine fit_sl (by rfl) (fun ix h0 h1=> ?_);(have h2:ix.den<4:=h1);(have hx:ix.den.toNat=0∨ix.den.toNat=1∨ix.den.toNat=2∨ix.den.toNat=3:=by omega);(rcases hx with hx|hx|hx|hx<;>simp only [hx])))));done)
         try cbv)
      | (refine⟨none,?_⟩
         refine qR ?_ (kprove3) rfl ?hfit
         case hfit=>(cbv;(repeat' (first|exact qA|exact qB|refine qC ?_ rfl ?_|refine qD ?_ ?_|exact qE (by rfl)|exact qF (by rfl)|exact Fit.refl _|(first|(refine fit_sl (by rfl) (fun ix h0 h1=> ?_);(have h2:ix.den<2:=h1);(have hx:ix.den.toNat=0∨ix.den.toNat=1:=by omega);(rcases hx with hx|hx<;>simp only [hx]))|(refine fit_sl (by rfl) (fun ix h0 h1=> ?_);(have h2:ix.den<3:=h1);(have hx:ix.den.toNat=0∨ix.den.toNat=1∨ix.den.toNat=2:=by omega);(rcases hx with hx|hx|hx<;>simp only [hx]))|(refine fit_sl (by rfl) (fun ix h0 h1=> ?_);(have h2:ix.den<4:=h1);(have hx:ix.den.toNat=0∨ix.den.toNat=1∨ix.den.toNat=2∨ix.den.toNat=3:=by omega);(rcases hx with hx|hx|hx|hx<;>simp only [hx])))));done)
         try cbv)
      | (refine qR ?_ (kfewest3) rfl ?hfit
         case hfit=>(cbv;(repeat' (first|exact qA|exact qB|refine qC ?_ rfl ?_|refine qD ?_ ?_|exact qE (by rfl)|exact qF (by rfl)|exact Fit.refl _|(first|(refine fit_sl (by rfl) (fun ix h0 h1=> ?_);(have h2:ix.den<2:=h1);(have hx:ix.den.toNat=0∨ix.den.toNat=1:=by omega);(rcases hx with hx|hx<;>simp only [hx]))|(refine fit_sl (by rfl) (fun ix h0 h1=> ?_);(have h2:ix.den<3:=h1);(have hx:ix.den.toNat=0∨ix.den.toNat=1∨ix.den.toNat=2:=by omega);(rcases hx with hx|hx|hx<;>simp only [hx]))|(refine fit_sl (by rfl) (fun ix h0 h1=> ?_);(have h2:ix.den<4:=h1);(have hx:ix.den.toNat=0∨ix.den.toNat=1∨ix.den.toNat=2∨ix.den.toNat=3:=by omega);(rcases hx with hx|hx|hx|hx<;>simp only [hx])))));done)
         try cbv)
      | (refine⟨none,?_⟩
         refine qR ?_ (kfewest3) rfl ?hfit
         case hfit=>(cbv;(repeat' (first|exact qA|exact qB|refine qC ?_ rfl ?_|refine qD ?_ ?_|exact qE (by rfl)|exact qF (by rfl)|exact Fit.refl _|(first|(refine fit_sl (by rfl) (fun ix h0 h1=> ?_);(have h2:ix.den<2:=h1);(have hx:ix.den.toNat=0∨ix.den.toNat=1:=by omega);(rcases hx with hx|hx<;>simp only [hx]))|(refine fit_sl (by rfl) (fun ix h0 h1=> ?_);(have h2:ix.den<3:=h1);(have hx:ix.den.toNat=0∨ix.den.toNat=1∨ix.den.toNat=2:=by omega);(rcases hx with hx|hx|hx<;>simp only [hx]))|(refine fit_sl (by rfl) (fun ix h0 h1=> ?_);(have h2:ix.den<4:=h1);(have hx:ix.den.toNat=0∨ix.den.toNat=1∨ix.den.toNat=2∨ix.den.toNat=3:=by omega);(rcases hx with hx|hx|hx|hx<;>simp only [hx])))));done)
         try cbv)
      | (refine qR ?_ (kfalse3) rfl ?hfit
         case hfit=>(cbv;(repeat' (first|exact qA|exact qB|refine qC ?_ rfl ?_|refine qD ?_ ?_|exact qE (by rfl)|exact qF (by rfl)|exact Fit.refl _|(first|(refine fit_sl (by rfl) (fun ix h0 h1=> ?_);(have h2:ix.den<2:=h1);(have hx:ix.den.toNat=0∨ix.den.toNat=1:=by omega);(rcases hx with hx|hx<;>simp only [hx]))|(refine fit_sl (by rfl) (fun ix h0 h1=> ?_);(have h2:ix.den<3:=h1);(have hx:ix.den.toNat=0∨ix.den.toNat=1∨ix.den.toNat=2:=by omega);(rcases hx with hx|hx|hx<;>simp only [hx]))|(refine fit_sl (by rfl) (fun ix h0 h1=> ?_);(have h2:ix.den<4:=h1);(have hx:ix.den.toNat=0∨ix.den.toNat=1∨ix.den.toNat=2∨ix.den.toNat=3:=by omega);(rcases hx with hx|hx|hx|hx<;>simp only [hx])))));done)
         try cbv)
      | (refine⟨none,?_⟩
         refine qR ?_ (kfalse3) rfl ?hfit
         case hfit=>(cbv;(repeat' (first|exact qA|exact qB|refine qC ?_ rfl ?_|refine qD ?_ ?_|exact qE (by rfl)|exact qF (by rfl)|exact Fit.refl _|(first|(refine fit_sl (by rfl) (fun ix h0 h1=> ?_);(have h2:ix.den<2:=h1);(have hx:ix.den.toNat=0∨ix.den.toNat=1:=by omega);(rcases hx with hx|hx<;>simp only [hx]))|(refine fit_sl (by rfl) (fun ix h0 h1=> ?_);(have h2:ix.den<3:=h1);(have hx:ix.den.toNat=0∨ix.den.toNat=1∨ix.den.toNat=2:=by omega);(rcases hx with hx|hx|hx<;>simp only [hx]))|(refine fit_sl (by rfl) (fun ix h0 h1=> ?_);(have h2:ix.den<4:=h1);(have hx:ix.den.toNat=0∨ix.den.toNat=1∨ix.den.toNat=2∨ix.den.toNat=3:=by omega);(rcases hx with hx|hx|hx|hx<;>simp only [hx])))));done)
         try cbv)
      | (refine qR ?_ (ksame3a) rfl ?hfit
         case hfit=>(cbv;(repeat' (first|exact qA|exact qB|refine qC ?_ rfl ?_|refine qD ?_ ?_|exact qE (by rfl)|exact qF (by rfl)|exact Fit.refl _|(first|(refine fit_sl (by rfl) (fun ix h0 h1=> ?_);(have h2:ix.den<2:=h1);(have hx:ix.den.toNat=0∨ix.den.toNat=1:=by omega);(rcases hx with hx|hx<;>simp only [hx]))|(refine fit_sl (by rfl) (fun ix h0 h1=> ?_);(have h2:ix.den<3:=h1);(have hx:ix.den.toNat=0∨ix.den.toNat=1∨ix.den.toNat=2:=by omega);(rcases hx with hx|hx|hx<;>simp only [hx]))|(refine fit_sl (by rfl) (fun ix h0 h1=> ?_);(have h2:ix.den<4:=h1);(have hx:ix.den.toNat=0∨ix.den.toNat=1∨ix.den.toNat=2∨ix.den.toNat=3:=by omega);(rcases hx with hx|hx|hx|hx<;>simp only [hx])))));done)
         try cbv)
      | (refine⟨none,?_⟩
         refine qR ?_ (ksame3a) rfl ?hfit
         case hfit=>(cbv;(repeat' (first|exact qA|exact qB|refine qC ?_ rfl ?_|refine qD ?_ ?_|exact qE (by rfl)|exact qF (by rfl)|exact Fit.refl _|(first|(refine fit_sl (by rfl) (fun ix h0 h1=> ?_);(have h2:ix.den<2:=h1);(have hx:ix.den.toNat=0∨ix.den.toNat=1:=by omega);(rcases hx with hx|hx<;>simp only [hx]))|(refine fit_sl (by rfl) (fun ix h0 h1=> ?_);(have h2:ix.den<3:=h1);(have hx:ix.den.toNat=0∨ix.den.toNat=1∨ix.den.toNat=2:=by omega);(rcases hx with hx|hx|hx<;>simp only [hx]))|(refine fit_sl (by rfl) (fun ix h0 h1=> ?_);(have h2:ix.den<4:=h1);(have hx:ix.den.toNat=0∨ix.den.toNat=1∨ix.den.toNat=2∨ix.den.toNat=3:=by omega);(rcases hx with hx|hx|hx|hx<;>simp only [hx])))));done)
         try cbv)
      | (refine qR ?_ (ksame3b) rfl ?hfit
         case hfit=>(cbv;(repeat' (first|exact qA|exact qB|refine qC ?_ rfl ?_|refine qD ?_ ?_|exact qE (by rfl)|exact qF (by rfl)|exact Fit.refl _|(first|(refine fit_sl (by rfl) (fun ix h0 h1=> ?_);(have h2:ix.den<2:=h1);(have hx:ix.den.toNat=0∨ix.den.toNat=1:=by omega);(rcases hx with hx|hx<;>simp only [hx]))|(refine fit_sl (by rfl) (fun ix h0 h1=> ?_);(have h2:ix.den<3:=h1);(have hx:ix.den.toNat=0∨ix.den.toNat=1∨ix.den.toNat=2:=by omega);(rcases hx with hx|hx|hx<;>simp only [hx]))|(refine fit_sl (by rfl) (fun ix h0 h1=> ?_);(have h2:ix.den<4:=h1);(have hx:ix.den.toNat=0∨ix.den.toNat=1∨ix.den.toNat=2∨ix.den.toNat=3:=by omega);(rcases hx with hx|hx|hx|hx<;>simp only [hx])))));done)
         try cbv)
      | (refine⟨none,?_⟩
         refine qR ?_ (ksame3b) rfl ?hfit
         case hfit=>(cbv;(repeat' (first|exact qA|exact qB|refine qC ?_ rfl ?_|refine qD ?_ ?_|exact qE (by rfl)|exact qF (by rfl)|exact Fit.refl _|(first|(refine fit_sl (by rfl) (fun ix h0 h1=> ?_);(have h2:ix.den<2:=h1);(have hx:ix.den.toNat=0∨ix.den.toNat=1:=by omega);(rcases hx with hx|hx<;>simp only [hx]))|(refine fit_sl (by rfl) (fun ix h0 h1=> ?_);(have h2:ix.den<3:=h1);(have hx:ix.den.toNat=0∨ix.den.toNat=1∨ix.den.toNat=2:=by omega);(rcases hx with hx|hx|hx<;>simp only [hx]))|(refine fit_sl (by rfl) (fun ix h0 h1=> ?_);(have h2:ix.den<4:=h1);(have hx:ix.den.toNat=0∨ix.den.toNat=1∨ix.den.toNat=2∨ix.den.toNat=3:=by omega);(rcases hx with hx|hx|hx|hx<;>simp only [hx])))));done)
         try cbv)
      | (refine qR ?_ (ksame3c) rfl ?hfit
         case hfit=>(cbv;(repeat' (first|exact qA|exact qB|refine qC ?_ rfl ?_|refine qD ?_ ?_|exact qE (by rfl)|exact qF (by rfl)|exact Fit.refl _|(first|(refine fit_sl (by rfl) (fun ix h0 h1=> ?_);(have h2:ix.den<2:=h1);(have hx:ix.den.toNat=0∨ix.den.toNat=1:=by omega);(rcases hx with hx|hx<;>simp only [hx]))|(refine fit_sl (by rfl) (fun ix h0 h1=> ?_);(have h2:ix.den<3:=h1);(have hx:ix.den.toNat=0∨ix.den.toNat=1∨ix.den.toNat=2:=by omega);(rcases hx with hx|hx|hx<;>simp only [hx]))|(refine fit_sl (by rfl) (fun ix h0 h1=> ?_);(have h2:ix.den<4:=h1);(have hx:ix.den.toNat=0∨ix.den.toNat=1∨ix.den.toNat=2∨ix.den.toNat=3:=by omega);(rcases hx with hx|hx|hx|hx<;>simp only [hx])))));done)
         try cbv)
      | (refine⟨none,?_⟩
         refine qR ?_ (ksame3c) rfl ?hfit
         case hfit=>(cbv;(repeat' (first|exact qA|exact qB|refine qC ?_ rfl ?_|refine qD ?_ ?_|exact qE (by rfl)|exact qF (by rfl)|exact Fit.refl _|(first|(refine fit_sl (by rfl) (fun ix h0 h1=> ?_);(have h2:ix.den<2:=h1);(have hx:ix.den.toNat=0∨ix.den.toNat=1:=by omega);(rcases hx with hx|hx<;>simp only [hx]))|(refine fit_sl (by rfl) (fun ix h0 h1=> ?_);(have h2:ix.den<3:=h1);(have hx:ix.den.toNat=0∨ix.den.toNat=1∨ix.den.toNat=2:=by omega);(rcases hx with hx|hx|hx<;>simp only [hx]))|(refine fit_sl (by rfl) (fun ix h0 h1=> ?_);(have h2:ix.den<4:=h1);(have hx:ix.den.toNat=0∨ix.den.toNat=1∨ix.den.toNat=2∨ix.den.toNat=3:=by omega);(rcases hx with hx|hx|hx|hx<;>simp only [hx])))));done)
         try cbv)
      |fail)
  all_goals first
    |trivial
    |((try simp only [qV]at *);(try simp only [zQ,zA,zB,zC,zD,zE,zF,zG,zH,zI,zJ,zK,zL,zM,zN,zO,zP,zR,zS]at *);first|(refine qN ?_;omega)|(simp only [Hold];omega))
    |(subst hR;(repeat' (first|exact qA|exact qB|refine qC ?_ rfl ?_|refine qD ?_ ?_|exact qE (by rfl)|exact qF (by rfl)|exact Fit.refl _|exact qG _|(refine qE ?_;(try simp only [qV]at *);simp only [zQ,zA,zB,zC,zD,zE,zF,zG,zH,zI,zJ,zK,zL,zM,zN,zO,zP,zR,zS]at *;omega)));done)
    |(simp only [Hold];exact⟨h35,rfl⟩)
    |(exact(hcd rfl).elim)
    |(simp only [Hold];decide)
    |skip
end Go.Proofs.Ytkdgpdlfakcgdaa

namespace Go.Proofs.Ytkdgpdlfakcgdaa
def subL (n:Nat):Nat→List Int→Nat→List (List Int)
  |0,l,_=>[l]
  |m+1,l,i=>(List.range' i (n-m-i)).flatMap fun (j:Nat)=>subL n m (l++[(j:Int)]) (j+1)
def allL (n:Nat):List (List Int):=(List.range' 0 n).flatMap fun m=>subL n (m+1) [] 0
end Go.Proofs.Ytkdgpdlfakcgdaa

namespace Go.Proofs.Ytkdgpdlfakcgdaa
def memB (n:Nat):Bool:=((List.range (2^n-1)).all fun i=>(allL n).contains (bitsL ((i:Int)+1) 16))&&(allL n).all fun a=>(List.range (2^n-1)).any fun i=>bitsL ((i:Int)+1) 16==a
end Go.Proofs.Ytkdgpdlfakcgdaa

namespace Go.Proofs.Ytkdgpdlfakcgdaa
open Go Go.Eng Go.Proofs
def prD (d:Dcl):Int×Int:=(d.c,d.t)
theorem prD_get (ds:List Dcl)(k:Nat):(ds.map prD).getD k (0,0)=((ds.getD k dc0).c,(ds.getD k dc0).t):=by
  rw [List.getD_eq_getElem?_getD,List.getElem?_map,List.getD_eq_getElem?_getD]
  cases ds[k]? with
  |none=>rfl
  |some d=>rfl
end Go.Proofs.Ytkdgpdlfakcgdaa
