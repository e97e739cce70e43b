/- HeatMixes: what the law computes. No condition. -/
import Derived.Test.YteelocfbbhchcaaT6
set_option linter.unusedVariables false
set_option linter.unusedSimpArgs false
set_option linter.deprecated false
set_option linter.all false

namespace Go.Proofs.Yteelocfbbhchcaa
open Go Go.Eng Go.Proofs
set_option maxRecDepth 10000
theorem law5t (l:List PorT)(h:9<l.length):FSpec Try.prog 5 [(porS l)] [] (fun r _=>r=(.bool (.lit true))):=by
  have c15:=awake15
  have c25:= @to25
  have h33:=eqOk33
  refine FSpec.is fun R hR=>qX (sc:=sc5) tyok mix Try.func5 rfl Try.call5 (by kernel_rfl) (by kernel_rfl) ?_
  generalize Try.prog=P at c15 c25 h33⊢
  cbv
  repeat' (first
      |with_reducible refine And.intro ?_ ?_
      |(with_reducible intro hcd;(try simp only [zA,zB,zC,zD,zE,zF,zG,zH,zI,zJ,zK,zL,zM,zN,zO,zP]at hcd);try cbv)
      | (refine qQ ?_ (c15) ?hfit
         case hfit=>((repeat' (first|exact qB|refine qD ?_ ?_|exact qE (by rfl)|exact qG (by rfl)|exact Fit.refl _|exact qA|refine qC ?_ rfl ?_));done)
         try cbv)
      |fail)
  all_goals first
    |(subst hR;(repeat' (first|exact qA|exact qB|refine qC ?_ rfl ?_|refine qD ?_ ?_|exact qE (by rfl)|exact qG (by rfl)|exact Fit.refl _|exact qH _|(refine qE ?_;(try simp only [qW]at *);simp only [zQ,zA,zB,zC,zD,zE,zF,zG,zH,zI,zJ,zK,zL,zM,zN,zO,zP,zR,zS]at *;omega)));done)
    |(exfalso;(try simp only [qW]at *);(try simp only [zQ,zA,zB,zC,zD,zE,zF,zG,zH,zI,zJ,zK,zL,zM,zN,zO,zP,zR,zS]at *);omega)
    |skip
theorem law5e (l:List PorT)(h:l.length≤9)(h0:¬mixE l=0):FSpec Try.prog 5 [(porS l)] [] (fun r _=>r=(.bool (.lit true))):=by
  have c15:=awake15
  have c25:= @to25
  have h33:=eqOk33
  have c39:=portions39 l (by omega)
  have c38:=mix38 l (by omega)
  have c40:=mixfault40 l (by omega)
  refine FSpec.is fun R hR=>qX (sc:=sc5) tyok mix Try.func5 rfl Try.call5 (by kernel_rfl) (by kernel_rfl) ?_
  generalize Try.prog=P at c15 c25 h33 c39 c38 c40⊢
  cbv
  have hz:=mx_no h0
  repeat' (first
      |with_reducible refine hold ?_ ?_
      |with_reducible refine And.intro ?_ ?_
      |(with_reducible intro hcd;(try simp only [zA,zB,zC,zD,zE,zF,zG,zH,zI,zJ,zK,zL,zM,zN,zO,zP]at hcd);try cbv)
      | (refine qQ ?_ (c39) ?hfit
         case hfit=>((repeat' (first|exact qB|refine qD ?_ ?_|exact qE (by rfl)|exact qG (by rfl)|exact Fit.refl _|exact qA|refine qC ?_ rfl ?_));done)
         try cbv)
      | (refine qQ ?_ (c38) ?hfit
         case hfit=>((repeat' (first|exact qB|refine qD ?_ ?_|exact qE (by rfl)|exact qG (by rfl)|exact Fit.refl _|exact qA|refine qC ?_ rfl ?_));done)
         try cbv)
      | (refine qQ ?_ (c40) ?hfit
         case hfit=>((repeat' (first|exact qB|refine qD ?_ ?_|exact qE (by rfl)|exact qG (by rfl)|exact Fit.refl _|exact qA|refine qC ?_ rfl ?_));done)
         try cbv)
      | (refine qQ ?_ (c15) ?hfit
         case hfit=>((repeat' (first|exact qB|refine qD ?_ ?_|exact qE (by rfl)|exact qG (by rfl)|exact Fit.refl _|exact qA|refine qC ?_ rfl ?_));done)
         try cbv)
      |fail)
  all_goals first
    |trivial
    |(subst hR;(repeat' (first|exact qA|exact qB|refine qC ?_ rfl ?_|refine qD ?_ ?_|exact qE (by rfl)|exact qG (by rfl)|exact Fit.refl _|exact qH _|(refine qE ?_;(try simp only [qW]at *);simp only [zQ,zA,zB,zC,zD,zE,zF,zG,zH,zI,zJ,zK,zL,zM,zN,zO,zP,zR,zS]at *;omega)));done)
    |(exact((by assumption:¬dens _=dens _) (by simp only [dens,IX.den,hz.1,hz.2])).elim)
    |skip
theorem law5ok (l:List PorT)(h0:mixE l=0):FSpec Try.prog 5 [(porS l)] [] (fun r _=>r=(.bool (.lit true))):=by
  have c15:=awake15
  have c25:= @to25
  have h33:=eqOk33
  have c39:=portions39 l (by have:=(mixE_iff.1 h0).n5;omega)
  have c38:=mix38 l (by have:=(mixE_iff.1 h0).n5;omega)
  have c40:=mixfault40 l (by have:=(mixE_iff.1 h0).n5;omega)
  have c41:=mix41 l (mixE_iff.1 h0)
  refine FSpec.is fun R hR=>qX (sc:=sc5) tyok mix Try.func5 rfl Try.call5 (by kernel_rfl) (by kernel_rfl) ?_
  generalize Try.prog=P at c15 c25 h33 c39 c38 c40 c41⊢
  cbv
  have h:=(mixE_iff.1 h0).n5
  have hz:=mx_yes h0
  repeat' (first
      |with_reducible refine hold ?_ ?_
      |with_reducible refine And.intro ?_ ?_
      |(with_reducible intro hcd;(try simp only [zA,zB,zC,zD,zE,zF,zG,zH,zI,zJ,zK,zL,zM,zN,zO,zP]at hcd);try cbv)
      | (refine qQ ?_ (c39) ?hfit
         case hfit=>((repeat' (first|exact qB|refine qD ?_ ?_|exact qE (by rfl)|exact qG (by rfl)|exact Fit.refl _|exact qA|refine qC ?_ rfl ?_));done)
         try cbv)
      | (refine qQ ?_ (c38) ?hfit
         case hfit=>((repeat' (first|exact qB|refine qD ?_ ?_|exact qE (by rfl)|exact qG (by rfl)|exact Fit.refl _|exact qA|refine qC ?_ rfl ?_));done)
         try cbv)
      | (refine qQ ?_ (c40) ?hfit
         case hfit=>((repeat' (first|exact qB|refine qD ?_ ?_|exact qE (by rfl)|exact qG (by rfl)|exact Fit.refl _|exact qA|refine qC ?_ rfl ?_));done)
         try cbv)
      | (refine qQ ?_ (c41) ?hfit
         case hfit=>((repeat' (first|exact qB|refine qD ?_ ?_|exact qE (by rfl)|exact qG (by rfl)|exact Fit.refl _|exact qA|refine qC ?_ rfl ?_));done)
         try cbv)
      | (refine qQ ?_ (c15) ?hfit
         case hfit=>((repeat' (first|exact qB|refine qD ?_ ?_|exact qE (by rfl)|exact qG (by rfl)|exact Fit.refl _|exact qA|refine qC ?_ rfl ?_));done)
         try cbv)
      | (refine qQ ?_ (c25 _ _) (by(repeat' (first|exact qB|refine qD ?_ ?_|exact qE (by rfl)|exact qG (by rfl)|exact Fit.refl _|exact qA|refine qC ?_ rfl ?_)))
         try cbv)
      |fail)
  all_goals first
    |trivial
    |(subst hR;(repeat' (first|exact qA|exact qB|refine qC ?_ rfl ?_|refine qD ?_ ?_|exact qE (by rfl)|exact qG (by rfl)|exact Fit.refl _|exact qH _|(refine qE ?_;(try simp only [qW]at *);simp only [zQ,zA,zB,zC,zD,zE,zF,zG,zH,zI,zJ,zK,zL,zM,zN,zO,zP,zR,zS]at *;omega)));done)
    |(exact((by assumption:¬dens _=dens _) (by simp only [dens,IX.den,hz.1,hz.2])).elim)
    |skip
theorem law5 (l:List PorT):FSpec Try.prog 5 [(porS l)] [] (fun r _=>r = .bool (.lit true)):=by
  rcases Nat.lt_or_ge 9 l.length with h|h
  · exact law5t l h
  · by_cases h0:mixE l=0
    · exact law5ok l h0
    · exact law5e l h h0
end Go.Proofs.Yteelocfbbhchcaa
