/- DisputeWider: what the law computes. No condition. -/
import Derived.Test.YtkdggbfknlcdaaaT7
set_option linter.unusedVariables false
set_option linter.unusedSimpArgs false
set_option linter.deprecated false
set_option linter.all false

namespace Go.Proofs.Ytkdggbfknlcdaaa
open Go Go.Eng Go.Proofs Go.Eng.Dif Go.Eng.Few
set_option maxRecDepth 10000
def sc5b :SC:=[(158,kpS [1,2,3,6,7,8,9]),(159,kpS [1,2,3,6,7,8,10]),(160,kpS [1,2,3,6,7,8,10,11]),(161,kpS [1,2,3,6,7,8,10,11]),(162,kpS [1,2,3,6,7,8]),(163,kpS [1,2,3,6,7,8,12]),(164,kpS [1,2,3,6,7,8,12]),(165,kpS [2,3,6,7,8,13]),(166,kpS [3,6,7,8]),(167,kpS [3,6,7,8,14,15]),(168,kpS [3,6,7,8,14,15,16,17]),(169,kpS [3,6,7,8,14,15,16,17,18,19]),(170,kpS [6,7,8,14,15,16,17,18,19,20,21]),(171,kpS [6,8,14,15,16,17,18,19,20,21,22,23]),(172,kpS [6,14,15,16,17,18,19,20,21,22,23,24,25]),(179,kpS [6,14,15,16]),(17,[⟨1,false,[],false,0,none⟩]),(3,[⟨1,false,[],false,4,none⟩,⟨0,false,[],false,0,none⟩,⟨2,false,[],false,0,none⟩,⟨3,false,[],false,0,none⟩,⟨4,true,[0,2,3],false,3,none⟩,⟨5,true,[0,1,2,3,4],false,0,none⟩]),(4,[⟨0,false,[],false,0,none⟩,⟨1,false,[],false,0,none⟩,⟨2,false,[1],false,0,none⟩,⟨4,false,[],false,0,none⟩,⟨5,false,[],false,0,none⟩,⟨6,false,[5],false,0,none⟩,⟨3,false,[0,1,2],false,0,none⟩,⟨8,false,[0,1,2,3],false,0,none⟩,⟨7,false,[0,1,2,3,4,5,6],false,0,none⟩,⟨9,true,[0,1,2,3,4,5,6,7,8],false,0,none⟩,⟨10,true,[0,1,2,3,4,5,6,7,8,9],false,0,none⟩,⟨11,true,[0,1,2,3,4,5,6,7,8,9,10],false,0,none⟩]),(14,[⟨0,false,[],false,0,none⟩,⟨1,false,[0],false,0,none⟩,⟨2,false,[],false,0,none⟩,⟨3,false,[2],false,0,none⟩,⟨4,false,[],false,0,none⟩,⟨5,false,[2,3,4],false,0,none⟩,⟨6,true,[0,1,2,3,4,5],false,0,none⟩,⟨7,true,[0,1,2,3,4,5,6],false,0,none⟩]),(15,[⟨0,false,[],false,0,none⟩,⟨1,false,[],false,0,none⟩,⟨2,false,[1],false,0,none⟩,⟨3,false,[1,2],false,0,none⟩,⟨4,false,[1,2,3],false,0,none⟩,⟨5,false,[1,2,3,4],false,0,none⟩,⟨6,false,[],false,0,none⟩,⟨7,false,[6],false,0,none⟩,⟨8,false,[6,7],false,0,none⟩,⟨9,false,[6,7,8],false,0,none⟩,⟨10,false,[6,7,8,9],false,0,none⟩,⟨11,false,[],false,0,none⟩,⟨12,false,[11],false,0,none⟩,⟨13,false,[11,12],false,0,none⟩,⟨14,false,[11,12,13],false,0,none⟩,⟨15,false,[6,7,8,9,10,11,12,13,14],false,0,none⟩,⟨16,false,[1,2,3,4,5,6,7,8,9,10,11,12,13,14,15],false,0,none⟩,⟨17,false,[],false,0,none⟩,⟨18,false,[17],false,0,none⟩,⟨19,false,[17,18],false,0,none⟩,⟨21,false,[],false,0,none⟩,⟨22,false,[21],false,0,none⟩,⟨23,false,[21,22],false,0,none⟩,⟨24,false,[21,22,23],false,0,none⟩,⟨25,false,[21,22,23,24],false,0,none⟩,⟨26,false,[],false,0,none⟩,⟨27,false,[26],false,0,none⟩,⟨28,false,[26,27],false,0,none⟩,⟨29,false,[21,22,23,24,25,26,27,28],false,0,none⟩,⟨20,false,[17,18,19],false,0,none⟩,⟨30,false,[17,18,19,20,21,22,23,24,25,26,27,28,29],false,0,none⟩,⟨31,false,[1,2,3,4,5,6,7,8,9,10,11,12,13,14,15,16,17,18,19,20,21,22,23,24,25,26,27,28,29,30],false,0,none⟩,⟨32,true,[0,1,2,3,4,5,6,7,8,9,10,11,12,13,14,15,16,17,18,19,20,21,22,23,24,25,26,27,28,29,30,31],false,0,none⟩,⟨33,true,[0,1,2,3,4,5,6,7,8,9,10,11,12,13,14,15,16,17,18,19,20,21,22,23,24,25,26,27,28,29,30,31,32],false,0,none⟩,⟨34,true,[0,1,2,3,4,5,6,7,8,9,10,11,12,13,14,15,16,17,18,19,20,21,22,23,24,25,26,27,28,29,30,31,32,33],false,0,none⟩]),(27,[⟨0,false,[],false,0,none⟩,⟨1,false,[],false,0,none⟩,⟨2,false,[0,1],false,0,none⟩,⟨3,false,[0,1,2],false,0,none⟩,⟨4,false,[],false,0,none⟩,⟨5,false,[],false,0,none⟩,⟨6,false,[4,5],false,0,none⟩,⟨7,false,[4,5,6],false,0,none⟩,⟨8,true,[0,1,2,3,4,5,6,7],false,0,none⟩])]
theorem uug {f:FuncId} {args:List SV} {b:Bool}(h:ua0 Try.prog f args [] (fun r _=>r = .bool (.sym fun _=>b)))(hb:b=false):ua0 Try.prog f args [] (fun r _=>r = .bool (.lit false)):=h.post fun r bs q=>⟨_,by subst q;exact qF hb,rfl⟩
theorem uwd (d:Dsp)(w b:Int)(hw:0≤w∧w≤255)(hb:0≤b∧b≤255)(h:udU d=false):ua0 Try.prog 5 [(dspS d),(.int .u8 (.sym fun _=>w)),(.int .u8 (.sym fun _=>b))] [] (fun r _=>r=(.bool (.lit true))):=by
  have c20:=uug (ugt d) h
  have c12:=ug9
  refine ua0.is fun R hR=>qW (sc:=sc5b) tyok mix Try.func5 rfl Try.call5 (by kernel_rfl) (by kernel_rfl) ?_
  generalize Try.prog=P at c20 c12⊢
  cbv
  repeat' (first
      | (refine qP ?_ (c20) ?hfit
         case hfit=>((repeat' (first|exact qB|refine qD ?_ ?_|exact qE (by rfl)|exact qF (by rfl)|exact Fit.refl _|exact qA|refine qC ?_ rfl ?_));done)
         try cbv)
      | (refine qP ?_ (c12) ?hfit
         case hfit=>((repeat' (first|exact qB|refine qD ?_ ?_|exact qE (by rfl)|exact qF (by rfl)|exact Fit.refl _|exact qA|refine qC ?_ rfl ?_));done)
         try cbv)
      |fail)
  all_goals first
    |(subst hR;(repeat' (first|exact qA|exact qB|refine qC ?_ rfl ?_|refine qD ?_ ?_|exact qE (by rfl)|exact qF (by rfl)|exact Fit.refl _|exact qG _|(refine qE ?_;(try simp only [qV]at *);simp only [zQ,zA,zB,zC,zD,zE,zF,zG,zH,zI,zJ,zK,zL,zM,zN,zO,zP,zR,zS]at *;omega)));done)
    |skip
theorem ulm {P:Program} {t m n:Nat} {p:Prop}(h:EqOk P t m)(hn:n=m)(hp:p):Hold (EqOk P t n∧p):=by
  subst hn
  exact And.intro h hp
theorem ucT {a b q:Int} {K:Int→Prop}(h:K q)(hb:Hold (b≠0))(hq:a.tmod b=q):∃q,(∀_:Unit,upP a b q)∧K q:=by
  subst hq
  exact qT h hb
set_option maxRecDepth 100000 in
set_option maxHeartbeats 20000000 in
theorem uvX (d:Dsp)(w b:Int)(hw:0≤w∧w≤255)(hb:0≤b∧b≤255)(hz:d.fs.length*48≤140737488351232)(h:udU d=true)(hn:0<d.ls.length)(hm:0<d.fs.length)(k j:Nat)(a1 a2 a3 a4:Int)(ha1:b.tmod 4=a1)(ha2:(b.tdiv 4).tmod 4=a2)(ha3:(b.tdiv 16).tmod 4=a3)(ha4:b.tdiv 64=a4)(hk:0<d.ls.length→w.tmod (zi d.ls.length)=zi k∧k<d.ls.length)(hj:0<d.fs.length→w.tmod (zi d.fs.length)=zi j∧j<d.fs.length)(LX LY:List LkT)(FX:List FaT)(X Y:Dsp)(hLX:LX=d.ls.set k (wL a1 a2 (d.ls.getD k l0T)))(hLY:LY=d.ls.set k (tL (d.ls.getD k l0T)))(hFX:FX=d.fs.set j (wF d a3 a4 (d.fs.getD j f0T)))(hX:X=ub2 d k j a1 a2 a3 a4)(hY:Y=ubr d k):ua0 Try.prog 5 [(dspS d),(.int .u8 (.sym fun _=>w)),(.int .u8 (.sym fun _=>b))] [] (fun r _=>r=(.bool (.lit true))):=by
  have c12:=ug9
  have hth:=uhF.1 (ucG.1 h).1
  have hF:=(ucG.1 h).2
  have hd:=ua2.1 hF
  have f6:=hd.f6
  have l4:=hd.l4
  have s1:=hd.s1
  have s3:=hd.s3
  have hm2:=hd.t.m2
  have hm5:=hd.t.m5
  have nX:LX.length=d.ls.length:=by rw [hLX,List.length_set]
  have nY:LY.length=d.ls.length:=by rw [hLY,List.length_set]
  have mX:FX.length=d.fs.length:=by rw [hFX,List.length_set]
  have oX:∀i,i≠k→LX.getD i l0T=d.ls.getD i l0T:=fun i hi=>by rw [hLX];simp only [List.getD_eq_getElem?_getD];rw [List.getElem?_set_ne (fun e=>hi e.symm)]
  have oY:∀i,i≠k→LY.getD i l0T=d.ls.getD i l0T:=fun i hi=>by rw [hLY];simp only [List.getD_eq_getElem?_getD];rw [List.getElem?_set_ne (fun e=>hi e.symm)]
  have pX:∀i,i≠j→FX.getD i f0T=d.fs.getD i f0T:=fun i hi=>by rw [hFX];simp only [List.getD_eq_getElem?_getD];rw [List.getElem?_set_ne (fun e=>hi e.symm)]
  have kX:k<d.ls.length→LX.getD k l0T=wL a1 a2 (d.ls.getD k l0T):=fun hk=>by rw [hLX,List.getD_eq_getElem?_getD,List.getElem?_set_self hk];rfl
  have kY:k<d.ls.length→LY.getD k l0T=tL (d.ls.getD k l0T):=fun hk=>by rw [hLY,List.getD_eq_getElem?_getD,List.getElem?_set_self hk];rfl
  have jX:j<d.fs.length→FX.getD j f0T=wF d a3 a4 (d.fs.getD j f0T):=fun hk=>by rw [hFX,List.getD_eq_getElem?_getD,List.getElem?_set_self hk];rfl
  have hb1:0≤a1∧a1<4:=by subst ha1;exact⟨Int.tmod_nonneg _ hb.1,Int.tmod_lt_of_pos _ (by decide)⟩
  have hb2:0≤a2∧a2<4:=by subst ha2;exact⟨Int.tmod_nonneg _ (Int.tdiv_nonneg hb.1 (by decide)),Int.tmod_lt_of_pos _ (by decide)⟩
  have hb3:0≤a3∧a3<4:=by subst ha3;exact⟨Int.tmod_nonneg _ (Int.tdiv_nonneg hb.1 (by decide)),Int.tmod_lt_of_pos _ (by decide)⟩
  have hb4:0≤a4∧a4≤255:=by subst ha4;exact⟨Int.tdiv_nonneg hb.1 (by decide),Int.le_trans (Int.tdiv_le_self _ hb.1) hb.2⟩
  have hq4:0≤b.tdiv 4∧b.tdiv 4≤255:=⟨Int.tdiv_nonneg hb.1 (by decide),Int.le_trans (Int.tdiv_le_self _ hb.1) hb.2⟩
  have hq16:0≤b.tdiv 16∧b.tdiv 16≤255:=⟨Int.tdiv_nonneg hb.1 (by decide),Int.le_trans (Int.tdiv_le_self _ hb.1) hb.2⟩
  have hq64:0≤b.tdiv 64∧b.tdiv 64≤255:=⟨Int.tdiv_nonneg hb.1 (by decide),Int.le_trans (Int.tdiv_le_self _ hb.1) hb.2⟩
  have hlk:k<d.ls.length→ -2000≤(d.ls.getD k l0T).lo∧(d.ls.getD k l0T).lo≤(d.ls.getD k l0T).hi∧(d.ls.getD k l0T).hi≤2000:=fun h=>by have:=hd.l k h;unfold ubP at this;omega
  have tbd:=ulH hd.t
  have hfk:j<d.fs.length→d.tm.getD 0 0≤(d.fs.getD j f0T).ml∧(d.fs.getD j f0T).ml≤(d.fs.getD j f0T).mh∧(d.fs.getD j f0T).mh≤d.tm.getD (d.tm.length-1) 0:=fun h=>by have:=hd.f j h;unfold ubo at this;omega
  have c20y:=ufI (ugt d) h
  have c25:=ujC d.tm ⟨by omega,by omega⟩
  have c14:=ub5 d hth.1 (by omega) (by omega)
  have c14x:ua0 Try.prog 14 [(.agg [(iS d.tw),(iS d.tm),(.sl 1 (.sym fun _=>zi (d.tv).length) (fun ix=>[(.sl 1 (.sym fun _=>zi ((d.tv).getD ix.den.toNat []).length) (fun jx=>[(iv fun _=>((d.tv).getD ix.den.toNat []).getD jx.den.toNat 0)]))])),(iv fun _=>d.sn),(iv fun _=>d.pn),(.sl 4 (.sym fun _=>zi (LX).length) (fun ix=>[(iv fun _=>((LX).getD ix.den.toNat l0T).a),(iv fun _=>((LX).getD ix.den.toNat l0T).b),(iv fun _=>((LX).getD ix.den.toNat l0T).lo),(iv fun _=>((LX).getD ix.den.toNat l0T).hi)])),(.sl 6 (.sym fun _=>zi (FX).length) (fun ix=>[(iv fun _=>((FX).getD ix.den.toNat f0T).p),(iv fun _=>((FX).getD ix.den.toNat f0T).s),(iv fun _=>((FX).getD ix.den.toNat f0T).wl),(iv fun _=>((FX).getD ix.den.toNat f0T).wh),(iv fun _=>((FX).getD ix.den.toNat f0T).ml),(iv fun _=>((FX).getD ix.den.toNat f0T).mh)]))])] [] (fun r _=>r=(.agg [(iS d.tw),(iS d.tm),(.sl 1 (.sym fun _=>zi (d.tv).length) (fun ix=>[(.sl 1 (.sym fun _=>zi ((d.tv).getD ix.den.toNat []).length) (fun jx=>[(iv fun _=>((d.tv).getD ix.den.toNat []).getD jx.den.toNat 0)]))])),(iv fun _=>d.sn),(iv fun _=>d.pn),(.sl 4 (.sym fun _=>zi (LX).length) (fun ix=>[(iv fun _=>((LX).getD ix.den.toNat l0T).a),(iv fun _=>((LX).getD ix.den.toNat l0T).b),(iv fun _=>((LX).getD ix.den.toNat l0T).lo),(iv fun _=>((LX).getD ix.den.toNat l0T).hi)])),(.sl 6 (.sym fun _=>zi (FX).length) (fun ix=>[(iv fun _=>((FX).getD ix.den.toNat f0T).p),(iv fun _=>((FX).getD ix.den.toNat f0T).s),(iv fun _=>((FX).getD ix.den.toNat f0T).wl),(iv fun _=>((FX).getD ix.den.toNat f0T).wh),(iv fun _=>((FX).getD ix.den.toNat f0T).ml),(iv fun _=>((FX).getD ix.den.toNat f0T).mh)]))])):=by rw [hLX,hFX];exact ub5 (ub2 d k j a1 a2 a3 a4) hth.1 (by show(d.ls.set k _).length≤1000;rw [List.length_set];omega) (by show(d.fs.set j _).length≤1000;rw [List.length_set];omega)
  have c14y:ua0 Try.prog 14 [(.agg [(iS d.tw),(iS d.tm),(.sl 1 (.sym fun _=>zi (d.tv).length) (fun ix=>[(.sl 1 (.sym fun _=>zi ((d.tv).getD ix.den.toNat []).length) (fun jx=>[(iv fun _=>((d.tv).getD ix.den.toNat []).getD jx.den.toNat 0)]))])),(iv fun _=>d.sn),(iv fun _=>d.pn),(.sl 4 (.sym fun _=>zi (LY).length) (fun ix=>[(iv fun _=>((LY).getD ix.den.toNat l0T).a),(iv fun _=>((LY).getD ix.den.toNat l0T).b),(iv fun _=>((LY).getD ix.den.toNat l0T).lo),(iv fun _=>((LY).getD ix.den.toNat l0T).hi)])),(.sl 6 (.sym fun _=>zi (d.fs).length) (fun ix=>[(iv fun _=>((d.fs).getD ix.den.toNat f0T).p),(iv fun _=>((d.fs).getD ix.den.toNat f0T).s),(iv fun _=>((d.fs).getD ix.den.toNat f0T).wl),(iv fun _=>((d.fs).getD ix.den.toNat f0T).wh),(iv fun _=>((d.fs).getD ix.den.toNat f0T).ml),(iv fun _=>((d.fs).getD ix.den.toNat f0T).mh)]))])] [] (fun r _=>r=(.agg [(iS d.tw),(iS d.tm),(.sl 1 (.sym fun _=>zi (d.tv).length) (fun ix=>[(.sl 1 (.sym fun _=>zi ((d.tv).getD ix.den.toNat []).length) (fun jx=>[(iv fun _=>((d.tv).getD ix.den.toNat []).getD jx.den.toNat 0)]))])),(iv fun _=>d.sn),(iv fun _=>d.pn),(.sl 4 (.sym fun _=>zi (LY).length) (fun ix=>[(iv fun _=>((LY).getD ix.den.toNat l0T).a),(iv fun _=>((LY).getD ix.den.toNat l0T).b),(iv fun _=>((LY).getD ix.den.toNat l0T).lo),(iv fun _=>((LY).getD ix.den.toNat l0T).hi)])),(.sl 6 (.sym fun _=>zi (d.fs).length) (fun ix=>[(iv fun _=>((d.fs).getD ix.den.toNat f0T).p),(iv fun _=>((d.fs).getD ix.den.toNat f0T).s),(iv fun _=>((d.fs).getD ix.den.toNat f0T).wl),(iv fun _=>((d.fs).getD ix.den.toNat f0T).wh),(iv fun _=>((d.fs).getD ix.den.toNat f0T).ml),(iv fun _=>((d.fs).getD ix.den.toNat f0T).mh)]))])):=by rw [hLY];exact ub5 (ubr d k) hth.1 (by show(d.ls.set k _).length≤1000;rw [List.length_set];omega) (by show d.fs.length≤1000;omega)
  have c21:=ubi d
  have c21x:ua0 Try.prog 21 [(.agg [(iS d.tw),(iS d.tm),(.sl 1 (.sym fun _=>zi (d.tv).length) (fun ix=>[(.sl 1 (.sym fun _=>zi ((d.tv).getD ix.den.toNat []).length) (fun jx=>[(iv fun _=>((d.tv).getD ix.den.toNat []).getD jx.den.toNat 0)]))])),(iv fun _=>d.sn),(iv fun _=>d.pn),(.sl 4 (.sym fun _=>zi (LX).length) (fun ix=>[(iv fun _=>((LX).getD ix.den.toNat l0T).a),(iv fun _=>((LX).getD ix.den.toNat l0T).b),(iv fun _=>((LX).getD ix.den.toNat l0T).lo),(iv fun _=>((LX).getD ix.den.toNat l0T).hi)])),(.sl 6 (.sym fun _=>zi (FX).length) (fun ix=>[(iv fun _=>((FX).getD ix.den.toNat f0T).p),(iv fun _=>((FX).getD ix.den.toNat f0T).s),(iv fun _=>((FX).getD ix.den.toNat f0T).wl),(iv fun _=>((FX).getD ix.den.toNat f0T).wh),(iv fun _=>((FX).getD ix.den.toNat f0T).ml),(iv fun _=>((FX).getD ix.den.toNat f0T).mh)]))])] [] (fun r _=>r=(.tup [(.sl 2 (.sym fun _=>bndN X) (fun ix=>[(iv fun _=>loT X [] ix.den.toNat),(iv fun _=>hiT X [] ix.den.toNat)])),(iv fun _=>bndE X)])):=by rw [hLX,hFX,hX];exact ubi (ub2 d k j a1 a2 a3 a4)
  have c21y:ua0 Try.prog 21 [(.agg [(iS d.tw),(iS d.tm),(.sl 1 (.sym fun _=>zi (d.tv).length) (fun ix=>[(.sl 1 (.sym fun _=>zi ((d.tv).getD ix.den.toNat []).length) (fun jx=>[(iv fun _=>((d.tv).getD ix.den.toNat []).getD jx.den.toNat 0)]))])),(iv fun _=>d.sn),(iv fun _=>d.pn),(.sl 4 (.sym fun _=>zi (LY).length) (fun ix=>[(iv fun _=>((LY).getD ix.den.toNat l0T).a),(iv fun _=>((LY).getD ix.den.toNat l0T).b),(iv fun _=>((LY).getD ix.den.toNat l0T).lo),(iv fun _=>((LY).getD ix.den.toNat l0T).hi)])),(.sl 6 (.sym fun _=>zi (d.fs).length) (fun ix=>[(iv fun _=>((d.fs).getD ix.den.toNat f0T).p),(iv fun _=>((d.fs).getD ix.den.toNat f0T).s),(iv fun _=>((d.fs).getD ix.den.toNat f0T).wl),(iv fun _=>((d.fs).getD ix.den.toNat f0T).wh),(iv fun _=>((d.fs).getD ix.den.toNat f0T).ml),(iv fun _=>((d.fs).getD ix.den.toNat f0T).mh)]))])] [] (fun r _=>r=(.tup [(.sl 2 (.sym fun _=>bndN Y) (fun ix=>[(iv fun _=>loT Y [] ix.den.toNat),(iv fun _=>hiT Y [] ix.den.toNat)])),(iv fun _=>bndE Y)])):=by rw [hLY,hY];exact ubi (ubr d k)
  have c22:=ubG d
  have c22x:ua0 Try.prog 22 [(.agg [(iS d.tw),(iS d.tm),(.sl 1 (.sym fun _=>zi (d.tv).length) (fun ix=>[(.sl 1 (.sym fun _=>zi ((d.tv).getD ix.den.toNat []).length) (fun jx=>[(iv fun _=>((d.tv).getD ix.den.toNat []).getD jx.den.toNat 0)]))])),(iv fun _=>d.sn),(iv fun _=>d.pn),(.sl 4 (.sym fun _=>zi (LX).length) (fun ix=>[(iv fun _=>((LX).getD ix.den.toNat l0T).a),(iv fun _=>((LX).getD ix.den.toNat l0T).b),(iv fun _=>((LX).getD ix.den.toNat l0T).lo),(iv fun _=>((LX).getD ix.den.toNat l0T).hi)])),(.sl 6 (.sym fun _=>zi (FX).length) (fun ix=>[(iv fun _=>((FX).getD ix.den.toNat f0T).p),(iv fun _=>((FX).getD ix.den.toNat f0T).s),(iv fun _=>((FX).getD ix.den.toNat f0T).wl),(iv fun _=>((FX).getD ix.den.toNat f0T).wh),(iv fun _=>((FX).getD ix.den.toNat f0T).ml),(iv fun _=>((FX).getD ix.den.toNat f0T).mh)]))])] [] (fun r _=>r=(.tup [(iS ((leaL X))),(iv fun _=>ua4 X)])):=by rw [hLX,hFX,hX];exact ubG (ub2 d k j a1 a2 a3 a4)
  have c22y:ua0 Try.prog 22 [(.agg [(iS d.tw),(iS d.tm),(.sl 1 (.sym fun _=>zi (d.tv).length) (fun ix=>[(.sl 1 (.sym fun _=>zi ((d.tv).getD ix.den.toNat []).length) (fun jx=>[(iv fun _=>((d.tv).getD ix.den.toNat []).getD jx.den.toNat 0)]))])),(iv fun _=>d.sn),(iv fun _=>d.pn),(.sl 4 (.sym fun _=>zi (LY).length) (fun ix=>[(iv fun _=>((LY).getD ix.den.toNat l0T).a),(iv fun _=>((LY).getD ix.den.toNat l0T).b),(iv fun _=>((LY).getD ix.den.toNat l0T).lo),(iv fun _=>((LY).getD ix.den.toNat l0T).hi)])),(.sl 6 (.sym fun _=>zi (d.fs).length) (fun ix=>[(iv fun _=>((d.fs).getD ix.den.toNat f0T).p),(iv fun _=>((d.fs).getD ix.den.toNat f0T).s),(iv fun _=>((d.fs).getD ix.den.toNat f0T).wl),(iv fun _=>((d.fs).getD ix.den.toNat f0T).wh),(iv fun _=>((d.fs).getD ix.den.toNat f0T).ml),(iv fun _=>((d.fs).getD ix.den.toNat f0T).mh)]))])] [] (fun r _=>r=(.tup [(iS ((leaL Y))),(iv fun _=>ua4 Y)])):=by rw [hLY,hY];exact ubG (ubr d k)
  have lll:=ud8 d hF
  have c26:ua0 Try.prog 26 [(iS (leaL d)),(iS (leaL d))] [] (fun r _=>r = .bool (.lit true)):=ufI (uge (leaL d).length (leaL d).length (fun n=>(leaL d).getD n 0) (fun n=>(leaL d).getD n 0) (by omega) (by omega)) (ugF rfl fun _ _=>rfl)
  have tl:=ufP (k:=k) hF
  have tb:=ufQ (k:=k) hF
  rw [←hY]at tl tb
  rw [tl.1,tl.2]at c22y
  have hYs:Y.sn=d.sn:=by rw [hY];rfl
  clear hLX hLY hFX hY
  have b0:bndE d=0∨bndE d=11:=by
    cases hc:canT d d.fs []with
    |true=>exact .inl (ucf hF hc).1
    |false=>exact .inr (ueh hF hc).1
  have lx:(leaL X).length≤6:=by rw [hX];exact ud8 _ (ua2.2 (ufs hd hb1.1 hb2.1 hb3.1 hb4.1))
  have nY2:bndN Y=bndN d:=by unfold bndN;rw [tb.1,hYs]
  have c24:=fun q:bndE d=0=>ufS d.sn.toNat (loT d []) (hiT d []) (loT X []) (hiT X []) (by omega) (fun i hi=>by rw [hX];exact(udw hb1.1 hb2.1 hb3.1 hb4.1 q).2 i hi)
  have eqb:bndE d=0→∀s,s<d.sn.toNat→loT Y [] s=loT d [] s∧hiT Y [] s=hiT d [] s:=tb.2
  have h33:=uj8
  have hP:(bndE d=0∧ua4 d=0∧bndE X=0∧ua4 X=0∧(leaL X).length≤(leaL d).length∧bndN d=(d.sn.toNat:Int)∧bndN X=(d.sn.toNat:Int))∨(bndE d=11∧ua4 d=0∧ua4 X=0∧(leaL X).length≤(leaL d).length∧bndN d=0)∨(bndE d=11∧ua4 d=9∧bndN d=0):=by
    rcases b0 with q|q
    · have h9:ua4 d=0:=Classical.byContradiction fun h9=>by have:=(ueQ hF h9).1;omega
      have w1:=(udw (k:=k) (j:=j) hb1.1 hb2.1 hb3.1 hb4.1 q).1
      have w2:=ucE (k:=k) (j:=j) hb1.1 hb2.1 hb3.1 hb4.1 h9
      rw [←hX]at w1 w2
      have n1:=ufA q
      have n2:=ufA w1
      have e2:X.sn=d.sn:=by rw [hX];rfl
      rw [e2]at n2
      exact .inl ⟨q,h9,w1,w2.1,w2.2,n1,n2⟩
    · by_cases h9:ua4 d=0
      · have w2:=ucE (k:=k) (j:=j) hb1.1 hb2.1 hb3.1 hb4.1 h9
        rw [←hX]at w2
        exact .inr (.inl ⟨q,h9,w2.1,w2.2,ufF q⟩)
      · exact .inr (.inr ⟨q,uhQ hF h9,ufF q⟩)
  rw [tb.1,nY2]at c21y
  clear nY2 tl tb b0
  obtain⟨n,hnn⟩:∃n,n=bndN d:=⟨_,rfl⟩
  rw [←hnn]at c21 c21y hP
  obtain⟨nx,hnx⟩:∃n,n=bndN X:=⟨_,rfl⟩
  rw [←hnx]at c21x hP
  obtain⟨eD,heD⟩:∃n,n=bndE d:=⟨_,rfl⟩
  rw [←heD]at c21 c21y hP
  simp only [←heD]at eqb c24
  obtain⟨eX,heX⟩:∃n,n=bndE X:=⟨_,rfl⟩
  rw [←heX]at c21x hP
  obtain⟨fD,hfD⟩:∃n,n=ua4 d:=⟨_,rfl⟩
  rw [←hfD]at c22 c22y hP
  obtain⟨fX,hfX⟩:∃n,n=ua4 X:=⟨_,rfl⟩
  rw [←hfX]at c22x hP
  obtain⟨lD,hlD⟩:∃n,n=leaL d:=⟨_,rfl⟩
  rw [←hlD]at c22 c22y c26 hP lll
  obtain⟨lX,hlX⟩:∃n,n=leaL X:=⟨_,rfl⟩
  rw [←hlX]at c22x hP lx
  clear hnn hnx hX hYs heD heX hfD hfX hlD hlX
  have hk1:=(hk hn).1
  have hk2:=(hk hn).2
  have hl8:=hlk hk2
  have kX2:=kX hk2
  have kY2:=kY hk2
  clear hk hlk kX kY
  have hj1:=(hj hm).1
  have hj2:=(hj hm).2
  have hf8:=hfk hj2
  have jX2:=jX hj2
  clear hj hfk jX h hF hth hd
  refine ua0.is fun R hR=>qW (sc:=sc5b) tyok mix Try.func5 rfl Try.call5 (by kernel_rfl) (by kernel_rfl) ?_
  generalize Try.prog=P at c12 c20y c25 c14 c14x c14y c21 c21x c21y c22 c22x c22y c26 c24 h33⊢
  cbv
  repeat' (first
      | (refine ucT ?_ ?_ hk1
         try cbv)
      | (refine ucT ?_ ?_ hj1
         try cbv)
      | (refine ucT ?_ ?_ (show _=a1 from ha1)
         try cbv)
      | (refine ucT ?_ ?_ (show _=a2 from ha2)
         try cbv)
      | (refine ucT ?_ ?_ (show _=a3 from ha3)
         try cbv)
      |(with_reducible intro hcd;exfalso;(try simp only [zQ,zA,zB,zC,zD,zE,zF,zG,zH,zI,zJ,zK,zL,zM,zN,zO,zP,zR,zS]at hcd);omega)
      |with_reducible refine hold ?_ ?_
      |with_reducible refine And.intro ?_ ?_
      | (with_reducible refine qS ?_ ?_ ?_
         try cbv)
      |(with_reducible intro hcd;(try simp only [zA,zB,zC,zD,zE,zF,zG,zH,zI,zJ,zK,zL,zM,zN,zO,zP]at hcd);try cbv)
      | (refine qP ?_ (c20y) ?hfit
         case hfit=>((repeat' (first|exact qB|refine qD ?_ ?_|exact qE (by rfl)|exact qF (by rfl)|exact Fit.refl _|exact qA|refine qC ?_ rfl ?_));done)
         try cbv)
      | (refine qP ?_ (c25) ?hfit
         case hfit=>((repeat' (first|exact qB|refine qD ?_ ?_|exact qE (by rfl)|exact qF (by rfl)|exact Fit.refl _|exact qA|refine qC ?_ rfl ?_));done)
         try cbv)
      | (refine qP ?_ (c14) ?hfit
         case hfit=>((repeat' (first|exact qB|refine qD ?_ ?_|exact qE (by rfl)|exact qF (by rfl)|exact Fit.refl _|exact qA|refine qC ?_ rfl ?_));done)
         try cbv)
      | (refine qP ?_ (c21) ?hfit
         case hfit=>((repeat' (first|exact qB|refine qD ?_ ?_|exact qE (by rfl)|exact qF (by rfl)|exact Fit.refl _|exact qA|refine qC ?_ rfl ?_));done)
         try cbv)
      | (refine qP ?_ (c22) ?hfit
         case hfit=>((repeat' (first|exact qB|refine qD ?_ ?_|exact qE (by rfl)|exact qF (by rfl)|exact Fit.refl _|exact qA|refine qC ?_ rfl ?_));done)
         try cbv)
      | (refine qP ?_ (c26) ?hfit
         case hfit=>((repeat' (first|exact qB|refine qD ?_ ?_|exact qE (by rfl)|exact qF (by rfl)|exact Fit.refl _|exact qA|refine qC ?_ rfl ?_));done)
         try cbv)
      | (refine qP ?_ (c14x) ?hfit
         case hfit=>((refine qD (qC (Fit.refl _) rfl (qC (Fit.refl _) rfl (qC (Fit.refl _) rfl (qC (Fit.refl _) rfl (qC (Fit.refl _) rfl (qC ?_ rfl (qC ?_ rfl qA))))))) qB<;>first|exact Fit.refl _|(refine ua1 (by(try clear c12 c20y c25 c14 c14x c14y c21 c21x c21y c22 c22x c22y c26 c24 oX oY pX);(try simp only [qV]at *);(try simp only [zQ,zA,zB,zC,zD,zE,zF,zG,zH,zI,zJ,zK,zL,zM,zN,zO,zP,zR,zS]at *);omega) (fun ix h0 h1=> ?_);first|exact Fit.refl _|(exfalso;(try clear c12 c20y c25 c14 c14x c14y c21 c21x c21y c22 c22x c22y c26 c24 oX oY pX);(try simp only [qV]at *);(try simp only [zQ,zA,zB,zC,zD,zE,zF,zG,zH,zI,zJ,zK,zL,zM,zN,zO,zP,zR,zS]at *);omega)));done)
         try cbv)
      | (refine qP ?_ (c14y) ?hfit
         case hfit=>((refine qD (qC (Fit.refl _) rfl (qC (Fit.refl _) rfl (qC (Fit.refl _) rfl (qC (Fit.refl _) rfl (qC (Fit.refl _) rfl (qC ?_ rfl (qC ?_ rfl qA))))))) qB<;>first|exact Fit.refl _|(refine ua1 (by(try clear c12 c20y c25 c14 c14x c14y c21 c21x c21y c22 c22x c22y c26 c24 oX oY pX);(try simp only [qV]at *);(try simp only [zQ,zA,zB,zC,zD,zE,zF,zG,zH,zI,zJ,zK,zL,zM,zN,zO,zP,zR,zS]at *);omega) (fun ix h0 h1=> ?_);first|exact Fit.refl _|(exfalso;(try clear c12 c20y c25 c14 c14x c14y c21 c21x c21y c22 c22x c22y c26 c24 oX oY pX);(try simp only [qV]at *);(try simp only [zQ,zA,zB,zC,zD,zE,zF,zG,zH,zI,zJ,zK,zL,zM,zN,zO,zP,zR,zS]at *);omega)));done)
         try cbv)
      | (refine qP ?_ (c21x) ?hfit
         case hfit=>((repeat' (first|exact qB|refine qD ?_ ?_|exact qE (by rfl)|exact qF (by rfl)|exact Fit.refl _|exact qA|refine qC ?_ rfl ?_));done)
         try cbv)
      | (refine qP ?_ (c21y) ?hfit
         case hfit=>((repeat' (first|exact qB|refine qD ?_ ?_|exact qE (by rfl)|exact qF (by rfl)|exact Fit.refl _|exact qA|refine qC ?_ rfl ?_));done)
         try cbv)
      | (refine qP ?_ (c22x) ?hfit
         case hfit=>((repeat' (first|exact qB|refine qD ?_ ?_|exact qE (by rfl)|exact qF (by rfl)|exact Fit.refl _|exact qA|refine qC ?_ rfl ?_));done)
         try cbv)
      | (refine qP ?_ (c22y) ?hfit
         case hfit=>((repeat' (first|exact qB|refine qD ?_ ?_|exact qE (by rfl)|exact qF (by rfl)|exact Fit.refl _|exact qA|refine qC ?_ rfl ?_));done)
         try cbv)
      | (refine⟨fun ix=>[(iv fun _=>((LX).getD ix.den.toNat l0T).a),(iv fun _=>((LX).getD ix.den.toNat l0T).b),(iv fun _=>((LX).getD ix.den.toNat l0T).lo),(iv fun _=>((LX).getD ix.den.toNat l0T).hi)],?_⟩
         cbv
         refine hold (uaU (o2:=2) (by((try clear c12 c20y c25 c14 c14x c14y c21 c21x c21y c22 c22x c22y c26 c24 oX oY pX);(try simp only [qV]at *);(try simp only [zQ,zA,zB,zC,zD,zE,zF,zG,zH,zI,zJ,zK,zL,zM,zN,zO,zP,zR,zS]at *);omega)) (by intro jx h0 h1 h2;(have e:(LX).getD jx.den.toNat l0T=(d.ls).getD jx.den.toNat l0T:=oX jx.den.toNat (by((try clear c12 c20y c25 c14 c14x c14y c21 c21x c21y c22 c22x c22y c26 c24 oX oY pX);(try simp only [qV]at *);(try simp only [zQ,zA,zB,zC,zD,zE,zF,zG,zH,zI,zJ,zK,zL,zM,zN,zO,zP,zR,zS]at *);omega)));simp only [e];exact Fit.refl _) (by intro jx h0 h1 h2;refine⟨_,rfl,?_⟩;(have e:jx.den.toNat=k:=by((try clear c12 c20y c25 c14 c14x c14y c21 c21x c21y c22 c22x c22y c26 c24 oX oY pX);(try simp only [qV]at *);(try simp only [zQ,zA,zB,zC,zD,zE,zF,zG,zH,zI,zJ,zK,zL,zM,zN,zO,zP,zR,zS]at *);omega));(have e2:=kX2);simp only [e,e2,wL];exact(qC (qE (by first|rfl|((try clear c12 c20y c25 c14 c14x c14y c21 c21x c21y c22 c22x c22y c26 c24 oX oY pX);(try simp only [qV]at *);(try simp only [zQ,zA,zB,zC,zD,zE,zF,zG,zH,zI,zJ,zK,zL,zM,zN,zO,zP,zR,zS]at *);(try simp only [ubl,ubm,Int.toNat_zero]at *);first|rfl|omega))) rfl (qC (qE (by first|rfl|((try clear c12 c20y c25 c14 c14x c14y c21 c21x c21y c22 c22x c22y c26 c24 oX oY pX);(try simp only [qV]at *);(try simp only [zQ,zA,zB,zC,zD,zE,zF,zG,zH,zI,zJ,zK,zL,zM,zN,zO,zP,zR,zS]at *);(try simp only [ubl,ubm,Int.toNat_zero]at *);first|rfl|omega))) rfl (qC (qE (by first|rfl|((try clear c12 c20y c25 c14 c14x c14y c21 c21x c21y c22 c22x c22y c26 c24 oX oY pX);(try simp only [qV]at *);(try simp only [zQ,zA,zB,zC,zD,zE,zF,zG,zH,zI,zJ,zK,zL,zM,zN,zO,zP,zR,zS]at *);(try simp only [ubl,ubm,Int.toNat_zero]at *);first|rfl|omega))) rfl (qC (qE (by first|rfl|((try clear c12 c20y c25 c14 c14x c14y c21 c21x c21y c22 c22x c22y c26 c24 oX oY pX);(try simp only [qV]at *);(try simp only [zQ,zA,zB,zC,zD,zE,zF,zG,zH,zI,zJ,zK,zL,zM,zN,zO,zP,zR,zS]at *);(try simp only [ubl,ubm,Int.toNat_zero]at *);first|rfl|omega))) rfl qA)))))) ?_
         try cbv)
      | (refine⟨fun ix=>[(iv fun _=>((LY).getD ix.den.toNat l0T).a),(iv fun _=>((LY).getD ix.den.toNat l0T).b),(iv fun _=>((LY).getD ix.den.toNat l0T).lo),(iv fun _=>((LY).getD ix.den.toNat l0T).hi)],?_⟩
         cbv
         refine hold (uaU (o2:=0) (by((try clear c12 c20y c25 c14 c14x c14y c21 c21x c21y c22 c22x c22y c26 c24 oX oY pX);(try simp only [qV]at *);(try simp only [zQ,zA,zB,zC,zD,zE,zF,zG,zH,zI,zJ,zK,zL,zM,zN,zO,zP,zR,zS]at *);omega)) (by intro jx h0 h1 h2;(have e:(LY).getD jx.den.toNat l0T=(d.ls).getD jx.den.toNat l0T:=oY jx.den.toNat (by((try clear c12 c20y c25 c14 c14x c14y c21 c21x c21y c22 c22x c22y c26 c24 oX oY pX);(try simp only [qV]at *);(try simp only [zQ,zA,zB,zC,zD,zE,zF,zG,zH,zI,zJ,zK,zL,zM,zN,zO,zP,zR,zS]at *);omega)));simp only [e];exact Fit.refl _) (by intro jx h0 h1 h2;refine⟨_,rfl,?_⟩;(have e:jx.den.toNat=k:=by((try clear c12 c20y c25 c14 c14x c14y c21 c21x c21y c22 c22x c22y c26 c24 oX oY pX);(try simp only [qV]at *);(try simp only [zQ,zA,zB,zC,zD,zE,zF,zG,zH,zI,zJ,zK,zL,zM,zN,zO,zP,zR,zS]at *);omega));(have e2:=kY2);simp only [e,e2,tL];exact(qC (qE (by first|rfl|((try clear c12 c20y c25 c14 c14x c14y c21 c21x c21y c22 c22x c22y c26 c24 oX oY pX);(try simp only [qV]at *);(try simp only [zQ,zA,zB,zC,zD,zE,zF,zG,zH,zI,zJ,zK,zL,zM,zN,zO,zP,zR,zS]at *);(try simp only [ubl,ubm,Int.toNat_zero]at *);first|rfl|omega))) rfl (qC (qE (by first|rfl|((try clear c12 c20y c25 c14 c14x c14y c21 c21x c21y c22 c22x c22y c26 c24 oX oY pX);(try simp only [qV]at *);(try simp only [zQ,zA,zB,zC,zD,zE,zF,zG,zH,zI,zJ,zK,zL,zM,zN,zO,zP,zR,zS]at *);(try simp only [ubl,ubm,Int.toNat_zero]at *);first|rfl|omega))) rfl (qC (qE (by first|rfl|((try clear c12 c20y c25 c14 c14x c14y c21 c21x c21y c22 c22x c22y c26 c24 oX oY pX);(try simp only [qV]at *);(try simp only [zQ,zA,zB,zC,zD,zE,zF,zG,zH,zI,zJ,zK,zL,zM,zN,zO,zP,zR,zS]at *);(try simp only [ubl,ubm,Int.toNat_zero]at *);first|rfl|omega))) rfl (qC (qE (by first|rfl|((try clear c12 c20y c25 c14 c14x c14y c21 c21x c21y c22 c22x c22y c26 c24 oX oY pX);(try simp only [qV]at *);(try simp only [zQ,zA,zB,zC,zD,zE,zF,zG,zH,zI,zJ,zK,zL,zM,zN,zO,zP,zR,zS]at *);(try simp only [ubl,ubm,Int.toNat_zero]at *);first|rfl|omega))) rfl qA)))))) ?_
         try cbv)
      | (refine⟨fun ix=>[(iv fun _=>((FX).getD ix.den.toNat f0T).p),(iv fun _=>((FX).getD ix.den.toNat f0T).s),(iv fun _=>((FX).getD ix.den.toNat f0T).wl),(iv fun _=>((FX).getD ix.den.toNat f0T).wh),(iv fun _=>((FX).getD ix.den.toNat f0T).ml),(iv fun _=>((FX).getD ix.den.toNat f0T).mh)],?_⟩
         cbv
         refine hold (uaU (o2:=4) (by((try clear c12 c20y c25 c14 c14x c14y c21 c21x c21y c22 c22x c22y c26 c24 oX oY pX);(try simp only [qV]at *);(try simp only [zQ,zA,zB,zC,zD,zE,zF,zG,zH,zI,zJ,zK,zL,zM,zN,zO,zP,zR,zS]at *);omega)) (by intro jx h0 h1 h2;(have e:(FX).getD jx.den.toNat f0T=(d.fs).getD jx.den.toNat f0T:=pX jx.den.toNat (by((try clear c12 c20y c25 c14 c14x c14y c21 c21x c21y c22 c22x c22y c26 c24 oX oY pX);(try simp only [qV]at *);(try simp only [zQ,zA,zB,zC,zD,zE,zF,zG,zH,zI,zJ,zK,zL,zM,zN,zO,zP,zR,zS]at *);omega)));simp only [e];exact Fit.refl _) (by intro jx h0 h1 h2;refine⟨_,rfl,?_⟩;(have e:jx.den.toNat=j:=by((try clear c12 c20y c25 c14 c14x c14y c21 c21x c21y c22 c22x c22y c26 c24 oX oY pX);(try simp only [qV]at *);(try simp only [zQ,zA,zB,zC,zD,zE,zF,zG,zH,zI,zJ,zK,zL,zM,zN,zO,zP,zR,zS]at *);omega));(have e2:=jX2);simp only [e,e2,wF];exact(qC (qE (by first|rfl|((try clear c12 c20y c25 c14 c14x c14y c21 c21x c21y c22 c22x c22y c26 c24 oX oY pX);(try simp only [qV]at *);(try simp only [zQ,zA,zB,zC,zD,zE,zF,zG,zH,zI,zJ,zK,zL,zM,zN,zO,zP,zR,zS]at *);(try simp only [ubl,ubm,Int.toNat_zero]at *);first|rfl|omega))) rfl (qC (qE (by first|rfl|((try clear c12 c20y c25 c14 c14x c14y c21 c21x c21y c22 c22x c22y c26 c24 oX oY pX);(try simp only [qV]at *);(try simp only [zQ,zA,zB,zC,zD,zE,zF,zG,zH,zI,zJ,zK,zL,zM,zN,zO,zP,zR,zS]at *);(try simp only [ubl,ubm,Int.toNat_zero]at *);first|rfl|omega))) rfl (qC (qE (by first|rfl|((try clear c12 c20y c25 c14 c14x c14y c21 c21x c21y c22 c22x c22y c26 c24 oX oY pX);(try simp only [qV]at *);(try simp only [zQ,zA,zB,zC,zD,zE,zF,zG,zH,zI,zJ,zK,zL,zM,zN,zO,zP,zR,zS]at *);(try simp only [ubl,ubm,Int.toNat_zero]at *);first|rfl|omega))) rfl (qC (qE (by first|rfl|((try clear c12 c20y c25 c14 c14x c14y c21 c21x c21y c22 c22x c22y c26 c24 oX oY pX);(try simp only [qV]at *);(try simp only [zQ,zA,zB,zC,zD,zE,zF,zG,zH,zI,zJ,zK,zL,zM,zN,zO,zP,zR,zS]at *);(try simp only [ubl,ubm,Int.toNat_zero]at *);first|rfl|omega))) rfl (qC (qE (by first|rfl|((try clear c12 c20y c25 c14 c14x c14y c21 c21x c21y c22 c22x c22y c26 c24 oX oY pX);(try simp only [qV]at *);(try simp only [zQ,zA,zB,zC,zD,zE,zF,zG,zH,zI,zJ,zK,zL,zM,zN,zO,zP,zR,zS]at *);(try simp only [ubl,ubm,Int.toNat_zero]at *);first|rfl|omega))) rfl (qC (qE (by first|rfl|((try clear c12 c20y c25 c14 c14x c14y c21 c21x c21y c22 c22x c22y c26 c24 oX oY pX);(try simp only [qV]at *);(try simp only [zQ,zA,zB,zC,zD,zE,zF,zG,zH,zI,zJ,zK,zL,zM,zN,zO,zP,zR,zS]at *);(try simp only [ubl,ubm,Int.toNat_zero]at *);first|rfl|omega))) rfl qA)))))))) ?_
         try cbv)
      | (refine Exists.intro (α:=List Nat) [14,18,26] ?_
         cbv
         fail_if_success (show False))
      |fail)
  all_goals first
    |((try clear c20y);(try clear c25);(try clear c14);(try clear c14x);(try clear c14y);(try clear c21);(try clear c21x);(try clear c21y);(try clear c22);(try clear c22x);(try clear c22y);(try clear c26);(try clear c24);(try clear c12);((try simp only [qV]at *);(try simp only [zQ,zA,zB,zC,zD,zE,zF,zG,zH,zI,zJ,zK,zL,zM,zN,zO,zP,zR,zS]at *);first|(refine qN ?_;omega)|(simp only [Hold];omega)))
    |((try clear c20y);(try clear c25);(try clear c14);(try clear c14x);(try clear c14y);(try clear c21);(try clear c21x);(try clear c21y);(try clear c22);(try clear c22x);(try clear c22y);(try clear c26);(try clear c24);(try clear c12);(exfalso;exact(by assumption:¬True) True.intro))
    |skip
  all_goals (
    have hQ:(eD=0∧n=(d.sn.toNat:Int)∧nx=(d.sn.toNat:Int))∨(eD=11∧n=0):=by
      rcases hP with⟨p1,_,_,_,_,p2,p3⟩|⟨p1,_,_,_,p2⟩|⟨p1,_,p2⟩
      · exact .inl ⟨p1,p2,p3⟩
      · exact .inr ⟨p1,p2⟩
      · exact .inr ⟨p1,p2⟩
    have hs3:d.sn.toNat≤3:=by omega
    clear hP
    (try clear nX);(try clear nY);(try clear mX);(try clear oX);(try clear oY);(try clear pX);(try clear hb1);(try clear hb2);(try clear hb3);(try clear hb4);(try clear hq4);(try clear hq16);(try clear hq64);(try clear tbd);(try clear hk1);(try clear hl8);(try clear kX2);(try clear kY2);(try clear hj1);(try clear hf8);(try clear jX2);(try clear c20y);(try clear c25);(try clear c14);(try clear c14x);(try clear c14y);(try clear c21);(try clear c21x);(try clear c21y);(try clear c22);(try clear c22x);(try clear c22y);(try clear c26);(try clear ha1);(try clear ha2);(try clear ha3);(try clear ha4);(try clear hw);(try clear hb);(try clear hz);(try clear f6);(try clear l4);(try clear hm2);(try clear hm5)
    rcases hQ with⟨hQ1,hQ2,hQ3⟩|⟨hQ1,hQ2⟩<;>first
    |(exfalso;omega)
    |skip
    all_goals (
      refine⟨none,[],{s:Nat // s=0∨(s:Int)≤n},fun x=>⟨[(14,(.sl 2 (.sym fun _=>n) (fun ix=>[(iv fun _=>loT d [] ix.den.toNat),(iv fun _=>hiT d [] ix.den.toNat)]))),(15,(iv fun _=>eD)),(16,(.sl 2 (.sym fun _=>nx) (fun ix=>[(iv fun _=>loT X [] ix.den.toNat),(iv fun _=>hiT X [] ix.den.toNat)]))),(18,(.sl 2 (.sym fun _=>n) (fun ix=>[(iv fun _=>loT Y [] ix.den.toNat),(iv fun _=>hiT Y [] ix.den.toNat)]))),(26,(iv fun _=>zi x.1))],[],400⟩,fun x=>n.toNat-x.1,?_,?_⟩
      · refine⟨⟨0,.inl rfl⟩,?_⟩
        cbv
        repeat' (first
          |with_reducible refine hold ?_ ?_
          |with_reducible refine And.intro ?_ ?_)
        all_goals first
          |exact True.intro
          |exact qM (qE (by rfl))
          |exact qM (Fit.refl _)
          |skip
      · rintro ⟨s,hs⟩
        cbv
        cbv
        repeat' (first
            |(with_reducible intro hcd;exfalso;(try simp only [zQ,zA,zB,zC,zD,zE,zF,zG,zH,zI,zJ,zK,zL,zM,zN,zO,zP,zR,zS]at hcd);omega)
            |with_reducible refine hold ?_ ?_
            |with_reducible refine And.intro ?_ ?_
            |(with_reducible intro hcd;(try simp only [zA,zB,zC,zD,zE,zF,zG,zH,zI,zJ,zK,zL,zM,zN,zO,zP]at hcd);try cbv)
            | (refine qP ?_ (c12) ?hfit
               case hfit=>((repeat' (first|exact qB|refine qD ?_ ?_|exact qE (by rfl)|exact qF (by rfl)|exact Fit.refl _|exact qA|refine qC ?_ rfl ?_));done)
               try cbv)
            | (refine qP ?_ (c24 hQ1) ?hfit
               case hfit=>((refine qD (ua1 (by(try clear c12 c20y c25 c14 c14x c14y c21 c21x c21y c22 c22x c22y c26 c24 oX oY pX);(try simp only [qV]at *);(try simp only [zQ,zA,zB,zC,zD,zE,zF,zG,zH,zI,zJ,zK,zL,zM,zN,zO,zP,zR,zS]at *);omega) (fun _ _ _=>Fit.refl _)) (qD (ua1 (by(try clear c12 c20y c25 c14 c14x c14y c21 c21x c21y c22 c22x c22y c26 c24 oX oY pX);(try simp only [qV]at *);(try simp only [zQ,zA,zB,zC,zD,zE,zF,zG,zH,zI,zJ,zK,zL,zM,zN,zO,zP,zR,zS]at *);omega) (fun _ _ _=>Fit.refl _)) qB));done)
               try cbv)
            |fail)
        all_goals first
          |(with_reducible refine ulm h33 ?_ ?_)<;>simp only [List.length_cons,List.length_nil]
          |(subst hR;exact Fit.refl _)
          |((try clear c12);(try clear c24);(try clear eqb);(refine qN ?_);(try clear c12 c20y c25 c14 c14x c14y c21 c21x c21y c22 c22x c22y c26 c24 oX oY pX);(try simp only [qV]at *);(try simp only [zQ,zA,zB,zC,zD,zE,zF,zG,zH,zI,zJ,zK,zL,zM,zN,zO,zP,zR,zS]at *);omega)
          |(exfalso;(have q9:=eqb hQ1 s (by(try clear c12);(try clear c24);(try clear eqb);(try clear c12 c20y c25 c14 c14x c14y c21 c21x c21y c22 c22x c22y c26 c24 oX oY pX);(try simp only [qV]at *);(try simp only [zQ,zA,zB,zC,zD,zE,zF,zG,zH,zI,zJ,zK,zL,zM,zN,zO,zP,zR,zS]at *);omega));exact unc (by assumption) ⟨q9.1.symm,q9.2.symm⟩)
          |((try clear c12);(try clear c24);(try clear eqb);(simp only [Hold]);(try clear c12 c20y c25 c14 c14x c14y c21 c21x c21y c22 c22x c22y c26 c24 oX oY pX);(try simp only [qV]at *);(try simp only [zQ,zA,zB,zC,zD,zE,zF,zG,zH,zI,zJ,zK,zL,zM,zN,zO,zP,zR,zS]at *);exact⟨by omega,by omega⟩)
          |((try clear c12);(try clear c24);(try clear eqb);((try simp only [zQ,zA,zB,zC,zD,zE,zF,zG,zH,zI,zJ,zK,zL,zM,zN,zO,zP,zR,zS]at *);refine⟨⟨s+1,by((try clear c12 c20y c25 c14 c14x c14y c21 c21x c21y c22 c22x c22y c26 c24 oX oY pX);(try simp only [qV]at *);(try simp only [zQ,zA,zB,zC,zD,zE,zF,zG,zH,zI,zJ,zK,zL,zM,zN,zO,zP,zR,zS]at *);omega)⟩,by simp only [];omega,?_⟩;cbv;(repeat' (first|with_reducible refine hold ?_ ?_|with_reducible refine And.intro ?_ ?_));(all_goals first|exact True.intro|exact qM (qE (by rfl))|exact qM (qF (by rfl))|exact qM (Fit.refl _)|exact qL (qK _)|(refine qM (qE ?_);(try simp only [qV]at *);simp only [zQ,zA,zB,zC,zD,zE,zF,zG,zH,zI,zJ,zK,zL,zM,zN,zO,zP,zR,zS]at *;omega)|skip)))
          |skip))
end Go.Proofs.Ytkdggbfknlcdaaa

namespace Go.Proofs.Ytkdggbfknlcdaaa
open Go Go.Eng Go.Proofs Go.Eng.Dif Go.Eng.Few
set_option maxRecDepth 10000
set_option maxRecDepth 100000 in
set_option maxHeartbeats 20000000 in
theorem uvk (d:Dsp)(w b:Int)(hw:0≤w∧w≤255)(hb:0≤b∧b≤255)(hz:d.fs.length*48≤140737488351232)(h:udU d=true)(hn:d.ls.length=0)(hm:0<d.fs.length)(k j:Nat)(a1 a2 a3 a4:Int)(ha1:b.tmod 4=a1)(ha2:(b.tdiv 4).tmod 4=a2)(ha3:(b.tdiv 16).tmod 4=a3)(ha4:b.tdiv 64=a4)(hk:0<d.ls.length→w.tmod (zi d.ls.length)=zi k∧k<d.ls.length)(hj:0<d.fs.length→w.tmod (zi d.fs.length)=zi j∧j<d.fs.length)(LX LY:List LkT)(FX:List FaT)(X Y:Dsp)(hLX:LX=d.ls.set k (wL a1 a2 (d.ls.getD k l0T)))(hLY:LY=d.ls.set k (tL (d.ls.getD k l0T)))(hFX:FX=d.fs.set j (wF d a3 a4 (d.fs.getD j f0T)))(hX:X=ub2 d k j a1 a2 a3 a4)(hY:Y=ubr d k):ua0 Try.prog 5 [(dspS d),(.int .u8 (.sym fun _=>w)),(.int .u8 (.sym fun _=>b))] [] (fun r _=>r=(.bool (.lit true))):=by
  have c12:=ug9
  have hth:=uhF.1 (ucG.1 h).1
  have hF:=(ucG.1 h).2
  have hd:=ua2.1 hF
  have f6:=hd.f6
  have l4:=hd.l4
  have s1:=hd.s1
  have s3:=hd.s3
  have hm2:=hd.t.m2
  have hm5:=hd.t.m5
  have nX:LX.length=d.ls.length:=by rw [hLX,List.length_set]
  have nY:LY.length=d.ls.length:=by rw [hLY,List.length_set]
  have mX:FX.length=d.fs.length:=by rw [hFX,List.length_set]
  have oX:∀i,i≠k→LX.getD i l0T=d.ls.getD i l0T:=fun i hi=>by rw [hLX];simp only [List.getD_eq_getElem?_getD];rw [List.getElem?_set_ne (fun e=>hi e.symm)]
  have oY:∀i,i≠k→LY.getD i l0T=d.ls.getD i l0T:=fun i hi=>by rw [hLY];simp only [List.getD_eq_getElem?_getD];rw [List.getElem?_set_ne (fun e=>hi e.symm)]
  have pX:∀i,i≠j→FX.getD i f0T=d.fs.getD i f0T:=fun i hi=>by rw [hFX];simp only [List.getD_eq_getElem?_getD];rw [List.getElem?_set_ne (fun e=>hi e.symm)]
  have kX:k<d.ls.length→LX.getD k l0T=wL a1 a2 (d.ls.getD k l0T):=fun hk=>by rw [hLX,List.getD_eq_getElem?_getD,List.getElem?_set_self hk];rfl
  have kY:k<d.ls.length→LY.getD k l0T=tL (d.ls.getD k l0T):=fun hk=>by rw [hLY,List.getD_eq_getElem?_getD,List.getElem?_set_self hk];rfl
  have jX:j<d.fs.length→FX.getD j f0T=wF d a3 a4 (d.fs.getD j f0T):=fun hk=>by rw [hFX,List.getD_eq_getElem?_getD,List.getElem?_set_self hk];rfl
  have hb1:0≤a1∧a1<4:=by subst ha1;exact⟨Int.tmod_nonneg _ hb.1,Int.tmod_lt_of_pos _ (by decide)⟩
  have hb2:0≤a2∧a2<4:=by subst ha2;exact⟨Int.tmod_nonneg _ (Int.tdiv_nonneg hb.1 (by decide)),Int.tmod_lt_of_pos _ (by decide)⟩
  have hb3:0≤a3∧a3<4:=by subst ha3;exact⟨Int.tmod_nonneg _ (Int.tdiv_nonneg hb.1 (by decide)),Int.tmod_lt_of_pos _ (by decide)⟩
  have hb4:0≤a4∧a4≤255:=by subst ha4;exact⟨Int.tdiv_nonneg hb.1 (by decide),Int.le_trans (Int.tdiv_le_self _ hb.1) hb.2⟩
  have hq4:0≤b.tdiv 4∧b.tdiv 4≤255:=⟨Int.tdiv_nonneg hb.1 (by decide),Int.le_trans (Int.tdiv_le_self _ hb.1) hb.2⟩
  have hq16:0≤b.tdiv 16∧b.tdiv 16≤255:=⟨Int.tdiv_nonneg hb.1 (by decide),Int.le_trans (Int.tdiv_le_self _ hb.1) hb.2⟩
  have hq64:0≤b.tdiv 64∧b.tdiv 64≤255:=⟨Int.tdiv_nonneg hb.1 (by decide),Int.le_trans (Int.tdiv_le_self _ hb.1) hb.2⟩
  have hlk:k<d.ls.length→ -2000≤(d.ls.getD k l0T).lo∧(d.ls.getD k l0T).lo≤(d.ls.getD k l0T).hi∧(d.ls.getD k l0T).hi≤2000:=fun h=>by have:=hd.l k h;unfold ubP at this;omega
  have tbd:=ulH hd.t
  have hfk:j<d.fs.length→d.tm.getD 0 0≤(d.fs.getD j f0T).ml∧(d.fs.getD j f0T).ml≤(d.fs.getD j f0T).mh∧(d.fs.getD j f0T).mh≤d.tm.getD (d.tm.length-1) 0:=fun h=>by have:=hd.f j h;unfold ubo at this;omega
  have c20y:=ufI (ugt d) h
  have c25:=ujC d.tm ⟨by omega,by omega⟩
  have c14:=ub5 d hth.1 (by omega) (by omega)
  have c14x:ua0 Try.prog 14 [(.agg [(iS d.tw),(iS d.tm),(.sl 1 (.sym fun _=>zi (d.tv).length) (fun ix=>[(.sl 1 (.sym fun _=>zi ((d.tv).getD ix.den.toNat []).length) (fun jx=>[(iv fun _=>((d.tv).getD ix.den.toNat []).getD jx.den.toNat 0)]))])),(iv fun _=>d.sn),(iv fun _=>d.pn),(.sl 4 (.sym fun _=>zi (LX).length) (fun ix=>[(iv fun _=>((LX).getD ix.den.toNat l0T).a),(iv fun _=>((LX).getD ix.den.toNat l0T).b),(iv fun _=>((LX).getD ix.den.toNat l0T).lo),(iv fun _=>((LX).getD ix.den.toNat l0T).hi)])),(.sl 6 (.sym fun _=>zi (FX).length) (fun ix=>[(iv fun _=>((FX).getD ix.den.toNat f0T).p),(iv fun _=>((FX).getD ix.den.toNat f0T).s),(iv fun _=>((FX).getD ix.den.toNat f0T).wl),(iv fun _=>((FX).getD ix.den.toNat f0T).wh),(iv fun _=>((FX).getD ix.den.toNat f0T).ml),(iv fun _=>((FX).getD ix.den.toNat f0T).mh)]))])] [] (fun r _=>r=(.agg [(iS d.tw),(iS d.tm),(.sl 1 (.sym fun _=>zi (d.tv).length) (fun ix=>[(.sl 1 (.sym fun _=>zi ((d.tv).getD ix.den.toNat []).length) (fun jx=>[(iv fun _=>((d.tv).getD ix.den.toNat []).getD jx.den.toNat 0)]))])),(iv fun _=>d.sn),(iv fun _=>d.pn),(.sl 4 (.sym fun _=>zi (LX).length) (fun ix=>[(iv fun _=>((LX).getD ix.den.toNat l0T).a),(iv fun _=>((LX).getD ix.den.toNat l0T).b),(iv fun _=>((LX).getD ix.den.toNat l0T).lo),(iv fun _=>((LX).getD ix.den.toNat l0T).hi)])),(.sl 6 (.sym fun _=>zi (FX).length) (fun ix=>[(iv fun _=>((FX).getD ix.den.toNat f0T).p),(iv fun _=>((FX).getD ix.den.toNat f0T).s),(iv fun _=>((FX).getD ix.den.toNat f0T).wl),(iv fun _=>((FX).getD ix.den.toNat f0T).wh),(iv fun _=>((FX).getD ix.den.toNat f0T).ml),(iv fun _=>((FX).getD ix.den.toNat f0T).mh)]))])):=by rw [hLX,hFX];exact ub5 (ub2 d k j a1 a2 a3 a4) hth.1 (by show(d.ls.set k _).length≤1000;rw [List.length_set];omega) (by show(d.fs.set j _).length≤1000;rw [List.length_set];omega)
  have c14y:ua0 Try.prog 14 [(.agg [(iS d.tw),(iS d.tm),(.sl 1 (.sym fun _=>zi (d.tv).length) (fun ix=>[(.sl 1 (.sym fun _=>zi ((d.tv).getD ix.den.toNat []).length) (fun jx=>[(iv fun _=>((d.tv).getD ix.den.toNat []).getD jx.den.toNat 0)]))])),(iv fun _=>d.sn),(iv fun _=>d.pn),(.sl 4 (.sym fun _=>zi (LY).length) (fun ix=>[(iv fun _=>((LY).getD ix.den.toNat l0T).a),(iv fun _=>((LY).getD ix.den.toNat l0T).b),(iv fun _=>((LY).getD ix.den.toNat l0T).lo),(iv fun _=>((LY).getD ix.den.toNat l0T).hi)])),(.sl 6 (.sym fun _=>zi (d.fs).length) (fun ix=>[(iv fun _=>((d.fs).getD ix.den.toNat f0T).p),(iv fun _=>((d.fs).getD ix.den.toNat f0T).s),(iv fun _=>((d.fs).getD ix.den.toNat f0T).wl),(iv fun _=>((d.fs).getD ix.den.toNat f0T).wh),(iv fun _=>((d.fs).getD ix.den.toNat f0T).ml),(iv fun _=>((d.fs).getD ix.den.toNat f0T).mh)]))])] [] (fun r _=>r=(.agg [(iS d.tw),(iS d.tm),(.sl 1 (.sym fun _=>zi (d.tv).length) (fun ix=>[(.sl 1 (.sym fun _=>zi ((d.tv).getD ix.den.toNat []).length) (fun jx=>[(iv fun _=>((d.tv).getD ix.den.toNat []).getD jx.den.toNat 0)]))])),(iv fun _=>d.sn),(iv fun _=>d.pn),(.sl 4 (.sym fun _=>zi (LY).length) (fun ix=>[(iv fun _=>((LY).getD ix.den.toNat l0T).a),(iv fun _=>((LY).getD ix.den.toNat l0T).b),(iv fun _=>((LY).getD ix.den.toNat l0T).lo),(iv fun _=>((LY).getD ix.den.toNat l0T).hi)])),(.sl 6 (.sym fun _=>zi (d.fs).length) (fun ix=>[(iv fun _=>((d.fs).getD ix.den.toNat f0T).p),(iv fun _=>((d.fs).getD ix.den.toNat f0T).s),(iv fun _=>((d.fs).getD ix.den.toNat f0T).wl),(iv fun _=>((d.fs).getD ix.den.toNat f0T).wh),(iv fun _=>((d.fs).getD ix.den.toNat f0T).ml),(iv fun _=>((d.fs).getD ix.den.toNat f0T).mh)]))])):=by rw [hLY];exact ub5 (ubr d k) hth.1 (by show(d.ls.set k _).length≤1000;rw [List.length_set];omega) (by show d.fs.length≤1000;omega)
  have c21:=ubi d
  have c21x:ua0 Try.prog 21 [(.agg [(iS d.tw),(iS d.tm),(.sl 1 (.sym fun _=>zi (d.tv).length) (fun ix=>[(.sl 1 (.sym fun _=>zi ((d.tv).getD ix.den.toNat []).length) (fun jx=>[(iv fun _=>((d.tv).getD ix.den.toNat []).getD jx.den.toNat 0)]))])),(iv fun _=>d.sn),(iv fun _=>d.pn),(.sl 4 (.sym fun _=>zi (LX).length) (fun ix=>[(iv fun _=>((LX).getD ix.den.toNat l0T).a),(iv fun _=>((LX).getD ix.den.toNat l0T).b),(iv fun _=>((LX).getD ix.den.toNat l0T).lo),(iv fun _=>((LX).getD ix.den.toNat l0T).hi)])),(.sl 6 (.sym fun _=>zi (FX).length) (fun ix=>[(iv fun _=>((FX).getD ix.den.toNat f0T).p),(iv fun _=>((FX).getD ix.den.toNat f0T).s),(iv fun _=>((FX).getD ix.den.toNat f0T).wl),(iv fun _=>((FX).getD ix.den.toNat f0T).wh),(iv fun _=>((FX).getD ix.den.toNat f0T).ml),(iv fun _=>((FX).getD ix.den.toNat f0T).mh)]))])] [] (fun r _=>r=(.tup [(.sl 2 (.sym fun _=>bndN X) (fun ix=>[(iv fun _=>loT X [] ix.den.toNat),(iv fun _=>hiT X [] ix.den.toNat)])),(iv fun _=>bndE X)])):=by rw [hLX,hFX,hX];exact ubi (ub2 d k j a1 a2 a3 a4)
  have c21y:ua0 Try.prog 21 [(.agg [(iS d.tw),(iS d.tm),(.sl 1 (.sym fun _=>zi (d.tv).length) (fun ix=>[(.sl 1 (.sym fun _=>zi ((d.tv).getD ix.den.toNat []).length) (fun jx=>[(iv fun _=>((d.tv).getD ix.den.toNat []).getD jx.den.toNat 0)]))])),(iv fun _=>d.sn),(iv fun _=>d.pn),(.sl 4 (.sym fun _=>zi (LY).length) (fun ix=>[(iv fun _=>((LY).getD ix.den.toNat l0T).a),(iv fun _=>((LY).getD ix.den.toNat l0T).b),(iv fun _=>((LY).getD ix.den.toNat l0T).lo),(iv fun _=>((LY).getD ix.den.toNat l0T).hi)])),(.sl 6 (.sym fun _=>zi (d.fs).length) (fun ix=>[(iv fun _=>((d.fs).getD ix.den.toNat f0T).p),(iv fun _=>((d.fs).getD ix.den.toNat f0T).s),(iv fun _=>((d.fs).getD ix.den.toNat f0T).wl),(iv fun _=>((d.fs).getD ix.den.toNat f0T).wh),(iv fun _=>((d.fs).getD ix.den.toNat f0T).ml),(iv fun _=>((d.fs).getD ix.den.toNat f0T).mh)]))])] [] (fun r _=>r=(.tup [(.sl 2 (.sym fun _=>bndN Y) (fun ix=>[(iv fun _=>loT Y [] ix.den.toNat),(iv fun _=>hiT Y [] ix.den.toNat)])),(iv fun _=>bndE Y)])):=by rw [hLY,hY];exact ubi (ubr d k)
  have c22:=ubG d
  have c22x:ua0 Try.prog 22 [(.agg [(iS d.tw),(iS d.tm),(.sl 1 (.sym fun _=>zi (d.tv).length) (fun ix=>[(.sl 1 (.sym fun _=>zi ((d.tv).getD ix.den.toNat []).length) (fun jx=>[(iv fun _=>((d.tv).getD ix.den.toNat []).getD jx.den.toNat 0)]))])),(iv fun _=>d.sn),(iv fun _=>d.pn),(.sl 4 (.sym fun _=>zi (LX).length) (fun ix=>[(iv fun _=>((LX).getD ix.den.toNat l0T).a),(iv fun _=>((LX).getD ix.den.toNat l0T).b),(iv fun _=>((LX).getD ix.den.toNat l0T).lo),(iv fun _=>((LX).getD ix.den.toNat l0T).hi)])),(.sl 6 (.sym fun _=>zi (FX).length) (fun ix=>[(iv fun _=>((FX).getD ix.den.toNat f0T).p),(iv fun _=>((FX).getD ix.den.toNat f0T).s),(iv fun _=>((FX).getD ix.den.toNat f0T).wl),(iv fun _=>((FX).getD ix.den.toNat f0T).wh),(iv fun _=>((FX).getD ix.den.toNat f0T).ml),(iv fun _=>((FX).getD ix.den.toNat f0T).mh)]))])] [] (fun r _=>r=(.tup [(iS ((leaL X))),(iv fun _=>ua4 X)])):=by rw [hLX,hFX,hX];exact ubG (ub2 d k j a1 a2 a3 a4)
  have c22y:ua0 Try.prog 22 [(.agg [(iS d.tw),(iS d.tm),(.sl 1 (.sym fun _=>zi (d.tv).length) (fun ix=>[(.sl 1 (.sym fun _=>zi ((d.tv).getD ix.den.toNat []).length) (fun jx=>[(iv fun _=>((d.tv).getD ix.den.toNat []).getD jx.den.toNat 0)]))])),(iv fun _=>d.sn),(iv fun _=>d.pn),(.sl 4 (.sym fun _=>zi (LY).length) (fun ix=>[(iv fun _=>((LY).getD ix.den.toNat l0T).a),(iv fun _=>((LY).getD ix.den.toNat l0T).b),(iv fun _=>((LY).getD ix.den.toNat l0T).lo),(iv fun _=>((LY).getD ix.den.toNat l0T).hi)])),(.sl 6 (.sym fun _=>zi (d.fs).length) (fun ix=>[(iv fun _=>((d.fs).getD ix.den.toNat f0T).p),(iv fun _=>((d.fs).getD ix.den.toNat f0T).s),(iv fun _=>((d.fs).getD ix.den.toNat f0T).wl),(iv fun _=>((d.fs).getD ix.den.toNat f0T).wh),(iv fun _=>((d.fs).getD ix.den.toNat f0T).ml),(iv fun _=>((d.fs).getD ix.den.toNat f0T).mh)]))])] [] (fun r _=>r=(.tup [(iS ((leaL Y))),(iv fun _=>ua4 Y)])):=by rw [hLY,hY];exact ubG (ubr d k)
  have lll:=ud8 d hF
  have c26:ua0 Try.prog 26 [(iS (leaL d)),(iS (leaL d))] [] (fun r _=>r = .bool (.lit true)):=ufI (uge (leaL d).length (leaL d).length (fun n=>(leaL d).getD n 0) (fun n=>(leaL d).getD n 0) (by omega) (by omega)) (ugF rfl fun _ _=>rfl)
  have tl:=ufP (k:=k) hF
  have tb:=ufQ (k:=k) hF
  rw [←hY]at tl tb
  rw [tl.1,tl.2]at c22y
  have hYs:Y.sn=d.sn:=by rw [hY];rfl
  clear hLX hLY hFX hY
  have b0:bndE d=0∨bndE d=11:=by
    cases hc:canT d d.fs []with
    |true=>exact .inl (ucf hF hc).1
    |false=>exact .inr (ueh hF hc).1
  have lx:(leaL X).length≤6:=by rw [hX];exact ud8 _ (ua2.2 (ufs hd hb1.1 hb2.1 hb3.1 hb4.1))
  have nY2:bndN Y=bndN d:=by unfold bndN;rw [tb.1,hYs]
  have c24:=fun q:bndE d=0=>ufS d.sn.toNat (loT d []) (hiT d []) (loT X []) (hiT X []) (by omega) (fun i hi=>by rw [hX];exact(udw hb1.1 hb2.1 hb3.1 hb4.1 q).2 i hi)
  have eqb:bndE d=0→∀s,s<d.sn.toNat→loT Y [] s=loT d [] s∧hiT Y [] s=hiT d [] s:=tb.2
  have h33:=uj8
  have hP:(bndE d=0∧ua4 d=0∧bndE X=0∧ua4 X=0∧(leaL X).length≤(leaL d).length∧bndN d=(d.sn.toNat:Int)∧bndN X=(d.sn.toNat:Int))∨(bndE d=11∧ua4 d=0∧ua4 X=0∧(leaL X).length≤(leaL d).length∧bndN d=0)∨(bndE d=11∧ua4 d=9∧bndN d=0):=by
    rcases b0 with q|q
    · have h9:ua4 d=0:=Classical.byContradiction fun h9=>by have:=(ueQ hF h9).1;omega
      have w1:=(udw (k:=k) (j:=j) hb1.1 hb2.1 hb3.1 hb4.1 q).1
      have w2:=ucE (k:=k) (j:=j) hb1.1 hb2.1 hb3.1 hb4.1 h9
      rw [←hX]at w1 w2
      have n1:=ufA q
      have n2:=ufA w1
      have e2:X.sn=d.sn:=by rw [hX];rfl
      rw [e2]at n2
      exact .inl ⟨q,h9,w1,w2.1,w2.2,n1,n2⟩
    · by_cases h9:ua4 d=0
      · have w2:=ucE (k:=k) (j:=j) hb1.1 hb2.1 hb3.1 hb4.1 h9
        rw [←hX]at w2
        exact .inr (.inl ⟨q,h9,w2.1,w2.2,ufF q⟩)
      · exact .inr (.inr ⟨q,uhQ hF h9,ufF q⟩)
  rw [tb.1,nY2]at c21y
  clear nY2 tl tb b0
  obtain⟨n,hnn⟩:∃n,n=bndN d:=⟨_,rfl⟩
  rw [←hnn]at c21 c21y hP
  obtain⟨nx,hnx⟩:∃n,n=bndN X:=⟨_,rfl⟩
  rw [←hnx]at c21x hP
  obtain⟨eD,heD⟩:∃n,n=bndE d:=⟨_,rfl⟩
  rw [←heD]at c21 c21y hP
  simp only [←heD]at eqb c24
  obtain⟨eX,heX⟩:∃n,n=bndE X:=⟨_,rfl⟩
  rw [←heX]at c21x hP
  obtain⟨fD,hfD⟩:∃n,n=ua4 d:=⟨_,rfl⟩
  rw [←hfD]at c22 c22y hP
  obtain⟨fX,hfX⟩:∃n,n=ua4 X:=⟨_,rfl⟩
  rw [←hfX]at c22x hP
  obtain⟨lD,hlD⟩:∃n,n=leaL d:=⟨_,rfl⟩
  rw [←hlD]at c22 c22y c26 hP lll
  obtain⟨lX,hlX⟩:∃n,n=leaL X:=⟨_,rfl⟩
  rw [←hlX]at c22x hP lx
  clear hnn hnx hX hYs heD heX hfD hfX hlD hlX
  clear hk hlk kX kY
  have hj1:=(hj hm).1
  have hj2:=(hj hm).2
  have hf8:=hfk hj2
  have jX2:=jX hj2
  clear hj hfk jX h hF hth hd
  refine ua0.is fun R hR=>qW (sc:=sc5b) tyok mix Try.func5 rfl Try.call5 (by kernel_rfl) (by kernel_rfl) ?_
  generalize Try.prog=P at c12 c20y c25 c14 c14x c14y c21 c21x c21y c22 c22x c22y c26 c24 h33⊢
  cbv
  repeat' (first
      | (refine ucT ?_ ?_ hj1
         try cbv)
      | (refine ucT ?_ ?_ (show _=a3 from ha3)
         try cbv)
      |(with_reducible intro hcd;exfalso;(try simp only [zQ,zA,zB,zC,zD,zE,zF,zG,zH,zI,zJ,zK,zL,zM,zN,zO,zP,zR,zS]at hcd);omega)
      |with_reducible refine hold ?_ ?_
      |with_reducible refine And.intro ?_ ?_
      | (with_reducible refine qS ?_ ?_ ?_
         try cbv)
      |(with_reducible intro hcd;(try simp only [zA,zB,zC,zD,zE,zF,zG,zH,zI,zJ,zK,zL,zM,zN,zO,zP]at hcd);try cbv)
      | (refine qP ?_ (c20y) ?hfit
         case hfit=>((repeat' (first|exact qB|refine qD ?_ ?_|exact qE (by rfl)|exact qF (by rfl)|exact Fit.refl _|exact qA|refine qC ?_ rfl ?_));done)
         try cbv)
      | (refine qP ?_ (c25) ?hfit
         case hfit=>((repeat' (first|exact qB|refine qD ?_ ?_|exact qE (by rfl)|exact qF (by rfl)|exact Fit.refl _|exact qA|refine qC ?_ rfl ?_));done)
         try cbv)
      | (refine qP ?_ (c14) ?hfit
         case hfit=>((repeat' (first|exact qB|refine qD ?_ ?_|exact qE (by rfl)|exact qF (by rfl)|exact Fit.refl _|exact qA|refine qC ?_ rfl ?_));done)
         try cbv)
      | (refine qP ?_ (c21) ?hfit
         case hfit=>((repeat' (first|exact qB|refine qD ?_ ?_|exact qE (by rfl)|exact qF (by rfl)|exact Fit.refl _|exact qA|refine qC ?_ rfl ?_));done)
         try cbv)
      | (refine qP ?_ (c22) ?hfit
         case hfit=>((repeat' (first|exact qB|refine qD ?_ ?_|exact qE (by rfl)|exact qF (by rfl)|exact Fit.refl _|exact qA|refine qC ?_ rfl ?_));done)
         try cbv)
      | (refine qP ?_ (c26) ?hfit
         case hfit=>((repeat' (first|exact qB|refine qD ?_ ?_|exact qE (by rfl)|exact qF (by rfl)|exact Fit.refl _|exact qA|refine qC ?_ rfl ?_));done)
         try cbv)
      | (refine qP ?_ (c14x) ?hfit
         case hfit=>((refine qD (qC (Fit.refl _) rfl (qC (Fit.refl _) rfl (qC (Fit.refl _) rfl (qC (Fit.refl _) rfl (qC (Fit.refl _) rfl (qC ?_ rfl (qC ?_ rfl qA))))))) qB<;>first|exact Fit.refl _|(refine ua1 (by(try clear c12 c20y c25 c14 c14x c14y c21 c21x c21y c22 c22x c22y c26 c24 oX oY pX);(try simp only [qV]at *);(try simp only [zQ,zA,zB,zC,zD,zE,zF,zG,zH,zI,zJ,zK,zL,zM,zN,zO,zP,zR,zS]at *);omega) (fun ix h0 h1=> ?_);first|exact Fit.refl _|(exfalso;(try clear c12 c20y c25 c14 c14x c14y c21 c21x c21y c22 c22x c22y c26 c24 oX oY pX);(try simp only [qV]at *);(try simp only [zQ,zA,zB,zC,zD,zE,zF,zG,zH,zI,zJ,zK,zL,zM,zN,zO,zP,zR,zS]at *);omega)));done)
         try cbv)
      | (refine qP ?_ (c21x) ?hfit
         case hfit=>((repeat' (first|exact qB|refine qD ?_ ?_|exact qE (by rfl)|exact qF (by rfl)|exact Fit.refl _|exact qA|refine qC ?_ rfl ?_));done)
         try cbv)
      | (refine qP ?_ (c22x) ?hfit
         case hfit=>((repeat' (first|exact qB|refine qD ?_ ?_|exact qE (by rfl)|exact qF (by rfl)|exact Fit.refl _|exact qA|refine qC ?_ rfl ?_));done)
         try cbv)
      | (refine⟨fun ix=>[(iv fun _=>((FX).getD ix.den.toNat f0T).p),(iv fun _=>((FX).getD ix.den.toNat f0T).s),(iv fun _=>((FX).getD ix.den.toNat f0T).wl),(iv fun _=>((FX).getD ix.den.toNat f0T).wh),(iv fun _=>((FX).getD ix.den.toNat f0T).ml),(iv fun _=>((FX).getD ix.den.toNat f0T).mh)],?_⟩
         cbv
         refine hold (uaU (o2:=4) (by((try clear c12 c20y c25 c14 c14x c14y c21 c21x c21y c22 c22x c22y c26 c24 oX oY pX);(try simp only [qV]at *);(try simp only [zQ,zA,zB,zC,zD,zE,zF,zG,zH,zI,zJ,zK,zL,zM,zN,zO,zP,zR,zS]at *);omega)) (by intro jx h0 h1 h2;(have e:(FX).getD jx.den.toNat f0T=(d.fs).getD jx.den.toNat f0T:=pX jx.den.toNat (by((try clear c12 c20y c25 c14 c14x c14y c21 c21x c21y c22 c22x c22y c26 c24 oX oY pX);(try simp only [qV]at *);(try simp only [zQ,zA,zB,zC,zD,zE,zF,zG,zH,zI,zJ,zK,zL,zM,zN,zO,zP,zR,zS]at *);omega)));simp only [e];exact Fit.refl _) (by intro jx h0 h1 h2;refine⟨_,rfl,?_⟩;(have e:jx.den.toNat=j:=by((try clear c12 c20y c25 c14 c14x c14y c21 c21x c21y c22 c22x c22y c26 c24 oX oY pX);(try simp only [qV]at *);(try simp only [zQ,zA,zB,zC,zD,zE,zF,zG,zH,zI,zJ,zK,zL,zM,zN,zO,zP,zR,zS]at *);omega));(have e2:=jX2);simp only [e,e2,wF];exact(qC (qE (by first|rfl|((try clear c12 c20y c25 c14 c14x c14y c21 c21x c21y c22 c22x c22y c26 c24 oX oY pX);(try simp only [qV]at *);(try simp only [zQ,zA,zB,zC,zD,zE,zF,zG,zH,zI,zJ,zK,zL,zM,zN,zO,zP,zR,zS]at *);(try simp only [ubl,ubm,Int.toNat_zero]at *);first|rfl|omega))) rfl (qC (qE (by first|rfl|((try clear c12 c20y c25 c14 c14x c14y c21 c21x c21y c22 c22x c22y c26 c24 oX oY pX);(try simp only [qV]at *);(try simp only [zQ,zA,zB,zC,zD,zE,zF,zG,zH,zI,zJ,zK,zL,zM,zN,zO,zP,zR,zS]at *);(try simp only [ubl,ubm,Int.toNat_zero]at *);first|rfl|omega))) rfl (qC (qE (by first|rfl|((try clear c12 c20y c25 c14 c14x c14y c21 c21x c21y c22 c22x c22y c26 c24 oX oY pX);(try simp only [qV]at *);(try simp only [zQ,zA,zB,zC,zD,zE,zF,zG,zH,zI,zJ,zK,zL,zM,zN,zO,zP,zR,zS]at *);(try simp only [ubl,ubm,Int.toNat_zero]at *);first|rfl|omega))) rfl (qC (qE (by first|rfl|((try clear c12 c20y c25 c14 c14x c14y c21 c21x c21y c22 c22x c22y c26 c24 oX oY pX);(try simp only [qV]at *);(try simp only [zQ,zA,zB,zC,zD,zE,zF,zG,zH,zI,zJ,zK,zL,zM,zN,zO,zP,zR,zS]at *);(try simp only [ubl,ubm,Int.toNat_zero]at *);first|rfl|omega))) rfl (qC (qE (by first|rfl|((try clear c12 c20y c25 c14 c14x c14y c21 c21x c21y c22 c22x c22y c26 c24 oX oY pX);(try simp only [qV]at *);(try simp only [zQ,zA,zB,zC,zD,zE,zF,zG,zH,zI,zJ,zK,zL,zM,zN,zO,zP,zR,zS]at *);(try simp only [ubl,ubm,Int.toNat_zero]at *);first|rfl|omega))) rfl (qC (qE (by first|rfl|((try clear c12 c20y c25 c14 c14x c14y c21 c21x c21y c22 c22x c22y c26 c24 oX oY pX);(try simp only [qV]at *);(try simp only [zQ,zA,zB,zC,zD,zE,zF,zG,zH,zI,zJ,zK,zL,zM,zN,zO,zP,zR,zS]at *);(try simp only [ubl,ubm,Int.toNat_zero]at *);first|rfl|omega))) rfl qA)))))))) ?_
         try cbv)
      | (refine Exists.intro (α:=List Nat) [14,18,26] ?_
         cbv
         fail_if_success (show False))
      |fail)
  all_goals first
    |((try clear c20y);(try clear c25);(try clear c14);(try clear c14x);(try clear c14y);(try clear c21);(try clear c21x);(try clear c21y);(try clear c22);(try clear c22x);(try clear c22y);(try clear c26);(try clear c24);(try clear c12);((try simp only [qV]at *);(try simp only [zQ,zA,zB,zC,zD,zE,zF,zG,zH,zI,zJ,zK,zL,zM,zN,zO,zP,zR,zS]at *);first|(refine qN ?_;omega)|(simp only [Hold];omega)))
    |((try clear c20y);(try clear c25);(try clear c14);(try clear c14x);(try clear c14y);(try clear c21);(try clear c21x);(try clear c21y);(try clear c22);(try clear c22x);(try clear c22y);(try clear c26);(try clear c24);(try clear c12);(exfalso;exact(by assumption:¬True) True.intro))
    |skip
  all_goals (
    have hQ:(eD=0∧n=(d.sn.toNat:Int)∧nx=(d.sn.toNat:Int))∨(eD=11∧n=0):=by
      rcases hP with⟨p1,_,_,_,_,p2,p3⟩|⟨p1,_,_,_,p2⟩|⟨p1,_,p2⟩
      · exact .inl ⟨p1,p2,p3⟩
      · exact .inr ⟨p1,p2⟩
      · exact .inr ⟨p1,p2⟩
    have hs3:d.sn.toNat≤3:=by omega
    clear hP
    (try clear nX);(try clear nY);(try clear mX);(try clear oX);(try clear oY);(try clear pX);(try clear hb1);(try clear hb2);(try clear hb3);(try clear hb4);(try clear hq4);(try clear hq16);(try clear hq64);(try clear tbd);(try clear hk1);(try clear hl8);(try clear kX2);(try clear kY2);(try clear hj1);(try clear hf8);(try clear jX2);(try clear c20y);(try clear c25);(try clear c14);(try clear c14x);(try clear c14y);(try clear c21);(try clear c21x);(try clear c21y);(try clear c22);(try clear c22x);(try clear c22y);(try clear c26);(try clear ha1);(try clear ha2);(try clear ha3);(try clear ha4);(try clear hw);(try clear hb);(try clear hz);(try clear f6);(try clear l4);(try clear hm2);(try clear hm5)
    rcases hQ with⟨hQ1,hQ2,hQ3⟩|⟨hQ1,hQ2⟩<;>first
    |(exfalso;omega)
    |skip
    all_goals (
      refine⟨none,[],{s:Nat // s=0∨(s:Int)≤n},fun x=>⟨[(14,(.sl 2 (.sym fun _=>n) (fun ix=>[(iv fun _=>loT d [] ix.den.toNat),(iv fun _=>hiT d [] ix.den.toNat)]))),(15,(iv fun _=>eD)),(16,(.sl 2 (.sym fun _=>nx) (fun ix=>[(iv fun _=>loT X [] ix.den.toNat),(iv fun _=>hiT X [] ix.den.toNat)]))),(18,(.sl 2 (.sym fun _=>n) (fun ix=>[(iv fun _=>loT d [] ix.den.toNat),(iv fun _=>hiT d [] ix.den.toNat)]))),(26,(iv fun _=>zi x.1))],[],400⟩,fun x=>n.toNat-x.1,?_,?_⟩
      · refine⟨⟨0,.inl rfl⟩,?_⟩
        cbv
        repeat' (first
          |with_reducible refine hold ?_ ?_
          |with_reducible refine And.intro ?_ ?_)
        all_goals first
          |exact True.intro
          |exact qM (qE (by rfl))
          |exact qM (Fit.refl _)
          |skip
      · rintro ⟨s,hs⟩
        cbv
        cbv
        repeat' (first
            |(with_reducible intro hcd;exfalso;(try simp only [zQ,zA,zB,zC,zD,zE,zF,zG,zH,zI,zJ,zK,zL,zM,zN,zO,zP,zR,zS]at hcd);omega)
            |with_reducible refine hold ?_ ?_
            |with_reducible refine And.intro ?_ ?_
            |(with_reducible intro hcd;(try simp only [zA,zB,zC,zD,zE,zF,zG,zH,zI,zJ,zK,zL,zM,zN,zO,zP]at hcd);try cbv)
            | (refine qP ?_ (c12) ?hfit
               case hfit=>((repeat' (first|exact qB|refine qD ?_ ?_|exact qE (by rfl)|exact qF (by rfl)|exact Fit.refl _|exact qA|refine qC ?_ rfl ?_));done)
               try cbv)
            | (refine qP ?_ (c24 hQ1) ?hfit
               case hfit=>((refine qD (ua1 (by(try clear c12 c20y c25 c14 c14x c14y c21 c21x c21y c22 c22x c22y c26 c24 oX oY pX);(try simp only [qV]at *);(try simp only [zQ,zA,zB,zC,zD,zE,zF,zG,zH,zI,zJ,zK,zL,zM,zN,zO,zP,zR,zS]at *);omega) (fun _ _ _=>Fit.refl _)) (qD (ua1 (by(try clear c12 c20y c25 c14 c14x c14y c21 c21x c21y c22 c22x c22y c26 c24 oX oY pX);(try simp only [qV]at *);(try simp only [zQ,zA,zB,zC,zD,zE,zF,zG,zH,zI,zJ,zK,zL,zM,zN,zO,zP,zR,zS]at *);omega) (fun _ _ _=>Fit.refl _)) qB));done)
               try cbv)
            |fail)
        all_goals first
          |(with_reducible refine ulm h33 ?_ ?_)<;>simp only [List.length_cons,List.length_nil]
          |(subst hR;exact Fit.refl _)
          |((try clear c12);(try clear c24);(try clear eqb);(refine qN ?_);(try clear c12 c20y c25 c14 c14x c14y c21 c21x c21y c22 c22x c22y c26 c24 oX oY pX);(try simp only [qV]at *);(try simp only [zQ,zA,zB,zC,zD,zE,zF,zG,zH,zI,zJ,zK,zL,zM,zN,zO,zP,zR,zS]at *);omega)
          |(exfalso;exact(by assumption:¬True) True.intro)
          |((try clear c12);(try clear c24);(try clear eqb);(simp only [Hold]);(try clear c12 c20y c25 c14 c14x c14y c21 c21x c21y c22 c22x c22y c26 c24 oX oY pX);(try simp only [qV]at *);(try simp only [zQ,zA,zB,zC,zD,zE,zF,zG,zH,zI,zJ,zK,zL,zM,zN,zO,zP,zR,zS]at *);exact⟨by omega,by omega⟩)
          |((try clear c12);(try clear c24);(try clear eqb);((try simp only [zQ,zA,zB,zC,zD,zE,zF,zG,zH,zI,zJ,zK,zL,zM,zN,zO,zP,zR,zS]at *);refine⟨⟨s+1,by((try clear c12 c20y c25 c14 c14x c14y c21 c21x c21y c22 c22x c22y c26 c24 oX oY pX);(try simp only [qV]at *);(try simp only [zQ,zA,zB,zC,zD,zE,zF,zG,zH,zI,zJ,zK,zL,zM,zN,zO,zP,zR,zS]at *);omega)⟩,by simp only [];omega,?_⟩;cbv;(repeat' (first|with_reducible refine hold ?_ ?_|with_reducible refine And.intro ?_ ?_));(all_goals first|exact True.intro|exact qM (qE (by rfl))|exact qM (qF (by rfl))|exact qM (Fit.refl _)|exact qL (qK _)|(refine qM (qE ?_);(try simp only [qV]at *);simp only [zQ,zA,zB,zC,zD,zE,zF,zG,zH,zI,zJ,zK,zL,zM,zN,zO,zP,zR,zS]at *;omega)|skip)))
          |skip))
end Go.Proofs.Ytkdggbfknlcdaaa

namespace Go.Proofs.Ytkdggbfknlcdaaa
open Go Go.Eng Go.Proofs Go.Eng.Dif Go.Eng.Few
set_option maxRecDepth 10000
set_option maxRecDepth 100000 in
set_option maxHeartbeats 20000000 in
theorem uvU (d:Dsp)(w b:Int)(hw:0≤w∧w≤255)(hb:0≤b∧b≤255)(hz:d.fs.length*48≤140737488351232)(h:udU d=true)(hn:0<d.ls.length)(hm:d.fs.length=0)(k j:Nat)(a1 a2 a3 a4:Int)(ha1:b.tmod 4=a1)(ha2:(b.tdiv 4).tmod 4=a2)(ha3:(b.tdiv 16).tmod 4=a3)(ha4:b.tdiv 64=a4)(hk:0<d.ls.length→w.tmod (zi d.ls.length)=zi k∧k<d.ls.length)(hj:0<d.fs.length→w.tmod (zi d.fs.length)=zi j∧j<d.fs.length)(LX LY:List LkT)(FX:List FaT)(X Y:Dsp)(hLX:LX=d.ls.set k (wL a1 a2 (d.ls.getD k l0T)))(hLY:LY=d.ls.set k (tL (d.ls.getD k l0T)))(hFX:FX=d.fs.set j (wF d a3 a4 (d.fs.getD j f0T)))(hX:X=ub2 d k j a1 a2 a3 a4)(hY:Y=ubr d k):ua0 Try.prog 5 [(dspS d),(.int .u8 (.sym fun _=>w)),(.int .u8 (.sym fun _=>b))] [] (fun r _=>r=(.bool (.lit true))):=by
  have c12:=ug9
  have hth:=uhF.1 (ucG.1 h).1
  have hF:=(ucG.1 h).2
  have hd:=ua2.1 hF
  have f6:=hd.f6
  have l4:=hd.l4
  have s1:=hd.s1
  have s3:=hd.s3
  have hm2:=hd.t.m2
  have hm5:=hd.t.m5
  have nX:LX.length=d.ls.length:=by rw [hLX,List.length_set]
  have nY:LY.length=d.ls.length:=by rw [hLY,List.length_set]
  have mX:FX.length=d.fs.length:=by rw [hFX,List.length_set]
  have oX:∀i,i≠k→LX.getD i l0T=d.ls.getD i l0T:=fun i hi=>by rw [hLX];simp only [List.getD_eq_getElem?_getD];rw [List.getElem?_set_ne (fun e=>hi e.symm)]
  have oY:∀i,i≠k→LY.getD i l0T=d.ls.getD i l0T:=fun i hi=>by rw [hLY];simp only [List.getD_eq_getElem?_getD];rw [List.getElem?_set_ne (fun e=>hi e.symm)]
  have pX:∀i,i≠j→FX.getD i f0T=d.fs.getD i f0T:=fun i hi=>by rw [hFX];simp only [List.getD_eq_getElem?_getD];rw [List.getElem?_set_ne (fun e=>hi e.symm)]
  have kX:k<d.ls.length→LX.getD k l0T=wL a1 a2 (d.ls.getD k l0T):=fun hk=>by rw [hLX,List.getD_eq_getElem?_getD,List.getElem?_set_self hk];rfl
  have kY:k<d.ls.length→LY.getD k l0T=tL (d.ls.getD k l0T):=fun hk=>by rw [hLY,List.getD_eq_getElem?_getD,List.getElem?_set_self hk];rfl
  have jX:j<d.fs.length→FX.getD j f0T=wF d a3 a4 (d.fs.getD j f0T):=fun hk=>by rw [hFX,List.getD_eq_getElem?_getD,List.getElem?_set_self hk];rfl
  have hb1:0≤a1∧a1<4:=by subst ha1;exact⟨Int.tmod_nonneg _ hb.1,Int.tmod_lt_of_pos _ (by decide)⟩
  have hb2:0≤a2∧a2<4:=by subst ha2;exact⟨Int.tmod_nonneg _ (Int.tdiv_nonneg hb.1 (by decide)),Int.tmod_lt_of_pos _ (by decide)⟩
  have hb3:0≤a3∧a3<4:=by subst ha3;exact⟨Int.tmod_nonneg _ (Int.tdiv_nonneg hb.1 (by decide)),Int.tmod_lt_of_pos _ (by decide)⟩
  have hb4:0≤a4∧a4≤255:=by subst ha4;exact⟨Int.tdiv_nonneg hb.1 (by decide),Int.le_trans (Int.tdiv_le_self _ hb.1) hb.2⟩
  have hq4:0≤b.tdiv 4∧b.tdiv 4≤255:=⟨Int.tdiv_nonneg hb.1 (by decide),Int.le_trans (Int.tdiv_le_self _ hb.1) hb.2⟩
  have hq16:0≤b.tdiv 16∧b.tdiv 16≤255:=⟨Int.tdiv_nonneg hb.1 (by decide),Int.le_trans (Int.tdiv_le_self _ hb.1) hb.2⟩
  have hq64:0≤b.tdiv 64∧b.tdiv 64≤255:=⟨Int.tdiv_nonneg hb.1 (by decide),Int.le_trans (Int.tdiv_le_self _ hb.1) hb.2⟩
  have hlk:k<d.ls.length→ -2000≤(d.ls.getD k l0T).lo∧(d.ls.getD k l0T).lo≤(d.ls.getD k l0T).hi∧(d.ls.getD k l0T).hi≤2000:=fun h=>by have:=hd.l k h;unfold ubP at this;omega
  have tbd:=ulH hd.t
  have hfk:j<d.fs.length→d.tm.getD 0 0≤(d.fs.getD j f0T).ml∧(d.fs.getD j f0T).ml≤(d.fs.getD j f0T).mh∧(d.fs.getD j f0T).mh≤d.tm.getD (d.tm.length-1) 0:=fun h=>by have:=hd.f j h;unfold ubo at this;omega
  have c20y:=ufI (ugt d) h
  have c25:=ujC d.tm ⟨by omega,by omega⟩
  have c14:=ub5 d hth.1 (by omega) (by omega)
  have c14x:ua0 Try.prog 14 [(.agg [(iS d.tw),(iS d.tm),(.sl 1 (.sym fun _=>zi (d.tv).length) (fun ix=>[(.sl 1 (.sym fun _=>zi ((d.tv).getD ix.den.toNat []).length) (fun jx=>[(iv fun _=>((d.tv).getD ix.den.toNat []).getD jx.den.toNat 0)]))])),(iv fun _=>d.sn),(iv fun _=>d.pn),(.sl 4 (.sym fun _=>zi (LX).length) (fun ix=>[(iv fun _=>((LX).getD ix.den.toNat l0T).a),(iv fun _=>((LX).getD ix.den.toNat l0T).b),(iv fun _=>((LX).getD ix.den.toNat l0T).lo),(iv fun _=>((LX).getD ix.den.toNat l0T).hi)])),(.sl 6 (.sym fun _=>zi (FX).length) (fun ix=>[(iv fun _=>((FX).getD ix.den.toNat f0T).p),(iv fun _=>((FX).getD ix.den.toNat f0T).s),(iv fun _=>((FX).getD ix.den.toNat f0T).wl),(iv fun _=>((FX).getD ix.den.toNat f0T).wh),(iv fun _=>((FX).getD ix.den.toNat f0T).ml),(iv fun _=>((FX).getD ix.den.toNat f0T).mh)]))])] [] (fun r _=>r=(.agg [(iS d.tw),(iS d.tm),(.sl 1 (.sym fun _=>zi (d.tv).length) (fun ix=>[(.sl 1 (.sym fun _=>zi ((d.tv).getD ix.den.toNat []).length) (fun jx=>[(iv fun _=>((d.tv).getD ix.den.toNat []).getD jx.den.toNat 0)]))])),(iv fun _=>d.sn),(iv fun _=>d.pn),(.sl 4 (.sym fun _=>zi (LX).length) (fun ix=>[(iv fun _=>((LX).getD ix.den.toNat l0T).a),(iv fun _=>((LX).getD ix.den.toNat l0T).b),(iv fun _=>((LX).getD ix.den.toNat l0T).lo),(iv fun _=>((LX).getD ix.den.toNat l0T).hi)])),(.sl 6 (.sym fun _=>zi (FX).length) (fun ix=>[(iv fun _=>((FX).getD ix.den.toNat f0T).p),(iv fun _=>((FX).getD ix.den.toNat f0T).s),(iv fun _=>((FX).getD ix.den.toNat f0T).wl),(iv fun _=>((FX).getD ix.den.toNat f0T).wh),(iv fun _=>((FX).getD ix.den.toNat f0T).ml),(iv fun _=>((FX).getD ix.den.toNat f0T).mh)]))])):=by rw [hLX,hFX];exact ub5 (ub2 d k j a1 a2 a3 a4) hth.1 (by show(d.ls.set k _).length≤1000;rw [List.length_set];omega) (by show(d.fs.set j _).length≤1000;rw [List.length_set];omega)
  have c14y:ua0 Try.prog 14 [(.agg [(iS d.tw),(iS d.tm),(.sl 1 (.sym fun _=>zi (d.tv).length) (fun ix=>[(.sl 1 (.sym fun _=>zi ((d.tv).getD ix.den.toNat []).length) (fun jx=>[(iv fun _=>((d.tv).getD ix.den.toNat []).getD jx.den.toNat 0)]))])),(iv fun _=>d.sn),(iv fun _=>d.pn),(.sl 4 (.sym fun _=>zi (LY).length) (fun ix=>[(iv fun _=>((LY).getD ix.den.toNat l0T).a),(iv fun _=>((LY).getD ix.den.toNat l0T).b),(iv fun _=>((LY).getD ix.den.toNat l0T).lo),(iv fun _=>((LY).getD ix.den.toNat l0T).hi)])),(.sl 6 (.sym fun _=>zi (d.fs).length) (fun ix=>[(iv fun _=>((d.fs).getD ix.den.toNat f0T).p),(iv fun _=>((d.fs).getD ix.den.toNat f0T).s),(iv fun _=>((d.fs).getD ix.den.toNat f0T).wl),(iv fun _=>((d.fs).getD ix.den.toNat f0T).wh),(iv fun _=>((d.fs).getD ix.den.toNat f0T).ml),(iv fun _=>((d.fs).getD ix.den.toNat f0T).mh)]))])] [] (fun r _=>r=(.agg [(iS d.tw),(iS d.tm),(.sl 1 (.sym fun _=>zi (d.tv).length) (fun ix=>[(.sl 1 (.sym fun _=>zi ((d.tv).getD ix.den.toNat []).length) (fun jx=>[(iv fun _=>((d.tv).getD ix.den.toNat []).getD jx.den.toNat 0)]))])),(iv fun _=>d.sn),(iv fun _=>d.pn),(.sl 4 (.sym fun _=>zi (LY).length) (fun ix=>[(iv fun _=>((LY).getD ix.den.toNat l0T).a),(iv fun _=>((LY).getD ix.den.toNat l0T).b),(iv fun _=>((LY).getD ix.den.toNat l0T).lo),(iv fun _=>((LY).getD ix.den.toNat l0T).hi)])),(.sl 6 (.sym fun _=>zi (d.fs).length) (fun ix=>[(iv fun _=>((d.fs).getD ix.den.toNat f0T).p),(iv fun _=>((d.fs).getD ix.den.toNat f0T).s),(iv fun _=>((d.fs).getD ix.den.toNat f0T).wl),(iv fun _=>((d.fs).getD ix.den.toNat f0T).wh),(iv fun _=>((d.fs).getD ix.den.toNat f0T).ml),(iv fun _=>((d.fs).getD ix.den.toNat f0T).mh)]))])):=by rw [hLY];exact ub5 (ubr d k) hth.1 (by show(d.ls.set k _).length≤1000;rw [List.length_set];omega) (by show d.fs.length≤1000;omega)
  have c21:=ubi d
  have c21x:ua0 Try.prog 21 [(.agg [(iS d.tw),(iS d.tm),(.sl 1 (.sym fun _=>zi (d.tv).length) (fun ix=>[(.sl 1 (.sym fun _=>zi ((d.tv).getD ix.den.toNat []).length) (fun jx=>[(iv fun _=>((d.tv).getD ix.den.toNat []).getD jx.den.toNat 0)]))])),(iv fun _=>d.sn),(iv fun _=>d.pn),(.sl 4 (.sym fun _=>zi (LX).length) (fun ix=>[(iv fun _=>((LX).getD ix.den.toNat l0T).a),(iv fun _=>((LX).getD ix.den.toNat l0T).b),(iv fun _=>((LX).getD ix.den.toNat l0T).lo),(iv fun _=>((LX).getD ix.den.toNat l0T).hi)])),(.sl 6 (.sym fun _=>zi (FX).length) (fun ix=>[(iv fun _=>((FX).getD ix.den.toNat f0T).p),(iv fun _=>((FX).getD ix.den.toNat f0T).s),(iv fun _=>((FX).getD ix.den.toNat f0T).wl),(iv fun _=>((FX).getD ix.den.toNat f0T).wh),(iv fun _=>((FX).getD ix.den.toNat f0T).ml),(iv fun _=>((FX).getD ix.den.toNat f0T).mh)]))])] [] (fun r _=>r=(.tup [(.sl 2 (.sym fun _=>bndN X) (fun ix=>[(iv fun _=>loT X [] ix.den.toNat),(iv fun _=>hiT X [] ix.den.toNat)])),(iv fun _=>bndE X)])):=by rw [hLX,hFX,hX];exact ubi (ub2 d k j a1 a2 a3 a4)
  have c21y:ua0 Try.prog 21 [(.agg [(iS d.tw),(iS d.tm),(.sl 1 (.sym fun _=>zi (d.tv).length) (fun ix=>[(.sl 1 (.sym fun _=>zi ((d.tv).getD ix.den.toNat []).length) (fun jx=>[(iv fun _=>((d.tv).getD ix.den.toNat []).getD jx.den.toNat 0)]))])),(iv fun _=>d.sn),(iv fun _=>d.pn),(.sl 4 (.sym fun _=>zi (LY).length) (fun ix=>[(iv fun _=>((LY).getD ix.den.toNat l0T).a),(iv fun _=>((LY).getD ix.den.toNat l0T).b),(iv fun _=>((LY).getD ix.den.toNat l0T).lo),(iv fun _=>((LY).getD ix.den.toNat l0T).hi)])),(.sl 6 (.sym fun _=>zi (d.fs).length) (fun ix=>[(iv fun _=>((d.fs).getD ix.den.toNat f0T).p),(iv fun _=>((d.fs).getD ix.den.toNat f0T).s),(iv fun _=>((d.fs).getD ix.den.toNat f0T).wl),(iv fun _=>((d.fs).getD ix.den.toNat f0T).wh),(iv fun _=>((d.fs).getD ix.den.toNat f0T).ml),(iv fun _=>((d.fs).getD ix.den.toNat f0T).mh)]))])] [] (fun r _=>r=(.tup [(.sl 2 (.sym fun _=>bndN Y) (fun ix=>[(iv fun _=>loT Y [] ix.den.toNat),(iv fun _=>hiT Y [] ix.den.toNat)])),(iv fun _=>bndE Y)])):=by rw [hLY,hY];exact ubi (ubr d k)
  have c22:=ubG d
  have c22x:ua0 Try.prog 22 [(.agg [(iS d.tw),(iS d.tm),(.sl 1 (.sym fun _=>zi (d.tv).length) (fun ix=>[(.sl 1 (.sym fun _=>zi ((d.tv).getD ix.den.toNat []).length) (fun jx=>[(iv fun _=>((d.tv).getD ix.den.toNat []).getD jx.den.toNat 0)]))])),(iv fun _=>d.sn),(iv fun _=>d.pn),(.sl 4 (.sym fun _=>zi (LX).length) (fun ix=>[(iv fun _=>((LX).getD ix.den.toNat l0T).a),(iv fun _=>((LX).getD ix.den.toNat l0T).b),(iv fun _=>((LX).getD ix.den.toNat l0T).lo),(iv fun _=>((LX).getD ix.den.toNat l0T).hi)])),(.sl 6 (.sym fun _=>zi (FX).length) (fun ix=>[(iv fun _=>((FX).getD ix.den.toNat f0T).p),(iv fun _=>((FX).getD ix.den.toNat f0T).s),(iv fun _=>((FX).getD ix.den.toNat f0T).wl),(iv fun _=>((FX).getD ix.den.toNat f0T).wh),(iv fun _=>((FX).getD ix.den.toNat f0T).ml),(iv fun _=>((FX).getD ix.den.toNat f0T).mh)]))])] [] (fun r _=>r=(.tup [(iS ((leaL X))),(iv fun _=>ua4 X)])):=by rw [hLX,hFX,hX];exact ubG (ub2 d k j a1 a2 a3 a4)
  have c22y:ua0 Try.prog 22 [(.agg [(iS d.tw),(iS d.tm),(.sl 1 (.sym fun _=>zi (d.tv).length) (fun ix=>[(.sl 1 (.sym fun _=>zi ((d.tv).getD ix.den.toNat []).length) (fun jx=>[(iv fun _=>((d.tv).getD ix.den.toNat []).getD jx.den.toNat 0)]))])),(iv fun _=>d.sn),(iv fun _=>d.pn),(.sl 4 (.sym fun _=>zi (LY).length) (fun ix=>[(iv fun _=>((LY).getD ix.den.toNat l0T).a),(iv fun _=>((LY).getD ix.den.toNat l0T).b),(iv fun _=>((LY).getD ix.den.toNat l0T).lo),(iv fun _=>((LY).getD ix.den.toNat l0T).hi)])),(.sl 6 (.sym fun _=>zi (d.fs).length) (fun ix=>[(iv fun _=>((d.fs).getD ix.den.toNat f0T).p),(iv fun _=>((d.fs).getD ix.den.toNat f0T).s),(iv fun _=>((d.fs).getD ix.den.toNat f0T).wl),(iv fun _=>((d.fs).getD ix.den.toNat f0T).wh),(iv fun _=>((d.fs).getD ix.den.toNat f0T).ml),(iv fun _=>((d.fs).getD ix.den.toNat f0T).mh)]))])] [] (fun r _=>r=(.tup [(iS ((leaL Y))),(iv fun _=>ua4 Y)])):=by rw [hLY,hY];exact ubG (ubr d k)
  have lll:=ud8 d hF
  have c26:ua0 Try.prog 26 [(iS (leaL d)),(iS (leaL d))] [] (fun r _=>r = .bool (.lit true)):=ufI (uge (leaL d).length (leaL d).length (fun n=>(leaL d).getD n 0) (fun n=>(leaL d).getD n 0) (by omega) (by omega)) (ugF rfl fun _ _=>rfl)
  have tl:=ufP (k:=k) hF
  have tb:=ufQ (k:=k) hF
  rw [←hY]at tl tb
  rw [tl.1,tl.2]at c22y
  have hYs:Y.sn=d.sn:=by rw [hY];rfl
  clear hLX hLY hFX hY
  have b0:bndE d=0∨bndE d=11:=by
    cases hc:canT d d.fs []with
    |true=>exact .inl (ucf hF hc).1
    |false=>exact .inr (ueh hF hc).1
  have lx:(leaL X).length≤6:=by rw [hX];exact ud8 _ (ua2.2 (ufs hd hb1.1 hb2.1 hb3.1 hb4.1))
  have nY2:bndN Y=bndN d:=by unfold bndN;rw [tb.1,hYs]
  have c24:=fun q:bndE d=0=>ufS d.sn.toNat (loT d []) (hiT d []) (loT X []) (hiT X []) (by omega) (fun i hi=>by rw [hX];exact(udw hb1.1 hb2.1 hb3.1 hb4.1 q).2 i hi)
  have eqb:bndE d=0→∀s,s<d.sn.toNat→loT Y [] s=loT d [] s∧hiT Y [] s=hiT d [] s:=tb.2
  have h33:=uj8
  have hP:(bndE d=0∧ua4 d=0∧bndE X=0∧ua4 X=0∧(leaL X).length≤(leaL d).length∧bndN d=(d.sn.toNat:Int)∧bndN X=(d.sn.toNat:Int))∨(bndE d=11∧ua4 d=0∧ua4 X=0∧(leaL X).length≤(leaL d).length∧bndN d=0)∨(bndE d=11∧ua4 d=9∧bndN d=0):=by
    rcases b0 with q|q
    · have h9:ua4 d=0:=Classical.byContradiction fun h9=>by have:=(ueQ hF h9).1;omega
      have w1:=(udw (k:=k) (j:=j) hb1.1 hb2.1 hb3.1 hb4.1 q).1
      have w2:=ucE (k:=k) (j:=j) hb1.1 hb2.1 hb3.1 hb4.1 h9
      rw [←hX]at w1 w2
      have n1:=ufA q
      have n2:=ufA w1
      have e2:X.sn=d.sn:=by rw [hX];rfl
      rw [e2]at n2
      exact .inl ⟨q,h9,w1,w2.1,w2.2,n1,n2⟩
    · by_cases h9:ua4 d=0
      · have w2:=ucE (k:=k) (j:=j) hb1.1 hb2.1 hb3.1 hb4.1 h9
        rw [←hX]at w2
        exact .inr (.inl ⟨q,h9,w2.1,w2.2,ufF q⟩)
      · exact .inr (.inr ⟨q,uhQ hF h9,ufF q⟩)
  rw [tb.1,nY2]at c21y
  clear nY2 tl tb b0
  obtain⟨n,hnn⟩:∃n,n=bndN d:=⟨_,rfl⟩
  rw [←hnn]at c21 c21y hP
  obtain⟨nx,hnx⟩:∃n,n=bndN X:=⟨_,rfl⟩
  rw [←hnx]at c21x hP
  obtain⟨eD,heD⟩:∃n,n=bndE d:=⟨_,rfl⟩
  rw [←heD]at c21 c21y hP
  simp only [←heD]at eqb c24
  obtain⟨eX,heX⟩:∃n,n=bndE X:=⟨_,rfl⟩
  rw [←heX]at c21x hP
  obtain⟨fD,hfD⟩:∃n,n=ua4 d:=⟨_,rfl⟩
  rw [←hfD]at c22 c22y hP
  obtain⟨fX,hfX⟩:∃n,n=ua4 X:=⟨_,rfl⟩
  rw [←hfX]at c22x hP
  obtain⟨lD,hlD⟩:∃n,n=leaL d:=⟨_,rfl⟩
  rw [←hlD]at c22 c22y c26 hP lll
  obtain⟨lX,hlX⟩:∃n,n=leaL X:=⟨_,rfl⟩
  rw [←hlX]at c22x hP lx
  clear hnn hnx hX hYs heD heX hfD hfX hlD hlX
  have hk1:=(hk hn).1
  have hk2:=(hk hn).2
  have hl8:=hlk hk2
  have kX2:=kX hk2
  have kY2:=kY hk2
  clear hk hlk kX kY
  clear hj hfk jX h hF hth hd
  refine ua0.is fun R hR=>qW (sc:=sc5b) tyok mix Try.func5 rfl Try.call5 (by kernel_rfl) (by kernel_rfl) ?_
  generalize Try.prog=P at c12 c20y c25 c14 c14x c14y c21 c21x c21y c22 c22x c22y c26 c24 h33⊢
  cbv
  repeat' (first
      | (refine ucT ?_ ?_ hk1
         try cbv)
      | (refine ucT ?_ ?_ (show _=a1 from ha1)
         try cbv)
      | (refine ucT ?_ ?_ (show _=a2 from ha2)
         try cbv)
      |(with_reducible intro hcd;exfalso;(try simp only [zQ,zA,zB,zC,zD,zE,zF,zG,zH,zI,zJ,zK,zL,zM,zN,zO,zP,zR,zS]at hcd);omega)
      |with_reducible refine hold ?_ ?_
      |with_reducible refine And.intro ?_ ?_
      | (with_reducible refine qS ?_ ?_ ?_
         try cbv)
      |(with_reducible intro hcd;(try simp only [zA,zB,zC,zD,zE,zF,zG,zH,zI,zJ,zK,zL,zM,zN,zO,zP]at hcd);try cbv)
      | (refine qP ?_ (c20y) ?hfit
         case hfit=>((repeat' (first|exact qB|refine qD ?_ ?_|exact qE (by rfl)|exact qF (by rfl)|exact Fit.refl _|exact qA|refine qC ?_ rfl ?_));done)
         try cbv)
      | (refine qP ?_ (c14) ?hfit
         case hfit=>((repeat' (first|exact qB|refine qD ?_ ?_|exact qE (by rfl)|exact qF (by rfl)|exact Fit.refl _|exact qA|refine qC ?_ rfl ?_));done)
         try cbv)
      | (refine qP ?_ (c21) ?hfit
         case hfit=>((repeat' (first|exact qB|refine qD ?_ ?_|exact qE (by rfl)|exact qF (by rfl)|exact Fit.refl _|exact qA|refine qC ?_ rfl ?_));done)
         try cbv)
      | (refine qP ?_ (c22) ?hfit
         case hfit=>((repeat' (first|exact qB|refine qD ?_ ?_|exact qE (by rfl)|exact qF (by rfl)|exact Fit.refl _|exact qA|refine qC ?_ rfl ?_));done)
         try cbv)
      | (refine qP ?_ (c26) ?hfit
         case hfit=>((repeat' (first|exact qB|refine qD ?_ ?_|exact qE (by rfl)|exact qF (by rfl)|exact Fit.refl _|exact qA|refine qC ?_ rfl ?_));done)
         try cbv)
      | (refine qP ?_ (c14x) ?hfit
         case hfit=>((refine qD (qC (Fit.refl _) rfl (qC (Fit.refl _) rfl (qC (Fit.refl _) rfl (qC (Fit.refl _) rfl (qC (Fit.refl _) rfl (qC ?_ rfl (qC ?_ rfl qA))))))) qB<;>first|exact Fit.refl _|(refine ua1 (by(try clear c12 c20y c25 c14 c14x c14y c21 c21x c21y c22 c22x c22y c26 c24 oX oY pX);(try simp only [qV]at *);(try simp only [zQ,zA,zB,zC,zD,zE,zF,zG,zH,zI,zJ,zK,zL,zM,zN,zO,zP,zR,zS]at *);omega) (fun ix h0 h1=> ?_);first|exact Fit.refl _|(exfalso;(try clear c12 c20y c25 c14 c14x c14y c21 c21x c21y c22 c22x c22y c26 c24 oX oY pX);(try simp only [qV]at *);(try simp only [zQ,zA,zB,zC,zD,zE,zF,zG,zH,zI,zJ,zK,zL,zM,zN,zO,zP,zR,zS]at *);omega)));done)
         try cbv)
      | (refine qP ?_ (c14y) ?hfit
         case hfit=>((refine qD (qC (Fit.refl _) rfl (qC (Fit.refl _) rfl (qC (Fit.refl _) rfl (qC (Fit.refl _) rfl (qC (Fit.refl _) rfl (qC ?_ rfl (qC ?_ rfl qA))))))) qB<;>first|exact Fit.refl _|(refine ua1 (by(try clear c12 c20y c25 c14 c14x c14y c21 c21x c21y c22 c22x c22y c26 c24 oX oY pX);(try simp only [qV]at *);(try simp only [zQ,zA,zB,zC,zD,zE,zF,zG,zH,zI,zJ,zK,zL,zM,zN,zO,zP,zR,zS]at *);omega) (fun ix h0 h1=> ?_);first|exact Fit.refl _|(exfalso;(try clear c12 c20y c25 c14 c14x c14y c21 c21x c21y c22 c22x c22y c26 c24 oX oY pX);(try simp only [qV]at *);(try simp only [zQ,zA,zB,zC,zD,zE,zF,zG,zH,zI,zJ,zK,zL,zM,zN,zO,zP,zR,zS]at *);omega)));done)
         try cbv)
      | (refine qP ?_ (c21x) ?hfit
         case hfit=>((repeat' (first|exact qB|refine qD ?_ ?_|exact qE (by rfl)|exact qF (by rfl)|exact Fit.refl _|exact qA|refine qC ?_ rfl ?_));done)
         try cbv)
      | (refine qP ?_ (c21y) ?hfit
         case hfit=>((repeat' (first|exact qB|refine qD ?_ ?_|exact qE (by rfl)|exact qF (by rfl)|exact Fit.refl _|exact qA|refine qC ?_ rfl ?_));done)
         try cbv)
      | (refine qP ?_ (c22x) ?hfit
         case hfit=>((repeat' (first|exact qB|refine qD ?_ ?_|exact qE (by rfl)|exact qF (by rfl)|exact Fit.refl _|exact qA|refine qC ?_ rfl ?_));done)
         try cbv)
      | (refine qP ?_ (c22y) ?hfit
         case hfit=>((repeat' (first|exact qB|refine qD ?_ ?_|exact qE (by rfl)|exact qF (by rfl)|exact Fit.refl _|exact qA|refine qC ?_ rfl ?_));done)
         try cbv)
      | (refine⟨fun ix=>[(iv fun _=>((LX).getD ix.den.toNat l0T).a),(iv fun _=>((LX).getD ix.den.toNat l0T).b),(iv fun _=>((LX).getD ix.den.toNat l0T).lo),(iv fun _=>((LX).getD ix.den.toNat l0T).hi)],?_⟩
         cbv
         refine hold (uaU (o2:=2) (by((try clear c12 c20y c25 c14 c14x c14y c21 c21x c21y c22 c22x c22y c26 c24 oX oY pX);(try simp only [qV]at *);(try simp only [zQ,zA,zB,zC,zD,zE,zF,zG,zH,zI,zJ,zK,zL,zM,zN,zO,zP,zR,zS]at *);omega)) (by intro jx h0 h1 h2;(have e:(LX).getD jx.den.toNat l0T=(d.ls).getD jx.den.toNat l0T:=oX jx.den.toNat (by((try clear c12 c20y c25 c14 c14x c14y c21 c21x c21y c22 c22x c22y c26 c24 oX oY pX);(try simp only [qV]at *);(try simp only [zQ,zA,zB,zC,zD,zE,zF,zG,zH,zI,zJ,zK,zL,zM,zN,zO,zP,zR,zS]at *);omega)));simp only [e];exact Fit.refl _) (by intro jx h0 h1 h2;refine⟨_,rfl,?_⟩;(have e:jx.den.toNat=k:=by((try clear c12 c20y c25 c14 c14x c14y c21 c21x c21y c22 c22x c22y c26 c24 oX oY pX);(try simp only [qV]at *);(try simp only [zQ,zA,zB,zC,zD,zE,zF,zG,zH,zI,zJ,zK,zL,zM,zN,zO,zP,zR,zS]at *);omega));(have e2:=kX2);simp only [e,e2,wL];exact(qC (qE (by first|rfl|((try clear c12 c20y c25 c14 c14x c14y c21 c21x c21y c22 c22x c22y c26 c24 oX oY pX);(try simp only [qV]at *);(try simp only [zQ,zA,zB,zC,zD,zE,zF,zG,zH,zI,zJ,zK,zL,zM,zN,zO,zP,zR,zS]at *);(try simp only [ubl,ubm,Int.toNat_zero]at *);first|rfl|omega))) rfl (qC (qE (by first|rfl|((try clear c12 c20y c25 c14 c14x c14y c21 c21x c21y c22 c22x c22y c26 c24 oX oY pX);(try simp only [qV]at *);(try simp only [zQ,zA,zB,zC,zD,zE,zF,zG,zH,zI,zJ,zK,zL,zM,zN,zO,zP,zR,zS]at *);(try simp only [ubl,ubm,Int.toNat_zero]at *);first|rfl|omega))) rfl (qC (qE (by first|rfl|((try clear c12 c20y c25 c14 c14x c14y c21 c21x c21y c22 c22x c22y c26 c24 oX oY pX);(try simp only [qV]at *);(try simp only [zQ,zA,zB,zC,zD,zE,zF,zG,zH,zI,zJ,zK,zL,zM,zN,zO,zP,zR,zS]at *);(try simp only [ubl,ubm,Int.toNat_zero]at *);first|rfl|omega))) rfl (qC (qE (by first|rfl|((try clear c12 c20y c25 c14 c14x c14y c21 c21x c21y c22 c22x c22y c26 c24 oX oY pX);(try simp only [qV]at *);(try simp only [zQ,zA,zB,zC,zD,zE,zF,zG,zH,zI,zJ,zK,zL,zM,zN,zO,zP,zR,zS]at *);(try simp only [ubl,ubm,Int.toNat_zero]at *);first|rfl|omega))) rfl qA)))))) ?_
         try cbv)
      | (refine⟨fun ix=>[(iv fun _=>((LY).getD ix.den.toNat l0T).a),(iv fun _=>((LY).getD ix.den.toNat l0T).b),(iv fun _=>((LY).getD ix.den.toNat l0T).lo),(iv fun _=>((LY).getD ix.den.toNat l0T).hi)],?_⟩
         cbv
         refine hold (uaU (o2:=0) (by((try clear c12 c20y c25 c14 c14x c14y c21 c21x c21y c22 c22x c22y c26 c24 oX oY pX);(try simp only [qV]at *);(try simp only [zQ,zA,zB,zC,zD,zE,zF,zG,zH,zI,zJ,zK,zL,zM,zN,zO,zP,zR,zS]at *);omega)) (by intro jx h0 h1 h2;(have e:(LY).getD jx.den.toNat l0T=(d.ls).getD jx.den.toNat l0T:=oY jx.den.toNat (by((try clear c12 c20y c25 c14 c14x c14y c21 c21x c21y c22 c22x c22y c26 c24 oX oY pX);(try simp only [qV]at *);(try simp only [zQ,zA,zB,zC,zD,zE,zF,zG,zH,zI,zJ,zK,zL,zM,zN,zO,zP,zR,zS]at *);omega)));simp only [e];exact Fit.refl _) (by intro jx h0 h1 h2;refine⟨_,rfl,?_⟩;(have e:jx.den.toNat=k:=by((try clear c12 c20y c25 c14 c14x c14y c21 c21x c21y c22 c22x c22y c26 c24 oX oY pX);(try simp only [qV]at *);(try simp only [zQ,zA,zB,zC,zD,zE,zF,zG,zH,zI,zJ,zK,zL,zM,zN,zO,zP,zR,zS]at *);omega));(have e2:=kY2);simp only [e,e2,tL];exact(qC (qE (by first|rfl|((try clear c12 c20y c25 c14 c14x c14y c21 c21x c21y c22 c22x c22y c26 c24 oX oY pX);(try simp only [qV]at *);(try simp only [zQ,zA,zB,zC,zD,zE,zF,zG,zH,zI,zJ,zK,zL,zM,zN,zO,zP,zR,zS]at *);(try simp only [ubl,ubm,Int.toNat_zero]at *);first|rfl|omega))) rfl (qC (qE (by first|rfl|((try clear c12 c20y c25 c14 c14x c14y c21 c21x c21y c22 c22x c22y c26 c24 oX oY pX);(try simp only [qV]at *);(try simp only [zQ,zA,zB,zC,zD,zE,zF,zG,zH,zI,zJ,zK,zL,zM,zN,zO,zP,zR,zS]at *);(try simp only [ubl,ubm,Int.toNat_zero]at *);first|rfl|omega))) rfl (qC (qE (by first|rfl|((try clear c12 c20y c25 c14 c14x c14y c21 c21x c21y c22 c22x c22y c26 c24 oX oY pX);(try simp only [qV]at *);(try simp only [zQ,zA,zB,zC,zD,zE,zF,zG,zH,zI,zJ,zK,zL,zM,zN,zO,zP,zR,zS]at *);(try simp only [ubl,ubm,Int.toNat_zero]at *);first|rfl|omega))) rfl (qC (qE (by first|rfl|((try clear c12 c20y c25 c14 c14x c14y c21 c21x c21y c22 c22x c22y c26 c24 oX oY pX);(try simp only [qV]at *);(try simp only [zQ,zA,zB,zC,zD,zE,zF,zG,zH,zI,zJ,zK,zL,zM,zN,zO,zP,zR,zS]at *);(try simp only [ubl,ubm,Int.toNat_zero]at *);first|rfl|omega))) rfl qA)))))) ?_
         try cbv)
      | (refine Exists.intro (α:=List Nat) [14,18,26] ?_
         cbv
         fail_if_success (show False))
      |fail)
  all_goals first
    |((try clear c20y);(try clear c25);(try clear c14);(try clear c14x);(try clear c14y);(try clear c21);(try clear c21x);(try clear c21y);(try clear c22);(try clear c22x);(try clear c22y);(try clear c26);(try clear c24);(try clear c12);((try simp only [qV]at *);(try simp only [zQ,zA,zB,zC,zD,zE,zF,zG,zH,zI,zJ,zK,zL,zM,zN,zO,zP,zR,zS]at *);first|(refine qN ?_;omega)|(simp only [Hold];omega)))
    |((try clear c20y);(try clear c25);(try clear c14);(try clear c14x);(try clear c14y);(try clear c21);(try clear c21x);(try clear c21y);(try clear c22);(try clear c22x);(try clear c22y);(try clear c26);(try clear c24);(try clear c12);(exfalso;exact(by assumption:¬True) True.intro))
    |skip
  all_goals (
    have hQ:(eD=0∧n=(d.sn.toNat:Int)∧nx=(d.sn.toNat:Int))∨(eD=11∧n=0):=by
      rcases hP with⟨p1,_,_,_,_,p2,p3⟩|⟨p1,_,_,_,p2⟩|⟨p1,_,p2⟩
      · exact .inl ⟨p1,p2,p3⟩
      · exact .inr ⟨p1,p2⟩
      · exact .inr ⟨p1,p2⟩
    have hs3:d.sn.toNat≤3:=by omega
    clear hP
    (try clear nX);(try clear nY);(try clear mX);(try clear oX);(try clear oY);(try clear pX);(try clear hb1);(try clear hb2);(try clear hb3);(try clear hb4);(try clear hq4);(try clear hq16);(try clear hq64);(try clear tbd);(try clear hk1);(try clear hl8);(try clear kX2);(try clear kY2);(try clear hj1);(try clear hf8);(try clear jX2);(try clear c20y);(try clear c25);(try clear c14);(try clear c14x);(try clear c14y);(try clear c21);(try clear c21x);(try clear c21y);(try clear c22);(try clear c22x);(try clear c22y);(try clear c26);(try clear ha1);(try clear ha2);(try clear ha3);(try clear ha4);(try clear hw);(try clear hb);(try clear hz);(try clear f6);(try clear l4);(try clear hm2);(try clear hm5)
    rcases hQ with⟨hQ1,hQ2,hQ3⟩|⟨hQ1,hQ2⟩<;>first
    |(exfalso;omega)
    |skip
    all_goals (
      refine⟨none,[],{s:Nat // s=0∨(s:Int)≤n},fun x=>⟨[(14,(.sl 2 (.sym fun _=>n) (fun ix=>[(iv fun _=>loT d [] ix.den.toNat),(iv fun _=>hiT d [] ix.den.toNat)]))),(15,(iv fun _=>eD)),(16,(.sl 2 (.sym fun _=>nx) (fun ix=>[(iv fun _=>loT X [] ix.den.toNat),(iv fun _=>hiT X [] ix.den.toNat)]))),(18,(.sl 2 (.sym fun _=>n) (fun ix=>[(iv fun _=>loT Y [] ix.den.toNat),(iv fun _=>hiT Y [] ix.den.toNat)]))),(26,(iv fun _=>zi x.1))],[],400⟩,fun x=>n.toNat-x.1,?_,?_⟩
      · refine⟨⟨0,.inl rfl⟩,?_⟩
        cbv
        repeat' (first
          |with_reducible refine hold ?_ ?_
          |with_reducible refine And.intro ?_ ?_)
        all_goals first
          |exact True.intro
          |exact qM (qE (by rfl))
          |exact qM (Fit.refl _)
          |skip
      · rintro ⟨s,hs⟩
        cbv
        cbv
        repeat' (first
            |(with_reducible intro hcd;exfalso;(try simp only [zQ,zA,zB,zC,zD,zE,zF,zG,zH,zI,zJ,zK,zL,zM,zN,zO,zP,zR,zS]at hcd);omega)
            |with_reducible refine hold ?_ ?_
            |with_reducible refine And.intro ?_ ?_
            |(with_reducible intro hcd;(try simp only [zA,zB,zC,zD,zE,zF,zG,zH,zI,zJ,zK,zL,zM,zN,zO,zP]at hcd);try cbv)
            | (refine qP ?_ (c12) ?hfit
               case hfit=>((repeat' (first|exact qB|refine qD ?_ ?_|exact qE (by rfl)|exact qF (by rfl)|exact Fit.refl _|exact qA|refine qC ?_ rfl ?_));done)
               try cbv)
            | (refine qP ?_ (c24 hQ1) ?hfit
               case hfit=>((refine qD (ua1 (by(try clear c12 c20y c25 c14 c14x c14y c21 c21x c21y c22 c22x c22y c26 c24 oX oY pX);(try simp only [qV]at *);(try simp only [zQ,zA,zB,zC,zD,zE,zF,zG,zH,zI,zJ,zK,zL,zM,zN,zO,zP,zR,zS]at *);omega) (fun _ _ _=>Fit.refl _)) (qD (ua1 (by(try clear c12 c20y c25 c14 c14x c14y c21 c21x c21y c22 c22x c22y c26 c24 oX oY pX);(try simp only [qV]at *);(try simp only [zQ,zA,zB,zC,zD,zE,zF,zG,zH,zI,zJ,zK,zL,zM,zN,zO,zP,zR,zS]at *);omega) (fun _ _ _=>Fit.refl _)) qB));done)
               try cbv)
            |fail)
        all_goals first
          |(with_reducible refine ulm h33 ?_ ?_)<;>simp only [List.length_cons,List.length_nil]
          |(subst hR;exact Fit.refl _)
          |((try clear c12);(try clear c24);(try clear eqb);(refine qN ?_);(try clear c12 c20y c25 c14 c14x c14y c21 c21x c21y c22 c22x c22y c26 c24 oX oY pX);(try simp only [qV]at *);(try simp only [zQ,zA,zB,zC,zD,zE,zF,zG,zH,zI,zJ,zK,zL,zM,zN,zO,zP,zR,zS]at *);omega)
          |(exfalso;(have q9:=eqb hQ1 s (by(try clear c12);(try clear c24);(try clear eqb);(try clear c12 c20y c25 c14 c14x c14y c21 c21x c21y c22 c22x c22y c26 c24 oX oY pX);(try simp only [qV]at *);(try simp only [zQ,zA,zB,zC,zD,zE,zF,zG,zH,zI,zJ,zK,zL,zM,zN,zO,zP,zR,zS]at *);omega));exact unc (by assumption) ⟨q9.1.symm,q9.2.symm⟩)
          |((try clear c12);(try clear c24);(try clear eqb);(simp only [Hold]);(try clear c12 c20y c25 c14 c14x c14y c21 c21x c21y c22 c22x c22y c26 c24 oX oY pX);(try simp only [qV]at *);(try simp only [zQ,zA,zB,zC,zD,zE,zF,zG,zH,zI,zJ,zK,zL,zM,zN,zO,zP,zR,zS]at *);exact⟨by omega,by omega⟩)
          |((try clear c12);(try clear c24);(try clear eqb);((try simp only [zQ,zA,zB,zC,zD,zE,zF,zG,zH,zI,zJ,zK,zL,zM,zN,zO,zP,zR,zS]at *);refine⟨⟨s+1,by((try clear c12 c20y c25 c14 c14x c14y c21 c21x c21y c22 c22x c22y c26 c24 oX oY pX);(try simp only [qV]at *);(try simp only [zQ,zA,zB,zC,zD,zE,zF,zG,zH,zI,zJ,zK,zL,zM,zN,zO,zP,zR,zS]at *);omega)⟩,by simp only [];omega,?_⟩;cbv;(repeat' (first|with_reducible refine hold ?_ ?_|with_reducible refine And.intro ?_ ?_));(all_goals first|exact True.intro|exact qM (qE (by rfl))|exact qM (qF (by rfl))|exact qM (Fit.refl _)|exact qL (qK _)|(refine qM (qE ?_);(try simp only [qV]at *);simp only [zQ,zA,zB,zC,zD,zE,zF,zG,zH,zI,zJ,zK,zL,zM,zN,zO,zP,zR,zS]at *;omega)|skip)))
          |skip))
end Go.Proofs.Ytkdggbfknlcdaaa

namespace Go.Proofs.Ytkdggbfknlcdaaa
open Go Go.Eng Go.Proofs Go.Eng.Dif Go.Eng.Few
set_option maxRecDepth 10000
set_option maxRecDepth 100000 in
set_option maxHeartbeats 20000000 in
theorem uw8 (d:Dsp)(w b:Int)(hw:0≤w∧w≤255)(hb:0≤b∧b≤255)(hz:d.fs.length*48≤140737488351232)(h:udU d=true)(hn:d.ls.length=0)(hm:d.fs.length=0)(k j:Nat)(a1 a2 a3 a4:Int)(ha1:b.tmod 4=a1)(ha2:(b.tdiv 4).tmod 4=a2)(ha3:(b.tdiv 16).tmod 4=a3)(ha4:b.tdiv 64=a4)(hk:0<d.ls.length→w.tmod (zi d.ls.length)=zi k∧k<d.ls.length)(hj:0<d.fs.length→w.tmod (zi d.fs.length)=zi j∧j<d.fs.length)(LX LY:List LkT)(FX:List FaT)(X Y:Dsp)(hLX:LX=d.ls.set k (wL a1 a2 (d.ls.getD k l0T)))(hLY:LY=d.ls.set k (tL (d.ls.getD k l0T)))(hFX:FX=d.fs.set j (wF d a3 a4 (d.fs.getD j f0T)))(hX:X=ub2 d k j a1 a2 a3 a4)(hY:Y=ubr d k):ua0 Try.prog 5 [(dspS d),(.int .u8 (.sym fun _=>w)),(.int .u8 (.sym fun _=>b))] [] (fun r _=>r=(.bool (.lit true))):=by
  have c12:=ug9
  have hth:=uhF.1 (ucG.1 h).1
  have hF:=(ucG.1 h).2
  have hd:=ua2.1 hF
  have f6:=hd.f6
  have l4:=hd.l4
  have s1:=hd.s1
  have s3:=hd.s3
  have hm2:=hd.t.m2
  have hm5:=hd.t.m5
  have nX:LX.length=d.ls.length:=by rw [hLX,List.length_set]
  have nY:LY.length=d.ls.length:=by rw [hLY,List.length_set]
  have mX:FX.length=d.fs.length:=by rw [hFX,List.length_set]
  have oX:∀i,i≠k→LX.getD i l0T=d.ls.getD i l0T:=fun i hi=>by rw [hLX];simp only [List.getD_eq_getElem?_getD];rw [List.getElem?_set_ne (fun e=>hi e.symm)]
  have oY:∀i,i≠k→LY.getD i l0T=d.ls.getD i l0T:=fun i hi=>by rw [hLY];simp only [List.getD_eq_getElem?_getD];rw [List.getElem?_set_ne (fun e=>hi e.symm)]
  have pX:∀i,i≠j→FX.getD i f0T=d.fs.getD i f0T:=fun i hi=>by rw [hFX];simp only [List.getD_eq_getElem?_getD];rw [List.getElem?_set_ne (fun e=>hi e.symm)]
  have kX:k<d.ls.length→LX.getD k l0T=wL a1 a2 (d.ls.getD k l0T):=fun hk=>by rw [hLX,List.getD_eq_getElem?_getD,List.getElem?_set_self hk];rfl
  have kY:k<d.ls.length→LY.getD k l0T=tL (d.ls.getD k l0T):=fun hk=>by rw [hLY,List.getD_eq_getElem?_getD,List.getElem?_set_self hk];rfl
  have jX:j<d.fs.length→FX.getD j f0T=wF d a3 a4 (d.fs.getD j f0T):=fun hk=>by rw [hFX,List.getD_eq_getElem?_getD,List.getElem?_set_self hk];rfl
  have hb1:0≤a1∧a1<4:=by subst ha1;exact⟨Int.tmod_nonneg _ hb.1,Int.tmod_lt_of_pos _ (by decide)⟩
  have hb2:0≤a2∧a2<4:=by subst ha2;exact⟨Int.tmod_nonneg _ (Int.tdiv_nonneg hb.1 (by decide)),Int.tmod_lt_of_pos _ (by decide)⟩
  have hb3:0≤a3∧a3<4:=by subst ha3;exact⟨Int.tmod_nonneg _ (Int.tdiv_nonneg hb.1 (by decide)),Int.tmod_lt_of_pos _ (by decide)⟩
  have hb4:0≤a4∧a4≤255:=by subst ha4;exact⟨Int.tdiv_nonneg hb.1 (by decide),Int.le_trans (Int.tdiv_le_self _ hb.1) hb.2⟩
  have hq4:0≤b.tdiv 4∧b.tdiv 4≤255:=⟨Int.tdiv_nonneg hb.1 (by decide),Int.le_trans (Int.tdiv_le_self _ hb.1) hb.2⟩
  have hq16:0≤b.tdiv 16∧b.tdiv 16≤255:=⟨Int.tdiv_nonneg hb.1 (by decide),Int.le_trans (Int.tdiv_le_self _ hb.1) hb.2⟩
  have hq64:0≤b.tdiv 64∧b.tdiv 64≤255:=⟨Int.tdiv_nonneg hb.1 (by decide),Int.le_trans (Int.tdiv_le_self _ hb.1) hb.2⟩
  have hlk:k<d.ls.length→ -2000≤(d.ls.getD k l0T).lo∧(d.ls.getD k l0T).lo≤(d.ls.getD k l0T).hi∧(d.ls.getD k l0T).hi≤2000:=fun h=>by have:=hd.l k h;unfold ubP at this;omega
  have tbd:=ulH hd.t
  have hfk:j<d.fs.length→d.tm.getD 0 0≤(d.fs.getD j f0T).ml∧(d.fs.getD j f0T).ml≤(d.fs.getD j f0T).mh∧(d.fs.getD j f0T).mh≤d.tm.getD (d.tm.length-1) 0:=fun h=>by have:=hd.f j h;unfold ubo at this;omega
  have c20y:=ufI (ugt d) h
  have c25:=ujC d.tm ⟨by omega,by omega⟩
  have c14:=ub5 d hth.1 (by omega) (by omega)
  have c14x:ua0 Try.prog 14 [(.agg [(iS d.tw),(iS d.tm),(.sl 1 (.sym fun _=>zi (d.tv).length) (fun ix=>[(.sl 1 (.sym fun _=>zi ((d.tv).getD ix.den.toNat []).length) (fun jx=>[(iv fun _=>((d.tv).getD ix.den.toNat []).getD jx.den.toNat 0)]))])),(iv fun _=>d.sn),(iv fun _=>d.pn),(.sl 4 (.sym fun _=>zi (LX).length) (fun ix=>[(iv fun _=>((LX).getD ix.den.toNat l0T).a),(iv fun _=>((LX).getD ix.den.toNat l0T).b),(iv fun _=>((LX).getD ix.den.toNat l0T).lo),(iv fun _=>((LX).getD ix.den.toNat l0T).hi)])),(.sl 6 (.sym fun _=>zi (FX).length) (fun ix=>[(iv fun _=>((FX).getD ix.den.toNat f0T).p),(iv fun _=>((FX).getD ix.den.toNat f0T).s),(iv fun _=>((FX).getD ix.den.toNat f0T).wl),(iv fun _=>((FX).getD ix.den.toNat f0T).wh),(iv fun _=>((FX).getD ix.den.toNat f0T).ml),(iv fun _=>((FX).getD ix.den.toNat f0T).mh)]))])] [] (fun r _=>r=(.agg [(iS d.tw),(iS d.tm),(.sl 1 (.sym fun _=>zi (d.tv).length) (fun ix=>[(.sl 1 (.sym fun _=>zi ((d.tv).getD ix.den.toNat []).length) (fun jx=>[(iv fun _=>((d.tv).getD ix.den.toNat []).getD jx.den.toNat 0)]))])),(iv fun _=>d.sn),(iv fun _=>d.pn),(.sl 4 (.sym fun _=>zi (LX).length) (fun ix=>[(iv fun _=>((LX).getD ix.den.toNat l0T).a),(iv fun _=>((LX).getD ix.den.toNat l0T).b),(iv fun _=>((LX).getD ix.den.toNat l0T).lo),(iv fun _=>((LX).getD ix.den.toNat l0T).hi)])),(.sl 6 (.sym fun _=>zi (FX).length) (fun ix=>[(iv fun _=>((FX).getD ix.den.toNat f0T).p),(iv fun _=>((FX).getD ix.den.toNat f0T).s),(iv fun _=>((FX).getD ix.den.toNat f0T).wl),(iv fun _=>((FX).getD ix.den.toNat f0T).wh),(iv fun _=>((FX).getD ix.den.toNat f0T).ml),(iv fun _=>((FX).getD ix.den.toNat f0T).mh)]))])):=by rw [hLX,hFX];exact ub5 (ub2 d k j a1 a2 a3 a4) hth.1 (by show(d.ls.set k _).length≤1000;rw [List.length_set];omega) (by show(d.fs.set j _).length≤1000;rw [List.length_set];omega)
  have c14y:ua0 Try.prog 14 [(.agg [(iS d.tw),(iS d.tm),(.sl 1 (.sym fun _=>zi (d.tv).length) (fun ix=>[(.sl 1 (.sym fun _=>zi ((d.tv).getD ix.den.toNat []).length) (fun jx=>[(iv fun _=>((d.tv).getD ix.den.toNat []).getD jx.den.toNat 0)]))])),(iv fun _=>d.sn),(iv fun _=>d.pn),(.sl 4 (.sym fun _=>zi (LY).length) (fun ix=>[(iv fun _=>((LY).getD ix.den.toNat l0T).a),(iv fun _=>((LY).getD ix.den.toNat l0T).b),(iv fun _=>((LY).getD ix.den.toNat l0T).lo),(iv fun _=>((LY).getD ix.den.toNat l0T).hi)])),(.sl 6 (.sym fun _=>zi (d.fs).length) (fun ix=>[(iv fun _=>((d.fs).getD ix.den.toNat f0T).p),(iv fun _=>((d.fs).getD ix.den.toNat f0T).s),(iv fun _=>((d.fs).getD ix.den.toNat f0T).wl),(iv fun _=>((d.fs).getD ix.den.toNat f0T).wh),(iv fun _=>((d.fs).getD ix.den.toNat f0T).ml),(iv fun _=>((d.fs).getD ix.den.toNat f0T).mh)]))])] [] (fun r _=>r=(.agg [(iS d.tw),(iS d.tm),(.sl 1 (.sym fun _=>zi (d.tv).length) (fun ix=>[(.sl 1 (.sym fun _=>zi ((d.tv).getD ix.den.toNat []).length) (fun jx=>[(iv fun _=>((d.tv).getD ix.den.toNat []).getD jx.den.toNat 0)]))])),(iv fun _=>d.sn),(iv fun _=>d.pn),(.sl 4 (.sym fun _=>zi (LY).length) (fun ix=>[(iv fun _=>((LY).getD ix.den.toNat l0T).a),(iv fun _=>((LY).getD ix.den.toNat l0T).b),(iv fun _=>((LY).getD ix.den.toNat l0T).lo),(iv fun _=>((LY).getD ix.den.toNat l0T).hi)])),(.sl 6 (.sym fun _=>zi (d.fs).length) (fun ix=>[(iv fun _=>((d.fs).getD ix.den.toNat f0T).p),(iv fun _=>((d.fs).getD ix.den.toNat f0T).s),(iv fun _=>((d.fs).getD ix.den.toNat f0T).wl),(iv fun _=>((d.fs).getD ix.den.toNat f0T).wh),(iv fun _=>((d.fs).getD ix.den.toNat f0T).ml),(iv fun _=>((d.fs).getD ix.den.toNat f0T).mh)]))])):=by rw [hLY];exact ub5 (ubr d k) hth.1 (by show(d.ls.set k _).length≤1000;rw [List.length_set];omega) (by show d.fs.length≤1000;omega)
  have c21:=ubi d
  have c21x:ua0 Try.prog 21 [(.agg [(iS d.tw),(iS d.tm),(.sl 1 (.sym fun _=>zi (d.tv).length) (fun ix=>[(.sl 1 (.sym fun _=>zi ((d.tv).getD ix.den.toNat []).length) (fun jx=>[(iv fun _=>((d.tv).getD ix.den.toNat []).getD jx.den.toNat 0)]))])),(iv fun _=>d.sn),(iv fun _=>d.pn),(.sl 4 (.sym fun _=>zi (LX).length) (fun ix=>[(iv fun _=>((LX).getD ix.den.toNat l0T).a),(iv fun _=>((LX).getD ix.den.toNat l0T).b),(iv fun _=>((LX).getD ix.den.toNat l0T).lo),(iv fun _=>((LX).getD ix.den.toNat l0T).hi)])),(.sl 6 (.sym fun _=>zi (FX).length) (fun ix=>[(iv fun _=>((FX).getD ix.den.toNat f0T).p),(iv fun _=>((FX).getD ix.den.toNat f0T).s),(iv fun _=>((FX).getD ix.den.toNat f0T).wl),(iv fun _=>((FX).getD ix.den.toNat f0T).wh),(iv fun _=>((FX).getD ix.den.toNat f0T).ml),(iv fun _=>((FX).getD ix.den.toNat f0T).mh)]))])] [] (fun r _=>r=(.tup [(.sl 2 (.sym fun _=>bndN X) (fun ix=>[(iv fun _=>loT X [] ix.den.toNat),(iv fun _=>hiT X [] ix.den.toNat)])),(iv fun _=>bndE X)])):=by rw [hLX,hFX,hX];exact ubi (ub2 d k j a1 a2 a3 a4)
  have c21y:ua0 Try.prog 21 [(.agg [(iS d.tw),(iS d.tm),(.sl 1 (.sym fun _=>zi (d.tv).length) (fun ix=>[(.sl 1 (.sym fun _=>zi ((d.tv).getD ix.den.toNat []).length) (fun jx=>[(iv fun _=>((d.tv).getD ix.den.toNat []).getD jx.den.toNat 0)]))])),(iv fun _=>d.sn),(iv fun _=>d.pn),(.sl 4 (.sym fun _=>zi (LY).length) (fun ix=>[(iv fun _=>((LY).getD ix.den.toNat l0T).a),(iv fun _=>((LY).getD ix.den.toNat l0T).b),(iv fun _=>((LY).getD ix.den.toNat l0T).lo),(iv fun _=>((LY).getD ix.den.toNat l0T).hi)])),(.sl 6 (.sym fun _=>zi (d.fs).length) (fun ix=>[(iv fun _=>((d.fs).getD ix.den.toNat f0T).p),(iv fun _=>((d.fs).getD ix.den.toNat f0T).s),(iv fun _=>((d.fs).getD ix.den.toNat f0T).wl),(iv fun _=>((d.fs).getD ix.den.toNat f0T).wh),(iv fun _=>((d.fs).getD ix.den.toNat f0T).ml),(iv fun _=>((d.fs).getD ix.den.toNat f0T).mh)]))])] [] (fun r _=>r=(.tup [(.sl 2 (.sym fun _=>bndN Y) (fun ix=>[(iv fun _=>loT Y [] ix.den.toNat),(iv fun _=>hiT Y [] ix.den.toNat)])),(iv fun _=>bndE Y)])):=by rw [hLY,hY];exact ubi (ubr d k)
  have c22:=ubG d
  have c22x:ua0 Try.prog 22 [(.agg [(iS d.tw),(iS d.tm),(.sl 1 (.sym fun _=>zi (d.tv).length) (fun ix=>[(.sl 1 (.sym fun _=>zi ((d.tv).getD ix.den.toNat []).length) (fun jx=>[(iv fun _=>((d.tv).getD ix.den.toNat []).getD jx.den.toNat 0)]))])),(iv fun _=>d.sn),(iv fun _=>d.pn),(.sl 4 (.sym fun _=>zi (LX).length) (fun ix=>[(iv fun _=>((LX).getD ix.den.toNat l0T).a),(iv fun _=>((LX).getD ix.den.toNat l0T).b),(iv fun _=>((LX).getD ix.den.toNat l0T).lo),(iv fun _=>((LX).getD ix.den.toNat l0T).hi)])),(.sl 6 (.sym fun _=>zi (FX).length) (fun ix=>[(iv fun _=>((FX).getD ix.den.toNat f0T).p),(iv fun _=>((FX).getD ix.den.toNat f0T).s),(iv fun _=>((FX).getD ix.den.toNat f0T).wl),(iv fun _=>((FX).getD ix.den.toNat f0T).wh),(iv fun _=>((FX).getD ix.den.toNat f0T).ml),(iv fun _=>((FX).getD ix.den.toNat f0T).mh)]))])] [] (fun r _=>r=(.tup [(iS ((leaL X))),(iv fun _=>ua4 X)])):=by rw [hLX,hFX,hX];exact ubG (ub2 d k j a1 a2 a3 a4)
  have c22y:ua0 Try.prog 22 [(.agg [(iS d.tw),(iS d.tm),(.sl 1 (.sym fun _=>zi (d.tv).length) (fun ix=>[(.sl 1 (.sym fun _=>zi ((d.tv).getD ix.den.toNat []).length) (fun jx=>[(iv fun _=>((d.tv).getD ix.den.toNat []).getD jx.den.toNat 0)]))])),(iv fun _=>d.sn),(iv fun _=>d.pn),(.sl 4 (.sym fun _=>zi (LY).length) (fun ix=>[(iv fun _=>((LY).getD ix.den.toNat l0T).a),(iv fun _=>((LY).getD ix.den.toNat l0T).b),(iv fun _=>((LY).getD ix.den.toNat l0T).lo),(iv fun _=>((LY).getD ix.den.toNat l0T).hi)])),(.sl 6 (.sym fun _=>zi (d.fs).length) (fun ix=>[(iv fun _=>((d.fs).getD ix.den.toNat f0T).p),(iv fun _=>((d.fs).getD ix.den.toNat f0T).s),(iv fun _=>((d.fs).getD ix.den.toNat f0T).wl),(iv fun _=>((d.fs).getD ix.den.toNat f0T).wh),(iv fun _=>((d.fs).getD ix.den.toNat f0T).ml),(iv fun _=>((d.fs).getD ix.den.toNat f0T).mh)]))])] [] (fun r _=>r=(.tup [(iS ((leaL Y))),(iv fun _=>ua4 Y)])):=by rw [hLY,hY];exact ubG (ubr d k)
  have lll:=ud8 d hF
  have c26:ua0 Try.prog 26 [(iS (leaL d)),(iS (leaL d))] [] (fun r _=>r = .bool (.lit true)):=ufI (uge (leaL d).length (leaL d).length (fun n=>(leaL d).getD n 0) (fun n=>(leaL d).getD n 0) (by omega) (by omega)) (ugF rfl fun _ _=>rfl)
  have tl:=ufP (k:=k) hF
  have tb:=ufQ (k:=k) hF
  rw [←hY]at tl tb
  rw [tl.1,tl.2]at c22y
  have hYs:Y.sn=d.sn:=by rw [hY];rfl
  clear hLX hLY hFX hY
  have b0:bndE d=0∨bndE d=11:=by
    cases hc:canT d d.fs []with
    |true=>exact .inl (ucf hF hc).1
    |false=>exact .inr (ueh hF hc).1
  have lx:(leaL X).length≤6:=by rw [hX];exact ud8 _ (ua2.2 (ufs hd hb1.1 hb2.1 hb3.1 hb4.1))
  have nY2:bndN Y=bndN d:=by unfold bndN;rw [tb.1,hYs]
  have c24:=fun q:bndE d=0=>ufS d.sn.toNat (loT d []) (hiT d []) (loT d []) (hiT d []) (by omega) (fun i hi=>⟨Int.le_refl _,Int.le_refl _⟩)
  have eqb:bndE d=0→∀s,s<d.sn.toNat→loT Y [] s=loT d [] s∧hiT Y [] s=hiT d [] s:=tb.2
  have h33:=uj8
  have hP:(bndE d=0∧ua4 d=0∧bndE X=0∧ua4 X=0∧(leaL X).length≤(leaL d).length∧bndN d=(d.sn.toNat:Int)∧bndN X=(d.sn.toNat:Int))∨(bndE d=11∧ua4 d=0∧ua4 X=0∧(leaL X).length≤(leaL d).length∧bndN d=0)∨(bndE d=11∧ua4 d=9∧bndN d=0):=by
    rcases b0 with q|q
    · have h9:ua4 d=0:=Classical.byContradiction fun h9=>by have:=(ueQ hF h9).1;omega
      have w1:=(udw (k:=k) (j:=j) hb1.1 hb2.1 hb3.1 hb4.1 q).1
      have w2:=ucE (k:=k) (j:=j) hb1.1 hb2.1 hb3.1 hb4.1 h9
      rw [←hX]at w1 w2
      have n1:=ufA q
      have n2:=ufA w1
      have e2:X.sn=d.sn:=by rw [hX];rfl
      rw [e2]at n2
      exact .inl ⟨q,h9,w1,w2.1,w2.2,n1,n2⟩
    · by_cases h9:ua4 d=0
      · have w2:=ucE (k:=k) (j:=j) hb1.1 hb2.1 hb3.1 hb4.1 h9
        rw [←hX]at w2
        exact .inr (.inl ⟨q,h9,w2.1,w2.2,ufF q⟩)
      · exact .inr (.inr ⟨q,uhQ hF h9,ufF q⟩)
  rw [tb.1,nY2]at c21y
  clear nY2 tl tb b0
  obtain⟨n,hnn⟩:∃n,n=bndN d:=⟨_,rfl⟩
  rw [←hnn]at c21 c21y hP
  obtain⟨nx,hnx⟩:∃n,n=bndN X:=⟨_,rfl⟩
  rw [←hnx]at c21x hP
  obtain⟨eD,heD⟩:∃n,n=bndE d:=⟨_,rfl⟩
  rw [←heD]at c21 c21y hP
  simp only [←heD]at eqb c24
  obtain⟨eX,heX⟩:∃n,n=bndE X:=⟨_,rfl⟩
  rw [←heX]at c21x hP
  obtain⟨fD,hfD⟩:∃n,n=ua4 d:=⟨_,rfl⟩
  rw [←hfD]at c22 c22y hP
  obtain⟨fX,hfX⟩:∃n,n=ua4 X:=⟨_,rfl⟩
  rw [←hfX]at c22x hP
  obtain⟨lD,hlD⟩:∃n,n=leaL d:=⟨_,rfl⟩
  rw [←hlD]at c22 c22y c26 hP lll
  obtain⟨lX,hlX⟩:∃n,n=leaL X:=⟨_,rfl⟩
  rw [←hlX]at c22x hP lx
  clear hnn hnx hX hYs heD heX hfD hfX hlD hlX
  clear hk hlk kX kY
  clear hj hfk jX h hF hth hd
  refine ua0.is fun R hR=>qW (sc:=sc5b) tyok mix Try.func5 rfl Try.call5 (by kernel_rfl) (by kernel_rfl) ?_
  generalize Try.prog=P at c12 c20y c25 c14 c14x c14y c21 c21x c21y c22 c22x c22y c26 c24 h33⊢
  cbv
  repeat' (first
      |(with_reducible intro hcd;exfalso;(try simp only [zQ,zA,zB,zC,zD,zE,zF,zG,zH,zI,zJ,zK,zL,zM,zN,zO,zP,zR,zS]at hcd);omega)
      |with_reducible refine hold ?_ ?_
      |with_reducible refine And.intro ?_ ?_
      |(with_reducible intro hcd;(try simp only [zA,zB,zC,zD,zE,zF,zG,zH,zI,zJ,zK,zL,zM,zN,zO,zP]at hcd);try cbv)
      | (refine qP ?_ (c20y) ?hfit
         case hfit=>((repeat' (first|exact qB|refine qD ?_ ?_|exact qE (by rfl)|exact qF (by rfl)|exact Fit.refl _|exact qA|refine qC ?_ rfl ?_));done)
         try cbv)
      | (refine qP ?_ (c14) ?hfit
         case hfit=>((refine qD (qC (Fit.refl _) rfl (qC (Fit.refl _) rfl (qC (Fit.refl _) rfl (qC (Fit.refl _) rfl (qC (Fit.refl _) rfl (qC ?_ rfl (qC ?_ rfl qA))))))) qB<;>first|exact Fit.refl _|(refine ua1 (by(try clear c12 c20y c25 c14 c14x c14y c21 c21x c21y c22 c22x c22y c26 c24 oX oY pX);(try simp only [qV]at *);(try simp only [zQ,zA,zB,zC,zD,zE,zF,zG,zH,zI,zJ,zK,zL,zM,zN,zO,zP,zR,zS]at *);omega) (fun ix h0 h1=> ?_);first|exact Fit.refl _|(exfalso;(try clear c12 c20y c25 c14 c14x c14y c21 c21x c21y c22 c22x c22y c26 c24 oX oY pX);(try simp only [qV]at *);(try simp only [zQ,zA,zB,zC,zD,zE,zF,zG,zH,zI,zJ,zK,zL,zM,zN,zO,zP,zR,zS]at *);omega)));done)
         try cbv)
      | (refine qP ?_ (c21) ?hfit
         case hfit=>((repeat' (first|exact qB|refine qD ?_ ?_|exact qE (by rfl)|exact qF (by rfl)|exact Fit.refl _|exact qA|refine qC ?_ rfl ?_));done)
         try cbv)
      | (refine qP ?_ (c22) ?hfit
         case hfit=>((repeat' (first|exact qB|refine qD ?_ ?_|exact qE (by rfl)|exact qF (by rfl)|exact Fit.refl _|exact qA|refine qC ?_ rfl ?_));done)
         try cbv)
      | (refine qP ?_ (c26) ?hfit
         case hfit=>((repeat' (first|exact qB|refine qD ?_ ?_|exact qE (by rfl)|exact qF (by rfl)|exact Fit.refl _|exact qA|refine qC ?_ rfl ?_));done)
         try cbv)
      | (refine Exists.intro (α:=List Nat) [14,18,26] ?_
         cbv
         fail_if_success (show False))
      |fail)
  all_goals first
    |((try clear c20y);(try clear c25);(try clear c14);(try clear c14x);(try clear c14y);(try clear c21);(try clear c21x);(try clear c21y);(try clear c22);(try clear c22x);(try clear c22y);(try clear c26);(try clear c24);(try clear c12);((try simp only [qV]at *);(try simp only [zQ,zA,zB,zC,zD,zE,zF,zG,zH,zI,zJ,zK,zL,zM,zN,zO,zP,zR,zS]at *);first|(refine qN ?_;omega)|(simp only [Hold];omega)))
    |((try clear c20y);(try clear c25);(try clear c14);(try clear c14x);(try clear c14y);(try clear c21);(try clear c21x);(try clear c21y);(try clear c22);(try clear c22x);(try clear c22y);(try clear c26);(try clear c24);(try clear c12);(exfalso;exact(by assumption:¬True) True.intro))
    |skip
  all_goals (
    have hQ:(eD=0∧n=(d.sn.toNat:Int)∧nx=(d.sn.toNat:Int))∨(eD=11∧n=0):=by
      rcases hP with⟨p1,_,_,_,_,p2,p3⟩|⟨p1,_,_,_,p2⟩|⟨p1,_,p2⟩
      · exact .inl ⟨p1,p2,p3⟩
      · exact .inr ⟨p1,p2⟩
      · exact .inr ⟨p1,p2⟩
    have hs3:d.sn.toNat≤3:=by omega
    clear hP
    (try clear nX);(try clear nY);(try clear mX);(try clear oX);(try clear oY);(try clear pX);(try clear hb1);(try clear hb2);(try clear hb3);(try clear hb4);(try clear hq4);(try clear hq16);(try clear hq64);(try clear tbd);(try clear hk1);(try clear hl8);(try clear kX2);(try clear kY2);(try clear hj1);(try clear hf8);(try clear jX2);(try clear c20y);(try clear c25);(try clear c14);(try clear c14x);(try clear c14y);(try clear c21);(try clear c21x);(try clear c21y);(try clear c22);(try clear c22x);(try clear c22y);(try clear c26);(try clear ha1);(try clear ha2);(try clear ha3);(try clear ha4);(try clear hw);(try clear hb);(try clear hz);(try clear f6);(try clear l4);(try clear hm2);(try clear hm5)
    rcases hQ with⟨hQ1,hQ2,hQ3⟩|⟨hQ1,hQ2⟩<;>first
    |(exfalso;omega)
    |skip
    all_goals (
      refine⟨none,[],{s:Nat // s=0∨(s:Int)≤n},fun x=>⟨[(14,(.sl 2 (.sym fun _=>n) (fun ix=>[(iv fun _=>loT d [] ix.den.toNat),(iv fun _=>hiT d [] ix.den.toNat)]))),(15,(iv fun _=>eD)),(16,(.sl 2 (.sym fun _=>n) (fun ix=>[(iv fun _=>loT d [] ix.den.toNat),(iv fun _=>hiT d [] ix.den.toNat)]))),(18,(.sl 2 (.sym fun _=>n) (fun ix=>[(iv fun _=>loT d [] ix.den.toNat),(iv fun _=>hiT d [] ix.den.toNat)]))),(26,(iv fun _=>zi x.1))],[],400⟩,fun x=>n.toNat-x.1,?_,?_⟩
      · refine⟨⟨0,.inl rfl⟩,?_⟩
        cbv
        repeat' (first
          |with_reducible refine hold ?_ ?_
          |with_reducible refine And.intro ?_ ?_)
        all_goals first
          |exact True.intro
          |exact qM (qE (by rfl))
          |exact qM (Fit.refl _)
          |skip
      · rintro ⟨s,hs⟩
        cbv
        cbv
        repeat' (first
            |(with_reducible intro hcd;exfalso;(try simp only [zQ,zA,zB,zC,zD,zE,zF,zG,zH,zI,zJ,zK,zL,zM,zN,zO,zP,zR,zS]at hcd);omega)
            |with_reducible refine hold ?_ ?_
            |with_reducible refine And.intro ?_ ?_
            |(with_reducible intro hcd;(try simp only [zA,zB,zC,zD,zE,zF,zG,zH,zI,zJ,zK,zL,zM,zN,zO,zP]at hcd);try cbv)
            | (refine qP ?_ (c12) ?hfit
               case hfit=>((repeat' (first|exact qB|refine qD ?_ ?_|exact qE (by rfl)|exact qF (by rfl)|exact Fit.refl _|exact qA|refine qC ?_ rfl ?_));done)
               try cbv)
            | (refine qP ?_ (c24 hQ1) ?hfit
               case hfit=>((refine qD (ua1 (by(try clear c12 c20y c25 c14 c14x c14y c21 c21x c21y c22 c22x c22y c26 c24 oX oY pX);(try simp only [qV]at *);(try simp only [zQ,zA,zB,zC,zD,zE,zF,zG,zH,zI,zJ,zK,zL,zM,zN,zO,zP,zR,zS]at *);omega) (fun _ _ _=>Fit.refl _)) (qD (ua1 (by(try clear c12 c20y c25 c14 c14x c14y c21 c21x c21y c22 c22x c22y c26 c24 oX oY pX);(try simp only [qV]at *);(try simp only [zQ,zA,zB,zC,zD,zE,zF,zG,zH,zI,zJ,zK,zL,zM,zN,zO,zP,zR,zS]at *);omega) (fun _ _ _=>Fit.refl _)) qB));done)
               try cbv)
            |fail)
        all_goals first
          |(with_reducible refine ulm h33 ?_ ?_)<;>simp only [List.length_cons,List.length_nil]
          |(subst hR;exact Fit.refl _)
          |((try clear c12);(try clear c24);(try clear eqb);(refine qN ?_);(try clear c12 c20y c25 c14 c14x c14y c21 c21x c21y c22 c22x c22y c26 c24 oX oY pX);(try simp only [qV]at *);(try simp only [zQ,zA,zB,zC,zD,zE,zF,zG,zH,zI,zJ,zK,zL,zM,zN,zO,zP,zR,zS]at *);omega)
          |(exfalso;exact(by assumption:¬True) True.intro)
          |((try clear c12);(try clear c24);(try clear eqb);(simp only [Hold]);(try clear c12 c20y c25 c14 c14x c14y c21 c21x c21y c22 c22x c22y c26 c24 oX oY pX);(try simp only [qV]at *);(try simp only [zQ,zA,zB,zC,zD,zE,zF,zG,zH,zI,zJ,zK,zL,zM,zN,zO,zP,zR,zS]at *);exact⟨by omega,by omega⟩)
          |((try clear c12);(try clear c24);(try clear eqb);((try simp only [zQ,zA,zB,zC,zD,zE,zF,zG,zH,zI,zJ,zK,zL,zM,zN,zO,zP,zR,zS]at *);refine⟨⟨s+1,by((try clear c12 c20y c25 c14 c14x c14y c21 c21x c21y c22 c22x c22y c26 c24 oX oY pX);(try simp only [qV]at *);(try simp only [zQ,zA,zB,zC,zD,zE,zF,zG,zH,zI,zJ,zK,zL,zM,zN,zO,zP,zR,zS]at *);omega)⟩,by simp only [];omega,?_⟩;cbv;(repeat' (first|with_reducible refine hold ?_ ?_|with_reducible refine And.intro ?_ ?_));(all_goals first|exact True.intro|exact qM (qE (by rfl))|exact qM (qF (by rfl))|exact qM (Fit.refl _)|exact qL (qK _)|(refine qM (qE ?_);(try simp only [qV]at *);simp only [zQ,zA,zB,zC,zD,zE,zF,zG,zH,zI,zJ,zK,zL,zM,zN,zO,zP,zR,zS]at *;omega)|skip)))
          |skip))
theorem law5 (d:Dsp)(w b:Int)(hw:0≤w∧w≤255)(hb:0≤b∧b≤255)(hz:d.fs.length*48≤140737488351232):ua0 Try.prog 5 [(dspS d),(.int .u8 (.sym fun _=>w)),(.int .u8 (.sym fun _=>b))] [] (fun r _=>r=(.bool (.lit true))):=by
  cases h:udU d with
  |false=>exact uwd d w b hw hb h
  | true=>
    have K:∀m:Nat,0<m→w.tmod (zi m)=zi (w.tmod (zi m)).toNat∧(w.tmod (zi m)).toNat<m:=fun m hm=>by
      have q:=uvc hw.1 (show 1≤zi m by simp only [uax];omega)
      simp only [uax]at q⊢
      omega
    rcases Nat.eq_zero_or_pos d.ls.length with hn|hn<;>rcases Nat.eq_zero_or_pos d.fs.length with hm|hm
    · exact uw8 d w b hw hb hz h hn hm _ _ _ _ _ _ rfl rfl rfl rfl (K _) (K _) _ _ _ _ _ rfl rfl rfl rfl rfl
    · exact uvk d w b hw hb hz h hn hm _ _ _ _ _ _ rfl rfl rfl rfl (K _) (K _) _ _ _ _ _ rfl rfl rfl rfl rfl
    · exact uvU d w b hw hb hz h hn hm _ _ _ _ _ _ rfl rfl rfl rfl (K _) (K _) _ _ _ _ _ rfl rfl rfl rfl rfl
    · exact uvX d w b hw hb hz h hn hm _ _ _ _ _ _ rfl rfl rfl rfl (K _) (K _) _ _ _ _ _ rfl rfl rfl rfl rfl
end Go.Proofs.Ytkdggbfknlcdaaa
