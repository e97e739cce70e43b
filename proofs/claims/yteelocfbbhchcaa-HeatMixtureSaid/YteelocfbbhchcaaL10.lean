/- HeatMixture: what the law computes. No condition. -/
import Derived.Test.YteelocfbbhchcaaT6
set_option linter.unusedVariables false
set_option linter.unusedSimpArgs false
set_option linter.deprecated false
set_option linter.all false

namespace Go.Proofs.Yteelocfbbhchcaa
open Go Go.Eng Go.Proofs
set_option maxRecDepth 10000
def smL (f:PorT→Int):List PorT→Int
  |[]=>0
  |x::t=>f x+smL f t
theorem sm_app (f:PorT→Int)(a b:List PorT):smL f (a++b)=smL f a+smL f b:=by
  induction a with
  |nil=>simp [smL]
  |cons x t ih=>simp only [List.cons_append,smL,ih];omega
theorem sumF_shift (f:Nat→Int)(n:Nat):sumF f (n+1)=f 0+sumF (fun i=>f (i+1)) n:=by
  induction n with
  |zero=>simp [sumF]
  |succ n ih=>rw [show sumF f (n+1+1)=sumF f (n+1)+f (n+1)from rfl,ih];simp only [sumF];omega
theorem sum_sm (f:PorT→Int):∀l:List PorT,sumF (fun i=>f (l.getD i q0)) l.length=smL f l:=by
  intro l
  induction l with
  |nil=>rfl
  | cons x t ih=>
    rw [List.length_cons,sumF_shift]
    simp only [smL]
    rw [←ih]
    rfl
def pQ (p:PorT):Int:=p.q
def pL (p:PorT):Int:=p.q*p.lo
def pH (p:PorT):Int:=p.q*p.hi
theorem mix_sm (l:List PorT):mixLo l=(smL pL l).tdiv (smL pQ l)∧mixHi l=(smL pH l).tdiv (smL pQ l):=by
  unfold mixLo mixHi
  rw [←sum_sm pL,←sum_sm pQ,←sum_sm pH]
  exact⟨rfl,rfl⟩
theorem pors_all {l:List PorT}:(∀i,i<l.length→porOk (l.getD i q0))↔∀x∈l,porOk x:=by
  constructor
  · intro h x hx
    obtain⟨i,hi,e⟩:=List.getElem_of_mem hx
    have:=h i hi
    rw [List.getD_eq_getElem?_getD,List.getElem?_eq_getElem hi,Option.getD_some,e]at this
    exact this
  · intro h i hi
    rw [List.getD_eq_getElem?_getD,List.getElem?_eq_getElem hi]
    exact h _ (List.getElem_mem hi)
theorem porsOk_iff {l:List PorT}:PorsOk l↔l.length≠0∧l.length≤5∧∀x∈l,porOk x:=by
  constructor
  · intro h;exact⟨h.n1,h.n5,pors_all.1 h.p⟩
  · rintro⟨a,b,d⟩;exact⟨a,b,pors_all.2 d⟩
def rotL (l:List PorT)(k:Nat):List PorT:=l.drop k++l.take k
theorem rot_len (l:List PorT)(k:Nat):(rotL l k).length=l.length:=by
  unfold rotL
  rw [List.length_append,List.length_drop,List.length_take]
  omega
theorem rot_sm (f:PorT→Int)(l:List PorT)(k:Nat):smL f (rotL l k)=smL f l:=by
  have h:=sm_app f (l.take k) (l.drop k)
  rw [List.take_append_drop]at h
  unfold rotL
  rw [sm_app,h]
  omega
theorem rot_ok {l:List PorT}(h:PorsOk l)(k:Nat):PorsOk (rotL l k):=by
  rw [porsOk_iff]at h⊢
  rw [rot_len]
  refine⟨h.1,h.2.1,fun x hx=>h.2.2 x ?_⟩
  unfold rotL at hx
  rcases List.mem_append.1 hx with q|q
  · exact List.mem_of_mem_drop q
  · exact List.mem_of_mem_take q
theorem rot_mix (l:List PorT)(k:Nat):mixLo (rotL l k)=mixLo l∧mixHi (rotL l k)=mixHi l:=by
  have a:=mix_sm (rotL l k)
  have b:=mix_sm l
  rw [rot_sm,rot_sm,rot_sm]at a
  exact⟨a.1.trans b.1.symm,a.2.trans b.2.symm⟩
theorem rot_lo {l:List PorT} {k i:Nat}(h:i<l.length-k):(rotL l k).getD i q0=l.getD (k+i) q0:=by
  unfold rotL
  simp only [List.getD_eq_getElem?_getD]
  rw [List.getElem?_append_left (by rw [List.length_drop];exact h),List.getElem?_drop]
theorem rot_hi {l:List PorT} {k i j:Nat}(hk:k≤l.length)(h:i<k)(hj:j=l.length-k+i):(rotL l k).getD j q0=l.getD i q0:=by
  unfold rotL
  simp only [List.getD_eq_getElem?_getD]
  rw [List.getElem?_append_right (by rw [List.length_drop];omega),List.length_drop,List.getElem?_take,if_pos (by omega),show j-(l.length-k)=i by omega]
def divL (l:List PorT)(i:Nat)(n:Int):List PorT:=l.set i ⟨(l.getD i q0).q-n,(l.getD i q0).lo,(l.getD i q0).hi⟩
def twoL (l:List PorT)(i:Nat)(n:Int):List PorT:=divL l i n++[⟨n,(l.getD i q0).lo,(l.getD i q0).hi⟩]
theorem set_sm (f:PorT→Int):∀(l:List PorT) (i:Nat) (x:PorT),i<l.length→smL f (l.set i x)=smL f l-f (l.getD i q0)+f x:=by
  intro l
  induction l with
  |nil=>intro i x h;cases h
  | cons y t ih=>
    intro i x h
    cases i with
    |zero=>simp [smL];omega
    | succ i=>
      have:=ih i x (by simpa using h)
      simp only [List.set_cons_succ,smL,this,List.getD_cons_succ]
      omega
theorem two_sm {l:List PorT} {i:Nat}(h:i<l.length)(n:Int):smL pQ (twoL l i n)=smL pQ l∧smL pL (twoL l i n)=smL pL l∧smL pH (twoL l i n)=smL pH l:=by
  unfold twoL divL
  rw [sm_app,sm_app,sm_app,set_sm _ _ _ _ h,set_sm _ _ _ _ h,set_sm _ _ _ _ h]
  simp only [smL,pQ,pL,pH,Int.sub_mul]
  omega
theorem two_mix {l:List PorT} {i:Nat}(h:i<l.length)(n:Int):mixLo (twoL l i n)=mixLo l∧mixHi (twoL l i n)=mixHi l:=by
  have a:=mix_sm (twoL l i n)
  have b:=mix_sm l
  have e:=two_sm h n
  rw [e.1,e.2.1,e.2.2]at a
  exact⟨a.1.trans b.1.symm,a.2.trans b.2.symm⟩
theorem two_ok {l:List PorT}(h:PorsOk l) {i:Nat}(hi:i<l.length) {n:Int}(h5:l.length≠5)(n0:1≤n)(n1:n<(l.getD i q0).q):PorsOk (twoL l i n):=by
  have hp:=h.p i hi
  rw [porsOk_iff]at h⊢
  unfold porOk at hp
  unfold twoL divL
  rw [List.length_append,List.length_set]
  refine⟨by simp,by simp only [List.length_cons,List.length_nil];omega,fun x hx=> ?_⟩
  rcases List.mem_append.1 hx with q|q
  · rcases List.mem_or_eq_of_mem_set q with q|q
    · exact h.2.2 x q
    · rw [q];unfold porOk;simp only;omega
  · rw [List.mem_singleton.1 q];unfold porOk;simp only;omega
def mnF (f:Nat→Int):Nat→Int
  |0=>f 0
  |n+1=>min (mnF f n) (f n)
def mxF (f:Nat→Int):Nat→Int
  |0=>f 0
  |n+1=>max (mxF f n) (f n)
theorem mnF_le {f:Nat→Int} {n i:Nat}(h:i<n):mnF f n≤f i:=by
  induction n with
  |zero=>omega
  | succ n ih=>
    simp only [mnF]
    by_cases e:i=n
    · subst e;omega
    · have:=ih (by omega);omega
theorem mxF_ge {f:Nat→Int} {n i:Nat}(h:i<n):f i≤mxF f n:=by
  induction n with
  |zero=>omega
  | succ n ih=>
    simp only [mxF]
    by_cases e:i=n
    · subst e;omega
    · have:=ih (by omega);omega
theorem sum_le {f g:Nat→Int} {n:Nat}(h:∀i,i<n→f i≤g i):sumF f n≤sumF g n:=by
  induction n with
  |zero=>exact Int.le_refl _
  | succ n ih=>
    have a:=ih fun i hi=>h i (by omega)
    have b:=h n (by omega)
    simp only [sumF];omega
theorem sum_mul (b:Int)(f:Nat→Int)(n:Nat):sumF (fun i=>f i*b) n=sumF f n*b:=by
  induction n with
  |zero=>simp [sumF]
  |succ n ih=>simp only [sumF,ih,Int.add_mul]
theorem mix_between {l:List PorT}(h:PorsOk l):mnF (fun i=>(l.getD i q0).lo) l.length≤mixLo l∧mixLo l≤mixHi l∧mixHi l≤mxF (fun i=>(l.getD i q0).hi) l.length:=by
  have hw:=h.whole
  have hs:=h.sums (i:=l.length) (Nat.le_refl _)
  have a:sumF (qF l) l.length*mnF (fun i=>(l.getD i q0).lo) l.length≤sumF (loF l) l.length:=by
    rw [←sum_mul]
    exact sum_le fun i hi=>Int.mul_le_mul_of_nonneg_left (mnF_le (f:=fun i=>(l.getD i q0).lo) hi) (by have:=(h.bd hi).1;unfold qF at this;(try unfold qF);omega)
  have b:sumF (hiF l) l.length≤sumF (qF l) l.length*mxF (fun i=>(l.getD i q0).hi) l.length:=by
    rw [←sum_mul]
    exact sum_le fun i hi=>Int.mul_le_mul_of_nonneg_left (mxF_ge (f:=fun i=>(l.getD i q0).hi) hi) (by have:=(h.bd hi).1;unfold qF at this;(try unfold qF);omega)
  have d:sumF (loF l) l.length≤sumF (hiF l) l.length:=sum_le fun i hi=>by
    have:=h.p i hi
    unfold porOk at this
    exact Int.mul_le_mul_of_nonneg_left this.2.2.2.1 (by omega)
  unfold mixLo mixHi
  rw [Int.tdiv_eq_ediv_of_nonneg hs.2.1.1,Int.tdiv_eq_ediv_of_nonneg hs.2.2.1]
  refine⟨?_,Int.ediv_le_ediv (by omega) d,?_⟩
  · rw [Int.le_ediv_iff_mul_le (by omega),Int.mul_comm];exact a
  · refine Int.ediv_le_of_le_mul (by omega) ?_
    rw [Int.mul_comm];exact b
end Go.Proofs.Yteelocfbbhchcaa

namespace Go.Proofs.Yteelocfbbhchcaa
open Go Go.Eng Go.Proofs
set_option maxRecDepth 10000
def sc10b :SC:=[(3,[⟨0,false,[],false,0,none⟩,⟨1,false,[0],false,0,none⟩,⟨2,false,[],false,0,none⟩,⟨3,false,[2],false,0,none⟩,⟨4,false,[0,1,2,3],false,0,none⟩,⟨5,false,[],false,0,none⟩,⟨6,false,[5],false,0,none⟩,⟨7,false,[],false,0,none⟩,⟨8,false,[7],false,0,none⟩,⟨9,false,[5,6,7,8],false,0,none⟩,⟨10,false,[0,1,2,3,4],false,0,none⟩,⟨11,true,[0,1,2,3,4,5,6,7,8,9,10],false,0,none⟩]),(4,[⟨0,false,[],false,0,none⟩,⟨1,false,[],false,0,none⟩,⟨2,false,[],false,0,none⟩,⟨3,false,[1,2],false,0,none⟩,⟨5,false,[],false,0,none⟩,⟨6,false,[],false,0,none⟩,⟨7,false,[5,6],false,0,none⟩,⟨4,false,[0,1,2,3],false,0,none⟩,⟨8,true,[0,1,2,3,4,5,6,7],false,0,none⟩,⟨9,true,[0,1,2,3,4,5,6,7,8],false,0,none⟩]),(7,[⟨0,false,[],false,0,none⟩,⟨1,false,[0],false,0,none⟩,⟨2,false,[0,1],false,0,none⟩,⟨3,false,[0,1,2],false,0,none⟩,⟨4,false,[0,1,2,3],false,0,none⟩,⟨5,false,[],false,0,none⟩,⟨6,false,[5],false,0,none⟩,⟨7,false,[5,6],false,0,none⟩,⟨8,false,[5,6,7],false,0,none⟩,⟨9,false,[5,6,7,8],false,0,none⟩,⟨10,false,[0,1,2,3,4],false,0,none⟩,⟨11,true,[0,1,2,3,4,5,6,7,8,9,10],false,0,none⟩]),(11,[⟨0,false,[],false,0,none⟩,⟨1,false,[],false,0,none⟩,⟨2,false,[],false,0,none⟩,⟨3,false,[1,2],false,0,none⟩,⟨4,false,[1,2,3],false,0,none⟩,⟨5,false,[1,2,3,4],false,0,none⟩,⟨6,false,[1,2,3,4,5],false,0,none⟩,⟨7,false,[0,1,2,3,4,5,6],false,0,none⟩,⟨8,false,[],false,0,none⟩,⟨9,false,[],false,0,none⟩,⟨10,false,[],false,0,none⟩,⟨11,false,[9,10],false,0,none⟩,⟨12,false,[9,10,11],false,0,none⟩,⟨13,false,[9,10,11,12],false,0,none⟩,⟨14,false,[9,10,11,12,13],false,0,none⟩,⟨15,false,[8,9,10,11,12,13,14],false,0,none⟩,⟨16,false,[0,1,2,3,4,5,6,7],false,0,none⟩,⟨17,true,[0,1,2,3,4,5,6,7,8,9,10,11,12,13,14,15,16],false,0,none⟩])]
theorem rem_as {a b q:Int} {K:Int→Prop}(h:K q)(hb:Hold (b≠0))(hq:a.tmod b=q):∃q,(∀_:Unit,remOb a b q)∧K q:=by
  subst hq
  exact qU h hb
theorem div_len (l:List PorT)(i:Nat)(M:Int):(divL l i M).length=l.length:=by unfold divL;rw [List.length_set]
theorem div_other {l:List PorT} {i j:Nat} {M:Int}(h:j≠i):(divL l i M).getD j q0=l.getD j q0:=by
  unfold divL
  simp only [List.getD_eq_getElem?_getD]
  rw [List.getElem?_set_ne (fun e=>h e.symm)]
theorem div_at {l:List PorT} {i:Nat} {M:Int}(h:i<l.length):(divL l i M).getD i q0=⟨(l.getD i q0).q-M,(l.getD i q0).lo,(l.getD i q0).hi⟩:=by
  unfold divL
  rw [List.getD_eq_getElem?_getD,List.getElem?_set_self h];rfl
theorem two_len (l:List PorT)(i:Nat)(M:Int):(twoL l i M).length=l.length+1:=by unfold twoL;rw [List.length_append,div_len];rfl
theorem two_lo {l:List PorT} {i j:Nat} {M:Int}(h:j<l.length):(twoL l i M).getD j q0=(divL l i M).getD j q0:=by
  unfold twoL
  simp only [List.getD_eq_getElem?_getD]
  rw [List.getElem?_append_left (by rw [div_len];exact h)]
theorem two_hi {l:List PorT} {i j:Nat} {M:Int}(h:j=l.length):(twoL l i M).getD j q0=⟨M,(l.getD i q0).lo,(l.getD i q0).hi⟩:=by
  unfold twoL
  rw [List.getD_eq_getElem?_getD,List.getElem?_append_right (by rw [div_len];omega),div_len,h,Nat.sub_self];rfl
theorem spec_j {f:FuncId} {args:List SV} {n:Int}(h:FSpec Try.prog f args [] (fun r _=>r = .int .i64 (.sym fun _=>n))) {m:Int}(hb:n=m):FSpec Try.prog f args [] (fun r _=>r = .int .i64 (.lit m)):=h.post fun r bs q=>⟨_,by subst q;exact qE hb,rfl⟩
theorem mix_lit {l:List PorT}(h:PorsOk l) {a b:Int}(ha:mixLo l=a)(hb:mixHi l=b):FSpec Try.prog 38 [(porS l)] [] (fun r _=>r=(.tup [(.agg [(.int .i64 (.sym fun _=>a)),(.int .i64 (.sym fun _=>b))]),(.int .i64 (.lit (0)))])):=
  (mix38 l (by have:=h.n5;omega)).post fun r bs q=>⟨_,by subst q;have e:=mixE_iff.2 h;have m:=mx_yes e;exact qD (qC (qE (m.1.trans ha)) rfl (qC (qE (m.2.trans hb)) rfl qA)) (qD (qE e) qB),rfl⟩
theorem law10t (l:List PorT)(b w p:Int)(hb:0≤b∧b≤255)(hw:0≤w∧w≤255)(hp:0≤p∧p≤255)(h:9<l.length∨¬mixE l=0):FSpec Try.prog 10 [(porS l),(.int .u8 (.sym fun _=>b)),(.int .u8 (.sym fun _=>w)),(.int .u8 (.sym fun _=>p))] [] (fun r _=>r=(.bool (.lit true))):=by
  have c15:=awake15
  have c40:=fun h:l.length≤9=>mixfault40 l (by omega)
  refine FSpec.is fun R hR=>qX (sc:=sc10) tyok mix Try.func10 rfl Try.call10 (by kernel_rfl) (by kernel_rfl) ?_
  generalize Try.prog=P at c15 c40⊢
  cbv
  repeat' (first
      |with_reducible refine hold ?_ ?_
      |with_reducible refine And.intro ?_ ?_
      | (with_reducible refine qU ?_ ?_
         try cbv)
      |(with_reducible intro hcd;(try simp only [zA,zB,zC,zD,zE,zF,zG,zH,zI,zJ,zK,zL,zM,zN,zO,zP]at hcd);try cbv)
      | (refine qQ ?_ (c15) ?hfit
         case hfit=>((repeat' (first|exact qB|refine qD ?_ ?_|exact qE (by rfl)|exact qG (by rfl)|exact Fit.refl _|exact qA|refine qC ?_ rfl ?_));done)
         try cbv)
      | (refine qQ ?_ (c40 (show Hold _ from ?_)) ?hfit
         case hfit=>((repeat' (first|exact qB|refine qD ?_ ?_|exact qE (by rfl)|exact qG (by rfl)|exact Fit.refl _|exact qA|refine qC ?_ rfl ?_));done)
         try cbv)
      |fail)
  all_goals first
    |((try clear c15);(try clear c40);((try simp only [qW]at *);(try simp only [zQ,zA,zB,zC,zD,zE,zF,zG,zH,zI,zJ,zK,zL,zM,zN,zO,zP,zR,zS]at *);first|(refine qO ?_;omega)|(simp only [Hold];omega)))
    |((try clear c15);(try clear c40);(subst hR;(repeat' (first|exact qA|exact qB|refine qC ?_ rfl ?_|refine qD ?_ ?_|exact qE (by rfl)|exact qG (by rfl)|exact Fit.refl _|exact qH _|(refine qE ?_;(try simp only [qW]at *);simp only [zQ,zA,zB,zC,zD,zE,zF,zG,zH,zI,zJ,zK,zL,zM,zN,zO,zP,zR,zS]at *;omega)));done))
    |((try clear c15);(try clear c40);(exfalso;(try simp only [qW]at *);(try simp only [zQ,zA,zB,zC,zD,zE,zF,zG,zH,zI,zJ,zK,zL,zM,zN,zO,zP,zR,zS]at *);omega))
    |skip
set_option maxHeartbeats 1000000 in
theorem law10y (l:List PorT)(b w p:Int)(hb:0≤b∧b≤255)(hw:0≤w∧w≤255)(hp:0≤p∧p≤255)(hl:PorsOk l)(k i:Nat)(hk:b.tmod (zi l.length)=zi k)(hkl:k<l.length)(hi:w.tmod (zi l.length)=zi i)(hil:i<l.length):FSpec Try.prog 10 [(porS l),(.int .u8 (.sym fun _=>b)),(.int .u8 (.sym fun _=>w)),(.int .u8 (.sym fun _=>p))] [] (fun r _=>r=(.bool (.lit true))):=by
  have c15:=awake15
  have h33:=eqOk33
  have c40:=spec_j (mixfault40 l (by have:=hl.n5;omega)) (mixE_iff.2 hl)
  have c39:=portions39 l (by have:=hl.n5;omega)
  have c38:=mix_lit hl rfl rfl
  have c39r:=portions39 (rotL l k) (by rw [rot_len];have:=hl.n5;omega)
  have c38r:=mix_lit (rot_ok hl k) (rot_mix l k).1 (rot_mix l k).2
  have c39t:=fun (M:Int)=>portions39 (twoL l i M) (by unfold twoL divL;rw [List.length_append,List.length_set];have:=hl.n5;simp only [List.length_cons,List.length_nil];omega)
  have c38t:=fun (M:Int) (h5:l.length≠5) (n0:1≤M) (n1:M<(l.getD i q0).q)=>mix_lit (two_ok hl hil h5 n0 n1) (two_mix hil M).1 (two_mix hil M).2
  have n5:=hl.n5
  have n1:=hl.n1
  have hbt:=mix_between hl
  have hpi:=hl.p i hil
  unfold porOk at hpi
  obtain⟨m,hm⟩:∃m,p.tmod ((l.getD i q0).q-1)=m:=⟨_,rfl⟩
  have hmb:2≤(l.getD i q0).q→0≤m∧m<(l.getD i q0).q-1:=fun h2=>by subst hm;exact⟨Int.tmod_nonneg _ hp.1,Int.tmod_lt_of_pos _ (by omega)⟩
  refine FSpec.is fun R hR=>qX (sc:=sc10b) tyok mix Try.func10 rfl Try.call10 (by kernel_rfl) (by kernel_rfl) ?_
  generalize Try.prog=P at c15 h33 c40 c39 c38 c39r c38r c39t c38t⊢
  cbv
  repeat' (first
      | (refine rem_as ?_ ?_ (show _=zi k from hk)
         try cbv)
      | (refine rem_as ?_ ?_ (show _=zi i from hi)
         try cbv)
      |with_reducible refine hold ?_ ?_
      |with_reducible refine And.intro ?_ ?_
      |(with_reducible intro hcd;(try simp only [zA,zB,zC,zD,zE,zF,zG,zH,zI,zJ,zK,zL,zM,zN,zO,zP]at hcd);try cbv)
      | (refine qQ ?_ (c15) ?hfit
         case hfit=>((repeat' (first|exact qB|refine qD ?_ ?_|exact qE (by rfl)|exact qG (by rfl)|exact Fit.refl _|exact qA|refine qC ?_ rfl ?_));done)
         try cbv)
      | (refine qQ ?_ (c40) ?hfit
         case hfit=>((repeat' (first|exact qB|refine qD ?_ ?_|exact qE (by rfl)|exact qG (by rfl)|exact Fit.refl _|exact qA|refine qC ?_ rfl ?_));done)
         try cbv)
      | (refine qQ ?_ (c39) ?hfit
         case hfit=>((repeat' (first|exact qB|refine qD ?_ ?_|exact qE (by rfl)|exact qG (by rfl)|exact Fit.refl _|exact qA|refine qC ?_ rfl ?_));done)
         try cbv)
      | (refine qQ ?_ (c38) ?hfit
         case hfit=>((repeat' (first|exact qB|refine qD ?_ ?_|exact qE (by rfl)|exact qG (by rfl)|exact Fit.refl _|exact qA|refine qC ?_ rfl ?_));done)
         try cbv)
      | (refine⟨some [],(25:Nat),?_⟩
         cbv
         refine setl_k ?_ (c39r) (by cbv;(refine qD (fit_sl (by first|(simp only [rot_len];((try simp only [qW]at *);(try simp only [zQ,zA,zB,zC,zD,zE,zF,zG,zH,zI,zJ,zK,zL,zM,zN,zO,zP,zR,zS]at *));omega)|((try simp only [qW]at *);(try simp only [zQ,zA,zB,zC,zD,zE,zF,zG,zH,zI,zJ,zK,zL,zM,zN,zO,zP,zR,zS]at *);omega)) (fun _ _ _=>Fit.refl _)) qB))
         try cbv
         fail_if_success (show False))
      | (refine qQ ?_ (c38r) ?hfit
         case hfit=>((repeat' (first|exact qB|refine qD ?_ ?_|exact qE (by rfl)|exact qG (by rfl)|exact Fit.refl _|exact qA|refine qC ?_ rfl ?_));done)
         try cbv)
      | (refine⟨fun ix=>[(.int .i64 (.sym fun _=>(((rotL l k)).getD ix.den.toNat q0).q)),(.int .i64 (.sym fun _=>(((rotL l k)).getD ix.den.toNat q0).lo)),(.int .i64 (.sym fun _=>(((rotL l k)).getD ix.den.toNat q0).hi))],?_⟩
         cbv
         refine hold (hold_rowapp (by intro ix jx h0 h1 h2;(have e:=rot_lo (l:=l) (k:=k) (i:=jx.den.toNat) (by simp only [h2];(try simp only [qW]at *);(try simp only [zQ,zA,zB,zC,zD,zE,zF,zG,zH,zI,zJ,zK,zL,zM,zN,zO,zP,zR,zS]at *);omega));(have e2:k+jx.den.toNat=(zi k+ix.den).toNat:=by simp only [h2,zi_den];omega);(rw [e2]at e);simp only [e];exact Fit.refl _) (by intro ix jx h0 h1 h2;(have e:=rot_hi (l:=l) (k:=k) (i:=(0+ix.den).toNat) (j:=jx.den.toNat) (by omega) (by simp only [zA,zB,zQ]at *;omega) (by simp only [h2];simp only [zA,zB,zF,zQ]at *;omega));simp only [e];exact Fit.refl _) (by(try simp only [qW]at *);(try simp only [zQ,zA,zB,zC,zD,zE,zF,zG,zH,zI,zJ,zK,zL,zM,zN,zO,zP,zR,zS]at *);omega)) (Or.inl ?_)
         try cbv)
      |fail)
  all_goals first
    |((try clear c15);(try clear c40);(try clear c39);(try clear c38);(try clear c39r);(try clear c38r);(try clear c39t);(try clear c38t);((try simp only [qW]at *);(try simp only [zQ,zA,zB,zC,zD,zE,zF,zG,zH,zI,zJ,zK,zL,zM,zN,zO,zP,zR,zS]at *);first|(refine qO ?_;omega)|(simp only [Hold];omega)))
    |((try clear c15);(try clear c40);(try clear c39);(try clear c38);(try clear c39r);(try clear c38r);(try clear c39t);(try clear c38t);(subst hR;(repeat' (first|exact qA|exact qB|refine qC ?_ rfl ?_|refine qD ?_ ?_|exact qE (by rfl)|exact qG (by rfl)|exact Fit.refl _|exact qH _|(refine qE ?_;(try simp only [qW]at *);simp only [zQ,zA,zB,zC,zD,zE,zF,zG,zH,zI,zJ,zK,zL,zM,zN,zO,zP,zR,zS]at *;omega)));done))
    |skip
  refine⟨none,[],{n:Nat // n≤l.length},fun x=>⟨[(0,(porS l)),(2,(.int .u8 (.sym fun _=>w))),(3,(.int .u8 (.sym fun _=>p))),(10,(.int .i64 (.sym fun _=>zi i))),(12,.own 37 0),(14,.own 46 0),(13,(.int .i64 (.lit (0)))),(15,(.int .i64 (.lit (0)))),(16,(.int .i64 (.sym fun _=>mnF (fun i=>(l.getD i q0).lo) x.1))),(17,(.int .i64 (.sym fun _=>mxF (fun i=>(l.getD i q0).hi) x.1))),(18,(.int .i64 (.sym fun _=>zi x.1)))],[(37,.cells [(.int .i64 (.sym fun _=>mixLo l)),(.int .i64 (.sym fun _=>mixHi l))] 33),(46,.cells [(.int .i64 (.sym fun _=>mixLo l)),(.int .i64 (.sym fun _=>mixHi l))] 33)],200⟩,fun x=>l.length-x.1,?_,?_⟩
  · refine⟨⟨0,by omega⟩,?_⟩
    cbv
    repeat' (first
      |with_reducible refine hold ?_ ?_
      |with_reducible refine And.intro ?_ ?_)
    all_goals first
      |trivial
      |exact qN (qE (by rfl))
      |exact qN (Fit.refl _)
      |exact qM (qL _)
      |skip
  · rintro ⟨n,hn⟩
    cbv
    repeat' (first
        | (refine rem_as ?_ ?_ (show _=m from hm)
           try cbv)
        |with_reducible refine hold ?_ ?_
        |with_reducible refine And.intro ?_ ?_
        |(with_reducible intro hcd;(try simp only [zA,zB,zC,zD,zE,zF,zG,zH,zI,zJ,zK,zL,zM,zN,zO,zP]at hcd);try cbv)
        | (refine qQ ?_ (c15) ?hfit
           case hfit=>((repeat' (first|exact qB|refine qD ?_ ?_|exact qE (by rfl)|exact qG (by rfl)|exact Fit.refl _|exact qA|refine qC ?_ rfl ?_));done)
           try cbv)
        | (refine⟨fun ix=>[(.int .i64 (.sym fun _=>(((divL l i (1+m))).getD ix.den.toNat q0).q)),(.int .i64 (.sym fun _=>(((divL l i (1+m))).getD ix.den.toNat q0).lo)),(.int .i64 (.sym fun _=>(((divL l i (1+m))).getD ix.den.toNat q0).hi))],?_⟩
           cbv
           refine hold (hold_rowupd (o2:=0) (x:=_) (by((try simp only [qW]at *);(try simp only [zQ,zA,zB,zC,zD,zE,zF,zG,zH,zI,zJ,zK,zL,zM,zN,zO,zP,zR,zS]at *);omega)) (by intro jx h0 h1 h2;(have e:=div_other (l:=l) (i:=i) (j:=jx.den.toNat) (M:=(1+m)) (by(try simp only [qW]at *);(try simp only [zQ,zA,zB,zC,zD,zE,zF,zG,zH,zI,zJ,zK,zL,zM,zN,zO,zP,zR,zS]at *);omega));simp only [e];exact Fit.refl _) (by intro jx h0 h1 h2;refine⟨_,rfl,?_⟩;(have e:jx.den.toNat=i:=by(try simp only [qW]at *);(try simp only [zQ,zA,zB,zC,zD,zE,zF,zG,zH,zI,zJ,zK,zL,zM,zN,zO,zP,zR,zS]at *);omega);(have e2:=div_at hil (M:=(1+m)));simp only [e,e2];exact(qC (qE (by first|rfl|((try simp only [qW]at *);(try simp only [zQ,zA,zB,zC,zD,zE,zF,zG,zH,zI,zJ,zK,zL,zM,zN,zO,zP,zR,zS]at *);rfl)|((try simp only [qW]at *);(try simp only [zQ,zA,zB,zC,zD,zE,zF,zG,zH,zI,zJ,zK,zL,zM,zN,zO,zP,zR,zS]at *);omega))) rfl (qC (qE (by first|rfl|((try simp only [qW]at *);(try simp only [zQ,zA,zB,zC,zD,zE,zF,zG,zH,zI,zJ,zK,zL,zM,zN,zO,zP,zR,zS]at *);rfl)|((try simp only [qW]at *);(try simp only [zQ,zA,zB,zC,zD,zE,zF,zG,zH,zI,zJ,zK,zL,zM,zN,zO,zP,zR,zS]at *);omega))) rfl (qC (qE (by first|rfl|((try simp only [qW]at *);(try simp only [zQ,zA,zB,zC,zD,zE,zF,zG,zH,zI,zJ,zK,zL,zM,zN,zO,zP,zR,zS]at *);rfl)|((try simp only [qW]at *);(try simp only [zQ,zA,zB,zC,zD,zE,zF,zG,zH,zI,zJ,zK,zL,zM,zN,zO,zP,zR,zS]at *);omega))) rfl qA))))) ?_
           try cbv)
        | (refine⟨fun ix=>[(.int .i64 (.sym fun _=>(((twoL l i (1+m))).getD ix.den.toNat q0).q)),(.int .i64 (.sym fun _=>(((twoL l i (1+m))).getD ix.den.toNat q0).lo)),(.int .i64 (.sym fun _=>(((twoL l i (1+m))).getD ix.den.toNat q0).hi))],?_⟩
           cbv
           refine hold (hold_rowapp (by intro ix jx h0 h1 h2;(have e:=two_lo (l:=l) (i:=i) (j:=ix.den.toNat) (M:=(1+m)) (by(try simp only [qW]at *);(try simp only [zQ,zA,zB,zC,zD,zE,zF,zG,zH,zI,zJ,zK,zL,zM,zN,zO,zP,zR,zS]at *);omega));(have e3:jx.den.toNat=ix.den.toNat:=by rw [h2]);simp only [e3,e];exact Fit.refl _) (by intro ix jx h0 h1 h2;(have e:=two_hi (l:=l) (i:=i) (j:=jx.den.toNat) (M:=(1+m)) (by(try simp only [qW]at *);(try simp only [zQ,zA,zB,zC,zD,zE,zF,zG,zH,zI,zJ,zK,zL,zM,zN,zO,zP,zR,zS]at *);omega));simp only [e];exact(qC (qE (by first|rfl|((try simp only [qW]at *);(try simp only [zQ,zA,zB,zC,zD,zE,zF,zG,zH,zI,zJ,zK,zL,zM,zN,zO,zP,zR,zS]at *);rfl)|((try simp only [qW]at *);(try simp only [zQ,zA,zB,zC,zD,zE,zF,zG,zH,zI,zJ,zK,zL,zM,zN,zO,zP,zR,zS]at *);omega))) rfl (qC (qE (by first|rfl|((try simp only [qW]at *);(try simp only [zQ,zA,zB,zC,zD,zE,zF,zG,zH,zI,zJ,zK,zL,zM,zN,zO,zP,zR,zS]at *);rfl)|((try simp only [qW]at *);(try simp only [zQ,zA,zB,zC,zD,zE,zF,zG,zH,zI,zJ,zK,zL,zM,zN,zO,zP,zR,zS]at *);omega))) rfl (qC (qE (by first|rfl|((try simp only [qW]at *);(try simp only [zQ,zA,zB,zC,zD,zE,zF,zG,zH,zI,zJ,zK,zL,zM,zN,zO,zP,zR,zS]at *);rfl)|((try simp only [qW]at *);(try simp only [zQ,zA,zB,zC,zD,zE,zF,zG,zH,zI,zJ,zK,zL,zM,zN,zO,zP,zR,zS]at *);omega))) rfl qA)))) (by(try simp only [qW]at *);(try simp only [zQ,zA,zB,zC,zD,zE,zF,zG,zH,zI,zJ,zK,zL,zM,zN,zO,zP,zR,zS]at *);omega)) (Or.inl ?_)
           try cbv)
        | (refine⟨some [],(258:Nat),?_⟩
           cbv
           refine setl_k ?_ (c39t (1+m)) (by cbv;(refine qD (fit_sl (by first|(simp only [two_len];((try simp only [qW]at *);(try simp only [zQ,zA,zB,zC,zD,zE,zF,zG,zH,zI,zJ,zK,zL,zM,zN,zO,zP,zR,zS]at *));omega)|((try simp only [qW]at *);(try simp only [zQ,zA,zB,zC,zD,zE,zF,zG,zH,zI,zJ,zK,zL,zM,zN,zO,zP,zR,zS]at *);omega)) (fun _ _ _=>Fit.refl _)) qB))
           try cbv
           fail_if_success (show False))
        | (refine qQ ?_ (c38t (1+m) (by((try simp only [qW]at *);(try simp only [zQ,zA,zB,zC,zD,zE,zF,zG,zH,zI,zJ,zK,zL,zM,zN,zO,zP,zR,zS]at *);omega)) (by((try simp only [qW]at *);(try simp only [zQ,zA,zB,zC,zD,zE,zF,zG,zH,zI,zJ,zK,zL,zM,zN,zO,zP,zR,zS]at *);omega)) (by((try simp only [qW]at *);(try simp only [zQ,zA,zB,zC,zD,zE,zF,zG,zH,zI,zJ,zK,zL,zM,zN,zO,zP,zR,zS]at *);omega))) ?hfit
           case hfit=>((repeat' (first|exact qB|refine qD ?_ ?_|exact qE (by rfl)|exact qG (by rfl)|exact Fit.refl _|exact qA|refine qC ?_ rfl ?_));done)
           try cbv)
        |fail)
    all_goals first
      |trivial
      |((try clear c15);(try clear c40);(try clear c39);(try clear c38);(try clear c39r);(try clear c38r);(try clear c39t);(try clear c38t);((try simp only [qW]at *);(try simp only [zQ,zA,zB,zC,zD,zE,zF,zG,zH,zI,zJ,zK,zL,zM,zN,zO,zP,zR,zS]at *);first|(refine qO ?_;omega)|(simp only [Hold];omega)))
      |((try clear c15);(try clear c40);(try clear c39);(try clear c38);(try clear c39r);(try clear c38r);(try clear c39t);(try clear c38t);(subst hR;(repeat' (first|exact qA|exact qB|refine qC ?_ rfl ?_|refine qD ?_ ?_|exact qE (by rfl)|exact qG (by rfl)|exact Fit.refl _|exact qH _|(refine qE ?_;(try simp only [qW]at *);simp only [zQ,zA,zB,zC,zD,zE,zF,zG,zH,zI,zJ,zK,zL,zM,zN,zO,zP,zR,zS]at *;omega)));done))
      |((try clear c15);(try clear c40);(try clear c39);(try clear c38);(try clear c39r);(try clear c38r);(try clear c39t);(try clear c38t);(exfalso;(try simp only [qW]at *);(try simp only [zQ,zA,zB,zC,zD,zE,zF,zG,zH,zI,zJ,zK,zL,zM,zN,zO,zP,zR,zS]at *);omega))
      |((try clear c15);(try clear c40);(try clear c39);(try clear c38);(try clear c39r);(try clear c38r);(try clear c39t);(try clear c38t);((try simp only [zQ,zA,zB,zC,zD,zE,zF,zG,zH,zI,zJ,zK,zL,zM,zN,zO,zP,zR,zS]at *);refine⟨⟨n+1,by omega⟩,by simp only [];omega,?_⟩;cbv;(repeat' (first|with_reducible refine hold ?_ ?_|with_reducible refine And.intro ?_ ?_));(all_goals first|trivial|exact qN (qE (by rfl))|exact qN (qG (by rfl))|exact qN (Fit.refl _)|exact qM (qL _)|(refine qN (qE ?_);(try simp only [qW]at *);simp only [zQ,zA,zB,zC,zD,zE,zF,zG,zH,zI,zJ,zK,zL,zM,zN,zO,zP,zR,zS]at *;omega)|(refine qM (qK ?_);(repeat' (first|exact qA|exact qB|refine qC ?_ rfl ?_|refine qD ?_ ?_|exact qE (by rfl)|exact qG (by rfl)|exact Fit.refl _|exact qH _|(refine qE ?_;(try simp only [qW]at *);simp only [zQ,zA,zB,zC,zD,zE,zF,zG,zH,zI,zJ,zK,zL,zM,zN,zO,zP,zR,zS]at *;omega)));done)|(refine qN (qE ?_);(try simp only [qW]at *);(try simp only [zQ,zA,zB,zC,zD,zE,zF,zG,zH,zI,zJ,zK,zL,zM,zN,zO,zP,zR,zS]at *);simp only [mnF,mxF];omega)|skip)))
      |((try clear c15);(try clear c40);(try clear c39);(try clear c38);(try clear c39r);(try clear c38r);(try clear c39t);(try clear c38t);(exfalso;(have hie:n=l.length:=(by((try simp only [qW]at *);(try simp only [zQ,zA,zB,zC,zD,zE,zF,zG,zH,zI,zJ,zK,zL,zM,zN,zO,zP,zR,zS]at *);omega)));subst hie;(try simp only [qW]at *);(try simp only [zQ,zA,zB,zC,zD,zE,zF,zG,zH,zI,zJ,zK,zL,zM,zN,zO,zP,zR,zS]at *);omega))
      |skip
theorem tmod_nat {b n:Int}(hb:0≤b)(hn:0<n):b.tmod n=zi (b.tmod n).toNat∧((b.tmod n).toNat:Int)<n:=by
  have h1:=Int.tmod_nonneg n hb
  have h2:=Int.tmod_lt_of_pos b hn
  simp only [zi_den]
  omega
theorem law10 (l:List PorT)(b w p:Int)(hb:0≤b∧b≤255)(hw:0≤w∧w≤255)(hp:0≤p∧p≤255):FSpec Try.prog 10 [(porS l),(.int .u8 (.sym fun _=>b)),(.int .u8 (.sym fun _=>w)),(.int .u8 (.sym fun _=>p))] [] (fun r _=>r = .bool (.lit true)):=by
  by_cases h:9<l.length∨¬mixE l=0
  · exact law10t l b w p hb hw hp h
  · have h0:mixE l=0:=Classical.byContradiction fun q=>h (.inr q)
    have hl:=mixE_iff.1 h0
    have hn:(0:Int)<zi l.length:=by have:=hl.n1;simp only [zi_den];omega
    have e1:=tmod_nat hb.1 hn
    have e2:=tmod_nat hw.1 hn
    exact law10y l b w p hb hw hp hl _ _ e1.1 (by have:=e1.2;simp only [zi_den]at this;exact Int.ofNat_lt.1 this) e2.1 (by have:=e2.2;simp only [zi_den]at this;exact Int.ofNat_lt.1 this)
end Go.Proofs.Yteelocfbbhchcaa
