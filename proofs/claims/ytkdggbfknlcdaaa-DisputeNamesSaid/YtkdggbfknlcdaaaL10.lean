/- DisputeNames: what the law computes. No condition. -/
import Derived.Test.YtkdggbfknlcdaaaT7
set_option linter.unusedVariables false
set_option linter.unusedSimpArgs false
set_option linter.deprecated false
set_option linter.all false

namespace Go.Proofs.Ytkdggbfknlcdaaa
open Go.Eng.Dif Go.Eng.Few
def dT3 :Dsp:=⟨d3.tw,d3.tm,d3.tv,2,3,[⟨0,1,-3,0⟩,⟨1,0,4,9⟩],d3.fs⟩
def bad3 :Dsp:=⟨d3.tw,[-1,10,20],d3.tv,2,3,d3.ls,d3.fs⟩
def sam3 :Dsp:=⟨d3.tw,d3.tm,d3.tv,4,3,d3.ls,d3.fs⟩
def par3 :Dsp:=⟨d3.tw,d3.tm,d3.tv,2,2,d3.ls,d3.fs⟩
def slf3 :Dsp:=⟨d3.tw,d3.tm,d3.tv,2,3,[⟨0,0,-3,0⟩],d3.fs⟩
def wid3 :Dsp:=⟨d3.tw,d3.tm,d3.tv,2,3,[⟨0,1,-2001,0⟩],d3.fs⟩
def pnt3 :Dsp:=⟨d3.tw,d3.tm,d3.tv,2,3,d3.ls,[⟨0,0,9,12,5,6⟩,⟨1,0,14,14,2,3⟩,⟨2,1,10,10,4,4⟩]⟩
def mrk3 :Dsp:=⟨d3.tw,d3.tm,d3.tv,2,3,d3.ls,[⟨0,0,12,12,6,5⟩,⟨1,0,14,14,2,3⟩,⟨2,1,10,10,4,4⟩]⟩
def man3 :Dsp:=⟨d3.tw,d3.tm,d3.tv,2,3,d3.ls,[f0T,f0T,f0T,f0T,f0T,f0T,f0T]⟩
def non3 :Dsp:=⟨[],[],[],0,0,[],[]⟩
theorem fault_bad3 :faultD bad3=1:=by decide +kernel
theorem fault_sam3 :faultD sam3=3:=by decide +kernel
theorem fault_par3 :faultD par3=1:=by decide +kernel
theorem fault_slf3 :faultD slf3=1:=by decide +kernel
theorem fault_wid3 :faultD wid3=1:=by decide +kernel
theorem fault_pnt3 :faultD pnt3=1:=by decide +kernel
theorem fault_mrk3 :faultD mrk3=1:=by decide +kernel
theorem fault_man3 :faultD man3=3:=by decide +kernel
theorem fault_non3 :faultD non3=1:=by decide +kernel
theorem fault_dT3 :faultD dT3=0:=by decide +kernel
theorem firm_dT3 :firmE dT3=9:=firmE_no fault_dT3 xtorn
theorem lea_dT3 :leaL dT3=[]:=by unfold leaL;rw [if_neg (by rw [firm_dT3];decide)]
theorem mean_1 :meanE d3 1=0∧meanL d3 1=98∧meanH d3 1=102:=by
  have h:=meanE_yes (d:=d3) (n:=1) fault3 (by decide)
  exact⟨h.1,h.2.1.trans mean31.1,h.2.2.trans mean31.2⟩
theorem mean_2 :meanE d3 2=0∧meanL d3 2=116∧meanH d3 2=116:=by
  have h:=meanE_yes (d:=d3) (n:=2) fault3 (by decide)
  exact⟨h.1,h.2.1.trans mean32.1,h.2.2.trans mean32.2⟩
theorem mean_3 :meanE d3 3=2:=(meanE_no fault3 (by decide)).1
theorem bnd_3 :bndE d3=11:=by
  refine(bndE_no fault3 ?_).1
  rw [can_nil,FO3];exact xno3
theorem sh_2 :shE d2 0=0∧shN d2 0=2:=shE_yes fault2 (by decide) can2
theorem sh_3 :shE d3 2=2:=shE_out fault3 (by decide)
theorem show_2 :showT d2 0 true 0=119∧showT d2 0 true 1=116:=by
  rw [showT_is,FO2]
  have e:endD (SN d2) (LO d2) xF2 0 true=119:=xend2
  rw [e]
  exact xshow2
theorem fir_2 :firE d2=7:=by
  refine(firE_none firm2 ?_).1
  unfold firO
  rw [FO2];exact xfir2
theorem lea_2 :leaL d2=[]:=by
  rcases bnd_lea firm2 with h|h
  · exact List.length_eq_zero_iff.1 h.2
  · rw [bnd2.1]at h;exact absurd h.1 (by decide)
theorem bel_2 :belL d2=[]:=by
  unfold belL
  rw [if_pos firm2,okPa2]
  exact xpar2.1
theorem may_2 :mayL d2=[]:=by
  unfold mayL mayF
  rw [if_pos firm2,okPa2]
  exact xpar2.2.2.2
theorem ch_T1 :chE dT3 0 100001=2∧chL dT3 0 100001=0∧chH dT3 0 100001=0:=chE_no fault_dT3 (by unfold chOk;decide)
theorem ch_T2 :chE dT3 0 1000=9∧chL dT3 0 1000=0∧chH dT3 0 1000=0:=by
  have h:=chE_fail (s:=0) (g:=1000) fault_dT3 (by unfold chOk;decide) (by rw [firm_dT3];decide)
  exact⟨h.1.trans firm_dT3,h.2⟩
theorem co_3 :coE d3 (-1)=2∧coN d3 (-1)=0:=coE_no fault3 (by unfold coOk;decide)
end Go.Proofs.Ytkdggbfknlcdaaa

namespace Go.Proofs.Ytkdggbfknlcdaaa
open Go Go.Eng Go.Proofs Go.Eng.Dif Go.Eng.Few
set_option maxRecDepth 10000
def sc37m :SC:=[(1,[⟨2001,false,[],false,0,none⟩])]
def sc10b :SC:=[(9,[⟨0,false,[],false,0,none⟩]),(15,[⟨1,false,[],false,0,none⟩]),(20,[⟨0,false,[],false,0,none⟩]),(7,[⟨0,true,[],false,0,none⟩,⟨1,true,[0],false,0,none⟩,⟨2,true,[0,1],true,0,none⟩,⟨3,false,[0,1,2],false,0,none⟩,⟨4,false,[0,1,2],false,0,none⟩,⟨5,true,[0,1,2,3,4],false,0,none⟩,⟨6,true,[0,1,2,3,4,5],false,0,none⟩,⟨7,true,[0,1,2,3,4,5,6],true,0,none⟩,⟨8,true,[0,1,2,3,4,5,6,7],false,0,none⟩,⟨9,true,[0,1,2,3,4,5,6,7,8],false,0,none⟩,⟨10,true,[0,1,2,3,4,5,6,7,8,9],false,0,none⟩,⟨11,true,[0,1,2,3,4,5,6,7,8,9,10],true,0,none⟩,⟨12,false,[0,1,2,3,4,5,6,7,8,9,10,11],false,0,none⟩,⟨13,false,[0,1,2,3,4,5,6,7,8,9,10,11],false,0,none⟩,⟨14,true,[0,1,2,3,4,5,6,7,8,9,10,11,12,13],false,0,none⟩,⟨15,true,[0,1,2,3,4,5,6,7,8,9,10,11,12,13,14],false,0,none⟩,⟨16,true,[0,1,2,3,4,5,6,7,8,9,10,11,12,13,14,15],true,0,none⟩,⟨17,true,[0,1,2,3,4,5,6,7,8,9,10,11,12,13,14,15,16],false,0,none⟩,⟨18,true,[0,1,2,3,4,5,6,7,8,9,10,11,12,13,14,15,16,17],false,0,none⟩,⟨19,true,[0,1,2,3,4,5,6,7,8,9,10,11,12,13,14,15,16,17,18],false,0,none⟩,⟨20,true,[0,1,2,3,4,5,6,7,8,9,10,11,12,13,14,15,16,17,18,19],true,0,none⟩,⟨22,false,[0,1,2,3,4,5,6,7,8,9,10,11,12,13,14,15,16,17,18,19,20],false,0,none⟩,⟨21,false,[0,1,2,3,4,5,6,7,8,9,10,11,12,13,14,15,16,17,18,19,20],false,0,none⟩,⟨23,true,[0,1,2,3,4,5,6,7,8,9,10,11,12,13,14,15,16,17,18,19,20,21,22],false,0,none⟩,⟨24,true,[0,1,2,3,4,5,6,7,8,9,10,11,12,13,14,15,16,17,18,19,20,21,22,23],false,0,none⟩,⟨25,true,[0,1,2,3,4,5,6,7,8,9,10,11,12,13,14,15,16,17,18,19,20,21,22,23,24],false,0,none⟩,⟨26,true,[0,1,2,3,4,5,6,7,8,9,10,11,12,13,14,15,16,17,18,19,20,21,22,23,24,25],true,0,none⟩,⟨27,false,[0,1,2,3,4,5,6,7,8,9,10,11,12,13,14,15,16,17,18,19,20,21,22,23,24,25,26],false,0,none⟩,⟨28,false,[0,1,2,3,4,5,6,7,8,9,10,11,12,13,14,15,16,17,18,19,20,21,22,23,24,25,26],false,0,none⟩,⟨29,true,[0,1,2,3,4,5,6,7,8,9,10,11,12,13,14,15,16,17,18,19,20,21,22,23,24,25,26,27,28],false,0,none⟩,⟨30,true,[0,1,2,3,4,5,6,7,8,9,10,11,12,13,14,15,16,17,18,19,20,21,22,23,24,25,26,27,28,29],false,0,none⟩,⟨31,true,[0,1,2,3,4,5,6,7,8,9,10,11,12,13,14,15,16,17,18,19,20,21,22,23,24,25,26,27,28,29,30],false,0,none⟩,⟨32,true,[0,1,2,3,4,5,6,7,8,9,10,11,12,13,14,15,16,17,18,19,20,21,22,23,24,25,26,27,28,29,30,31],true,0,none⟩,⟨33,true,[0,1,2,3,4,5,6,7,8,9,10,11,12,13,14,15,16,17,18,19,20,21,22,23,24,25,26,27,28,29,30,31,32],false,0,none⟩,⟨34,true,[0,1,2,3,4,5,6,7,8,9,10,11,12,13,14,15,16,17,18,19,20,21,22,23,24,25,26,27,28,29,30,31,32,33],false,0,none⟩,⟨35,true,[0,1,2,3,4,5,6,7,8,9,10,11,12,13,14,15,16,17,18,19,20,21,22,23,24,25,26,27,28,29,30,31,32,33,34],false,0,none⟩,⟨36,true,[0,1,2,3,4,5,6,7,8,9,10,11,12,13,14,15,16,17,18,19,20,21,22,23,24,25,26,27,28,29,30,31,32,33,34,35],true,0,none⟩,⟨37,true,[0,1,2,3,4,5,6,7,8,9,10,11,12,13,14,15,16,17,18,19,20,21,22,23,24,25,26,27,28,29,30,31,32,33,34,35,36],false,0,none⟩,⟨38,true,[0,1,2,3,4,5,6,7,8,9,10,11,12,13,14,15,16,17,18,19,20,21,22,23,24,25,26,27,28,29,30,31,32,33,34,35,36,37],false,0,none⟩,⟨39,true,[0,1,2,3,4,5,6,7,8,9,10,11,12,13,14,15,16,17,18,19,20,21,22,23,24,25,26,27,28,29,30,31,32,33,34,35,36,37,38],false,0,none⟩,⟨40,true,[0,1,2,3,4,5,6,7,8,9,10,11,12,13,14,15,16,17,18,19,20,21,22,23,24,25,26,27,28,29,30,31,32,33,34,35,36,37,38,39],false,0,none⟩,⟨41,true,[0,1,2,3,4,5,6,7,8,9,10,11,12,13,14,15,16,17,18,19,20,21,22,23,24,25,26,27,28,29,30,31,32,33,34,35,36,37,38,39,40],true,0,none⟩,⟨42,true,[0,1,2,3,4,5,6,7,8,9,10,11,12,13,14,15,16,17,18,19,20,21,22,23,24,25,26,27,28,29,30,31,32,33,34,35,36,37,38,39,40,41],false,0,none⟩,⟨43,true,[0,1,2,3,4,5,6,7,8,9,10,11,12,13,14,15,16,17,18,19,20,21,22,23,24,25,26,27,28,29,30,31,32,33,34,35,36,37,38,39,40,41,42],false,0,none⟩,⟨44,true,[0,1,2,3,4,5,6,7,8,9,10,11,12,13,14,15,16,17,18,19,20,21,22,23,24,25,26,27,28,29,30,31,32,33,34,35,36,37,38,39,40,41,42,43],false,0,none⟩,⟨45,true,[0,1,2,3,4,5,6,7,8,9,10,11,12,13,14,15,16,17,18,19,20,21,22,23,24,25,26,27,28,29,30,31,32,33,34,35,36,37,38,39,40,41,42,43,44],true,0,none⟩,⟨46,true,[0,1,2,3,4,5,6,7,8,9,10,11,12,13,14,15,16,17,18,19,20,21,22,23,24,25,26,27,28,29,30,31,32,33,34,35,36,37,38,39,40,41,42,43,44,45],false,0,none⟩,⟨47,true,[0,1,2,3,4,5,6,7,8,9,10,11,12,13,14,15,16,17,18,19,20,21,22,23,24,25,26,27,28,29,30,31,32,33,34,35,36,37,38,39,40,41,42,43,44,45,46],false,0,none⟩,⟨48,true,[0,1,2,3,4,5,6,7,8,9,10,11,12,13,14,15,16,17,18,19,20,21,22,23,24,25,26,27,28,29,30,31,32,33,34,35,36,37,38,39,40,41,42,43,44,45,46,47],false,0,none⟩,⟨49,true,[0,1,2,3,4,5,6,7,8,9,10,11,12,13,14,15,16,17,18,19,20,21,22,23,24,25,26,27,28,29,30,31,32,33,34,35,36,37,38,39,40,41,42,43,44,45,46,47,48],false,0,none⟩,⟨50,true,[0,1,2,3,4,5,6,7,8,9,10,11,12,13,14,15,16,17,18,19,20,21,22,23,24,25,26,27,28,29,30,31,32,33,34,35,36,37,38,39,40,41,42,43,44,45,46,47,48,49],true,0,none⟩,⟨51,true,[0,1,2,3,4,5,6,7,8,9,10,11,12,13,14,15,16,17,18,19,20,21,22,23,24,25,26,27,28,29,30,31,32,33,34,35,36,37,38,39,40,41,42,43,44,45,46,47,48,49,50],false,0,none⟩,⟨52,true,[0,1,2,3,4,5,6,7,8,9,10,11,12,13,14,15,16,17,18,19,20,21,22,23,24,25,26,27,28,29,30,31,32,33,34,35,36,37,38,39,40,41,42,43,44,45,46,47,48,49,50,51],false,0,none⟩,⟨53,true,[0,1,2,3,4,5,6,7,8,9,10,11,12,13,14,15,16,17,18,19,20,21,22,23,24,25,26,27,28,29,30,31,32,33,34,35,36,37,38,39,40,41,42,43,44,45,46,47,48,49,50,51,52],false,0,none⟩,⟨54,true,[0,1,2,3,4,5,6,7,8,9,10,11,12,13,14,15,16,17,18,19,20,21,22,23,24,25,26,27,28,29,30,31,32,33,34,35,36,37,38,39,40,41,42,43,44,45,46,47,48,49,50,51,52,53],true,0,none⟩,⟨55,false,[0,1,2,3,4,5,6,7,8,9,10,11,12,13,14,15,16,17,18,19,20,21,22,23,24,25,26,27,28,29,30,31,32,33,34,35,36,37,38,39,40,41,42,43,44,45,46,47,48,49,50,51,52,53,54],false,0,none⟩,⟨56,false,[0,1,2,3,4,5,6,7,8,9,10,11,12,13,14,15,16,17,18,19,20,21,22,23,24,25,26,27,28,29,30,31,32,33,34,35,36,37,38,39,40,41,42,43,44,45,46,47,48,49,50,51,52,53,54,55],false,0,none⟩,⟨57,false,[0,1,2,3,4,5,6,7,8,9,10,11,12,13,14,15,16,17,18,19,20,21,22,23,24,25,26,27,28,29,30,31,32,33,34,35,36,37,38,39,40,41,42,43,44,45,46,47,48,49,50,51,52,53,54],false,0,none⟩,⟨58,false,[0,1,2,3,4,5,6,7,8,9,10,11,12,13,14,15,16,17,18,19,20,21,22,23,24,25,26,27,28,29,30,31,32,33,34,35,36,37,38,39,40,41,42,43,44,45,46,47,48,49,50,51,52,53,54,57],false,0,none⟩,⟨59,true,[0,1,2,3,4,5,6,7,8,9,10,11,12,13,14,15,16,17,18,19,20,21,22,23,24,25,26,27,28,29,30,31,32,33,34,35,36,37,38,39,40,41,42,43,44,45,46,47,48,49,50,51,52,53,54,55,56,57,58],false,0,none⟩,⟨60,true,[0,1,2,3,4,5,6,7,8,9,10,11,12,13,14,15,16,17,18,19,20,21,22,23,24,25,26,27,28,29,30,31,32,33,34,35,36,37,38,39,40,41,42,43,44,45,46,47,48,49,50,51,52,53,54,55,56,57,58,59],false,0,none⟩,⟨61,true,[0,1,2,3,4,5,6,7,8,9,10,11,12,13,14,15,16,17,18,19,20,21,22,23,24,25,26,27,28,29,30,31,32,33,34,35,36,37,38,39,40,41,42,43,44,45,46,47,48,49,50,51,52,53,54,55,56,57,58,59,60],false,0,none⟩,⟨62,true,[0,1,2,3,4,5,6,7,8,9,10,11,12,13,14,15,16,17,18,19,20,21,22,23,24,25,26,27,28,29,30,31,32,33,34,35,36,37,38,39,40,41,42,43,44,45,46,47,48,49,50,51,52,53,54,55,56,57,58,59,60,61],true,0,none⟩,⟨64,false,[0,1,2,3,4,5,6,7,8,9,10,11,12,13,14,15,16,17,18,19,20,21,22,23,24,25,26,27,28,29,30,31,32,33,34,35,36,37,38,39,40,41,42,43,44,45,46,47,48,49,50,51,52,53,54,55,56,57,58,59,60,61,62],false,0,none⟩,⟨63,false,[0,1,2,3,4,5,6,7,8,9,10,11,12,13,14,15,16,17,18,19,20,21,22,23,24,25,26,27,28,29,30,31,32,33,34,35,36,37,38,39,40,41,42,43,44,45,46,47,48,49,50,51,52,53,54,55,56,57,58,59,60,61,62],false,0,none⟩,⟨65,true,[0,1,2,3,4,5,6,7,8,9,10,11,12,13,14,15,16,17,18,19,20,21,22,23,24,25,26,27,28,29,30,31,32,33,34,35,36,37,38,39,40,41,42,43,44,45,46,47,48,49,50,51,52,53,54,55,56,57,58,59,60,61,62,63,64],false,0,none⟩,⟨66,true,[0,1,2,3,4,5,6,7,8,9,10,11,12,13,14,15,16,17,18,19,20,21,22,23,24,25,26,27,28,29,30,31,32,33,34,35,36,37,38,39,40,41,42,43,44,45,46,47,48,49,50,51,52,53,54,55,56,57,58,59,60,61,62,63,64,65],false,0,none⟩,⟨67,true,[0,1,2,3,4,5,6,7,8,9,10,11,12,13,14,15,16,17,18,19,20,21,22,23,24,25,26,27,28,29,30,31,32,33,34,35,36,37,38,39,40,41,42,43,44,45,46,47,48,49,50,51,52,53,54,55,56,57,58,59,60,61,62,63,64,65,66],false,0,none⟩,⟨68,true,[0,1,2,3,4,5,6,7,8,9,10,11,12,13,14,15,16,17,18,19,20,21,22,23,24,25,26,27,28,29,30,31,32,33,34,35,36,37,38,39,40,41,42,43,44,45,46,47,48,49,50,51,52,53,54,55,56,57,58,59,60,61,62,63,64,65,66,67],true,0,none⟩,⟨70,false,[0,1,2,3,4,5,6,7,8,9,10,11,12,13,14,15,16,17,18,19,20,21,22,23,24,25,26,27,28,29,30,31,32,33,34,35,36,37,38,39,40,41,42,43,44,45,46,47,48,49,50,51,52,53,54,55,56,57,58,59,60,61,62,63,64,65,66,67,68],false,0,none⟩,⟨69,false,[0,1,2,3,4,5,6,7,8,9,10,11,12,13,14,15,16,17,18,19,20,21,22,23,24,25,26,27,28,29,30,31,32,33,34,35,36,37,38,39,40,41,42,43,44,45,46,47,48,49,50,51,52,53,54,55,56,57,58,59,60,61,62,63,64,65,66,67,68],false,0,none⟩,⟨71,true,[0,1,2,3,4,5,6,7,8,9,10,11,12,13,14,15,16,17,18,19,20,21,22,23,24,25,26,27,28,29,30,31,32,33,34,35,36,37,38,39,40,41,42,43,44,45,46,47,48,49,50,51,52,53,54,55,56,57,58,59,60,61,62,63,64,65,66,67,68,69,70],false,0,none⟩,⟨72,true,[0,1,2,3,4,5,6,7,8,9,10,11,12,13,14,15,16,17,18,19,20,21,22,23,24,25,26,27,28,29,30,31,32,33,34,35,36,37,38,39,40,41,42,43,44,45,46,47,48,49,50,51,52,53,54,55,56,57,58,59,60,61,62,63,64,65,66,67,68,69,70,71],false,0,none⟩]),(10,[⟨0,false,[],false,0,none⟩,⟨1,false,[0],false,0,none⟩,⟨2,false,[],false,0,none⟩,⟨3,false,[2],false,0,none⟩,⟨4,false,[2,3],false,0,none⟩,⟨5,true,[0,1,2,3,4],false,0,none⟩,⟨6,true,[0,1,2,3,4,5],false,0,none⟩,⟨7,true,[0,1,2,3,4,5,6],false,0,none⟩]),(25,[⟨0,false,[],false,0,none⟩,⟨1,false,[0],false,0,none⟩,⟨2,false,[],false,0,none⟩,⟨3,true,[0,1,2],false,0,none⟩,⟨4,true,[0,1,2,3],false,0,none⟩,⟨5,true,[0,1,2,3,4],false,0,none⟩]),(26,[⟨0,false,[],false,0,none⟩,⟨1,false,[0],false,0,none⟩,⟨2,false,[],false,0,none⟩,⟨3,true,[0,1,2],false,0,none⟩,⟨4,true,[0,1,2,3],false,0,none⟩,⟨5,true,[0,1,2,3,4],false,0,none⟩]),(27,[⟨0,false,[],false,0,none⟩,⟨1,false,[0],false,0,none⟩,⟨2,false,[],false,0,none⟩,⟨3,true,[0,1,2],false,0,none⟩,⟨4,true,[0,1,2,3],false,0,none⟩,⟨5,true,[0,1,2,3,4],false,0,none⟩])]
theorem meanY1 :FSpec Try.prog 13 [(dspS d3),(.int .i64 (.sym fun _=>1))] [] (fun r _=>r=(.tup [(.agg [(.int .i64 (.lit (98))),(.int .i64 (.lit (102)))]),(.int .i64 (.lit (0)))])):=
  (mean13 d3 1 (by decide)).post fun r bs h=>⟨_,by subst h;exact qD (qC (qE mean_1.2.1) rfl (qC (qE mean_1.2.2) rfl qA)) (qD (qE mean_1.1) qB),rfl⟩
theorem meanY2 :FSpec Try.prog 13 [(dspS d3),(.int .i64 (.sym fun _=>2))] [] (fun r _=>r=(.tup [(.agg [(.int .i64 (.lit (116))),(.int .i64 (.lit (116)))]),(.int .i64 (.lit (0)))])):=
  (mean13 d3 2 (by decide)).post fun r bs h=>⟨_,by subst h;exact qD (qC (qE mean_2.2.1) rfl (qC (qE mean_2.2.2) rfl qA)) (qD (qE mean_2.1) qB),rfl⟩
theorem show_at :∀i,i<([119,116]:List Int).length→showT d2 0 true i=([119,116]:List Int).getD i 0:=fun i hi=>by
  have hi:i<2:=hi
  rcases(show i=0∨i=1 by omega)with e|e
  · subst e;exact show_2.1
  · subst e;exact show_2.2
theorem showY :FSpec Try.prog 38 [(dspS d2),(.int .i64 (.sym fun _=>0)),(.bool (.sym fun _=>true))] [] (fun r _=>r=(.tup [(.sl 1 (.sym fun _=>zi ([119,116]).length) (fun ix=>[.int .i64 (.sym fun _=>([119,116]).getD ix.den.toNat 0)])),(.int .i64 (.lit (0)))])):=
  (show38 d2 0 true).post fun r bs h=>⟨_,by subst h;exact qD (fit_fn (f:=showT d2 0 true) (L:=[119,116]) sh_2.2 show_at) (qD (qE sh_2.1) qB),rfl⟩
theorem leaveY :FSpec Try.prog 22 [(dspS d2)] [] (fun r _=>r=(.tup [(.sl 1 (.sym fun _=>zi (([]:List Int)).length) (fun ix=>[.int .i64 (.sym fun _=>(([]:List Int)).getD ix.den.toNat 0)])),(.int .i64 (.lit (0)))])):=
  (leave22 d2).post fun r bs h=>⟨_,by subst h;rw [lea_2];exact qD (Fit.refl _) (qD (qE firm2) qB),rfl⟩
theorem believeY :FSpec Try.prog 23 [(dspS d2)] [] (fun r _=>r=(.tup [(.sl 1 (.sym fun _=>zi (([]:List Int)).length) (fun ix=>[.int .i64 (.sym fun _=>(([]:List Int)).getD ix.den.toNat 0)])),(.int .i64 (.lit (0)))])):=
  (believe23 d2).post fun r bs h=>⟨_,by subst h;rw [bel_2];exact qD (Fit.refl _) (qD (qE firm2) qB),rfl⟩
theorem blameY :FSpec Try.prog 33 [(dspS d2)] [] (fun r _=>r=(.tup [(.sl 1 (.sym fun _=>zi (([]:List Int)).length) (fun ix=>[.int .i64 (.sym fun _=>(([]:List Int)).getD ix.den.toNat 0)])),(.sl 1 (.sym fun _=>zi (([]:List Int)).length) (fun ix=>[.int .i64 (.sym fun _=>(([]:List Int)).getD ix.den.toNat 0)])),(.int .i64 (.lit (0)))])):=
  (blame33 d2).post fun r bs h=>⟨_,by subst h;rw [mst2,may_2];exact qD (Fit.refl _) (qD (Fit.refl _) (qD (qE firm2) qB)),rfl⟩
theorem proveYa :FSpec Try.prog 41 [(dspS d2),(.sl 1 (.sym fun _=>zi ([119,116]).length) (fun ix=>[.int .i64 (.sym fun _=>([119,116]).getD ix.den.toNat 0)]))] [] (fun r _=>r=(.bool (.lit true))):=
  (prove41 d2 [119,116] (by decide)).post fun r bs h=>⟨_,by subst h;exact qF (by decide +kernel),rfl⟩
theorem proveYb :FSpec Try.prog 41 [(dspS d2),(.sl 1 (.sym fun _=>zi ([117,116]).length) (fun ix=>[.int .i64 (.sym fun _=>([117,116]).getD ix.den.toNat 0)]))] [] (fun r _=>r=(.bool (.lit true))):=
  (prove41 d2 [117,116] (by decide)).post fun r bs h=>⟨_,by subst h;exact qF (by decide +kernel),rfl⟩
theorem proveYc :FSpec Try.prog 41 [(dspS d2),(.sl 1 (.sym fun _=>zi ([115,116]).length) (fun ix=>[.int .i64 (.sym fun _=>([115,116]).getD ix.den.toNat 0)]))] [] (fun r _=>r=(.bool (.lit false))):=
  (prove41 d2 [115,116] (by decide)).post fun r bs h=>⟨_,by subst h;exact qF (by decide +kernel),rfl⟩
theorem intsY :FSpec Try.prog 26 [(.sl 1 (.sym fun _=>zi ([119,116]).length) (fun ix=>[.int .i64 (.sym fun _=>([119,116]).getD ix.den.toNat 0)])),(.sl 1 (.sym fun _=>zi ([119,116]).length) (fun ix=>[.int .i64 (.sym fun _=>([119,116]).getD ix.den.toNat 0)]))] [] (fun r _=>r=(.bool (.lit true))):=
  (ints26 2 2 (fun n=>([119,116]:List Int).getD n 0) (fun n=>([119,116]:List Int).getD n 0) (by decide) (by decide)).post fun r bs h=>⟨_,by subst h;(repeat' (first|exact qA|exact qB|refine qC ?_ rfl ?_|refine qD ?_ ?_|exact qE (by rfl)|exact qF (by rfl)|exact qE (by kernel_rfl)|exact qF (by kernel_rfl)|exact Fit.refl _|(exact qO (by rfl))|(first|(refine fit_sl (by rfl) (fun ix h0 h1=> ?_);(have h2:ix.den<2:=h1);(have hx:ix.den.toNat=0∨ix.den.toNat=1:=by omega);(rcases hx with hx|hx<;>simp only [hx]))|(refine fit_sl (by rfl) (fun ix h0 h1=> ?_);(have h2:ix.den<3:=h1);(have hx:ix.den.toNat=0∨ix.den.toNat=1∨ix.den.toNat=2:=by omega);(rcases hx with hx|hx|hx<;>simp only [hx]))|(refine fit_sl (by rfl) (fun ix h0 h1=> ?_);(have h2:ix.den<4:=h1);(have hx:ix.den.toNat=0∨ix.den.toNat=1∨ix.den.toNat=2∨ix.den.toNat=3:=by omega);(rcases hx with hx|hx|hx|hx<;>simp only [hx]))|(refine fit_sl (by rfl) (fun ix h0 h1=> ?_);(have h2:ix.den<1:=h1);(have hx:ix.den.toNat=0:=by omega);(rcases hx with hx<;>simp only [hx]))|(refine fit_sl (by rfl) (fun ix h0 h1=> ?_);(have h2:ix.den<5:=h1);(have hx:ix.den.toNat=0∨ix.den.toNat=1∨ix.den.toNat=2∨ix.den.toNat=3∨ix.den.toNat=4:=by omega);(rcases hx with hx|hx|hx|hx|hx<;>simp only [hx]))))),rfl⟩
theorem meanZ :FSpec Try.prog 13 [(dspS d3),(.int .i64 (.sym fun _=>3))] [] (fun r _=>r=(.tup [.any,(.int .i64 (.lit (2)))])):=
  (mean13 d3 3 (by decide)).post fun r bs h=>⟨_,by subst h;exact qD (qG _) (qD (qE mean_3) qB),rfl⟩
theorem boundsZ :FSpec Try.prog 21 [(dspS d3)] [] (fun r _=>r=(.tup [.any,(.int .i64 (.lit (11)))])):=
  (bounds21 d3).post fun r bs h=>⟨_,by subst h;exact qD (qG _) (qD (qE bnd_3) qB),rfl⟩
theorem showZ :FSpec Try.prog 38 [(dspS d3),(.int .i64 (.sym fun _=>2)),(.bool (.sym fun _=>true))] [] (fun r _=>r=(.tup [.any,(.int .i64 (.lit (2)))])):=
  (show38 d3 2 true).post fun r bs h=>⟨_,by subst h;exact qD (qG _) (qD (qE sh_3) qB),rfl⟩
theorem firstZ :FSpec Try.prog 27 [(dspS d2)] [] (fun r _=>r=(.tup [.any,(.int .i64 (.lit (7)))])):=
  (first27 d2).post fun r bs h=>⟨_,by subst h;exact qD (qG _) (qD (qE fir_2) qB),rfl⟩
theorem leaveZ :FSpec Try.prog 22 [(.agg [(.sl 1 (.sym fun _=>zi (dT3.tw).length) (fun ix=>[.int .i64 (.sym fun _=>(dT3.tw).getD ix.den.toNat 0)])),(.sl 1 (.sym fun _=>zi (dT3.tm).length) (fun ix=>[.int .i64 (.sym fun _=>(dT3.tm).getD ix.den.toNat 0)])),(.sl 1 (.sym fun _=>zi (dT3.tv).length) (fun ix=>[(.sl 1 (.sym fun _=>zi ((dT3.tv).getD ix.den.toNat []).length) (fun jx=>[.int .i64 (.sym fun _=>((dT3.tv).getD ix.den.toNat []).getD jx.den.toNat 0)]))])),(.int .i64 (.sym fun _=>dT3.sn)),(.int .i64 (.sym fun _=>dT3.pn)),(.sl 4 (.sym fun _=>zi (dT3.ls).length) (fun ix=>[(.int .i64 (.sym fun _=>((dT3.ls).getD ix.den.toNat l0T).a)),(.int .i64 (.sym fun _=>((dT3.ls).getD ix.den.toNat l0T).b)),(.int .i64 (.sym fun _=>((dT3.ls).getD ix.den.toNat l0T).lo)),(.int .i64 (.sym fun _=>((dT3.ls).getD ix.den.toNat l0T).hi))])),(.sl 6 (.sym fun _=>zi (dT3.fs).length) (fun ix=>[(.int .i64 (.sym fun _=>((dT3.fs).getD ix.den.toNat f0T).p)),(.int .i64 (.sym fun _=>((dT3.fs).getD ix.den.toNat f0T).s)),(.int .i64 (.sym fun _=>((dT3.fs).getD ix.den.toNat f0T).wl)),(.int .i64 (.sym fun _=>((dT3.fs).getD ix.den.toNat f0T).wh)),(.int .i64 (.sym fun _=>((dT3.fs).getD ix.den.toNat f0T).ml)),(.int .i64 (.sym fun _=>((dT3.fs).getD ix.den.toNat f0T).mh))]))])] [] (fun r _=>r=(.tup [(.sl 1 (.sym fun _=>zi (([]:List Int)).length) (fun ix=>[.int .i64 (.sym fun _=>(([]:List Int)).getD ix.den.toNat 0)])),(.int .i64 (.lit (9)))])):=
  (leave22 dT3).post fun r bs h=>⟨_,by subst h;rw [lea_dT3];exact qD (Fit.refl _) (qD (qE firm_dT3) qB),rfl⟩
theorem blameZ :FSpec Try.prog 33 [(.agg [(.sl 1 (.sym fun _=>zi (dT3.tw).length) (fun ix=>[.int .i64 (.sym fun _=>(dT3.tw).getD ix.den.toNat 0)])),(.sl 1 (.sym fun _=>zi (dT3.tm).length) (fun ix=>[.int .i64 (.sym fun _=>(dT3.tm).getD ix.den.toNat 0)])),(.sl 1 (.sym fun _=>zi (dT3.tv).length) (fun ix=>[(.sl 1 (.sym fun _=>zi ((dT3.tv).getD ix.den.toNat []).length) (fun jx=>[.int .i64 (.sym fun _=>((dT3.tv).getD ix.den.toNat []).getD jx.den.toNat 0)]))])),(.int .i64 (.sym fun _=>dT3.sn)),(.int .i64 (.sym fun _=>dT3.pn)),(.sl 4 (.sym fun _=>zi (dT3.ls).length) (fun ix=>[(.int .i64 (.sym fun _=>((dT3.ls).getD ix.den.toNat l0T).a)),(.int .i64 (.sym fun _=>((dT3.ls).getD ix.den.toNat l0T).b)),(.int .i64 (.sym fun _=>((dT3.ls).getD ix.den.toNat l0T).lo)),(.int .i64 (.sym fun _=>((dT3.ls).getD ix.den.toNat l0T).hi))])),(.sl 6 (.sym fun _=>zi (dT3.fs).length) (fun ix=>[(.int .i64 (.sym fun _=>((dT3.fs).getD ix.den.toNat f0T).p)),(.int .i64 (.sym fun _=>((dT3.fs).getD ix.den.toNat f0T).s)),(.int .i64 (.sym fun _=>((dT3.fs).getD ix.den.toNat f0T).wl)),(.int .i64 (.sym fun _=>((dT3.fs).getD ix.den.toNat f0T).wh)),(.int .i64 (.sym fun _=>((dT3.fs).getD ix.den.toNat f0T).ml)),(.int .i64 (.sym fun _=>((dT3.fs).getD ix.den.toNat f0T).mh))]))])] [] (fun r _=>r=(.tup [.any,.any,(.int .i64 (.lit (9)))])):=
  (blame33 dT3).post fun r bs h=>⟨_,by subst h;exact qD (qG _) (qD (qG _) (qD (qE firm_dT3) qB)),rfl⟩
theorem chargeZ1 :FSpec Try.prog 36 [(.agg [(.sl 1 (.sym fun _=>zi (dT3.tw).length) (fun ix=>[.int .i64 (.sym fun _=>(dT3.tw).getD ix.den.toNat 0)])),(.sl 1 (.sym fun _=>zi (dT3.tm).length) (fun ix=>[.int .i64 (.sym fun _=>(dT3.tm).getD ix.den.toNat 0)])),(.sl 1 (.sym fun _=>zi (dT3.tv).length) (fun ix=>[(.sl 1 (.sym fun _=>zi ((dT3.tv).getD ix.den.toNat []).length) (fun jx=>[.int .i64 (.sym fun _=>((dT3.tv).getD ix.den.toNat []).getD jx.den.toNat 0)]))])),(.int .i64 (.sym fun _=>dT3.sn)),(.int .i64 (.sym fun _=>dT3.pn)),(.sl 4 (.sym fun _=>zi (dT3.ls).length) (fun ix=>[(.int .i64 (.sym fun _=>((dT3.ls).getD ix.den.toNat l0T).a)),(.int .i64 (.sym fun _=>((dT3.ls).getD ix.den.toNat l0T).b)),(.int .i64 (.sym fun _=>((dT3.ls).getD ix.den.toNat l0T).lo)),(.int .i64 (.sym fun _=>((dT3.ls).getD ix.den.toNat l0T).hi))])),(.sl 6 (.sym fun _=>zi (dT3.fs).length) (fun ix=>[(.int .i64 (.sym fun _=>((dT3.fs).getD ix.den.toNat f0T).p)),(.int .i64 (.sym fun _=>((dT3.fs).getD ix.den.toNat f0T).s)),(.int .i64 (.sym fun _=>((dT3.fs).getD ix.den.toNat f0T).wl)),(.int .i64 (.sym fun _=>((dT3.fs).getD ix.den.toNat f0T).wh)),(.int .i64 (.sym fun _=>((dT3.fs).getD ix.den.toNat f0T).ml)),(.int .i64 (.sym fun _=>((dT3.fs).getD ix.den.toNat f0T).mh))]))]),(.int .i64 (.sym fun _=>0)),(.int .i64 (.sym fun _=>100001))] [] (fun r _=>r=(.tup [(.agg [(.int .i64 (.lit (0))),(.int .i64 (.lit (0)))]),(.int .i64 (.lit (2)))])):=
  (charge36 dT3 0 100001).post fun r bs h=>⟨_,by subst h;exact qD (qC (qE ch_T1.2.1) rfl (qC (qE ch_T1.2.2) rfl qA)) (qD (qE ch_T1.1) qB),rfl⟩
theorem chargeZ2 :FSpec Try.prog 36 [(.agg [(.sl 1 (.sym fun _=>zi (dT3.tw).length) (fun ix=>[.int .i64 (.sym fun _=>(dT3.tw).getD ix.den.toNat 0)])),(.sl 1 (.sym fun _=>zi (dT3.tm).length) (fun ix=>[.int .i64 (.sym fun _=>(dT3.tm).getD ix.den.toNat 0)])),(.sl 1 (.sym fun _=>zi (dT3.tv).length) (fun ix=>[(.sl 1 (.sym fun _=>zi ((dT3.tv).getD ix.den.toNat []).length) (fun jx=>[.int .i64 (.sym fun _=>((dT3.tv).getD ix.den.toNat []).getD jx.den.toNat 0)]))])),(.int .i64 (.sym fun _=>dT3.sn)),(.int .i64 (.sym fun _=>dT3.pn)),(.sl 4 (.sym fun _=>zi (dT3.ls).length) (fun ix=>[(.int .i64 (.sym fun _=>((dT3.ls).getD ix.den.toNat l0T).a)),(.int .i64 (.sym fun _=>((dT3.ls).getD ix.den.toNat l0T).b)),(.int .i64 (.sym fun _=>((dT3.ls).getD ix.den.toNat l0T).lo)),(.int .i64 (.sym fun _=>((dT3.ls).getD ix.den.toNat l0T).hi))])),(.sl 6 (.sym fun _=>zi (dT3.fs).length) (fun ix=>[(.int .i64 (.sym fun _=>((dT3.fs).getD ix.den.toNat f0T).p)),(.int .i64 (.sym fun _=>((dT3.fs).getD ix.den.toNat f0T).s)),(.int .i64 (.sym fun _=>((dT3.fs).getD ix.den.toNat f0T).wl)),(.int .i64 (.sym fun _=>((dT3.fs).getD ix.den.toNat f0T).wh)),(.int .i64 (.sym fun _=>((dT3.fs).getD ix.den.toNat f0T).ml)),(.int .i64 (.sym fun _=>((dT3.fs).getD ix.den.toNat f0T).mh))]))]),(.int .i64 (.sym fun _=>0)),(.int .i64 (.sym fun _=>1000))] [] (fun r _=>r=(.tup [(.agg [(.int .i64 (.lit (0))),(.int .i64 (.lit (0)))]),(.int .i64 (.lit (9)))])):=
  (charge36 dT3 0 1000).post fun r bs h=>⟨_,by subst h;exact qD (qC (qE ch_T2.2.1) rfl (qC (qE ch_T2.2.2) rfl qA)) (qD (qE ch_T2.1) qB),rfl⟩
theorem costsZ :FSpec Try.prog 34 [(dspS d3),(.int .i64 (.sym fun _=> -1))] [] (fun r _=>r=(.tup [(.sl 1 (.sym fun _=>zi (([]:List Int)).length) (fun ix=>[.int .i64 (.sym fun _=>(([]:List Int)).getD ix.den.toNat 0)])),(.int .i64 (.lit (2)))])):=
  (costs34 d3 (-1)).post fun r bs h=>⟨_,by subst h;exact qD (fit_sl (co_3.2.trans rfl) (fun ix h0 h1=>absurd h1 (by have h2:ix.den<coN d3 (-1):=h1;rw [co_3.2]at h2;omega))) (qD (qE co_3.1) qB),rfl⟩
theorem ck_bad :FSpec Try.prog 16 [(.agg [(.sl 1 (.sym fun _=>zi (bad3.tw).length) (fun ix=>[.int .i64 (.sym fun _=>(bad3.tw).getD ix.den.toNat 0)])),(.sl 1 (.sym fun _=>zi (bad3.tm).length) (fun ix=>[.int .i64 (.sym fun _=>(bad3.tm).getD ix.den.toNat 0)])),(.sl 1 (.sym fun _=>zi (bad3.tv).length) (fun ix=>[(.sl 1 (.sym fun _=>zi ((bad3.tv).getD ix.den.toNat []).length) (fun jx=>[.int .i64 (.sym fun _=>((bad3.tv).getD ix.den.toNat []).getD jx.den.toNat 0)]))])),(.int .i64 (.sym fun _=>bad3.sn)),(.int .i64 (.sym fun _=>bad3.pn)),(.sl 4 (.sym fun _=>zi (bad3.ls).length) (fun ix=>[(.int .i64 (.sym fun _=>((bad3.ls).getD ix.den.toNat l0T).a)),(.int .i64 (.sym fun _=>((bad3.ls).getD ix.den.toNat l0T).b)),(.int .i64 (.sym fun _=>((bad3.ls).getD ix.den.toNat l0T).lo)),(.int .i64 (.sym fun _=>((bad3.ls).getD ix.den.toNat l0T).hi))])),(.sl 6 (.sym fun _=>zi (bad3.fs).length) (fun ix=>[(.int .i64 (.sym fun _=>((bad3.fs).getD ix.den.toNat f0T).p)),(.int .i64 (.sym fun _=>((bad3.fs).getD ix.den.toNat f0T).s)),(.int .i64 (.sym fun _=>((bad3.fs).getD ix.den.toNat f0T).wl)),(.int .i64 (.sym fun _=>((bad3.fs).getD ix.den.toNat f0T).wh)),(.int .i64 (.sym fun _=>((bad3.fs).getD ix.den.toNat f0T).ml)),(.int .i64 (.sym fun _=>((bad3.fs).getD ix.den.toNat f0T).mh))]))])] [] (fun r _=>r=(.int .i64 (.lit (1)))):=
  (check16 bad3).post fun r bs h=>⟨_,by subst h;exact qE fault_bad3,rfl⟩
theorem ck_sam :FSpec Try.prog 16 [(.agg [(.sl 1 (.sym fun _=>zi (sam3.tw).length) (fun ix=>[.int .i64 (.sym fun _=>(sam3.tw).getD ix.den.toNat 0)])),(.sl 1 (.sym fun _=>zi (sam3.tm).length) (fun ix=>[.int .i64 (.sym fun _=>(sam3.tm).getD ix.den.toNat 0)])),(.sl 1 (.sym fun _=>zi (sam3.tv).length) (fun ix=>[(.sl 1 (.sym fun _=>zi ((sam3.tv).getD ix.den.toNat []).length) (fun jx=>[.int .i64 (.sym fun _=>((sam3.tv).getD ix.den.toNat []).getD jx.den.toNat 0)]))])),(.int .i64 (.sym fun _=>sam3.sn)),(.int .i64 (.sym fun _=>sam3.pn)),(.sl 4 (.sym fun _=>zi (sam3.ls).length) (fun ix=>[(.int .i64 (.sym fun _=>((sam3.ls).getD ix.den.toNat l0T).a)),(.int .i64 (.sym fun _=>((sam3.ls).getD ix.den.toNat l0T).b)),(.int .i64 (.sym fun _=>((sam3.ls).getD ix.den.toNat l0T).lo)),(.int .i64 (.sym fun _=>((sam3.ls).getD ix.den.toNat l0T).hi))])),(.sl 6 (.sym fun _=>zi (sam3.fs).length) (fun ix=>[(.int .i64 (.sym fun _=>((sam3.fs).getD ix.den.toNat f0T).p)),(.int .i64 (.sym fun _=>((sam3.fs).getD ix.den.toNat f0T).s)),(.int .i64 (.sym fun _=>((sam3.fs).getD ix.den.toNat f0T).wl)),(.int .i64 (.sym fun _=>((sam3.fs).getD ix.den.toNat f0T).wh)),(.int .i64 (.sym fun _=>((sam3.fs).getD ix.den.toNat f0T).ml)),(.int .i64 (.sym fun _=>((sam3.fs).getD ix.den.toNat f0T).mh))]))])] [] (fun r _=>r=(.int .i64 (.lit (3)))):=
  (check16 sam3).post fun r bs h=>⟨_,by subst h;exact qE fault_sam3,rfl⟩
theorem ck_par :FSpec Try.prog 16 [(.agg [(.sl 1 (.sym fun _=>zi (par3.tw).length) (fun ix=>[.int .i64 (.sym fun _=>(par3.tw).getD ix.den.toNat 0)])),(.sl 1 (.sym fun _=>zi (par3.tm).length) (fun ix=>[.int .i64 (.sym fun _=>(par3.tm).getD ix.den.toNat 0)])),(.sl 1 (.sym fun _=>zi (par3.tv).length) (fun ix=>[(.sl 1 (.sym fun _=>zi ((par3.tv).getD ix.den.toNat []).length) (fun jx=>[.int .i64 (.sym fun _=>((par3.tv).getD ix.den.toNat []).getD jx.den.toNat 0)]))])),(.int .i64 (.sym fun _=>par3.sn)),(.int .i64 (.sym fun _=>par3.pn)),(.sl 4 (.sym fun _=>zi (par3.ls).length) (fun ix=>[(.int .i64 (.sym fun _=>((par3.ls).getD ix.den.toNat l0T).a)),(.int .i64 (.sym fun _=>((par3.ls).getD ix.den.toNat l0T).b)),(.int .i64 (.sym fun _=>((par3.ls).getD ix.den.toNat l0T).lo)),(.int .i64 (.sym fun _=>((par3.ls).getD ix.den.toNat l0T).hi))])),(.sl 6 (.sym fun _=>zi (par3.fs).length) (fun ix=>[(.int .i64 (.sym fun _=>((par3.fs).getD ix.den.toNat f0T).p)),(.int .i64 (.sym fun _=>((par3.fs).getD ix.den.toNat f0T).s)),(.int .i64 (.sym fun _=>((par3.fs).getD ix.den.toNat f0T).wl)),(.int .i64 (.sym fun _=>((par3.fs).getD ix.den.toNat f0T).wh)),(.int .i64 (.sym fun _=>((par3.fs).getD ix.den.toNat f0T).ml)),(.int .i64 (.sym fun _=>((par3.fs).getD ix.den.toNat f0T).mh))]))])] [] (fun r _=>r=(.int .i64 (.lit (1)))):=
  (check16 par3).post fun r bs h=>⟨_,by subst h;exact qE fault_par3,rfl⟩
theorem ck_slf :FSpec Try.prog 16 [(.agg [(.sl 1 (.sym fun _=>zi (slf3.tw).length) (fun ix=>[.int .i64 (.sym fun _=>(slf3.tw).getD ix.den.toNat 0)])),(.sl 1 (.sym fun _=>zi (slf3.tm).length) (fun ix=>[.int .i64 (.sym fun _=>(slf3.tm).getD ix.den.toNat 0)])),(.sl 1 (.sym fun _=>zi (slf3.tv).length) (fun ix=>[(.sl 1 (.sym fun _=>zi ((slf3.tv).getD ix.den.toNat []).length) (fun jx=>[.int .i64 (.sym fun _=>((slf3.tv).getD ix.den.toNat []).getD jx.den.toNat 0)]))])),(.int .i64 (.sym fun _=>slf3.sn)),(.int .i64 (.sym fun _=>slf3.pn)),(.sl 4 (.sym fun _=>zi (slf3.ls).length) (fun ix=>[(.int .i64 (.sym fun _=>((slf3.ls).getD ix.den.toNat l0T).a)),(.int .i64 (.sym fun _=>((slf3.ls).getD ix.den.toNat l0T).b)),(.int .i64 (.sym fun _=>((slf3.ls).getD ix.den.toNat l0T).lo)),(.int .i64 (.sym fun _=>((slf3.ls).getD ix.den.toNat l0T).hi))])),(.sl 6 (.sym fun _=>zi (slf3.fs).length) (fun ix=>[(.int .i64 (.sym fun _=>((slf3.fs).getD ix.den.toNat f0T).p)),(.int .i64 (.sym fun _=>((slf3.fs).getD ix.den.toNat f0T).s)),(.int .i64 (.sym fun _=>((slf3.fs).getD ix.den.toNat f0T).wl)),(.int .i64 (.sym fun _=>((slf3.fs).getD ix.den.toNat f0T).wh)),(.int .i64 (.sym fun _=>((slf3.fs).getD ix.den.toNat f0T).ml)),(.int .i64 (.sym fun _=>((slf3.fs).getD ix.den.toNat f0T).mh))]))])] [] (fun r _=>r=(.int .i64 (.lit (1)))):=
  (check16 slf3).post fun r bs h=>⟨_,by subst h;exact qE fault_slf3,rfl⟩
theorem ck_wid :FSpec Try.prog 16 [(.agg [(.sl 1 (.sym fun _=>zi (wid3.tw).length) (fun ix=>[.int .i64 (.sym fun _=>(wid3.tw).getD ix.den.toNat 0)])),(.sl 1 (.sym fun _=>zi (wid3.tm).length) (fun ix=>[.int .i64 (.sym fun _=>(wid3.tm).getD ix.den.toNat 0)])),(.sl 1 (.sym fun _=>zi (wid3.tv).length) (fun ix=>[(.sl 1 (.sym fun _=>zi ((wid3.tv).getD ix.den.toNat []).length) (fun jx=>[.int .i64 (.sym fun _=>((wid3.tv).getD ix.den.toNat []).getD jx.den.toNat 0)]))])),(.int .i64 (.sym fun _=>wid3.sn)),(.int .i64 (.sym fun _=>wid3.pn)),(.sl 4 (.sym fun _=>zi (wid3.ls).length) (fun ix=>[(.int .i64 (.sym fun _=>((wid3.ls).getD ix.den.toNat l0T).a)),(.int .i64 (.sym fun _=>((wid3.ls).getD ix.den.toNat l0T).b)),(.int .i64 (.sym fun _=>((wid3.ls).getD ix.den.toNat l0T).lo)),(.int .i64 (.sym fun _=>((wid3.ls).getD ix.den.toNat l0T).hi))])),(.sl 6 (.sym fun _=>zi (wid3.fs).length) (fun ix=>[(.int .i64 (.sym fun _=>((wid3.fs).getD ix.den.toNat f0T).p)),(.int .i64 (.sym fun _=>((wid3.fs).getD ix.den.toNat f0T).s)),(.int .i64 (.sym fun _=>((wid3.fs).getD ix.den.toNat f0T).wl)),(.int .i64 (.sym fun _=>((wid3.fs).getD ix.den.toNat f0T).wh)),(.int .i64 (.sym fun _=>((wid3.fs).getD ix.den.toNat f0T).ml)),(.int .i64 (.sym fun _=>((wid3.fs).getD ix.den.toNat f0T).mh))]))])] [] (fun r _=>r=(.int .i64 (.lit (1)))):=
  (check16 wid3).post fun r bs h=>⟨_,by subst h;exact qE fault_wid3,rfl⟩
theorem ck_pnt :FSpec Try.prog 16 [(.agg [(.sl 1 (.sym fun _=>zi (pnt3.tw).length) (fun ix=>[.int .i64 (.sym fun _=>(pnt3.tw).getD ix.den.toNat 0)])),(.sl 1 (.sym fun _=>zi (pnt3.tm).length) (fun ix=>[.int .i64 (.sym fun _=>(pnt3.tm).getD ix.den.toNat 0)])),(.sl 1 (.sym fun _=>zi (pnt3.tv).length) (fun ix=>[(.sl 1 (.sym fun _=>zi ((pnt3.tv).getD ix.den.toNat []).length) (fun jx=>[.int .i64 (.sym fun _=>((pnt3.tv).getD ix.den.toNat []).getD jx.den.toNat 0)]))])),(.int .i64 (.sym fun _=>pnt3.sn)),(.int .i64 (.sym fun _=>pnt3.pn)),(.sl 4 (.sym fun _=>zi (pnt3.ls).length) (fun ix=>[(.int .i64 (.sym fun _=>((pnt3.ls).getD ix.den.toNat l0T).a)),(.int .i64 (.sym fun _=>((pnt3.ls).getD ix.den.toNat l0T).b)),(.int .i64 (.sym fun _=>((pnt3.ls).getD ix.den.toNat l0T).lo)),(.int .i64 (.sym fun _=>((pnt3.ls).getD ix.den.toNat l0T).hi))])),(.sl 6 (.sym fun _=>zi (pnt3.fs).length) (fun ix=>[(.int .i64 (.sym fun _=>((pnt3.fs).getD ix.den.toNat f0T).p)),(.int .i64 (.sym fun _=>((pnt3.fs).getD ix.den.toNat f0T).s)),(.int .i64 (.sym fun _=>((pnt3.fs).getD ix.den.toNat f0T).wl)),(.int .i64 (.sym fun _=>((pnt3.fs).getD ix.den.toNat f0T).wh)),(.int .i64 (.sym fun _=>((pnt3.fs).getD ix.den.toNat f0T).ml)),(.int .i64 (.sym fun _=>((pnt3.fs).getD ix.den.toNat f0T).mh))]))])] [] (fun r _=>r=(.int .i64 (.lit (1)))):=
  (check16 pnt3).post fun r bs h=>⟨_,by subst h;exact qE fault_pnt3,rfl⟩
theorem ck_mrk :FSpec Try.prog 16 [(.agg [(.sl 1 (.sym fun _=>zi (mrk3.tw).length) (fun ix=>[.int .i64 (.sym fun _=>(mrk3.tw).getD ix.den.toNat 0)])),(.sl 1 (.sym fun _=>zi (mrk3.tm).length) (fun ix=>[.int .i64 (.sym fun _=>(mrk3.tm).getD ix.den.toNat 0)])),(.sl 1 (.sym fun _=>zi (mrk3.tv).length) (fun ix=>[(.sl 1 (.sym fun _=>zi ((mrk3.tv).getD ix.den.toNat []).length) (fun jx=>[.int .i64 (.sym fun _=>((mrk3.tv).getD ix.den.toNat []).getD jx.den.toNat 0)]))])),(.int .i64 (.sym fun _=>mrk3.sn)),(.int .i64 (.sym fun _=>mrk3.pn)),(.sl 4 (.sym fun _=>zi (mrk3.ls).length) (fun ix=>[(.int .i64 (.sym fun _=>((mrk3.ls).getD ix.den.toNat l0T).a)),(.int .i64 (.sym fun _=>((mrk3.ls).getD ix.den.toNat l0T).b)),(.int .i64 (.sym fun _=>((mrk3.ls).getD ix.den.toNat l0T).lo)),(.int .i64 (.sym fun _=>((mrk3.ls).getD ix.den.toNat l0T).hi))])),(.sl 6 (.sym fun _=>zi (mrk3.fs).length) (fun ix=>[(.int .i64 (.sym fun _=>((mrk3.fs).getD ix.den.toNat f0T).p)),(.int .i64 (.sym fun _=>((mrk3.fs).getD ix.den.toNat f0T).s)),(.int .i64 (.sym fun _=>((mrk3.fs).getD ix.den.toNat f0T).wl)),(.int .i64 (.sym fun _=>((mrk3.fs).getD ix.den.toNat f0T).wh)),(.int .i64 (.sym fun _=>((mrk3.fs).getD ix.den.toNat f0T).ml)),(.int .i64 (.sym fun _=>((mrk3.fs).getD ix.den.toNat f0T).mh))]))])] [] (fun r _=>r=(.int .i64 (.lit (1)))):=
  (check16 mrk3).post fun r bs h=>⟨_,by subst h;exact qE fault_mrk3,rfl⟩
theorem ck_man :FSpec Try.prog 16 [(.agg [(.sl 1 (.sym fun _=>zi (man3.tw).length) (fun ix=>[.int .i64 (.sym fun _=>(man3.tw).getD ix.den.toNat 0)])),(.sl 1 (.sym fun _=>zi (man3.tm).length) (fun ix=>[.int .i64 (.sym fun _=>(man3.tm).getD ix.den.toNat 0)])),(.sl 1 (.sym fun _=>zi (man3.tv).length) (fun ix=>[(.sl 1 (.sym fun _=>zi ((man3.tv).getD ix.den.toNat []).length) (fun jx=>[.int .i64 (.sym fun _=>((man3.tv).getD ix.den.toNat []).getD jx.den.toNat 0)]))])),(.int .i64 (.sym fun _=>man3.sn)),(.int .i64 (.sym fun _=>man3.pn)),(.sl 4 (.sym fun _=>zi (man3.ls).length) (fun ix=>[(.int .i64 (.sym fun _=>((man3.ls).getD ix.den.toNat l0T).a)),(.int .i64 (.sym fun _=>((man3.ls).getD ix.den.toNat l0T).b)),(.int .i64 (.sym fun _=>((man3.ls).getD ix.den.toNat l0T).lo)),(.int .i64 (.sym fun _=>((man3.ls).getD ix.den.toNat l0T).hi))])),(.sl 6 (.sym fun _=>zi (man3.fs).length) (fun ix=>[(.int .i64 (.sym fun _=>((man3.fs).getD ix.den.toNat f0T).p)),(.int .i64 (.sym fun _=>((man3.fs).getD ix.den.toNat f0T).s)),(.int .i64 (.sym fun _=>((man3.fs).getD ix.den.toNat f0T).wl)),(.int .i64 (.sym fun _=>((man3.fs).getD ix.den.toNat f0T).wh)),(.int .i64 (.sym fun _=>((man3.fs).getD ix.den.toNat f0T).ml)),(.int .i64 (.sym fun _=>((man3.fs).getD ix.den.toNat f0T).mh))]))])] [] (fun r _=>r=(.int .i64 (.lit (3)))):=
  (check16 man3).post fun r bs h=>⟨_,by subst h;exact qE fault_man3,rfl⟩
theorem ck_non :FSpec Try.prog 16 [(.agg [(.sl 1 (.sym fun _=>zi (non3.tw).length) (fun ix=>[.int .i64 (.sym fun _=>(non3.tw).getD ix.den.toNat 0)])),(.sl 1 (.sym fun _=>zi (non3.tm).length) (fun ix=>[.int .i64 (.sym fun _=>(non3.tm).getD ix.den.toNat 0)])),(.sl 1 (.sym fun _=>zi (non3.tv).length) (fun ix=>[(.sl 1 (.sym fun _=>zi ((non3.tv).getD ix.den.toNat []).length) (fun jx=>[.int .i64 (.sym fun _=>((non3.tv).getD ix.den.toNat []).getD jx.den.toNat 0)]))])),(.int .i64 (.sym fun _=>non3.sn)),(.int .i64 (.sym fun _=>non3.pn)),(.sl 4 (.sym fun _=>zi (non3.ls).length) (fun ix=>[(.int .i64 (.sym fun _=>((non3.ls).getD ix.den.toNat l0T).a)),(.int .i64 (.sym fun _=>((non3.ls).getD ix.den.toNat l0T).b)),(.int .i64 (.sym fun _=>((non3.ls).getD ix.den.toNat l0T).lo)),(.int .i64 (.sym fun _=>((non3.ls).getD ix.den.toNat l0T).hi))])),(.sl 6 (.sym fun _=>zi (non3.fs).length) (fun ix=>[(.int .i64 (.sym fun _=>((non3.fs).getD ix.den.toNat f0T).p)),(.int .i64 (.sym fun _=>((non3.fs).getD ix.den.toNat f0T).s)),(.int .i64 (.sym fun _=>((non3.fs).getD ix.den.toNat f0T).wl)),(.int .i64 (.sym fun _=>((non3.fs).getD ix.den.toNat f0T).wh)),(.int .i64 (.sym fun _=>((non3.fs).getD ix.den.toNat f0T).ml)),(.int .i64 (.sym fun _=>((non3.fs).getD ix.den.toNat f0T).mh))]))])] [] (fun r _=>r=(.int .i64 (.lit (1)))):=
  (check16 non3).post fun r bs h=>⟨_,by subst h;exact qE fault_non3,rfl⟩
theorem threeM :FSpecN Try.prog 37 [] [] (fun r bs=>r=(.agg [(.sl 1 (.sym fun _=>zi (d3.tw).length) (fun ix=>[.int .i64 (.sym fun _=>(d3.tw).getD ix.den.toNat 0)])),.ows 0 0 3 3 1,(.sl 1 (.sym fun _=>zi (d3.tv).length) (fun ix=>[(.sl 1 (.sym fun _=>zi ((d3.tv).getD ix.den.toNat []).length) (fun jx=>[.int .i64 (.sym fun _=>((d3.tv).getD ix.den.toNat []).getD jx.den.toNat 0)]))])),(.int .i64 (.sym fun _=>d3.sn)),(.int .i64 (.sym fun _=>d3.pn)),(.sl 4 (.sym fun _=>zi (d3.ls).length) (fun ix=>[(.int .i64 (.sym fun _=>((d3.ls).getD ix.den.toNat l0T).a)),(.int .i64 (.sym fun _=>((d3.ls).getD ix.den.toNat l0T).b)),(.int .i64 (.sym fun _=>((d3.ls).getD ix.den.toNat l0T).lo)),(.int .i64 (.sym fun _=>((d3.ls).getD ix.den.toNat l0T).hi))])),(.sl 6 (.sym fun _=>zi (d3.fs).length) (fun ix=>[(.int .i64 (.sym fun _=>((d3.fs).getD ix.den.toNat f0T).p)),(.int .i64 (.sym fun _=>((d3.fs).getD ix.den.toNat f0T).s)),(.int .i64 (.sym fun _=>((d3.fs).getD ix.den.toNat f0T).wl)),(.int .i64 (.sym fun _=>((d3.fs).getD ix.den.toNat f0T).wh)),(.int .i64 (.sym fun _=>((d3.fs).getD ix.den.toNat f0T).ml)),(.int .i64 (.sym fun _=>((d3.fs).getD ix.den.toNat f0T).mh))]))])∧bs=[.cells [(.int .i64 (.lit (0))),(.int .i64 (.lit (10))),(.int .i64 (.lit (20)))] 3]):=by
  have c40:= @between40
  refine FSpecN.is rfl rfl fun R B hR hB=>fspecL_vc (sc:=sc37m) tyok mix Try.func37 rfl Try.call37 (by kernel_rfl) (by kernel_rfl) ?_
  generalize Try.prog=P at c40⊢
  cbv
  repeat' (first
      | (refine qP ?_ (c40 _ _) (by(repeat' (first|exact qB|refine qD ?_ ?_|exact qE (by rfl)|exact qF (by rfl)|exact Fit.refl _|exact qA|refine qC ?_ rfl ?_)))
         try cbv)
      |fail)
  refine Exists.intro (α:=List Nat) [2] ?_
  cbv
  subst hR
  subst hB
  refine⟨?_,?_⟩
  · (repeat' (first|exact qA|exact qB|refine qC ?_ rfl ?_|refine qD ?_ ?_|exact qE (by rfl)|exact qF (by rfl)|exact qE (by kernel_rfl)|exact qF (by kernel_rfl)|exact Fit.refl _|(exact qO (by rfl))|(first|(refine fit_sl (by rfl) (fun ix h0 h1=> ?_);(have h2:ix.den<2:=h1);(have hx:ix.den.toNat=0∨ix.den.toNat=1:=by omega);(rcases hx with hx|hx<;>simp only [hx]))|(refine fit_sl (by rfl) (fun ix h0 h1=> ?_);(have h2:ix.den<3:=h1);(have hx:ix.den.toNat=0∨ix.den.toNat=1∨ix.den.toNat=2:=by omega);(rcases hx with hx|hx|hx<;>simp only [hx]))|(refine fit_sl (by rfl) (fun ix h0 h1=> ?_);(have h2:ix.den<4:=h1);(have hx:ix.den.toNat=0∨ix.den.toNat=1∨ix.den.toNat=2∨ix.den.toNat=3:=by omega);(rcases hx with hx|hx|hx|hx<;>simp only [hx]))|(refine fit_sl (by rfl) (fun ix h0 h1=> ?_);(have h2:ix.den<1:=h1);(have hx:ix.den.toNat=0:=by omega);(rcases hx with hx<;>simp only [hx]))|(refine fit_sl (by rfl) (fun ix h0 h1=> ?_);(have h2:ix.den<5:=h1);(have hx:ix.den.toNat=0∨ix.den.toNat=1∨ix.den.toNat=2∨ix.den.toNat=3∨ix.den.toNat=4:=by omega);(rcases hx with hx|hx|hx|hx|hx<;>simp only [hx])))))
  · (repeat' (first|exact qH|refine qI ?_ ?_|exact qK _|(refine qJ ?_;(repeat' (first|exact qA|exact qB|refine qC ?_ rfl ?_|refine qD ?_ ?_|exact qE (by rfl)|exact qF (by rfl)|exact qE (by kernel_rfl)|exact qF (by kernel_rfl)|exact Fit.refl _|(exact qO (by rfl))|(first|(refine fit_sl (by rfl) (fun ix h0 h1=> ?_);(have h2:ix.den<2:=h1);(have hx:ix.den.toNat=0∨ix.den.toNat=1:=by omega);(rcases hx with hx|hx<;>simp only [hx]))|(refine fit_sl (by rfl) (fun ix h0 h1=> ?_);(have h2:ix.den<3:=h1);(have hx:ix.den.toNat=0∨ix.den.toNat=1∨ix.den.toNat=2:=by omega);(rcases hx with hx|hx|hx<;>simp only [hx]))|(refine fit_sl (by rfl) (fun ix h0 h1=> ?_);(have h2:ix.den<4:=h1);(have hx:ix.den.toNat=0∨ix.den.toNat=1∨ix.den.toNat=2∨ix.den.toNat=3:=by omega);(rcases hx with hx|hx|hx|hx<;>simp only [hx]))|(refine fit_sl (by rfl) (fun ix h0 h1=> ?_);(have h2:ix.den<1:=h1);(have hx:ix.den.toNat=0:=by omega);(rcases hx with hx<;>simp only [hx]))|(refine fit_sl (by rfl) (fun ix h0 h1=> ?_);(have h2:ix.den<5:=h1);(have hx:ix.den.toNat=0∨ix.den.toNat=1∨ix.den.toNat=2∨ix.den.toNat=3∨ix.den.toNat=4:=by omega);(rcases hx with hx|hx|hx|hx|hx<;>simp only [hx])))));done)))
theorem threeL :FSpecN Try.prog 37 [] [] (fun r bs=>r=(.agg [(.sl 1 (.sym fun _=>zi (d3.tw).length) (fun ix=>[.int .i64 (.sym fun _=>(d3.tw).getD ix.den.toNat 0)])),(.sl 1 (.sym fun _=>zi (d3.tm).length) (fun ix=>[.int .i64 (.sym fun _=>(d3.tm).getD ix.den.toNat 0)])),(.sl 1 (.sym fun _=>zi (d3.tv).length) (fun ix=>[(.sl 1 (.sym fun _=>zi ((d3.tv).getD ix.den.toNat []).length) (fun jx=>[.int .i64 (.sym fun _=>((d3.tv).getD ix.den.toNat []).getD jx.den.toNat 0)]))])),(.int .i64 (.sym fun _=>d3.sn)),(.int .i64 (.sym fun _=>d3.pn)),.ows 0 0 1 1 4,(.sl 6 (.sym fun _=>zi (d3.fs).length) (fun ix=>[(.int .i64 (.sym fun _=>((d3.fs).getD ix.den.toNat f0T).p)),(.int .i64 (.sym fun _=>((d3.fs).getD ix.den.toNat f0T).s)),(.int .i64 (.sym fun _=>((d3.fs).getD ix.den.toNat f0T).wl)),(.int .i64 (.sym fun _=>((d3.fs).getD ix.den.toNat f0T).wh)),(.int .i64 (.sym fun _=>((d3.fs).getD ix.den.toNat f0T).ml)),(.int .i64 (.sym fun _=>((d3.fs).getD ix.den.toNat f0T).mh))]))])∧bs=[.cells [(.int .i64 (.lit (0))),(.int .i64 (.lit (1))),(.int .i64 (.lit (-3))),(.int .i64 (.lit (0)))] 87]):=by
  have c40:= @between40
  refine FSpecN.is rfl rfl fun R B hR hB=>fspecL_vc (sc:=sc37) tyok mix Try.func37 rfl Try.call37 (by kernel_rfl) (by kernel_rfl) ?_
  generalize Try.prog=P at c40⊢
  cbv
  repeat' (first
      | (refine qP ?_ (c40 _ _) (by(repeat' (first|exact qB|refine qD ?_ ?_|exact qE (by rfl)|exact qF (by rfl)|exact Fit.refl _|exact qA|refine qC ?_ rfl ?_)))
         try cbv)
      |fail)
  refine Exists.intro (α:=List Nat) [10] ?_
  cbv
  subst hR
  subst hB
  refine⟨?_,?_⟩
  · (repeat' (first|exact qA|exact qB|refine qC ?_ rfl ?_|refine qD ?_ ?_|exact qE (by rfl)|exact qF (by rfl)|exact qE (by kernel_rfl)|exact qF (by kernel_rfl)|exact Fit.refl _|(exact qO (by rfl))|(first|(refine fit_sl (by rfl) (fun ix h0 h1=> ?_);(have h2:ix.den<2:=h1);(have hx:ix.den.toNat=0∨ix.den.toNat=1:=by omega);(rcases hx with hx|hx<;>simp only [hx]))|(refine fit_sl (by rfl) (fun ix h0 h1=> ?_);(have h2:ix.den<3:=h1);(have hx:ix.den.toNat=0∨ix.den.toNat=1∨ix.den.toNat=2:=by omega);(rcases hx with hx|hx|hx<;>simp only [hx]))|(refine fit_sl (by rfl) (fun ix h0 h1=> ?_);(have h2:ix.den<4:=h1);(have hx:ix.den.toNat=0∨ix.den.toNat=1∨ix.den.toNat=2∨ix.den.toNat=3:=by omega);(rcases hx with hx|hx|hx|hx<;>simp only [hx]))|(refine fit_sl (by rfl) (fun ix h0 h1=> ?_);(have h2:ix.den<1:=h1);(have hx:ix.den.toNat=0:=by omega);(rcases hx with hx<;>simp only [hx]))|(refine fit_sl (by rfl) (fun ix h0 h1=> ?_);(have h2:ix.den<5:=h1);(have hx:ix.den.toNat=0∨ix.den.toNat=1∨ix.den.toNat=2∨ix.den.toNat=3∨ix.den.toNat=4:=by omega);(rcases hx with hx|hx|hx|hx|hx<;>simp only [hx])))))
  · (repeat' (first|exact qH|refine qI ?_ ?_|exact qK _|(refine qJ ?_;(repeat' (first|exact qA|exact qB|refine qC ?_ rfl ?_|refine qD ?_ ?_|exact qE (by rfl)|exact qF (by rfl)|exact qE (by kernel_rfl)|exact qF (by kernel_rfl)|exact Fit.refl _|(exact qO (by rfl))|(first|(refine fit_sl (by rfl) (fun ix h0 h1=> ?_);(have h2:ix.den<2:=h1);(have hx:ix.den.toNat=0∨ix.den.toNat=1:=by omega);(rcases hx with hx|hx<;>simp only [hx]))|(refine fit_sl (by rfl) (fun ix h0 h1=> ?_);(have h2:ix.den<3:=h1);(have hx:ix.den.toNat=0∨ix.den.toNat=1∨ix.den.toNat=2:=by omega);(rcases hx with hx|hx|hx<;>simp only [hx]))|(refine fit_sl (by rfl) (fun ix h0 h1=> ?_);(have h2:ix.den<4:=h1);(have hx:ix.den.toNat=0∨ix.den.toNat=1∨ix.den.toNat=2∨ix.den.toNat=3:=by omega);(rcases hx with hx|hx|hx|hx<;>simp only [hx]))|(refine fit_sl (by rfl) (fun ix h0 h1=> ?_);(have h2:ix.den<1:=h1);(have hx:ix.den.toNat=0:=by omega);(rcases hx with hx<;>simp only [hx]))|(refine fit_sl (by rfl) (fun ix h0 h1=> ?_);(have h2:ix.den<5:=h1);(have hx:ix.den.toNat=0∨ix.den.toNat=1∨ix.den.toNat=2∨ix.den.toNat=3∨ix.den.toNat=4:=by omega);(rcases hx with hx|hx|hx|hx|hx<;>simp only [hx])))));done)))
set_option maxHeartbeats 4000000 in
theorem law10 :FSpec Try.prog 10 [] [] (fun r _=>r=(.bool (.lit true))):=by
  have k37:=three37
  have k39:=two39
  have kmeanY1:=meanY1
  have kmeanY2:=meanY2
  have kshowY:=showY
  have kleaveY:=leaveY
  have kbelieveY:=believeY
  have kblameY:=blameY
  have kproveYa:=proveYa
  have kproveYb:=proveYb
  have kproveYc:=proveYc
  have kintsY:=intsY
  have kmeanZ:=meanZ
  have kboundsZ:=boundsZ
  have kshowZ:=showZ
  have kfirstZ:=firstZ
  have kleaveZ:=leaveZ
  have kblameZ:=blameZ
  have kchargeZ1:=chargeZ1
  have kchargeZ2:=chargeZ2
  have kcostsZ:=costsZ
  have kck_bad:=ck_bad
  have kck_sam:=ck_sam
  have kck_par:=ck_par
  have kck_slf:=ck_slf
  have kck_wid:=ck_wid
  have kck_pnt:=ck_pnt
  have kck_mrk:=ck_mrk
  have kck_man:=ck_man
  have kck_non:=ck_non
  have c40:= @between40
  have h33:=eqOk33
  have k12:=awake12
  have kM:=threeM
  have kL:=threeL
  have kN:=three37n
  refine FSpec.is fun R hR=>qW (sc:=sc10b) tyok mix Try.func10 rfl Try.call10 (by kernel_rfl) (by kernel_rfl) ?_
  generalize Try.prog=P at k37 k39 kmeanY1 kmeanY2 kshowY kleaveY kbelieveY kblameY kproveYa kproveYb kproveYc kintsY kmeanZ kboundsZ kshowZ kfirstZ kleaveZ kblameZ kchargeZ1 kchargeZ2 kcostsZ kck_bad kck_sam kck_par kck_slf kck_wid kck_pnt kck_mrk kck_man kck_non c40 h33 k12 kM kL kN⊢
  cbv
  repeat' (first
      |with_reducible refine hold ?_ ?_
      |with_reducible refine And.intro ?_ ?_
      |(with_reducible intro hcd;(try simp only [zA,zB,zC,zD,zE,zF,zG,zH,zI,zJ,zK,zL,zM,zN,zO,zP]at hcd);try cbv)
      | (refine qP ?_ (c40 _ _) (by(repeat' (first|exact qB|refine qD ?_ ?_|exact qE (by rfl)|exact qF (by rfl)|exact Fit.refl _|exact qA|refine qC ?_ rfl ?_)))
         try cbv)
      | (refine qP ?_ (k37) ?hfit
         case hfit=>((repeat' (first|exact qA|exact qB|refine qC ?_ rfl ?_|refine qD ?_ ?_|exact qE (by rfl)|exact qF (by rfl)|exact Fit.refl _|(exact qO (by rfl))));done)
         try cbv)
      | (refine qP ?_ (k39) ?hfit
         case hfit=>((repeat' (first|exact qA|exact qB|refine qC ?_ rfl ?_|refine qD ?_ ?_|exact qE (by rfl)|exact qF (by rfl)|exact Fit.refl _|(exact qO (by rfl))));done)
         try cbv)
      | (refine qP ?_ (kmeanY1) ?hfit
         case hfit=>((repeat' (first|exact qA|exact qB|refine qC ?_ rfl ?_|refine qD ?_ ?_|exact qE (by rfl)|exact qF (by rfl)|exact Fit.refl _|(exact qO (by rfl))|((refine fit_sl (by rfl) (fun ix h0 h1=> ?_);(have h2:ix.den<2:=h1);(have hx:ix.den.toNat=0∨ix.den.toNat=1:=by omega);(rcases hx with hx|hx<;>simp only [hx])))));done)
         try cbv)
      | (refine qP ?_ (kmeanY2) ?hfit
         case hfit=>((repeat' (first|exact qA|exact qB|refine qC ?_ rfl ?_|refine qD ?_ ?_|exact qE (by rfl)|exact qF (by rfl)|exact Fit.refl _|(exact qO (by rfl))|((refine fit_sl (by rfl) (fun ix h0 h1=> ?_);(have h2:ix.den<2:=h1);(have hx:ix.den.toNat=0∨ix.den.toNat=1:=by omega);(rcases hx with hx|hx<;>simp only [hx])))));done)
         try cbv)
      | (refine qP ?_ (kshowY) ?hfit
         case hfit=>((repeat' (first|exact qA|exact qB|refine qC ?_ rfl ?_|refine qD ?_ ?_|exact qE (by rfl)|exact qF (by rfl)|exact Fit.refl _|(exact qO (by rfl))|((refine fit_sl (by rfl) (fun ix h0 h1=> ?_);(have h2:ix.den<2:=h1);(have hx:ix.den.toNat=0∨ix.den.toNat=1:=by omega);(rcases hx with hx|hx<;>simp only [hx])))));done)
         try cbv)
      | (refine qP ?_ (kleaveY) ?hfit
         case hfit=>((repeat' (first|exact qA|exact qB|refine qC ?_ rfl ?_|refine qD ?_ ?_|exact qE (by rfl)|exact qF (by rfl)|exact Fit.refl _|(exact qO (by rfl))|((refine fit_sl (by rfl) (fun ix h0 h1=> ?_);(have h2:ix.den<2:=h1);(have hx:ix.den.toNat=0∨ix.den.toNat=1:=by omega);(rcases hx with hx|hx<;>simp only [hx])))));done)
         try cbv)
      | (refine qP ?_ (kbelieveY) ?hfit
         case hfit=>((repeat' (first|exact qA|exact qB|refine qC ?_ rfl ?_|refine qD ?_ ?_|exact qE (by rfl)|exact qF (by rfl)|exact Fit.refl _|(exact qO (by rfl))|((refine fit_sl (by rfl) (fun ix h0 h1=> ?_);(have h2:ix.den<2:=h1);(have hx:ix.den.toNat=0∨ix.den.toNat=1:=by omega);(rcases hx with hx|hx<;>simp only [hx])))));done)
         try cbv)
      | (refine qP ?_ (kblameY) ?hfit
         case hfit=>((repeat' (first|exact qA|exact qB|refine qC ?_ rfl ?_|refine qD ?_ ?_|exact qE (by rfl)|exact qF (by rfl)|exact Fit.refl _|(exact qO (by rfl))|((refine fit_sl (by rfl) (fun ix h0 h1=> ?_);(have h2:ix.den<2:=h1);(have hx:ix.den.toNat=0∨ix.den.toNat=1:=by omega);(rcases hx with hx|hx<;>simp only [hx])))));done)
         try cbv)
      | (refine qP ?_ (kproveYa) ?hfit
         case hfit=>((repeat' (first|exact qA|exact qB|refine qC ?_ rfl ?_|refine qD ?_ ?_|exact qE (by rfl)|exact qF (by rfl)|exact Fit.refl _|(exact qO (by rfl))|((refine fit_sl (by rfl) (fun ix h0 h1=> ?_);(have h2:ix.den<2:=h1);(have hx:ix.den.toNat=0∨ix.den.toNat=1:=by omega);(rcases hx with hx|hx<;>simp only [hx])))));done)
         try cbv)
      | (refine⟨none,?_⟩
         refine qR ?_ (kproveYb) rfl ?hfit
         case hfit=>(cbv;(repeat' (first|exact qA|exact qB|refine qC ?_ rfl ?_|refine qD ?_ ?_|exact qE (by rfl)|exact qF (by rfl)|exact Fit.refl _|(exact qO (by rfl))|((refine fit_sl (by rfl) (fun ix h0 h1=> ?_);(have h2:ix.den<2:=h1);(have hx:ix.den.toNat=0∨ix.den.toNat=1:=by omega);(rcases hx with hx|hx<;>simp only [hx])))));done)
         try cbv)
      | (refine⟨none,?_⟩
         refine qR ?_ (kproveYc) rfl ?hfit
         case hfit=>(cbv;(repeat' (first|exact qA|exact qB|refine qC ?_ rfl ?_|refine qD ?_ ?_|exact qE (by rfl)|exact qF (by rfl)|exact Fit.refl _|(exact qO (by rfl))|((refine fit_sl (by rfl) (fun ix h0 h1=> ?_);(have h2:ix.den<2:=h1);(have hx:ix.den.toNat=0∨ix.den.toNat=1:=by omega);(rcases hx with hx|hx<;>simp only [hx])))));done)
         try cbv)
      | (refine⟨none,?_⟩
         refine qR ?_ (kintsY) rfl ?hfit
         case hfit=>(cbv;(repeat' (first|exact qA|exact qB|refine qC ?_ rfl ?_|refine qD ?_ ?_|exact qE (by rfl)|exact qF (by rfl)|exact Fit.refl _|(exact qO (by rfl))|((refine fit_sl (by rfl) (fun ix h0 h1=> ?_);(have h2:ix.den<2:=h1);(have hx:ix.den.toNat=0∨ix.den.toNat=1:=by omega);(rcases hx with hx|hx<;>simp only [hx])))));done)
         try cbv)
      |fail)
  all_goals first
    |trivial
    |skip
  refine Exists.intro (α:=List Nat) [] ?_
  cbv
  refine Or.inr ⟨true,?_⟩
  cbv
  refine qU ?_ (kL) (by cbv;(repeat' (first|exact qB|refine qD ?_ ?_|exact qE (by rfl)|exact qF (by rfl)|exact Fit.refl _|exact qA|refine qC ?_ rfl ?_))) (by cbv;(repeat' (first|exact qH|refine qI ?_ ?_|exact qK _|refine qJ ?_|exact qA|exact qE (by rfl)|exact qF (by rfl)|exact Fit.refl _|exact qG _|refine qC ?_ rfl ?_)))
  try cbv
  repeat' (first
      | (refine qP ?_ (c40 _ _) (by(repeat' (first|exact qB|refine qD ?_ ?_|exact qE (by rfl)|exact qF (by rfl)|exact Fit.refl _|exact qA|refine qC ?_ rfl ?_)))
         try cbv)
      | (refine⟨fun ix=>[(.int .i64 (.sym fun _=>(dT3.ls.getD ix.den.toNat l0T).a)),(.int .i64 (.sym fun _=>(dT3.ls.getD ix.den.toNat l0T).b)),(.int .i64 (.sym fun _=>(dT3.ls.getD ix.den.toNat l0T).lo)),(.int .i64 (.sym fun _=>(dT3.ls.getD ix.den.toNat l0T).hi))],?_⟩
         cbv
         refine hold (hold_rowone (fun jx h0=>(by(have h3:jx.den.toNat=0:=by omega);simp only [h3];(repeat' (first|exact qA|exact qB|refine qC ?_ rfl ?_|refine qD ?_ ?_|exact qE (by rfl)|exact qF (by rfl)|exact qE (by kernel_rfl)|exact qF (by kernel_rfl)|exact Fit.refl _|(exact qO (by rfl))|(first|(refine fit_sl (by rfl) (fun ix h0 h1=> ?_);(have h2:ix.den<2:=h1);(have hx:ix.den.toNat=0∨ix.den.toNat=1:=by omega);(rcases hx with hx|hx<;>simp only [hx]))|(refine fit_sl (by rfl) (fun ix h0 h1=> ?_);(have h2:ix.den<3:=h1);(have hx:ix.den.toNat=0∨ix.den.toNat=1∨ix.den.toNat=2:=by omega);(rcases hx with hx|hx|hx<;>simp only [hx]))|(refine fit_sl (by rfl) (fun ix h0 h1=> ?_);(have h2:ix.den<4:=h1);(have hx:ix.den.toNat=0∨ix.den.toNat=1∨ix.den.toNat=2∨ix.den.toNat=3:=by omega);(rcases hx with hx|hx|hx|hx<;>simp only [hx]))|(refine fit_sl (by rfl) (fun ix h0 h1=> ?_);(have h2:ix.den<1:=h1);(have hx:ix.den.toNat=0:=by omega);(rcases hx with hx<;>simp only [hx]))|(refine fit_sl (by rfl) (fun ix h0 h1=> ?_);(have h2:ix.den<5:=h1);(have hx:ix.den.toNat=0∨ix.den.toNat=1∨ix.den.toNat=2∨ix.den.toNat=3∨ix.den.toNat=4:=by omega);(rcases hx with hx|hx|hx|hx|hx<;>simp only [hx]))))))) (fun ix jx h0 h1 h2=>(by(have h3:jx.den.toNat=1:=by(have h4:ix.den<1:=h1;omega));simp only [h3];(repeat' (first|exact qA|exact qB|refine qC ?_ rfl ?_|refine qD ?_ ?_|exact qE (by rfl)|exact qF (by rfl)|exact qE (by kernel_rfl)|exact qF (by kernel_rfl)|exact Fit.refl _|(exact qO (by rfl))|(first|(refine fit_sl (by rfl) (fun ix h0 h1=> ?_);(have h2:ix.den<2:=h1);(have hx:ix.den.toNat=0∨ix.den.toNat=1:=by omega);(rcases hx with hx|hx<;>simp only [hx]))|(refine fit_sl (by rfl) (fun ix h0 h1=> ?_);(have h2:ix.den<3:=h1);(have hx:ix.den.toNat=0∨ix.den.toNat=1∨ix.den.toNat=2:=by omega);(rcases hx with hx|hx|hx<;>simp only [hx]))|(refine fit_sl (by rfl) (fun ix h0 h1=> ?_);(have h2:ix.den<4:=h1);(have hx:ix.den.toNat=0∨ix.den.toNat=1∨ix.den.toNat=2∨ix.den.toNat=3:=by omega);(rcases hx with hx|hx|hx|hx<;>simp only [hx]))|(refine fit_sl (by rfl) (fun ix h0 h1=> ?_);(have h2:ix.den<1:=h1);(have hx:ix.den.toNat=0:=by omega);(rcases hx with hx<;>simp only [hx]))|(refine fit_sl (by rfl) (fun ix h0 h1=> ?_);(have h2:ix.den<5:=h1);(have hx:ix.den.toNat=0∨ix.den.toNat=1∨ix.den.toNat=2∨ix.den.toNat=3∨ix.den.toNat=4:=by omega);(rcases hx with hx|hx|hx|hx|hx<;>simp only [hx]))))))) ⟨by decide,by decide⟩) ?_
         try cbv)
      | (refine qP ?_ (k37) ?hfit
         case hfit=>((repeat' (first|exact qA|exact qB|refine qC ?_ rfl ?_|refine qD ?_ ?_|exact qE (by rfl)|exact qF (by rfl)|exact Fit.refl _|(exact qO (by rfl))));done)
         try cbv)
      | (refine qP ?_ (k39) ?hfit
         case hfit=>((repeat' (first|exact qA|exact qB|refine qC ?_ rfl ?_|refine qD ?_ ?_|exact qE (by rfl)|exact qF (by rfl)|exact Fit.refl _|(exact qO (by rfl))));done)
         try cbv)
      | (refine qP ?_ (kmeanZ) ?hfit
         case hfit=>((repeat' (first|exact qA|exact qB|refine qC ?_ rfl ?_|refine qD ?_ ?_|exact qE (by rfl)|exact qF (by rfl)|exact Fit.refl _|(exact qO (by rfl))|((refine fit_sl (by rfl) (fun ix h0 h1=> ?_);(have h2:ix.den<2:=h1);(have hx:ix.den.toNat=0∨ix.den.toNat=1:=by omega);(rcases hx with hx|hx<;>simp only [hx])))));done)
         try cbv)
      | (refine qP ?_ (kboundsZ) ?hfit
         case hfit=>((repeat' (first|exact qA|exact qB|refine qC ?_ rfl ?_|refine qD ?_ ?_|exact qE (by rfl)|exact qF (by rfl)|exact Fit.refl _|(exact qO (by rfl))|((refine fit_sl (by rfl) (fun ix h0 h1=> ?_);(have h2:ix.den<2:=h1);(have hx:ix.den.toNat=0∨ix.den.toNat=1:=by omega);(rcases hx with hx|hx<;>simp only [hx])))));done)
         try cbv)
      | (refine qP ?_ (kshowZ) ?hfit
         case hfit=>((repeat' (first|exact qA|exact qB|refine qC ?_ rfl ?_|refine qD ?_ ?_|exact qE (by rfl)|exact qF (by rfl)|exact Fit.refl _|(exact qO (by rfl))|((refine fit_sl (by rfl) (fun ix h0 h1=> ?_);(have h2:ix.den<2:=h1);(have hx:ix.den.toNat=0∨ix.den.toNat=1:=by omega);(rcases hx with hx|hx<;>simp only [hx])))));done)
         try cbv)
      | (refine qP ?_ (kfirstZ) ?hfit
         case hfit=>((repeat' (first|exact qA|exact qB|refine qC ?_ rfl ?_|refine qD ?_ ?_|exact qE (by rfl)|exact qF (by rfl)|exact Fit.refl _|(exact qO (by rfl))|((refine fit_sl (by rfl) (fun ix h0 h1=> ?_);(have h2:ix.den<2:=h1);(have hx:ix.den.toNat=0∨ix.den.toNat=1:=by omega);(rcases hx with hx|hx<;>simp only [hx])))));done)
         try cbv)
      |fail)
  all_goals first
    |skip
  refine Exists.intro (α:=List Nat) [128] ?_
  cbv
  repeat' (first
      | (refine qP ?_ (k37) ?hfit
         case hfit=>((repeat' (first|exact qA|exact qB|refine qC ?_ rfl ?_|refine qD ?_ ?_|exact qE (by rfl)|exact qF (by rfl)|exact Fit.refl _|(exact qO (by rfl))));done)
         try cbv)
      | (refine qP ?_ (kleaveZ) ?hfit
         case hfit=>((repeat' (first|exact qA|exact qB|refine qC ?_ rfl ?_|refine qD ?_ ?_|exact qE (by rfl)|exact qF (by rfl)|exact Fit.refl _|(exact qO (by rfl))|((refine fit_sl (by rfl) (fun ix h0 h1=> ?_);(have h2:ix.den<2:=h1);(have hx:ix.den.toNat=0∨ix.den.toNat=1:=by omega);(rcases hx with hx|hx<;>simp only [hx])))));done)
         try cbv)
      | (refine qP ?_ (kblameZ) ?hfit
         case hfit=>((repeat' (first|exact qA|exact qB|refine qC ?_ rfl ?_|refine qD ?_ ?_|exact qE (by rfl)|exact qF (by rfl)|exact Fit.refl _|(exact qO (by rfl))|((refine fit_sl (by rfl) (fun ix h0 h1=> ?_);(have h2:ix.den<2:=h1);(have hx:ix.den.toNat=0∨ix.den.toNat=1:=by omega);(rcases hx with hx|hx<;>simp only [hx])))));done)
         try cbv)
      | (refine qP ?_ (kchargeZ1) ?hfit
         case hfit=>((repeat' (first|exact qA|exact qB|refine qC ?_ rfl ?_|refine qD ?_ ?_|exact qE (by rfl)|exact qF (by rfl)|exact Fit.refl _|(exact qO (by rfl))|((refine fit_sl (by rfl) (fun ix h0 h1=> ?_);(have h2:ix.den<2:=h1);(have hx:ix.den.toNat=0∨ix.den.toNat=1:=by omega);(rcases hx with hx|hx<;>simp only [hx])))));done)
         try cbv)
      | (refine qP ?_ (kchargeZ2) ?hfit
         case hfit=>((repeat' (first|exact qA|exact qB|refine qC ?_ rfl ?_|refine qD ?_ ?_|exact qE (by rfl)|exact qF (by rfl)|exact Fit.refl _|(exact qO (by rfl))|((refine fit_sl (by rfl) (fun ix h0 h1=> ?_);(have h2:ix.den<2:=h1);(have hx:ix.den.toNat=0∨ix.den.toNat=1:=by omega);(rcases hx with hx|hx<;>simp only [hx])))));done)
         try cbv)
      | (refine qP ?_ (kcostsZ) ?hfit
         case hfit=>((repeat' (first|exact qA|exact qB|refine qC ?_ rfl ?_|refine qD ?_ ?_|exact qE (by rfl)|exact qF (by rfl)|exact Fit.refl _|(exact qO (by rfl))|((refine fit_sl (by rfl) (fun ix h0 h1=> ?_);(have h2:ix.den<2:=h1);(have hx:ix.den.toNat=0∨ix.den.toNat=1:=by omega);(rcases hx with hx|hx<;>simp only [hx])))));done)
         try cbv)
      |fail)
  all_goals first
    |skip
  refine Exists.intro (α:=List Nat) [] ?_
  cbv
  refine Or.inr ⟨true,?_⟩
  cbv
  refine qU ?_ (kM) (by cbv;(repeat' (first|exact qB|refine qD ?_ ?_|exact qE (by rfl)|exact qF (by rfl)|exact Fit.refl _|exact qA|refine qC ?_ rfl ?_))) (by cbv;(repeat' (first|exact qH|refine qI ?_ ?_|exact qK _|refine qJ ?_|exact qA|exact qE (by rfl)|exact qF (by rfl)|exact Fit.refl _|exact qG _|refine qC ?_ rfl ?_)))
  try cbv
  refine qP ?_ (k37) (by(repeat' (first|exact qB|refine qD ?_ ?_|exact qE (by rfl)|exact qF (by rfl)|exact Fit.refl _|exact qA|refine qC ?_ rfl ?_)))
  try cbv
  refine qP ?_ (k37) (by(repeat' (first|exact qB|refine qD ?_ ?_|exact qE (by rfl)|exact qF (by rfl)|exact Fit.refl _|exact qA|refine qC ?_ rfl ?_)))
  try cbv
  refine Or.inr ⟨true,?_⟩
  cbv
  refine qU ?_ (kL) (by cbv;(repeat' (first|exact qB|refine qD ?_ ?_|exact qE (by rfl)|exact qF (by rfl)|exact Fit.refl _|exact qA|refine qC ?_ rfl ?_))) (by cbv;(repeat' (first|exact qH|refine qI ?_ ?_|exact qK _|refine qJ ?_|exact qA|exact qE (by rfl)|exact qF (by rfl)|exact Fit.refl _|exact qG _|refine qC ?_ rfl ?_)))
  try cbv
  refine Or.inr ⟨true,?_⟩
  cbv
  refine qU ?_ (kL) (by cbv;(repeat' (first|exact qB|refine qD ?_ ?_|exact qE (by rfl)|exact qF (by rfl)|exact Fit.refl _|exact qA|refine qC ?_ rfl ?_))) (by cbv;(repeat' (first|exact qH|refine qI ?_ ?_|exact qK _|refine qJ ?_|exact qA|exact qE (by rfl)|exact qF (by rfl)|exact Fit.refl _|exact qG _|refine qC ?_ rfl ?_)))
  try cbv
  refine Or.inr ⟨true,?_⟩
  cbv
  refine qU ?_ (kN) (by cbv;(repeat' (first|exact qB|refine qD ?_ ?_|exact qE (by rfl)|exact qF (by rfl)|exact Fit.refl _|exact qA|refine qC ?_ rfl ?_))) (by cbv;(repeat' (first|exact qH|refine qI ?_ ?_|exact qK _|refine qJ ?_|exact qA|exact qE (by rfl)|exact qF (by rfl)|exact Fit.refl _|exact qG _|refine qC ?_ rfl ?_)))
  try cbv
  refine Or.inr ⟨true,?_⟩
  cbv
  refine qU ?_ (kN) (by cbv;(repeat' (first|exact qB|refine qD ?_ ?_|exact qE (by rfl)|exact qF (by rfl)|exact Fit.refl _|exact qA|refine qC ?_ rfl ?_))) (by cbv;(repeat' (first|exact qH|refine qI ?_ ?_|exact qK _|refine qJ ?_|exact qA|exact qE (by rfl)|exact qF (by rfl)|exact Fit.refl _|exact qG _|refine qC ?_ rfl ?_)))
  try cbv
  refine qP ?_ (k37) (by(repeat' (first|exact qB|refine qD ?_ ?_|exact qE (by rfl)|exact qF (by rfl)|exact Fit.refl _|exact qA|refine qC ?_ rfl ?_)))
  try cbv
  repeat' (first
      | (refine qP ?_ (c40 _ _) (by(repeat' (first|exact qB|refine qD ?_ ?_|exact qE (by rfl)|exact qF (by rfl)|exact Fit.refl _|exact qA|refine qC ?_ rfl ?_)))
         try cbv)
      | (refine⟨none,?_⟩
         refine qR ?_ (kck_bad) rfl ?hfit
         case hfit=>(cbv;(repeat' (first|exact qA|exact qB|refine qC ?_ rfl ?_|refine qD ?_ ?_|exact qE (by rfl)|exact qF (by rfl)|exact Fit.refl _|(exact qO (by rfl))|((refine fit_sl (by rfl) (fun ix h0 h1=> ?_);(have h2:ix.den<3:=h1);(have hx:ix.den.toNat=0∨ix.den.toNat=1∨ix.den.toNat=2:=by omega);(rcases hx with hx|hx|hx<;>simp only [hx])))));done)
         try cbv)
      | (refine qP ?_ (kck_sam) ?hfit
         case hfit=>((repeat' (first|exact qA|exact qB|refine qC ?_ rfl ?_|refine qD ?_ ?_|exact qE (by rfl)|exact qF (by rfl)|exact Fit.refl _|(exact qO (by rfl))));done)
         try cbv)
      | (refine qP ?_ (kck_par) ?hfit
         case hfit=>((repeat' (first|exact qA|exact qB|refine qC ?_ rfl ?_|refine qD ?_ ?_|exact qE (by rfl)|exact qF (by rfl)|exact Fit.refl _|(exact qO (by rfl))));done)
         try cbv)
      | (refine⟨none,?_⟩
         refine qR ?_ (kck_slf) rfl ?hfit
         case hfit=>(cbv;(repeat' (first|exact qA|exact qB|refine qC ?_ rfl ?_|refine qD ?_ ?_|exact qE (by rfl)|exact qF (by rfl)|exact Fit.refl _|(exact qO (by rfl))|((refine fit_sl (by rfl) (fun ix h0 h1=> ?_);(have h2:ix.den<1:=h1);(have hx:ix.den.toNat=0:=by omega);(rcases hx with hx<;>simp only [hx])))));done)
         try cbv)
      | (refine⟨none,?_⟩
         refine qR ?_ (kck_wid) rfl ?hfit
         case hfit=>(cbv;(repeat' (first|exact qA|exact qB|refine qC ?_ rfl ?_|refine qD ?_ ?_|exact qE (by rfl)|exact qF (by rfl)|exact Fit.refl _|(exact qO (by rfl))|((refine fit_sl (by rfl) (fun ix h0 h1=> ?_);(have h2:ix.den<1:=h1);(have hx:ix.den.toNat=0:=by omega);(rcases hx with hx<;>simp only [hx])))));done)
         try cbv)
      | (refine⟨none,?_⟩
         refine qR ?_ (kck_pnt) rfl ?hfit
         case hfit=>(cbv;(repeat' (first|exact qA|exact qB|refine qC ?_ rfl ?_|refine qD ?_ ?_|exact qE (by rfl)|exact qF (by rfl)|exact Fit.refl _|(exact qO (by rfl))|((refine fit_sl (by rfl) (fun ix h0 h1=> ?_);(have h2:ix.den<3:=h1);(have hx:ix.den.toNat=0∨ix.den.toNat=1∨ix.den.toNat=2:=by omega);(rcases hx with hx|hx|hx<;>simp only [hx])))));done)
         try cbv)
      | (refine⟨none,?_⟩
         refine qR ?_ (kck_mrk) rfl ?hfit
         case hfit=>(cbv;(repeat' (first|exact qA|exact qB|refine qC ?_ rfl ?_|refine qD ?_ ?_|exact qE (by rfl)|exact qF (by rfl)|exact Fit.refl _|(exact qO (by rfl))|((refine fit_sl (by rfl) (fun ix h0 h1=> ?_);(have h2:ix.den<3:=h1);(have hx:ix.den.toNat=0∨ix.den.toNat=1∨ix.den.toNat=2:=by omega);(rcases hx with hx|hx|hx<;>simp only [hx])))));done)
         try cbv)
      | (refine⟨none,?_⟩
         refine qR ?_ (kck_man) rfl ?hfit
         case hfit=>(cbv;(repeat' (first|exact qA|exact qB|refine qC ?_ rfl ?_|refine qD ?_ ?_|exact qE (by rfl)|exact qF (by rfl)|exact Fit.refl _|(exact qO (by rfl))|((refine fit_sl (by rfl) (fun ix h0 h1=> ?_);(have h2:ix.den<7:=h1);(have hx:ix.den.toNat=0∨ix.den.toNat=1∨ix.den.toNat=2∨ix.den.toNat=3∨ix.den.toNat=4∨ix.den.toNat=5∨ix.den.toNat=6:=by omega);(rcases hx with hx|hx|hx|hx|hx|hx|hx<;>simp only [hx])))));done)
         try cbv)
      | (refine qP ?_ (kck_non) ?hfit
         case hfit=>((repeat' (first|exact qA|exact qB|refine qC ?_ rfl ?_|refine qD ?_ ?_|exact qE (by rfl)|exact qF (by rfl)|exact Fit.refl _|(exact qO (by rfl))));done)
         try cbv)
      | (refine qP ?_ (k12) ?hfit
         case hfit=>((repeat' (first|exact qA|exact qB|refine qC ?_ rfl ?_|refine qD ?_ ?_|exact qE (by rfl)|exact qF (by rfl)|exact Fit.refl _|(exact qO (by rfl))));done)
         try cbv)
      |fail)
  all_goals first
    |((try clear kmeanY1);(try clear kmeanY2);(try clear kshowY);(try clear kleaveY);(try clear kbelieveY);(try clear kblameY);(try clear kproveYa);(try clear kproveYb);(try clear kproveYc);(try clear kintsY);(try clear kmeanZ);(try clear kboundsZ);(try clear kshowZ);(try clear kfirstZ);(try clear kleaveZ);(try clear kblameZ);(try clear kchargeZ1);(try clear kchargeZ2);(try clear kcostsZ);(try clear kck_bad);(try clear kck_sam);(try clear kck_par);(try clear kck_slf);(try clear kck_wid);(try clear kck_pnt);(try clear kck_mrk);(try clear kck_man);(try clear kck_non);(try clear k37);(try clear k39);(try clear kM);(try clear kL);(try clear kN);(try clear k12);(subst hR;(repeat' (first|exact qA|exact qB|refine qC ?_ rfl ?_|refine qD ?_ ?_|exact qE (by rfl)|exact qF (by rfl)|exact Fit.refl _|exact qG _|(refine qE ?_;(try simp only [qV]at *);simp only [zQ,zA,zB,zC,zD,zE,zF,zG,zH,zI,zJ,zK,zL,zM,zN,zO,zP,zR,zS]at *;omega)));done))
    |skip
end Go.Proofs.Ytkdggbfknlcdaaa
