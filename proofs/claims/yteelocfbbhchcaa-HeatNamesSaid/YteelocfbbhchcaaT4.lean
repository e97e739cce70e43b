/- Contracts of the functions that the laws come to. No condition. -/
import Derived.Test.YteelocfbbhchcaaE3
import Derived.Test.YteelocfbbhchcaaProg
set_option linter.unusedVariables false
set_option linter.unusedSimpArgs false
set_option linter.deprecated false

namespace Go.Proofs.Yteelocfbbhchcaa
open Go Go.Eng Go.Proofs
def ti3 :TI:=⟨.int .i64,1,8,[.one (.int .i64)]⟩
def ti4 :TI:=⟨.bool,1,1,[.one .bool]⟩
def ti5 :TI:=⟨.int .u8,1,1,[.one (.int .u8)]⟩
def ti23 :TI:=⟨.str [(0,3),(1,3)],2,16,[.one (.int .i64),.one (.int .i64)]⟩
def ti24 :TI:=⟨.sli 98,1,24,[.one .sli]⟩
def ti25 :TI:=⟨.sli 53,1,24,[.one .sli]⟩
def ti27 :TI:=⟨.str [(0,23),(2,3),(3,24),(4,25)],5,72,[.one (.int .i64),.one (.int .i64),.one (.int .i64),.one .sli,.one .sli]⟩
def ti28 :TI:=⟨.sli 3,1,24,[.one .sli]⟩
def ti30 :TI:=⟨.str [(0,3),(1,28),(2,28)],3,56,[.one (.int .i64),.one .sli,.one .sli]⟩
def ti33 :TI:=⟨.str [(0,3),(1,3)],2,16,[.one (.int .i64),.one (.int .i64)]⟩
def ti34 :TI:=⟨.int .i64,1,8,[.one (.int .i64)]⟩
def ti37 :TI:=⟨.sli 120,1,24,[.one .sli]⟩
def ti38 :TI:=⟨.sli 125,1,24,[.one .sli]⟩
def ti40 :TI:=⟨.str [(0,33),(2,3),(3,37),(4,38)],5,72,[.one (.int .i64),.one (.int .i64),.one (.int .i64),.one .sli,.one .sli]⟩
def ti42 :TI:=⟨.sli 28,1,24,[.one .sli]⟩
def ti45 :TI:=⟨.str [(0,3),(1,28),(2,28)],3,56,[.one (.int .i64),.one .sli,.one .sli]⟩
def ti51 :TI:=⟨.sli 100,1,24,[.one .sli]⟩
def ti53 :TI:=⟨.str [(0,3),(1,51)],2,32,[.one (.int .i64),.one .sli]⟩
def ti60 :TI:=⟨.sli 90,1,24,[.one .sli]⟩
def ti62 :TI:=⟨.sli 74,1,24,[.one .sli]⟩
def ti65 :TI:=⟨.sli 114,1,24,[.one .sli]⟩
def ti71 :TI:=⟨.sli 151,1,24,[.one .sli]⟩
def ti74 :TI:=⟨.sli 33,1,24,[.one .sli]⟩
def ti79 :TI:=⟨.sli 106,1,24,[.one .sli]⟩
def ti81 :TI:=⟨.sli 118,1,24,[.one .sli]⟩
def ti86 :TI:=⟨.sli 5,1,24,[.one .sli]⟩
def ti90 :TI:=⟨.str [(0,3),(1,3),(2,3),(3,3)],4,32,[.one (.int .i64),.one (.int .i64),.one (.int .i64),.one (.int .i64)]⟩
def ti98 :TI:=⟨.str [(0,23),(2,23)],4,32,[.one (.int .i64),.one (.int .i64),.one (.int .i64),.one (.int .i64)]⟩
def ti100 :TI:=⟨.str [(0,3),(1,23)],3,24,[.one (.int .i64),.one (.int .i64),.one (.int .i64)]⟩
def ti103 :TI:=⟨.int .i16,1,2,[.one (.int .i16)]⟩
def ti106 :TI:=⟨.str [(0,3),(1,23)],3,24,[.one (.int .i64),.one (.int .i64),.one (.int .i64)]⟩
def ti114 :TI:=⟨.str [(0,3),(1,3),(2,3),(3,3)],4,32,[.one (.int .i64),.one (.int .i64),.one (.int .i64),.one (.int .i64)]⟩
def ti118 :TI:=⟨.str [(0,3),(1,33)],3,24,[.one (.int .i64),.one (.int .i64),.one (.int .i64)]⟩
def ti120 :TI:=⟨.str [(0,33),(2,33)],4,32,[.one (.int .i64),.one (.int .i64),.one (.int .i64),.one (.int .i64)]⟩
def ti122 :TI:=⟨.str [(0,3),(1,33)],3,24,[.one (.int .i64),.one (.int .i64),.one (.int .i64)]⟩
def ti123 :TI:=⟨.sli 122,1,24,[.one .sli]⟩
def ti125 :TI:=⟨.str [(0,3),(1,123)],2,32,[.one (.int .i64),.one .sli]⟩
def ti126 :TI:=⟨.int .u64,1,8,[.one (.int .u64)]⟩
def ti129 :TI:=⟨.one,1,8,[.one .fn]⟩
def ti132 :TI:=⟨.one,1,8,[.one .ptr]⟩
def ti135 :TI:=⟨.arr 9 3,9,72,[.rep 9 (.int .i64)]⟩
def ti138 :TI:=⟨.str [(0,3),(1,3),(2,3)],3,24,[.one (.int .i64),.one (.int .i64),.one (.int .i64)]⟩
def ti140 :TI:=⟨.one,1,8,[.one .fn]⟩
def ti144 :TI:=⟨.one,1,8,[.one .fn]⟩
def ti150 :TI:=⟨.one,1,8,[.one .fn]⟩
def ti151 :TI:=⟨.sli 152,1,24,[.one .sli]⟩
def ti152 :TI:=⟨.sli 156,1,24,[.one .sli]⟩
def ti156 :TI:=⟨.str [(0,28),(1,3)],2,32,[.one .sli,.one (.int .i64)]⟩
def ti158 :TI:=⟨.one,1,8,[.one .fn]⟩
def ti159 :TI:=⟨.one,1,8,[.one .fn]⟩
def ti162 :TI:=⟨.str [(0,159)],1,8,[.one .fn]⟩
def ti163 :TI:=⟨.sli 162,1,24,[.one .sli]⟩
def ti168 :TI:=⟨.one,1,8,[.one .fn]⟩
def ti173 :TI:=⟨.one,1,8,[.one .mp]⟩
def ti175 :TI:=⟨.str [(0,40),(5,65),(6,74),(7,173)],8,128,[.one (.int .i64),.one (.int .i64),.one (.int .i64),.one .sli,.one .sli,.one .sli,.one .sli,.one .mp]⟩
def ti178 :TI:=⟨.one,1,8,[.one .fn]⟩
def tabL :List (Nat×TI):=[(3,ti3),(4,ti4),(5,ti5),(23,ti23),(24,ti24),(25,ti25),(27,ti27),(28,ti28),(30,ti30),(33,ti33),(34,ti34),(37,ti37),(38,ti38),(40,ti40),(42,ti42),(45,ti45),(51,ti51),(53,ti53),(60,ti60),(62,ti62),(65,ti65),(71,ti71),(74,ti74),(79,ti79),(81,ti81),(86,ti86),(90,ti90),(98,ti98),(100,ti100),(103,ti103),(106,ti106),(114,ti114),(118,ti118),(120,ti120),(122,ti122),(123,ti123),(125,ti125),(126,ti126),(129,ti129),(132,ti132),(135,ti135),(138,ti138),(140,ti140),(144,ti144),(150,ti150),(151,ti151),(152,ti152),(156,ti156),(158,ti158),(159,ti159),(162,ti162),(163,ti163),(168,ti168),(173,ti173),(175,ti175),(178,ti178)]
def tab :TyTab:=fun t=>lk tabL t
def qr (n:Nat):List Nat:=List.range n
def qs (a n:Nat):List Nat:=List.range' a n
def qa (i:Nat)(p:List Nat):SE:=⟨i,false,p,false,0,none⟩
def qb (i:Nat)(p:List Nat):SE:=⟨i,true,p,false,0,none⟩
def sc15 :SC:=[(1,[qa 4 []]),(4,[qa 3 []]),(7,[qa 4 []]),(8,[qb 0 [],qb 1 [0],⟨2,true,[0,1],true,0,none⟩,qb 3 [0,1,2],qb 4 (qr 4),qb 5 (qr 5),qb 6 (qr 6),⟨7,true,(qr 7),true,0,none⟩,qa 8 (qr 8),qa 9 (qr 9),qa 10 (qr 10),qa 11 (qr 8),qb 12 (qr 12),qb 13 (qr 13),⟨14,true,(qr 14),true,0,none⟩,qa 15 (qr 15),qa 16 (qr 16),qa 17 (qr 17),qa 18 (qr 15),qb 19 (qr 19),qb 20 (qr 20),⟨21,true,(qr 21),true,0,none⟩,qb 22 (qr 22),qb 23 (qr 23),qb 24 (qr 24),⟨25,true,(qr 25),true,0,none⟩,qa 26 (qr 26),qa 27 (qr 26),qb 28 (qr 28),qb 29 (qr 29),⟨30,true,(qr 30),true,0,none⟩,qb 31 (qr 31),qb 32 (qr 32),qb 33 (qr 33),⟨34,true,(qr 34),true,0,none⟩,qb 35 (qr 35),qb 36 (qr 36),qb 37 (qr 37),qb 38 (qr 38),⟨39,true,(qr 39),true,0,none⟩,qa 40 (qr 40),qa 41 (qr 41),qa 42 (qr 42),qa 43 (qr 40),qa 44 (qs 0 40++qs 43 1),qa 45 (qs 0 40++qs 43 2),qa 46 (qs 0 40++qs 43 3),qa 47 (qs 0 40++qs 43 4),qb 48 (qr 48),qb 49 (qr 49),⟨50,true,(qr 50),true,0,none⟩,qb 51 (qr 51),qb 52 (qr 52),qb 53 (qr 53),⟨54,true,(qr 54),true,0,none⟩,qb 55 (qr 55),qb 56 (qr 56),qb 57 (qr 57),qb 58 (qr 58),⟨59,true,(qr 59),true,0,none⟩,qa 60 (qr 60),qa 61 (qr 61),qa 62 (qr 62),qa 63 (qr 60),qa 64 (qs 0 60++qs 63 1),qa 65 (qs 0 60++qs 63 2),qa 66 (qs 0 60++qs 63 3),qa 67 (qs 0 60++qs 63 4),qb 68 (qr 68),qb 69 (qr 69),⟨70,true,(qr 70),true,0,none⟩,qb 71 (qr 71),qb 72 (qr 72),qb 73 (qr 73),⟨74,true,(qr 74),true,0,none⟩,qb 75 (qr 75),qb 76 (qr 76),qb 77 (qr 77),⟨78,true,(qr 78),true,0,none⟩,qb 79 (qr 79),qb 80 (qr 80),qb 81 (qr 81),⟨82,true,(qr 82),true,0,none⟩,qb 83 (qr 83),qb 84 (qr 84),qb 85 (qr 85),⟨86,true,(qr 86),true,0,none⟩,qa 87 (qr 87),qa 88 (qr 87),qb 89 (qr 89),qb 90 (qr 90),⟨91,true,(qr 91),true,0,none⟩,qb 92 (qr 92),qb 93 (qr 93),qb 94 (qr 94),⟨95,true,(qr 95),true,0,none⟩,qa 96 (qr 96),qa 97 (qr 96),qb 98 (qr 98),qb 99 (qr 99),qb 100 (qr 100)])]
def sc16 :SC:=[]
def sc18 :SC:=[(11,[qa 0 [],qa 1 [],qa 2 [1],qa 3 [],qa 4 [3],qa 5 [],qa 6 [3,4,5],qa 7 (qs 3 4),qa 8 [],qa 9 [8],qa 10 [],qa 11 [8,9,10],qa 12 (qs 8 4),qa 13 (qs 1 12),qa 15 [],qa 14 (qr 14),qb 16 (qr 16)])]
def sc21 :SC:=[]
def sc27 :SC:=[(6,[qa 0 [],qa 1 [],qa 2 [0,1],qa 3 [0,1,2],qa 4 [],qa 5 [],qa 6 [4,5],qa 7 [4,5,6],qb 8 (qr 8)])]
def sc30 :SC:=[]
def sc32 :SC:=[]
def sc38 :SC:=[(23,[qa 0 [],qa 1 [0],qa 2 [0,1],qa 3 [],qa 4 [3],qa 5 [3,4],qb 6 (qr 6),qb 7 (qr 7),qb 8 (qr 8)])]
def sc45 :SC:=[]
def sc49 :SC:=[(7,[qa 0 [],qa 1 [],qa 2 [],qa 3 [],qa 4 [3],qa 5 [],qa 6 [5],qa 7 [],qa 8 [5,6,7],qa 9 (qs 5 4),qa 10 [],qa 11 [10],qa 12 [],qa 13 [10,11,12],qa 14 (qs 10 4),qa 15 (qs 3 12),qa 16 (qs 2 14),qb 17 (qr 17),qb 18 (qr 18)])]
def sc50 :SC:=[]
def sc51 :SC:=[(9,[qa 0 [],qa 1 [0],qa 2 [],qa 3 [2],qa 4 [2,3],⟨6,false,[],false,1,none⟩,⟨7,false,[6],false,6,none⟩,⟨8,false,[],false,1,none⟩,⟨9,false,[8],false,6,none⟩,⟨10,false,[8,9],false,1,none⟩,⟨5,true,(qr 5),false,2,none⟩,⟨12,false,[0,1,2,3,4,5,6,7],false,1,some 0⟩,⟨11,true,[0,1,2,3,4,5,6,7,8,9,10],false,2,some 0⟩,qb 13 (qr 13),qb 14 (qr 14),qb 15 (qr 15)])]
def sc52 :SC:=[]
def sc53 :SC:=[(6,[qa 0 [],qa 1 [],qa 2 [0,1],qa 3 [0,1,2],qa 4 [],qa 5 [],qa 6 [4,5],qa 7 [4,5,6],qb 8 (qr 8)])]
def sc56 :SC:=[(1,[qa 0 [],qa 1 [0],qa 2 [],qa 3 [2],qa 4 [2,3],qa 5 [2,3,4],qb 6 (qr 6),⟨7,true,(qr 7),true,0,none⟩,qa 8 (qr 8),qa 9 (qr 9),qa 10 (qr 8),qa 11 (qs 0 8++qs 10 1),qb 12 (qr 12),qb 13 (qr 13),⟨14,true,(qr 14),true,0,none⟩,qa 15 (qr 15),qa 16 (qr 16),qa 17 (qr 15),qa 18 (qs 0 15++qs 17 1),qa 19 (qs 0 15++qs 17 2),qa 20 (qs 0 15++qs 17 3),qb 21 (qr 21),qb 22 (qr 22),⟨23,true,(qr 23),true,0,none⟩,qa 24 (qr 24),qa 25 (qr 25),qa 26 (qr 24),qa 27 (qs 0 24++qs 26 1),qa 28 (qr 28),qa 29 (qr 29),qa 30 (qr 24),qa 31 (qs 0 24++qs 30 1),qb 32 (qr 32),qb 33 (qr 33),qb 34 (qr 34)])]
def sc57 :SC:=[]
def sc58 :SC:=[(6,[qa 0 [],qa 1 [0],qa 2 [],qa 3 [2],qa 4 [],qa 5 [2,3,4],qa 6 (qs 2 4),qb 7 (qr 7),qb 8 (qr 8),⟨9,true,(qr 9),true,0,none⟩,qa 10 (qr 10),qa 11 (qr 11),qa 12 (qr 10),qa 13 (qs 0 10++qs 12 1),qa 14 (qr 10),qa 15 (qs 0 10++qs 12 3),qa 16 (qs 0 10++qs 12 4),qb 17 (qr 17),qb 18 (qr 18),qb 19 (qr 19)])]
def sc59 :SC:=[(5,[qa 0 [],qa 1 [],qa 2 [1],qa 3 [1,2],qa 4 [1,2,3],qa 5 [],qa 6 [5],qa 7 [],qa 8 [7],qa 9 (qs 5 4),qa 10 (qs 5 5),qa 11 [],qa 12 [11],qa 13 (qs 5 8),qa 14 (qs 5 9),qb 15 (qs 1 14),qb 16 (qr 16),qb 17 (qr 17),qb 18 (qr 18)])]
def sc60 :SC:=[(1,[qa 0 [],qa 1 [0],qa 2 [0,1],qa 3 [0,1,2],qa 4 [],qa 9 [],qa 5 (qr 5),qa 6 (qr 6),qa 7 (qr 7),qa 8 (qr 7),qb 10 (qs 0 8++qs 9 1),qb 11 (qr 11)]),(8,[qa 0 [],qa 1 [0],qa 2 [],qa 3 [2],qa 4 [],qa 5 [4],qa 6 [4,5],qa 7 [],qa 8 [7],qa 9 (qs 4 5),qa 10 [],qa 11 [10],qa 12 [10,11],qa 13 (qs 4 9),qa 14 (qs 4 10),qa 15 (qs 2 13),qb 16 (qr 16),qb 17 (qr 17)]),(10,[qa 0 [],qa 1 [0],qa 2 [0,1],qa 3 [0,1,2],qa 4 [],qa 5 [],qb 6 (qr 6)])]
def sc61 :SC:=[]
def sc63 :SC:=[]
def sc64 :SC:=[]
def sc65 :SC:=[]
def sc66 :SC:=[]
def sc67 :SC:=[]
def sc68 :SC:=[]
def sc69 :SC:=[]
def sc70 :SC:=[]
def sc71 :SC:=[]
def sc72 :SC:=[(17,[qa 0 [],qa 1 [],qa 2 [],qa 3 [],qa 4 [2,3],qa 5 [2,3,4],qa 6 [],qa 7 [6],qa 8 [6,7],qa 9 (qs 2 7),qb 10 (qr 10),qb 11 (qr 11)])]
def sc73 :SC:=[]
def sc74 :SC:=[]
def sc75 :SC:=[]
def sc76 :SC:=[]
def sc77 :SC:=[]
def sc80 :SC:=[]
def sc81 :SC:=[]
def sc82 :SC:=[]
def sc83 :SC:=[]
def sc87 :SC:=[]
def sc88 :SC:=[(7,[⟨0,false,[],false,4,none⟩,qa 1 [],qa 3 [],qa 4 [3],qa 6 [],qa 7 [6],qa 8 [],qa 9 [8],qa 2 [1],⟨5,true,(qs 1 4),false,3,none⟩,qb 10 (qr 10)])]
def sc89 :SC:=[]
def sc91 :SC:=[(4,[qa 0 [],qa 1 [0],qa 2 [],qb 3 [0,1,2],⟨4,true,(qr 4),true,0,none⟩,qa 5 (qr 5),qa 6 (qr 5),qb 7 (qr 7),qb 8 (qr 8),qb 9 (qr 9),⟨10,true,(qr 10),true,0,none⟩,qa 11 (qr 11),qa 12 (qr 12),qa 13 (qr 13),qa 14 (qr 14),qa 15 (qr 11),qa 16 (qr 16),qa 17 (qr 17),qa 18 (qr 11),qa 19 (qs 0 11++qs 18 1),qa 20 (qs 0 11++qs 18 2),qa 21 (qs 0 11++qs 18 3),qb 22 (qr 22),qb 23 (qr 23),qb 24 (qr 24)])]
def sc92 :SC:=[]
def sc93 :SC:=[(1,[qa 0 [],qa 1 [],qa 2 [1],qa 3 [1,2],qa 4 [1,2,3],qa 5 (qs 1 4),qa 6 [],qa 7 [6],qb 8 (qr 8),qb 9 (qr 9)])]
def sc94 :SC:=[]
def sc95 :SC:=[]
def sc96 :SC:=[]
def sc97 :SC:=[]
def sc98 :SC:=[]
def sc99 :SC:=[]
def sc100 :SC:=[]
def sc101 :SC:=[]
def sc102 :SC:=[(1,[qa 0 [],qa 1 [0],qa 2 [],qa 3 [0,1,2],qa 5 [],qa 6 [5],qa 7 [],qa 8 [5,6,7],qa 4 (qr 4),qb 9 (qr 9),qb 10 (qr 10)])]
def sc103 :SC:=[]
def sc104 :SC:=[]
def sc105 :SC:=[]
def sc106 :SC:=[]
def sc107 :SC:=[]
def sc108 :SC:=[]
def sc109 :SC:=[]
def sc110 :SC:=[]
def sc111 :SC:=[]
def sc112 :SC:=[]
def sc113 :SC:=[(0,[qa 0 [],qa 1 [0],qa 2 [0,1],qa 3 [0,1,2],qa 4 (qr 4),qa 5 [],qa 6 (qr 6),qa 7 (qr 7),qa 8 [],qb 9 (qr 9)]),(5,[qa 0 [],qa 1 [],qa 2 [1],qa 3 [1,2],qb 4 (qr 4),⟨5,true,(qr 5),true,0,none⟩,qa 6 (qr 6),qa 7 (qr 6),qa 8 (qr 6),qa 9 (qr 6),qa 10 (qr 6),qa 11 (qr 6),qa 12 (qs 0 6++qs 9 3),qa 14 (qr 6),qa 13 (qs 0 6++qs 8 5),qb 15 (qr 15),qb 16 (qr 16),qb 17 (qr 17)]),(9,[qa 0 [],qa 1 [],qa 2 [],qa 3 [],qa 4 [],qa 5 [],qa 6 [3,4,5],qa 8 [],qa 7 (qs 2 5),qb 9 (qr 9),qb 10 (qr 10)]),(11,[⟨4,false,[],false,4,none⟩,qa 0 [],qa 1 [],qa 2 [],qa 3 [0,1,2],qa 5 [],qa 6 [],qa 7 [4,5,6],qa 8 [],qa 9 [],⟨10,true,(qs 0 4++qs 8 2),false,3,none⟩,qb 11 (qr 11)]),(12,[qa 0 [],qa 1 [],⟨2,true,[0,1],false,5,none⟩,qb 3 [0,1,2],⟨4,true,(qr 4),true,0,none⟩,qa 5 (qr 5),qa 6 (qr 5),qa 8 (qr 5),qa 9 (qr 5),qa 7 (qr 7),qb 10 (qr 10),qb 11 (qr 11),⟨12,true,(qr 12),true,0,none⟩,qa 13 (qr 13),qa 14 (qr 13),⟨15,true,(qr 15),false,5,none⟩,qb 16 (qr 16),qb 17 (qr 17),qb 18 (qr 18)])]
def sc114 :SC:=[]
def sc115 :SC:=[]
def sc116 :SC:=[]
def sc117 :SC:=[]
def sc118 :SC:=[]
def sc119 :SC:=[]
def sc120 :SC:=[]
def sc121 :SC:=[]
theorem tyok :TyOk Try.prog tab:=tyOk_of (l:=tabL) (by kernel_rfl) (by kernel_rfl)
theorem mix :Try.prog.follows .mixedOrders=true:=by kernel_rfl
end Go.Proofs.Yteelocfbbhchcaa

namespace Go.Proofs.Yteelocfbbhchcaa
def fidx (p:Nat→Bool):Nat→Nat→Int
  |0,_=> -1
  |n+1,i=>if p i=true then fidx p n (i+1)else i
theorem fidx_stop {p:Nat→Bool} {n i:Nat}(hn:0<n)(h:p i=false):fidx p n i=i:=by
  cases n with
  |zero=>omega
  |succ n=>simp [fidx,h]
theorem fidx_go {p:Nat→Bool} {n i:Nat}(hn:0<n)(h:p i=true):fidx p n i=fidx p (n-1) (i+1):=by
  cases n with
  |zero=>omega
  |succ n=>simp [fidx,h]
theorem fidx_iff {p:Nat→Bool}:∀{n i:Nat},0≤fidx p n i↔∃j,i≤j∧j<i+n∧p j=false:=by
  intro n
  induction n with
  | zero => intro i;simp only [fidx];constructor
            · intro h;omega
            · rintro⟨j,h1,h2,_⟩;omega
  | succ n ih=>
    intro i
    cases h:p i with
    | true=>
      rw [fidx_go (by omega) h,Nat.add_sub_cancel,ih]
      constructor
      · rintro⟨j,h1,h2,h3⟩;exact⟨j,by omega,by omega,h3⟩
      · rintro⟨j,h1,h2,h3⟩
        refine⟨j,?_,by omega,h3⟩
        by_cases e:j=i
        · subst e;rw [h]at h3;cases h3
        · omega
    | false=>
      rw [fidx_stop (by omega) h]
      exact⟨fun _=>⟨i,by omega,by omega,h⟩,fun _=>by omega⟩
theorem all_iff {p:Nat→Bool} {n:Nat}:(!(decide (0≤fidx p n 0)))=decide (∀i,i<n→p i=true):=by
  rw [Bool.eq_iff_iff]
  simp only [Bool.not_eq_true',decide_eq_false_iff_not,decide_eq_true_eq,fidx_iff]
  constructor
  · intro h i hi
    cases hp:p i with
    |true=>rfl
    |false=>exact absurd ⟨i,by omega,by omega,hp⟩ h
  · rintro h ⟨j,_,h2,h3⟩
    rw [h j (by omega)]at h3;cases h3
def allB (p:Nat→Bool)(n:Nat):Bool:= !(decide (0≤fidx p n 0))
theorem allB_t (p:Nat→Bool)(n:Nat):(allB p n=true)=∀i,i<n→p i=true:=by rw [allB,all_iff];exact decide_eq_true_eq
theorem allB_f (p:Nat→Bool)(n:Nat):(allB p n=false)=¬∀i,i<n→p i=true:=by rw [allB,all_iff];simp only [decide_eq_false_iff_not]
def inB (lo n hi:Int):Bool:=decide (lo≤n∧n≤hi)
def ofB (lo a b hi:Int):Bool:=decide (lo≤a∧a≤b∧b≤hi)
def shB (a b:Int):Bool:=decide (b-a≤20)
def spB (lo a b hi w:Int):Bool:=decide (lo≤a∧a≤b∧b≤hi∧b-a≤w)
theorem inB_t (lo n hi:Int):(inB lo n hi=true)=(lo≤n∧n≤hi):=decide_eq_true_eq
theorem inB_f (lo n hi:Int):(inB lo n hi=false)=¬(lo≤n∧n≤hi):=by simp only [inB,decide_eq_false_iff_not]
theorem ofB_t (lo a b hi:Int):(ofB lo a b hi=true)=(lo≤a∧a≤b∧b≤hi):=decide_eq_true_eq
theorem ofB_f (lo a b hi:Int):(ofB lo a b hi=false)=¬(lo≤a∧a≤b∧b≤hi):=by simp only [ofB,decide_eq_false_iff_not]
theorem shB_t (a b:Int):(shB a b=true)=(b-a≤20):=decide_eq_true_eq
theorem shB_f (a b:Int):(shB a b=false)=¬(b-a≤20):=by simp only [shB,decide_eq_false_iff_not]
theorem spB_t (lo a b hi w:Int):(spB lo a b hi w=true)=(lo≤a∧a≤b∧b≤hi∧b-a≤w):=decide_eq_true_eq
theorem spB_f (lo a b hi w:Int):(spB lo a b hi w=false)=¬(lo≤a∧a≤b∧b≤hi∧b-a≤w):=by simp only [spB,decide_eq_false_iff_not]
structure VatT where
  sl:Int
  sh:Int
  rl:Int
  rh:Int
structure PartT where
  f:Int
  el:Int
  eh:Int
structure ThmT where
  top:Int
  ps:List PartT
structure Clr where
  rl:Int
  rh:Int
  hr:Int
  vs:List VatT
  ts:List ThmT
structure LookT where
  v:Int
  h:Int
  t:Int
  s:Int
structure PorT where
  q:Int
  lo:Int
  hi:Int
def v0 :VatT:=⟨0,0,0,0⟩
def p0 :PartT:=⟨0,0,0⟩
def t0 :ThmT:=⟨0,[]⟩
def k0 :LookT:=⟨0,0,0,0⟩
def q0 :PorT:=⟨0,0,0⟩
def vatOk (v:VatT):Prop:=0≤v.sl∧v.sl≤v.sh∧v.sh≤200∧v.sh-v.sl≤20∧0≤v.rl∧v.rl≤v.rh∧v.rh≤100∧v.rh-v.rl≤20
instance (v:VatT):Decidable (vatOk v):=by unfold vatOk;infer_instance
def lastF (ps:List PartT)(i:Nat):Int:=if i=0 then -1 else(ps.getD (i-1) p0).f
def partOk (ps:List PartT)(top:Int)(i:Nat):Prop:=lastF ps i+1≤(ps.getD i p0).f∧(ps.getD i p0).f≤top∧ -10≤(ps.getD i p0).el∧(ps.getD i p0).el≤(ps.getD i p0).eh∧(ps.getD i p0).eh≤10
instance (ps:List PartT) (top:Int) (i:Nat):Decidable (partOk ps top i):=by unfold partOk;infer_instance
def thOk (t:ThmT):Prop:=0≤t.top∧t.top≤200∧t.ps.length≠0∧∀i,i<t.ps.length→partOk t.ps t.top i
instance (t:ThmT):Decidable (thOk t):=by unfold thOk;infer_instance
def porOk (p:PorT):Prop:=1≤p.q∧p.q≤1000∧0≤p.lo∧p.lo≤p.hi∧p.hi≤200
instance (p:PorT):Decidable (porOk p):=by unfold porOk;infer_instance
def vatB (v:VatT):Bool:=decide (vatOk v)
def fewB (t:ThmT):Bool:=decide (t.ps.length≤4)
def porB (p:PorT):Bool:=decide (porOk p)
def partB (ps:List PartT)(top:Int)(i:Nat):Bool:=decide (partOk ps top i)
def thB (t:ThmT):Bool:=decide (thOk t)
theorem lastF_succ (ps:List PartT)(i:Nat):lastF ps (i+1)=(ps.getD i p0).f:=by simp [lastF]
theorem lastF_bd {ps:List PartT} {top:Int} {i:Nat}(ht:top≤200)(h:∀j,j<i→partOk ps top j): -1≤lastF ps i∧lastF ps i≤200:=by
  induction i with
  |zero=>unfold lastF;simp
  | succ i ih=>
    have a:=ih fun j hj=>h j (by omega)
    have b:=h i (by omega)
    unfold partOk at b
    rw [lastF_succ];omega
structure Few (c:Clr):Prop where
  v:c.vs.length≤3
  t:c.ts.length≤3
  p:∀i,i<c.ts.length→(c.ts.getD i t0).ps.length≤4
structure Ok1 (c:Clr):Prop where
  r0:0≤c.rl
  r1:c.rl≤c.rh
  r2:c.rh≤200
  r3:c.rh-c.rl≤20
  h1:1≤c.hr
  h8:c.hr≤8
  vn:c.vs.length≠0
  v:∀i,i<c.vs.length→vatOk (c.vs.getD i v0)
  t:∀i,i<c.ts.length→thOk (c.ts.getD i t0)
theorem few_iff (c:Clr):Few c↔c.vs.length≤3∧c.ts.length≤3∧∀i,i<c.ts.length→(c.ts.getD i t0).ps.length≤4:=⟨fun h=>⟨h.v,h.t,h.p⟩,fun h=>⟨h.1,h.2.1,h.2.2⟩⟩
instance (c:Clr):Decidable (Few c):=decidable_of_iff _ (few_iff c).symm
theorem ok1_iff (c:Clr):Ok1 c↔(0≤c.rl∧c.rl≤c.rh∧c.rh≤200)∧c.rh-c.rl≤20∧(1≤c.hr∧c.hr≤8)∧c.vs.length≠0∧(∀i,i<c.vs.length→vatOk (c.vs.getD i v0))∧∀i,i<c.ts.length→thOk (c.ts.getD i t0):=
  ⟨fun h=>⟨⟨h.r0,h.r1,h.r2⟩,h.r3,⟨h.h1,h.h8⟩,h.vn,h.v,h.t⟩,fun h=>⟨h.1.1,h.1.2.1,h.1.2.2,h.2.1,h.2.2.1.1,h.2.2.1.2,h.2.2.2.1,h.2.2.2.2.1,h.2.2.2.2.2⟩⟩
instance (c:Clr):Decidable (Ok1 c):=decidable_of_iff _ (ok1_iff c).symm
def faultC (c:Clr):Int:=if Few c then(if Ok1 c then 0 else 1)else 3
structure COk (c:Clr):Prop where
  few:Few c
  ok:Ok1 c
theorem faultC_iff {c:Clr}:faultC c=0↔COk c:=by
  unfold faultC
  split
  · split
    · rename_i a b;exact⟨fun _=>⟨a,b⟩,fun _=>rfl⟩
    · rename_i b;exact⟨fun h=>(by cases h),fun h=>absurd h.ok b⟩
  · rename_i a;exact⟨fun h=>(by cases h),fun h=>absurd h.few a⟩
theorem faultC_3 {c:Clr}(h:¬Few c):faultC c=3:=by unfold faultC;rw [if_neg h]
theorem faultC_1 {c:Clr}(h:Few c)(h':¬Ok1 c):faultC c=1:=by unfold faultC;rw [if_pos h,if_neg h']
theorem porB_t (p:PorT):(porB p=true)=porOk p:=decide_eq_true_eq
def onB (t:ThmT)(s:Int):Bool:=inB (t.ps.getD 0 p0).f s t.top
def mAt (ps:List PartT)(s:Int):Nat→Nat
  |0=>0
  |n+1=>if(ps.getD (n+1) p0).f≤s then n+1 else mAt ps s n
theorem mAt_le (ps:List PartT)(s:Int)(n:Nat):mAt ps s n≤n:=by
  induction n with
  |zero=>exact Nat.le_refl _
  |succ n ih=>unfold mAt;split<;>omega
def meanP (t:ThmT)(s:Int):PartT:=t.ps.getD (mAt t.ps s (t.ps.length-1)) p0
def meanLo (t:ThmT)(s:Int):Int:=s-(meanP t s).eh
def meanHi (t:ThmT)(s:Int):Int:=s-(meanP t s).el
def thA (c:Clr)(x:LookT):ThmT:=c.ts.getD x.t.toNat t0
def lookB (c:Clr)(x:LookT):Bool:=inB 0 x.v ((c.vs.length:Int)-1)&&(inB 0 x.h c.hr&&(inB 0 x.t ((c.ts.length:Int)-1)&&onB (thA c x) x.s))
def lookF (c:Clr)(l:List LookT):Int:=if 6<l.length then 3 else if allB (fun i=>lookB c (l.getD i k0)) l.length=true then 0 else 2
def lookedF (c:Clr)(l:List LookT):Int:=if faultC c=0 then lookF c l else faultC c
structure LookIn (c:Clr)(x:LookT):Prop where
  v0:0≤x.v
  v1:x.v<c.vs.length
  h0:0≤x.h
  h1:x.h≤c.hr
  t0:0≤x.t
  t1:x.t<c.ts.length
  on:onB (thA c x) x.s=true
theorem lookB_iff {c:Clr} {x:LookT}:lookB c x=true↔LookIn c x:=by
  simp only [lookB,Bool.and_eq_true,inB_t]
  exact⟨fun h=>⟨h.1.1,by omega,h.2.1.1,h.2.1.2,h.2.2.1.1,by omega,h.2.2.2⟩,fun h=>⟨⟨h.v0,by have:=h.v1;omega⟩,⟨h.h0,h.h1⟩,⟨h.t0,by have:=h.t1;omega⟩,h.on⟩⟩
theorem meanP_ok {t:ThmT}(h:thOk t)(s:Int): -10≤(meanP t s).el∧(meanP t s).el≤(meanP t s).eh∧(meanP t s).eh≤10:=by
  have hp:=h.2.2.2 (mAt t.ps s (t.ps.length-1)) (by have:=mAt_le t.ps s (t.ps.length-1);have:=h.2.2.1;omega)
  unfold partOk at hp
  exact hp.2.2
theorem part_bd {t:ThmT}(h:thOk t):∀i,i<t.ps.length→0≤(t.ps.getD i p0).f∧(t.ps.getD i p0).f≤200:=fun i hi=>by
  have hp:=h.2.2.2 i hi
  have:=lastF_bd (i:=i) h.2.1 fun j hj=>h.2.2.2 j (by omega)
  have:=h.2.1
  unfold partOk at hp
  omega
theorem on_bd {t:ThmT}(h:thOk t) {s:Int}(ho:onB t s=true):0≤s∧s≤200∧(t.ps.getD 0 p0).f≤s:=by
  unfold onB at ho
  rw [inB_t]at ho
  have:=part_bd h 0 (by have:=h.2.2.1;omega)
  have:=h.2.1
  omega
structure LOk (c:Clr)(l:List LookT):Prop where
  len:l.length≤6
  ok:∀i,i<l.length→LookIn c (l.getD i k0)
structure ThinC (c:Clr)(n:Nat):Prop where
  v:c.vs.length≤5
  t:c.ts.length≤5
  n:n≤9
  p:∀i,i<c.ts.length→(c.ts.getD i t0).ps.length≤7
end Go.Proofs.Yteelocfbbhchcaa
namespace Go.Proofs.Yteelocfbbhchcaa
open Go Go.Eng Go.Proofs
abbrev clrS (c:Clr):SV:=(.agg [(.int .i64 (.sym fun _=>c.rl)),(.int .i64 (.sym fun _=>c.rh)),(.int .i64 (.sym fun _=>c.hr)),(.sl 4 (.sym fun _=>zi c.vs.length) (fun ix=>[(.int .i64 (.sym fun _=>(c.vs.getD ix.den.toNat v0).sl)),(.int .i64 (.sym fun _=>(c.vs.getD ix.den.toNat v0).sh)),(.int .i64 (.sym fun _=>(c.vs.getD ix.den.toNat v0).rl)),(.int .i64 (.sym fun _=>(c.vs.getD ix.den.toNat v0).rh))])),(.sl 2 (.sym fun _=>zi c.ts.length) (fun ix=>[(.int .i64 (.sym fun _=>(c.ts.getD ix.den.toNat t0).top)),(.sl 3 (.sym fun _=>zi ((c.ts.getD ix.den.toNat t0).ps).length) (fun jx=>[(.int .i64 (.sym fun _=>(((c.ts.getD ix.den.toNat t0).ps).getD jx.den.toNat p0).f)),(.int .i64 (.sym fun _=>(((c.ts.getD ix.den.toNat t0).ps).getD jx.den.toNat p0).el)),(.int .i64 (.sym fun _=>(((c.ts.getD ix.den.toNat t0).ps).getD jx.den.toNat p0).eh))]))]))])
abbrev lksS (l:List LookT):SV:=(.sl 4 (.sym fun _=>zi (l).length) (fun ix=>[(.int .i64 (.sym fun _=>((l).getD ix.den.toNat k0).v)),(.int .i64 (.sym fun _=>((l).getD ix.den.toNat k0).h)),(.int .i64 (.sym fun _=>((l).getD ix.den.toNat k0).t)),(.int .i64 (.sym fun _=>((l).getD ix.den.toNat k0).s))]))
abbrev porS (l:List PorT):SV:=(.sl 3 (.sym fun _=>zi (l).length) (fun ix=>[(.int .i64 (.sym fun _=>((l).getD ix.den.toNat q0).q)),(.int .i64 (.sym fun _=>((l).getD ix.den.toNat q0).lo)),(.int .i64 (.sym fun _=>((l).getD ix.den.toNat q0).hi))]))
end Go.Proofs.Yteelocfbbhchcaa

namespace Go.Proofs.Yteelocfbbhchcaa
open Go Go.Eng Go.Proofs
set_option maxRecDepth 10000
theorem within67 (n lo hi:Int):FSpec Try.prog 67 [(.int .i64 (.sym fun _=>n)),(.int .i64 (.sym fun _=>lo)),(.int .i64 (.sym fun _=>hi))] [] (fun r _=>r=(.bool (.sym fun _=>inB lo n hi))):=by
  refine FSpec.is fun R hR=>qX (sc:=sc67) tyok mix Try.func67 rfl Try.call67 (by kernel_rfl) (by kernel_rfl) ?_
  generalize Try.prog=P
  cbv
  repeat' (first
      |with_reducible refine And.intro ?_ ?_
      |(with_reducible intro hcd;(try simp only [zA,zB,zC,zD,zE,zF,zG,zH,zI,zJ,zK,zL,zM,zN,zO,zP]at hcd);try cbv)
      |fail)
  all_goals first
    |(subst hR;(refine qG ?_;(try simp only [qW]at *);(try simp only [zQ,zA,zB,zC,zD,zE,zF,zG,zH,zI,zJ,zK,zL,zM,zN,zO,zP,zR,zS]at *);apply Bool.eq_iff_iff.2;simp only [allB_t,allB_f,inB_t,inB_f,ofB_t,ofB_f,shB_t,shB_f,spB_t,spB_f,Bool.and_eq_true,Bool.or_eq_true,Bool.not_eq_true',decide_eq_true_eq,decide_eq_false_iff_not,Bool.false_eq_true,reduceCtorEq,Bool.true_and,Bool.and_true,Bool.false_and,Bool.and_false,iff_true,true_iff,Bool.not_true,Bool.not_false]at *;constructor<;>intro q<;>first|omega|(exact q.elim)|(exact absurd q (by omega)));done)
    |skip
theorem has94 (lo hi n:Int):FSpec Try.prog 94 [(.agg [(.int .i64 (.sym fun _=>lo)),(.int .i64 (.sym fun _=>hi))]),(.int .i64 (.sym fun _=>n))] [] (fun r _=>r=(.bool (.sym fun _=>inB lo n hi))):=by
  have c67:= @within67
  refine FSpec.is fun R hR=>qX (sc:=sc94) tyok mix Try.func94 rfl Try.call94 (by kernel_rfl) (by kernel_rfl) ?_
  generalize Try.prog=P at c67⊢
  cbv
  repeat' (first
      | (refine qQ ?_ (c67 _ _ _) (by(repeat' (first|exact qB|refine qD ?_ ?_|exact qE (by rfl)|exact qG (by rfl)|exact Fit.refl _|exact qA|refine qC ?_ rfl ?_)))
         try cbv)
      |fail)
  all_goals first
    |(subst hR;(repeat' (first|exact qA|exact qB|refine qC ?_ rfl ?_|refine qD ?_ ?_|exact qE (by rfl)|exact qG (by rfl)|exact Fit.refl _|exact qH _|(refine qE ?_;(try simp only [qW]at *);simp only [zQ,zA,zB,zC,zD,zE,zF,zG,zH,zI,zJ,zK,zL,zM,zN,zO,zP,zR,zS]at *;omega)));done)
    |skip
theorem of65 (a b lo hi:Int):FSpec Try.prog 65 [(.agg [(.int .i64 (.sym fun _=>a)),(.int .i64 (.sym fun _=>b))]),(.int .i64 (.sym fun _=>lo)),(.int .i64 (.sym fun _=>hi))] [] (fun r _=>r=(.bool (.sym fun _=>ofB lo a b hi))):=by
  refine FSpec.is fun R hR=>qX (sc:=sc65) tyok mix Try.func65 rfl Try.call65 (by kernel_rfl) (by kernel_rfl) ?_
  generalize Try.prog=P
  cbv
  repeat' (first
      |with_reducible refine And.intro ?_ ?_
      |(with_reducible intro hcd;(try simp only [zA,zB,zC,zD,zE,zF,zG,zH,zI,zJ,zK,zL,zM,zN,zO,zP]at hcd);try cbv)
      |fail)
  all_goals first
    |(subst hR;(refine qG ?_;(try simp only [qW]at *);(try simp only [zQ,zA,zB,zC,zD,zE,zF,zG,zH,zI,zJ,zK,zL,zM,zN,zO,zP,zR,zS]at *);apply Bool.eq_iff_iff.2;simp only [allB_t,allB_f,inB_t,inB_f,ofB_t,ofB_f,shB_t,shB_f,spB_t,spB_f,Bool.and_eq_true,Bool.or_eq_true,Bool.not_eq_true',decide_eq_true_eq,decide_eq_false_iff_not,Bool.false_eq_true,reduceCtorEq,Bool.true_and,Bool.and_true,Bool.false_and,Bool.and_false,iff_true,true_iff,Bool.not_true,Bool.not_false]at *;constructor<;>intro q<;>first|omega|(exact q.elim)|(exact absurd q (by omega)));done)
    |skip
theorem short66 (a b:Int)(h: -1000000≤a∧a≤1000000∧ -1000000≤b∧b≤1000000):FSpec Try.prog 66 [(.agg [(.int .i64 (.sym fun _=>a)),(.int .i64 (.sym fun _=>b))])] [] (fun r _=>r=(.bool (.sym fun _=>shB a b))):=by
  refine FSpec.is fun R hR=>qX (sc:=sc66) tyok mix Try.func66 rfl Try.call66 (by kernel_rfl) (by kernel_rfl) ?_
  generalize Try.prog=P
  cbv
  repeat' (first
      |with_reducible refine hold ?_ ?_
      |fail)
  all_goals first
    |((try simp only [qW]at *);(try simp only [zQ,zA,zB,zC,zD,zE,zF,zG,zH,zI,zJ,zK,zL,zM,zN,zO,zP,zR,zS,allB_t,allB_f,inB_t,inB_f,ofB_t,ofB_f,shB_t,shB_f,spB_t,spB_f]at *);first|(refine qO ?_;omega)|(simp only [Hold];omega))
    |(subst hR;(repeat' (first|exact qA|exact qB|refine qC ?_ rfl ?_|refine qD ?_ ?_|exact qE (by rfl)|exact qG (by rfl)|exact Fit.refl _|exact qH _|(refine qE ?_;(try simp only [qW]at *);simp only [zQ,zA,zB,zC,zD,zE,zF,zG,zH,zI,zJ,zK,zL,zM,zN,zO,zP,zR,zS]at *;omega)));done)
    |skip
theorem between52 (a b:Int):FSpec Try.prog 52 [(.int .i64 (.sym fun _=>a)),(.int .i64 (.sym fun _=>b))] [] (fun r _=>r=(.agg [(.int .i64 (.sym fun _=>a)),(.int .i64 (.sym fun _=>b))])):=by
  refine FSpec.is fun R hR=>qX (sc:=sc52) tyok mix Try.func52 rfl Try.call52 (by kernel_rfl) (by kernel_rfl) ?_
  generalize Try.prog=P
  cbv
  repeat' (first
      |fail)
  all_goals first
    |(subst hR;(repeat' (first|exact qA|exact qB|refine qC ?_ rfl ?_|refine qD ?_ ?_|exact qE (by rfl)|exact qG (by rfl)|exact Fit.refl _|exact qH _|(refine qE ?_;(try simp only [qW]at *);simp only [zQ,zA,zB,zC,zD,zE,zF,zG,zH,zI,zJ,zK,zL,zM,zN,zO,zP,zR,zS]at *;omega)));done)
    |skip
theorem min120 (a b:Int):FSpec Try.prog 120 [(.sl 1 (.lit 2) (fun ix=>cellsAt [(.int .i64 (.sym fun _=>a)),(.int .i64 (.sym fun _=>b))] (0+ix.den.toNat*1) 1))] [] (fun r _=>r=(.int .i64 (.sym fun _=>min a b))):=by
  refine FSpec.is fun R hR=>qX (sc:=sc120) tyok mix Try.func120 rfl Try.call120 (by kernel_rfl) (by kernel_rfl) ?_
  generalize Try.prog=P
  cbv
  repeat' (first
      |with_reducible refine hold ?_ ?_
      |fail)
  all_goals first|(refine⟨some 3,?_⟩;cbv)|skip
  repeat' (first
      |with_reducible refine hold ?_ ?_
      |fail)
  all_goals first
    |trivial
    |(subst hR;(refine qE ?_;simp only [zQ,zA,zB,zC,zD,zE,zF,zG,zH,zI,zJ,zK,zL,zM,zN,zO,zP,zR,zS];omega);done)
    |skip
theorem minimum114 (a b:Int):FSpec Try.prog 114 [(.sl 1 (.lit 2) (fun ix=>cellsAt [(.int .i64 (.sym fun _=>a)),(.int .i64 (.sym fun _=>b))] (0+ix.den.toNat*1) 1))] [] (fun r _=>r=(.int .i64 (.sym fun _=>min a b))):=by
  have c120:= @min120
  refine FSpec.is fun R hR=>qX (sc:=sc114) tyok mix Try.func114 rfl Try.call114 (by kernel_rfl) (by kernel_rfl) ?_
  generalize Try.prog=P at c120⊢
  cbv
  repeat' (first
      | (refine qQ ?_ (c120 _ _) (by(repeat' (first|exact qB|refine qD ?_ ?_|exact qE (by rfl)|exact qG (by rfl)|exact Fit.refl _|exact qA|refine qC ?_ rfl ?_)))
         try cbv)
      |fail)
  all_goals first
    |(subst hR;(repeat' (first|exact qA|exact qB|refine qC ?_ rfl ?_|refine qD ?_ ?_|exact qE (by rfl)|exact qG (by rfl)|exact Fit.refl _|exact qH _|(refine qE ?_;(try simp only [qW]at *);simp only [zQ,zA,zB,zC,zD,zE,zF,zG,zH,zI,zJ,zK,zL,zM,zN,zO,zP,zR,zS]at *;omega)));done)
    |skip
theorem wider102 (a b n:Int):FSpec Try.prog 102 [(.agg [(.int .i64 (.sym fun _=>a)),(.int .i64 (.sym fun _=>b))]),(.int .i64 (.sym fun _=>n))] [] (fun r _=>r=(.agg [(.int .i64 (.sym fun _=>min a n)),(.int .i64 (.sym fun _=>max b n))])):=by
  have c114:= @minimum114
  refine FSpec.is fun R hR=>qX (sc:=sc102) tyok mix Try.func102 rfl Try.call102 (by kernel_rfl) (by kernel_rfl) ?_
  generalize Try.prog=P at c114⊢
  cbv
  repeat' (first
      | ((first|(refine qS ?_ (c114 _ _) rfl (by cbv;(repeat' (first|exact qB|refine qD ?_ ?_|exact qE (by rfl)|exact qG (by rfl)|exact Fit.refl _|exact qA|refine qC ?_ rfl ?_))))|(refine⟨none,?_⟩;refine qS ?_ (c114 _ _) rfl (by cbv;(repeat' (first|exact qB|refine qD ?_ ?_|exact qE (by rfl)|exact qG (by rfl)|exact Fit.refl _|exact qA|refine qC ?_ rfl ?_)))))
         try cbv)
      |fail)
  all_goals first
    |(subst hR;(repeat' (first|exact qA|exact qB|refine qC ?_ rfl ?_|refine qD ?_ ?_|exact qE (by rfl)|exact qG (by rfl)|exact Fit.refl _|exact qH _|(refine qE ?_;(try simp only [qW]at *);simp only [zQ,zA,zB,zC,zD,zE,zF,zG,zH,zI,zJ,zK,zL,zM,zN,zO,zP,zR,zS]at *;omega)));done)
    |skip
end Go.Proofs.Yteelocfbbhchcaa

namespace Go.Proofs.Yteelocfbbhchcaa
open Go Go.Eng Go.Proofs
set_option maxRecDepth 10000
theorem valid69 (v:VatT):FSpec Try.prog 69 [(.agg [(.int .i64 (.sym fun _=>v.sl)),(.int .i64 (.sym fun _=>v.sh)),(.int .i64 (.sym fun _=>v.rl)),(.int .i64 (.sym fun _=>v.rh))])] [] (fun r _=>r=(.bool (.sym fun _=>vatB v))):=by
  have c65:= @of65
  have c66:= @short66
  refine FSpec.is fun R hR=>qX (sc:=sc69) tyok mix Try.func69 rfl Try.call69 (by kernel_rfl) (by kernel_rfl) ?_
  generalize Try.prog=P at c65 c66⊢
  cbv
  repeat' (first
      |with_reducible refine And.intro ?_ ?_
      |(with_reducible intro hcd;(try simp only [zA,zB,zC,zD,zE,zF,zG,zH,zI,zJ,zK,zL,zM,zN,zO,zP]at hcd);try cbv)
      | (refine qQ ?_ (c65 _ _ _ _) (by(repeat' (first|exact qB|refine qD ?_ ?_|exact qE (by rfl)|exact qG (by rfl)|exact Fit.refl _|exact qA|refine qC ?_ rfl ?_)))
         try cbv)
      | (refine qQ ?_ (c66 _ _ (show Hold _ from ?_)) (by(repeat' (first|exact qB|refine qD ?_ ?_|exact qE (by rfl)|exact qG (by rfl)|exact Fit.refl _|exact qA|refine qC ?_ rfl ?_)))
         try cbv)
      |fail)
  all_goals first
    |((try simp only [qW]at *);(try simp only [zQ,zA,zB,zC,zD,zE,zF,zG,zH,zI,zJ,zK,zL,zM,zN,zO,zP,zR,zS,allB_t,allB_f,inB_t,inB_f,ofB_t,ofB_f,shB_t,shB_f,spB_t,spB_f]at *);first|(refine qO ?_;omega)|(simp only [Hold];omega))
    |(subst hR;(refine qG ?_;(try simp only [qW]at *);(try simp only [zQ,zA,zB,zC,zD,zE,zF,zG,zH,zI,zJ,zK,zL,zM,zN,zO,zP,zR,zS]at *);apply Bool.eq_iff_iff.2;simp only [vatB,allB_t,allB_f,inB_t,inB_f,ofB_t,ofB_f,shB_t,shB_f,spB_t,spB_f,Bool.and_eq_true,Bool.or_eq_true,Bool.not_eq_true',decide_eq_true_eq,decide_eq_false_iff_not,Bool.false_eq_true,reduceCtorEq,Bool.true_and,Bool.and_true,Bool.false_and,Bool.and_false,iff_true,true_iff,Bool.not_true,Bool.not_false]at *;simp only [vatOk]at *;constructor<;>intro q<;>first|omega|(exact q.elim)|(exact absurd q (by omega)));done)
    |skip
theorem few63 (t:ThmT):FSpec Try.prog 63 [(.agg [(.int .i64 (.sym fun _=>t.top)),(.sl 3 (.sym fun _=>zi (t.ps).length) (fun jx=>[(.int .i64 (.sym fun _=>((t.ps).getD jx.den.toNat p0).f)),(.int .i64 (.sym fun _=>((t.ps).getD jx.den.toNat p0).el)),(.int .i64 (.sym fun _=>((t.ps).getD jx.den.toNat p0).eh))]))])] [] (fun r _=>r=(.bool (.sym fun _=>fewB t))):=by
  refine FSpec.is fun R hR=>qX (sc:=sc63) tyok mix Try.func63 rfl Try.call63 (by kernel_rfl) (by kernel_rfl) ?_
  generalize Try.prog=P
  cbv
  repeat' (first
      |fail)
  all_goals first
    |(subst hR;(refine qG ?_;(try simp only [qW]at *);(try simp only [zQ,zA,zB,zC,zD,zE,zF,zG,zH,zI,zJ,zK,zL,zM,zN,zO,zP,zR,zS]at *);apply Bool.eq_iff_iff.2;simp only [fewB,allB_t,allB_f,inB_t,inB_f,ofB_t,ofB_f,shB_t,shB_f,spB_t,spB_f,Bool.and_eq_true,Bool.or_eq_true,Bool.not_eq_true',decide_eq_true_eq,decide_eq_false_iff_not,Bool.false_eq_true,reduceCtorEq,Bool.true_and,Bool.and_true,Bool.false_and,Bool.and_false,iff_true,true_iff,Bool.not_true,Bool.not_false]at *;constructor<;>intro q<;>first|omega|(exact q.elim)|(exact absurd q (by omega)));done)
    |skip
theorem valid81 (p:PorT):FSpec Try.prog 81 [(.agg [(.int .i64 (.sym fun _=>p.q)),(.int .i64 (.sym fun _=>p.lo)),(.int .i64 (.sym fun _=>p.hi))])] [] (fun r _=>r=(.bool (.sym fun _=>porB p))):=by
  have c65:= @of65
  have c67:= @within67
  refine FSpec.is fun R hR=>qX (sc:=sc81) tyok mix Try.func81 rfl Try.call81 (by kernel_rfl) (by kernel_rfl) ?_
  generalize Try.prog=P at c65 c67⊢
  cbv
  repeat' (first
      |with_reducible refine And.intro ?_ ?_
      |(with_reducible intro hcd;(try simp only [zA,zB,zC,zD,zE,zF,zG,zH,zI,zJ,zK,zL,zM,zN,zO,zP]at hcd);try cbv)
      | (refine qQ ?_ (c65 _ _ _ _) (by(repeat' (first|exact qB|refine qD ?_ ?_|exact qE (by rfl)|exact qG (by rfl)|exact Fit.refl _|exact qA|refine qC ?_ rfl ?_)))
         try cbv)
      | (refine qQ ?_ (c67 _ _ _) (by(repeat' (first|exact qB|refine qD ?_ ?_|exact qE (by rfl)|exact qG (by rfl)|exact Fit.refl _|exact qA|refine qC ?_ rfl ?_)))
         try cbv)
      |fail)
  all_goals first
    |(subst hR;(refine qG ?_;(try simp only [qW]at *);(try simp only [zQ,zA,zB,zC,zD,zE,zF,zG,zH,zI,zJ,zK,zL,zM,zN,zO,zP,zR,zS]at *);apply Bool.eq_iff_iff.2;simp only [porB,allB_t,allB_f,inB_t,inB_f,ofB_t,ofB_f,shB_t,shB_f,spB_t,spB_f,Bool.and_eq_true,Bool.or_eq_true,Bool.not_eq_true',decide_eq_true_eq,decide_eq_false_iff_not,Bool.false_eq_true,reduceCtorEq,Bool.true_and,Bool.and_true,Bool.false_and,Bool.and_false,iff_true,true_iff,Bool.not_true,Bool.not_false]at *;simp only [porOk]at *;constructor<;>intro q<;>first|omega|(exact q.elim)|(exact absurd q (by omega)));done)
    |skip
theorem lam96_few (c:Clr)(hfew:c.ts.length≤1000)(i:Nat)(hi:i<c.ts.length∧∀j,j<i→(fewB (c.ts.getD (j) t0))=true):FSpec Try.prog 96 [(.agg [(.int .i64 (.sym fun _=>(c.ts.getD (i) t0).top)),(.sl 3 (.sym fun _=>zi ((c.ts.getD (i) t0).ps).length) (fun jx=>[(.int .i64 (.sym fun _=>(((c.ts.getD (i) t0).ps).getD jx.den.toNat p0).f)),(.int .i64 (.sym fun _=>(((c.ts.getD (i) t0).ps).getD jx.den.toNat p0).el)),(.int .i64 (.sym fun _=>(((c.ts.getD (i) t0).ps).getD jx.den.toNat p0).eh))]))]),.own 0 0] [.cells [.clo 63 [] []] 140] (fun r bs=>r=(.bool (.sym fun _=> !(fewB (c.ts.getD (i) t0))))∧bs=[.cells [.clo 63 [] []] 140]):=by
  have cf:=few63 (c.ts.getD i t0)
  refine FSpec.isB rfl fun R B hR hB=>qX (sc:=sc96) tyok mix Try.func96 rfl Try.call96 (by kernel_rfl) (by kernel_rfl) ?_
  generalize Try.prog=P at cf⊢
  cbv
  repeat' (first
      |with_reducible refine And.intro ?_ ?_
      | (refine qQ ?_ (cf) ?hfit
         case hfit=>((repeat' (first|exact qB|refine qD ?_ ?_|exact qE (by rfl)|exact qG (by rfl)|exact Fit.refl _|exact qA|refine qC ?_ rfl ?_));done)
         try cbv)
      |fail)
  all_goals first
    |(subst hR;(repeat' (first|exact qA|exact qB|refine qC ?_ rfl ?_|refine qD ?_ ?_|exact qE (by rfl)|exact qG (by rfl)|exact Fit.refl _|exact qH _|(refine qE ?_;(try simp only [qW]at *);simp only [zQ,zA,zB,zC,zD,zE,zF,zG,zH,zI,zJ,zK,zL,zM,zN,zO,zP,zR,zS]at *;omega)));done)
    |(subst hB;(repeat' (first|exact qI|refine qJ ?_ ?_|exact qL _|refine qK ?_|exact qA|exact qE (by rfl)|exact qG (by rfl)|exact Fit.refl _|exact qH _|refine qC ?_ rfl ?_));done)
    |skip
theorem idx109_few (c:Clr)(hfew:c.ts.length≤1000):FSpec Try.prog 109 [(.sl 2 (.sym fun _=>zi c.ts.length) (fun ix=>[(.int .i64 (.sym fun _=>(c.ts.getD ix.den.toNat t0).top)),(.sl 3 (.sym fun _=>zi ((c.ts.getD ix.den.toNat t0).ps).length) (fun jx=>[(.int .i64 (.sym fun _=>(((c.ts.getD ix.den.toNat t0).ps).getD jx.den.toNat p0).f)),(.int .i64 (.sym fun _=>(((c.ts.getD ix.den.toNat t0).ps).getD jx.den.toNat p0).el)),(.int .i64 (.sym fun _=>(((c.ts.getD ix.den.toNat t0).ps).getD jx.den.toNat p0).eh))]))])),.clo 96 [] [.own 0 0]] [.cells [.clo 63 [] []] 140] (fun r bs=>r=(.int .i64 (.sym fun _=>fidx (fun i=>fewB (c.ts.getD (i) t0)) (c.ts.length) 0))∧bs=[.cells [.clo 63 [] []] 140]):=by
  have cl:=lam96_few c hfew
  refine FSpec.isB rfl fun R B hR hB=>qX (sc:=sc109) tyok mix Try.func109 rfl Try.call109 (by kernel_rfl) (by kernel_rfl) ?_
  generalize Try.prog=P at cl⊢
  cbv
  repeat' (first
      |fail)
  all_goals first
    |skip
  refine⟨none,[],{i:Nat // i≤c.ts.length∧fidx (fun i=>fewB (c.ts.getD (i) t0)) (c.ts.length) 0=fidx (fun i=>fewB (c.ts.getD (i) t0)) (c.ts.length-i) i∧∀j,j<i→(fewB (c.ts.getD (j) t0))=true},fun x=>⟨[(0,(.sl 2 (.sym fun _=>zi c.ts.length) (fun ix=>[(.int .i64 (.sym fun _=>(c.ts.getD ix.den.toNat t0).top)),(.sl 3 (.sym fun _=>zi ((c.ts.getD ix.den.toNat t0).ps).length) (fun jx=>[(.int .i64 (.sym fun _=>(((c.ts.getD ix.den.toNat t0).ps).getD jx.den.toNat p0).f)),(.int .i64 (.sym fun _=>(((c.ts.getD ix.den.toNat t0).ps).getD jx.den.toNat p0).el)),(.int .i64 (.sym fun _=>(((c.ts.getD ix.den.toNat t0).ps).getD jx.den.toNat p0).eh))]))]))),(1,.clo 96 [] [.own 0 0]),(7,(.int .i64 (.sym fun _=>zi (c.ts.length)))),(8,(.int .i64 (.sym fun _=>zi x.1)))],[(0,.cells [.clo 63 [] []] 140)],20⟩,fun x=>c.ts.length-x.1,?_,?_⟩
  · refine⟨⟨0,by omega,rfl,fun j hj=>by omega⟩,?_⟩
    cbv
    repeat' (first
      |with_reducible refine hold ?_ ?_
      |with_reducible refine And.intro ?_ ?_)
    all_goals first
      |trivial
      |exact qN (qE (by rfl))
      |exact qN (Fit.refl _)
      |exact qM (qL _)
      |skip
  · rintro ⟨i,hi,hr,hq⟩
    cbv
    repeat' (first
        |with_reducible refine hold ?_ ?_
        |with_reducible refine And.intro ?_ ?_
        |(with_reducible intro hcd;(try simp only [zA,zB,zC,zD,zE,zF,zG,zH,zI,zJ,zK,zL,zM,zN,zO,zP]at hcd);try cbv)
        | (refine⟨some [0],?_⟩
           cbv
           refine qR ?_ (cl i ⟨by(try simp only [qW]at *);simp only [zi_den]at *;omega,hq⟩) (by cbv;(repeat' (first|exact qB|refine qD ?_ ?_|exact qE (by rfl)|exact qG (by rfl)|exact Fit.refl _|exact qA|refine qC ?_ rfl ?_))) (by cbv;(repeat' (first|exact qI|refine qJ ?_ ?_|exact qL _|refine qK ?_|exact qA|exact qE (by rfl)|exact qG (by rfl)|exact Fit.refl _|exact qH _|refine qC ?_ rfl ?_)))
           try cbv)
        |fail)
    all_goals first
      |((try simp only [qW]at *);(try simp only [zQ,zA,zB,zC,zD,zE,zF,zG,zH,zI,zJ,zK,zL,zM,zN,zO,zP,zR,zS]at *);first|(refine qO ?_;omega)|(simp only [Hold];omega))
      |(subst hR;(refine qE ?_;simp only [zQ,zA,zB,zC,zD,zE,zF,zG,zH,zI,zJ,zK,zL,zM,zN,zO,zP,zR,zS]at *;rw [hr,fidx_stop (by omega) hcd]);done)
      |(subst hR;(refine qE ?_;simp only [zQ,zA,zB,zC,zD,zE,zF,zG,zH,zI,zJ,zK,zL,zM,zN,zO,zP,zR,zS]at *;rw [hr,show c.ts.length-i=0 by omega];rfl);done)
      |(subst hB;(repeat' (first|exact qI|refine qJ ?_ ?_|exact qL _|refine qK ?_|exact qA|exact qE (by rfl)|exact qG (by rfl)|exact Fit.refl _|exact qH _|refine qC ?_ rfl ?_));done)
      |((try simp only [zQ,zA,zB,zC,zD,zE,zF,zG,zH,zI,zJ,zK,zL,zM,zN,zO,zP,zR,zS]at *);refine⟨⟨i+1,by omega,by rw [hr,fidx_go (by omega) hcd];(try congr 1)<;>omega,fun j hj=>(Nat.lt_or_ge j i).elim (hq j) (fun q=>by rw [show j=i by omega];exact hcd)⟩,by simp only [];omega,?_⟩;cbv;(repeat' (first|with_reducible refine hold ?_ ?_|with_reducible refine And.intro ?_ ?_));(all_goals first|trivial|exact qN (qE (by rfl))|exact qN (qG (by rfl))|exact qN (Fit.refl _)|exact qM (qL _)|(refine qN (qE ?_);(try simp only [qW]at *);simp only [zQ,zA,zB,zC,zD,zE,zF,zG,zH,zI,zJ,zK,zL,zM,zN,zO,zP,zR,zS]at *;omega)|(refine qM (qK ?_);(repeat' (first|exact qA|exact qB|refine qC ?_ rfl ?_|refine qD ?_ ?_|exact qE (by rfl)|exact qG (by rfl)|exact Fit.refl _|exact qH _|(refine qE ?_;(try simp only [qW]at *);simp only [zQ,zA,zB,zC,zD,zE,zF,zG,zH,zI,zJ,zK,zL,zM,zN,zO,zP,zR,zS]at *;omega)));done)|skip))
      |skip
theorem cont95_few (c:Clr)(hfew:c.ts.length≤1000):FSpec Try.prog 95 [(.sl 2 (.sym fun _=>zi c.ts.length) (fun ix=>[(.int .i64 (.sym fun _=>(c.ts.getD ix.den.toNat t0).top)),(.sl 3 (.sym fun _=>zi ((c.ts.getD ix.den.toNat t0).ps).length) (fun jx=>[(.int .i64 (.sym fun _=>(((c.ts.getD ix.den.toNat t0).ps).getD jx.den.toNat p0).f)),(.int .i64 (.sym fun _=>(((c.ts.getD ix.den.toNat t0).ps).getD jx.den.toNat p0).el)),(.int .i64 (.sym fun _=>(((c.ts.getD ix.den.toNat t0).ps).getD jx.den.toNat p0).eh))]))])),.clo 96 [] [.own 0 0]] [.cells [.clo 63 [] []] 140] (fun r bs=>r=(.bool (.sym fun _=>decide (0≤fidx (fun i=>fewB (c.ts.getD (i) t0)) (c.ts.length) 0)))∧bs=[.cells [.clo 63 [] []] 140]):=by
  have ci:=idx109_few c hfew
  refine FSpec.isB rfl fun R B hR hB=>qX (sc:=sc95) tyok mix Try.func95 rfl Try.call95 (by kernel_rfl) (by kernel_rfl) ?_
  generalize Try.prog=P at ci⊢
  cbv
  repeat' (first
      |with_reducible refine And.intro ?_ ?_
      | (refine⟨some [0],?_⟩
         cbv
         refine qR ?_ (ci) (by cbv;(repeat' (first|exact qB|refine qD ?_ ?_|exact qE (by rfl)|exact qG (by rfl)|exact Fit.refl _|exact qA|refine qC ?_ rfl ?_))) (by cbv;(repeat' (first|exact qI|refine qJ ?_ ?_|exact qL _|refine qK ?_|exact qA|exact qE (by rfl)|exact qG (by rfl)|exact Fit.refl _|exact qH _|refine qC ?_ rfl ?_)))
         try cbv)
      |fail)
  all_goals first
    |(subst hR;(repeat' (first|exact qA|exact qB|refine qC ?_ rfl ?_|refine qD ?_ ?_|exact qE (by rfl)|exact qG (by rfl)|exact Fit.refl _|exact qH _|(refine qE ?_;(try simp only [qW]at *);simp only [zQ,zA,zB,zC,zD,zE,zF,zG,zH,zI,zJ,zK,zL,zM,zN,zO,zP,zR,zS]at *;omega)));done)
    |(subst hB;(repeat' (first|exact qI|refine qJ ?_ ?_|exact qL _|refine qK ?_|exact qA|exact qE (by rfl)|exact qG (by rfl)|exact Fit.refl _|exact qH _|refine qC ?_ rfl ?_));done)
    |skip
theorem all64_few (c:Clr)(hfew:c.ts.length≤1000):FSpec Try.prog 64 [(.sl 2 (.sym fun _=>zi c.ts.length) (fun ix=>[(.int .i64 (.sym fun _=>(c.ts.getD ix.den.toNat t0).top)),(.sl 3 (.sym fun _=>zi ((c.ts.getD ix.den.toNat t0).ps).length) (fun jx=>[(.int .i64 (.sym fun _=>(((c.ts.getD ix.den.toNat t0).ps).getD jx.den.toNat p0).f)),(.int .i64 (.sym fun _=>(((c.ts.getD ix.den.toNat t0).ps).getD jx.den.toNat p0).el)),(.int .i64 (.sym fun _=>(((c.ts.getD ix.den.toNat t0).ps).getD jx.den.toNat p0).eh))]))])),.clo 63 [] []] [] (fun r _=>r=(.bool (.sym fun _=>allB (fun i=>fewB (c.ts.getD (i) t0)) (c.ts.length)))):=by
  have cc:=cont95_few c hfew
  refine FSpec.is fun R hR=>qX (sc:=sc64) tyok mix Try.func64 rfl Try.call64 (by kernel_rfl) (by kernel_rfl) ?_
  generalize Try.prog=P at cc⊢
  cbv
  repeat' (first
      | (refine⟨some [0],?_⟩
         cbv
         refine qR ?_ (cc) (by cbv;(repeat' (first|exact qB|refine qD ?_ ?_|exact qE (by rfl)|exact qG (by rfl)|exact Fit.refl _|exact qA|refine qC ?_ rfl ?_))) (by cbv;(repeat' (first|exact qI|refine qJ ?_ ?_|exact qL _|refine qK ?_|exact qA|exact qE (by rfl)|exact qG (by rfl)|exact Fit.refl _|exact qH _|refine qC ?_ rfl ?_)))
         try cbv)
      |fail)
  all_goals first
    |(subst hR;(repeat' (first|exact qA|exact qB|refine qC ?_ rfl ?_|refine qD ?_ ?_|exact qE (by rfl)|exact qG (by rfl)|exact Fit.refl _|exact qH _|(refine qE ?_;(try simp only [qW]at *);simp only [zQ,zA,zB,zC,zD,zE,zF,zG,zH,zI,zJ,zK,zL,zM,zN,zO,zP,zR,zS]at *;omega)));done)
    |skip
theorem lam98_vat (c:Clr)(hfew:c.vs.length≤1000)(i:Nat)(hi:i<c.vs.length∧∀j,j<i→(vatB (c.vs.getD (j) v0))=true):FSpec Try.prog 98 [(.agg [(.int .i64 (.sym fun _=>(c.vs.getD (i) v0).sl)),(.int .i64 (.sym fun _=>(c.vs.getD (i) v0).sh)),(.int .i64 (.sym fun _=>(c.vs.getD (i) v0).rl)),(.int .i64 (.sym fun _=>(c.vs.getD (i) v0).rh))]),.own 0 0] [.cells [.clo 69 [] []] 144] (fun r bs=>r=(.bool (.sym fun _=> !(vatB (c.vs.getD (i) v0))))∧bs=[.cells [.clo 69 [] []] 144]):=by
  have cf:=valid69 (c.vs.getD i v0)
  refine FSpec.isB rfl fun R B hR hB=>qX (sc:=sc98) tyok mix Try.func98 rfl Try.call98 (by kernel_rfl) (by kernel_rfl) ?_
  generalize Try.prog=P at cf⊢
  cbv
  repeat' (first
      |with_reducible refine And.intro ?_ ?_
      | (refine qQ ?_ (cf) ?hfit
         case hfit=>((repeat' (first|exact qB|refine qD ?_ ?_|exact qE (by rfl)|exact qG (by rfl)|exact Fit.refl _|exact qA|refine qC ?_ rfl ?_));done)
         try cbv)
      |fail)
  all_goals first
    |(subst hR;(repeat' (first|exact qA|exact qB|refine qC ?_ rfl ?_|refine qD ?_ ?_|exact qE (by rfl)|exact qG (by rfl)|exact Fit.refl _|exact qH _|(refine qE ?_;(try simp only [qW]at *);simp only [zQ,zA,zB,zC,zD,zE,zF,zG,zH,zI,zJ,zK,zL,zM,zN,zO,zP,zR,zS]at *;omega)));done)
    |(subst hB;(repeat' (first|exact qI|refine qJ ?_ ?_|exact qL _|refine qK ?_|exact qA|exact qE (by rfl)|exact qG (by rfl)|exact Fit.refl _|exact qH _|refine qC ?_ rfl ?_));done)
    |skip
theorem idx110_vat (c:Clr)(hfew:c.vs.length≤1000):FSpec Try.prog 110 [(.sl 4 (.sym fun _=>zi c.vs.length) (fun ix=>[(.int .i64 (.sym fun _=>(c.vs.getD ix.den.toNat v0).sl)),(.int .i64 (.sym fun _=>(c.vs.getD ix.den.toNat v0).sh)),(.int .i64 (.sym fun _=>(c.vs.getD ix.den.toNat v0).rl)),(.int .i64 (.sym fun _=>(c.vs.getD ix.den.toNat v0).rh))])),.clo 98 [] [.own 0 0]] [.cells [.clo 69 [] []] 144] (fun r bs=>r=(.int .i64 (.sym fun _=>fidx (fun i=>vatB (c.vs.getD (i) v0)) (c.vs.length) 0))∧bs=[.cells [.clo 69 [] []] 144]):=by
  have cl:=lam98_vat c hfew
  refine FSpec.isB rfl fun R B hR hB=>qX (sc:=sc110) tyok mix Try.func110 rfl Try.call110 (by kernel_rfl) (by kernel_rfl) ?_
  generalize Try.prog=P at cl⊢
  cbv
  repeat' (first
      |fail)
  all_goals first
    |skip
  refine⟨none,[],{i:Nat // i≤c.vs.length∧fidx (fun i=>vatB (c.vs.getD (i) v0)) (c.vs.length) 0=fidx (fun i=>vatB (c.vs.getD (i) v0)) (c.vs.length-i) i∧∀j,j<i→(vatB (c.vs.getD (j) v0))=true},fun x=>⟨[(0,(.sl 4 (.sym fun _=>zi c.vs.length) (fun ix=>[(.int .i64 (.sym fun _=>(c.vs.getD ix.den.toNat v0).sl)),(.int .i64 (.sym fun _=>(c.vs.getD ix.den.toNat v0).sh)),(.int .i64 (.sym fun _=>(c.vs.getD ix.den.toNat v0).rl)),(.int .i64 (.sym fun _=>(c.vs.getD ix.den.toNat v0).rh))]))),(1,.clo 98 [] [.own 0 0]),(7,(.int .i64 (.sym fun _=>zi (c.vs.length)))),(8,(.int .i64 (.sym fun _=>zi x.1)))],[(0,.cells [.clo 69 [] []] 144)],20⟩,fun x=>c.vs.length-x.1,?_,?_⟩
  · refine⟨⟨0,by omega,rfl,fun j hj=>by omega⟩,?_⟩
    cbv
    repeat' (first
      |with_reducible refine hold ?_ ?_
      |with_reducible refine And.intro ?_ ?_)
    all_goals first
      |trivial
      |exact qN (qE (by rfl))
      |exact qN (Fit.refl _)
      |exact qM (qL _)
      |skip
  · rintro ⟨i,hi,hr,hq⟩
    cbv
    repeat' (first
        |with_reducible refine hold ?_ ?_
        |with_reducible refine And.intro ?_ ?_
        |(with_reducible intro hcd;(try simp only [zA,zB,zC,zD,zE,zF,zG,zH,zI,zJ,zK,zL,zM,zN,zO,zP]at hcd);try cbv)
        | (refine⟨some [0],?_⟩
           cbv
           refine qR ?_ (cl i ⟨by(try simp only [qW]at *);simp only [zi_den]at *;omega,hq⟩) (by cbv;(repeat' (first|exact qB|refine qD ?_ ?_|exact qE (by rfl)|exact qG (by rfl)|exact Fit.refl _|exact qA|refine qC ?_ rfl ?_))) (by cbv;(repeat' (first|exact qI|refine qJ ?_ ?_|exact qL _|refine qK ?_|exact qA|exact qE (by rfl)|exact qG (by rfl)|exact Fit.refl _|exact qH _|refine qC ?_ rfl ?_)))
           try cbv)
        |fail)
    all_goals first
      |((try simp only [qW]at *);(try simp only [zQ,zA,zB,zC,zD,zE,zF,zG,zH,zI,zJ,zK,zL,zM,zN,zO,zP,zR,zS]at *);first|(refine qO ?_;omega)|(simp only [Hold];omega))
      |(subst hR;(refine qE ?_;simp only [zQ,zA,zB,zC,zD,zE,zF,zG,zH,zI,zJ,zK,zL,zM,zN,zO,zP,zR,zS]at *;rw [hr,fidx_stop (by omega) hcd]);done)
      |(subst hR;(refine qE ?_;simp only [zQ,zA,zB,zC,zD,zE,zF,zG,zH,zI,zJ,zK,zL,zM,zN,zO,zP,zR,zS]at *;rw [hr,show c.vs.length-i=0 by omega];rfl);done)
      |(subst hB;(repeat' (first|exact qI|refine qJ ?_ ?_|exact qL _|refine qK ?_|exact qA|exact qE (by rfl)|exact qG (by rfl)|exact Fit.refl _|exact qH _|refine qC ?_ rfl ?_));done)
      |((try simp only [zQ,zA,zB,zC,zD,zE,zF,zG,zH,zI,zJ,zK,zL,zM,zN,zO,zP,zR,zS]at *);refine⟨⟨i+1,by omega,by rw [hr,fidx_go (by omega) hcd];(try congr 1)<;>omega,fun j hj=>(Nat.lt_or_ge j i).elim (hq j) (fun q=>by rw [show j=i by omega];exact hcd)⟩,by simp only [];omega,?_⟩;cbv;(repeat' (first|with_reducible refine hold ?_ ?_|with_reducible refine And.intro ?_ ?_));(all_goals first|trivial|exact qN (qE (by rfl))|exact qN (qG (by rfl))|exact qN (Fit.refl _)|exact qM (qL _)|(refine qN (qE ?_);(try simp only [qW]at *);simp only [zQ,zA,zB,zC,zD,zE,zF,zG,zH,zI,zJ,zK,zL,zM,zN,zO,zP,zR,zS]at *;omega)|(refine qM (qK ?_);(repeat' (first|exact qA|exact qB|refine qC ?_ rfl ?_|refine qD ?_ ?_|exact qE (by rfl)|exact qG (by rfl)|exact Fit.refl _|exact qH _|(refine qE ?_;(try simp only [qW]at *);simp only [zQ,zA,zB,zC,zD,zE,zF,zG,zH,zI,zJ,zK,zL,zM,zN,zO,zP,zR,zS]at *;omega)));done)|skip))
      |skip
theorem cont97_vat (c:Clr)(hfew:c.vs.length≤1000):FSpec Try.prog 97 [(.sl 4 (.sym fun _=>zi c.vs.length) (fun ix=>[(.int .i64 (.sym fun _=>(c.vs.getD ix.den.toNat v0).sl)),(.int .i64 (.sym fun _=>(c.vs.getD ix.den.toNat v0).sh)),(.int .i64 (.sym fun _=>(c.vs.getD ix.den.toNat v0).rl)),(.int .i64 (.sym fun _=>(c.vs.getD ix.den.toNat v0).rh))])),.clo 98 [] [.own 0 0]] [.cells [.clo 69 [] []] 144] (fun r bs=>r=(.bool (.sym fun _=>decide (0≤fidx (fun i=>vatB (c.vs.getD (i) v0)) (c.vs.length) 0)))∧bs=[.cells [.clo 69 [] []] 144]):=by
  have ci:=idx110_vat c hfew
  refine FSpec.isB rfl fun R B hR hB=>qX (sc:=sc97) tyok mix Try.func97 rfl Try.call97 (by kernel_rfl) (by kernel_rfl) ?_
  generalize Try.prog=P at ci⊢
  cbv
  repeat' (first
      |with_reducible refine And.intro ?_ ?_
      | (refine⟨some [0],?_⟩
         cbv
         refine qR ?_ (ci) (by cbv;(repeat' (first|exact qB|refine qD ?_ ?_|exact qE (by rfl)|exact qG (by rfl)|exact Fit.refl _|exact qA|refine qC ?_ rfl ?_))) (by cbv;(repeat' (first|exact qI|refine qJ ?_ ?_|exact qL _|refine qK ?_|exact qA|exact qE (by rfl)|exact qG (by rfl)|exact Fit.refl _|exact qH _|refine qC ?_ rfl ?_)))
         try cbv)
      |fail)
  all_goals first
    |(subst hR;(repeat' (first|exact qA|exact qB|refine qC ?_ rfl ?_|refine qD ?_ ?_|exact qE (by rfl)|exact qG (by rfl)|exact Fit.refl _|exact qH _|(refine qE ?_;(try simp only [qW]at *);simp only [zQ,zA,zB,zC,zD,zE,zF,zG,zH,zI,zJ,zK,zL,zM,zN,zO,zP,zR,zS]at *;omega)));done)
    |(subst hB;(repeat' (first|exact qI|refine qJ ?_ ?_|exact qL _|refine qK ?_|exact qA|exact qE (by rfl)|exact qG (by rfl)|exact Fit.refl _|exact qH _|refine qC ?_ rfl ?_));done)
    |skip
theorem all68_vat (c:Clr)(hfew:c.vs.length≤1000):FSpec Try.prog 68 [(.sl 4 (.sym fun _=>zi c.vs.length) (fun ix=>[(.int .i64 (.sym fun _=>(c.vs.getD ix.den.toNat v0).sl)),(.int .i64 (.sym fun _=>(c.vs.getD ix.den.toNat v0).sh)),(.int .i64 (.sym fun _=>(c.vs.getD ix.den.toNat v0).rl)),(.int .i64 (.sym fun _=>(c.vs.getD ix.den.toNat v0).rh))])),.clo 69 [] []] [] (fun r _=>r=(.bool (.sym fun _=>allB (fun i=>vatB (c.vs.getD (i) v0)) (c.vs.length)))):=by
  have cc:=cont97_vat c hfew
  refine FSpec.is fun R hR=>qX (sc:=sc68) tyok mix Try.func68 rfl Try.call68 (by kernel_rfl) (by kernel_rfl) ?_
  generalize Try.prog=P at cc⊢
  cbv
  repeat' (first
      | (refine⟨some [0],?_⟩
         cbv
         refine qR ?_ (cc) (by cbv;(repeat' (first|exact qB|refine qD ?_ ?_|exact qE (by rfl)|exact qG (by rfl)|exact Fit.refl _|exact qA|refine qC ?_ rfl ?_))) (by cbv;(repeat' (first|exact qI|refine qJ ?_ ?_|exact qL _|refine qK ?_|exact qA|exact qE (by rfl)|exact qG (by rfl)|exact Fit.refl _|exact qH _|refine qC ?_ rfl ?_)))
         try cbv)
      |fail)
  all_goals first
    |(subst hR;(repeat' (first|exact qA|exact qB|refine qC ?_ rfl ?_|refine qD ?_ ?_|exact qE (by rfl)|exact qG (by rfl)|exact Fit.refl _|exact qH _|(refine qE ?_;(try simp only [qW]at *);simp only [zQ,zA,zB,zC,zD,zE,zF,zG,zH,zI,zJ,zK,zL,zM,zN,zO,zP,zR,zS]at *;omega)));done)
    |skip
theorem lam106_por (l:List PorT)(hfew:l.length≤1000)(i:Nat)(hi:i<l.length∧∀j,j<i→(porB (l.getD (j) q0))=true):FSpec Try.prog 106 [(.agg [(.int .i64 (.sym fun _=>(l.getD (i) q0).q)),(.int .i64 (.sym fun _=>(l.getD (i) q0).lo)),(.int .i64 (.sym fun _=>(l.getD (i) q0).hi))]),.own 0 0] [.cells [.clo 81 [] []] 158] (fun r bs=>r=(.bool (.sym fun _=> !(porB (l.getD (i) q0))))∧bs=[.cells [.clo 81 [] []] 158]):=by
  have cf:=valid81 (l.getD i q0)
  refine FSpec.isB rfl fun R B hR hB=>qX (sc:=sc106) tyok mix Try.func106 rfl Try.call106 (by kernel_rfl) (by kernel_rfl) ?_
  generalize Try.prog=P at cf⊢
  cbv
  repeat' (first
      |with_reducible refine And.intro ?_ ?_
      | (refine qQ ?_ (cf) ?hfit
         case hfit=>((repeat' (first|exact qB|refine qD ?_ ?_|exact qE (by rfl)|exact qG (by rfl)|exact Fit.refl _|exact qA|refine qC ?_ rfl ?_));done)
         try cbv)
      |fail)
  all_goals first
    |(subst hR;(repeat' (first|exact qA|exact qB|refine qC ?_ rfl ?_|refine qD ?_ ?_|exact qE (by rfl)|exact qG (by rfl)|exact Fit.refl _|exact qH _|(refine qE ?_;(try simp only [qW]at *);simp only [zQ,zA,zB,zC,zD,zE,zF,zG,zH,zI,zJ,zK,zL,zM,zN,zO,zP,zR,zS]at *;omega)));done)
    |(subst hB;(repeat' (first|exact qI|refine qJ ?_ ?_|exact qL _|refine qK ?_|exact qA|exact qE (by rfl)|exact qG (by rfl)|exact Fit.refl _|exact qH _|refine qC ?_ rfl ?_));done)
    |skip
theorem idx115_por (l:List PorT)(hfew:l.length≤1000):FSpec Try.prog 115 [(porS l),.clo 106 [] [.own 0 0]] [.cells [.clo 81 [] []] 158] (fun r bs=>r=(.int .i64 (.sym fun _=>fidx (fun i=>porB (l.getD (i) q0)) (l.length) 0))∧bs=[.cells [.clo 81 [] []] 158]):=by
  have cl:=lam106_por l hfew
  refine FSpec.isB rfl fun R B hR hB=>qX (sc:=sc115) tyok mix Try.func115 rfl Try.call115 (by kernel_rfl) (by kernel_rfl) ?_
  generalize Try.prog=P at cl⊢
  cbv
  repeat' (first
      |fail)
  all_goals first
    |skip
  refine⟨none,[],{i:Nat // i≤l.length∧fidx (fun i=>porB (l.getD (i) q0)) (l.length) 0=fidx (fun i=>porB (l.getD (i) q0)) (l.length-i) i∧∀j,j<i→(porB (l.getD (j) q0))=true},fun x=>⟨[(0,(porS l)),(1,.clo 106 [] [.own 0 0]),(7,(.int .i64 (.sym fun _=>zi (l.length)))),(8,(.int .i64 (.sym fun _=>zi x.1)))],[(0,.cells [.clo 81 [] []] 158)],20⟩,fun x=>l.length-x.1,?_,?_⟩
  · refine⟨⟨0,by omega,rfl,fun j hj=>by omega⟩,?_⟩
    cbv
    repeat' (first
      |with_reducible refine hold ?_ ?_
      |with_reducible refine And.intro ?_ ?_)
    all_goals first
      |trivial
      |exact qN (qE (by rfl))
      |exact qN (Fit.refl _)
      |exact qM (qL _)
      |skip
  · rintro ⟨i,hi,hr,hq⟩
    cbv
    repeat' (first
        |with_reducible refine hold ?_ ?_
        |with_reducible refine And.intro ?_ ?_
        |(with_reducible intro hcd;(try simp only [zA,zB,zC,zD,zE,zF,zG,zH,zI,zJ,zK,zL,zM,zN,zO,zP]at hcd);try cbv)
        | (refine⟨some [0],?_⟩
           cbv
           refine qR ?_ (cl i ⟨by(try simp only [qW]at *);simp only [zi_den]at *;omega,hq⟩) (by cbv;(repeat' (first|exact qB|refine qD ?_ ?_|exact qE (by rfl)|exact qG (by rfl)|exact Fit.refl _|exact qA|refine qC ?_ rfl ?_))) (by cbv;(repeat' (first|exact qI|refine qJ ?_ ?_|exact qL _|refine qK ?_|exact qA|exact qE (by rfl)|exact qG (by rfl)|exact Fit.refl _|exact qH _|refine qC ?_ rfl ?_)))
           try cbv)
        |fail)
    all_goals first
      |((try simp only [qW]at *);(try simp only [zQ,zA,zB,zC,zD,zE,zF,zG,zH,zI,zJ,zK,zL,zM,zN,zO,zP,zR,zS]at *);first|(refine qO ?_;omega)|(simp only [Hold];omega))
      |(subst hR;(refine qE ?_;simp only [zQ,zA,zB,zC,zD,zE,zF,zG,zH,zI,zJ,zK,zL,zM,zN,zO,zP,zR,zS]at *;rw [hr,fidx_stop (by omega) hcd]);done)
      |(subst hR;(refine qE ?_;simp only [zQ,zA,zB,zC,zD,zE,zF,zG,zH,zI,zJ,zK,zL,zM,zN,zO,zP,zR,zS]at *;rw [hr,show l.length-i=0 by omega];rfl);done)
      |(subst hB;(repeat' (first|exact qI|refine qJ ?_ ?_|exact qL _|refine qK ?_|exact qA|exact qE (by rfl)|exact qG (by rfl)|exact Fit.refl _|exact qH _|refine qC ?_ rfl ?_));done)
      |((try simp only [zQ,zA,zB,zC,zD,zE,zF,zG,zH,zI,zJ,zK,zL,zM,zN,zO,zP,zR,zS]at *);refine⟨⟨i+1,by omega,by rw [hr,fidx_go (by omega) hcd];(try congr 1)<;>omega,fun j hj=>(Nat.lt_or_ge j i).elim (hq j) (fun q=>by rw [show j=i by omega];exact hcd)⟩,by simp only [];omega,?_⟩;cbv;(repeat' (first|with_reducible refine hold ?_ ?_|with_reducible refine And.intro ?_ ?_));(all_goals first|trivial|exact qN (qE (by rfl))|exact qN (qG (by rfl))|exact qN (Fit.refl _)|exact qM (qL _)|(refine qN (qE ?_);(try simp only [qW]at *);simp only [zQ,zA,zB,zC,zD,zE,zF,zG,zH,zI,zJ,zK,zL,zM,zN,zO,zP,zR,zS]at *;omega)|(refine qM (qK ?_);(repeat' (first|exact qA|exact qB|refine qC ?_ rfl ?_|refine qD ?_ ?_|exact qE (by rfl)|exact qG (by rfl)|exact Fit.refl _|exact qH _|(refine qE ?_;(try simp only [qW]at *);simp only [zQ,zA,zB,zC,zD,zE,zF,zG,zH,zI,zJ,zK,zL,zM,zN,zO,zP,zR,zS]at *;omega)));done)|skip))
      |skip
theorem cont105_por (l:List PorT)(hfew:l.length≤1000):FSpec Try.prog 105 [(porS l),.clo 106 [] [.own 0 0]] [.cells [.clo 81 [] []] 158] (fun r bs=>r=(.bool (.sym fun _=>decide (0≤fidx (fun i=>porB (l.getD (i) q0)) (l.length) 0)))∧bs=[.cells [.clo 81 [] []] 158]):=by
  have ci:=idx115_por l hfew
  refine FSpec.isB rfl fun R B hR hB=>qX (sc:=sc105) tyok mix Try.func105 rfl Try.call105 (by kernel_rfl) (by kernel_rfl) ?_
  generalize Try.prog=P at ci⊢
  cbv
  repeat' (first
      |with_reducible refine And.intro ?_ ?_
      | (refine⟨some [0],?_⟩
         cbv
         refine qR ?_ (ci) (by cbv;(repeat' (first|exact qB|refine qD ?_ ?_|exact qE (by rfl)|exact qG (by rfl)|exact Fit.refl _|exact qA|refine qC ?_ rfl ?_))) (by cbv;(repeat' (first|exact qI|refine qJ ?_ ?_|exact qL _|refine qK ?_|exact qA|exact qE (by rfl)|exact qG (by rfl)|exact Fit.refl _|exact qH _|refine qC ?_ rfl ?_)))
         try cbv)
      |fail)
  all_goals first
    |(subst hR;(repeat' (first|exact qA|exact qB|refine qC ?_ rfl ?_|refine qD ?_ ?_|exact qE (by rfl)|exact qG (by rfl)|exact Fit.refl _|exact qH _|(refine qE ?_;(try simp only [qW]at *);simp only [zQ,zA,zB,zC,zD,zE,zF,zG,zH,zI,zJ,zK,zL,zM,zN,zO,zP,zR,zS]at *;omega)));done)
    |(subst hB;(repeat' (first|exact qI|refine qJ ?_ ?_|exact qL _|refine qK ?_|exact qA|exact qE (by rfl)|exact qG (by rfl)|exact Fit.refl _|exact qH _|refine qC ?_ rfl ?_));done)
    |skip
theorem all80_por (l:List PorT)(hfew:l.length≤1000):FSpec Try.prog 80 [(porS l),.clo 81 [] []] [] (fun r _=>r=(.bool (.sym fun _=>allB (fun i=>porB (l.getD (i) q0)) (l.length)))):=by
  have cc:=cont105_por l hfew
  refine FSpec.is fun R hR=>qX (sc:=sc80) tyok mix Try.func80 rfl Try.call80 (by kernel_rfl) (by kernel_rfl) ?_
  generalize Try.prog=P at cc⊢
  cbv
  repeat' (first
      | (refine⟨some [0],?_⟩
         cbv
         refine qR ?_ (cc) (by cbv;(repeat' (first|exact qB|refine qD ?_ ?_|exact qE (by rfl)|exact qG (by rfl)|exact Fit.refl _|exact qA|refine qC ?_ rfl ?_))) (by cbv;(repeat' (first|exact qI|refine qJ ?_ ?_|exact qL _|refine qK ?_|exact qA|exact qE (by rfl)|exact qG (by rfl)|exact Fit.refl _|exact qH _|refine qC ?_ rfl ?_)))
         try cbv)
      |fail)
  all_goals first
    |(subst hR;(repeat' (first|exact qA|exact qB|refine qC ?_ rfl ?_|refine qD ?_ ?_|exact qE (by rfl)|exact qG (by rfl)|exact Fit.refl _|exact qH _|(refine qE ?_;(try simp only [qW]at *);simp only [zQ,zA,zB,zC,zD,zE,zF,zG,zH,zI,zJ,zK,zL,zM,zN,zO,zP,zR,zS]at *;omega)));done)
    |skip
theorem entPart {ps:List PartT} {top:Int} {i:Nat}(ht:top≤200)(h:∀j,j<i→partB ps top j=true): -1≤lastF ps i∧lastF ps i≤200:=
  lastF_bd ht fun j hj=>of_decide_eq_true (h j hj)
theorem part100 (t:ThmT)(i:Nat)(hm:t.top≤200)(hi:i<t.ps.length∧∀j,j<i→partB t.ps t.top (j)=true):FSpec Try.prog 100 [(.agg [(.int .i64 (.sym fun _=>(t.ps.getD (i) p0).f)),(.int .i64 (.sym fun _=>(t.ps.getD (i) p0).el)),(.int .i64 (.sym fun _=>(t.ps.getD (i) p0).eh))]),.own 0 0,.own 1 0] [.cells [(.int .i64 (.sym fun _=>lastF t.ps (i)))] 3,.cells [(.int .i64 (.sym fun _=>t.top)),(.sl 3 (.sym fun _=>zi (t.ps).length) (fun jx=>[(.int .i64 (.sym fun _=>((t.ps).getD jx.den.toNat p0).f)),(.int .i64 (.sym fun _=>((t.ps).getD jx.den.toNat p0).el)),(.int .i64 (.sym fun _=>((t.ps).getD jx.den.toNat p0).eh))]))] 125] (fun r bs=>r=(.bool (.sym fun _=>partB t.ps t.top (i)))∧bs=[.cells [(.int .i64 (.sym fun _=>lastF t.ps (i+1)))] 3,.cells [(.int .i64 (.sym fun _=>t.top)),(.sl 3 (.sym fun _=>zi (t.ps).length) (fun jx=>[(.int .i64 (.sym fun _=>((t.ps).getD jx.den.toNat p0).f)),(.int .i64 (.sym fun _=>((t.ps).getD jx.den.toNat p0).el)),(.int .i64 (.sym fun _=>((t.ps).getD jx.den.toNat p0).eh))]))] 125]):=by
  have c67:= @within67
  have c65:= @of65
  refine FSpec.isB rfl fun R B hR hB=>qX (sc:=sc100) tyok mix Try.func100 rfl Try.call100 (by kernel_rfl) (by kernel_rfl) ?_
  generalize Try.prog=P at c67 c65⊢
  cbv
  have hb:=entPart hm hi.2
  repeat' (first
      |with_reducible refine hold ?_ ?_
      |with_reducible refine And.intro ?_ ?_
      |(with_reducible intro hcd;(try simp only [zA,zB,zC,zD,zE,zF,zG,zH,zI,zJ,zK,zL,zM,zN,zO,zP]at hcd);try cbv)
      | (refine qQ ?_ (c67 _ _ _) (by(repeat' (first|exact qB|refine qD ?_ ?_|exact qE (by rfl)|exact qG (by rfl)|exact Fit.refl _|exact qA|refine qC ?_ rfl ?_)))
         try cbv)
      | (refine qQ ?_ (c65 _ _ _ _) (by(repeat' (first|exact qB|refine qD ?_ ?_|exact qE (by rfl)|exact qG (by rfl)|exact Fit.refl _|exact qA|refine qC ?_ rfl ?_)))
         try cbv)
      |fail)
  all_goals first
    |((try simp only [qW]at *);(try simp only [zQ,zA,zB,zC,zD,zE,zF,zG,zH,zI,zJ,zK,zL,zM,zN,zO,zP,zR,zS]at *);first|(refine qO ?_;omega)|(simp only [Hold];omega))
    |(subst hR;(refine qG ?_;(try simp only [qW]at *);(try simp only [zQ,zA,zB,zC,zD,zE,zF,zG,zH,zI,zJ,zK,zL,zM,zN,zO,zP,zR,zS]at *);apply Bool.eq_iff_iff.2;simp only [partB,allB_t,allB_f,inB_t,inB_f,ofB_t,ofB_f,shB_t,shB_f,spB_t,spB_f,Bool.and_eq_true,Bool.or_eq_true,Bool.not_eq_true',decide_eq_true_eq,decide_eq_false_iff_not,Bool.false_eq_true,reduceCtorEq,Bool.true_and,Bool.and_true,Bool.false_and,Bool.and_false,iff_true,true_iff,Bool.not_true,Bool.not_false]at *;simp only [partOk]at *;constructor<;>intro q<;>first|omega|(exact q.elim)|(exact absurd q (by omega)));done)
    |(subst hB;(repeat' (first|exact qI|refine qJ ?_ ?_|exact qL _|refine qK ?_|exact qA|exact qE (by rfl)|exact qG (by rfl)|exact Fit.refl _|exact qH _|refine qC ?_ rfl ?_));done)
    |skip
theorem lam112_part (t:ThmT)(hm:t.top≤200)(hfew:t.ps.length≤1000)(i:Nat)(hi:i<t.ps.length∧∀j,j<i→(partB t.ps t.top (j))=true):FSpec Try.prog 112 [(.agg [(.int .i64 (.sym fun _=>(t.ps.getD (i) p0).f)),(.int .i64 (.sym fun _=>(t.ps.getD (i) p0).el)),(.int .i64 (.sym fun _=>(t.ps.getD (i) p0).eh))]),.own 0 0] [.cells [.clo 100 [] [.own 1 0,.own 2 0]] 178,.cells [(.int .i64 (.sym fun _=>lastF t.ps (i)))] 3,.cells [(.int .i64 (.sym fun _=>t.top)),(.sl 3 (.sym fun _=>zi (t.ps).length) (fun jx=>[(.int .i64 (.sym fun _=>((t.ps).getD jx.den.toNat p0).f)),(.int .i64 (.sym fun _=>((t.ps).getD jx.den.toNat p0).el)),(.int .i64 (.sym fun _=>((t.ps).getD jx.den.toNat p0).eh))]))] 125] (fun r bs=>r=(.bool (.sym fun _=> !(partB t.ps t.top (i))))∧bs=[.cells [.clo 100 [] [.own 1 0,.own 2 0]] 178,.cells [(.int .i64 (.sym fun _=>lastF t.ps (i+1)))] 3,.cells [(.int .i64 (.sym fun _=>t.top)),(.sl 3 (.sym fun _=>zi (t.ps).length) (fun jx=>[(.int .i64 (.sym fun _=>((t.ps).getD jx.den.toNat p0).f)),(.int .i64 (.sym fun _=>((t.ps).getD jx.den.toNat p0).el)),(.int .i64 (.sym fun _=>((t.ps).getD jx.den.toNat p0).eh))]))] 125]):=by
  have cf:=part100 t i hm hi
  refine FSpec.isB rfl fun R B hR hB=>qX (sc:=sc112) tyok mix Try.func112 rfl Try.call112 (by kernel_rfl) (by kernel_rfl) ?_
  generalize Try.prog=P at cf⊢
  cbv
  repeat' (first
      |with_reducible refine And.intro ?_ ?_
      | (refine⟨some [1,2],?_⟩
         cbv
         refine qR ?_ (cf) (by cbv;(repeat' (first|exact qB|refine qD ?_ ?_|exact qE (by rfl)|exact qG (by rfl)|exact Fit.refl _|exact qA|refine qC ?_ rfl ?_))) (by cbv;(repeat' (first|exact qI|refine qJ ?_ ?_|exact qL _|refine qK ?_|exact qA|exact qE (by rfl)|exact qG (by rfl)|exact Fit.refl _|exact qH _|refine qC ?_ rfl ?_)))
         try cbv)
      |fail)
  all_goals first
    |(subst hR;(repeat' (first|exact qA|exact qB|refine qC ?_ rfl ?_|refine qD ?_ ?_|exact qE (by rfl)|exact qG (by rfl)|exact Fit.refl _|exact qH _|(refine qE ?_;(try simp only [qW]at *);simp only [zQ,zA,zB,zC,zD,zE,zF,zG,zH,zI,zJ,zK,zL,zM,zN,zO,zP,zR,zS]at *;omega)));done)
    |(subst hB;(repeat' (first|exact qI|refine qJ ?_ ?_|exact qL _|refine qK ?_|exact qA|exact qE (by rfl)|exact qG (by rfl)|exact Fit.refl _|exact qH _|refine qC ?_ rfl ?_));done)
    |skip
theorem idx119_part (t:ThmT)(hm:t.top≤200)(hfew:t.ps.length≤1000):FSpec Try.prog 119 [(.sl 3 (.sym fun _=>zi (t.ps).length) (fun ix=>[(.int .i64 (.sym fun _=>((t.ps).getD ix.den.toNat p0).f)),(.int .i64 (.sym fun _=>((t.ps).getD ix.den.toNat p0).el)),(.int .i64 (.sym fun _=>((t.ps).getD ix.den.toNat p0).eh))])),.clo 112 [] [.own 0 0]] [.cells [.clo 100 [] [.own 1 0,.own 2 0]] 178,.cells [(.int .i64 (.sym fun _=>lastF t.ps (0)))] 3,.cells [(.int .i64 (.sym fun _=>t.top)),(.sl 3 (.sym fun _=>zi (t.ps).length) (fun jx=>[(.int .i64 (.sym fun _=>((t.ps).getD jx.den.toNat p0).f)),(.int .i64 (.sym fun _=>((t.ps).getD jx.den.toNat p0).el)),(.int .i64 (.sym fun _=>((t.ps).getD jx.den.toNat p0).eh))]))] 125] (fun r bs=>r=(.int .i64 (.sym fun _=>fidx (fun i=>partB t.ps t.top (i)) (t.ps.length) 0))∧bs=[.cells [.clo 100 [] [.own 1 0,.own 2 0]] 178,.cells [.any] 3,.cells [(.int .i64 (.sym fun _=>t.top)),(.sl 3 (.sym fun _=>zi (t.ps).length) (fun jx=>[(.int .i64 (.sym fun _=>((t.ps).getD jx.den.toNat p0).f)),(.int .i64 (.sym fun _=>((t.ps).getD jx.den.toNat p0).el)),(.int .i64 (.sym fun _=>((t.ps).getD jx.den.toNat p0).eh))]))] 125]):=by
  have cl:=lam112_part t hm hfew
  refine FSpec.isB rfl fun R B hR hB=>qX (sc:=sc119) tyok mix Try.func119 rfl Try.call119 (by kernel_rfl) (by kernel_rfl) ?_
  generalize Try.prog=P at cl⊢
  cbv
  repeat' (first
      |fail)
  all_goals first
    |skip
  refine⟨none,[],{i:Nat // i≤t.ps.length∧fidx (fun i=>partB t.ps t.top (i)) (t.ps.length) 0=fidx (fun i=>partB t.ps t.top (i)) (t.ps.length-i) i∧∀j,j<i→(partB t.ps t.top (j))=true},fun x=>⟨[(0,(.sl 3 (.sym fun _=>zi (t.ps).length) (fun ix=>[(.int .i64 (.sym fun _=>((t.ps).getD ix.den.toNat p0).f)),(.int .i64 (.sym fun _=>((t.ps).getD ix.den.toNat p0).el)),(.int .i64 (.sym fun _=>((t.ps).getD ix.den.toNat p0).eh))]))),(1,.clo 112 [] [.own 0 0]),(7,(.int .i64 (.sym fun _=>zi (t.ps.length)))),(8,(.int .i64 (.sym fun _=>zi x.1)))],[(0,.cells [.clo 100 [] [.own 1 0,.own 2 0]] 178),(1,.cells [(.int .i64 (.sym fun _=>lastF t.ps (x.1)))] 3),(2,.cells [(.int .i64 (.sym fun _=>t.top)),(.sl 3 (.sym fun _=>zi (t.ps).length) (fun jx=>[(.int .i64 (.sym fun _=>((t.ps).getD jx.den.toNat p0).f)),(.int .i64 (.sym fun _=>((t.ps).getD jx.den.toNat p0).el)),(.int .i64 (.sym fun _=>((t.ps).getD jx.den.toNat p0).eh))]))] 125)],20⟩,fun x=>t.ps.length-x.1,?_,?_⟩
  · refine⟨⟨0,by omega,rfl,fun j hj=>by omega⟩,?_⟩
    cbv
    repeat' (first
      |with_reducible refine hold ?_ ?_
      |with_reducible refine And.intro ?_ ?_)
    all_goals first
      |trivial
      |exact qN (qE (by rfl))
      |exact qN (Fit.refl _)
      |exact qM (qL _)
      |skip
  · rintro ⟨i,hi,hr,hq⟩
    cbv
    repeat' (first
        |with_reducible refine hold ?_ ?_
        |with_reducible refine And.intro ?_ ?_
        |(with_reducible intro hcd;(try simp only [zA,zB,zC,zD,zE,zF,zG,zH,zI,zJ,zK,zL,zM,zN,zO,zP]at hcd);try cbv)
        | (refine⟨some [0,1,2],?_⟩
           cbv
           refine qR ?_ (cl i ⟨by(try simp only [qW]at *);simp only [zi_den]at *;omega,hq⟩) (by cbv;(repeat' (first|exact qB|refine qD ?_ ?_|exact qE (by rfl)|exact qG (by rfl)|exact Fit.refl _|exact qA|refine qC ?_ rfl ?_))) (by cbv;(repeat' (first|exact qI|refine qJ ?_ ?_|exact qL _|refine qK ?_|exact qA|exact qE (by rfl)|exact qG (by rfl)|exact Fit.refl _|exact qH _|refine qC ?_ rfl ?_)))
           try cbv)
        |fail)
    all_goals first
      |((try simp only [qW]at *);(try simp only [zQ,zA,zB,zC,zD,zE,zF,zG,zH,zI,zJ,zK,zL,zM,zN,zO,zP,zR,zS]at *);first|(refine qO ?_;omega)|(simp only [Hold];omega))
      |(subst hR;(refine qE ?_;simp only [zQ,zA,zB,zC,zD,zE,zF,zG,zH,zI,zJ,zK,zL,zM,zN,zO,zP,zR,zS]at *;rw [hr,fidx_stop (by omega) hcd]);done)
      |(subst hR;(refine qE ?_;simp only [zQ,zA,zB,zC,zD,zE,zF,zG,zH,zI,zJ,zK,zL,zM,zN,zO,zP,zR,zS]at *;rw [hr,show t.ps.length-i=0 by omega];rfl);done)
      |(subst hB;(repeat' (first|exact qI|refine qJ ?_ ?_|exact qL _|refine qK ?_|exact qA|exact qE (by rfl)|exact qG (by rfl)|exact Fit.refl _|exact qH _|refine qC ?_ rfl ?_));done)
      |((try simp only [zQ,zA,zB,zC,zD,zE,zF,zG,zH,zI,zJ,zK,zL,zM,zN,zO,zP,zR,zS]at *);refine⟨⟨i+1,by omega,by rw [hr,fidx_go (by omega) hcd];(try congr 1)<;>omega,fun j hj=>(Nat.lt_or_ge j i).elim (hq j) (fun q=>by rw [show j=i by omega];exact hcd)⟩,by simp only [];omega,?_⟩;cbv;(repeat' (first|with_reducible refine hold ?_ ?_|with_reducible refine And.intro ?_ ?_));(all_goals first|trivial|exact qN (qE (by rfl))|exact qN (qG (by rfl))|exact qN (Fit.refl _)|exact qM (qL _)|(refine qN (qE ?_);(try simp only [qW]at *);simp only [zQ,zA,zB,zC,zD,zE,zF,zG,zH,zI,zJ,zK,zL,zM,zN,zO,zP,zR,zS]at *;omega)|(refine qM (qK ?_);(repeat' (first|exact qA|exact qB|refine qC ?_ rfl ?_|refine qD ?_ ?_|exact qE (by rfl)|exact qG (by rfl)|exact Fit.refl _|exact qH _|(refine qE ?_;(try simp only [qW]at *);simp only [zQ,zA,zB,zC,zD,zE,zF,zG,zH,zI,zJ,zK,zL,zM,zN,zO,zP,zR,zS]at *;omega)));done)|skip))
      |skip
theorem cont111_part (t:ThmT)(hm:t.top≤200)(hfew:t.ps.length≤1000):FSpec Try.prog 111 [(.sl 3 (.sym fun _=>zi (t.ps).length) (fun ix=>[(.int .i64 (.sym fun _=>((t.ps).getD ix.den.toNat p0).f)),(.int .i64 (.sym fun _=>((t.ps).getD ix.den.toNat p0).el)),(.int .i64 (.sym fun _=>((t.ps).getD ix.den.toNat p0).eh))])),.clo 112 [] [.own 0 0]] [.cells [.clo 100 [] [.own 1 0,.own 2 0]] 178,.cells [(.int .i64 (.sym fun _=>lastF t.ps (0)))] 3,.cells [(.int .i64 (.sym fun _=>t.top)),(.sl 3 (.sym fun _=>zi (t.ps).length) (fun jx=>[(.int .i64 (.sym fun _=>((t.ps).getD jx.den.toNat p0).f)),(.int .i64 (.sym fun _=>((t.ps).getD jx.den.toNat p0).el)),(.int .i64 (.sym fun _=>((t.ps).getD jx.den.toNat p0).eh))]))] 125] (fun r bs=>r=(.bool (.sym fun _=>decide (0≤fidx (fun i=>partB t.ps t.top (i)) (t.ps.length) 0)))∧bs=[.cells [.clo 100 [] [.own 1 0,.own 2 0]] 178,.cells [.any] 3,.cells [(.int .i64 (.sym fun _=>t.top)),(.sl 3 (.sym fun _=>zi (t.ps).length) (fun jx=>[(.int .i64 (.sym fun _=>((t.ps).getD jx.den.toNat p0).f)),(.int .i64 (.sym fun _=>((t.ps).getD jx.den.toNat p0).el)),(.int .i64 (.sym fun _=>((t.ps).getD jx.den.toNat p0).eh))]))] 125]):=by
  have ci:=idx119_part t hm hfew
  refine FSpec.isB rfl fun R B hR hB=>qX (sc:=sc111) tyok mix Try.func111 rfl Try.call111 (by kernel_rfl) (by kernel_rfl) ?_
  generalize Try.prog=P at ci⊢
  cbv
  repeat' (first
      |with_reducible refine And.intro ?_ ?_
      | (refine⟨some [0,1,2],?_⟩
         cbv
         refine qR ?_ (ci) (by cbv;(repeat' (first|exact qB|refine qD ?_ ?_|exact qE (by rfl)|exact qG (by rfl)|exact Fit.refl _|exact qA|refine qC ?_ rfl ?_))) (by cbv;(repeat' (first|exact qI|refine qJ ?_ ?_|exact qL _|refine qK ?_|exact qA|exact qE (by rfl)|exact qG (by rfl)|exact Fit.refl _|exact qH _|refine qC ?_ rfl ?_)))
         try cbv)
      |fail)
  all_goals first
    |(subst hR;(repeat' (first|exact qA|exact qB|refine qC ?_ rfl ?_|refine qD ?_ ?_|exact qE (by rfl)|exact qG (by rfl)|exact Fit.refl _|exact qH _|(refine qE ?_;(try simp only [qW]at *);simp only [zQ,zA,zB,zC,zD,zE,zF,zG,zH,zI,zJ,zK,zL,zM,zN,zO,zP,zR,zS]at *;omega)));done)
    |(subst hB;(repeat' (first|exact qI|refine qJ ?_ ?_|exact qL _|refine qK ?_|exact qA|exact qE (by rfl)|exact qG (by rfl)|exact Fit.refl _|exact qH _|refine qC ?_ rfl ?_));done)
    |skip
theorem all99_part (t:ThmT)(hm:t.top≤200)(hfew:t.ps.length≤1000):FSpec Try.prog 99 [(.sl 3 (.sym fun _=>zi (t.ps).length) (fun ix=>[(.int .i64 (.sym fun _=>((t.ps).getD ix.den.toNat p0).f)),(.int .i64 (.sym fun _=>((t.ps).getD ix.den.toNat p0).el)),(.int .i64 (.sym fun _=>((t.ps).getD ix.den.toNat p0).eh))])),.clo 100 [] [.own 0 0,.own 1 0]] [.cells [(.int .i64 (.sym fun _=>lastF t.ps (0)))] 3,.cells [(.int .i64 (.sym fun _=>t.top)),(.sl 3 (.sym fun _=>zi (t.ps).length) (fun jx=>[(.int .i64 (.sym fun _=>((t.ps).getD jx.den.toNat p0).f)),(.int .i64 (.sym fun _=>((t.ps).getD jx.den.toNat p0).el)),(.int .i64 (.sym fun _=>((t.ps).getD jx.den.toNat p0).eh))]))] 125] (fun r bs=>r=(.bool (.sym fun _=>allB (fun i=>partB t.ps t.top (i)) (t.ps.length)))∧bs=[.cells [.any] 3,.cells [(.int .i64 (.sym fun _=>t.top)),(.sl 3 (.sym fun _=>zi (t.ps).length) (fun jx=>[(.int .i64 (.sym fun _=>((t.ps).getD jx.den.toNat p0).f)),(.int .i64 (.sym fun _=>((t.ps).getD jx.den.toNat p0).el)),(.int .i64 (.sym fun _=>((t.ps).getD jx.den.toNat p0).eh))]))] 125]):=by
  have cc:=cont111_part t hm hfew
  refine FSpec.isB rfl fun R B hR hB=>qX (sc:=sc99) tyok mix Try.func99 rfl Try.call99 (by kernel_rfl) (by kernel_rfl) ?_
  generalize Try.prog=P at cc⊢
  cbv
  repeat' (first
      |with_reducible refine And.intro ?_ ?_
      | (refine⟨some [2,0,1],?_⟩
         cbv
         refine qR ?_ (cc) (by cbv;(repeat' (first|exact qB|refine qD ?_ ?_|exact qE (by rfl)|exact qG (by rfl)|exact Fit.refl _|exact qA|refine qC ?_ rfl ?_))) (by cbv;(repeat' (first|exact qI|refine qJ ?_ ?_|exact qL _|refine qK ?_|exact qA|exact qE (by rfl)|exact qG (by rfl)|exact Fit.refl _|exact qH _|refine qC ?_ rfl ?_)))
         try cbv)
      |fail)
  all_goals first
    |(subst hR;(repeat' (first|exact qA|exact qB|refine qC ?_ rfl ?_|refine qD ?_ ?_|exact qE (by rfl)|exact qG (by rfl)|exact Fit.refl _|exact qH _|(refine qE ?_;(try simp only [qW]at *);simp only [zQ,zA,zB,zC,zD,zE,zF,zG,zH,zI,zJ,zK,zL,zM,zN,zO,zP,zR,zS]at *;omega)));done)
    |(subst hB;(repeat' (first|exact qI|refine qJ ?_ ?_|exact qL _|refine qK ?_|exact qA|exact qE (by rfl)|exact qG (by rfl)|exact Fit.refl _|exact qH _|refine qC ?_ rfl ?_));done)
    |skip
theorem valid70 (t:ThmT)(h:t.ps.length≤4):FSpec Try.prog 70 [(.agg [(.int .i64 (.sym fun _=>t.top)),(.sl 3 (.sym fun _=>zi (t.ps).length) (fun jx=>[(.int .i64 (.sym fun _=>((t.ps).getD jx.den.toNat p0).f)),(.int .i64 (.sym fun _=>((t.ps).getD jx.den.toNat p0).el)),(.int .i64 (.sym fun _=>((t.ps).getD jx.den.toNat p0).eh))]))])] [] (fun r _=>r=(.bool (.sym fun _=>thB t))):=by
  have c67:= @within67
  have ca:=fun h0:t.top≤200=>all99_part t h0 (by omega)
  refine FSpec.is fun R hR=>qX (sc:=sc70) tyok mix Try.func70 rfl Try.call70 (by kernel_rfl) (by kernel_rfl) ?_
  generalize Try.prog=P at c67 ca⊢
  cbv
  repeat' (first
      |with_reducible refine And.intro ?_ ?_
      |(with_reducible intro hcd;(try simp only [zA,zB,zC,zD,zE,zF,zG,zH,zI,zJ,zK,zL,zM,zN,zO,zP]at hcd);try cbv)
      | (refine qQ ?_ (c67 _ _ _) (by(repeat' (first|exact qB|refine qD ?_ ?_|exact qE (by rfl)|exact qG (by rfl)|exact Fit.refl _|exact qA|refine qC ?_ rfl ?_)))
         try cbv)
      | (refine⟨some [12,0],?_⟩
         cbv
         refine qR ?_ ((ca (by((try simp only [qW]at *);(try simp only [zQ,zA,zB,zC,zD,zE,zF,zG,zH,zI,zJ,zK,zL,zM,zN,zO,zP,zR,zS]at *);simp only [allB_t,allB_f,inB_t,inB_f,ofB_t,ofB_f,shB_t,shB_f,spB_t,spB_f]at *;omega)))) (by cbv;(repeat' (first|exact qB|refine qD ?_ ?_|exact qE (by rfl)|exact qG (by rfl)|exact Fit.refl _|exact qA|refine qC ?_ rfl ?_))) (by cbv;(repeat' (first|exact qI|refine qJ ?_ ?_|exact qL _|refine qK ?_|exact qA|exact qE (by rfl)|exact qG (by rfl)|exact Fit.refl _|exact qH _|refine qC ?_ rfl ?_)))
         try cbv)
      |fail)
  all_goals first
    |(subst hR;(refine qG ?_;(try simp only [qW]at *);(try simp only [zQ,zA,zB,zC,zD,zE,zF,zG,zH,zI,zJ,zK,zL,zM,zN,zO,zP,zR,zS]at *);(try rw [all_iff]);apply Bool.eq_iff_iff.2;simp only [thB,partB,allB_t,allB_f,inB_t,inB_f,ofB_t,ofB_f,shB_t,shB_f,spB_t,spB_f,Bool.and_eq_true,Bool.or_eq_true,Bool.not_eq_true',decide_eq_true_eq,decide_eq_false_iff_not,Bool.false_eq_true,reduceCtorEq,Bool.true_and,Bool.and_true,Bool.false_and,Bool.and_false,iff_true,true_iff,Bool.not_true,Bool.not_false]at *;simp only [thOk]at *;constructor<;>intro q<;>first|omega|(exact q.elim)|(exact⟨by omega,by omega,by omega,q⟩)|(exact q.2.2.2)|(exact absurd q.2.2.1 (by omega)));done)
    |skip
end Go.Proofs.Yteelocfbbhchcaa

namespace Go.Proofs.Yteelocfbbhchcaa
open Go Go.Eng Go.Proofs
set_option maxRecDepth 10000
theorem lam96_th (c:Clr)(h4:∀i,i<c.ts.length→(c.ts.getD i t0).ps.length≤4)(hfew:c.ts.length≤1000)(i:Nat)(hi:i<c.ts.length∧∀j,j<i→(thB (c.ts.getD (j) t0))=true):FSpec Try.prog 96 [(.agg [(.int .i64 (.sym fun _=>(c.ts.getD (i) t0).top)),(.sl 3 (.sym fun _=>zi ((c.ts.getD (i) t0).ps).length) (fun jx=>[(.int .i64 (.sym fun _=>(((c.ts.getD (i) t0).ps).getD jx.den.toNat p0).f)),(.int .i64 (.sym fun _=>(((c.ts.getD (i) t0).ps).getD jx.den.toNat p0).el)),(.int .i64 (.sym fun _=>(((c.ts.getD (i) t0).ps).getD jx.den.toNat p0).eh))]))]),.own 0 0] [.cells [.clo 70 [] []] 140] (fun r bs=>r=(.bool (.sym fun _=> !(thB (c.ts.getD (i) t0))))∧bs=[.cells [.clo 70 [] []] 140]):=by
  have cf:=valid70 (c.ts.getD i t0) (h4 i hi.1)
  refine FSpec.isB rfl fun R B hR hB=>qX (sc:=sc96) tyok mix Try.func96 rfl Try.call96 (by kernel_rfl) (by kernel_rfl) ?_
  generalize Try.prog=P at cf⊢
  cbv
  repeat' (first
      |with_reducible refine And.intro ?_ ?_
      | (refine qQ ?_ (cf) ?hfit
         case hfit=>((repeat' (first|exact qB|refine qD ?_ ?_|exact qE (by rfl)|exact qG (by rfl)|exact Fit.refl _|exact qA|refine qC ?_ rfl ?_));done)
         try cbv)
      |fail)
  all_goals first
    |(subst hR;(repeat' (first|exact qA|exact qB|refine qC ?_ rfl ?_|refine qD ?_ ?_|exact qE (by rfl)|exact qG (by rfl)|exact Fit.refl _|exact qH _|(refine qE ?_;(try simp only [qW]at *);simp only [zQ,zA,zB,zC,zD,zE,zF,zG,zH,zI,zJ,zK,zL,zM,zN,zO,zP,zR,zS]at *;omega)));done)
    |(subst hB;(repeat' (first|exact qI|refine qJ ?_ ?_|exact qL _|refine qK ?_|exact qA|exact qE (by rfl)|exact qG (by rfl)|exact Fit.refl _|exact qH _|refine qC ?_ rfl ?_));done)
    |skip
theorem idx109_th (c:Clr)(h4:∀i,i<c.ts.length→(c.ts.getD i t0).ps.length≤4)(hfew:c.ts.length≤1000):FSpec Try.prog 109 [(.sl 2 (.sym fun _=>zi c.ts.length) (fun ix=>[(.int .i64 (.sym fun _=>(c.ts.getD ix.den.toNat t0).top)),(.sl 3 (.sym fun _=>zi ((c.ts.getD ix.den.toNat t0).ps).length) (fun jx=>[(.int .i64 (.sym fun _=>(((c.ts.getD ix.den.toNat t0).ps).getD jx.den.toNat p0).f)),(.int .i64 (.sym fun _=>(((c.ts.getD ix.den.toNat t0).ps).getD jx.den.toNat p0).el)),(.int .i64 (.sym fun _=>(((c.ts.getD ix.den.toNat t0).ps).getD jx.den.toNat p0).eh))]))])),.clo 96 [] [.own 0 0]] [.cells [.clo 70 [] []] 140] (fun r bs=>r=(.int .i64 (.sym fun _=>fidx (fun i=>thB (c.ts.getD (i) t0)) (c.ts.length) 0))∧bs=[.cells [.clo 70 [] []] 140]):=by
  have cl:=lam96_th c h4 hfew
  refine FSpec.isB rfl fun R B hR hB=>qX (sc:=sc109) tyok mix Try.func109 rfl Try.call109 (by kernel_rfl) (by kernel_rfl) ?_
  generalize Try.prog=P at cl⊢
  cbv
  repeat' (first
      |fail)
  all_goals first
    |skip
  refine⟨none,[],{i:Nat // i≤c.ts.length∧fidx (fun i=>thB (c.ts.getD (i) t0)) (c.ts.length) 0=fidx (fun i=>thB (c.ts.getD (i) t0)) (c.ts.length-i) i∧∀j,j<i→(thB (c.ts.getD (j) t0))=true},fun x=>⟨[(0,(.sl 2 (.sym fun _=>zi c.ts.length) (fun ix=>[(.int .i64 (.sym fun _=>(c.ts.getD ix.den.toNat t0).top)),(.sl 3 (.sym fun _=>zi ((c.ts.getD ix.den.toNat t0).ps).length) (fun jx=>[(.int .i64 (.sym fun _=>(((c.ts.getD ix.den.toNat t0).ps).getD jx.den.toNat p0).f)),(.int .i64 (.sym fun _=>(((c.ts.getD ix.den.toNat t0).ps).getD jx.den.toNat p0).el)),(.int .i64 (.sym fun _=>(((c.ts.getD ix.den.toNat t0).ps).getD jx.den.toNat p0).eh))]))]))),(1,.clo 96 [] [.own 0 0]),(7,(.int .i64 (.sym fun _=>zi (c.ts.length)))),(8,(.int .i64 (.sym fun _=>zi x.1)))],[(0,.cells [.clo 70 [] []] 140)],20⟩,fun x=>c.ts.length-x.1,?_,?_⟩
  · refine⟨⟨0,by omega,rfl,fun j hj=>by omega⟩,?_⟩
    cbv
    repeat' (first
      |with_reducible refine hold ?_ ?_
      |with_reducible refine And.intro ?_ ?_)
    all_goals first
      |trivial
      |exact qN (qE (by rfl))
      |exact qN (Fit.refl _)
      |exact qM (qL _)
      |skip
  · rintro ⟨i,hi,hr,hq⟩
    cbv
    repeat' (first
        |with_reducible refine hold ?_ ?_
        |with_reducible refine And.intro ?_ ?_
        |(with_reducible intro hcd;(try simp only [zA,zB,zC,zD,zE,zF,zG,zH,zI,zJ,zK,zL,zM,zN,zO,zP]at hcd);try cbv)
        | (refine⟨some [0],?_⟩
           cbv
           refine qR ?_ (cl i ⟨by(try simp only [qW]at *);simp only [zi_den]at *;omega,hq⟩) (by cbv;(repeat' (first|exact qB|refine qD ?_ ?_|exact qE (by rfl)|exact qG (by rfl)|exact Fit.refl _|exact qA|refine qC ?_ rfl ?_))) (by cbv;(repeat' (first|exact qI|refine qJ ?_ ?_|exact qL _|refine qK ?_|exact qA|exact qE (by rfl)|exact qG (by rfl)|exact Fit.refl _|exact qH _|refine qC ?_ rfl ?_)))
           try cbv)
        |fail)
    all_goals first
      |((try simp only [qW]at *);(try simp only [zQ,zA,zB,zC,zD,zE,zF,zG,zH,zI,zJ,zK,zL,zM,zN,zO,zP,zR,zS]at *);first|(refine qO ?_;omega)|(simp only [Hold];omega))
      |(subst hR;(refine qE ?_;simp only [zQ,zA,zB,zC,zD,zE,zF,zG,zH,zI,zJ,zK,zL,zM,zN,zO,zP,zR,zS]at *;rw [hr,fidx_stop (by omega) hcd]);done)
      |(subst hR;(refine qE ?_;simp only [zQ,zA,zB,zC,zD,zE,zF,zG,zH,zI,zJ,zK,zL,zM,zN,zO,zP,zR,zS]at *;rw [hr,show c.ts.length-i=0 by omega];rfl);done)
      |(subst hB;(repeat' (first|exact qI|refine qJ ?_ ?_|exact qL _|refine qK ?_|exact qA|exact qE (by rfl)|exact qG (by rfl)|exact Fit.refl _|exact qH _|refine qC ?_ rfl ?_));done)
      |((try simp only [zQ,zA,zB,zC,zD,zE,zF,zG,zH,zI,zJ,zK,zL,zM,zN,zO,zP,zR,zS]at *);refine⟨⟨i+1,by omega,by rw [hr,fidx_go (by omega) hcd];(try congr 1)<;>omega,fun j hj=>(Nat.lt_or_ge j i).elim (hq j) (fun q=>by rw [show j=i by omega];exact hcd)⟩,by simp only [];omega,?_⟩;cbv;(repeat' (first|with_reducible refine hold ?_ ?_|with_reducible refine And.intro ?_ ?_));(all_goals first|trivial|exact qN (qE (by rfl))|exact qN (qG (by rfl))|exact qN (Fit.refl _)|exact qM (qL _)|(refine qN (qE ?_);(try simp only [qW]at *);simp only [zQ,zA,zB,zC,zD,zE,zF,zG,zH,zI,zJ,zK,zL,zM,zN,zO,zP,zR,zS]at *;omega)|(refine qM (qK ?_);(repeat' (first|exact qA|exact qB|refine qC ?_ rfl ?_|refine qD ?_ ?_|exact qE (by rfl)|exact qG (by rfl)|exact Fit.refl _|exact qH _|(refine qE ?_;(try simp only [qW]at *);simp only [zQ,zA,zB,zC,zD,zE,zF,zG,zH,zI,zJ,zK,zL,zM,zN,zO,zP,zR,zS]at *;omega)));done)|skip))
      |skip
theorem cont95_th (c:Clr)(h4:∀i,i<c.ts.length→(c.ts.getD i t0).ps.length≤4)(hfew:c.ts.length≤1000):FSpec Try.prog 95 [(.sl 2 (.sym fun _=>zi c.ts.length) (fun ix=>[(.int .i64 (.sym fun _=>(c.ts.getD ix.den.toNat t0).top)),(.sl 3 (.sym fun _=>zi ((c.ts.getD ix.den.toNat t0).ps).length) (fun jx=>[(.int .i64 (.sym fun _=>(((c.ts.getD ix.den.toNat t0).ps).getD jx.den.toNat p0).f)),(.int .i64 (.sym fun _=>(((c.ts.getD ix.den.toNat t0).ps).getD jx.den.toNat p0).el)),(.int .i64 (.sym fun _=>(((c.ts.getD ix.den.toNat t0).ps).getD jx.den.toNat p0).eh))]))])),.clo 96 [] [.own 0 0]] [.cells [.clo 70 [] []] 140] (fun r bs=>r=(.bool (.sym fun _=>decide (0≤fidx (fun i=>thB (c.ts.getD (i) t0)) (c.ts.length) 0)))∧bs=[.cells [.clo 70 [] []] 140]):=by
  have ci:=idx109_th c h4 hfew
  refine FSpec.isB rfl fun R B hR hB=>qX (sc:=sc95) tyok mix Try.func95 rfl Try.call95 (by kernel_rfl) (by kernel_rfl) ?_
  generalize Try.prog=P at ci⊢
  cbv
  repeat' (first
      |with_reducible refine And.intro ?_ ?_
      | (refine⟨some [0],?_⟩
         cbv
         refine qR ?_ (ci) (by cbv;(repeat' (first|exact qB|refine qD ?_ ?_|exact qE (by rfl)|exact qG (by rfl)|exact Fit.refl _|exact qA|refine qC ?_ rfl ?_))) (by cbv;(repeat' (first|exact qI|refine qJ ?_ ?_|exact qL _|refine qK ?_|exact qA|exact qE (by rfl)|exact qG (by rfl)|exact Fit.refl _|exact qH _|refine qC ?_ rfl ?_)))
         try cbv)
      |fail)
  all_goals first
    |(subst hR;(repeat' (first|exact qA|exact qB|refine qC ?_ rfl ?_|refine qD ?_ ?_|exact qE (by rfl)|exact qG (by rfl)|exact Fit.refl _|exact qH _|(refine qE ?_;(try simp only [qW]at *);simp only [zQ,zA,zB,zC,zD,zE,zF,zG,zH,zI,zJ,zK,zL,zM,zN,zO,zP,zR,zS]at *;omega)));done)
    |(subst hB;(repeat' (first|exact qI|refine qJ ?_ ?_|exact qL _|refine qK ?_|exact qA|exact qE (by rfl)|exact qG (by rfl)|exact Fit.refl _|exact qH _|refine qC ?_ rfl ?_));done)
    |skip
theorem all64_th (c:Clr)(h4:∀i,i<c.ts.length→(c.ts.getD i t0).ps.length≤4)(hfew:c.ts.length≤1000):FSpec Try.prog 64 [(.sl 2 (.sym fun _=>zi c.ts.length) (fun ix=>[(.int .i64 (.sym fun _=>(c.ts.getD ix.den.toNat t0).top)),(.sl 3 (.sym fun _=>zi ((c.ts.getD ix.den.toNat t0).ps).length) (fun jx=>[(.int .i64 (.sym fun _=>(((c.ts.getD ix.den.toNat t0).ps).getD jx.den.toNat p0).f)),(.int .i64 (.sym fun _=>(((c.ts.getD ix.den.toNat t0).ps).getD jx.den.toNat p0).el)),(.int .i64 (.sym fun _=>(((c.ts.getD ix.den.toNat t0).ps).getD jx.den.toNat p0).eh))]))])),.clo 70 [] []] [] (fun r _=>r=(.bool (.sym fun _=>allB (fun i=>thB (c.ts.getD (i) t0)) (c.ts.length)))):=by
  have cc:=cont95_th c h4 hfew
  refine FSpec.is fun R hR=>qX (sc:=sc64) tyok mix Try.func64 rfl Try.call64 (by kernel_rfl) (by kernel_rfl) ?_
  generalize Try.prog=P at cc⊢
  cbv
  repeat' (first
      | (refine⟨some [0],?_⟩
         cbv
         refine qR ?_ (cc) (by cbv;(repeat' (first|exact qB|refine qD ?_ ?_|exact qE (by rfl)|exact qG (by rfl)|exact Fit.refl _|exact qA|refine qC ?_ rfl ?_))) (by cbv;(repeat' (first|exact qI|refine qJ ?_ ?_|exact qL _|refine qK ?_|exact qA|exact qE (by rfl)|exact qG (by rfl)|exact Fit.refl _|exact qH _|refine qC ?_ rfl ?_)))
         try cbv)
      |fail)
  all_goals first
    |(subst hR;(repeat' (first|exact qA|exact qB|refine qC ?_ rfl ?_|refine qD ?_ ?_|exact qE (by rfl)|exact qG (by rfl)|exact Fit.refl _|exact qH _|(refine qE ?_;(try simp only [qW]at *);simp only [zQ,zA,zB,zC,zD,zE,zF,zG,zH,zI,zJ,zK,zL,zM,zN,zO,zP,zR,zS]at *;omega)));done)
    |skip
theorem check21 (c:Clr):FSpec Try.prog 21 [(clrS c)] [] (fun r _=>r=(.int .i64 (.sym fun _=>faultC c))):=by
  have c65:= @of65
  have c66:= @short66
  have c67:= @within67
  have cf:=fun h:c.ts.length≤1000=>all64_few c h
  have cv:=fun h:c.vs.length≤1000=>all68_vat c h
  have ct:=fun h:(∀i,i<c.ts.length→(c.ts.getD i t0).ps.length≤4)∧c.ts.length≤1000=>all64_th c h.1 h.2
  refine FSpec.is fun R hR=>qX (sc:=sc21) tyok mix Try.func21 rfl Try.call21 (by kernel_rfl) (by kernel_rfl) ?_
  generalize Try.prog=P at c65 c66 c67 cf cv ct⊢
  cbv
  repeat' (first
      |with_reducible refine And.intro ?_ ?_
      |(with_reducible intro hcd;(try simp only [zA,zB,zC,zD,zE,zF,zG,zH,zI,zJ,zK,zL,zM,zN,zO,zP]at hcd);try cbv)
      | (refine qQ ?_ (c65 _ _ _ _) (by(repeat' (first|exact qB|refine qD ?_ ?_|exact qE (by rfl)|exact qG (by rfl)|exact Fit.refl _|exact qA|refine qC ?_ rfl ?_)))
         try cbv)
      | (refine qQ ?_ (c66 _ _ (show Hold _ from ?_)) (by(repeat' (first|exact qB|refine qD ?_ ?_|exact qE (by rfl)|exact qG (by rfl)|exact Fit.refl _|exact qA|refine qC ?_ rfl ?_)))
         try cbv)
      | (refine qQ ?_ (c67 _ _ _) (by(repeat' (first|exact qB|refine qD ?_ ?_|exact qE (by rfl)|exact qG (by rfl)|exact Fit.refl _|exact qA|refine qC ?_ rfl ?_)))
         try cbv)
      | (refine qQ ?_ (cf (show Hold _ from ?_)) ?hfit
         case hfit=>((repeat' (first|exact qB|refine qD ?_ ?_|exact qE (by rfl)|exact qG (by rfl)|exact Fit.refl _|exact qA|refine qC ?_ rfl ?_));done)
         try cbv)
      | (refine qQ ?_ (cv (show Hold _ from ?_)) ?hfit
         case hfit=>((repeat' (first|exact qB|refine qD ?_ ?_|exact qE (by rfl)|exact qG (by rfl)|exact Fit.refl _|exact qA|refine qC ?_ rfl ?_));done)
         try cbv)
      | (refine qQ ?_ (ct (show Hold _ from ?_)) ?hfit
         case hfit=>((repeat' (first|exact qB|refine qD ?_ ?_|exact qE (by rfl)|exact qG (by rfl)|exact Fit.refl _|exact qA|refine qC ?_ rfl ?_));done)
         try cbv)
      |fail)
  all_goals first
    |((try simp only [qW]at *);(try simp only [zQ,zA,zB,zC,zD,zE,zF,zG,zH,zI,zJ,zK,zL,zM,zN,zO,zP,zR,zS,allB_t,allB_f,inB_t,inB_f,ofB_t,ofB_f,shB_t,shB_f,spB_t,spB_f]at *);first|(refine qO ?_;omega)|(simp only [Hold];omega))
    |(subst hR;(refine qE ?_;(try simp only [qW]at *);(try simp only [zQ,zA,zB,zC,zD,zE,zF,zG,zH,zI,zJ,zK,zL,zM,zN,zO,zP,zR,zS]at *);(try simp only [allB_t,allB_f,inB_t,inB_f,ofB_t,ofB_f,shB_t,shB_f,spB_t,spB_f]at *);exact(faultC_3 fun h=>by have h1:=h.v;have h2:=h.t;omega).symm);done)
    |(subst hR;(refine qE ?_;(try simp only [qW]at *);(try simp only [zQ,zA,zB,zC,zD,zE,zF,zG,zH,zI,zJ,zK,zL,zM,zN,zO,zP,zR,zS]at *);(try simp only [allB_t,allB_f,inB_t,inB_f,ofB_t,ofB_f,shB_t,shB_f,spB_t,spB_f]at *);exact(faultC_3 fun h=>absurd (fun i hi=>decide_eq_true (h.p i hi)) (by assumption)).symm);done)
    |(subst hR;(refine qE ?_;(try simp only [qW]at *);(try simp only [zQ,zA,zB,zC,zD,zE,zF,zG,zH,zI,zJ,zK,zL,zM,zN,zO,zP,zR,zS]at *);(try simp only [allB_t,allB_f,inB_t,inB_f,ofB_t,ofB_f,shB_t,shB_f,spB_t,spB_f]at *);exact(faultC_1 ⟨by omega,by omega,fun i hi=>of_decide_eq_true ((by assumption:∀i,i<c.ts.length→fewB (c.ts.getD i t0)=true) i hi)⟩ fun h=>by have h1:=h.r0;have h2:=h.r1;have h3:=h.r2;have h4:=h.r3;have h5:=h.h1;have h6:=h.h8;have h7:=h.vn;omega).symm);done)
    |(subst hR;(refine qE ?_;(try simp only [qW]at *);(try simp only [zQ,zA,zB,zC,zD,zE,zF,zG,zH,zI,zJ,zK,zL,zM,zN,zO,zP,zR,zS]at *);(try simp only [allB_t,allB_f,inB_t,inB_f,ofB_t,ofB_f,shB_t,shB_f,spB_t,spB_f]at *);exact(faultC_1 ⟨by omega,by omega,fun i hi=>of_decide_eq_true ((by assumption:∀i,i<c.ts.length→fewB (c.ts.getD i t0)=true) i hi)⟩ fun h=>absurd (fun i hi=>decide_eq_true (h.v i hi)) (by assumption)).symm);done)
    |(subst hR;(refine qE ?_;(try simp only [qW]at *);(try simp only [zQ,zA,zB,zC,zD,zE,zF,zG,zH,zI,zJ,zK,zL,zM,zN,zO,zP,zR,zS]at *);(try simp only [allB_t,allB_f,inB_t,inB_f,ofB_t,ofB_f,shB_t,shB_f,spB_t,spB_f]at *);exact(faultC_1 ⟨by omega,by omega,fun i hi=>of_decide_eq_true ((by assumption:∀i,i<c.ts.length→fewB (c.ts.getD i t0)=true) i hi)⟩ fun h=>absurd (fun i hi=>decide_eq_true (h.t i hi)) (by assumption)).symm);done)
    |(subst hR;(refine qE ?_;(try simp only [qW]at *);(try simp only [zQ,zA,zB,zC,zD,zE,zF,zG,zH,zI,zJ,zK,zL,zM,zN,zO,zP,zR,zS]at *);(try simp only [allB_t,allB_f,inB_t,inB_f,ofB_t,ofB_f,shB_t,shB_f,spB_t,spB_f]at *);exact(faultC_iff.2 ⟨⟨by omega,by omega,fun i hi=>of_decide_eq_true ((by assumption:∀i,i<c.ts.length→fewB (c.ts.getD i t0)=true) i hi)⟩,by omega,by omega,by omega,by omega,by omega,by omega,by omega,fun i hi=>of_decide_eq_true ((by assumption:∀i,i<c.vs.length→vatB (c.vs.getD i v0)=true) i hi),fun i hi=>of_decide_eq_true ((by assumption:∀i,i<c.ts.length→thB (c.ts.getD i t0)=true) i hi)⟩).symm);done)
    |((try simp only [qW]at *);(try simp only [zQ,zA,zB,zC,zD,zE,zF,zG,zH,zI,zJ,zK,zL,zM,zN,zO,zP,zR,zS]at *);simp only [Hold,allB_t,allB_f,inB_t,inB_f,ofB_t,ofB_f,shB_t,shB_f,spB_t,spB_f]at *;exact⟨(fun i hi=>of_decide_eq_true ((by assumption:∀i,i<c.ts.length→fewB (c.ts.getD i t0)=true) i hi)),by omega⟩)
    |skip
end Go.Proofs.Yteelocfbbhchcaa

namespace Go.Proofs.Yteelocfbbhchcaa
open Go Go.Eng Go.Proofs
set_option maxRecDepth 10000
theorem mAt_self {ps:List PartT} {s:Int} {i:Nat}(h:(ps.getD i p0).f≤s):mAt ps s i=i:=by
  cases i with
  |zero=>rfl
  |succ i=>unfold mAt;rw [if_pos h]
theorem mAt_down {ps:List PartT} {s:Int} {i:Nat}(h:s<(ps.getD i p0).f)(hi:0<i):mAt ps s i=mAt ps s (i-1):=by
  cases i with
  |zero=>omega
  |succ i=>rw [mAt,if_neg (by omega)];rfl
theorem on93 (t:ThmT)(s:Int)(h:t.ps.length≠0):FSpec Try.prog 93 [(.agg [(.int .i64 (.sym fun _=>t.top)),(.sl 3 (.sym fun _=>zi (t.ps).length) (fun jx=>[(.int .i64 (.sym fun _=>((t.ps).getD jx.den.toNat p0).f)),(.int .i64 (.sym fun _=>((t.ps).getD jx.den.toNat p0).el)),(.int .i64 (.sym fun _=>((t.ps).getD jx.den.toNat p0).eh))]))]),(.int .i64 (.sym fun _=>s))] [] (fun r _=>r=(.bool (.sym fun _=>onB t s))):=by
  have c67:= @within67
  refine FSpec.is fun R hR=>qX (sc:=sc93) tyok mix Try.func93 rfl Try.call93 (by kernel_rfl) (by kernel_rfl) ?_
  generalize Try.prog=P at c67⊢
  cbv
  repeat' (first
      |with_reducible refine hold ?_ ?_
      | (refine qQ ?_ (c67 _ _ _) (by(repeat' (first|exact qB|refine qD ?_ ?_|exact qE (by rfl)|exact qG (by rfl)|exact Fit.refl _|exact qA|refine qC ?_ rfl ?_)))
         try cbv)
      |fail)
  all_goals first
    |((try simp only [qW]at *);(try simp only [zQ,zA,zB,zC,zD,zE,zF,zG,zH,zI,zJ,zK,zL,zM,zN,zO,zP,zR,zS,allB_t,allB_f,inB_t,inB_f,ofB_t,ofB_f,shB_t,shB_f,spB_t,spB_f]at *);first|(refine qO ?_;omega)|(simp only [Hold];omega))
    |(subst hR;(repeat' (first|exact qA|exact qB|refine qC ?_ rfl ?_|refine qD ?_ ?_|exact qE (by rfl)|exact qG (by rfl)|exact Fit.refl _|exact qH _|(refine qE ?_;(try simp only [qW]at *);simp only [zQ,zA,zB,zC,zD,zE,zF,zG,zH,zI,zJ,zK,zL,zM,zN,zO,zP,zR,zS]at *;omega)));done)
    |skip
theorem mean57 (t:ThmT)(s:Int)(ht:thOk t)(hl:t.ps.length≤1000)(ho:onB t s=true):FSpec Try.prog 57 [(.agg [(.int .i64 (.sym fun _=>t.top)),(.sl 3 (.sym fun _=>zi (t.ps).length) (fun jx=>[(.int .i64 (.sym fun _=>((t.ps).getD jx.den.toNat p0).f)),(.int .i64 (.sym fun _=>((t.ps).getD jx.den.toNat p0).el)),(.int .i64 (.sym fun _=>((t.ps).getD jx.den.toNat p0).eh))]))]),(.int .i64 (.sym fun _=>s))] [] (fun r _=>r=(.agg [(.int .i64 (.sym fun _=>meanLo t s)),(.int .i64 (.sym fun _=>meanHi t s))])):=by
  refine FSpec.is fun R hR=>qX (sc:=sc57) tyok mix Try.func57 rfl Try.call57 (by kernel_rfl) (by kernel_rfl) ?_
  generalize Try.prog=P
  cbv
  have hs:=on_bd ht ho
  have hlen:=ht.2.2.1
  have hp:=meanP_ok ht s
  repeat' (first
      |with_reducible refine hold ?_ ?_
      |fail)
  all_goals first
    |((try simp only [qW]at *);(try simp only [zQ,zA,zB,zC,zD,zE,zF,zG,zH,zI,zJ,zK,zL,zM,zN,zO,zP,zR,zS,allB_t,allB_f,inB_t,inB_f,ofB_t,ofB_f,shB_t,shB_f,spB_t,spB_f]at *);first|(refine qO ?_;omega)|(simp only [Hold];omega))
    |skip
  refine⟨none,[],{i:Nat // i<t.ps.length∧mAt t.ps s (t.ps.length-1)=mAt t.ps s i},fun x=>⟨[(1,(.int .i64 (.sym fun _=>s))),(2,.own 0 0),(4,.own 1 0),(5,(.int .i64 (.sym fun _=>zi x.1)))],[(0,.cells [(.int .i64 (.sym fun _=>t.top)),(.sl 3 (.sym fun _=>zi (t.ps).length) (fun jx=>[(.int .i64 (.sym fun _=>((t.ps).getD jx.den.toNat p0).f)),(.int .i64 (.sym fun _=>((t.ps).getD jx.den.toNat p0).el)),(.int .i64 (.sym fun _=>((t.ps).getD jx.den.toNat p0).eh))]))] 125),(1,.cells [.int .i64 (.lit 0),.int .i64 (.lit 0)] 33)],20⟩,fun x=>x.1,?_,?_⟩
  · obtain⟨n0,en0⟩:∃n0,n0=t.ps.length-1:=⟨_,rfl⟩
    refine⟨⟨n0,by omega,by rw [en0]⟩,?_⟩
    cbv
    repeat' (first
      |with_reducible refine hold ?_ ?_
      |with_reducible refine And.intro ?_ ?_)
    all_goals first
      |trivial
      |exact qN (qE (by rfl))
      |exact qN (Fit.refl _)
      |exact qM (qL _)
      |(refine qN (qE ?_);(try simp only [qW]at *);simp only [zQ,zA,zB,zC,zD,zE,zF,zG,zH,zI,zJ,zK,zL,zM,zN,zO,zP,zR,zS]at *;omega)
      |skip
  · rintro⟨i,hi,hr⟩
    cbv
    repeat' (first
        |with_reducible refine hold ?_ ?_
        |with_reducible refine And.intro ?_ ?_
        |(with_reducible intro hcd;(try simp only [zA,zB,zC,zD,zE,zF,zG,zH,zI,zJ,zK,zL,zM,zN,zO,zP]at hcd);try cbv)
        |fail)
    all_goals first
      |((try simp only [qW]at *);(try simp only [zQ,zA,zB,zC,zD,zE,zF,zG,zH,zI,zJ,zK,zL,zM,zN,zO,zP,zR,zS,allB_t,allB_f,inB_t,inB_f,ofB_t,ofB_f,shB_t,shB_f,spB_t,spB_f]at *);first|(refine qO ?_;omega)|(simp only [Hold];omega))
      |(subst hR;((have hi0:(t.ps.getD i p0).f≤s:=by((try simp only [qW]at *);(try simp only [zQ,zA,zB,zC,zD,zE,zF,zG,zH,zI,zJ,zK,zL,zM,zN,zO,zP,zR,zS]at *);omega));(have he:mAt t.ps s (t.ps.length-1)=i:=hr.trans (mAt_self hi0));(refine qC (qE ?_) rfl (qC (qE ?_) rfl qA)<;>((try simp only [qW]at *);(try simp only [zQ,zA,zB,zC,zD,zE,zF,zG,zH,zI,zJ,zK,zL,zM,zN,zO,zP,zR,zS]at *);simp only [meanLo,meanHi,meanP,he])));done)
      |((have hi0:(t.ps.getD i p0).f≤s:=by((try simp only [qW]at *);(try simp only [zQ,zA,zB,zC,zD,zE,zF,zG,zH,zI,zJ,zK,zL,zM,zN,zO,zP,zR,zS]at *);omega));(have he:mAt t.ps s (t.ps.length-1)=i:=hr.trans (mAt_self hi0));(have hp2:=hp);simp only [meanP,he]at hp2;(try simp only [qW]at *);(try simp only [zQ,zA,zB,zC,zD,zE,zF,zG,zH,zI,zJ,zK,zL,zM,zN,zO,zP,zR,zS]at *);refine qO ?_;omega)
      |((try simp only [zQ,zA,zB,zC,zD,zE,zF,zG,zH,zI,zJ,zK,zL,zM,zN,zO,zP,zR,zS]at *);(have hi0:0<i:=by(rcases Nat.eq_zero_or_pos i with q|q;(subst q;(try simp only [zi_den]at *);omega);exact q));obtain⟨m0,em0⟩:∃m0,m0=i-1:=⟨_,rfl⟩;refine⟨⟨m0,by omega,hr.trans (by rw [em0];exact mAt_down (by omega) hi0)⟩,by simp only [];omega,?_⟩;cbv;(repeat' (first|with_reducible refine hold ?_ ?_|with_reducible refine And.intro ?_ ?_));(all_goals first|trivial|exact qN (qE (by rfl))|exact qN (qG (by rfl))|exact qN (Fit.refl _)|exact qM (qL _)|(refine qN (qE ?_);(try simp only [qW]at *);simp only [zQ,zA,zB,zC,zD,zE,zF,zG,zH,zI,zJ,zK,zL,zM,zN,zO,zP,zR,zS]at *;omega)|(refine qM (qK ?_);(repeat' (first|exact qA|exact qB|refine qC ?_ rfl ?_|refine qD ?_ ?_|exact qE (by rfl)|exact qG (by rfl)|exact Fit.refl _|exact qH _|(refine qE ?_;(try simp only [qW]at *);simp only [zQ,zA,zB,zC,zD,zE,zF,zG,zH,zI,zJ,zK,zL,zM,zN,zO,zP,zR,zS]at *;omega)));done)|skip))
      |skip
end Go.Proofs.Yteelocfbbhchcaa

namespace Go.Proofs.Yteelocfbbhchcaa
open Go Go.Eng Go.Proofs
set_option maxRecDepth 10000
structure FewT (c:Clr):Prop where
  v:c.vs.length≤1000
  t:c.ts.length≤1000
  p:∀i,i<c.ts.length→(c.ts.getD i t0).ps.length≠0
theorem COk.fewT {c:Clr}(h:COk c):FewT c:=⟨by have:=h.few.v;omega,by have:=h.few.t;omega,fun i hi=>(h.ok.t i hi).2.2.1⟩
theorem FewT.on {c:Clr}(h:FewT c) {x:LookT}(h0:0≤x.t)(h1:x.t<c.ts.length):(c.ts.getD x.t.toNat t0).ps.length≠0:=h.p _ (by omega)
theorem look56 (c:Clr)(x:LookT)(hf:FewT c):FSpec Try.prog 56 [(clrS c),(.agg [(.int .i64 (.sym fun _=>x.v)),(.int .i64 (.sym fun _=>x.h)),(.int .i64 (.sym fun _=>x.t)),(.int .i64 (.sym fun _=>x.s))])] [] (fun r _=>r=(.bool (.sym fun _=>lookB c x))):=by
  have c67:= @within67
  have c93:=fun h:0≤x.t∧x.t<c.ts.length=>on93 (thA c x) x.s (hf.on h.1 h.2)
  refine FSpec.is fun R hR=>qX (sc:=sc56) tyok mix Try.func56 rfl Try.call56 (by kernel_rfl) (by kernel_rfl) ?_
  generalize Try.prog=P at c67 c93⊢
  cbv
  have h1:=hf.v
  have h2:=hf.t
  repeat' (first
      |with_reducible refine hold ?_ ?_
      |with_reducible refine And.intro ?_ ?_
      |(with_reducible intro hcd;(try simp only [zA,zB,zC,zD,zE,zF,zG,zH,zI,zJ,zK,zL,zM,zN,zO,zP]at hcd);try cbv)
      | (refine qQ ?_ (c67 _ _ _) (by(repeat' (first|exact qB|refine qD ?_ ?_|exact qE (by rfl)|exact qG (by rfl)|exact Fit.refl _|exact qA|refine qC ?_ rfl ?_)))
         try cbv)
      | (refine qQ ?_ (c93 (show Hold _ from ?_)) ?hfit
         case hfit=>((repeat' (first|exact qB|refine qD ?_ ?_|exact qE (by rfl)|exact qG (by rfl)|exact Fit.refl _|exact qA|refine qC ?_ rfl ?_));done)
         try cbv)
      |fail)
  all_goals first
    |((try simp only [qW]at *);(try simp only [zQ,zA,zB,zC,zD,zE,zF,zG,zH,zI,zJ,zK,zL,zM,zN,zO,zP,zR,zS,allB_t,allB_f,inB_t,inB_f,ofB_t,ofB_f,shB_t,shB_f,spB_t,spB_f]at *);first|(refine qO ?_;omega)|(simp only [Hold];omega))
    |(subst hR;(refine qG ?_;(try simp only [qW]at *);(try simp only [zQ,zA,zB,zC,zD,zE,zF,zG,zH,zI,zJ,zK,zL,zM,zN,zO,zP,zR,zS]at *);simp only [lookB];simp_all;done);done)
    |skip
theorem lam117_look (c:Clr)(l:List LookT)(hf:FewT c)(hfew:l.length≤1000)(i:Nat)(hi:i<l.length∧∀j,j<i→(lookB c (l.getD (j) k0))=true):FSpec Try.prog 117 [(.agg [(.int .i64 (.sym fun _=>(l.getD (i) k0).v)),(.int .i64 (.sym fun _=>(l.getD (i) k0).h)),(.int .i64 (.sym fun _=>(l.getD (i) k0).t)),(.int .i64 (.sym fun _=>(l.getD (i) k0).s))]),.own 0 0] [.cells [.clo 56 [(clrS c)] []] 129] (fun r bs=>r=(.bool (.sym fun _=> !(lookB c (l.getD (i) k0))))∧bs=[.cells [.clo 56 [(clrS c)] []] 129]):=by
  have cf:=look56 c (l.getD i k0) hf
  refine FSpec.isB rfl fun R B hR hB=>qX (sc:=sc117) tyok mix Try.func117 rfl Try.call117 (by kernel_rfl) (by kernel_rfl) ?_
  generalize Try.prog=P at cf⊢
  cbv
  repeat' (first
      |with_reducible refine And.intro ?_ ?_
      | (refine qQ ?_ (cf) ?hfit
         case hfit=>((repeat' (first|exact qB|refine qD ?_ ?_|exact qE (by rfl)|exact qG (by rfl)|exact Fit.refl _|exact qA|refine qC ?_ rfl ?_));done)
         try cbv)
      |fail)
  all_goals first
    |(subst hR;(repeat' (first|exact qA|exact qB|refine qC ?_ rfl ?_|refine qD ?_ ?_|exact qE (by rfl)|exact qG (by rfl)|exact Fit.refl _|exact qH _|(refine qE ?_;(try simp only [qW]at *);simp only [zQ,zA,zB,zC,zD,zE,zF,zG,zH,zI,zJ,zK,zL,zM,zN,zO,zP,zR,zS]at *;omega)));done)
    |(subst hB;(repeat' (first|exact qI|refine qJ ?_ ?_|exact qL _|refine qK ?_|exact qA|exact qE (by rfl)|exact qG (by rfl)|exact Fit.refl _|exact qH _|refine qC ?_ rfl ?_));done)
    |skip
theorem idx121_look (c:Clr)(l:List LookT)(hf:FewT c)(hfew:l.length≤1000):FSpec Try.prog 121 [(lksS l),.clo 117 [] [.own 0 0]] [.cells [.clo 56 [(clrS c)] []] 129] (fun r bs=>r=(.int .i64 (.sym fun _=>fidx (fun i=>lookB c (l.getD (i) k0)) (l.length) 0))∧bs=[.cells [.clo 56 [(clrS c)] []] 129]):=by
  have cl:=lam117_look c l hf hfew
  refine FSpec.isB rfl fun R B hR hB=>qX (sc:=sc121) tyok mix Try.func121 rfl Try.call121 (by kernel_rfl) (by kernel_rfl) ?_
  generalize Try.prog=P at cl⊢
  cbv
  repeat' (first
      |fail)
  all_goals first
    |skip
  refine⟨none,[],{i:Nat // i≤l.length∧fidx (fun i=>lookB c (l.getD (i) k0)) (l.length) 0=fidx (fun i=>lookB c (l.getD (i) k0)) (l.length-i) i∧∀j,j<i→(lookB c (l.getD (j) k0))=true},fun x=>⟨[(0,(lksS l)),(1,.clo 117 [] [.own 0 0]),(7,(.int .i64 (.sym fun _=>zi (l.length)))),(8,(.int .i64 (.sym fun _=>zi x.1)))],[(0,.cells [.clo 56 [(clrS c)] []] 129)],20⟩,fun x=>l.length-x.1,?_,?_⟩
  · refine⟨⟨0,by omega,rfl,fun j hj=>by omega⟩,?_⟩
    cbv
    repeat' (first
      |with_reducible refine hold ?_ ?_
      |with_reducible refine And.intro ?_ ?_)
    all_goals first
      |trivial
      |exact qN (qE (by rfl))
      |exact qN (Fit.refl _)
      |exact qM (qL _)
      |skip
  · rintro ⟨i,hi,hr,hq⟩
    cbv
    repeat' (first
        |with_reducible refine hold ?_ ?_
        |with_reducible refine And.intro ?_ ?_
        |(with_reducible intro hcd;(try simp only [zA,zB,zC,zD,zE,zF,zG,zH,zI,zJ,zK,zL,zM,zN,zO,zP]at hcd);try cbv)
        | (refine⟨some [0],?_⟩
           cbv
           refine qR ?_ (cl i ⟨by(try simp only [qW]at *);simp only [zi_den]at *;omega,hq⟩) (by cbv;(repeat' (first|exact qB|refine qD ?_ ?_|exact qE (by rfl)|exact qG (by rfl)|exact Fit.refl _|exact qA|refine qC ?_ rfl ?_))) (by cbv;(repeat' (first|exact qI|refine qJ ?_ ?_|exact qL _|refine qK ?_|exact qA|exact qE (by rfl)|exact qG (by rfl)|exact Fit.refl _|exact qH _|refine qC ?_ rfl ?_)))
           try cbv)
        |fail)
    all_goals first
      |((try simp only [qW]at *);(try simp only [zQ,zA,zB,zC,zD,zE,zF,zG,zH,zI,zJ,zK,zL,zM,zN,zO,zP,zR,zS]at *);first|(refine qO ?_;omega)|(simp only [Hold];omega))
      |(subst hR;(refine qE ?_;simp only [zQ,zA,zB,zC,zD,zE,zF,zG,zH,zI,zJ,zK,zL,zM,zN,zO,zP,zR,zS]at *;rw [hr,fidx_stop (by omega) hcd]);done)
      |(subst hR;(refine qE ?_;simp only [zQ,zA,zB,zC,zD,zE,zF,zG,zH,zI,zJ,zK,zL,zM,zN,zO,zP,zR,zS]at *;rw [hr,show l.length-i=0 by omega];rfl);done)
      |(subst hB;(repeat' (first|exact qI|refine qJ ?_ ?_|exact qL _|refine qK ?_|exact qA|exact qE (by rfl)|exact qG (by rfl)|exact Fit.refl _|exact qH _|refine qC ?_ rfl ?_));done)
      |((try simp only [zQ,zA,zB,zC,zD,zE,zF,zG,zH,zI,zJ,zK,zL,zM,zN,zO,zP,zR,zS]at *);refine⟨⟨i+1,by omega,by rw [hr,fidx_go (by omega) hcd];(try congr 1)<;>omega,fun j hj=>(Nat.lt_or_ge j i).elim (hq j) (fun q=>by rw [show j=i by omega];exact hcd)⟩,by simp only [];omega,?_⟩;cbv;(repeat' (first|with_reducible refine hold ?_ ?_|with_reducible refine And.intro ?_ ?_));(all_goals first|trivial|exact qN (qE (by rfl))|exact qN (qG (by rfl))|exact qN (Fit.refl _)|exact qM (qL _)|(refine qN (qE ?_);(try simp only [qW]at *);simp only [zQ,zA,zB,zC,zD,zE,zF,zG,zH,zI,zJ,zK,zL,zM,zN,zO,zP,zR,zS]at *;omega)|(refine qM (qK ?_);(repeat' (first|exact qA|exact qB|refine qC ?_ rfl ?_|refine qD ?_ ?_|exact qE (by rfl)|exact qG (by rfl)|exact Fit.refl _|exact qH _|(refine qE ?_;(try simp only [qW]at *);simp only [zQ,zA,zB,zC,zD,zE,zF,zG,zH,zI,zJ,zK,zL,zM,zN,zO,zP,zR,zS]at *;omega)));done)|skip))
      |skip
theorem cont116_look (c:Clr)(l:List LookT)(hf:FewT c)(hfew:l.length≤1000):FSpec Try.prog 116 [(lksS l),.clo 117 [] [.own 0 0]] [.cells [.clo 56 [(clrS c)] []] 129] (fun r bs=>r=(.bool (.sym fun _=>decide (0≤fidx (fun i=>lookB c (l.getD (i) k0)) (l.length) 0)))∧bs=[.cells [.clo 56 [(clrS c)] []] 129]):=by
  have ci:=idx121_look c l hf hfew
  refine FSpec.isB rfl fun R B hR hB=>qX (sc:=sc116) tyok mix Try.func116 rfl Try.call116 (by kernel_rfl) (by kernel_rfl) ?_
  generalize Try.prog=P at ci⊢
  cbv
  repeat' (first
      |with_reducible refine And.intro ?_ ?_
      | (refine⟨some [0],?_⟩
         cbv
         refine qR ?_ (ci) (by cbv;(repeat' (first|exact qB|refine qD ?_ ?_|exact qE (by rfl)|exact qG (by rfl)|exact Fit.refl _|exact qA|refine qC ?_ rfl ?_))) (by cbv;(repeat' (first|exact qI|refine qJ ?_ ?_|exact qL _|refine qK ?_|exact qA|exact qE (by rfl)|exact qG (by rfl)|exact Fit.refl _|exact qH _|refine qC ?_ rfl ?_)))
         try cbv)
      |fail)
  all_goals first
    |(subst hR;(repeat' (first|exact qA|exact qB|refine qC ?_ rfl ?_|refine qD ?_ ?_|exact qE (by rfl)|exact qG (by rfl)|exact Fit.refl _|exact qH _|(refine qE ?_;(try simp only [qW]at *);simp only [zQ,zA,zB,zC,zD,zE,zF,zG,zH,zI,zJ,zK,zL,zM,zN,zO,zP,zR,zS]at *;omega)));done)
    |(subst hB;(repeat' (first|exact qI|refine qJ ?_ ?_|exact qL _|refine qK ?_|exact qA|exact qE (by rfl)|exact qG (by rfl)|exact Fit.refl _|exact qH _|refine qC ?_ rfl ?_));done)
    |skip
theorem all107_look (c:Clr)(l:List LookT)(hf:FewT c)(hfew:l.length≤1000):FSpec Try.prog 107 [(lksS l),.clo 56 [(clrS c)] []] [] (fun r _=>r=(.bool (.sym fun _=>allB (fun i=>lookB c (l.getD (i) k0)) (l.length)))):=by
  have cc:=cont116_look c l hf hfew
  refine FSpec.is fun R hR=>qX (sc:=sc107) tyok mix Try.func107 rfl Try.call107 (by kernel_rfl) (by kernel_rfl) ?_
  generalize Try.prog=P at cc⊢
  cbv
  repeat' (first
      | (refine⟨some [0],?_⟩
         cbv
         refine qR ?_ (cc) (by cbv;(repeat' (first|exact qB|refine qD ?_ ?_|exact qE (by rfl)|exact qG (by rfl)|exact Fit.refl _|exact qA|refine qC ?_ rfl ?_))) (by cbv;(repeat' (first|exact qI|refine qJ ?_ ?_|exact qL _|refine qK ?_|exact qA|exact qE (by rfl)|exact qG (by rfl)|exact Fit.refl _|exact qH _|refine qC ?_ rfl ?_)))
         try cbv)
      |fail)
  all_goals first
    |(subst hR;(repeat' (first|exact qA|exact qB|refine qC ?_ rfl ?_|refine qD ?_ ?_|exact qE (by rfl)|exact qG (by rfl)|exact Fit.refl _|exact qH _|(refine qE ?_;(try simp only [qW]at *);simp only [zQ,zA,zB,zC,zD,zE,zF,zG,zH,zI,zJ,zK,zL,zM,zN,zO,zP,zR,zS]at *;omega)));done)
    |skip
theorem lookedF_bad {c:Clr} {l:List LookT}(h:¬faultC c=0):lookedF c l=faultC c:=by unfold lookedF;rw [if_neg h]
theorem lookedF_many {c:Clr} {l:List LookT}(h:faultC c=0)(h':6<l.length):lookedF c l=3:=by unfold lookedF lookF;rw [if_pos h,if_pos h']
theorem lookedF_no {c:Clr} {l:List LookT}(h:faultC c=0)(h':l.length≤6)(ha:allB (fun i=>lookB c (l.getD i k0)) l.length=false):lookedF c l=2:=by unfold lookedF lookF;rw [if_pos h,if_neg (by omega),if_neg (by rw [ha];simp)]
theorem lookedF_yes {c:Clr} {l:List LookT}(h:faultC c=0)(h':l.length≤6)(ha:allB (fun i=>lookB c (l.getD i k0)) l.length=true):lookedF c l=0:=by unfold lookedF lookF;rw [if_pos h,if_neg (by omega),if_pos ha]
theorem looked87 (c:Clr)(l:List LookT):FSpec Try.prog 87 [(clrS c),(lksS l)] [] (fun r _=>r=(.int .i64 (.sym fun _=>lookedF c l))):=by
  have c21:=check21 c
  have ca:=fun h:faultC c=0∧l.length≤1000=>all107_look c l (faultC_iff.1 h.1).fewT h.2
  refine FSpec.is fun R hR=>qX (sc:=sc87) tyok mix Try.func87 rfl Try.call87 (by kernel_rfl) (by kernel_rfl) ?_
  generalize Try.prog=P at c21 ca⊢
  cbv
  repeat' (first
      |with_reducible refine And.intro ?_ ?_
      |(with_reducible intro hcd;(try simp only [zA,zB,zC,zD,zE,zF,zG,zH,zI,zJ,zK,zL,zM,zN,zO,zP]at hcd);try cbv)
      | (refine qQ ?_ (c21) ?hfit
         case hfit=>((repeat' (first|exact qB|refine qD ?_ ?_|exact qE (by rfl)|exact qG (by rfl)|exact Fit.refl _|exact qA|refine qC ?_ rfl ?_));done)
         try cbv)
      | (refine qQ ?_ (ca (show Hold _ from ?_)) ?hfit
         case hfit=>((repeat' (first|exact qB|refine qD ?_ ?_|exact qE (by rfl)|exact qG (by rfl)|exact Fit.refl _|exact qA|refine qC ?_ rfl ?_));done)
         try cbv)
      |fail)
  all_goals first
    |((try simp only [qW]at *);(try simp only [zQ,zA,zB,zC,zD,zE,zF,zG,zH,zI,zJ,zK,zL,zM,zN,zO,zP,zR,zS,allB_t,allB_f,inB_t,inB_f,ofB_t,ofB_f,shB_t,shB_f,spB_t,spB_f]at *);first|(refine qO ?_;omega)|(simp only [Hold];omega))
    |(subst hR;(refine qE ?_;(try simp only [qW]at *);(try simp only [zQ,zA,zB,zC,zD,zE,zF,zG,zH,zI,zJ,zK,zL,zM,zN,zO,zP,zR,zS]at *);exact(lookedF_bad (by assumption)).symm);done)
    |(subst hR;(refine qE ?_;(try simp only [qW]at *);(try simp only [zQ,zA,zB,zC,zD,zE,zF,zG,zH,zI,zJ,zK,zL,zM,zN,zO,zP,zR,zS]at *);exact(lookedF_many (by omega) (by omega)).symm);done)
    |(subst hR;(refine qE ?_;(try simp only [qW]at *);(try simp only [zQ,zA,zB,zC,zD,zE,zF,zG,zH,zI,zJ,zK,zL,zM,zN,zO,zP,zR,zS]at *);exact(lookedF_no (by omega) (by omega) (by assumption)).symm);done)
    |(subst hR;(refine qE ?_;(try simp only [qW]at *);(try simp only [zQ,zA,zB,zC,zD,zE,zF,zG,zH,zI,zJ,zK,zL,zM,zN,zO,zP,zR,zS]at *);exact(lookedF_yes (by omega) (by omega) (by assumption)).symm);done)
    |skip
end Go.Proofs.Yteelocfbbhchcaa

namespace Go.Proofs.Yteelocfbbhchcaa
theorem tdiv_bd (a:Int):(0≤a→0≤a.tdiv 100∧100*a.tdiv 100≤a∧a<100*a.tdiv 100+100)∧(a≤0→a.tdiv 100≤0∧a≤100*a.tdiv 100∧100*a.tdiv 100-100<a):=by
  constructor
  · intro h
    rw [Int.tdiv_eq_ediv_of_nonneg h]
    omega
  · intro h
    have e:a = -(-a):=by omega
    rw [e,Int.neg_tdiv,Int.tdiv_eq_ediv_of_nonneg (by omega)]
    omega
def step (r rm w:Int):Int:=rm+((w-rm)*(100-r)).tdiv 100
def runW (rm st rt:Int):Nat→Int
  |0=>st
  |n+1=>step rt rm (runW rm st rt n)
def atW (hr rm st rt:Int)(h:Nat):Int:=if(h:Int)≤hr then runW rm st rt h else 0
theorem step_up {d k:Int}(hd:0≤d)(hk:0≤k)(hk':k≤100):0≤(d*k).tdiv 100∧(d*k).tdiv 100≤d:=by
  have h1:0≤d*k:=Int.mul_nonneg hd hk
  have h2:d*k≤d*100:=Int.mul_le_mul_of_nonneg_left hk' hd
  have:=(tdiv_bd (d*k)).1 h1
  omega
theorem step_down {d k:Int}(hd:d≤0)(hk:0≤k)(hk':k≤100):d≤(d*k).tdiv 100∧(d*k).tdiv 100≤0:=by
  have:=step_up (d:= -d) (by omega) hk hk'
  rw [Int.neg_mul,Int.neg_tdiv]at this
  omega
theorem step_bd {r rm w:Int}(h0:0≤r)(h1:r≤100):min rm w≤step r rm w∧step r rm w≤max rm w:=by
  unfold step
  rcases Int.le_total 0 (w-rm)with h|h
  · have:=step_up h (k:=100-r) (by omega) (by omega);omega
  · have:=step_down h (k:=100-r) (by omega) (by omega);omega
theorem run_bd {rm st rt:Int}(h0:0≤rt)(h1:rt≤100)(n:Nat):min rm st≤runW rm st rt n∧runW rm st rt n≤max rm st:=by
  induction n with
  |zero=>simp only [runW];omega
  | succ n ih=>
    simp only [runW]
    have:=step_bd (r:=rt) (rm:=rm) (w:=runW rm st rt n) h0 h1
    omega
theorem at_le {hr rm st rt:Int} {h:Nat}(q:(h:Int)≤hr):atW hr rm st rt h=runW rm st rt h:=by unfold atW;rw [if_pos q]
end Go.Proofs.Yteelocfbbhchcaa
namespace Go.Proofs.Yteelocfbbhchcaa
open Go Go.Eng Go.Proofs
abbrev wpS (c:Clr)(l:List LookT):SV:=(.pp 0 [(.int .i64 (.sym fun _=>c.rl)),(.int .i64 (.sym fun _=>c.rh)),(.int .i64 (.sym fun _=>c.hr)),(.sl 4 (.sym fun _=>zi c.vs.length) (fun ix=>[(.int .i64 (.sym fun _=>(c.vs.getD ix.den.toNat v0).sl)),(.int .i64 (.sym fun _=>(c.vs.getD ix.den.toNat v0).sh)),(.int .i64 (.sym fun _=>(c.vs.getD ix.den.toNat v0).rl)),(.int .i64 (.sym fun _=>(c.vs.getD ix.den.toNat v0).rh))])),(.sl 2 (.sym fun _=>zi c.ts.length) (fun ix=>[(.int .i64 (.sym fun _=>(c.ts.getD ix.den.toNat t0).top)),(.sl 3 (.sym fun _=>zi ((c.ts.getD ix.den.toNat t0).ps).length) (fun jx=>[(.int .i64 (.sym fun _=>(((c.ts.getD ix.den.toNat t0).ps).getD jx.den.toNat p0).f)),(.int .i64 (.sym fun _=>(((c.ts.getD ix.den.toNat t0).ps).getD jx.den.toNat p0).el)),(.int .i64 (.sym fun _=>(((c.ts.getD ix.den.toNat t0).ps).getD jx.den.toNat p0).eh))]))])),(.sl 4 (.sym fun _=>zi (l).length) (fun ix=>[(.int .i64 (.sym fun _=>((l).getD ix.den.toNat k0).v)),(.int .i64 (.sym fun _=>((l).getD ix.den.toNat k0).h)),(.int .i64 (.sym fun _=>((l).getD ix.den.toNat k0).t)),(.int .i64 (.sym fun _=>((l).getD ix.den.toNat k0).s))])),(.sl 2 (.sym fun _=>zi (l).length) (fun ix=>[(.int .i64 (.sym fun _=>meanLo (thA c ((l).getD ix.den.toNat k0)) ((l).getD ix.den.toNat k0).s)),(.int .i64 (.sym fun _=>meanHi (thA c ((l).getD ix.den.toNat k0)) ((l).getD ix.den.toNat k0).s))])),(.memo 138 135 false 3 (fun ks=>.agg [.arr 9 (fun ix=>(.int .i64 (.sym fun _=>atW c.hr (ks.getD 0 0) (ks.getD 1 0) (ks.getD 2 0) ix.den.toNat)))]))])
end Go.Proofs.Yteelocfbbhchcaa

namespace Go.Proofs.Yteelocfbbhchcaa
def truthB (c:Clr)(rm:Int)(ss rs:List Int):Bool:=inB c.rl rm c.rh&&(decide (ss.length=c.vs.length)&&(decide (rs.length=c.vs.length)&&allB (fun i=>inB (c.vs.getD i v0).sl (ss.getD i 0) (c.vs.getD i v0).sh&&inB (c.vs.getD i v0).rl (rs.getD i 0) (c.vs.getD i v0).rh) c.vs.length))
structure TruthC (c:Clr)(rm:Int)(ss rs:List Int):Prop where
  r0:c.rl≤rm
  r1:rm≤c.rh
  s:ss.length=c.vs.length
  r:rs.length=c.vs.length
  v:∀i,i<c.vs.length→((c.vs.getD i v0).sl≤ss.getD i 0∧ss.getD i 0≤(c.vs.getD i v0).sh)∧(c.vs.getD i v0).rl≤rs.getD i 0∧rs.getD i 0≤(c.vs.getD i v0).rh
theorem truthB_iff {c:Clr} {rm:Int} {ss rs:List Int}:truthB c rm ss rs=true↔TruthC c rm ss rs:=by
  simp only [truthB,Bool.and_eq_true,allB_t,inB_t,decide_eq_true_eq]
  constructor
  · rintro⟨h1,h2,h3,h4⟩
    exact⟨h1.1,h1.2,h2,h3,h4⟩
  · rintro⟨h1,h2,h3,h4,h5⟩
    exact⟨⟨h1,h2⟩,h3,h4,h5⟩
theorem truthB_no {c:Clr} {rm:Int} {ss rs:List Int}(h:TruthC c rm ss rs→False):truthB c rm ss rs=false:=by
  cases q:truthB c rm ss rs with
  |false=>rfl
  |true=>exact(h (truthB_iff.1 q)).elim
def meanE (c:Clr)(t s:Int):Int:=if faultC c=0 then(if lookB c ⟨0,0,t,s⟩=true then 0 else 2)else faultC c
def mnLo (c:Clr)(t s:Int):Int:=if meanE c t s=0 then meanLo (thA c ⟨0,0,t,s⟩) s else 0
def mnHi (c:Clr)(t s:Int):Int:=if meanE c t s=0 then meanHi (thA c ⟨0,0,t,s⟩) s else 0
theorem meanE_bad {c:Clr} {t s:Int}(h:¬faultC c=0):meanE c t s=faultC c:=by unfold meanE;rw [if_neg h]
theorem meanE_no {c:Clr} {t s:Int}(h:faultC c=0)(h':lookB c ⟨0,0,t,s⟩=false):meanE c t s=2:=by unfold meanE;rw [if_pos h,if_neg (by rw [h'];simp)]
theorem meanE_yes {c:Clr} {t s:Int}(h:faultC c=0)(h':lookB c ⟨0,0,t,s⟩=true):meanE c t s=0:=by unfold meanE;rw [if_pos h,if_pos h']
theorem mn_no {c:Clr} {t s:Int}(h:¬meanE c t s=0):mnLo c t s=0∧mnHi c t s=0:=by unfold mnLo mnHi;rw [if_neg h,if_neg h];exact⟨rfl,rfl⟩
theorem mn_yes {c:Clr} {t s:Int}(h:meanE c t s=0):mnLo c t s=meanLo (thA c ⟨0,0,t,s⟩) s∧mnHi c t s=meanHi (thA c ⟨0,0,t,s⟩) s:=by unfold mnLo mnHi;rw [if_pos h,if_pos h];exact⟨rfl,rfl⟩
end Go.Proofs.Yteelocfbbhchcaa

namespace Go.Proofs.Yteelocfbbhchcaa
open Go Go.Eng Go.Proofs
set_option maxRecDepth 10000
theorem mean16 (c:Clr)(t s:Int):FSpec Try.prog 16 [(clrS c),(.int .i64 (.sym fun _=>t)),(.int .i64 (.sym fun _=>s))] [] (fun r _=>r=(.tup [(.agg [(.int .i64 (.sym fun _=>mnLo c t s)),(.int .i64 (.sym fun _=>mnHi c t s))]),(.int .i64 (.sym fun _=>meanE c t s))])):=by
  have c21:=check21 c
  have c56:=fun h:faultC c=0=>look56 c ⟨0,0,t,s⟩ (faultC_iff.1 h).fewT
  have c57:=fun h:faultC c=0∧lookB c ⟨0,0,t,s⟩=true=>mean57 (thA c ⟨0,0,t,s⟩) s (have q:=lookB_iff.1 h.2;(faultC_iff.1 h.1).ok.t t.toNat (by have a0:=q.t0;have a1:=q.t1;simp only []at a0 a1;omega)) (have q:=lookB_iff.1 h.2;by have a0:=q.t0;have a1:=q.t1;have:=(faultC_iff.1 h.1).few.p t.toNat (by simp only []at a0 a1;omega);simp only [thA];omega) (lookB_iff.1 h.2).on
  refine FSpec.is fun R hR=>qX (sc:=sc16) tyok mix Try.func16 rfl Try.call16 (by kernel_rfl) (by kernel_rfl) ?_
  generalize Try.prog=P at c21 c56 c57⊢
  cbv
  repeat' (first
      |with_reducible refine hold ?_ ?_
      |with_reducible refine And.intro ?_ ?_
      |(with_reducible intro hcd;(try simp only [zA,zB,zC,zD,zE,zF,zG,zH,zI,zJ,zK,zL,zM,zN,zO,zP]at hcd);try cbv)
      | (refine qQ ?_ (c21) ?hfit
         case hfit=>((repeat' (first|exact qB|refine qD ?_ ?_|exact qE (by rfl)|exact qG (by rfl)|exact Fit.refl _|exact qA|refine qC ?_ rfl ?_));done)
         try cbv)
      | (refine qQ ?_ (c56 (show Hold _ from ?_)) ?hfit
         case hfit=>((repeat' (first|exact qB|refine qD ?_ ?_|exact qE (by rfl)|exact qG (by rfl)|exact Fit.refl _|exact qA|refine qC ?_ rfl ?_));done)
         try cbv)
      | (refine qQ ?_ (c57 (show Hold _ from ?_)) ?hfit
         case hfit=>((repeat' (first|exact qB|refine qD ?_ ?_|exact qE (by rfl)|exact qG (by rfl)|exact Fit.refl _|exact qA|refine qC ?_ rfl ?_));done)
         try cbv)
      |fail)
  all_goals first
    |trivial
    |(subst hR;(refine qD (qC (qE ?_) rfl (qC (qE ?_) rfl qA)) (qD (qE ?_) qB)<;>((try simp only [qW]at *);(try simp only [zQ,zA,zB,zC,zD,zE,zF,zG,zH,zI,zJ,zK,zL,zM,zN,zO,zP,zR,zS]at *);(have h0:=meanE_bad (t:=t) (s:=s) (by assumption));first|exact h0.symm|exact(mn_no (by omega)).1.symm|exact(mn_no (by omega)).2.symm|exact(mn_yes h0).1.symm|exact(mn_yes h0).2.symm));done)
    |(subst hR;(refine qD (qC (qE ?_) rfl (qC (qE ?_) rfl qA)) (qD (qE ?_) qB)<;>((try simp only [qW]at *);(try simp only [zQ,zA,zB,zC,zD,zE,zF,zG,zH,zI,zJ,zK,zL,zM,zN,zO,zP,zR,zS]at *);(have h0:=meanE_no (by assumption) (by assumption));first|exact h0.symm|exact(mn_no (by omega)).1.symm|exact(mn_no (by omega)).2.symm|exact(mn_yes h0).1.symm|exact(mn_yes h0).2.symm));done)
    |(subst hR;(refine qD (qC (qE ?_) rfl (qC (qE ?_) rfl qA)) (qD (qE ?_) qB)<;>((try simp only [qW]at *);(try simp only [zQ,zA,zB,zC,zD,zE,zF,zG,zH,zI,zJ,zK,zL,zM,zN,zO,zP,zR,zS]at *);(have h0:=meanE_yes (by assumption) (by assumption));first|exact h0.symm|exact(mn_no (by omega)).1.symm|exact(mn_no (by omega)).2.symm|exact(mn_yes h0).1.symm|exact(mn_yes h0).2.symm));done)
    |((have q:=lookB_iff.1 (by assumption));(have a0:=q.t0);(have a1:=q.t1);simp only []at a0 a1;(try simp only [qW]at *);(try simp only [zQ,zA,zB,zC,zD,zE,zF,zG,zH,zI,zJ,zK,zL,zM,zN,zO,zP,zR,zS]at *);simp only [Hold];first|omega|exact⟨by assumption,by assumption⟩|assumption)
    |skip
theorem truth58 (c:Clr)(rm:Int)(ss rs:List Int)(hv:c.vs.length≤1000):FSpec Try.prog 58 [(clrS c),(.agg [(.int .i64 (.sym fun _=>rm)),(.sl 1 (.sym fun _=>zi (ss).length) (fun ix=>[.int .i64 (.sym fun _=>(ss).getD ix.den.toNat 0)])),(.sl 1 (.sym fun _=>zi (rs).length) (fun ix=>[.int .i64 (.sym fun _=>(rs).getD ix.den.toNat 0)]))])] [] (fun r _=>r=(.bool (.sym fun _=>truthB c rm ss rs))):=by
  have c94:= @has94
  refine FSpec.is fun R hR=>qX (sc:=sc58) tyok mix Try.func58 rfl Try.call58 (by kernel_rfl) (by kernel_rfl) ?_
  generalize Try.prog=P at c94⊢
  cbv
  repeat' (first
      |with_reducible refine And.intro ?_ ?_
      |(with_reducible intro hcd;(try simp only [zA,zB,zC,zD,zE,zF,zG,zH,zI,zJ,zK,zL,zM,zN,zO,zP]at hcd);try cbv)
      | (refine qQ ?_ (c94 c.rl c.rh rm) ?hfit
         case hfit=>((repeat' (first|exact qB|refine qD ?_ ?_|exact qE (by rfl)|exact qG (by rfl)|exact Fit.refl _|exact qA|refine qC ?_ rfl ?_));done)
         try cbv)
      |fail)
  all_goals first
    |(subst hR;(refine qG ?_;(try simp only [qW]at *);(try simp only [zQ,zA,zB,zC,zD,zE,zF,zG,zH,zI,zJ,zK,zL,zM,zN,zO,zP,zR,zS]at *);(try simp only [allB_t,allB_f,inB_t,inB_f,ofB_t,ofB_f,shB_t,shB_f,spB_t,spB_f]at *);exact(truthB_no fun h=>by have a1:=h.r0;have a2:=h.r1;have a3:=h.s;have a4:=h.r;omega).symm);done)
    |skip
  refine⟨none,[],{i:Nat // i≤c.vs.length∧∀k,k<i→((c.vs.getD k v0).sl≤ss.getD k 0∧ss.getD k 0≤(c.vs.getD k v0).sh)∧(c.vs.getD k v0).rl≤rs.getD k 0∧rs.getD k 0≤(c.vs.getD k v0).rh},fun x=>⟨[(2,.own 0 0),(3,.own 1 0),(32,(.sl 4 (.sym fun _=>zi c.vs.length) (fun ix=>[(.int .i64 (.sym fun _=>(c.vs.getD ix.den.toNat v0).sl)),(.int .i64 (.sym fun _=>(c.vs.getD ix.den.toNat v0).sh)),(.int .i64 (.sym fun _=>(c.vs.getD ix.den.toNat v0).rl)),(.int .i64 (.sym fun _=>(c.vs.getD ix.den.toNat v0).rh))]))),(33,(.int .i64 (.sym fun _=>zi c.vs.length))),(34,(.int .i64 (.sym fun _=>zi x.1)))],[(0,.cells [(.int .i64 (.sym fun _=>c.rl)),(.int .i64 (.sym fun _=>c.rh)),(.int .i64 (.sym fun _=>c.hr)),(.sl 4 (.sym fun _=>zi c.vs.length) (fun ix=>[(.int .i64 (.sym fun _=>(c.vs.getD ix.den.toNat v0).sl)),(.int .i64 (.sym fun _=>(c.vs.getD ix.den.toNat v0).sh)),(.int .i64 (.sym fun _=>(c.vs.getD ix.den.toNat v0).rl)),(.int .i64 (.sym fun _=>(c.vs.getD ix.den.toNat v0).rh))])),(.sl 2 (.sym fun _=>zi c.ts.length) (fun ix=>[(.int .i64 (.sym fun _=>(c.ts.getD ix.den.toNat t0).top)),(.sl 3 (.sym fun _=>zi ((c.ts.getD ix.den.toNat t0).ps).length) (fun jx=>[(.int .i64 (.sym fun _=>(((c.ts.getD ix.den.toNat t0).ps).getD jx.den.toNat p0).f)),(.int .i64 (.sym fun _=>(((c.ts.getD ix.den.toNat t0).ps).getD jx.den.toNat p0).el)),(.int .i64 (.sym fun _=>(((c.ts.getD ix.den.toNat t0).ps).getD jx.den.toNat p0).eh))]))]))] 40),(1,.cells [(.int .i64 (.sym fun _=>rm)),(.sl 1 (.sym fun _=>zi (ss).length) (fun ix=>[.int .i64 (.sym fun _=>(ss).getD ix.den.toNat 0)])),(.sl 1 (.sym fun _=>zi (rs).length) (fun ix=>[.int .i64 (.sym fun _=>(rs).getD ix.den.toNat 0)]))] 45)],40⟩,fun x=>c.vs.length-x.1,?_,?_⟩
  · refine⟨⟨0,by omega,fun k hk=>by omega⟩,?_⟩
    cbv
    repeat' (first
      |with_reducible refine hold ?_ ?_
      |with_reducible refine And.intro ?_ ?_)
    all_goals first
      |trivial
      |exact qN (qE (by rfl))
      |exact qN (Fit.refl _)
      |exact qM (qL _)
      |skip
  · rintro ⟨i,hi,hq⟩
    cbv
    repeat' (first
        |with_reducible refine hold ?_ ?_
        |with_reducible refine And.intro ?_ ?_
        |(with_reducible intro hcd;(try simp only [zA,zB,zC,zD,zE,zF,zG,zH,zI,zJ,zK,zL,zM,zN,zO,zP]at hcd);try cbv)
        | (refine qQ ?_ (c94 (c.vs.getD i v0).sl (c.vs.getD i v0).sh (ss.getD i 0)) ?hfit
           case hfit=>((repeat' (first|exact qB|refine qD ?_ ?_|exact qE (by rfl)|exact qG (by rfl)|exact Fit.refl _|exact qA|refine qC ?_ rfl ?_));done)
           try cbv)
        | (refine qQ ?_ (c94 (c.vs.getD i v0).rl (c.vs.getD i v0).rh (rs.getD i 0)) ?hfit
           case hfit=>((repeat' (first|exact qB|refine qD ?_ ?_|exact qE (by rfl)|exact qG (by rfl)|exact Fit.refl _|exact qA|refine qC ?_ rfl ?_));done)
           try cbv)
        |fail)
    all_goals first
      |((try simp only [qW]at *);(try simp only [zQ,zA,zB,zC,zD,zE,zF,zG,zH,zI,zJ,zK,zL,zM,zN,zO,zP,zR,zS,allB_t,allB_f,inB_t,inB_f,ofB_t,ofB_f,shB_t,shB_f,spB_t,spB_f]at *);first|(refine qO ?_;omega)|(simp only [Hold];omega))
      |(subst hR;(refine qG ?_;(try simp only [qW]at *);(try simp only [zQ,zA,zB,zC,zD,zE,zF,zG,zH,zI,zJ,zK,zL,zM,zN,zO,zP,zR,zS]at *);(try simp only [allB_t,allB_f,inB_t,inB_f,ofB_t,ofB_f,shB_t,shB_f,spB_t,spB_f]at *);exact(truthB_iff.2 ⟨by omega,by omega,by omega,by omega,fun k hk=>hq k (by omega)⟩).symm);done)
      |(subst hR;(refine qG ?_;(try simp only [qW]at *);(try simp only [zQ,zA,zB,zC,zD,zE,zF,zG,zH,zI,zJ,zK,zL,zM,zN,zO,zP,zR,zS]at *);(try simp only [allB_t,allB_f,inB_t,inB_f,ofB_t,ofB_f,shB_t,shB_f,spB_t,spB_f]at *);exact(truthB_no fun h=>by have a1:=h.v i (by omega);omega).symm);done)
      |((try simp only [zQ,zA,zB,zC,zD,zE,zF,zG,zH,zI,zJ,zK,zL,zM,zN,zO,zP,zR,zS,allB_t,allB_f,inB_t,inB_f,ofB_t,ofB_f,shB_t,shB_f,spB_t,spB_f]at *);refine⟨⟨i+1,by omega,fun k hk=>(Nat.lt_or_ge k i).elim (hq k) fun q=>by rw [show k=i by omega];omega⟩,by simp only [];omega,?_⟩;cbv;(repeat' (first|with_reducible refine hold ?_ ?_|with_reducible refine And.intro ?_ ?_));(all_goals first|trivial|exact qN (qE (by rfl))|exact qN (qG (by rfl))|exact qN (Fit.refl _)|exact qM (qL _)|(refine qN (qE ?_);(try simp only [qW]at *);simp only [zQ,zA,zB,zC,zD,zE,zF,zG,zH,zI,zJ,zK,zL,zM,zN,zO,zP,zR,zS]at *;omega)|(refine qM (qK ?_);(repeat' (first|exact qA|exact qB|refine qC ?_ rfl ?_|refine qD ?_ ?_|exact qE (by rfl)|exact qG (by rfl)|exact Fit.refl _|exact qH _|(refine qE ?_;(try simp only [qW]at *);simp only [zQ,zA,zB,zC,zD,zE,zF,zG,zH,zI,zJ,zK,zL,zM,zN,zO,zP,zR,zS]at *;omega)));done)|skip))
      |skip
end Go.Proofs.Yteelocfbbhchcaa

namespace Go.Proofs.Yteelocfbbhchcaa
open Go Go.Eng Go.Proofs
set_option maxRecDepth 10000
theorem mapTy173 :MapTy Try.prog 173 138 135:=by
  show Try.prog.underlying 173=some (.map 138 135)
  kernel_rfl
theorem keyOk138 :KeyOk Try.prog 138 false 3:=keyOk_strI (by kernel_rfl)
theorem eqOk135 :EqOk Try.prog 135 9:=eqOk_arrI (e:=3) (by kernel_rfl)
theorem ix10 (i:Nat):((i:Int)*((1:Nat):Int)+((0:Nat):Int)).toNat=i:=by omega
theorem ix10b (i:Nat):((i:Int)*1+0).toNat=i:=by omega
def pW (rm st rt:Int)(i n:Nat):Int:=if n≤i then runW rm st rt n else 0
theorem pW_new0 {rm st rt:Int} {n:Nat}(h:n=0):st=pW rm st rt 0 n:=by subst h;rfl
theorem pW_old0 {rm st rt:Int} {n:Nat}(h:n≠0):0=pW rm st rt 0 n:=by unfold pW;rw [if_neg (by omega)]
theorem pW_self (rm st rt:Int)(i:Nat):pW rm st rt i i=runW rm st rt i:=by unfold pW;rw [if_pos (Nat.le_refl _)]
theorem pW_new {rm st rt:Int} {i n:Nat}(h:n=i+1):rm+((pW rm st rt i i-rm)*(100-rt)).tdiv 100=pW rm st rt (i+1) n:=by
  subst h
  rw [pW_self,pW_self];rfl
theorem pW_old {rm st rt:Int} {i n:Nat}(h:n≠i+1):pW rm st rt i n=pW rm st rt (i+1) n:=by
  unfold pW
  by_cases q:n≤i
  · rw [if_pos q,if_pos (by omega)]
  · rw [if_neg q,if_neg (by omega)]
theorem pW_at {hr rm st rt:Int} {i n:Nat}(h:(i:Int)=hr):pW rm st rt i n=atW hr rm st rt n:=by
  unfold pW atW
  by_cases q:n≤i
  · rw [if_pos q,if_pos (by omega)]
  · rw [if_neg q,if_neg (by omega)]
theorem mul_bd {a b:Int}(h0: -200≤a)(h1:a≤200)(k0:0≤b)(k1:b≤100): -20000≤a*b∧a*b≤20000:=by
  have e1:a*b≤200*b:=Int.mul_le_mul_of_nonneg_right h1 k0
  have e2: -200*b≤a*b:=Int.mul_le_mul_of_nonneg_right h0 k0
  omega
structure WayOk (rm st rt:Int):Prop where
  a0:0≤rm
  a1:rm≤200
  b0:0≤st
  b1:st≤200
  c0:0≤rt
  c1:rt≤100
theorem WayOk.bd {rm st rt:Int}(h:WayOk rm st rt)(n:Nat):0≤runW rm st rt n∧runW rm st rt n≤200:=by
  have:=run_bd (rm:=rm) (st:=st) h.c0 h.c1 n
  have:=h.a0;have:=h.a1;have:=h.b0;have:=h.b1
  omega
theorem WayOk.next {rm st rt:Int}(h:WayOk rm st rt)(i:Nat): -200≤pW rm st rt i i-rm∧pW rm st rt i i-rm≤200∧ -20000≤(pW rm st rt i i-rm)*(100-rt)∧(pW rm st rt i i-rm)*(100-rt)≤20000∧0≤rm+((pW rm st rt i i-rm)*(100-rt)).tdiv 100∧rm+((pW rm st rt i i-rm)*(100-rt)).tdiv 100≤200∧ -20000≤((pW rm st rt i i-rm)*(100-rt)).tdiv 100∧((pW rm st rt i i-rm)*(100-rt)).tdiv 100≤20000:=by
  have h1:=h.bd i
  have h2:=h.bd (i+1)
  have:=h.a0;have:=h.a1;have:=h.c0;have:=h.c1
  rw [pW_self]
  have h3:=mul_bd (a:=runW rm st rt i-rm) (b:=100-rt) (by omega) (by omega) (by omega) (by omega)
  simp only [runW,step]at h2
  omega
theorem run60 (c:Clr)(l:List LookT)(rm st rt:Int)(hw:WayOk rm st rt)(h1:1≤c.hr)(h8:c.hr≤8):FSpec Try.prog 60 [(wpS c l),(.agg [(.int .i64 (.sym fun _=>rm)),(.int .i64 (.sym fun _=>st)),(.int .i64 (.sym fun _=>rt))])] [] (fun r _=>r=(.agg [(.arr 9 (fun ix=>(.int .i64 (.sym fun _=>atW c.hr rm st rt ix.den.toNat))))])):=by
  have hmt:=mapTy173
  have hko:=keyOk138
  refine FSpec.is fun R hR=>qX (sc:=sc60) tyok mix Try.func60 rfl Try.call60 (by kernel_rfl) (by kernel_rfl) ?_
  generalize Try.prog=P at hmt hko⊢
  cbv
  have a0:=hw.a0
  have a1:=hw.a1
  have b0:=hw.b0
  have b1:=hw.b1
  have c0:=hw.c0
  have c1:=hw.c1
  repeat' (first
      |with_reducible refine hold ?_ ?_
      |with_reducible refine And.intro ?_ ?_
      | (refine⟨fun ix=>(.int .i64 (.sym fun _=>pW rm st rt 0 ix.den.toNat)),?_⟩
         cbv
         refine hold (hold_arrupd (by intro jx h0 h1 h2;refine qE ?_;exact pW_new0 (by(try simp only [qW]at *);simp only [zQ,zA,zB,zC,zD,zE,zF,zG,zH,zI,zJ,zK,zL,zM,zN,zO,zP,zR,zS]at *;omega)) (by intro jx h0 h1 h2;refine qE ?_;exact pW_old0 (by(try simp only [qW]at *);simp only [zQ,zA,zB,zC,zD,zE,zF,zG,zH,zI,zJ,zK,zL,zM,zN,zO,zP,zR,zS]at *;omega))) ?_
         try cbv)
      |fail)
  all_goals first
    |trivial
    |(subst hR;(refine fit_arr (fun ix h0 h1=>qE rfl) qA);done)
    |skip
  refine⟨none,[],{i:Nat // i≤c.hr.toNat},fun x=>⟨[(0,(wpS c l)),(3,.own 0 0),(4,.own 1 0),(5,.own 11 0),(26,(.int .i64 (.sym fun _=>c.hr))),(27,(.int .i64 (.sym fun _=>zi x.1)))],[(0,.cells [(.int .i64 (.sym fun _=>rm)),(.int .i64 (.sym fun _=>st)),(.int .i64 (.sym fun _=>rt))] 138),(1,.cells [.arr 9 (fun _=>.int .i64 (.lit 0))] 135),(11,.cells [(.arr 9 (fun ix=>(.int .i64 (.sym fun _=>pW rm st rt (x.1) ix.den.toNat))))] 135)],60⟩,fun x=>c.hr.toNat-x.1,?_,?_⟩
  · refine⟨⟨0,by omega⟩,?_⟩
    cbv
    repeat' (first
      |with_reducible refine hold ?_ ?_
      |with_reducible refine And.intro ?_ ?_)
    all_goals first
      |trivial
      |exact qN (qE (by rfl))
      |exact qN (Fit.refl _)
      |exact qM (qL _)
      |skip
  · rintro ⟨i,hi⟩
    cbv
    have hn:=hw.next i
    have hi:i≤c.hr.toNat:=hi
    repeat' (first
        |with_reducible refine hold ?_ ?_
        |with_reducible refine And.intro ?_ ?_
        | (with_reducible refine qT ?_ ?_ ?_
           try cbv)
        |(with_reducible intro hcd;(try simp only [zA,zB,zC,zD,zE,zF,zG,zH,zI,zJ,zK,zL,zM,zN,zO,zP]at hcd);try cbv)
        | (refine⟨fun ix=>(.int .i64 (.sym fun _=>pW rm st rt (i+1) ix.den.toNat)),?_⟩
           cbv
           refine hold (hold_arrupd (by intro jx h0 h1 h2;refine qE ?_;(try simp only [qW]at *);(try simp only [zQ,zA,zB,zC,zD,zE,zF,zG,zH,zI,zJ,zK,zL,zM,zN,zO,zP,zR,zS,ix10,ix10b]at *);exact pW_new (by omega)) (by intro jx h0 h1 h2;refine qE ?_;(try simp only [qW]at *);(try simp only [zQ,zA,zB,zC,zD,zE,zF,zG,zH,zI,zJ,zK,zL,zM,zN,zO,zP,zR,zS,ix10,ix10b]at *);exact pW_old (by omega))) ?_
           try cbv)
        |fail)
    all_goals first
      |((try simp only [qW]at *);(try simp only [zQ,zA,zB,zC,zD,zE,zF,zG,zH,zI,zJ,zK,zL,zM,zN,zO,zP,zR,zS,ix10,ix10b]at *);first|(refine qO ?_;omega)|(simp only [Hold];omega))
      |(subst hR;((have hie:(i:Int)=c.hr:=by((try simp only [qW]at *);(try simp only [zQ,zA,zB,zC,zD,zE,zF,zG,zH,zI,zJ,zK,zL,zM,zN,zO,zP,zR,zS,ix10,ix10b]at *);omega));exact fit_arr (fun ix h0 h1=>qE (pW_at hie)) qA);done)
      |((have hie:(i:Int)=c.hr:=by((try simp only [qW]at *);(try simp only [zQ,zA,zB,zC,zD,zE,zF,zG,zH,zI,zJ,zK,zL,zM,zN,zO,zP,zR,zS,ix10,ix10b]at *);omega));(unfold Hold;exact⟨rfl,rfl,hmt,hko,⟨fun _=>rfl,trivial⟩,Fit.le (fit_arr (fun ix h0 h1=>qE (pW_at hie)) qA)⟩))
      |((try simp only [zQ,zA,zB,zC,zD,zE,zF,zG,zH,zI,zJ,zK,zL,zM,zN,zO,zP,zR,zS,ix10,ix10b]at *);refine⟨⟨i+1,by omega⟩,by simp only [];omega,?_⟩;cbv;(repeat' (first|with_reducible refine hold ?_ ?_|with_reducible refine And.intro ?_ ?_));(all_goals first|trivial|exact qN (qE (by rfl))|exact qN (qG (by rfl))|exact qN (Fit.refl _)|exact qM (qL _)|(refine qN (qE ?_);(try simp only [qW]at *);simp only [zQ,zA,zB,zC,zD,zE,zF,zG,zH,zI,zJ,zK,zL,zM,zN,zO,zP,zR,zS]at *;omega)|(refine qM (qK ?_);(repeat' (first|exact qA|exact qB|refine qC ?_ rfl ?_|refine qD ?_ ?_|exact qE (by rfl)|exact qG (by rfl)|exact Fit.refl _|exact qH _|(refine qE ?_;(try simp only [qW]at *);simp only [zQ,zA,zB,zC,zD,zE,zF,zG,zH,zI,zJ,zK,zL,zM,zN,zO,zP,zR,zS]at *;omega)));done)|skip))
      |skip
end Go.Proofs.Yteelocfbbhchcaa

namespace Go.Proofs.Yteelocfbbhchcaa
open Go Go.Eng Go.Proofs
set_option maxRecDepth 10000
theorem clone61o (n:Int)(f:Nat→Int)(h0:1≤n)(h1:n≤9):FSpec Try.prog 61 [.owd 0 0 1 9 (.sym fun _=>n)] [.cells [(.arr 9 (fun ix=>(.int .i64 (.sym fun _=>f ix.den.toNat))))] 135] (fun r bs=>r=(.sl 1 (.sym fun _=>n) (fun ix=>[(.int .i64 (.sym fun _=>f ix.den.toNat))]))∧bs=[.cells [(.arr 9 (fun ix=>(.int .i64 (.sym fun _=>f ix.den.toNat))))] 135]):=by
  refine FSpec.isB rfl fun R B hR hB=>qX (sc:=sc61) tyok mix Try.func61 rfl Try.call61 (by kernel_rfl) (by kernel_rfl) ?_
  generalize Try.prog=P
  cbv
  repeat' (first
      |with_reducible refine hold ?_ ?_
      |with_reducible refine And.intro ?_ ?_
      |fail)
  all_goals first
    |((try simp only [qW]at *);(try simp only [zQ,zA,zB,zC,zD,zE,zF,zG,zH,zI,zJ,zK,zL,zM,zN,zO,zP,zR,zS]at *);first|(refine qO ?_;omega)|(simp only [Hold];omega))
    |(subst hR;(refine fit_sl ?_ (fun _ _ _=>Fit.refl _);first|rfl|((try simp only [qW]at *);(try simp only [zQ,zA,zB,zC,zD,zE,zF,zG,zH,zI,zJ,zK,zL,zM,zN,zO,zP,zR,zS]at *);omega));done)
    |(subst hB;(repeat' (first|exact qI|refine qJ ?_ ?_|exact qL _|refine qK ?_|exact qA|exact qE (by rfl)|exact qG (by rfl)|exact Fit.refl _|exact qH _|refine qC ?_ rfl ?_));done)
    |skip
theorem clone61 (l:List Int)(hl:l.length≤1000):FSpecN Try.prog 61 [(.sl 1 (.sym fun _=>zi (l).length) (fun ix=>[.int .i64 (.sym fun _=>(l).getD ix.den.toNat 0)]))] [] (fun r bs=>r = .row 0∧bs=[.row 3 1 (.sym fun _=>zi l.length) (fun ix=>[.int .i64 (.sym fun _=>l.getD ix.den.toNat 0)])]):=by
  refine FSpecN.is rfl rfl fun R B hR hB=>fspecN_vc (sc:=sc61) tyok mix Try.func61 rfl Try.call61 (by kernel_rfl) (by kernel_rfl) ?_
  generalize Try.prog=P
  cbv
  repeat' (first
      |with_reducible refine hold ?_ ?_
      |with_reducible refine And.intro ?_ ?_
      |(with_reducible intro hcd;(try simp only [zA,zB,zC,zD,zE,zF,zG,zH,zI,zJ,zK,zL,zM,zN,zO,zP]at hcd);try cbv)
      |fail)
  all_goals first
    |((try simp only [qW]at *);(try simp only [zQ,zA,zB,zC,zD,zE,zF,zG,zH,zI,zJ,zK,zL,zM,zN,zO,zP,zR,zS]at *);first|(refine qO ?_;omega)|(simp only [Hold];omega))
    |(refine⟨[⟨.tmp 2,3,1⟩],(4:Nat),?_⟩;cbv;subst hR;subst hB;refine⟨?_,?_⟩;(first|exact Fit.refl _|((repeat' (first|exact qA|exact qB|refine qC ?_ rfl ?_|refine qD ?_ ?_|exact qE (by rfl)|exact qG (by rfl)|exact Fit.refl _|exact qH _|(refine qE ?_;(try simp only [qW]at *);simp only [zQ,zA,zB,zC,zD,zE,zF,zG,zH,zI,zJ,zK,zL,zM,zN,zO,zP,zR,zS]at *;omega)));done));(repeat' (first|exact qI|refine qJ ?_ ?_));(all_goals first|exact qL _|(refine qK ?_;(repeat' (first|exact qA|exact qB|refine qC ?_ rfl ?_|refine qD ?_ ?_|exact qE (by rfl)|exact qG (by rfl)|exact Fit.refl _|exact qH _|(refine qE ?_;(try simp only [qW]at *);simp only [zQ,zA,zB,zC,zD,zE,zF,zG,zH,zI,zJ,zK,zL,zM,zN,zO,zP,zR,zS]at *;omega)));done)|(refine ble_row ?_ ?_;(first|rfl|((try simp only [qW]at *);(try simp only [zQ,zA,zB,zC,zD,zE,zF,zG,zH,zI,zJ,zK,zL,zM,zN,zO,zP,zR,zS]at *);omega));intro ix h0 h1;first|exact Fit.refl _|(exfalso;(try simp only [qW]at *);(try simp only [zQ,zA,zB,zC,zD,zE,zF,zG,zH,zI,zJ,zK,zL,zM,zN,zO,zP,zR,zS]at *);omega))))
    |(refine⟨[],(5:Nat),?_⟩;cbv;subst hR;subst hB;refine⟨?_,?_⟩;(first|exact Fit.refl _|((repeat' (first|exact qA|exact qB|refine qC ?_ rfl ?_|refine qD ?_ ?_|exact qE (by rfl)|exact qG (by rfl)|exact Fit.refl _|exact qH _|(refine qE ?_;(try simp only [qW]at *);simp only [zQ,zA,zB,zC,zD,zE,zF,zG,zH,zI,zJ,zK,zL,zM,zN,zO,zP,zR,zS]at *;omega)));done));(repeat' (first|exact qI|refine qJ ?_ ?_));(all_goals first|exact qL _|(refine qK ?_;(repeat' (first|exact qA|exact qB|refine qC ?_ rfl ?_|refine qD ?_ ?_|exact qE (by rfl)|exact qG (by rfl)|exact Fit.refl _|exact qH _|(refine qE ?_;(try simp only [qW]at *);simp only [zQ,zA,zB,zC,zD,zE,zF,zG,zH,zI,zJ,zK,zL,zM,zN,zO,zP,zR,zS]at *;omega)));done)|(refine ble_row ?_ ?_;(first|rfl|((try simp only [qW]at *);(try simp only [zQ,zA,zB,zC,zD,zE,zF,zG,zH,zI,zJ,zK,zL,zM,zN,zO,zP,zR,zS]at *);omega));intro ix h0 h1;first|exact Fit.refl _|(exfalso;(try simp only [qW]at *);(try simp only [zQ,zA,zB,zC,zD,zE,zF,zG,zH,zI,zJ,zK,zL,zM,zN,zO,zP,zR,zS]at *);omega))))
    |skip
end Go.Proofs.Yteelocfbbhchcaa

namespace Go.Proofs.Yteelocfbbhchcaa
open Go Go.Eng Go.Proofs
set_option maxRecDepth 10000
structure LooksIn (c:Clr)(l:List LookT):Prop where
  n:l.length≤6
  i:∀j,j<l.length→lookB c (l.getD j k0)=true
theorem work59 (c:Clr)(l:List LookT)(hc:COk c)(hl:LooksIn c l):FSpec Try.prog 59 [(clrS c),(lksS l)] [] (fun r _=>r=(wpS c l)):=by
  have hmt:=mapTy173
  have hko:=keyOk138
  have c57:=fun (i:Nat) (hi:i<l.length)=>mean57 (thA c (l.getD i k0)) (l.getD i k0).s (hc.ok.t _ (by have hk:=lookB_iff.1 (hl.i i hi);have q0:=hk.t0;have q1:=hk.t1;omega)) (by have hk:=lookB_iff.1 (hl.i i hi);have q0:=hk.t0;have q1:=hk.t1;have:=hc.few.p (l.getD i k0).t.toNat (by omega);unfold thA;omega) (lookB_iff.1 (hl.i i hi)).on
  refine FSpec.is fun R hR=>qX (sc:=sc59) tyok mix Try.func59 rfl Try.call59 (by kernel_rfl) (by kernel_rfl) ?_
  generalize Try.prog=P at hmt hko c57⊢
  cbv
  have hn:=hl.n
  repeat' (first
      | (refine⟨138,135,false,3,?_⟩
         cbv
         refine hold ⟨hmt,fun h=>by cases h⟩ ?_
         refine Or.inr ⟨fun ks=>.agg [.arr 9 (fun ix=>(.int .i64 (.sym fun _=>atW c.hr (ks.getD 0 0) (ks.getD 1 0) (ks.getD 2 0) ix.den.toNat)))],?_⟩
         cbv)
      |fail)
  all_goals first
    |skip
  refine⟨none,[⟨.cell 6 6,33,2⟩],{i:Nat // i≤l.length},fun x=>⟨[(13,(lksS l)),(14,(.int .i64 (.sym fun _=>zi l.length))),(15,(.int .i64 (.sym fun _=>zi x.1))),(2,.own 0 0),(5,.own 6 0)],[(0,.cells [(.int .i64 (.sym fun _=>c.rl)),(.int .i64 (.sym fun _=>c.rh)),(.int .i64 (.sym fun _=>c.hr)),(.sl 4 (.sym fun _=>zi c.vs.length) (fun ix=>[(.int .i64 (.sym fun _=>(c.vs.getD ix.den.toNat v0).sl)),(.int .i64 (.sym fun _=>(c.vs.getD ix.den.toNat v0).sh)),(.int .i64 (.sym fun _=>(c.vs.getD ix.den.toNat v0).rl)),(.int .i64 (.sym fun _=>(c.vs.getD ix.den.toNat v0).rh))])),(.sl 2 (.sym fun _=>zi c.ts.length) (fun ix=>[(.int .i64 (.sym fun _=>(c.ts.getD ix.den.toNat t0).top)),(.sl 3 (.sym fun _=>zi ((c.ts.getD ix.den.toNat t0).ps).length) (fun jx=>[(.int .i64 (.sym fun _=>(((c.ts.getD ix.den.toNat t0).ps).getD jx.den.toNat p0).f)),(.int .i64 (.sym fun _=>(((c.ts.getD ix.den.toNat t0).ps).getD jx.den.toNat p0).el)),(.int .i64 (.sym fun _=>(((c.ts.getD ix.den.toNat t0).ps).getD jx.den.toNat p0).eh))]))]))] 40),(6,.cells [(.int .i64 (.sym fun _=>c.rl)),(.int .i64 (.sym fun _=>c.rh)),(.int .i64 (.sym fun _=>c.hr)),(.sl 4 (.sym fun _=>zi c.vs.length) (fun ix=>[(.int .i64 (.sym fun _=>(c.vs.getD ix.den.toNat v0).sl)),(.int .i64 (.sym fun _=>(c.vs.getD ix.den.toNat v0).sh)),(.int .i64 (.sym fun _=>(c.vs.getD ix.den.toNat v0).rl)),(.int .i64 (.sym fun _=>(c.vs.getD ix.den.toNat v0).rh))])),(.sl 2 (.sym fun _=>zi c.ts.length) (fun ix=>[(.int .i64 (.sym fun _=>(c.ts.getD ix.den.toNat t0).top)),(.sl 3 (.sym fun _=>zi ((c.ts.getD ix.den.toNat t0).ps).length) (fun jx=>[(.int .i64 (.sym fun _=>(((c.ts.getD ix.den.toNat t0).ps).getD jx.den.toNat p0).f)),(.int .i64 (.sym fun _=>(((c.ts.getD ix.den.toNat t0).ps).getD jx.den.toNat p0).el)),(.int .i64 (.sym fun _=>(((c.ts.getD ix.den.toNat t0).ps).getD jx.den.toNat p0).eh))]))])),(lksS l),.row 11,(.memo 138 135 false 3 (fun ks=>.agg [.arr 9 (fun ix=>(.int .i64 (.sym fun _=>atW c.hr (ks.getD 0 0) (ks.getD 1 0) (ks.getD 2 0) ix.den.toNat)))]))] 175),(11,.row 33 2 (.sym fun _=>zi x.1) (fun ix=>[(.int .i64 (.sym fun _=>meanLo (thA c (l.getD ix.den.toNat k0)) (l.getD ix.den.toNat k0).s)),(.int .i64 (.sym fun _=>meanHi (thA c (l.getD ix.den.toNat k0)) (l.getD ix.den.toNat k0).s))]))],60⟩,fun x=>l.length-x.1,?_,?_⟩
  · refine⟨⟨0,by omega⟩,?_⟩
    cbv
    repeat' (first
      |with_reducible refine hold ?_ ?_
      |with_reducible refine And.intro ?_ ?_)
    all_goals first
      |trivial
      |exact qN (qE (by rfl))
      |exact qN (Fit.refl _)
      |exact qM (qL _)
      |(refine qM (ble_row ?_ ?_);(first|rfl|((try simp only [qW]at *);(try simp only [zQ,zA,zB,zC,zD,zE,zF,zG,zH,zI,zJ,zK,zL,zM,zN,zO,zP,zR,zS]at *);omega));intro ix h0 h1;exfalso;(try simp only [qW]at *);(try simp only [zQ,zA,zB,zC,zD,zE,zF,zG,zH,zI,zJ,zK,zL,zM,zN,zO,zP,zR,zS]at *);omega)
      |skip
  · rintro ⟨i,hi⟩
    cbv
    repeat' (first
        |with_reducible refine hold ?_ ?_
        |with_reducible refine And.intro ?_ ?_
        |(with_reducible intro hcd;(try simp only [zA,zB,zC,zD,zE,zF,zG,zH,zI,zJ,zK,zL,zM,zN,zO,zP]at hcd);try cbv)
        | (refine qQ ?_ (c57 i (by((try simp only [qW]at *);(try simp only [zQ,zA,zB,zC,zD,zE,zF,zG,zH,zI,zJ,zK,zL,zM,zN,zO,zP,zR,zS]at *);omega))) ?hfit
           case hfit=>((repeat' (first|exact qB|refine qD ?_ ?_|exact qE (by rfl)|exact qG (by rfl)|exact Fit.refl _|exact qA|refine qC ?_ rfl ?_));done)
           try cbv)
        | (refine⟨fun ix=>[(.int .i64 (.sym fun _=>meanLo (thA c (l.getD ix.den.toNat k0)) (l.getD ix.den.toNat k0).s)),(.int .i64 (.sym fun _=>meanHi (thA c (l.getD ix.den.toNat k0)) (l.getD ix.den.toNat k0).s))],?_⟩
           cbv
           refine hold (hold_rowapp (by intro ix jx h0 h1 h2;simp only [h2];exact Fit.refl _) (by intro ix jx h0 h1 h2;(have h3:jx.den.toNat=i:=by((try simp only [qW]at *);(try simp only [zQ,zA,zB,zC,zD,zE,zF,zG,zH,zI,zJ,zK,zL,zM,zN,zO,zP,zR,zS]at *);omega));simp only [h3];exact qC (qE rfl) rfl (qC (qE rfl) rfl qA)) (by(try simp only [qW]at *);(try simp only [zQ,zA,zB,zC,zD,zE,zF,zG,zH,zI,zJ,zK,zL,zM,zN,zO,zP,zR,zS]at *);omega)) (Or.inl ?_)
           try cbv)
        |fail)
    all_goals first
      |((try simp only [qW]at *);(try simp only [zQ,zA,zB,zC,zD,zE,zF,zG,zH,zI,zJ,zK,zL,zM,zN,zO,zP,zR,zS]at *);first|(refine qO ?_;omega)|(simp only [Hold];omega))
      |((have hk:=lookB_iff.1 (hl.i i (by((try simp only [qW]at *);(try simp only [zQ,zA,zB,zC,zD,zE,zF,zG,zH,zI,zJ,zK,zL,zM,zN,zO,zP,zR,zS]at *);omega))));(have q0:=hk.t0);(have q1:=hk.t1);(try simp only [qW]at *);(try simp only [zQ,zA,zB,zC,zD,zE,zF,zG,zH,zI,zJ,zK,zL,zM,zN,zO,zP,zR,zS]at *);simp only [Hold];exact⟨q0,by omega⟩)
      |((have hie:i=l.length:=(by((try simp only [qW]at *);(try simp only [zQ,zA,zB,zC,zD,zE,zF,zG,zH,zI,zJ,zK,zL,zM,zN,zO,zP,zR,zS]at *);omega)));subst hR;subst hie;exact Fit.refl _)
      |((try simp only [zQ,zA,zB,zC,zD,zE,zF,zG,zH,zI,zJ,zK,zL,zM,zN,zO,zP,zR,zS]at *);refine⟨⟨i+1,by omega⟩,by simp only [];omega,?_⟩;cbv;(repeat' (first|with_reducible refine hold ?_ ?_|with_reducible refine And.intro ?_ ?_));(all_goals first|trivial|exact qN (qE (by rfl))|exact qN (qG (by rfl))|exact qN (Fit.refl _)|exact qM (qL _)|(refine qN (qE ?_);(try simp only [qW]at *);simp only [zQ,zA,zB,zC,zD,zE,zF,zG,zH,zI,zJ,zK,zL,zM,zN,zO,zP,zR,zS]at *;omega)|(refine qM (qK ?_);(repeat' (first|exact qA|exact qB|refine qC ?_ rfl ?_|refine qD ?_ ?_|exact qE (by rfl)|exact qG (by rfl)|exact Fit.refl _|exact qH _|(refine qE ?_;(try simp only [qW]at *);simp only [zQ,zA,zB,zC,zD,zE,zF,zG,zH,zI,zJ,zK,zL,zM,zN,zO,zP,zR,zS]at *;omega)));done)|(refine qM (ble_row ?_ ?_)<;>first|rfl|((try simp only [qW]at *);(try simp only [zQ,zA,zB,zC,zD,zE,zF,zG,zH,zI,zJ,zK,zL,zM,zN,zO,zP,zR,zS]at *);omega)|(intro ix h0 h1;exact Fit.refl _))|skip))
      |skip
end Go.Proofs.Yteelocfbbhchcaa

namespace Go.Proofs.Yteelocfbbhchcaa
open Go Go.Eng Go.Proofs
set_option maxRecDepth 10000
def playE (c:Clr)(rm:Int)(ss rs:List Int):Int:=if faultC c=0 then(if truthB c rm ss rs=true then 0 else 2)else faultC c
def playN (c:Clr)(rm:Int)(ss rs:List Int):Nat:=if playE c rm ss rs=0 then c.vs.length else 0
theorem playE_bad {c:Clr} {rm:Int} {ss rs:List Int}(h:¬faultC c=0):playE c rm ss rs=faultC c∧playN c rm ss rs=0:=by
  have e:playE c rm ss rs=faultC c:=by unfold playE;rw [if_neg h]
  exact⟨e,by unfold playN;rw [e,if_neg h]⟩
theorem playE_no {c:Clr} {rm:Int} {ss rs:List Int}(h:faultC c=0)(h':truthB c rm ss rs=false):playE c rm ss rs=2∧playN c rm ss rs=0:=by
  have e:playE c rm ss rs=2:=by unfold playE;rw [if_pos h,if_neg (by rw [h'];simp)]
  exact⟨e,by unfold playN;rw [e];rfl⟩
theorem playE_yes {c:Clr} {rm:Int} {ss rs:List Int}(h:faultC c=0)(h':truthB c rm ss rs=true):playE c rm ss rs=0∧playN c rm ss rs=c.vs.length:=by
  have e:playE c rm ss rs=0:=by unfold playE;rw [if_pos h,if_pos h']
  exact⟨e,by unfold playN;rw [e];rfl⟩
theorem TruthC.way {c:Clr} {rm:Int} {ss rs:List Int}(hc:COk c)(h:TruthC c rm ss rs)(i:Nat)(hi:i<c.vs.length):WayOk rm (ss.getD i 0) (rs.getD i 0):=by
  have a:=h.v i hi
  have b:=hc.ok.v i hi
  have:=h.r0;have:=h.r1;have:=hc.ok.r0;have:=hc.ok.r2
  unfold vatOk at b
  exact⟨by omega,by omega,by omega,by omega,by omega,by omega⟩
theorem play18 (c:Clr)(rm:Int)(ss rs:List Int)(hv:c.vs.length≤1000):FSpec Try.prog 18 [(clrS c),(.agg [(.int .i64 (.sym fun _=>rm)),(.sl 1 (.sym fun _=>zi (ss).length) (fun ix=>[.int .i64 (.sym fun _=>(ss).getD ix.den.toNat 0)])),(.sl 1 (.sym fun _=>zi (rs).length) (fun ix=>[.int .i64 (.sym fun _=>(rs).getD ix.den.toNat 0)]))])] [] (fun r _=>r=(.tup [(.sl 1 (.sym fun _=>zi (playN c rm ss rs)) (fun ix=>[(.sl 1 (.sym fun _=>zi (c.hr.toNat+1)) (fun jx=>[(.int .i64 (.sym fun _=>runW rm (ss.getD ix.den.toNat 0) (rs.getD ix.den.toNat 0) jx.den.toNat))]))])),(.int .i64 (.sym fun _=>playE c rm ss rs))])):=by
  have c21:=check21 c
  have c58:=truth58 c rm ss rs hv
  have c59:=fun h:faultC c=0=>work59 c [] (faultC_iff.1 h) ⟨by simp,fun j hj=>by simp at hj⟩
  have c60:=fun (i:Nat) (h:i<c.vs.length∧COk c∧TruthC c rm ss rs)=>run60 c [] rm (ss.getD i 0) (rs.getD i 0) (h.2.2.way h.2.1 i h.1) h.2.1.ok.h1 h.2.1.ok.h8
  have c61:= @clone61o
  refine FSpec.is fun R hR=>qX (sc:=sc18) tyok mix Try.func18 rfl Try.call18 (by kernel_rfl) (by kernel_rfl) ?_
  generalize Try.prog=P at c21 c58 c59 c60 c61⊢
  cbv
  repeat' (first
      |with_reducible refine And.intro ?_ ?_
      |(with_reducible intro hcd;(try simp only [zA,zB,zC,zD,zE,zF,zG,zH,zI,zJ,zK,zL,zM,zN,zO,zP]at hcd);try cbv)
      | (refine qQ ?_ (c21) ?hfit
         case hfit=>((repeat' (first|exact qB|refine qD ?_ ?_|exact qE (by rfl)|exact qG (by rfl)|exact Fit.refl _|exact qA|refine qC ?_ rfl ?_));done)
         try cbv)
      | (refine qQ ?_ (c58) ?hfit
         case hfit=>((repeat' (first|exact qB|refine qD ?_ ?_|exact qE (by rfl)|exact qG (by rfl)|exact Fit.refl _|exact qA|refine qC ?_ rfl ?_));done)
         try cbv)
      | (refine qQ ?_ (c59 (show Hold _ from ?_)) ?hfit
         case hfit=>((refine qD (Fit.refl _) (qD (qP rfl) qB));done)
         try cbv)
      |fail)
  all_goals first
    |trivial
    |(subst hR;(refine qD (qP ?_) (qD (qE ?_) qB)<;>((try simp only [qW]at *);(try simp only [zQ,zA,zB,zC,zD,zE,zF,zG,zH,zI,zJ,zK,zL,zM,zN,zO,zP,zR,zS]at *);(have h0:=playE_bad (rm:=rm) (ss:=ss) (rs:=rs) (by assumption));first|exact h0.1.symm|(rw [h0.2];rfl)));done)
    |(subst hR;(refine qD (qP ?_) (qD (qE ?_) qB)<;>((try simp only [qW]at *);(try simp only [zQ,zA,zB,zC,zD,zE,zF,zG,zH,zI,zJ,zK,zL,zM,zN,zO,zP,zR,zS]at *);(have h0:=playE_no (by assumption) (by assumption));first|exact h0.1.symm|(rw [h0.2];rfl)));done)
    |skip
  have hF:faultC c=0:=(by first|assumption|omega)
  have hT:=truthB_iff.1 (show truthB c rm ss rs=true by first|assumption|(simp_all))
  have hC:=faultC_iff.1 hF
  have h1:=hC.ok.h1
  have h8:=hC.ok.h8
  have hs:=hT.s
  have hr:=hT.r
  refine⟨none,[⟨.tmp 8,28,1⟩],{i:Nat // i≤c.vs.length},fun x=>⟨[(23,(.sl 4 (.sym fun _=>zi c.vs.length) (fun ix=>[(.int .i64 (.sym fun _=>(c.vs.getD ix.den.toNat v0).sl)),(.int .i64 (.sym fun _=>(c.vs.getD ix.den.toNat v0).sh)),(.int .i64 (.sym fun _=>(c.vs.getD ix.den.toNat v0).rl)),(.int .i64 (.sym fun _=>(c.vs.getD ix.den.toNat v0).rh))]))),(24,(.int .i64 (.sym fun _=>zi c.vs.length))),(25,(.int .i64 (.sym fun _=>zi x.1))),(2,.own 0 0),(3,.own 1 0),(7,(wpS c ([]:List LookT))),(8,.row 21)],[(21,.row 28 1 (.sym fun _=>zi x.1) (fun ix=>[(.sl 1 (.sym fun _=>zi (c.hr.toNat+1)) (fun jx=>[(.int .i64 (.sym fun _=>runW rm (ss.getD ix.den.toNat 0) (rs.getD ix.den.toNat 0) jx.den.toNat))]))])),(0,.cells [(.int .i64 (.sym fun _=>c.rl)),(.int .i64 (.sym fun _=>c.rh)),(.int .i64 (.sym fun _=>c.hr)),(.sl 4 (.sym fun _=>zi c.vs.length) (fun ix=>[(.int .i64 (.sym fun _=>(c.vs.getD ix.den.toNat v0).sl)),(.int .i64 (.sym fun _=>(c.vs.getD ix.den.toNat v0).sh)),(.int .i64 (.sym fun _=>(c.vs.getD ix.den.toNat v0).rl)),(.int .i64 (.sym fun _=>(c.vs.getD ix.den.toNat v0).rh))])),(.sl 2 (.sym fun _=>zi c.ts.length) (fun ix=>[(.int .i64 (.sym fun _=>(c.ts.getD ix.den.toNat t0).top)),(.sl 3 (.sym fun _=>zi ((c.ts.getD ix.den.toNat t0).ps).length) (fun jx=>[(.int .i64 (.sym fun _=>(((c.ts.getD ix.den.toNat t0).ps).getD jx.den.toNat p0).f)),(.int .i64 (.sym fun _=>(((c.ts.getD ix.den.toNat t0).ps).getD jx.den.toNat p0).el)),(.int .i64 (.sym fun _=>(((c.ts.getD ix.den.toNat t0).ps).getD jx.den.toNat p0).eh))]))]))] 40),(1,.cells [(.int .i64 (.sym fun _=>rm)),(.sl 1 (.sym fun _=>zi (ss).length) (fun ix=>[.int .i64 (.sym fun _=>(ss).getD ix.den.toNat 0)])),(.sl 1 (.sym fun _=>zi (rs).length) (fun ix=>[.int .i64 (.sym fun _=>(rs).getD ix.den.toNat 0)]))] 45)],60⟩,fun x=>c.vs.length-x.1,?_,?_⟩
  · refine⟨⟨0,by omega⟩,?_⟩
    cbv
    repeat' (first
      |with_reducible refine hold ?_ ?_
      |with_reducible refine And.intro ?_ ?_)
    all_goals first
      |trivial
      |exact qN (qE (by rfl))
      |exact qN (Fit.refl _)
      |exact qM (qL _)
      |(refine qM (ble_row ?_ ?_);(first|rfl|((try simp only [qW]at *);(try simp only [zQ,zA,zB,zC,zD,zE,zF,zG,zH,zI,zJ,zK,zL,zM,zN,zO,zP,zR,zS]at *);omega));intro ix h0 h1;exfalso;(try simp only [qW]at *);(try simp only [zQ,zA,zB,zC,zD,zE,zF,zG,zH,zI,zJ,zK,zL,zM,zN,zO,zP,zR,zS]at *);omega)
      |skip
  · rintro ⟨i,hi⟩
    cbv
    repeat' (first
        |with_reducible refine hold ?_ ?_
        |with_reducible refine And.intro ?_ ?_
        |(with_reducible intro hcd;(try simp only [zA,zB,zC,zD,zE,zF,zG,zH,zI,zJ,zK,zL,zM,zN,zO,zP]at hcd);try cbv)
        | (refine qQ ?_ (c60 i ⟨(by((try simp only [qW]at *);(try simp only [zQ,zA,zB,zC,zD,zE,zF,zG,zH,zI,zJ,zK,zL,zM,zN,zO,zP,zR,zS]at *);omega)),hC,hT⟩) ?hfit
           case hfit=>((repeat' (first|exact qB|refine qD ?_ ?_|exact qE (by rfl)|exact qG (by rfl)|exact Fit.refl _|exact qA|refine qC ?_ rfl ?_));done)
           try cbv)
        | (refine⟨some [78],?_⟩
           cbv
           refine qR ?_ (c61 (c.hr+1) (fun n=>atW c.hr rm (ss.getD i 0) (rs.getD i 0) n) (by omega) (by omega)) (by cbv;(repeat' (first|exact qB|refine qD ?_ ?_|exact qE (by rfl)|exact qG (by rfl)|exact Fit.refl _|exact qA|refine qC ?_ rfl ?_))) (by cbv;(repeat' (first|exact qI|refine qJ ?_ ?_|exact qL _|refine qK ?_|exact qA|exact qE (by rfl)|exact qG (by rfl)|exact Fit.refl _|exact qH _|refine qC ?_ rfl ?_)))
           try cbv)
        | (refine⟨fun ix=>[(.sl 1 (.sym fun _=>zi (c.hr.toNat+1)) (fun jx=>[(.int .i64 (.sym fun _=>runW rm (ss.getD ix.den.toNat 0) (rs.getD ix.den.toNat 0) jx.den.toNat))]))],?_⟩
           cbv
           refine hold (hold_rowapp (by intro ix jx h0 h1 h2;simp only [h2];exact Fit.refl _) (by intro ix jx h0 h1 h2;(have h3:jx.den.toNat=i:=by((try simp only [qW]at *);(try simp only [zQ,zA,zB,zC,zD,zE,zF,zG,zH,zI,zJ,zK,zL,zM,zN,zO,zP,zR,zS]at *);omega));simp only [h3];exact qC (fit_sl (by((try simp only [qW]at *);(try simp only [zQ,zA,zB,zC,zD,zE,zF,zG,zH,zI,zJ,zK,zL,zM,zN,zO,zP,zR,zS]at *);omega)) (fun jx a b=>qC (qE (at_le (by((try simp only [qW]at *);(try simp only [zQ,zA,zB,zC,zD,zE,zF,zG,zH,zI,zJ,zK,zL,zM,zN,zO,zP,zR,zS]at *);omega)))) rfl qA)) rfl qA) (by(try simp only [qW]at *);(try simp only [zQ,zA,zB,zC,zD,zE,zF,zG,zH,zI,zJ,zK,zL,zM,zN,zO,zP,zR,zS]at *);omega)) (Or.inl ?_)
           try cbv)
        |fail)
    all_goals first
      |((try simp only [qW]at *);(try simp only [zQ,zA,zB,zC,zD,zE,zF,zG,zH,zI,zJ,zK,zL,zM,zN,zO,zP,zR,zS]at *);first|(refine qO ?_;omega)|(simp only [Hold];omega))
      |(simp only [Hold];refine⟨?_,?_,by decide⟩<;>((try simp only [qW]at *);(try simp only [zQ,zA,zB,zC,zD,zE,zF,zG,zH,zI,zJ,zK,zL,zM,zN,zO,zP,zR,zS]at *);omega))
      |((try simp only [zQ,zA,zB,zC,zD,zE,zF,zG,zH,zI,zJ,zK,zL,zM,zN,zO,zP,zR,zS]at *);refine⟨⟨i+1,by omega⟩,by simp only [];omega,?_⟩;cbv;(repeat' (first|with_reducible refine hold ?_ ?_|with_reducible refine And.intro ?_ ?_));(all_goals first|trivial|exact qN (qE (by rfl))|exact qN (qG (by rfl))|exact qN (Fit.refl _)|exact qM (qL _)|(refine qN (qE ?_);(try simp only [qW]at *);simp only [zQ,zA,zB,zC,zD,zE,zF,zG,zH,zI,zJ,zK,zL,zM,zN,zO,zP,zR,zS]at *;omega)|(refine qM (qK ?_);(repeat' (first|exact qA|exact qB|refine qC ?_ rfl ?_|refine qD ?_ ?_|exact qE (by rfl)|exact qG (by rfl)|exact Fit.refl _|exact qH _|(refine qE ?_;(try simp only [qW]at *);simp only [zQ,zA,zB,zC,zD,zE,zF,zG,zH,zI,zJ,zK,zL,zM,zN,zO,zP,zR,zS]at *;omega)));done)|(refine qM (ble_row ?_ ?_)<;>first|rfl|((try simp only [qW]at *);(try simp only [zQ,zA,zB,zC,zD,zE,zF,zG,zH,zI,zJ,zK,zL,zM,zN,zO,zP,zR,zS]at *);omega)|(intro ix h0 h1;exact Fit.refl _))|skip))
      |((have hie:i=c.vs.length:=(by((try simp only [qW]at *);(try simp only [zQ,zA,zB,zC,zD,zE,zF,zG,zH,zI,zJ,zK,zL,zM,zN,zO,zP,zR,zS]at *);omega)));(have h0:=playE_yes hF (truthB_iff.2 hT));subst hR;exact qD (fit_sl (congrArg zi (hie.trans h0.2.symm)) (fun _ _ _=>Fit.refl _)) (qD (qE h0.1.symm) qB))
      |skip
end Go.Proofs.Yteelocfbbhchcaa

namespace Go.Proofs.Yteelocfbbhchcaa
open Go Go.Eng Go.Proofs
set_option maxRecDepth 10000
def inL (out:List Int)(v:Int):Bool:=decide (0≤fidx (fun j=> !(decide (out.getD j 0=v))) out.length 0)
theorem inL_t {out:List Int} {v:Int}:inL out v=true↔∃j,j<out.length∧out.getD j 0=v:=by
  unfold inL
  rw [decide_eq_true_eq,fidx_iff]
  constructor
  · rintro⟨j,_,h2,h3⟩
    exact⟨j,by omega,by simpa using h3⟩
  · rintro⟨j,h2,h3⟩
    exact⟨j,by omega,by omega,by simpa using h3⟩
def seeB (c:Clr)(k:LookT)(w:Int):Bool:=inB (meanLo (thA c k) k.s) w (meanHi (thA c k) k.s)
def rightP (c:Clr)(l:List LookT)(v:Int)(x:Nat→Int)(out:List Int)(i:Nat):Bool:= !(decide ((l.getD i k0).v=v))||(inL out i||seeB c (l.getD i k0) (x (l.getD i k0).h.toNat))
def rightB (c:Clr)(l:List LookT)(v:Int)(x:Nat→Int)(out:List Int):Bool:=allB (rightP c l v x out) l.length
theorem rightP_no {c:Clr} {l:List LookT} {v:Int} {x:Nat→Int} {out:List Int} {i:Nat}(h1:(l.getD i k0).v=v)(h2:inL out i=false)(h3:seeB c (l.getD i k0) (x (l.getD i k0).h.toNat)=false):rightP c l v x out i=false:=by
  unfold rightP;rw [h2,h3,decide_eq_true h1];rfl
theorem rightP_v {c:Clr} {l:List LookT} {v:Int} {x:Nat→Int} {out:List Int} {i:Nat}(h1:¬(l.getD i k0).v=v):rightP c l v x out i=true:=by
  unfold rightP;rw [decide_eq_false h1];rfl
theorem rightP_in {c:Clr} {l:List LookT} {v:Int} {x:Nat→Int} {out:List Int} {i:Nat}(h2:inL out i=true):rightP c l v x out i=true:=by
  unfold rightP;rw [h2];simp
theorem rightP_see {c:Clr} {l:List LookT} {v:Int} {x:Nat→Int} {out:List Int} {i:Nat}(h3:seeB c (l.getD i k0) (x (l.getD i k0).h.toNat)=true):rightP c l v x out i=true:=by
  unfold rightP;rw [h3];simp
theorem rightB_no {c:Clr} {l:List LookT} {v:Int} {x:Nat→Int} {out:List Int} {i:Nat}(hi:i<l.length)(h:rightP c l v x out i=false):rightB c l v x out=false:=by
  unfold rightB;rw [allB_f];intro q;rw [q i hi]at h;cases h
theorem rightB_yes {c:Clr} {l:List LookT} {v:Int} {x:Nat→Int} {out:List Int}(h:∀i,i<l.length→rightP c l v x out i=true):rightB c l v x out=true:=by
  unfold rightB;rw [allB_t];exact h
def fUp (p:Int→Bool):Nat→Int→Int
  |0,s=>s
  |n+1,s=>if p s=true then s else fUp p n (s+1)
def fDn (p:Int→Bool):Nat→Int→Int
  |0,s=>s
  |n+1,s=>if p s=true then s else fDn p n (s-1)
theorem fUp_stop {p:Int→Bool} {n:Nat} {s:Int}(h:p s=true):fUp p n s=s:=by
  cases n with
  |zero=>rfl
  |succ n=>simp [fUp,h]
theorem fUp_go {p:Int→Bool} {n:Nat} {s:Int}(hn:0<n)(h:p s=false):fUp p n s=fUp p (n-1) (s+1):=by
  cases n with
  |zero=>omega
  |succ n=>simp [fUp,h]
theorem fDn_stop {p:Int→Bool} {n:Nat} {s:Int}(h:p s=true):fDn p n s=s:=by
  cases n with
  |zero=>rfl
  |succ n=>simp [fDn,h]
theorem fDn_go {p:Int→Bool} {n:Nat} {s:Int}(hn:0<n)(h:p s=false):fDn p n s=fDn p (n-1) (s-1):=by
  cases n with
  |zero=>omega
  |succ n=>simp [fDn,h]
theorem fUp_spec {p:Int→Bool}:∀(n:Nat) (s:Int),s≤fUp p n s∧fUp p n s≤s+n∧(∀t,s≤t→t<fUp p n s→p t=false)∧(fUp p n s<s+n→p (fUp p n s)=true):=by
  intro n
  induction n with
  |zero=>intro s;simp only [fUp];exact⟨by omega,by omega,fun t h1 h2=>by omega,fun h=>by omega⟩
  | succ n ih=>
    intro s
    cases h:p s with
    |true=>rw [fUp_stop h];exact⟨by omega,by omega,fun t h1 h2=>by omega,fun _=>h⟩
    | false=>
      rw [fUp_go (by omega) h,Nat.add_sub_cancel]
      have:=ih (s+1)
      refine⟨by omega,by omega,fun t h1 h2=> ?_,fun q=>this.2.2.2 (by omega)⟩
      by_cases e:t=s
      · rw [e];exact h
      · exact this.2.2.1 t (by omega) h2
theorem fDn_spec {p:Int→Bool}:∀(n:Nat) (s:Int),fDn p n s≤s∧s-n≤fDn p n s∧(∀t,t≤s→fDn p n s<t→p t=false)∧(s-n<fDn p n s→p (fDn p n s)=true):=by
  intro n
  induction n with
  |zero=>intro s;simp only [fDn];exact⟨by omega,by omega,fun t h1 h2=>by omega,fun h=>by omega⟩
  | succ n ih=>
    intro s
    cases h:p s with
    |true=>rw [fDn_stop h];exact⟨by omega,by omega,fun t h1 h2=>by omega,fun _=>h⟩
    | false=>
      rw [fDn_go (by omega) h,Nat.add_sub_cancel]
      have:=ih (s-1)
      refine⟨by omega,by omega,fun t h1 h2=> ?_,fun q=>this.2.2.2 (by omega)⟩
      by_cases e:t=s
      · rw [e];exact h
      · exact this.2.2.1 t (by omega) h2
end Go.Proofs.Yteelocfbbhchcaa

namespace Go.Proofs.Yteelocfbbhchcaa
open Go Go.Eng Go.Proofs
set_option maxRecDepth 10000
theorem index118 (o:List Int)(v:Int)(hfew:o.length≤1000):FSpec Try.prog 118 [(.sl 1 (.sym fun _=>zi (o).length) (fun ix=>[.int .i64 (.sym fun _=>(o).getD ix.den.toNat 0)])),(.int .i64 (.sym fun _=>v))] [] (fun r _=>r=(.int .i64 (.sym fun _=>fidx (fun j=> !(decide (o.getD j 0=v))) o.length 0))):=by
  refine FSpec.is fun R hR=>qX (sc:=sc118) tyok mix Try.func118 rfl Try.call118 (by kernel_rfl) (by kernel_rfl) ?_
  generalize Try.prog=P
  cbv
  repeat' (first
      |fail)
  all_goals first
    |skip
  refine⟨none,[],{i:Nat // i≤o.length∧fidx (fun j=> !(decide (o.getD j 0=v))) o.length 0=fidx (fun j=> !(decide (o.getD j 0=v))) (o.length-i) i},fun x=>⟨[(0,(.sl 1 (.sym fun _=>zi (o).length) (fun ix=>[.int .i64 (.sym fun _=>(o).getD ix.den.toNat 0)]))),(1,(.int .i64 (.sym fun _=>v))),(7,(.int .i64 (.sym fun _=>zi o.length))),(8,(.int .i64 (.sym fun _=>zi x.1)))],[],20⟩,fun x=>o.length-x.1,?_,?_⟩
  · refine⟨⟨0,by omega,rfl⟩,?_⟩
    cbv
    repeat' (first
      |with_reducible refine hold ?_ ?_
      |with_reducible refine And.intro ?_ ?_)
    all_goals first
      |trivial
      |exact qN (qE (by rfl))
      |exact qN (Fit.refl _)
      |skip
  · rintro⟨i,hi,hr⟩
    cbv
    repeat' (first
        |with_reducible refine hold ?_ ?_
        |with_reducible refine And.intro ?_ ?_
        |(with_reducible intro hcd;(try simp only [zA,zB,zC,zD,zE,zF,zG,zH,zI,zJ,zK,zL,zM,zN,zO,zP]at hcd);try cbv)
        |fail)
    all_goals first
      |((try simp only [qW]at *);(try simp only [zQ,zA,zB,zC,zD,zE,zF,zG,zH,zI,zJ,zK,zL,zM,zN,zO,zP,zR,zS]at *);first|(refine qO ?_;omega)|(simp only [Hold];omega))
      |(subst hR;(refine qE ?_;(try simp only [qW]at *);(try simp only [zQ,zA,zB,zC,zD,zE,zF,zG,zH,zI,zJ,zK,zL,zM,zN,zO,zP,zR,zS]at *);rw [hr,fidx_stop (by omega) (by simp only [Bool.not_eq_false',decide_eq_true_eq];omega)]);done)
      |(subst hR;(refine qE ?_;(try simp only [qW]at *);(try simp only [zQ,zA,zB,zC,zD,zE,zF,zG,zH,zI,zJ,zK,zL,zM,zN,zO,zP,zR,zS]at *);rw [hr,show o.length-i=0 by omega];rfl);done)
      |((try simp only [zQ,zA,zB,zC,zD,zE,zF,zG,zH,zI,zJ,zK,zL,zM,zN,zO,zP,zR,zS]at *);refine⟨⟨i+1,by omega,by rw [hr,fidx_go (by omega) (by simp only [Bool.not_eq_true',decide_eq_false_iff_not];omega)];(try congr 1)<;>omega⟩,by simp only [];omega,?_⟩;cbv;(repeat' (first|with_reducible refine hold ?_ ?_|with_reducible refine And.intro ?_ ?_));(all_goals first|trivial|exact qN (qE (by rfl))|exact qN (qG (by rfl))|exact qN (Fit.refl _)|exact qM (qL _)|(refine qN (qE ?_);(try simp only [qW]at *);simp only [zQ,zA,zB,zC,zD,zE,zF,zG,zH,zI,zJ,zK,zL,zM,zN,zO,zP,zR,zS]at *;omega)|skip))
      |skip
theorem contains108 (o:List Int)(v:Int)(hfew:o.length≤1000):FSpec Try.prog 108 [(.sl 1 (.sym fun _=>zi (o).length) (fun ix=>[.int .i64 (.sym fun _=>(o).getD ix.den.toNat 0)])),(.int .i64 (.sym fun _=>v))] [] (fun r _=>r=(.bool (.sym fun _=>inL o v))):=by
  have c118:=index118 o v hfew
  refine FSpec.is fun R hR=>qX (sc:=sc108) tyok mix Try.func108 rfl Try.call108 (by kernel_rfl) (by kernel_rfl) ?_
  generalize Try.prog=P at c118⊢
  cbv
  repeat' (first
      | (refine qQ ?_ (c118) ?hfit
         case hfit=>((repeat' (first|exact qB|refine qD ?_ ?_|exact qE (by rfl)|exact qG (by rfl)|exact Fit.refl _|exact qA|refine qC ?_ rfl ?_));done)
         try cbv)
      |fail)
  all_goals first
    |(subst hR;(repeat' (first|exact qA|exact qB|refine qC ?_ rfl ?_|refine qD ?_ ?_|exact qE (by rfl)|exact qG (by rfl)|exact Fit.refl _|exact qH _|(refine qE ?_;(try simp only [qW]at *);simp only [zQ,zA,zB,zC,zD,zE,zF,zG,zH,zI,zJ,zK,zL,zM,zN,zO,zP,zR,zS]at *;omega)));done)
    |skip
theorem ixh (x:Nat→Int)(h:Int):x ((h*((1:Nat):Int)+((0:Nat):Int)).toNat)=x h.toNat:=by
  rw [show h*((1:Nat):Int)+((0:Nat):Int)=h by omega]
theorem right91 (c:Clr)(l:List LookT)(v:Int)(x:Nat→Int)(o:List Int)(hl:LooksIn c l)(h8:c.hr≤8)(ho:o.length≤1000):FSpec Try.prog 91 [(wpS c l),(.int .i64 (.sym fun _=>v)),(.agg [(.arr 9 (fun ix=>(.int .i64 (.sym fun _=>x ix.den.toNat))))]),(.sl 1 (.sym fun _=>zi (o).length) (fun ix=>[.int .i64 (.sym fun _=>(o).getD ix.den.toNat 0)]))] [] (fun r _=>r=(.bool (.sym fun _=>rightB c l v x o))):=by
  have c108:=fun (i:Nat)=>contains108 o (i:Int) ho
  have c94:=fun (i:Nat) (n:Int) (hn:n=x (l.getD i k0).h.toNat)=>(show FSpec Try.prog 94 [(.agg [(.int .i64 (.sym fun _=>meanLo (thA c (l.getD i k0)) (l.getD i k0).s)),(.int .i64 (.sym fun _=>meanHi (thA c (l.getD i k0)) (l.getD i k0).s))]),(.int .i64 (.sym fun _=>n))] [] (fun r _=>r=(.bool (.sym fun _=>seeB c (l.getD i k0) (x (l.getD i k0).h.toNat))))from hn▸has94 (meanLo (thA c (l.getD i k0)) (l.getD i k0).s) (meanHi (thA c (l.getD i k0)) (l.getD i k0).s) n)
  refine FSpec.is fun R hR=>qX (sc:=sc91) tyok mix Try.func91 rfl Try.call91 (by kernel_rfl) (by kernel_rfl) ?_
  generalize Try.prog=P at c108 c94⊢
  cbv
  have hn:=hl.n
  repeat' (first
      |fail)
  all_goals first
    |skip
  refine⟨none,[],{i:Nat // i≤l.length∧∀j,j<i→rightP c l v x o j=true},fun y=>⟨[(0,(wpS c l)),(1,(.int .i64 (.sym fun _=>v))),(3,(.sl 1 (.sym fun _=>zi (o).length) (fun ix=>[.int .i64 (.sym fun _=>(o).getD ix.den.toNat 0)]))),(6,.own 0 0),(14,(lksS l)),(15,(.int .i64 (.sym fun _=>zi l.length))),(16,(.int .i64 (.sym fun _=>zi y.1)))],[(0,.cells [(.arr 9 (fun ix=>(.int .i64 (.sym fun _=>x ix.den.toNat))))] 135)],60⟩,fun y=>l.length-y.1,?_,?_⟩
  · refine⟨⟨0,by omega,fun j hj=>by omega⟩,?_⟩
    cbv
    repeat' (first
      |with_reducible refine hold ?_ ?_
      |with_reducible refine And.intro ?_ ?_)
    all_goals first
      |trivial
      |exact qN (qE (by rfl))
      |exact qN (Fit.refl _)
      |exact qM (qL _)
      |skip
  · rintro ⟨i,hi,hq⟩
    cbv
    repeat' (first
        |with_reducible refine hold ?_ ?_
        |with_reducible refine And.intro ?_ ?_
        |(with_reducible intro hcd;(try simp only [zA,zB,zC,zD,zE,zF,zG,zH,zI,zJ,zK,zL,zM,zN,zO,zP]at hcd);try cbv)
        | (refine qQ ?_ (c108 i) ?hfit
           case hfit=>((repeat' (first|exact qB|refine qD ?_ ?_|exact qE (by rfl)|exact qG (by rfl)|exact Fit.refl _|exact qA|refine qC ?_ rfl ?_));done)
           try cbv)
        | (refine qQ ?_ (c94 i _ (ixh x _)) ?hfit
           case hfit=>((repeat' (first|exact qB|refine qD ?_ ?_|exact qE (by rfl)|exact qG (by rfl)|exact Fit.refl _|exact qA|refine qC ?_ rfl ?_));done)
           try cbv)
        |fail)
    all_goals first
      |((try simp only [qW]at *);(try simp only [zQ,zA,zB,zC,zD,zE,zF,zG,zH,zI,zJ,zK,zL,zM,zN,zO,zP,zR,zS]at *);first|(refine qO ?_;omega)|(simp only [Hold];omega))
      |(subst hR;(refine qG ?_;(try simp only [qW]at *);(try simp only [zQ,zA,zB,zC,zD,zE,zF,zG,zH,zI,zJ,zK,zL,zM,zN,zO,zP,zR,zS]at *);exact(rightB_no (i:=i) (by omega) (rightP_no (by assumption) (by assumption) (by assumption))).symm);done)
      |(subst hR;(refine qG ?_;(try simp only [qW]at *);(try simp only [zQ,zA,zB,zC,zD,zE,zF,zG,zH,zI,zJ,zK,zL,zM,zN,zO,zP,zR,zS]at *);exact(rightB_yes fun j hj=>hq j (by omega)).symm);done)
      |((have hk:=lookB_iff.1 (hl.i i (by((try simp only [qW]at *);(try simp only [zQ,zA,zB,zC,zD,zE,zF,zG,zH,zI,zJ,zK,zL,zM,zN,zO,zP,zR,zS]at *);omega))));(have q0:=hk.h0);(have q1:=hk.h1);(try simp only [qW]at *);(try simp only [zQ,zA,zB,zC,zD,zE,zF,zG,zH,zI,zJ,zK,zL,zM,zN,zO,zP,zR,zS]at *);simp only [Hold];first|omega|exact⟨by omega,by omega⟩)
      |((try simp only [zQ,zA,zB,zC,zD,zE,zF,zG,zH,zI,zJ,zK,zL,zM,zN,zO,zP,zR,zS]at *);refine⟨⟨i+1,by omega,fun j hj=>(Nat.lt_or_ge j i).elim (hq j) fun q=>by rw [show j=i by omega];exact rightP_v (by assumption)⟩,by simp only [];omega,?_⟩;cbv;(repeat' (first|with_reducible refine hold ?_ ?_|with_reducible refine And.intro ?_ ?_));(all_goals first|trivial|exact qN (qE (by rfl))|exact qN (qG (by rfl))|exact qN (Fit.refl _)|exact qM (qL _)|(refine qN (qE ?_);(try simp only [qW]at *);simp only [zQ,zA,zB,zC,zD,zE,zF,zG,zH,zI,zJ,zK,zL,zM,zN,zO,zP,zR,zS]at *;omega)|(refine qM (qK ?_);(repeat' (first|exact qA|exact qB|refine qC ?_ rfl ?_|refine qD ?_ ?_|exact qE (by rfl)|exact qG (by rfl)|exact Fit.refl _|exact qH _|(refine qE ?_;(try simp only [qW]at *);simp only [zQ,zA,zB,zC,zD,zE,zF,zG,zH,zI,zJ,zK,zL,zM,zN,zO,zP,zR,zS]at *;omega)));done)|skip))
      |((try simp only [zQ,zA,zB,zC,zD,zE,zF,zG,zH,zI,zJ,zK,zL,zM,zN,zO,zP,zR,zS]at *);refine⟨⟨i+1,by omega,fun j hj=>(Nat.lt_or_ge j i).elim (hq j) fun q=>by rw [show j=i by omega];exact rightP_in (by assumption)⟩,by simp only [];omega,?_⟩;cbv;(repeat' (first|with_reducible refine hold ?_ ?_|with_reducible refine And.intro ?_ ?_));(all_goals first|trivial|exact qN (qE (by rfl))|exact qN (qG (by rfl))|exact qN (Fit.refl _)|exact qM (qL _)|(refine qN (qE ?_);(try simp only [qW]at *);simp only [zQ,zA,zB,zC,zD,zE,zF,zG,zH,zI,zJ,zK,zL,zM,zN,zO,zP,zR,zS]at *;omega)|(refine qM (qK ?_);(repeat' (first|exact qA|exact qB|refine qC ?_ rfl ?_|refine qD ?_ ?_|exact qE (by rfl)|exact qG (by rfl)|exact Fit.refl _|exact qH _|(refine qE ?_;(try simp only [qW]at *);simp only [zQ,zA,zB,zC,zD,zE,zF,zG,zH,zI,zJ,zK,zL,zM,zN,zO,zP,zR,zS]at *;omega)));done)|skip))
      |((try simp only [zQ,zA,zB,zC,zD,zE,zF,zG,zH,zI,zJ,zK,zL,zM,zN,zO,zP,zR,zS]at *);refine⟨⟨i+1,by omega,fun j hj=>(Nat.lt_or_ge j i).elim (hq j) fun q=>by rw [show j=i by omega];exact rightP_see (by assumption)⟩,by simp only [];omega,?_⟩;cbv;(repeat' (first|with_reducible refine hold ?_ ?_|with_reducible refine And.intro ?_ ?_));(all_goals first|trivial|exact qN (qE (by rfl))|exact qN (qG (by rfl))|exact qN (Fit.refl _)|exact qM (qL _)|(refine qN (qE ?_);(try simp only [qW]at *);simp only [zQ,zA,zB,zC,zD,zE,zF,zG,zH,zI,zJ,zK,zL,zM,zN,zO,zP,zR,zS]at *;omega)|(refine qM (qK ?_);(repeat' (first|exact qA|exact qB|refine qC ?_ rfl ?_|refine qD ?_ ?_|exact qE (by rfl)|exact qG (by rfl)|exact Fit.refl _|exact qH _|(refine qE ?_;(try simp only [qW]at *);simp only [zQ,zA,zB,zC,zD,zE,zF,zG,zH,zI,zJ,zK,zL,zM,zN,zO,zP,zR,zS]at *;omega)));done)|skip))
      |skip
end Go.Proofs.Yteelocfbbhchcaa

namespace Go.Proofs.Yteelocfbbhchcaa
open Go Go.Eng Go.Proofs
set_option maxRecDepth 10000
def wayR (p:Int→Int→Bool)(d:Int→Int→Int→Bool)(sl sh rt:Int):List (Int×Int):=
  if sh<fUp (fun s=>p s rt) (sh-sl+1).toNat sl then []
  else if d (fUp (fun s=>p s rt) (sh-sl+1).toNat sl) (fDn (fun s=>p s rt) (sh-sl+1).toNat sh) rt=true
    then [(fUp (fun s=>p s rt) (sh-sl+1).toNat sl,rt),(fDn (fun s=>p s rt) (sh-sl+1).toNat sh,rt)]
    else [(fUp (fun s=>p s rt) (sh-sl+1).toNat sl,rt)]
def waysN (p:Int→Int→Bool)(d:Int→Int→Int→Bool)(sl sh rl:Int):Nat→List (Int×Int)
  |0=>[]
  |n+1=>waysN p d sl sh rl n++wayR p d sl sh (rl+n)
section
variable {p:Int→Int→Bool} {d:Int→Int→Int→Bool} {sl sh rl:Int}
theorem ways_pre {i:Nat}:∀{n:Nat},i≤n→∃r,waysN p d sl sh rl n=waysN p d sl sh rl i++r:=by
  intro n
  induction n with
  |zero=>intro h;exact⟨[],by rw [show i=0 by omega];simp⟩
  | succ n ih=>
    intro h
    by_cases e:i=n+1
    · exact⟨[],by rw [e];simp⟩
    · obtain⟨r,hr⟩:=ih (by omega)
      exact⟨r++wayR p d sl sh (rl+n),by simp only [waysN,hr,List.append_assoc]⟩
theorem ways_len {i n:Nat}(h:i≤n):(waysN p d sl sh rl i).length≤(waysN p d sl sh rl n).length:=by
  obtain⟨r,hr⟩:=ways_pre (p:=p) (d:=d) (sl:=sl) (sh:=sh) (rl:=rl) h
  rw [hr,List.length_append];omega
theorem ways_get {i n k:Nat}(h:i≤n)(hk:k<(waysN p d sl sh rl i).length):(waysN p d sl sh rl n).getD k (0,0)=(waysN p d sl sh rl i).getD k (0,0):=by
  obtain⟨r,hr⟩:=ways_pre (p:=p) (d:=d) (sl:=sl) (sh:=sh) (rl:=rl) h
  rw [hr,List.getD_eq_getElem?_getD,List.getD_eq_getElem?_getD,List.getElem?_append_left hk]
theorem ways_none {i:Nat}(h:sh<fUp (fun s=>p s (rl+i)) (sh-sl+1).toNat sl):(waysN p d sl sh rl (i+1)).length=(waysN p d sl sh rl i).length:=by
  simp only [waysN,wayR,if_pos h,List.length_append,List.length_nil];omega
theorem ways_low {i n:Nat}(hi:i<n)(h:fUp (fun s=>p s (rl+i)) (sh-sl+1).toNat sl≤sh):
    (waysN p d sl sh rl i).length<(waysN p d sl sh rl n).length∧(waysN p d sl sh rl n).getD (waysN p d sl sh rl i).length (0,0)=(fUp (fun s=>p s (rl+i)) (sh-sl+1).toNat sl,rl+i):=by
  have e:∃r,waysN p d sl sh rl (i+1)=waysN p d sl sh rl i++((fUp (fun s=>p s (rl+i)) (sh-sl+1).toNat sl,rl+(i:Int))::r):=by
    simp only [waysN,wayR,if_neg (show ¬sh<fUp (fun s=>p s (rl+i)) (sh-sl+1).toNat sl by omega)]
    split
    · exact⟨_,rfl⟩
    · exact⟨[],rfl⟩
  obtain⟨r,hr⟩:=e
  have hl:(waysN p d sl sh rl i).length<(waysN p d sl sh rl (i+1)).length:=by rw [hr,List.length_append,List.length_cons];omega
  refine⟨Nat.lt_of_lt_of_le hl (ways_len (by omega)),?_⟩
  rw [ways_get (i:=i+1) (by omega) hl,hr,List.getD_eq_getElem?_getD,List.getElem?_append_right (Nat.le_refl _),Nat.sub_self]
  rfl
theorem ways_one {i:Nat}(h:fUp (fun s=>p s (rl+i)) (sh-sl+1).toNat sl≤sh)(hd:d (fUp (fun s=>p s (rl+i)) (sh-sl+1).toNat sl) (fDn (fun s=>p s (rl+i)) (sh-sl+1).toNat sh) (rl+i)=false):
    (waysN p d sl sh rl (i+1)).length=(waysN p d sl sh rl i).length+1:=by
  simp only [waysN,wayR,if_neg (show ¬sh<fUp (fun s=>p s (rl+i)) (sh-sl+1).toNat sl by omega),hd,Bool.false_eq_true,if_false,List.length_append,List.length_cons,List.length_nil]
theorem ways_two {i n:Nat}(hi:i<n)(h:fUp (fun s=>p s (rl+i)) (sh-sl+1).toNat sl≤sh)(hd:d (fUp (fun s=>p s (rl+i)) (sh-sl+1).toNat sl) (fDn (fun s=>p s (rl+i)) (sh-sl+1).toNat sh) (rl+i)=true):
    (waysN p d sl sh rl (i+1)).length=(waysN p d sl sh rl i).length+2∧(waysN p d sl sh rl i).length+1<(waysN p d sl sh rl n).length∧(waysN p d sl sh rl n).getD ((waysN p d sl sh rl i).length+1) (0,0)=(fDn (fun s=>p s (rl+i)) (sh-sl+1).toNat sh,rl+i):=by
  have hr:waysN p d sl sh rl (i+1)=waysN p d sl sh rl i++[(fUp (fun s=>p s (rl+i)) (sh-sl+1).toNat sl,rl+(i:Int)),(fDn (fun s=>p s (rl+i)) (sh-sl+1).toNat sh,rl+(i:Int))]:=by
    simp only [waysN,wayR,if_neg (show ¬sh<fUp (fun s=>p s (rl+i)) (sh-sl+1).toNat sl by omega),hd,if_true]
  have hl:(waysN p d sl sh rl (i+1)).length=(waysN p d sl sh rl i).length+2:=by rw [hr,List.length_append];rfl
  have hm:=ways_len (p:=p) (d:=d) (sl:=sl) (sh:=sh) (rl:=rl) (show i+1≤n by omega)
  refine⟨hl,by omega,?_⟩
  rw [ways_get (i:=i+1) (by omega) (by omega),hr,List.getD_eq_getElem?_getD,List.getElem?_append_right (by omega),show(waysN p d sl sh rl i).length+1-(waysN p d sl sh rl i).length=1 by omega]
  rfl
theorem fUp_in (q:Int→Bool) {st:Int}(h0:sl≤st)(h1:st≤sh)(h:q st=true):sl≤fUp q (sh-sl+1).toNat sl∧fUp q (sh-sl+1).toNat sl≤st∧q (fUp q (sh-sl+1).toNat sl)=true:=by
  have s:=fUp_spec (p:=q) (sh-sl+1).toNat sl
  have a:fUp q (sh-sl+1).toNat sl≤st:=by
    rcases Int.lt_or_le st (fUp q (sh-sl+1).toNat sl)with h2|h2
    · rw [s.2.2.1 st h0 h2]at h;cases h
    · exact h2
  exact⟨s.1,a,s.2.2.2 (by omega)⟩
theorem fDn_in (q:Int→Bool) {st:Int}(h0:sl≤st)(h1:st≤sh)(h:q st=true):fDn q (sh-sl+1).toNat sh≤sh∧st≤fDn q (sh-sl+1).toNat sh∧q (fDn q (sh-sl+1).toNat sh)=true:=by
  have s:=fDn_spec (p:=q) (sh-sl+1).toNat sh
  have a:st≤fDn q (sh-sl+1).toNat sh:=by
    rcases Int.lt_or_le (fDn q (sh-sl+1).toNat sh) st with h2|h2
    · rw [s.2.2.1 st h1 h2]at h;cases h
    · exact h2
  exact⟨s.1,a,s.2.2.2 (by omega)⟩
theorem mem_wayR {rt:Int} {w:Int×Int}(hs:sl≤sh)(h:w∈wayR p d sl sh rt):p w.1 w.2=true∧sl≤w.1∧w.1≤sh∧w.2=rt:=by
  unfold wayR at h
  have s:=fUp_spec (p:=fun s=>p s rt) (sh-sl+1).toNat sl
  split at h
  · cases h
  · rename_i hn
    have hp:=s.2.2.2 (by omega)
    have t:=fDn_in (sl:=sl) (sh:=sh) (fun s=>p s rt) s.1 (by omega) hp
    split at h
    · simp only [List.mem_cons,List.not_mem_nil,or_false]at h
      rcases h with h|h<;>subst h
      · exact⟨hp,s.1,by simp only [];omega,rfl⟩
      · exact⟨t.2.2,by simp only [];omega,t.1,rfl⟩
    · simp only [List.mem_cons,List.not_mem_nil,or_false]at h
      subst h
      exact⟨hp,s.1,by simp only [];omega,rfl⟩
theorem mem_ways {n:Nat} {w:Int×Int}(hs:sl≤sh)(h:w∈waysN p d sl sh rl n):p w.1 w.2=true∧sl≤w.1∧w.1≤sh∧rl≤w.2∧w.2<rl+n:=by
  induction n with
  |zero=>cases h
  | succ n ih=>
    simp only [waysN,List.mem_append]at h
    rcases h with h|h
    · have:=ih h;exact⟨this.1,this.2.1,this.2.2.1,this.2.2.2.1,by omega⟩
    · have:=mem_wayR hs h;exact⟨this.1,this.2.1,this.2.2.1,by omega,by omega⟩
theorem mem_waysN {i n:Nat} {w:Int×Int}(hi:i<n)(h:w∈wayR p d sl sh (rl+i)):w∈waysN p d sl sh rl n:=by
  obtain⟨r,hr⟩:=ways_pre (p:=p) (d:=d) (sl:=sl) (sh:=sh) (rl:=rl) (show i+1≤n by omega)
  rw [hr]
  simp only [waysN,List.mem_append]
  exact Or.inl (Or.inr h)
theorem ways_lo {n:Nat} {st rt:Int}(h0:sl≤st)(h1:st≤sh)(r0:rl≤rt)(r1:rt<rl+n)(h:p st rt=true):∃a,(a,rt)∈waysN p d sl sh rl n∧a≤st:=by
  have s:=fUp_in (sl:=sl) (sh:=sh) (fun s=>p s rt) h0 h1 h
  refine⟨fUp (fun s=>p s rt) (sh-sl+1).toNat sl,mem_waysN (i:=(rt-rl).toNat) (by omega) ?_,s.2.1⟩
  rw [show rl+((rt-rl).toNat:Int)=rt by omega]
  unfold wayR
  rw [if_neg (by omega)]
  split<;>simp
end
def fitW (c:Clr)(l:List LookT)(v rm:Int)(o:List Int)(st rt:Int):Bool:=rightB c l v (atW c.hr rm st rt) o
def difW (c:Clr)(rm a b rt:Int):Bool:= !decide ((List.range 9).map (atW c.hr rm a rt)=(List.range 9).map (atW c.hr rm b rt))
def vatA (c:Clr)(v:Int):VatT:=c.vs.getD v.toNat v0
def waysC (c:Clr)(l:List LookT)(v rm:Int)(o:List Int):List (Int×Int):=waysN (fitW c l v rm o) (difW c rm) (vatA c v).sl (vatA c v).sh (vatA c v).rl ((vatA c v).rh-(vatA c v).rl+1).toNat
end Go.Proofs.Yteelocfbbhchcaa

namespace Go.Proofs.Yteelocfbbhchcaa
open Go Go.Eng Go.Proofs
set_option maxRecDepth 10000
theorem zi_step {rt rl:Int} {i:Nat}(h:rt=rl+zi i):rt+1=rl+zi (i+1):=by
  rw [h];simp only [zi_den];omega
theorem dif_t {c:Clr} {rm a b rt:Int}(h:decide (dens [IX.sym fun _=>atW c.hr rm a rt 0,IX.sym fun _=>atW c.hr rm a rt 1,IX.sym fun _=>atW c.hr rm a rt 2,IX.sym fun _=>atW c.hr rm a rt 3,IX.sym fun _=>atW c.hr rm a rt 4,IX.sym fun _=>atW c.hr rm a rt 5,IX.sym fun _=>atW c.hr rm a rt 6,IX.sym fun _=>atW c.hr rm a rt 7,IX.sym fun _=>atW c.hr rm a rt 8]=dens [IX.sym fun _=>atW c.hr rm b rt 0,IX.sym fun _=>atW c.hr rm b rt 1,IX.sym fun _=>atW c.hr rm b rt 2,IX.sym fun _=>atW c.hr rm b rt 3,IX.sym fun _=>atW c.hr rm b rt 4,IX.sym fun _=>atW c.hr rm b rt 5,IX.sym fun _=>atW c.hr rm b rt 6,IX.sym fun _=>atW c.hr rm b rt 7,IX.sym fun _=>atW c.hr rm b rt 8])=false):difW c rm a b rt=true:=by
  have e:difW c rm a b rt = !decide (dens [IX.sym fun _=>atW c.hr rm a rt 0,IX.sym fun _=>atW c.hr rm a rt 1,IX.sym fun _=>atW c.hr rm a rt 2,IX.sym fun _=>atW c.hr rm a rt 3,IX.sym fun _=>atW c.hr rm a rt 4,IX.sym fun _=>atW c.hr rm a rt 5,IX.sym fun _=>atW c.hr rm a rt 6,IX.sym fun _=>atW c.hr rm a rt 7,IX.sym fun _=>atW c.hr rm a rt 8]=dens [IX.sym fun _=>atW c.hr rm b rt 0,IX.sym fun _=>atW c.hr rm b rt 1,IX.sym fun _=>atW c.hr rm b rt 2,IX.sym fun _=>atW c.hr rm b rt 3,IX.sym fun _=>atW c.hr rm b rt 4,IX.sym fun _=>atW c.hr rm b rt 5,IX.sym fun _=>atW c.hr rm b rt 6,IX.sym fun _=>atW c.hr rm b rt 7,IX.sym fun _=>atW c.hr rm b rt 8]):=rfl
  rw [e,h];rfl
theorem dif_f {c:Clr} {rm a b rt:Int}(h:decide (dens [IX.sym fun _=>atW c.hr rm a rt 0,IX.sym fun _=>atW c.hr rm a rt 1,IX.sym fun _=>atW c.hr rm a rt 2,IX.sym fun _=>atW c.hr rm a rt 3,IX.sym fun _=>atW c.hr rm a rt 4,IX.sym fun _=>atW c.hr rm a rt 5,IX.sym fun _=>atW c.hr rm a rt 6,IX.sym fun _=>atW c.hr rm a rt 7,IX.sym fun _=>atW c.hr rm a rt 8]=dens [IX.sym fun _=>atW c.hr rm b rt 0,IX.sym fun _=>atW c.hr rm b rt 1,IX.sym fun _=>atW c.hr rm b rt 2,IX.sym fun _=>atW c.hr rm b rt 3,IX.sym fun _=>atW c.hr rm b rt 4,IX.sym fun _=>atW c.hr rm b rt 5,IX.sym fun _=>atW c.hr rm b rt 6,IX.sym fun _=>atW c.hr rm b rt 7,IX.sym fun _=>atW c.hr rm b rt 8])=true):difW c rm a b rt=false:=by
  have e:difW c rm a b rt = !decide (dens [IX.sym fun _=>atW c.hr rm a rt 0,IX.sym fun _=>atW c.hr rm a rt 1,IX.sym fun _=>atW c.hr rm a rt 2,IX.sym fun _=>atW c.hr rm a rt 3,IX.sym fun _=>atW c.hr rm a rt 4,IX.sym fun _=>atW c.hr rm a rt 5,IX.sym fun _=>atW c.hr rm a rt 6,IX.sym fun _=>atW c.hr rm a rt 7,IX.sym fun _=>atW c.hr rm a rt 8]=dens [IX.sym fun _=>atW c.hr rm b rt 0,IX.sym fun _=>atW c.hr rm b rt 1,IX.sym fun _=>atW c.hr rm b rt 2,IX.sym fun _=>atW c.hr rm b rt 3,IX.sym fun _=>atW c.hr rm b rt 4,IX.sym fun _=>atW c.hr rm b rt 5,IX.sym fun _=>atW c.hr rm b rt 6,IX.sym fun _=>atW c.hr rm b rt 7,IX.sym fun _=>atW c.hr rm b rt 8]):=rfl
  rw [e,h];rfl
theorem hold_geq {f g:Unit→Nat}(h:f ()=g ()):Hold (GEq (.atg f) (.atg g)):=h
theorem hold_yield {l L:Nat} {a b:SV} {n:Nat}(h:n<L)(hf:Fit a b):Hold (l=l∧n<L∧Le a b):=⟨rfl,h,hf.le⟩
theorem ways101 (c:Clr)(l:List LookT)(rm v:Int)(o:List Int):FSpec Try.prog 101 [(wpS c l),(.int .i64 (.sym fun _=>rm)),(.int .i64 (.sym fun _=>v)),(.sl 1 (.sym fun _=>zi (o).length) (fun ix=>[.int .i64 (.sym fun _=>(o).getD ix.den.toNat 0)]))] [] (fun r _=>r = .clo 113 [] [(.pp 0 [(wpS c l)]),.pp 0 [(.int .i64 (.sym fun _=>v))],.pp 0 [(.int .i64 (.sym fun _=>rm))],.pp 0 [(.sl 1 (.sym fun _=>zi (o).length) (fun ix=>[.int .i64 (.sym fun _=>(o).getD ix.den.toNat 0)]))]]):=by
  refine FSpec.is fun R hR=>qX (sc:=sc101) tyok mix Try.func101 rfl Try.call101 (by kernel_rfl) (by kernel_rfl) ?_
  generalize Try.prog=P
  cbv
  repeat' (first
      |fail)
  all_goals first
    |(subst hR;(repeat' (first|exact qA|exact qB|refine qC ?_ rfl ?_|refine qD ?_ ?_|exact qE (by rfl)|exact qG (by rfl)|exact Fit.refl _|exact qH _|(refine qE ?_;(try simp only [qW]at *);simp only [zQ,zA,zB,zC,zD,zE,zF,zG,zH,zI,zJ,zK,zL,zM,zN,zO,zP,zR,zS]at *;omega)));done)
    |skip
set_option maxHeartbeats 4000000 in
theorem of113 (c:Clr)(l:List LookT)(rm v:Int)(o:List Int)(hc:COk c)(hl:LooksIn c l)(hv0:0≤v)(hv1:v<c.vs.length)(hm0:0≤rm)(hm1:rm≤200)(ho:o.length≤1000):ISpec Try.prog 113 [(.pp 0 [(wpS c l)]),.pp 0 [(.int .i64 (.sym fun _=>v))],.pp 0 [(.int .i64 (.sym fun _=>rm))],.pp 0 [(.sl 1 (.sym fun _=>zi (o).length) (fun ix=>[.int .i64 (.sym fun _=>(o).getD ix.den.toNat 0)]))]] (waysC c l v rm o).length (fun n:Nat=>[(.agg [(.int .i64 (.sym fun _=>rm)),(.int .i64 (.sym fun _=>((waysC c l v rm o).getD n (0,0)).1)),(.int .i64 (.sym fun _=>((waysC c l v rm o).getD n (0,0)).2))])]):=by
  have heq135:=eqOk135
  have vok:=hc.ok.v v.toNat (by omega)
  have h8:=hc.ok.h8
  have h1:=hc.ok.h1
  obtain⟨el,hel⟩:∃el:Nat→List SV,el=(fun n:Nat=>[(.agg [(.int .i64 (.sym fun _=>rm)),(.int .i64 (.sym fun _=>((waysC c l v rm o).getD n (0,0)).1)),(.int .i64 (.sym fun _=>((waysC c l v rm o).getD n (0,0)).2))])]):=⟨_,rfl⟩
  have hpl:∀i,plainS (.tup (el i))=true:=fun i=>by rw [hel];rfl
  have help:∀n,el n=[(.agg [(.int .i64 (.sym fun _=>rm)),(.int .i64 (.sym fun _=>((waysC c l v rm o).getD n (0,0)).1)),(.int .i64 (.sym fun _=>((waysC c l v rm o).getD n (0,0)).2))])]:=fun n=>by rw [hel]
  rw [←hel]
  clear hel
  skip
  have c60:=fun (st rt:Int) (h:WayOk rm st rt)=>run60 c l rm st rt h h1 h8
  have c91:=fun (st rt:Int)=>(show FSpec Try.prog 91 [(wpS c l),(.int .i64 (.sym fun _=>v)),(.agg [(.arr 9 (fun ix=>(.int .i64 (.sym fun _=>atW c.hr rm st rt ix.den.toNat))))]),(.sl 1 (.sym fun _=>zi (o).length) (fun ix=>[.int .i64 (.sym fun _=>(o).getD ix.den.toNat 0)]))] [] (fun r _=>r=(.bool (.sym fun _=>fitW c l v rm o st rt)))from right91 c l v (atW c.hr rm st rt) o hl h8 ho)
  obtain⟨p,hp⟩:∃p,p=fitW c l v rm o:=⟨_,rfl⟩
  rw [←hp]at c91
  obtain⟨d,hd⟩:∃d,d=difW c rm:=⟨_,rfl⟩
  obtain⟨sl,hsl⟩:∃x,x=(c.vs.getD v.toNat v0).sl:=⟨_,rfl⟩
  obtain⟨sh,hsh⟩:∃x,x=(c.vs.getD v.toNat v0).sh:=⟨_,rfl⟩
  obtain⟨rl,hrl⟩:∃x,x=(c.vs.getD v.toNat v0).rl:=⟨_,rfl⟩
  obtain⟨rh,hrh⟩:∃x,x=(c.vs.getD v.toNat v0).rh:=⟨_,rfl⟩
  obtain⟨N,hN⟩:∃N,N=(rh-rl+1).toNat:=⟨_,rfl⟩
  have hwc:waysC c l v rm o=waysN p d sl sh rl N:=by rw [hp,hd,hsl,hsh,hrl,hN,hrh,hrl];rfl
  obtain⟨W,hW⟩:∃W,W=waysC c l v rm o:=⟨_,rfl⟩
  rw [←hW]at help hwc⊢
  obtain⟨w,hw⟩:∃w:Nat→Nat,w=fun i=>(waysN p d sl sh rl i).length:=⟨_,rfl⟩
  have w0:w 0=0:=by rw [hw];rfl
  have wL:w N=W.length:=by rw [hw,hwc]
  have wN:∀i:Nat,sh<fUp (fun s=>p s (rl+zi i)) (sh-sl+1).toNat sl→w (i+1)=w i:=fun i h=>by rw [hw];exact ways_none h
  have wA:∀i:Nat,i<N→fUp (fun s=>p s (rl+zi i)) (sh-sl+1).toNat sl≤sh→w i<W.length∧W.getD (w i) (0,0)=(fUp (fun s=>p s (rl+zi i)) (sh-sl+1).toNat sl,rl+zi i):=fun i hi h=>by rw [hw,hwc];exact ways_low hi h
  have wB:∀i:Nat,fUp (fun s=>p s (rl+zi i)) (sh-sl+1).toNat sl≤sh→d (fUp (fun s=>p s (rl+zi i)) (sh-sl+1).toNat sl) (fDn (fun s=>p s (rl+zi i)) (sh-sl+1).toNat sh) (rl+zi i)=false→w (i+1)=w i+1:=fun i h h'=>by rw [hw];exact ways_one h h'
  have wC:∀i:Nat,i<N→fUp (fun s=>p s (rl+zi i)) (sh-sl+1).toNat sl≤sh→d (fUp (fun s=>p s (rl+zi i)) (sh-sl+1).toNat sl) (fDn (fun s=>p s (rl+zi i)) (sh-sl+1).toNat sh) (rl+zi i)=true→w (i+1)=w i+2∧w i+1<W.length∧W.getD (w i+1) (0,0)=(fDn (fun s=>p s (rl+zi i)) (sh-sl+1).toNat sh,rl+zi i):=fun i hi h h'=>by rw [hw,hwc];exact ways_two hi h h'
  have hdd:∀a b rt,d a b rt=difW c rm a b rt:=fun a b rt=>by rw [hd]
  unfold vatOk at vok
  rw [←hsl,←hsh,←hrl,←hrh]at vok
  clear hwc hw hp hd
  obtain⟨L,hL⟩:∃L,L=W.length:=⟨_,rfl⟩
  rw [←hL]at wL wA wC⊢
  refine ispec_of_vc (sc:=sc113) tyok mix Try.func113 rfl Try.call113 (by kernel_rfl) (by kernel_rfl) fun y=> ?_
  generalize Try.prog=P at c60 c91 heq135⊢
  refine⟨rfl,rfl,hpl,?_⟩
  cbv
  repeat' (first
      |with_reducible refine hold ?_ ?_
      |fail)
  all_goals first
    |trivial
    |skip
  refine⟨none,[],{i:Nat // i≤N},fun x=>.atg fun _=>w x.1,fun x=>⟨[(0,.val (Value.func (Fn.yield y) ⟨[]⟩ ⟨[]⟩)),(1,(.pp 0 [(wpS c l)])),(2,.pp 0 [(.int .i64 (.sym fun _=>v))]),(3,.pp 0 [(.int .i64 (.sym fun _=>rm))]),(4,.pp 0 [(.sl 1 (.sym fun _=>zi (o).length) (fun ix=>[.int .i64 (.sym fun _=>(o).getD ix.den.toNat 0)]))]),(6,.own 8 0),(7,(.int .i64 (.sym fun _=>rl+zi x.1)))],[(8,.cells [(.int .i64 (.sym fun _=>sl)),(.int .i64 (.sym fun _=>sh)),(.int .i64 (.sym fun _=>rl)),(.int .i64 (.sym fun _=>rh))] 120)],60⟩,fun x=>N-x.1,?_,?_⟩
  · refine⟨⟨0,by omega⟩,?_⟩
    cbv
    repeat' (first
      |with_reducible refine hold ?_ ?_
      |with_reducible refine And.intro ?_ ?_)
    all_goals first
      |trivial
      |exact qN (Fit.refl _)
      |(refine qN (qE ?_);(try simp only [qW]at *);simp only [zQ,zA,zB,zC,zD,zE,zF,zG,zH,zI,zJ,zK,zL,zM,zN,zO,zP,zR,zS]at *;omega)
      |(refine qM (qK ?_);(repeat' (first|exact qA|exact qB|refine qC ?_ rfl ?_|refine qD ?_ ?_|exact qE (by rfl)|exact qG (by rfl)|exact Fit.refl _|exact qH _|(refine qE ?_;(try simp only [qW]at *);simp only [zQ,zA,zB,zC,zD,zE,zF,zG,zH,zI,zJ,zK,zL,zM,zN,zO,zP,zR,zS]at *;omega)));done)
      |(refine hold_geq ?_;simp only [];omega)
      |skip
  · rintro ⟨i, hi⟩
    cbv
    obtain⟨rt,hrt⟩:∃r,r=rl+zi i:=⟨_,rfl⟩
    have wNi:=wN i
    have wAi:=wA i
    have wBi:=wB i
    have wCi:=wC i
    have c91i:=fun s=>c91 s rt
    rw [←hrt]at wNi wAi wBi wCi
    obtain⟨q,hq⟩:∃q:Int→Bool,q=fun s=>p s rt:=⟨_,rfl⟩
    rw [←hq]at wNi wAi wBi wCi
    have hqs:∀s,p s rt=q s:=fun s=>by rw [hq]
    simp only [hqs]at c91i
    clear hqs hq
    repeat' (first
        |with_reducible refine And.intro ?_ ?_
        |(with_reducible intro hcd;(try simp only [zA,zB,zC,zD,zE,zF,zG,zH,zI,zJ,zK,zL,zM,zN,zO,zP]at hcd);try cbv)
        |fail)
    all_goals first
      |(show w i=L;rw [←wL];congr 1;((try simp only [qW]at *);(try simp only [zQ,zA,zB,zC,zD,zE,zF,zG,zH,zI,zJ,zK,zL,zM,zN,zO,zP,zR,zS]at *);omega))
      |skip
    refine⟨none,[],{s:Int // sl≤s∧s≤sh+1∧fUp q (sh-sl+1).toNat sl=fUp q (sh-s+1).toNat s},fun x=>.atg fun _=>w i,fun x=>⟨[(0,.val (Value.func (Fn.yield y) ⟨[]⟩ ⟨[]⟩)),(1,(.pp 0 [(wpS c l)])),(2,.pp 0 [(.int .i64 (.sym fun _=>v))]),(3,.pp 0 [(.int .i64 (.sym fun _=>rm))]),(4,.pp 0 [(.sl 1 (.sym fun _=>zi (o).length) (fun ix=>[.int .i64 (.sym fun _=>(o).getD ix.den.toNat 0)]))]),(6,.own 8 0),(7,(.int .i64 (.sym fun _=>rt))),(8,(.int .i64 (.sym fun _=>x.1)))],[(8,.cells [(.int .i64 (.sym fun _=>sl)),(.int .i64 (.sym fun _=>sh)),(.int .i64 (.sym fun _=>rl)),(.int .i64 (.sym fun _=>rh))] 120)],60⟩,fun x=>(sh+1-x.1).toNat,?_,?_⟩
    · refine⟨⟨sl,by omega,by omega,rfl⟩,?_⟩
      cbv
      repeat' (first
        |with_reducible refine hold ?_ ?_
        |with_reducible refine And.intro ?_ ?_)
      all_goals first
        |trivial
        |exact qN (qE (by rfl))
        |exact qN (Fit.refl _)
        |exact qM (qL _)
        |(refine qN (qE ?_);(try simp only [qW]at *);simp only [zQ,zA,zB,zC,zD,zE,zF,zG,zH,zI,zJ,zK,zL,zM,zN,zO,zP,zR,zS]at *;omega)
        |skip
    · rintro ⟨s,hs0,hs1,hf⟩
      cbv
      repeat' (first
          |with_reducible refine hold ?_ ?_
          |with_reducible refine And.intro ?_ ?_
          |(with_reducible intro hcd;(try simp only [zA,zB,zC,zD,zE,zF,zG,zH,zI,zJ,zK,zL,zM,zN,zO,zP]at hcd);try cbv)
          | (refine qQ ?_ (c60 s rt (show WayOk rm s rt from⟨(by((try simp only [qW]at *);(try simp only [zQ,zA,zB,zC,zD,zE,zF,zG,zH,zI,zJ,zK,zL,zM,zN,zO,zP,zR,zS]at *);omega)),(by((try simp only [qW]at *);(try simp only [zQ,zA,zB,zC,zD,zE,zF,zG,zH,zI,zJ,zK,zL,zM,zN,zO,zP,zR,zS]at *);omega)),(by((try simp only [qW]at *);(try simp only [zQ,zA,zB,zC,zD,zE,zF,zG,zH,zI,zJ,zK,zL,zM,zN,zO,zP,zR,zS]at *);omega)),(by((try simp only [qW]at *);(try simp only [zQ,zA,zB,zC,zD,zE,zF,zG,zH,zI,zJ,zK,zL,zM,zN,zO,zP,zR,zS]at *);omega)),(by((try simp only [qW]at *);(try simp only [zQ,zA,zB,zC,zD,zE,zF,zG,zH,zI,zJ,zK,zL,zM,zN,zO,zP,zR,zS]at *);omega)),(by((try simp only [qW]at *);(try simp only [zQ,zA,zB,zC,zD,zE,zF,zG,zH,zI,zJ,zK,zL,zM,zN,zO,zP,zR,zS]at *);omega))⟩)) ?hfit
             case hfit=>((repeat' (first|exact qB|refine qD ?_ ?_|exact qE (by rfl)|exact qG (by rfl)|exact Fit.refl _|exact qA|refine qC ?_ rfl ?_));done)
             try cbv)
          | (refine qQ ?_ (c91i s) ?hfit
             case hfit=>((repeat' (first|exact qB|refine qD ?_ ?_|exact qE (by rfl)|exact qG (by rfl)|exact Fit.refl _|exact qA|refine qC ?_ rfl ?_));done)
             try cbv)
          |fail)
      all_goals first
        |((try simp only [qW]at *);(try simp only [zQ,zA,zB,zC,zD,zE,zF,zG,zH,zI,zJ,zK,zL,zM,zN,zO,zP,zR,zS]at *);first|(refine qO ?_;omega)|(simp only [Hold];omega))
        |(exfalso;(try simp only [qW]at *);(try simp only [zQ,zA,zB,zC,zD,zE,zF,zG,zH,zI,zJ,zK,zL,zM,zN,zO,zP,zR,zS]at *);omega)
        |((try simp only [zQ,zA,zB,zC,zD,zE,zF,zG,zH,zI,zJ,zK,zL,zM,zN,zO,zP,zR,zS]at *);refine⟨⟨s+1,by omega,by((try simp only [qW]at *);(try simp only [zQ,zA,zB,zC,zD,zE,zF,zG,zH,zI,zJ,zK,zL,zM,zN,zO,zP,zR,zS]at *);omega),by rw [hf,fUp_go (by((try simp only [qW]at *);(try simp only [zQ,zA,zB,zC,zD,zE,zF,zG,zH,zI,zJ,zK,zL,zM,zN,zO,zP,zR,zS]at *);omega)) (by assumption)];congr 1;((try simp only [qW]at *);(try simp only [zQ,zA,zB,zC,zD,zE,zF,zG,zH,zI,zJ,zK,zL,zM,zN,zO,zP,zR,zS]at *);omega)⟩,by simp only [];omega,?_⟩;cbv;(repeat' (first|with_reducible refine hold ?_ ?_|with_reducible refine And.intro ?_ ?_));(all_goals first|trivial|exact qN (qE (by rfl))|exact qN (qG (by rfl))|exact qN (Fit.refl _)|exact qM (qL _)|(refine qN (qE ?_);(try simp only [qW]at *);simp only [zQ,zA,zB,zC,zD,zE,zF,zG,zH,zI,zJ,zK,zL,zM,zN,zO,zP,zR,zS]at *;omega)|(refine qM (qK ?_);(repeat' (first|exact qA|exact qB|refine qC ?_ rfl ?_|refine qD ?_ ?_|exact qE (by rfl)|exact qG (by rfl)|exact Fit.refl _|exact qH _|(refine qE ?_;(try simp only [qW]at *);simp only [zQ,zA,zB,zC,zD,zE,zF,zG,zH,zI,zJ,zK,zL,zM,zN,zO,zP,zR,zS]at *;omega)));done)|(refine hold_geq ?_;simp only [];omega)|(refine qN (qE ?_);(try simp only [qW]at *);(try simp only [zQ,zA,zB,zC,zD,zE,zF,zG,zH,zI,zJ,zK,zL,zM,zN,zO,zP,zR,zS]at *);omega)|skip))
        |((try simp only [zQ,zA,zB,zC,zD,zE,zF,zG,zH,zI,zJ,zK,zL,zM,zN,zO,zP,zR,zS]at *);refine⟨⟨i+1,by omega⟩,by simp only [];omega,?_⟩;cbv;(repeat' (first|with_reducible refine hold ?_ ?_|with_reducible refine And.intro ?_ ?_));(all_goals first|trivial|exact qN (qE (by rfl))|exact qN (qG (by rfl))|exact qN (Fit.refl _)|exact qM (qL _)|(refine qN (qE ?_);(try simp only [qW]at *);simp only [zQ,zA,zB,zC,zD,zE,zF,zG,zH,zI,zJ,zK,zL,zM,zN,zO,zP,zR,zS]at *;omega)|(refine qM (qK ?_);(repeat' (first|exact qA|exact qB|refine qC ?_ rfl ?_|refine qD ?_ ?_|exact qE (by rfl)|exact qG (by rfl)|exact Fit.refl _|exact qH _|(refine qE ?_;(try simp only [qW]at *);simp only [zQ,zA,zB,zC,zD,zE,zF,zG,zH,zI,zJ,zK,zL,zM,zN,zO,zP,zR,zS]at *;omega)));done)|(exact qN (qE (zi_step hrt)))|(refine hold_geq ?_;(have hA:fUp q (sh-sl+1).toNat sl=s:=hf.trans (by rw [show(sh-s+1).toNat=0 by((try simp only [qW]at *);(try simp only [zQ,zA,zB,zC,zD,zE,zF,zG,zH,zI,zJ,zK,zL,zM,zN,zO,zP,zR,zS]at *);omega)];rfl));exact(wNi (by rw [hA];(try simp only [qW]at *);(try simp only [zQ,zA,zB,zC,zD,zE,zF,zG,zH,zI,zJ,zK,zL,zM,zN,zO,zP,zR,zS]at *);omega)).symm)|skip))
        |skip
      refine⟨none,[],{e:Int // s≤e∧e≤sh∧fDn q (sh-sl+1).toNat sh=fDn q (e-sl+1).toNat e},fun x=>.atg fun _=>w i,fun x=>⟨[(0,.val (Value.func (Fn.yield y) ⟨[]⟩ ⟨[]⟩)),(1,(.pp 0 [(wpS c l)])),(2,.pp 0 [(.int .i64 (.sym fun _=>v))]),(3,.pp 0 [(.int .i64 (.sym fun _=>rm))]),(4,.pp 0 [(.sl 1 (.sym fun _=>zi (o).length) (fun ix=>[.int .i64 (.sym fun _=>(o).getD ix.den.toNat 0)]))]),(6,.own 8 0),(7,(.int .i64 (.sym fun _=>rt))),(8,(.int .i64 (.sym fun _=>s))),(9,(.int .i64 (.sym fun _=>x.1)))],[(8,.cells [(.int .i64 (.sym fun _=>sl)),(.int .i64 (.sym fun _=>sh)),(.int .i64 (.sym fun _=>rl)),(.int .i64 (.sym fun _=>rh))] 120)],60⟩,fun x=>(x.1-s).toNat,?_,?_⟩
      · refine⟨⟨sh,by((try simp only [qW]at *);(try simp only [zQ,zA,zB,zC,zD,zE,zF,zG,zH,zI,zJ,zK,zL,zM,zN,zO,zP,zR,zS]at *);omega),by omega,rfl⟩,?_⟩
        cbv
        repeat' (first
          |with_reducible refine hold ?_ ?_
          |with_reducible refine And.intro ?_ ?_)
        all_goals first
          |trivial
          |exact qN (qE (by rfl))
          |exact qN (Fit.refl _)
          |exact qM (qL _)
          |skip
      · rintro ⟨e,he0,he1,hg⟩
        cbv
        repeat' (first
            |with_reducible refine hold ?_ ?_
            |with_reducible refine And.intro ?_ ?_
            |(with_reducible intro hcd;(try simp only [zA,zB,zC,zD,zE,zF,zG,zH,zI,zJ,zK,zL,zM,zN,zO,zP]at hcd);try cbv)
            | (refine qQ ?_ (c60 e rt (show WayOk rm e rt from⟨(by((try simp only [qW]at *);(try simp only [zQ,zA,zB,zC,zD,zE,zF,zG,zH,zI,zJ,zK,zL,zM,zN,zO,zP,zR,zS]at *);omega)),(by((try simp only [qW]at *);(try simp only [zQ,zA,zB,zC,zD,zE,zF,zG,zH,zI,zJ,zK,zL,zM,zN,zO,zP,zR,zS]at *);omega)),(by((try simp only [qW]at *);(try simp only [zQ,zA,zB,zC,zD,zE,zF,zG,zH,zI,zJ,zK,zL,zM,zN,zO,zP,zR,zS]at *);omega)),(by((try simp only [qW]at *);(try simp only [zQ,zA,zB,zC,zD,zE,zF,zG,zH,zI,zJ,zK,zL,zM,zN,zO,zP,zR,zS]at *);omega)),(by((try simp only [qW]at *);(try simp only [zQ,zA,zB,zC,zD,zE,zF,zG,zH,zI,zJ,zK,zL,zM,zN,zO,zP,zR,zS]at *);omega)),(by((try simp only [qW]at *);(try simp only [zQ,zA,zB,zC,zD,zE,zF,zG,zH,zI,zJ,zK,zL,zM,zN,zO,zP,zR,zS]at *);omega))⟩)) ?hfit
               case hfit=>((repeat' (first|exact qB|refine qD ?_ ?_|exact qE (by rfl)|exact qG (by rfl)|exact Fit.refl _|exact qA|refine qC ?_ rfl ?_));done)
               try cbv)
            | (refine qQ ?_ (c91i e) ?hfit
               case hfit=>((repeat' (first|exact qB|refine qD ?_ ?_|exact qE (by rfl)|exact qG (by rfl)|exact Fit.refl _|exact qA|refine qC ?_ rfl ?_));done)
               try cbv)
            | (refine qQ ?_ (c60 s rt (show WayOk rm s rt from⟨(by((try simp only [qW]at *);(try simp only [zQ,zA,zB,zC,zD,zE,zF,zG,zH,zI,zJ,zK,zL,zM,zN,zO,zP,zR,zS]at *);omega)),(by((try simp only [qW]at *);(try simp only [zQ,zA,zB,zC,zD,zE,zF,zG,zH,zI,zJ,zK,zL,zM,zN,zO,zP,zR,zS]at *);omega)),(by((try simp only [qW]at *);(try simp only [zQ,zA,zB,zC,zD,zE,zF,zG,zH,zI,zJ,zK,zL,zM,zN,zO,zP,zR,zS]at *);omega)),(by((try simp only [qW]at *);(try simp only [zQ,zA,zB,zC,zD,zE,zF,zG,zH,zI,zJ,zK,zL,zM,zN,zO,zP,zR,zS]at *);omega)),(by((try simp only [qW]at *);(try simp only [zQ,zA,zB,zC,zD,zE,zF,zG,zH,zI,zJ,zK,zL,zM,zN,zO,zP,zR,zS]at *);omega)),(by((try simp only [qW]at *);(try simp only [zQ,zA,zB,zC,zD,zE,zF,zG,zH,zI,zJ,zK,zL,zM,zN,zO,zP,zR,zS]at *);omega))⟩)) ?hfit
               case hfit=>((repeat' (first|exact qB|refine qD ?_ ?_|exact qE (by rfl)|exact qG (by rfl)|exact Fit.refl _|exact qA|refine qC ?_ rfl ?_));done)
               try cbv)
            |fail)
        all_goals first
          |trivial
          |((try simp only [qW]at *);(try simp only [zQ,zA,zB,zC,zD,zE,zF,zG,zH,zI,zJ,zK,zL,zM,zN,zO,zP,zR,zS]at *);first|(refine qO ?_;omega)|(simp only [Hold];omega))
          |((have hA:fUp q (sh-sl+1).toNat sl=s:=hf.trans (fUp_stop (by assumption)));(have h9:=wAi (show i<N by((try simp only [qW]at *);(try simp only [zQ,zA,zB,zC,zD,zE,zF,zG,zH,zI,zJ,zK,zL,zM,zN,zO,zP,zR,zS]at *);omega)) (by rw [hA];(try simp only [qW]at *);(try simp only [zQ,zA,zB,zC,zD,zE,zF,zG,zH,zI,zJ,zK,zL,zM,zN,zO,zP,zR,zS]at *);omega));rw [hA]at h9;refine hold_yield h9.1 ?_;rw [help,h9.2];exact Fit.refl _)
          |((have hA:fUp q (sh-sl+1).toNat sl=s:=hf.trans (fUp_stop (by assumption)));(have hB:fDn q (sh-sl+1).toNat sh=e:=hg.trans (fDn_stop (by assumption)));(have h9:=wCi (show i<N by((try simp only [qW]at *);(try simp only [zQ,zA,zB,zC,zD,zE,zF,zG,zH,zI,zJ,zK,zL,zM,zN,zO,zP,zR,zS]at *);omega)) (by rw [hA];(try simp only [qW]at *);(try simp only [zQ,zA,zB,zC,zD,zE,zF,zG,zH,zI,zJ,zK,zL,zM,zN,zO,zP,zR,zS]at *);omega) (by rw [hA,hB,hdd];first|exact dif_t (by assumption)|exact dif_f (by assumption)));rw [hB]at h9;refine hold_yield h9.2.1 ?_;rw [help,h9.2.2];exact Fit.refl _)
          |((try simp only [zQ,zA,zB,zC,zD,zE,zF,zG,zH,zI,zJ,zK,zL,zM,zN,zO,zP,zR,zS]at *);(have hqe:q e=false:=by assumption);(have hqs:q s=true:=by assumption);(have hne:e≠s:=fun h=>by rw [h,hqs]at hqe;cases hqe);refine⟨⟨e-1,by((try simp only [qW]at *);(try simp only [zQ,zA,zB,zC,zD,zE,zF,zG,zH,zI,zJ,zK,zL,zM,zN,zO,zP,zR,zS]at *);omega),by omega,by rw [hg,fDn_go (by((try simp only [qW]at *);(try simp only [zQ,zA,zB,zC,zD,zE,zF,zG,zH,zI,zJ,zK,zL,zM,zN,zO,zP,zR,zS]at *);omega)) (by assumption)];congr 1;((try simp only [qW]at *);(try simp only [zQ,zA,zB,zC,zD,zE,zF,zG,zH,zI,zJ,zK,zL,zM,zN,zO,zP,zR,zS]at *);omega)⟩,by simp only [];omega,?_⟩;cbv;(repeat' (first|with_reducible refine hold ?_ ?_|with_reducible refine And.intro ?_ ?_));(all_goals first|trivial|exact qN (qE (by rfl))|exact qN (qG (by rfl))|exact qN (Fit.refl _)|exact qM (qL _)|(refine qN (qE ?_);(try simp only [qW]at *);simp only [zQ,zA,zB,zC,zD,zE,zF,zG,zH,zI,zJ,zK,zL,zM,zN,zO,zP,zR,zS]at *;omega)|(refine qM (qK ?_);(repeat' (first|exact qA|exact qB|refine qC ?_ rfl ?_|refine qD ?_ ?_|exact qE (by rfl)|exact qG (by rfl)|exact Fit.refl _|exact qH _|(refine qE ?_;(try simp only [qW]at *);simp only [zQ,zA,zB,zC,zD,zE,zF,zG,zH,zI,zJ,zK,zL,zM,zN,zO,zP,zR,zS]at *;omega)));done)|(refine hold_geq ?_;simp only [];omega)|(refine qN (qE ?_);(try simp only [qW]at *);(try simp only [zQ,zA,zB,zC,zD,zE,zF,zG,zH,zI,zJ,zK,zL,zM,zN,zO,zP,zR,zS]at *);omega)|skip))
          |((try simp only [zQ,zA,zB,zC,zD,zE,zF,zG,zH,zI,zJ,zK,zL,zM,zN,zO,zP,zR,zS]at *);refine⟨⟨i+1,by omega⟩,by simp only [];omega,?_⟩;cbv;(repeat' (first|with_reducible refine hold ?_ ?_|with_reducible refine And.intro ?_ ?_));(all_goals first|trivial|exact qN (qE (by rfl))|exact qN (qG (by rfl))|exact qN (Fit.refl _)|exact qM (qL _)|(refine qN (qE ?_);(try simp only [qW]at *);simp only [zQ,zA,zB,zC,zD,zE,zF,zG,zH,zI,zJ,zK,zL,zM,zN,zO,zP,zR,zS]at *;omega)|(refine qM (qK ?_);(repeat' (first|exact qA|exact qB|refine qC ?_ rfl ?_|refine qD ?_ ?_|exact qE (by rfl)|exact qG (by rfl)|exact Fit.refl _|exact qH _|(refine qE ?_;(try simp only [qW]at *);simp only [zQ,zA,zB,zC,zD,zE,zF,zG,zH,zI,zJ,zK,zL,zM,zN,zO,zP,zR,zS]at *;omega)));done)|(exact qN (qE (zi_step hrt)))|(refine hold_geq ?_;(have hA:fUp q (sh-sl+1).toNat sl=s:=hf.trans (fUp_stop (by assumption)));(have hB:fDn q (sh-sl+1).toNat sh=e:=hg.trans (fDn_stop (by assumption)));exact(wBi (by rw [hA];(try simp only [qW]at *);(try simp only [zQ,zA,zB,zC,zD,zE,zF,zG,zH,zI,zJ,zK,zL,zM,zN,zO,zP,zR,zS]at *);omega) (by rw [hA,hB,hdd];first|exact dif_t (by assumption)|exact dif_f (by assumption))).symm)|(refine hold_geq ?_;(have hA:fUp q (sh-sl+1).toNat sl=s:=hf.trans (fUp_stop (by assumption)));(have hB:fDn q (sh-sl+1).toNat sh=e:=hg.trans (fDn_stop (by assumption)));exact(wCi (show i<N by((try simp only [qW]at *);(try simp only [zQ,zA,zB,zC,zD,zE,zF,zG,zH,zI,zJ,zK,zL,zM,zN,zO,zP,zR,zS]at *);omega)) (by rw [hA];(try simp only [qW]at *);(try simp only [zQ,zA,zB,zC,zD,zE,zF,zG,zH,zI,zJ,zK,zL,zM,zN,zO,zP,zR,zS]at *);omega) (by rw [hA,hB,hdd];first|exact dif_t (by assumption)|exact dif_f (by assumption))).1.symm)|skip))
          |skip
end Go.Proofs.Yteelocfbbhchcaa

namespace Go.Proofs.Yteelocfbbhchcaa
open Go Go.Eng Go.Proofs
set_option maxRecDepth 10000
def someB (c:Clr)(l:List LookT)(v rm:Int)(o:List Int):Bool:=decide (0<(waysC c l v rm o).length)
def smM (c:Clr)(l:List LookT)(v rm:Int)(o:List Int):Int:=if someB c l v rm o=true then rm else 0
def smS (c:Clr)(l:List LookT)(v rm:Int)(o:List Int):Int:=if someB c l v rm o=true then((waysC c l v rm o).getD 0 (0,0)).1 else 0
def smR (c:Clr)(l:List LookT)(v rm:Int)(o:List Int):Int:=if someB c l v rm o=true then((waysC c l v rm o).getD 0 (0,0)).2 else 0
theorem some_yes {c:Clr} {l:List LookT} {v rm:Int} {o:List Int}(h:0<(waysC c l v rm o).length):someB c l v rm o=true∧smM c l v rm o=rm∧smS c l v rm o=((waysC c l v rm o).getD 0 (0,0)).1∧smR c l v rm o=((waysC c l v rm o).getD 0 (0,0)).2:=by
  have e:someB c l v rm o=true:=decide_eq_true h
  exact⟨e,by unfold smM;rw [if_pos e],by unfold smS;rw [if_pos e],by unfold smR;rw [if_pos e]⟩
theorem some_no {c:Clr} {l:List LookT} {v rm:Int} {o:List Int}(h:(waysC c l v rm o).length=0):someB c l v rm o=false∧smM c l v rm o=0∧smS c l v rm o=0∧smR c l v rm o=0:=by
  have e:someB c l v rm o=false:=decide_eq_false (by omega)
  exact⟨e,by unfold smM;rw [e];rfl,by unfold smS;rw [e];rfl,by unfold smR;rw [e];rfl⟩
theorem allB_succ (p:Nat→Bool)(n:Nat):allB p (n+1)=(allB p n&&p n):=by
  rw [Bool.eq_iff_iff]
  simp only [allB_t,Bool.and_eq_true]
  constructor
  · intro h;exact⟨fun i hi=>h i (by omega),h n (by omega)⟩
  · rintro⟨h1,h2⟩ i hi
    rcases Nat.lt_or_ge i n with q|q
    · exact h1 i q
    · rw [show i=n by omega];exact h2
def hasB (c:Clr)(l:List LookT)(o:List Int)(rm:Int)(v:Nat):Bool:=someB c l (v:Int) rm o
def roomB (c:Clr)(l:List LookT)(o:List Int)(rm:Int):Bool:=allB (hasB c l o rm) c.vs.length
def roomsN (c:Clr)(l:List LookT)(o:List Int):Nat→List Int
  |0=>[]
  |n+1=>roomsN c l o n++(if roomB c l o (c.rl+n)=true then [c.rl+(n:Int)]else [])
def roomsL (c:Clr)(l:List LookT)(o:List Int):List Int:=roomsN c l o (c.rh-c.rl+1).toNat
theorem roomsN_yes {c:Clr} {l:List LookT} {o:List Int} {n:Nat}(h:roomB c l o (c.rl+n)=true):roomsN c l o (n+1)=roomsN c l o n++[c.rl+(n:Int)]:=by simp only [roomsN,h,if_true]
theorem roomsN_no {c:Clr} {l:List LookT} {o:List Int} {n:Nat}(h:roomB c l o (c.rl+n)=false):roomsN c l o (n+1)=roomsN c l o n:=by simp only [roomsN,h,Bool.false_eq_true,if_false,List.append_nil]
theorem roomsN_len (c:Clr)(l:List LookT)(o:List Int)(n:Nat):(roomsN c l o n).length≤n:=by
  induction n with
  |zero=>exact Nat.le_refl _
  | succ n ih=>
    cases h:roomB c l o (c.rl+n)with
    |true=>rw [roomsN_yes h,List.length_append];simp only [List.length_cons,List.length_nil];omega
    |false=>rw [roomsN_no h];omega
theorem mem_roomsN {c:Clr} {l:List LookT} {o:List Int} {n:Nat} {rm:Int}:rm∈roomsN c l o n↔c.rl≤rm∧rm<c.rl+n∧roomB c l o rm=true:=by
  induction n with
  |zero=>simp only [roomsN,List.not_mem_nil,false_iff];omega
  | succ n ih=>
    cases h:roomB c l o (c.rl+n)with
    | true=>
      rw [roomsN_yes h,List.mem_append,ih,List.mem_singleton]
      constructor
      · rintro(q|q)
        · exact⟨q.1,by omega,q.2.2⟩
        · exact⟨by omega,by omega,by rw [q];exact h⟩
      · rintro⟨q1,q2,q3⟩
        by_cases e:rm=c.rl+n
        · exact Or.inr e
        · exact Or.inl ⟨q1,by omega,q3⟩
    | false=>
      rw [roomsN_no h,ih]
      constructor
      · rintro q;exact⟨q.1,by omega,q.2.2⟩
      · rintro⟨q1,q2,q3⟩
        refine⟨q1,?_,q3⟩
        by_cases e:rm=c.rl+n
        · rw [e,h]at q3;cases q3
        · omega
theorem mem_rooms {c:Clr} {l:List LookT} {o:List Int} {rm:Int}(h:c.rl≤c.rh):rm∈roomsL c l o↔c.rl≤rm∧rm≤c.rh∧roomB c l o rm=true:=by
  unfold roomsL
  rw [mem_roomsN]
  constructor<;>rintro⟨q1,q2,q3⟩<;>exact⟨q1,by omega,q3⟩
theorem hasB_next {p:Nat→Bool} {k:Nat}(h:allB p k=true):p k=allB p (k+1):=by rw [allB_succ,h];rfl
theorem hasB_stay {p:Nat→Bool} {k:Nat}(h:allB p k=false):allB p k=allB p (k+1):=by rw [allB_succ,h];rfl
def askE (c:Clr)(l:List LookT):Int:=if lookedF c l=0 then(if(roomsL c l []).length=0 then 11 else 0)else lookedF c l
theorem askE_bad {c:Clr} {l:List LookT}(h:¬lookedF c l=0):askE c l=lookedF c l:=by unfold askE;rw [if_neg h]
theorem askE_none {c:Clr} {l:List LookT}(h:lookedF c l=0)(h':(roomsL c l []).length=0):askE c l=11:=by unfold askE;rw [if_pos h,if_pos h']
theorem askE_yes {c:Clr} {l:List LookT}(h:lookedF c l=0)(h':¬(roomsL c l []).length=0):askE c l=0:=by unfold askE;rw [if_pos h,if_neg h']
theorem askE_ok {c:Clr} {l:List LookT}(h:askE c l=0):lookedF c l=0∧¬(roomsL c l []).length=0:=by
  by_cases q:lookedF c l=0
  · refine⟨q,fun q'=> ?_⟩
    rw [askE_none q q']at h;omega
  · rw [askE_bad q]at h;exact absurd h q
theorem lookedF_spec {c:Clr} {l:List LookT}(h:lookedF c l=0):COk c∧LooksIn c l:=by
  by_cases q:faultC c=0
  · refine⟨faultC_iff.1 q,?_⟩
    by_cases q1:l.length≤6
    · refine⟨q1,?_⟩
      cases q2:allB (fun i=>lookB c (l.getD i k0)) l.length with
      |true=>rw [allB_t]at q2;exact q2
      |false=>rw [lookedF_no q q1 q2]at h;omega
    · rw [lookedF_many q (by omega)]at h;omega
  · rw [lookedF_bad q]at h;exact absurd h q
end Go.Proofs.Yteelocfbbhchcaa

namespace Go.Proofs.Yteelocfbbhchcaa
open Go Go.Eng Go.Proofs
set_option maxRecDepth 10000
theorem some92 (c:Clr)(l:List LookT)(rm v:Int)(o:List Int)(hc:COk c)(hl:LooksIn c l)(hv0:0≤v)(hv1:v<c.vs.length)(hm0:0≤rm)(hm1:rm≤200)(ho:o.length≤1000):FSpec Try.prog 92 [(wpS c l),(.int .i64 (.sym fun _=>rm)),(.int .i64 (.sym fun _=>v)),(.sl 1 (.sym fun _=>zi (o).length) (fun ix=>[.int .i64 (.sym fun _=>(o).getD ix.den.toNat 0)]))] [] (fun r _=>r=(.tup [(.agg [(.int .i64 (.sym fun _=>smM c l v rm o)),(.int .i64 (.sym fun _=>smS c l v rm o)),(.int .i64 (.sym fun _=>smR c l v rm o))]),(.bool (.sym fun _=>someB c l v rm o))])):=by
  have c101:=ways101 c l rm v o
  obtain⟨L,hL⟩:∃L,L=(waysC c l v rm o).length:=⟨_,rfl⟩
  obtain⟨el,hel⟩:∃el:Nat→List SV,el=(fun i:Nat=>[(.agg [(.int .i64 (.sym fun _=>rm)),(.int .i64 (.sym fun _=>((waysC c l v rm o).getD i (0,0)).1)),(.int .i64 (.sym fun _=>((waysC c l v rm o).getD i (0,0)).2))])]):=⟨_,rfl⟩
  have cI:ISpec Try.prog 113 [(.pp 0 [(wpS c l)]),.pp 0 [(.int .i64 (.sym fun _=>v))],.pp 0 [(.int .i64 (.sym fun _=>rm))],.pp 0 [(.sl 1 (.sym fun _=>zi (o).length) (fun ix=>[.int .i64 (.sym fun _=>(o).getD ix.den.toNat 0)]))]] L el:=by rw [hel,hL];exact of113 c l rm v o hc hl hv0 hv1 hm0 hm1 ho
  have elen:∀i,(el i).length=1∧SV.idsL (el i)=[]:=fun i=>by rw [hel];exact⟨rfl,rfl⟩
  have ei:∀i,el i=[(.agg [(.int .i64 (.sym fun _=>rm)),(.int .i64 (.sym fun _=>((waysC c l v rm o).getD i (0,0)).1)),(.int .i64 (.sym fun _=>((waysC c l v rm o).getD i (0,0)).2))])]:=fun i=>by rw [hel]
  clear hel
  refine FSpec.is fun R hR=>qX (sc:=sc92) tyok mix Try.func92 rfl Try.call92 (by kernel_rfl) (by kernel_rfl) ?_
  generalize Try.prog=P at c101 cI⊢
  cbv
  repeat' (first
      | (refine qQ ?_ (c101) ?hfit
         case hfit=>((repeat' (first|exact qB|refine qD ?_ ?_|exact qE (by rfl)|exact qG (by rfl)|exact Fit.refl _|exact qA|refine qC ?_ rfl ?_));done)
         try cbv)
      |fail)
  all_goals first
    |skip
  refine⟨[],L,el,fun i=>{u:Unit // i=0},fun i _=>([(0,.cells [.int .i64 (.lit 0),.int .i64 (.lit 0),.int .i64 (.lit 0)] 138),(1,.cells [.bool (.lit false)] 4)],40),?_⟩
  cbv
  refine⟨fun _=>⟨cI,elen⟩,⟨⟨(),rfl⟩,?_⟩,?_,?_⟩
  · cbv
    repeat' (first
      |with_reducible refine hold ?_ ?_
      |with_reducible refine And.intro ?_ ?_)
    all_goals first
      |trivial
      |exact qM (qL _)
      |skip
  · rintro i ⟨_,rfl⟩ hil
    simp only [ei]
    cbv
    repeat' (first
        |fail)
    all_goals first
      |(subst hR;(refine qD (qC (qE ?_) rfl (qC (qE ?_) rfl (qC (qE ?_) rfl qA))) (qD (qG ?_) qB)<;>(have h0:=some_yes (c:=c) (l:=l) (v:=v) (rm:=rm) (o:=o) (by omega);first|exact h0.1.symm|exact h0.2.1.symm|exact h0.2.2.1.symm|exact h0.2.2.2.symm));done)
      |skip
  · rintro⟨_,h0⟩
    cbv
    repeat' (first
        |fail)
    all_goals first
      |(subst hR;(refine qD (qC (qE ?_) rfl (qC (qE ?_) rfl (qC (qE ?_) rfl qA))) (qD (qG ?_) qB)<;>(have h0:=some_no (c:=c) (l:=l) (v:=v) (rm:=rm) (o:=o) (by omega);first|exact h0.1.symm|exact h0.2.1.symm|exact h0.2.2.1.symm|exact h0.2.2.2.symm));done)
      |skip
set_option maxHeartbeats 1000000 in
theorem rooms89 (c:Clr)(l:List LookT)(o:List Int)(hc:COk c)(hl:LooksIn c l)(ho:o.length≤1000):FSpec Try.prog 89 [(wpS c l),(.sl 1 (.sym fun _=>zi (o).length) (fun ix=>[.int .i64 (.sym fun _=>(o).getD ix.den.toNat 0)]))] [] (fun r _=>r=(.sl 1 (.sym fun _=>zi (roomsL c l o).length) (fun ix=>[.int .i64 (.sym fun _=>(roomsL c l o).getD ix.den.toNat 0)]))):=by
  have c92:=fun (k:Nat) (rm:Int) (h:k<c.vs.length∧0≤rm∧rm≤200)=>(show FSpec Try.prog 92 [(wpS c l),(.int .i64 (.sym fun _=>rm)),(.int .i64 (.sym fun _=>zi k)),(.sl 1 (.sym fun _=>zi (o).length) (fun ix=>[.int .i64 (.sym fun _=>(o).getD ix.den.toNat 0)]))] [] (fun r _=>r=(.tup [(.agg [(.int .i64 (.sym fun _=>smM c l (zi k) rm o)),(.int .i64 (.sym fun _=>smS c l (zi k) rm o)),(.int .i64 (.sym fun _=>smR c l (zi k) rm o))]),(.bool (.sym fun _=>hasB c l o rm k))]))from some92 c l rm (zi k) o hc hl (by simp only [zi_den];omega) (by simp only [zi_den];omega) h.2.1 h.2.2 ho)
  refine FSpec.is fun R hR=>qX (sc:=sc89) tyok mix Try.func89 rfl Try.call89 (by kernel_rfl) (by kernel_rfl) ?_
  generalize Try.prog=P at c92⊢
  cbv
  have hfv:=hc.few.v
  have r0:=hc.ok.r0
  have r1:=hc.ok.r1
  have r2:=hc.ok.r2
  have r3:=hc.ok.r3
  obtain⟨N,hN⟩:∃N,N=(c.rh-c.rl+1).toNat:=⟨_,rfl⟩
  repeat' (first
      |fail)
  all_goals first
    |skip
  refine⟨none,[⟨.tmp 4,3,1⟩],{i:Nat // i≤N},fun x=>⟨[(0,(wpS c l)),(1,(.sl 1 (.sym fun _=>zi (o).length) (fun ix=>[.int .i64 (.sym fun _=>(o).getD ix.den.toNat 0)]))),(4,.row 8),(5,(.int .i64 (.sym fun _=>c.rl+zi x.1)))],[(8,.row 3 1 (.sym fun _=>zi ((roomsN c l o x.1)).length) (fun ix=>[.int .i64 (.sym fun _=>((roomsN c l o x.1)).getD ix.den.toNat 0)]))],60⟩,fun x=>N-x.1,?_,?_⟩
  · refine⟨⟨0,by omega⟩,?_⟩
    cbv
    repeat' (first
      |with_reducible refine hold ?_ ?_
      |with_reducible refine And.intro ?_ ?_)
    all_goals first
      |trivial
      |exact qN (Fit.refl _)
      |(refine qN (qE ?_);(try simp only [qW]at *);simp only [zQ,zA,zB,zC,zD,zE,zF,zG,zH,zI,zJ,zK,zL,zM,zN,zO,zP,zR,zS]at *;omega)
      |(refine qM (ble_row ?_ ?_);(first|rfl|((try simp only [qW]at *);(try simp only [zQ,zA,zB,zC,zD,zE,zF,zG,zH,zI,zJ,zK,zL,zM,zN,zO,zP,zR,zS]at *);omega));intro ix h0 h1;exfalso;(try simp only [qW]at *);(try simp only [zQ,zA,zB,zC,zD,zE,zF,zG,zH,zI,zJ,zK,zL,zM,zN,zO,zP,zR,zS]at *);omega)
      |skip
  · rintro ⟨i,hi⟩
    cbv
    obtain⟨rm,hrm⟩:∃r,r=c.rl+zi i:=⟨_,rfl⟩
    have hlen:=roomsN_len c l o i
    have hY:roomB c l o rm=true→roomsN c l o (i+1)=roomsN c l o i++[rm]:=fun h=>by rw [hrm]at h⊢;exact roomsN_yes h
    have hZ:roomB c l o rm=false→roomsN c l o (i+1)=roomsN c l o i:=fun h=>by rw [hrm]at h;exact roomsN_no h
    obtain⟨M,hM⟩:∃M,M=roomsN c l o i:=⟨_,rfl⟩
    rw [←hM]at hlen hY hZ⊢
    repeat' (first
        |with_reducible refine And.intro ?_ ?_
        |(with_reducible intro hcd;(try simp only [zA,zB,zC,zD,zE,zF,zG,zH,zI,zJ,zK,zL,zM,zN,zO,zP]at hcd);try cbv)
        |fail)
    all_goals first
      |((have hie:i=N:=(by((try simp only [qW]at *);(try simp only [zQ,zA,zB,zC,zD,zE,zF,zG,zH,zI,zJ,zK,zL,zM,zN,zO,zP,zR,zS]at *);omega)));(have hMe:M=roomsL c l o:=by rw [hM,hie,hN];rfl);subst hR;rw [←hMe];exact Fit.refl _)
      |skip
    refine⟨none,[],{k:Nat // k≤c.vs.length},fun x=>⟨[(0,(wpS c l)),(1,(.sl 1 (.sym fun _=>zi (o).length) (fun ix=>[.int .i64 (.sym fun _=>(o).getD ix.den.toNat 0)]))),(4,.row 8),(5,(.int .i64 (.sym fun _=>rm))),(29,(.int .i64 (.sym fun _=>zi c.vs.length))),(30,(.int .i64 (.sym fun _=>zi x.1))),(6,(.bool (.sym fun _=>allB (hasB c l o rm) x.1)))],[(8,.row 3 1 (.sym fun _=>zi (M).length) (fun ix=>[.int .i64 (.sym fun _=>(M).getD ix.den.toNat 0)]))],90⟩,fun x=>c.vs.length-x.1,?_,?_⟩
    · refine⟨⟨0,by omega⟩,?_⟩
      cbv
      repeat' (first
        |with_reducible refine hold ?_ ?_
        |with_reducible refine And.intro ?_ ?_)
      all_goals first
        |trivial
        |exact qN (qE (by rfl))
        |exact qN (qG (by rfl))
        |exact qN (Fit.refl _)
        |exact qM (qL _)
        |(refine qN (qE ?_);(try simp only [qW]at *);simp only [zQ,zA,zB,zC,zD,zE,zF,zG,zH,zI,zJ,zK,zL,zM,zN,zO,zP,zR,zS]at *;omega)
        |skip
    · rintro ⟨k,hk⟩
      cbv
      repeat' (first
          |with_reducible refine hold ?_ ?_
          |with_reducible refine And.intro ?_ ?_
          |(with_reducible intro hcd;(try simp only [zA,zB,zC,zD,zE,zF,zG,zH,zI,zJ,zK,zL,zM,zN,zO,zP]at hcd);try cbv)
          | (refine qQ ?_ (c92 k rm ⟨(by((try simp only [qW]at *);(try simp only [zQ,zA,zB,zC,zD,zE,zF,zG,zH,zI,zJ,zK,zL,zM,zN,zO,zP,zR,zS]at *);omega)),(by((try simp only [qW]at *);(try simp only [zQ,zA,zB,zC,zD,zE,zF,zG,zH,zI,zJ,zK,zL,zM,zN,zO,zP,zR,zS]at *);omega)),(by((try simp only [qW]at *);(try simp only [zQ,zA,zB,zC,zD,zE,zF,zG,zH,zI,zJ,zK,zL,zM,zN,zO,zP,zR,zS]at *);omega))⟩) ?hfit
             case hfit=>((repeat' (first|exact qB|refine qD ?_ ?_|exact qE (by rfl)|exact qG (by rfl)|exact Fit.refl _|exact qA|refine qC ?_ rfl ?_));done)
             try cbv)
          | (obtain⟨L2,eL2⟩:∃y:List Int,y=M++[rm]:=⟨_,rfl⟩
             refine⟨intsE L2,?_⟩
             cbv
             refine hold (hold_rowlist (L:=M) eL2 (by(first|rfl|((try simp only [qW]at *);(try simp only [zQ,zA,zB,zC,zD,zE,zF,zG,zH,zI,zJ,zK,zL,zM,zN,zO,zP,zR,zS]at *);done)|((try simp only [qW]at *);(try simp only [zQ,zA,zB,zC,zD,zE,zF,zG,zH,zI,zJ,zK,zL,zM,zN,zO,zP,zR,zS]at *);omega))) (by rfl) (fun ix=>Fit.refl _) (fun ix h=>qC (qE (by rfl)) rfl qA) (by(try simp only [qW]at *);(try simp only [zQ,zA,zB,zC,zD,zE,zF,zG,zH,zI,zJ,zK,zL,zM,zN,zO,zP,zR,zS]at *);omega)) (Or.inl ?_)
             try cbv)
          |fail)
      all_goals first
        |((try simp only [qW]at *);(try simp only [zQ,zA,zB,zC,zD,zE,zF,zG,zH,zI,zJ,zK,zL,zM,zN,zO,zP,zR,zS]at *);first|(refine qO ?_;omega)|(simp only [Hold];omega))
        |((try simp only [zQ,zA,zB,zC,zD,zE,zF,zG,zH,zI,zJ,zK,zL,zM,zN,zO,zP,zR,zS]at *);refine⟨⟨k+1,by omega⟩,by simp only [];omega,?_⟩;cbv;(repeat' (first|with_reducible refine hold ?_ ?_|with_reducible refine And.intro ?_ ?_));(all_goals first|trivial|exact qN (qE (by rfl))|exact qN (qG (by rfl))|exact qN (Fit.refl _)|exact qM (qL _)|(refine qN (qE ?_);(try simp only [qW]at *);simp only [zQ,zA,zB,zC,zD,zE,zF,zG,zH,zI,zJ,zK,zL,zM,zN,zO,zP,zR,zS]at *;omega)|(refine qM (qK ?_);(repeat' (first|exact qA|exact qB|refine qC ?_ rfl ?_|refine qD ?_ ?_|exact qE (by rfl)|exact qG (by rfl)|exact Fit.refl _|exact qH _|(refine qE ?_;(try simp only [qW]at *);simp only [zQ,zA,zB,zC,zD,zE,zF,zG,zH,zI,zJ,zK,zL,zM,zN,zO,zP,zR,zS]at *;omega)));done)|(exact qN (qG (hasB_next (by assumption))))|(exact qN (qG (hasB_stay (by assumption))))|skip))
        |((try simp only [zQ,zA,zB,zC,zD,zE,zF,zG,zH,zI,zJ,zK,zL,zM,zN,zO,zP,zR,zS]at *);(have hke:k=c.vs.length:=(by((try simp only [qW]at *);(try simp only [zQ,zA,zB,zC,zD,zE,zF,zG,zH,zI,zJ,zK,zL,zM,zN,zO,zP,zR,zS]at *);omega)));(have hx:roomsN c l o (i+1)=L2:=(hY (by show allB (hasB c l o rm) c.vs.length=_;rw [←hke];assumption)).trans eL2.symm);refine⟨⟨i+1,by omega⟩,by simp only [];omega,?_⟩;cbv;(repeat' (first|with_reducible refine hold ?_ ?_|with_reducible refine And.intro ?_ ?_));(all_goals first|trivial|exact qN (qE (by rfl))|exact qN (qG (by rfl))|exact qN (Fit.refl _)|exact qM (qL _)|(refine qN (qE ?_);(try simp only [qW]at *);simp only [zQ,zA,zB,zC,zD,zE,zF,zG,zH,zI,zJ,zK,zL,zM,zN,zO,zP,zR,zS]at *;omega)|(refine qM (qK ?_);(repeat' (first|exact qA|exact qB|refine qC ?_ rfl ?_|refine qD ?_ ?_|exact qE (by rfl)|exact qG (by rfl)|exact Fit.refl _|exact qH _|(refine qE ?_;(try simp only [qW]at *);simp only [zQ,zA,zB,zC,zD,zE,zF,zG,zH,zI,zJ,zK,zL,zM,zN,zO,zP,zR,zS]at *;omega)));done)|(simp only [hx];first|exact qM (qL _)|(refine qM (ble_row ?_ ?_)<;>first|rfl|(rw [eL2,List.length_append];rfl)|((try simp only [qW]at *);(try simp only [zQ,zA,zB,zC,zD,zE,zF,zG,zH,zI,zJ,zK,zL,zM,zN,zO,zP,zR,zS,eL2,List.length_append,List.length_cons,List.length_nil]at *);omega)|(intro ix h0 h1;exact Fit.refl _)))|(exact qN (qE (zi_step hrm)))|skip))
        |((try simp only [zQ,zA,zB,zC,zD,zE,zF,zG,zH,zI,zJ,zK,zL,zM,zN,zO,zP,zR,zS]at *);(have hke:k=c.vs.length:=(by((try simp only [qW]at *);(try simp only [zQ,zA,zB,zC,zD,zE,zF,zG,zH,zI,zJ,zK,zL,zM,zN,zO,zP,zR,zS]at *);omega)));(have hx:roomsN c l o (i+1)=M:=hZ (by show allB (hasB c l o rm) c.vs.length=_;rw [←hke];assumption));refine⟨⟨i+1,by omega⟩,by simp only [];omega,?_⟩;cbv;(repeat' (first|with_reducible refine hold ?_ ?_|with_reducible refine And.intro ?_ ?_));(all_goals first|trivial|exact qN (qE (by rfl))|exact qN (qG (by rfl))|exact qN (Fit.refl _)|exact qM (qL _)|(refine qN (qE ?_);(try simp only [qW]at *);simp only [zQ,zA,zB,zC,zD,zE,zF,zG,zH,zI,zJ,zK,zL,zM,zN,zO,zP,zR,zS]at *;omega)|(refine qM (qK ?_);(repeat' (first|exact qA|exact qB|refine qC ?_ rfl ?_|refine qD ?_ ?_|exact qE (by rfl)|exact qG (by rfl)|exact Fit.refl _|exact qH _|(refine qE ?_;(try simp only [qW]at *);simp only [zQ,zA,zB,zC,zD,zE,zF,zG,zH,zI,zJ,zK,zL,zM,zN,zO,zP,zR,zS]at *;omega)));done)|(simp only [hx];first|exact qM (qL _)|(refine qM (ble_row ?_ ?_)<;>first|rfl|(rw [eL2,List.length_append];rfl)|((try simp only [qW]at *);(try simp only [zQ,zA,zB,zC,zD,zE,zF,zG,zH,zI,zJ,zK,zL,zM,zN,zO,zP,zR,zS,eL2,List.length_append,List.length_cons,List.length_nil]at *);omega)|(intro ix h0 h1;exact Fit.refl _)))|(exact qN (qE (zi_step hrm)))|skip))
        |skip
end Go.Proofs.Yteelocfbbhchcaa

namespace Go.Proofs.Yteelocfbbhchcaa
open Go Go.Eng Go.Proofs
set_option maxRecDepth 10000
def mnL {α:Type}(f:α→Int):List α→Int
  |[]=>0
  |x::t=>t.foldl (fun a y=>min a (f y)) (f x)
def mxL {α:Type}(f:α→Int):List α→Int
  |[]=>0
  |x::t=>t.foldl (fun a y=>max a (f y)) (f x)
theorem mnL_app {α:Type}(f:α→Int) {l:List α}(h:l≠[])(x:α):mnL f (l++[x])=min (mnL f l) (f x):=by
  cases l with
  |nil=>exact absurd rfl h
  |cons y t=>simp only [List.cons_append,mnL,List.foldl_append,List.foldl_cons,List.foldl_nil]
theorem mxL_app {α:Type}(f:α→Int) {l:List α}(h:l≠[])(x:α):mxL f (l++[x])=max (mxL f l) (f x):=by
  cases l with
  |nil=>exact absurd rfl h
  |cons y t=>simp only [List.cons_append,mxL,List.foldl_append,List.foldl_cons,List.foldl_nil]
def wysR (c:Clr)(l:List LookT)(v rm:Int):List (Int×Int×Int):=(waysC c l v rm []).map fun w=>(rm,w.1,w.2)
def wysN (c:Clr)(l:List LookT)(v:Int)(rs:List Int):Nat→List (Int×Int×Int)
  |0=>[]
  |n+1=>wysN c l v rs n++wysR c l v (rs.getD n 0)
def wysL (c:Clr)(l:List LookT)(v:Int)(rs:List Int):List (Int×Int×Int):=wysN c l v rs rs.length
theorem wys_take {c:Clr} {l:List LookT} {v rm:Int} {i:Nat}(h:i<(waysC c l v rm []).length):(wysR c l v rm).take (i+1)=(wysR c l v rm).take i++[(rm,((waysC c l v rm []).getD i (0,0)).1,((waysC c l v rm []).getD i (0,0)).2)]:=by
  unfold wysR
  have hl:i<((waysC c l v rm []).map fun w=>(rm,w.1,w.2)).length:=by rw [List.length_map];exact h
  rw [List.take_succ_eq_append_getElem hl,List.getElem_map,List.getD_eq_getElem?_getD,List.getElem?_eq_getElem h]
  rfl
theorem wys_all {c:Clr} {l:List LookT} {v rm:Int} {i:Nat}(h:i=(waysC c l v rm []).length):(wysR c l v rm).take i=wysR c l v rm:=by
  apply List.take_of_length_le
  unfold wysR;rw [List.length_map];omega
def wyA (c:Clr)(h:Nat)(x:Int×Int×Int):Int:=atW c.hr x.1 x.2.1 x.2.2 h
def loW (c:Clr)(V:List (Int×Int×Int))(h:Nat):Int:=mnL (wyA c h) V
def hiW (c:Clr)(V:List (Int×Int×Int))(h:Nat):Int:=mxL (wyA c h) V
def bdN (c:Clr)(V:List (Int×Int×Int)):Nat:=if V.isEmpty=true then 0 else c.hr.toNat+1
theorem bdN_nil {c:Clr} {V:List (Int×Int×Int)}(h:V.isEmpty=true):bdN c V=0:=by unfold bdN;rw [if_pos h]
theorem bdN_one {c:Clr} {V:List (Int×Int×Int)}(h:V.isEmpty=false):bdN c V=c.hr.toNat+1:=by unfold bdN;rw [if_neg (by rw [h];simp)]
theorem loW_first {c:Clr} {V:List (Int×Int×Int)}(h:V.isEmpty=true)(x:Int×Int×Int)(n:Nat):loW c (V++[x]) n=wyA c n x∧hiW c (V++[x]) n=wyA c n x:=by
  cases V with
  |nil=>exact⟨rfl,rfl⟩
  |cons y t=>cases h
theorem loW_next {c:Clr} {V:List (Int×Int×Int)}(h:V.isEmpty=false)(x:Int×Int×Int)(n:Nat):loW c (V++[x]) n=min (loW c V n) (wyA c n x)∧hiW c (V++[x]) n=max (hiW c V n) (wyA c n x):=by
  have hn:V≠[]:=fun e=>by rw [e]at h;cases h
  exact⟨mnL_app _ hn _,mxL_app _ hn _⟩
def upF (k:Nat)(g f:Nat→Int)(n:Nat):Int:=if n<k then g n else f n
theorem upF_zero (g f:Nat→Int)(n:Nat):f n=upF 0 g f n:=by unfold upF;rw [if_neg (by omega)]
theorem upF_new {k:Nat} {g f:Nat→Int} {n:Nat}(h:n=k):g n=upF (k+1) g f n:=by unfold upF;rw [if_pos (by omega)]
theorem upF_old {k:Nat} {g f:Nat→Int} {n:Nat}(h:n≠k):upF k g f n=upF (k+1) g f n:=by
  unfold upF
  by_cases q:n<k
  · rw [if_pos q,if_pos (by omega)]
  · rw [if_neg q,if_neg (by omega)]
theorem upF_at (k:Nat)(g f:Nat→Int):upF k g f k=f k:=by unfold upF;rw [if_neg (by omega)]
theorem upF_all {k:Nat} {g f:Nat→Int} {n:Nat}(h:n<k):upF k g f n=g n:=by unfold upF;rw [if_pos h]
end Go.Proofs.Yteelocfbbhchcaa

namespace Go.Proofs.Yteelocfbbhchcaa
open Go Go.Eng Go.Proofs
set_option maxRecDepth 10000
theorem asked71 (c:Clr)(l:List LookT)(h:askE c l=0):FSpec Try.prog 71 [(clrS c),(lksS l)] [] (fun r _=>r=(.tup [(wpS c l),(.sl 1 (.sym fun _=>zi (roomsL c l []).length) (fun ix=>[.int .i64 (.sym fun _=>(roomsL c l []).getD ix.den.toNat 0)])),(.int .i64 (.sym fun _=>0))])):=by
  have c87:=looked87 c l
  have c59:=fun h:lookedF c l=0=>work59 c l (lookedF_spec h).1 (lookedF_spec h).2
  have c89:=fun h:lookedF c l=0=>rooms89 c l [] (lookedF_spec h).1 (lookedF_spec h).2 (by simp)
  refine FSpec.is fun R hR=>qX (sc:=sc71) tyok mix Try.func71 rfl Try.call71 (by kernel_rfl) (by kernel_rfl) ?_
  generalize Try.prog=P at c87 c59 c89⊢
  cbv
  repeat' (first
      |with_reducible refine And.intro ?_ ?_
      |(with_reducible intro hcd;(try simp only [zA,zB,zC,zD,zE,zF,zG,zH,zI,zJ,zK,zL,zM,zN,zO,zP]at hcd);try cbv)
      | (refine qQ ?_ (c87) ?hfit
         case hfit=>((repeat' (first|exact qB|refine qD ?_ ?_|exact qE (by rfl)|exact qG (by rfl)|exact Fit.refl _|exact qA|refine qC ?_ rfl ?_));done)
         try cbv)
      | (refine qQ ?_ (c59 (show Hold _ from ?_)) ?hfit
         case hfit=>((repeat' (first|exact qB|refine qD ?_ ?_|exact qE (by rfl)|exact qG (by rfl)|exact Fit.refl _|exact qA|refine qC ?_ rfl ?_));done)
         try cbv)
      | (refine qQ ?_ (c89 (show Hold _ from ?_)) ?hfit
         case hfit=>((refine qD (Fit.refl _) (qD (qP rfl) qB));done)
         try cbv)
      |fail)
  all_goals first
    |trivial
    |(subst hR;(repeat' (first|exact qA|exact qB|refine qC ?_ rfl ?_|refine qD ?_ ?_|exact qE (by rfl)|exact qG (by rfl)|exact Fit.refl _|exact qH _|(refine qE ?_;(try simp only [qW]at *);simp only [zQ,zA,zB,zC,zD,zE,zF,zG,zH,zI,zJ,zK,zL,zM,zN,zO,zP,zR,zS]at *;omega)));done)
    |(exfalso;(have q:=askE_ok h);(try simp only [qW]at *);(try simp only [zQ,zA,zB,zC,zD,zE,zF,zG,zH,zI,zJ,zK,zL,zM,zN,zO,zP,zR,zS]at *);omega)
    |skip
theorem asked71n (c:Clr)(l:List LookT)(h:¬askE c l=0):FSpec Try.prog 71 [(clrS c),(lksS l)] [] (fun r _=>r=(.tup [.val (Value.pointer none),.any,(.int .i64 (.sym fun _=>askE c l))])):=by
  have c87:=looked87 c l
  have c59:=fun h:lookedF c l=0=>work59 c l (lookedF_spec h).1 (lookedF_spec h).2
  have c89:=fun h:lookedF c l=0=>rooms89 c l [] (lookedF_spec h).1 (lookedF_spec h).2 (by simp)
  refine FSpec.is fun R hR=>qX (sc:=sc71) tyok mix Try.func71 rfl Try.call71 (by kernel_rfl) (by kernel_rfl) ?_
  generalize Try.prog=P at c87 c59 c89⊢
  cbv
  repeat' (first
      |with_reducible refine And.intro ?_ ?_
      |(with_reducible intro hcd;(try simp only [zA,zB,zC,zD,zE,zF,zG,zH,zI,zJ,zK,zL,zM,zN,zO,zP]at hcd);try cbv)
      | (refine qQ ?_ (c87) ?hfit
         case hfit=>((repeat' (first|exact qB|refine qD ?_ ?_|exact qE (by rfl)|exact qG (by rfl)|exact Fit.refl _|exact qA|refine qC ?_ rfl ?_));done)
         try cbv)
      | (refine qQ ?_ (c59 (show Hold _ from ?_)) ?hfit
         case hfit=>((repeat' (first|exact qB|refine qD ?_ ?_|exact qE (by rfl)|exact qG (by rfl)|exact Fit.refl _|exact qA|refine qC ?_ rfl ?_));done)
         try cbv)
      | (refine qQ ?_ (c89 (show Hold _ from ?_)) ?hfit
         case hfit=>((refine qD (Fit.refl _) (qD (qP rfl) qB));done)
         try cbv)
      |fail)
  all_goals first
    |trivial
    |(subst hR;(refine qD (Fit.refl _) (qD (qH _) (qD (qE ?_) qB));(try simp only [qW]at *);(try simp only [zQ,zA,zB,zC,zD,zE,zF,zG,zH,zI,zJ,zK,zL,zM,zN,zO,zP,zR,zS]at *);first|exact(askE_bad (by assumption)).symm|exact(askE_none (by assumption) (by omega)).symm);done)
    |(exfalso;exact h (askE_yes (by assumption) (by(try simp only [qW]at *);(try simp only [zQ,zA,zB,zC,zD,zE,zF,zG,zH,zI,zJ,zK,zL,zM,zN,zO,zP,zR,zS]at *);omega)))
    |skip
end Go.Proofs.Yteelocfbbhchcaa

namespace Go.Proofs.Yteelocfbbhchcaa
open Go Go.Eng Go.Proofs
set_option maxRecDepth 10000
theorem hold_rowupd {n ix:Int} {o2:Nat} {e e':IX→List SV} {x:List SV}(h0:ix<n)(h1:∀jx:IX,0≤jx.den→jx.den<n→jx.den≠ix→Fit (.agg (e jx)) (.agg (e' jx)))
    (h2:∀jx:IX,0≤jx.den→jx.den<n→jx.den=ix→∃l,putC (e jx) o2 x=some l∧Fit (.agg l) (.agg (e' jx))):Hold (ix<n∧RowUpd n e ix o2 x e'):=
  ⟨h0,fun jx a b c=>(h1 jx a b c).le,fun jx a b c=>by obtain⟨l,p,q⟩:=h2 jx a b c;exact⟨l,p,q.le⟩⟩
theorem wk (w:Nat→Int)(k:Nat):w ((zi k*((1:Nat):Int)+((0:Nat):Int)).toNat)=w k:=by
  rw [show(zi k*((1:Nat):Int)+((0:Nat):Int)).toNat=k by simp only [zi_den];omega]
theorem upd_lo {F G:Nat→Int} {k n:Nat} {x:Int}(hm:min (F k) x=G k)(h:n=k):min (upF k G F k) x=upF (k+1) G F n:=by rw [upF_at,hm,←upF_new h,h]
theorem upd_hi {F G:Nat→Int} {k n:Nat} {x:Int}(hm:max (F k) x=G k)(h:n=k):max (upF k G F k) x=upF (k+1) G F n:=by rw [upF_at,hm,←upF_new h,h]
theorem waysC_ok {c:Clr} {l:List LookT} {v rm:Int} {o:List Int}(hc:COk c)(hv0:0≤v)(hv1:v<c.vs.length)(h0:0≤rm)(h1:rm≤200) {i:Nat}(hi:i<(waysC c l v rm o).length):WayOk rm ((waysC c l v rm o).getD i (0,0)).1 ((waysC c l v rm o).getD i (0,0)).2:=by
  have vok:=hc.ok.v v.toNat (by omega)
  unfold vatOk at vok
  have hm:(waysC c l v rm o).getD i (0,0)∈waysC c l v rm o:=by
    rw [List.getD_eq_getElem?_getD,List.getElem?_eq_getElem hi];exact List.getElem_mem hi
  have:=mem_ways (show(vatA c v).sl≤(vatA c v).sh from vok.2.1) hm
  unfold vatA at this
  exact⟨h0,h1,by omega,by omega,by omega,by omega⟩
set_option maxHeartbeats 4000000 in
theorem bounds72 (c:Clr)(l:List LookT)(v:Int)(rs:List Int)(hc:COk c)(hl:LooksIn c l)(hv0:0≤v)(hv1:v<c.vs.length)(hn:rs.length≤1000)(hrs:∀k,k<rs.length→0≤rs.getD k 0∧rs.getD k 0≤200):FSpec Try.prog 72 [(wpS c l),(.sl 1 (.sym fun _=>zi (rs).length) (fun ix=>[.int .i64 (.sym fun _=>(rs).getD ix.den.toNat 0)])),(.int .i64 (.sym fun _=>v))] [] (fun r _=>r=(.sl 2 (.sym fun _=>zi (bdN c (wysL c l v rs))) (fun ix=>[(.int .i64 (.sym fun _=>loW c (wysL c l v rs) ix.den.toNat)),(.int .i64 (.sym fun _=>hiW c (wysL c l v rs) ix.den.toNat))]))):=by
  have c101:=fun rm=>ways101 c l rm v []
  have c113:=fun rm h0 h1=>of113 c l rm v [] hc hl hv0 hv1 h0 h1 (by simp)
  have c60:=fun (rm st rt:Int) (h:WayOk rm st rt)=>run60 c l rm st rt h hc.ok.h1 hc.ok.h8
  have c102:=fun (a b n m:Int) (h:m=n)=>(show FSpec Try.prog 102 [(.agg [(.int .i64 (.sym fun _=>a)),(.int .i64 (.sym fun _=>b))]),(.int .i64 (.sym fun _=>m))] [] (fun r _=>r=(.agg [(.int .i64 (.sym fun _=>min a n)),(.int .i64 (.sym fun _=>max b n))]))from h▸wider102 a b m)
  refine FSpec.is fun R hR=>qX (sc:=sc72) tyok mix Try.func72 rfl Try.call72 (by kernel_rfl) (by kernel_rfl) ?_
  generalize Try.prog=P at c101 c113 c60 c102⊢
  cbv
  have h1:=hc.ok.h1
  have h8:=hc.ok.h8
  obtain⟨W,hW⟩:∃W,W=wysN c l v rs:=⟨_,rfl⟩
  have hW0:W 0=[]:=by rw [hW];rfl
  have hWs:∀r,W (r+1)=W r++wysR c l v (rs.getD r 0):=fun r=>by rw [hW];rfl
  have hWL:wysL c l v rs=W rs.length:=by rw [hW];rfl
  rw [hWL]at hR
  clear hW hWL
  repeat' (first
      |fail)
  all_goals first
    |skip
  refine⟨none,[],{p:Nat×Bool // p.1≤rs.length∧p.2=(W p.1).isEmpty},fun x=>match x.1.2 with|true=>⟨[(1,(.sl 1 (.sym fun _=>zi (rs).length) (fun ix=>[.int .i64 (.sym fun _=>(rs).getD ix.den.toNat 0)]))),(2,(.int .i64 (.sym fun _=>v))),(3,.own 0 0),(7,.own 2 0),(15,(.sl 1 (.sym fun _=>zi (rs).length) (fun ix=>[.int .i64 (.sym fun _=>(rs).getD ix.den.toNat 0)]))),(16,(.int .i64 (.sym fun _=>zi rs.length))),(17,(.int .i64 (.sym fun _=>zi x.1.1)))],[(0,.cells [(wpS c l)] 132),(2,.cells [.val (Value.slice none 0 0)] 74)],60⟩|false=>⟨[(1,(.sl 1 (.sym fun _=>zi (rs).length) (fun ix=>[.int .i64 (.sym fun _=>(rs).getD ix.den.toNat 0)]))),(2,(.int .i64 (.sym fun _=>v))),(3,.own 0 0),(7,.own 2 0),(15,(.sl 1 (.sym fun _=>zi (rs).length) (fun ix=>[.int .i64 (.sym fun _=>(rs).getD ix.den.toNat 0)]))),(16,(.int .i64 (.sym fun _=>zi rs.length))),(17,(.int .i64 (.sym fun _=>zi x.1.1)))],[(0,.cells [(wpS c l)] 132),(2,.cells [.row 78] 74),(78,.row 33 2 (.sym fun _=>zi (c.hr.toNat+1)) (fun ix=>[(.int .i64 (.sym fun _=>loW c (W x.1.1) ix.den.toNat)),(.int .i64 (.sym fun _=>hiW c (W x.1.1) ix.den.toNat))]))],200⟩,fun x=>rs.length-x.1.1,?_,?_⟩
  · refine⟨⟨(0,true),Nat.zero_le _,by rw [hW0];rfl⟩,?_⟩
    cbv
    repeat' (first
      |with_reducible refine hold ?_ ?_
      |with_reducible refine And.intro ?_ ?_)
    all_goals first
      |trivial
      |exact qN (qE (by rfl))
      |exact qN (Fit.refl _)
      |exact qM (qL _)
      |skip
  · rintro ⟨⟨r, b⟩,hr,hb⟩
    cases b
    · obtain ⟨rm, hrm⟩:∃r',r'=rs.getD r 0:=⟨_,rfl⟩
      obtain⟨L,hL⟩:∃L,L=(waysC c l v rm []).length:=⟨_,rfl⟩
      obtain⟨el,hel⟩:∃el:Nat→List SV,el=(fun i:Nat=>[(.agg [(.int .i64 (.sym fun _=>rm)),(.int .i64 (.sym fun _=>((waysC c l v rm []).getD i (0,0)).1)),(.int .i64 (.sym fun _=>((waysC c l v rm []).getD i (0,0)).2))])]):=⟨_,rfl⟩
      have elen:∀i,(el i).length=1∧SV.idsL (el i)=[]:=fun i=>by rw [hel];exact⟨rfl,rfl⟩
      have ei:∀i,el i=[(.agg [(.int .i64 (.sym fun _=>rm)),(.int .i64 (.sym fun _=>((waysC c l v rm []).getD i (0,0)).1)),(.int .i64 (.sym fun _=>((waysC c l v rm []).getD i (0,0)).2))])]:=fun i=>by rw [hel]
      obtain⟨VV,hVV⟩:∃VV:Nat→List (Int×Int×Int),VV=fun i=>W r++(wysR c l v rm).take i:=⟨_,rfl⟩
      have hVV0:VV 0=W r:=by rw [hVV];simp
      have hVVL:VV L=W (r+1):=by rw [hVV,hWs,←hrm,hL];show W r++_=_;rw [wys_all rfl]
      have hVVs:∀i,i<L→VV (i+1)=VV i++[(rm,((waysC c l v rm []).getD i (0,0)).1,((waysC c l v rm []).getD i (0,0)).2)]:=fun i hi=>by rw [hVV];show W r++_=W r++_++_;rw [wys_take (by rw [←hL];exact hi),List.append_assoc]
      have hVVe:∀i,i<L→(VV (i+1)).isEmpty=false:=fun i hi=>by rw [hVVs i hi];cases VV i<;>rfl
      have hVVf:∀i,i<L→(VV i).isEmpty=true→∀n,loW c (VV (i+1)) n=atW c.hr rm ((waysC c l v rm []).getD i (0,0)).1 ((waysC c l v rm []).getD i (0,0)).2 n∧hiW c (VV (i+1)) n=atW c.hr rm ((waysC c l v rm []).getD i (0,0)).1 ((waysC c l v rm []).getD i (0,0)).2 n:=fun i hi he n=>by rw [hVVs i hi];exact loW_first he _ n
      have hVVn:∀i,i<L→(VV i).isEmpty=false→∀n,loW c (VV (i+1)) n=min (loW c (VV i) n) (atW c.hr rm ((waysC c l v rm []).getD i (0,0)).1 ((waysC c l v rm []).getD i (0,0)).2 n)∧hiW c (VV (i+1)) n=max (hiW c (VV i) n) (atW c.hr rm ((waysC c l v rm []).getD i (0,0)).1 ((waysC c l v rm []).getD i (0,0)).2 n):=fun i hi he n=>by rw [hVVs i hi];exact loW_next he _ n
      clear hVV hVVs hel
      cbv
      repeat' (first
          |with_reducible refine hold ?_ ?_
          |with_reducible refine And.intro ?_ ?_
          |(with_reducible intro hcd;(try simp only [zA,zB,zC,zD,zE,zF,zG,zH,zI,zJ,zK,zL,zM,zN,zO,zP]at hcd);try cbv)
          | (refine qQ ?_ (c101 rm) ?hfit
             case hfit=>((refine qD (Fit.refl _) (qD (qE (by first|rfl|(rw [hrm];rfl))) (qD (Fit.refl _) (qD (qP rfl) qB))));done)
             try cbv)
          |fail)
      all_goals first
        |((try simp only [qW]at *);(try simp only [zQ,zA,zB,zC,zD,zE,zF,zG,zH,zI,zJ,zK,zL,zM,zN,zO,zP,zR,zS]at *);first|(refine qO ?_;omega)|(simp only [Hold];omega))
        |((have hre:r=rs.length:=(by((try simp only [qW]at *);(try simp only [zQ,zA,zB,zC,zD,zE,zF,zG,zH,zI,zJ,zK,zL,zM,zN,zO,zP,zR,zS]at *);omega)));subst hR;exact fit_sl (congrArg zi (bdN_one (by rw [←hre];exact hb.symm)).symm) (fun ix _ _=>by subst hre;exact Fit.refl _))
        |skip
      have hrr:=hrs r (by((try simp only [qW]at *);(try simp only [zQ,zA,zB,zC,zD,zE,zF,zG,zH,zI,zJ,zK,zL,zM,zN,zO,zP,zR,zS]at *);omega))
      rw [←hrm]at hrr
      have cI:ISpec P 113 [(.pp 0 [(wpS c l)]),.pp 0 [(.int .i64 (.sym fun _=>v))],.pp 0 [(.int .i64 (.sym fun _=>rm))],.pp 0 [(.sl 1 (.sym fun _=>zi (([]:List Int)).length) (fun ix=>[.int .i64 (.sym fun _=>(([]:List Int)).getD ix.den.toNat 0)]))]] L (fun i:Nat=>[(.agg [(.int .i64 (.sym fun _=>rm)),(.int .i64 (.sym fun _=>((waysC c l v rm []).getD i (0,0)).1)),(.int .i64 (.sym fun _=>((waysC c l v rm []).getD i (0,0)).2))])]):=by rw [hL];exact c113 rm hrr.1 hrr.2
      have cI:ISpec P 113 [(.pp 0 [(wpS c l)]),.pp 0 [(.int .i64 (.sym fun _=>v))],.pp 0 [(.int .i64 (.sym fun _=>rm))],.pp 0 [(.sl 1 (.sym fun _=>zi (([]:List Int)).length) (fun ix=>[.int .i64 (.sym fun _=>(([]:List Int)).getD ix.den.toNat 0)]))]] L el:=by rw [show el=(fun i:Nat=>[(.agg [(.int .i64 (.sym fun _=>rm)),(.int .i64 (.sym fun _=>((waysC c l v rm []).getD i (0,0)).1)),(.int .i64 (.sym fun _=>((waysC c l v rm []).getD i (0,0)).2))])])from funext ei];exact cI
      have hWO:∀i,i<L→WayOk rm ((waysC c l v rm []).getD i (0,0)).1 ((waysC c l v rm []).getD i (0,0)).2:=fun i hi=>waysC_ok hc hv0 hv1 hrr.1 hrr.2 (by rw [←hL];exact hi)
      refine⟨[],L,el,fun i=>{b:Bool // b=(VV i).isEmpty},fun i x=>match x.1 with|true=>([(0,.cells [(wpS c l)] 132),(2,.cells [.val (Value.slice none 0 0)] 74)],60)|false=>([(0,.cells [(wpS c l)] 132),(2,.cells [.row 78] 74),(78,.row 33 2 (.sym fun _=>zi (c.hr.toNat+1)) (fun ix=>[(.int .i64 (.sym fun _=>loW c (VV i) ix.den.toNat)),(.int .i64 (.sym fun _=>hiW c (VV i) ix.den.toNat))]))],200),?_⟩
      cbv
      refine⟨fun _=>⟨cI,elen⟩,⟨⟨false,by rw [hVV0];exact hb⟩,?_⟩,?_,?_⟩
      · cbv
        repeat' (first
          |with_reducible refine hold ?_ ?_
          |with_reducible refine And.intro ?_ ?_)
        all_goals first
          |trivial
          |exact qM (qL _)
          |(refine qM (ble_row ?_ ?_)<;>first|rfl|(intro ix h0 h1;rw [hVV0];exact Fit.refl _))
          |skip
      · rintro i ⟨b, hb⟩ hil
        cases b
        · have hi1 :=hil
          obtain⟨G1,hG1⟩:∃G,G=loW c (VV (i+1)):=⟨_,rfl⟩
          obtain⟨G2,hG2⟩:∃G,G=hiW c (VV (i+1)):=⟨_,rfl⟩
          have hE:=hVVe i hil
          have hway:=hWO i hil
          have c60i:=c60 _ _ _ hway
          obtain⟨st,hst⟩:∃s,s=((waysC c l v rm []).getD i (0,0)).1:=⟨_,rfl⟩
          obtain⟨rt,hrt⟩:∃s,s=((waysC c l v rm []).getD i (0,0)).2:=⟨_,rfl⟩
          have hfi:=hVVf i hil
          have hne:=hVVn i hil
          rw [←hst,←hrt]at c60i hfi hne
          obtain⟨w,hw⟩:∃w,w=atW c.hr rm st rt:=⟨_,rfl⟩
          rw [←hw]at c60i hfi hne
          simp only [ei]
          rw [←hst,←hrt]
          have hmn:∀n,min (loW c (VV i) n) (w n)=G1 n:=fun n=>by rw [hG1,(hne hb.symm n).1]
          have hmx:∀n,max (hiW c (VV i) n) (w n)=G2 n:=fun n=>by rw [hG2,(hne hb.symm n).2]
          obtain⟨F1,hF1⟩:∃F,F=loW c (VV i):=⟨_,rfl⟩
          obtain⟨F2,hF2⟩:∃F,F=hiW c (VV i):=⟨_,rfl⟩
          rw [←hF1]at hmn⊢
          rw [←hF2]at hmx⊢
          cbv
          repeat' (first
              |with_reducible refine hold ?_ ?_
              |with_reducible refine And.intro ?_ ?_
              |(with_reducible intro hcd;(try simp only [zA,zB,zC,zD,zE,zF,zG,zH,zI,zJ,zK,zL,zM,zN,zO,zP]at hcd);try cbv)
              | (refine qQ ?_ (c60i) ?hfit
                 case hfit=>((repeat' (first|exact qB|refine qD ?_ ?_|exact qE (by rfl)|exact qG (by rfl)|exact Fit.refl _|exact qA|refine qC ?_ rfl ?_));done)
                 try cbv)
              |fail)
          all_goals first
            |((try simp only [qW]at *);(try simp only [zQ,zA,zB,zC,zD,zE,zF,zG,zH,zI,zJ,zK,zL,zM,zN,zO,zP,zR,zS]at *);first|(refine qO ?_;omega)|(simp only [Hold];omega))
            |(exfalso;(try simp only [qW]at *);(try simp only [zQ,zA,zB,zC,zD,zE,zF,zG,zH,zI,zJ,zK,zL,zM,zN,zO,zP,zR,zS]at *);omega)
            |skip
          refine⟨none,[],{k:Nat // k≤c.hr.toNat+1},fun x=>⟨[(3,.own 0 0),(7,.own 2 0),(11,.own 205 0),(51,(.int .i64 (.sym fun _=>zi (c.hr.toNat+1)))),(52,(.int .i64 (.sym fun _=>zi x.1)))],[(0,.cells [(wpS c l)] 132),(2,.cells [.row 78] 74),(78,.row 33 2 (.sym fun _=>zi (c.hr.toNat+1)) (fun ix=>[(.int .i64 (.sym fun _=>upF (x.1) G1 F1 ix.den.toNat)),(.int .i64 (.sym fun _=>upF (x.1) G2 F2 ix.den.toNat))])),(205,.cells [(.arr 9 (fun ix=>(.int .i64 (.sym fun _=>w ix.den.toNat))))] 135)],300⟩,fun x=>c.hr.toNat+1-x.1,?_,?_⟩
          · refine⟨⟨0,by omega⟩,?_⟩
            cbv
            repeat' (first
              |with_reducible refine hold ?_ ?_
              |with_reducible refine And.intro ?_ ?_)
            all_goals first
              |trivial
              |exact qN (qE (by rfl))
              |exact qN (Fit.refl _)
              |exact qM (qL _)
              |skip
          · rintro ⟨k,hk⟩
            cbv
            repeat' (first
                |with_reducible refine hold ?_ ?_
                |with_reducible refine And.intro ?_ ?_
                |(with_reducible intro hcd;(try simp only [zA,zB,zC,zD,zE,zF,zG,zH,zI,zJ,zK,zL,zM,zN,zO,zP]at hcd);try cbv)
                | (refine qQ ?_ (c102 (upF k G1 F1 k) (upF k G2 F2 k) (w k) _ (wk w k)) ?hfit
                   case hfit=>((repeat' (first|exact qB|refine qD ?_ ?_|exact qE (by rfl)|exact qG (by rfl)|exact Fit.refl _|exact qA|refine qC ?_ rfl ?_));done)
                   try cbv)
                | (refine⟨fun ix=>[(.int .i64 (.sym fun _=>upF (k+1) G1 F1 ix.den.toNat)),(.int .i64 (.sym fun _=>upF (k+1) G2 F2 ix.den.toNat))],?_⟩
                   cbv
                   refine hold (hold_rowupd (by(try simp only [qW]at *);(try simp only [zQ,zA,zB,zC,zD,zE,zF,zG,zH,zI,zJ,zK,zL,zM,zN,zO,zP,zR,zS]at *);omega) (by intro jx h0 h1 h2;refine qC (qE (upF_old (by(try simp only [qW]at *);(try simp only [zQ,zA,zB,zC,zD,zE,zF,zG,zH,zI,zJ,zK,zL,zM,zN,zO,zP,zR,zS]at *);omega))) rfl (qC (qE (upF_old (by(try simp only [qW]at *);(try simp only [zQ,zA,zB,zC,zD,zE,zF,zG,zH,zI,zJ,zK,zL,zM,zN,zO,zP,zR,zS]at *);omega))) rfl qA)) (by intro jx h0 h1 h2;refine⟨_,rfl,qC (qE (upd_lo (hmn k) (by(try simp only [qW]at *);(try simp only [zQ,zA,zB,zC,zD,zE,zF,zG,zH,zI,zJ,zK,zL,zM,zN,zO,zP,zR,zS]at *);omega))) rfl (qC (qE (upd_hi (hmx k) (by(try simp only [qW]at *);(try simp only [zQ,zA,zB,zC,zD,zE,zF,zG,zH,zI,zJ,zK,zL,zM,zN,zO,zP,zR,zS]at *);omega))) rfl qA)⟩)) ?_
                   try cbv)
                |fail)
            all_goals first
              |trivial
              |((try simp only [qW]at *);(try simp only [zQ,zA,zB,zC,zD,zE,zF,zG,zH,zI,zJ,zK,zL,zM,zN,zO,zP,zR,zS]at *);first|(refine qO ?_;omega)|(simp only [Hold];omega))
              |((try simp only [zQ,zA,zB,zC,zD,zE,zF,zG,zH,zI,zJ,zK,zL,zM,zN,zO,zP,zR,zS]at *);refine⟨⟨k+1,by omega⟩,by simp only [];omega,?_⟩;cbv;(repeat' (first|with_reducible refine hold ?_ ?_|with_reducible refine And.intro ?_ ?_));(all_goals first|trivial|exact qN (qE (by rfl))|exact qN (qG (by rfl))|exact qN (Fit.refl _)|exact qM (qL _)|(refine qN (qE ?_);(try simp only [qW]at *);simp only [zQ,zA,zB,zC,zD,zE,zF,zG,zH,zI,zJ,zK,zL,zM,zN,zO,zP,zR,zS]at *;omega)|(refine qM (qK ?_);(repeat' (first|exact qA|exact qB|refine qC ?_ rfl ?_|refine qD ?_ ?_|exact qE (by rfl)|exact qG (by rfl)|exact Fit.refl _|exact qH _|(refine qE ?_;(try simp only [qW]at *);simp only [zQ,zA,zB,zC,zD,zE,zF,zG,zH,zI,zJ,zK,zL,zM,zN,zO,zP,zR,zS]at *;omega)));done)|(refine qM (ble_row ?_ ?_)<;>first|rfl|((try simp only [qW]at *);(try simp only [zQ,zA,zB,zC,zD,zE,zF,zG,zH,zI,zJ,zK,zL,zM,zN,zO,zP,zR,zS]at *);omega)|(intro ix h0 h1;exact Fit.refl _))|skip))
              |(refine⟨⟨false,hE.symm⟩,?_⟩;cbv;(repeat' (first|with_reducible refine hold ?_ ?_|with_reducible refine And.intro ?_ ?_));(all_goals first|trivial|exact qN (qE (by rfl))|exact qN (qG (by rfl))|exact qN (Fit.refl _)|exact qM (qL _)|(refine qN (qE ?_);(try simp only [qW]at *);simp only [zQ,zA,zB,zC,zD,zE,zF,zG,zH,zI,zJ,zK,zL,zM,zN,zO,zP,zR,zS]at *;omega)|(refine qM (qK ?_);(repeat' (first|exact qA|exact qB|refine qC ?_ rfl ?_|refine qD ?_ ?_|exact qE (by rfl)|exact qG (by rfl)|exact Fit.refl _|exact qH _|(refine qE ?_;(try simp only [qW]at *);simp only [zQ,zA,zB,zC,zD,zE,zF,zG,zH,zI,zJ,zK,zL,zM,zN,zO,zP,zR,zS]at *;omega)));done)|(refine qM (ble_row ?_ ?_)<;>first|rfl|(intro ix h0 h1;exact qC (qE ((upF_all (by(try simp only [qW]at *);(try simp only [zQ,zA,zB,zC,zD,zE,zF,zG,zH,zI,zJ,zK,zL,zM,zN,zO,zP,zR,zS]at *);omega)).trans (congrFun hG1 _))) rfl (qC (qE ((upF_all (by(try simp only [qW]at *);(try simp only [zQ,zA,zB,zC,zD,zE,zF,zG,zH,zI,zJ,zK,zL,zM,zN,zO,zP,zR,zS]at *);omega)).trans (congrFun hG2 _))) rfl qA)))|skip))
              |skip
        · have hi1 :=hil
          obtain⟨G1,hG1⟩:∃G,G=loW c (VV (i+1)):=⟨_,rfl⟩
          obtain⟨G2,hG2⟩:∃G,G=hiW c (VV (i+1)):=⟨_,rfl⟩
          have hE:=hVVe i hil
          have hway:=hWO i hil
          have c60i:=c60 _ _ _ hway
          obtain⟨st,hst⟩:∃s,s=((waysC c l v rm []).getD i (0,0)).1:=⟨_,rfl⟩
          obtain⟨rt,hrt⟩:∃s,s=((waysC c l v rm []).getD i (0,0)).2:=⟨_,rfl⟩
          have hfi:=hVVf i hil
          have hne:=hVVn i hil
          rw [←hst,←hrt]at c60i hfi hne
          obtain⟨w,hw⟩:∃w,w=atW c.hr rm st rt:=⟨_,rfl⟩
          rw [←hw]at c60i hfi hne
          simp only [ei]
          rw [←hst,←hrt]
          have hmn:∀n,min (w n) (w n)=G1 n:=fun n=>by rw [hG1,(hfi hb.symm n).1];omega
          have hmx:∀n,max (w n) (w n)=G2 n:=fun n=>by rw [hG2,(hfi hb.symm n).2];omega
          cbv
          repeat' (first
              |with_reducible refine hold ?_ ?_
              | (refine qQ ?_ (c60i) ?hfit
                 case hfit=>((repeat' (first|exact qB|refine qD ?_ ?_|exact qE (by rfl)|exact qG (by rfl)|exact Fit.refl _|exact qA|refine qC ?_ rfl ?_));done)
                 try cbv)
              |fail)
          all_goals first
            |((try simp only [qW]at *);(try simp only [zQ,zA,zB,zC,zD,zE,zF,zG,zH,zI,zJ,zK,zL,zM,zN,zO,zP,zR,zS]at *);first|(refine qO ?_;omega)|(simp only [Hold];omega))
            |(simp only [Hold];refine⟨?_,?_,by decide⟩<;>((try simp only [qW]at *);(try simp only [zQ,zA,zB,zC,zD,zE,zF,zG,zH,zI,zJ,zK,zL,zM,zN,zO,zP,zR,zS]at *);omega))
            |skip
          refine⟨none,[⟨.cell 2 0,33,2⟩],{k:Nat // k≤c.hr.toNat+1},fun x=>⟨[(3,.own 0 0),(7,.own 2 0),(11,.own 65 0),(37,.owd 65 0 1 9 (.sym fun _=>c.hr+1)),(38,(.int .i64 (.sym fun _=>c.hr+1))),(39,(.int .i64 (.sym fun _=>zi x.1)))],[(0,.cells [(wpS c l)] 132),(2,.cells [.row 78] 74),(78,.row 33 2 (.sym fun _=>zi (x.1)) (fun ix=>[(.int .i64 (.sym fun _=>w ix.den.toNat)),(.int .i64 (.sym fun _=>w ix.den.toNat))])),(65,.cells [(.arr 9 (fun ix=>(.int .i64 (.sym fun _=>w ix.den.toNat))))] 135)],200⟩,fun x=>c.hr.toNat+1-x.1,?_,?_⟩
          · refine⟨⟨0,by omega⟩,?_⟩
            cbv
            repeat' (first
              |with_reducible refine hold ?_ ?_
              |with_reducible refine And.intro ?_ ?_)
            all_goals first
              |trivial
              |exact qN (qE (by rfl))
              |exact qN (Fit.refl _)
              |exact qM (qL _)
              |(refine qM (ble_row ?_ ?_);(first|rfl|((try simp only [qW]at *);(try simp only [zQ,zA,zB,zC,zD,zE,zF,zG,zH,zI,zJ,zK,zL,zM,zN,zO,zP,zR,zS]at *);omega));intro ix h0 h1;exfalso;(try simp only [qW]at *);(try simp only [zQ,zA,zB,zC,zD,zE,zF,zG,zH,zI,zJ,zK,zL,zM,zN,zO,zP,zR,zS]at *);omega)
              |skip
          · rintro ⟨k,hk⟩
            cbv
            repeat' (first
                |with_reducible refine hold ?_ ?_
                |with_reducible refine And.intro ?_ ?_
                |(with_reducible intro hcd;(try simp only [zA,zB,zC,zD,zE,zF,zG,zH,zI,zJ,zK,zL,zM,zN,zO,zP]at hcd);try cbv)
                | (refine⟨fun ix=>[(.int .i64 (.sym fun _=>w ix.den.toNat)),(.int .i64 (.sym fun _=>w ix.den.toNat))],?_⟩
                   cbv
                   refine hold (hold_rowapp (by intro ix jx h0 h1 h2;simp only [h2];exact Fit.refl _) (by intro ix jx h0 h1 h2;(have h3:jx.den.toNat=k:=by((try simp only [qW]at *);(try simp only [zQ,zA,zB,zC,zD,zE,zF,zG,zH,zI,zJ,zK,zL,zM,zN,zO,zP,zR,zS]at *);omega));simp only [h3];exact qC (qE (wk w k)) rfl (qC (qE (wk w k)) rfl qA)) (by(try simp only [qW]at *);(try simp only [zQ,zA,zB,zC,zD,zE,zF,zG,zH,zI,zJ,zK,zL,zM,zN,zO,zP,zR,zS]at *);omega)) (Or.inl ?_)
                   try cbv)
                |fail)
            all_goals first
              |((try simp only [qW]at *);(try simp only [zQ,zA,zB,zC,zD,zE,zF,zG,zH,zI,zJ,zK,zL,zM,zN,zO,zP,zR,zS]at *);first|(refine qO ?_;omega)|(simp only [Hold];omega))
              |((try simp only [zQ,zA,zB,zC,zD,zE,zF,zG,zH,zI,zJ,zK,zL,zM,zN,zO,zP,zR,zS]at *);refine⟨⟨k+1,by((try simp only [qW]at *);(try simp only [zQ,zA,zB,zC,zD,zE,zF,zG,zH,zI,zJ,zK,zL,zM,zN,zO,zP,zR,zS]at *);omega)⟩,by simp only [];omega,?_⟩;cbv;(repeat' (first|with_reducible refine hold ?_ ?_|with_reducible refine And.intro ?_ ?_));(all_goals first|trivial|exact qN (qE (by rfl))|exact qN (qG (by rfl))|exact qN (Fit.refl _)|exact qM (qL _)|(refine qN (qE ?_);(try simp only [qW]at *);simp only [zQ,zA,zB,zC,zD,zE,zF,zG,zH,zI,zJ,zK,zL,zM,zN,zO,zP,zR,zS]at *;omega)|(refine qM (qK ?_);(repeat' (first|exact qA|exact qB|refine qC ?_ rfl ?_|refine qD ?_ ?_|exact qE (by rfl)|exact qG (by rfl)|exact Fit.refl _|exact qH _|(refine qE ?_;(try simp only [qW]at *);simp only [zQ,zA,zB,zC,zD,zE,zF,zG,zH,zI,zJ,zK,zL,zM,zN,zO,zP,zR,zS]at *;omega)));done)|(refine qM (ble_row ?_ ?_)<;>first|rfl|((try simp only [qW]at *);(try simp only [zQ,zA,zB,zC,zD,zE,zF,zG,zH,zI,zJ,zK,zL,zM,zN,zO,zP,zR,zS]at *);omega)|(intro ix h0 h1;exact Fit.refl _))|skip))
              |skip
            refine⟨none,[],{k:Nat // k≤c.hr.toNat+1},fun x=>⟨[(3,.own 0 0),(7,.own 2 0),(11,.own 65 0),(51,(.int .i64 (.sym fun _=>zi (c.hr.toNat+1)))),(52,(.int .i64 (.sym fun _=>zi x.1)))],[(0,.cells [(wpS c l)] 132),(2,.cells [.row 78] 74),(78,.row 33 2 (.sym fun _=>zi (c.hr.toNat+1)) (fun ix=>[(.int .i64 (.sym fun _=>upF (x.1) G1 w ix.den.toNat)),(.int .i64 (.sym fun _=>upF (x.1) G2 w ix.den.toNat))])),(65,.cells [(.arr 9 (fun ix=>(.int .i64 (.sym fun _=>w ix.den.toNat))))] 135)],300⟩,fun x=>c.hr.toNat+1-x.1,?_,?_⟩
            · refine⟨⟨0,by omega⟩,?_⟩
              cbv
              repeat' (first
                |with_reducible refine hold ?_ ?_
                |with_reducible refine And.intro ?_ ?_)
              all_goals first
                |trivial
                |exact qN (qE (by rfl))
                |exact qN (Fit.refl _)
                |exact qM (qL _)
                |(refine qN (qE ?_);(try simp only [qW]at *);simp only [zQ,zA,zB,zC,zD,zE,zF,zG,zH,zI,zJ,zK,zL,zM,zN,zO,zP,zR,zS]at *;omega)
                |(refine qM (ble_row ?_ ?_)<;>first|rfl|((try simp only [qW]at *);(try simp only [zQ,zA,zB,zC,zD,zE,zF,zG,zH,zI,zJ,zK,zL,zM,zN,zO,zP,zR,zS]at *);omega)|(intro ix h0 h1;exact qC (qE (upF_zero _ _ _)) rfl (qC (qE (upF_zero _ _ _)) rfl qA)))
                |skip
            · rintro ⟨k,hk⟩
              cbv
              repeat' (first
                  |with_reducible refine hold ?_ ?_
                  |with_reducible refine And.intro ?_ ?_
                  |(with_reducible intro hcd;(try simp only [zA,zB,zC,zD,zE,zF,zG,zH,zI,zJ,zK,zL,zM,zN,zO,zP]at hcd);try cbv)
                  | (refine qQ ?_ (c102 (upF k G1 w k) (upF k G2 w k) (w k) _ (wk w k)) ?hfit
                     case hfit=>((repeat' (first|exact qB|refine qD ?_ ?_|exact qE (by rfl)|exact qG (by rfl)|exact Fit.refl _|exact qA|refine qC ?_ rfl ?_));done)
                     try cbv)
                  | (refine⟨fun ix=>[(.int .i64 (.sym fun _=>upF (k+1) G1 w ix.den.toNat)),(.int .i64 (.sym fun _=>upF (k+1) G2 w ix.den.toNat))],?_⟩
                     cbv
                     refine hold (hold_rowupd (by(try simp only [qW]at *);(try simp only [zQ,zA,zB,zC,zD,zE,zF,zG,zH,zI,zJ,zK,zL,zM,zN,zO,zP,zR,zS]at *);omega) (by intro jx h0 h1 h2;refine qC (qE (upF_old (by(try simp only [qW]at *);(try simp only [zQ,zA,zB,zC,zD,zE,zF,zG,zH,zI,zJ,zK,zL,zM,zN,zO,zP,zR,zS]at *);omega))) rfl (qC (qE (upF_old (by(try simp only [qW]at *);(try simp only [zQ,zA,zB,zC,zD,zE,zF,zG,zH,zI,zJ,zK,zL,zM,zN,zO,zP,zR,zS]at *);omega))) rfl qA)) (by intro jx h0 h1 h2;refine⟨_,rfl,qC (qE (upd_lo (hmn k) (by(try simp only [qW]at *);(try simp only [zQ,zA,zB,zC,zD,zE,zF,zG,zH,zI,zJ,zK,zL,zM,zN,zO,zP,zR,zS]at *);omega))) rfl (qC (qE (upd_hi (hmx k) (by(try simp only [qW]at *);(try simp only [zQ,zA,zB,zC,zD,zE,zF,zG,zH,zI,zJ,zK,zL,zM,zN,zO,zP,zR,zS]at *);omega))) rfl qA)⟩)) ?_
                     try cbv)
                  |fail)
              all_goals first
                |trivial
                |((try simp only [qW]at *);(try simp only [zQ,zA,zB,zC,zD,zE,zF,zG,zH,zI,zJ,zK,zL,zM,zN,zO,zP,zR,zS]at *);first|(refine qO ?_;omega)|(simp only [Hold];omega))
                |((try simp only [zQ,zA,zB,zC,zD,zE,zF,zG,zH,zI,zJ,zK,zL,zM,zN,zO,zP,zR,zS]at *);refine⟨⟨k+1,by omega⟩,by simp only [];omega,?_⟩;cbv;(repeat' (first|with_reducible refine hold ?_ ?_|with_reducible refine And.intro ?_ ?_));(all_goals first|trivial|exact qN (qE (by rfl))|exact qN (qG (by rfl))|exact qN (Fit.refl _)|exact qM (qL _)|(refine qN (qE ?_);(try simp only [qW]at *);simp only [zQ,zA,zB,zC,zD,zE,zF,zG,zH,zI,zJ,zK,zL,zM,zN,zO,zP,zR,zS]at *;omega)|(refine qM (qK ?_);(repeat' (first|exact qA|exact qB|refine qC ?_ rfl ?_|refine qD ?_ ?_|exact qE (by rfl)|exact qG (by rfl)|exact Fit.refl _|exact qH _|(refine qE ?_;(try simp only [qW]at *);simp only [zQ,zA,zB,zC,zD,zE,zF,zG,zH,zI,zJ,zK,zL,zM,zN,zO,zP,zR,zS]at *;omega)));done)|(refine qM (ble_row ?_ ?_)<;>first|rfl|((try simp only [qW]at *);(try simp only [zQ,zA,zB,zC,zD,zE,zF,zG,zH,zI,zJ,zK,zL,zM,zN,zO,zP,zR,zS]at *);omega)|(intro ix h0 h1;exact Fit.refl _))|skip))
                |(refine⟨⟨false,hE.symm⟩,?_⟩;cbv;(repeat' (first|with_reducible refine hold ?_ ?_|with_reducible refine And.intro ?_ ?_));(all_goals first|trivial|exact qN (qE (by rfl))|exact qN (qG (by rfl))|exact qN (Fit.refl _)|exact qM (qL _)|(refine qN (qE ?_);(try simp only [qW]at *);simp only [zQ,zA,zB,zC,zD,zE,zF,zG,zH,zI,zJ,zK,zL,zM,zN,zO,zP,zR,zS]at *;omega)|(refine qM (qK ?_);(repeat' (first|exact qA|exact qB|refine qC ?_ rfl ?_|refine qD ?_ ?_|exact qE (by rfl)|exact qG (by rfl)|exact Fit.refl _|exact qH _|(refine qE ?_;(try simp only [qW]at *);simp only [zQ,zA,zB,zC,zD,zE,zF,zG,zH,zI,zJ,zK,zL,zM,zN,zO,zP,zR,zS]at *;omega)));done)|(refine qM (ble_row ?_ ?_)<;>first|rfl|(intro ix h0 h1;exact qC (qE ((upF_all (by(try simp only [qW]at *);(try simp only [zQ,zA,zB,zC,zD,zE,zF,zG,zH,zI,zJ,zK,zL,zM,zN,zO,zP,zR,zS]at *);omega)).trans (congrFun hG1 _))) rfl (qC (qE ((upF_all (by(try simp only [qW]at *);(try simp only [zQ,zA,zB,zC,zD,zE,zF,zG,zH,zI,zJ,zK,zL,zM,zN,zO,zP,zR,zS]at *);omega)).trans (congrFun hG2 _))) rfl qA)))|skip))
                |skip
      · rintro⟨b,hb⟩
        cases b
        · cbv
          repeat' (first
              |with_reducible refine hold ?_ ?_
              |fail)
          all_goals first
            |((try simp only [qW]at *);(try simp only [zQ,zA,zB,zC,zD,zE,zF,zG,zH,zI,zJ,zK,zL,zM,zN,zO,zP,zR,zS]at *);first|(refine qO ?_;omega)|(simp only [Hold];omega))
            |((try simp only [zQ,zA,zB,zC,zD,zE,zF,zG,zH,zI,zJ,zK,zL,zM,zN,zO,zP,zR,zS]at *);refine⟨⟨(r+1,false),by((try simp only [qW]at *);(try simp only [zQ,zA,zB,zC,zD,zE,zF,zG,zH,zI,zJ,zK,zL,zM,zN,zO,zP,zR,zS]at *);omega),by rw [←hVVL];exact hb⟩,by simp only [];omega,?_⟩;cbv;(repeat' (first|with_reducible refine hold ?_ ?_|with_reducible refine And.intro ?_ ?_));(all_goals first|trivial|exact qN (qE (by rfl))|exact qN (qG (by rfl))|exact qN (Fit.refl _)|exact qM (qL _)|(refine qN (qE ?_);(try simp only [qW]at *);simp only [zQ,zA,zB,zC,zD,zE,zF,zG,zH,zI,zJ,zK,zL,zM,zN,zO,zP,zR,zS]at *;omega)|(refine qM (qK ?_);(repeat' (first|exact qA|exact qB|refine qC ?_ rfl ?_|refine qD ?_ ?_|exact qE (by rfl)|exact qG (by rfl)|exact Fit.refl _|exact qH _|(refine qE ?_;(try simp only [qW]at *);simp only [zQ,zA,zB,zC,zD,zE,zF,zG,zH,zI,zJ,zK,zL,zM,zN,zO,zP,zR,zS]at *;omega)));done)|(refine qM (ble_row ?_ ?_)<;>first|rfl|(intro ix h0 h1;simp only [hVVL];exact Fit.refl _))|skip))
            |skip
        · cbv
          repeat' (first
              |with_reducible refine hold ?_ ?_
              |fail)
          all_goals first
            |((try simp only [qW]at *);(try simp only [zQ,zA,zB,zC,zD,zE,zF,zG,zH,zI,zJ,zK,zL,zM,zN,zO,zP,zR,zS]at *);first|(refine qO ?_;omega)|(simp only [Hold];omega))
            |((try simp only [zQ,zA,zB,zC,zD,zE,zF,zG,zH,zI,zJ,zK,zL,zM,zN,zO,zP,zR,zS]at *);refine⟨⟨(r+1,true),by((try simp only [qW]at *);(try simp only [zQ,zA,zB,zC,zD,zE,zF,zG,zH,zI,zJ,zK,zL,zM,zN,zO,zP,zR,zS]at *);omega),by rw [←hVVL];exact hb⟩,by simp only [];omega,?_⟩;cbv;(repeat' (first|with_reducible refine hold ?_ ?_|with_reducible refine And.intro ?_ ?_));(all_goals first|trivial|exact qN (qE (by rfl))|exact qN (qG (by rfl))|exact qN (Fit.refl _)|exact qM (qL _)|(refine qN (qE ?_);(try simp only [qW]at *);simp only [zQ,zA,zB,zC,zD,zE,zF,zG,zH,zI,zJ,zK,zL,zM,zN,zO,zP,zR,zS]at *;omega)|(refine qM (qK ?_);(repeat' (first|exact qA|exact qB|refine qC ?_ rfl ?_|refine qD ?_ ?_|exact qE (by rfl)|exact qG (by rfl)|exact Fit.refl _|exact qH _|(refine qE ?_;(try simp only [qW]at *);simp only [zQ,zA,zB,zC,zD,zE,zF,zG,zH,zI,zJ,zK,zL,zM,zN,zO,zP,zR,zS]at *;omega)));done)|(refine qM (ble_row ?_ ?_)<;>first|rfl|(intro ix h0 h1;simp only [hVVL];exact Fit.refl _))|skip))
            |skip
    · obtain ⟨rm, hrm⟩:∃r',r'=rs.getD r 0:=⟨_,rfl⟩
      obtain⟨L,hL⟩:∃L,L=(waysC c l v rm []).length:=⟨_,rfl⟩
      obtain⟨el,hel⟩:∃el:Nat→List SV,el=(fun i:Nat=>[(.agg [(.int .i64 (.sym fun _=>rm)),(.int .i64 (.sym fun _=>((waysC c l v rm []).getD i (0,0)).1)),(.int .i64 (.sym fun _=>((waysC c l v rm []).getD i (0,0)).2))])]):=⟨_,rfl⟩
      have elen:∀i,(el i).length=1∧SV.idsL (el i)=[]:=fun i=>by rw [hel];exact⟨rfl,rfl⟩
      have ei:∀i,el i=[(.agg [(.int .i64 (.sym fun _=>rm)),(.int .i64 (.sym fun _=>((waysC c l v rm []).getD i (0,0)).1)),(.int .i64 (.sym fun _=>((waysC c l v rm []).getD i (0,0)).2))])]:=fun i=>by rw [hel]
      obtain⟨VV,hVV⟩:∃VV:Nat→List (Int×Int×Int),VV=fun i=>W r++(wysR c l v rm).take i:=⟨_,rfl⟩
      have hVV0:VV 0=W r:=by rw [hVV];simp
      have hVVL:VV L=W (r+1):=by rw [hVV,hWs,←hrm,hL];show W r++_=_;rw [wys_all rfl]
      have hVVs:∀i,i<L→VV (i+1)=VV i++[(rm,((waysC c l v rm []).getD i (0,0)).1,((waysC c l v rm []).getD i (0,0)).2)]:=fun i hi=>by rw [hVV];show W r++_=W r++_++_;rw [wys_take (by rw [←hL];exact hi),List.append_assoc]
      have hVVe:∀i,i<L→(VV (i+1)).isEmpty=false:=fun i hi=>by rw [hVVs i hi];cases VV i<;>rfl
      have hVVf:∀i,i<L→(VV i).isEmpty=true→∀n,loW c (VV (i+1)) n=atW c.hr rm ((waysC c l v rm []).getD i (0,0)).1 ((waysC c l v rm []).getD i (0,0)).2 n∧hiW c (VV (i+1)) n=atW c.hr rm ((waysC c l v rm []).getD i (0,0)).1 ((waysC c l v rm []).getD i (0,0)).2 n:=fun i hi he n=>by rw [hVVs i hi];exact loW_first he _ n
      have hVVn:∀i,i<L→(VV i).isEmpty=false→∀n,loW c (VV (i+1)) n=min (loW c (VV i) n) (atW c.hr rm ((waysC c l v rm []).getD i (0,0)).1 ((waysC c l v rm []).getD i (0,0)).2 n)∧hiW c (VV (i+1)) n=max (hiW c (VV i) n) (atW c.hr rm ((waysC c l v rm []).getD i (0,0)).1 ((waysC c l v rm []).getD i (0,0)).2 n):=fun i hi he n=>by rw [hVVs i hi];exact loW_next he _ n
      clear hVV hVVs hel
      cbv
      repeat' (first
          |with_reducible refine hold ?_ ?_
          |with_reducible refine And.intro ?_ ?_
          |(with_reducible intro hcd;(try simp only [zA,zB,zC,zD,zE,zF,zG,zH,zI,zJ,zK,zL,zM,zN,zO,zP]at hcd);try cbv)
          | (refine qQ ?_ (c101 rm) ?hfit
             case hfit=>((refine qD (Fit.refl _) (qD (qE (by first|rfl|(rw [hrm];rfl))) (qD (Fit.refl _) (qD (qP rfl) qB))));done)
             try cbv)
          |fail)
      all_goals first
        |((try simp only [qW]at *);(try simp only [zQ,zA,zB,zC,zD,zE,zF,zG,zH,zI,zJ,zK,zL,zM,zN,zO,zP,zR,zS]at *);first|(refine qO ?_;omega)|(simp only [Hold];omega))
        |((have hre:r=rs.length:=(by((try simp only [qW]at *);(try simp only [zQ,zA,zB,zC,zD,zE,zF,zG,zH,zI,zJ,zK,zL,zM,zN,zO,zP,zR,zS]at *);omega)));subst hR;exact qP (congrArg zi (bdN_nil (by rw [←hre];exact hb.symm))))
        |skip
      have hrr:=hrs r (by((try simp only [qW]at *);(try simp only [zQ,zA,zB,zC,zD,zE,zF,zG,zH,zI,zJ,zK,zL,zM,zN,zO,zP,zR,zS]at *);omega))
      rw [←hrm]at hrr
      have cI:ISpec P 113 [(.pp 0 [(wpS c l)]),.pp 0 [(.int .i64 (.sym fun _=>v))],.pp 0 [(.int .i64 (.sym fun _=>rm))],.pp 0 [(.sl 1 (.sym fun _=>zi (([]:List Int)).length) (fun ix=>[.int .i64 (.sym fun _=>(([]:List Int)).getD ix.den.toNat 0)]))]] L (fun i:Nat=>[(.agg [(.int .i64 (.sym fun _=>rm)),(.int .i64 (.sym fun _=>((waysC c l v rm []).getD i (0,0)).1)),(.int .i64 (.sym fun _=>((waysC c l v rm []).getD i (0,0)).2))])]):=by rw [hL];exact c113 rm hrr.1 hrr.2
      have cI:ISpec P 113 [(.pp 0 [(wpS c l)]),.pp 0 [(.int .i64 (.sym fun _=>v))],.pp 0 [(.int .i64 (.sym fun _=>rm))],.pp 0 [(.sl 1 (.sym fun _=>zi (([]:List Int)).length) (fun ix=>[.int .i64 (.sym fun _=>(([]:List Int)).getD ix.den.toNat 0)]))]] L el:=by rw [show el=(fun i:Nat=>[(.agg [(.int .i64 (.sym fun _=>rm)),(.int .i64 (.sym fun _=>((waysC c l v rm []).getD i (0,0)).1)),(.int .i64 (.sym fun _=>((waysC c l v rm []).getD i (0,0)).2))])])from funext ei];exact cI
      have hWO:∀i,i<L→WayOk rm ((waysC c l v rm []).getD i (0,0)).1 ((waysC c l v rm []).getD i (0,0)).2:=fun i hi=>waysC_ok hc hv0 hv1 hrr.1 hrr.2 (by rw [←hL];exact hi)
      refine⟨[],L,el,fun i=>{b:Bool // b=(VV i).isEmpty},fun i x=>match x.1 with|true=>([(0,.cells [(wpS c l)] 132),(2,.cells [.val (Value.slice none 0 0)] 74)],60)|false=>([(0,.cells [(wpS c l)] 132),(2,.cells [.row 78] 74),(78,.row 33 2 (.sym fun _=>zi (c.hr.toNat+1)) (fun ix=>[(.int .i64 (.sym fun _=>loW c (VV i) ix.den.toNat)),(.int .i64 (.sym fun _=>hiW c (VV i) ix.den.toNat))]))],200),?_⟩
      cbv
      refine⟨fun _=>⟨cI,elen⟩,⟨⟨true,by rw [hVV0];exact hb⟩,?_⟩,?_,?_⟩
      · cbv
        repeat' (first
          |with_reducible refine hold ?_ ?_
          |with_reducible refine And.intro ?_ ?_)
        all_goals first
          |trivial
          |exact qM (qL _)
          |skip
      · rintro i ⟨b, hb⟩ hil
        cases b
        · have hi1 :=hil
          obtain⟨G1,hG1⟩:∃G,G=loW c (VV (i+1)):=⟨_,rfl⟩
          obtain⟨G2,hG2⟩:∃G,G=hiW c (VV (i+1)):=⟨_,rfl⟩
          have hE:=hVVe i hil
          have hway:=hWO i hil
          have c60i:=c60 _ _ _ hway
          obtain⟨st,hst⟩:∃s,s=((waysC c l v rm []).getD i (0,0)).1:=⟨_,rfl⟩
          obtain⟨rt,hrt⟩:∃s,s=((waysC c l v rm []).getD i (0,0)).2:=⟨_,rfl⟩
          have hfi:=hVVf i hil
          have hne:=hVVn i hil
          rw [←hst,←hrt]at c60i hfi hne
          obtain⟨w,hw⟩:∃w,w=atW c.hr rm st rt:=⟨_,rfl⟩
          rw [←hw]at c60i hfi hne
          simp only [ei]
          rw [←hst,←hrt]
          have hmn:∀n,min (loW c (VV i) n) (w n)=G1 n:=fun n=>by rw [hG1,(hne hb.symm n).1]
          have hmx:∀n,max (hiW c (VV i) n) (w n)=G2 n:=fun n=>by rw [hG2,(hne hb.symm n).2]
          obtain⟨F1,hF1⟩:∃F,F=loW c (VV i):=⟨_,rfl⟩
          obtain⟨F2,hF2⟩:∃F,F=hiW c (VV i):=⟨_,rfl⟩
          rw [←hF1]at hmn⊢
          rw [←hF2]at hmx⊢
          cbv
          repeat' (first
              |with_reducible refine hold ?_ ?_
              |with_reducible refine And.intro ?_ ?_
              |(with_reducible intro hcd;(try simp only [zA,zB,zC,zD,zE,zF,zG,zH,zI,zJ,zK,zL,zM,zN,zO,zP]at hcd);try cbv)
              | (refine qQ ?_ (c60i) ?hfit
                 case hfit=>((repeat' (first|exact qB|refine qD ?_ ?_|exact qE (by rfl)|exact qG (by rfl)|exact Fit.refl _|exact qA|refine qC ?_ rfl ?_));done)
                 try cbv)
              |fail)
          all_goals first
            |((try simp only [qW]at *);(try simp only [zQ,zA,zB,zC,zD,zE,zF,zG,zH,zI,zJ,zK,zL,zM,zN,zO,zP,zR,zS]at *);first|(refine qO ?_;omega)|(simp only [Hold];omega))
            |(exfalso;(try simp only [qW]at *);(try simp only [zQ,zA,zB,zC,zD,zE,zF,zG,zH,zI,zJ,zK,zL,zM,zN,zO,zP,zR,zS]at *);omega)
            |skip
          refine⟨none,[],{k:Nat // k≤c.hr.toNat+1},fun x=>⟨[(3,.own 0 0),(7,.own 2 0),(11,.own 205 0),(51,(.int .i64 (.sym fun _=>zi (c.hr.toNat+1)))),(52,(.int .i64 (.sym fun _=>zi x.1)))],[(0,.cells [(wpS c l)] 132),(2,.cells [.row 78] 74),(78,.row 33 2 (.sym fun _=>zi (c.hr.toNat+1)) (fun ix=>[(.int .i64 (.sym fun _=>upF (x.1) G1 F1 ix.den.toNat)),(.int .i64 (.sym fun _=>upF (x.1) G2 F2 ix.den.toNat))])),(205,.cells [(.arr 9 (fun ix=>(.int .i64 (.sym fun _=>w ix.den.toNat))))] 135)],300⟩,fun x=>c.hr.toNat+1-x.1,?_,?_⟩
          · refine⟨⟨0,by omega⟩,?_⟩
            cbv
            repeat' (first
              |with_reducible refine hold ?_ ?_
              |with_reducible refine And.intro ?_ ?_)
            all_goals first
              |trivial
              |exact qN (qE (by rfl))
              |exact qN (Fit.refl _)
              |exact qM (qL _)
              |skip
          · rintro ⟨k,hk⟩
            cbv
            repeat' (first
                |with_reducible refine hold ?_ ?_
                |with_reducible refine And.intro ?_ ?_
                |(with_reducible intro hcd;(try simp only [zA,zB,zC,zD,zE,zF,zG,zH,zI,zJ,zK,zL,zM,zN,zO,zP]at hcd);try cbv)
                | (refine qQ ?_ (c102 (upF k G1 F1 k) (upF k G2 F2 k) (w k) _ (wk w k)) ?hfit
                   case hfit=>((repeat' (first|exact qB|refine qD ?_ ?_|exact qE (by rfl)|exact qG (by rfl)|exact Fit.refl _|exact qA|refine qC ?_ rfl ?_));done)
                   try cbv)
                | (refine⟨fun ix=>[(.int .i64 (.sym fun _=>upF (k+1) G1 F1 ix.den.toNat)),(.int .i64 (.sym fun _=>upF (k+1) G2 F2 ix.den.toNat))],?_⟩
                   cbv
                   refine hold (hold_rowupd (by(try simp only [qW]at *);(try simp only [zQ,zA,zB,zC,zD,zE,zF,zG,zH,zI,zJ,zK,zL,zM,zN,zO,zP,zR,zS]at *);omega) (by intro jx h0 h1 h2;refine qC (qE (upF_old (by(try simp only [qW]at *);(try simp only [zQ,zA,zB,zC,zD,zE,zF,zG,zH,zI,zJ,zK,zL,zM,zN,zO,zP,zR,zS]at *);omega))) rfl (qC (qE (upF_old (by(try simp only [qW]at *);(try simp only [zQ,zA,zB,zC,zD,zE,zF,zG,zH,zI,zJ,zK,zL,zM,zN,zO,zP,zR,zS]at *);omega))) rfl qA)) (by intro jx h0 h1 h2;refine⟨_,rfl,qC (qE (upd_lo (hmn k) (by(try simp only [qW]at *);(try simp only [zQ,zA,zB,zC,zD,zE,zF,zG,zH,zI,zJ,zK,zL,zM,zN,zO,zP,zR,zS]at *);omega))) rfl (qC (qE (upd_hi (hmx k) (by(try simp only [qW]at *);(try simp only [zQ,zA,zB,zC,zD,zE,zF,zG,zH,zI,zJ,zK,zL,zM,zN,zO,zP,zR,zS]at *);omega))) rfl qA)⟩)) ?_
                   try cbv)
                |fail)
            all_goals first
              |trivial
              |((try simp only [qW]at *);(try simp only [zQ,zA,zB,zC,zD,zE,zF,zG,zH,zI,zJ,zK,zL,zM,zN,zO,zP,zR,zS]at *);first|(refine qO ?_;omega)|(simp only [Hold];omega))
              |((try simp only [zQ,zA,zB,zC,zD,zE,zF,zG,zH,zI,zJ,zK,zL,zM,zN,zO,zP,zR,zS]at *);refine⟨⟨k+1,by omega⟩,by simp only [];omega,?_⟩;cbv;(repeat' (first|with_reducible refine hold ?_ ?_|with_reducible refine And.intro ?_ ?_));(all_goals first|trivial|exact qN (qE (by rfl))|exact qN (qG (by rfl))|exact qN (Fit.refl _)|exact qM (qL _)|(refine qN (qE ?_);(try simp only [qW]at *);simp only [zQ,zA,zB,zC,zD,zE,zF,zG,zH,zI,zJ,zK,zL,zM,zN,zO,zP,zR,zS]at *;omega)|(refine qM (qK ?_);(repeat' (first|exact qA|exact qB|refine qC ?_ rfl ?_|refine qD ?_ ?_|exact qE (by rfl)|exact qG (by rfl)|exact Fit.refl _|exact qH _|(refine qE ?_;(try simp only [qW]at *);simp only [zQ,zA,zB,zC,zD,zE,zF,zG,zH,zI,zJ,zK,zL,zM,zN,zO,zP,zR,zS]at *;omega)));done)|(refine qM (ble_row ?_ ?_)<;>first|rfl|((try simp only [qW]at *);(try simp only [zQ,zA,zB,zC,zD,zE,zF,zG,zH,zI,zJ,zK,zL,zM,zN,zO,zP,zR,zS]at *);omega)|(intro ix h0 h1;exact Fit.refl _))|skip))
              |(refine⟨⟨false,hE.symm⟩,?_⟩;cbv;(repeat' (first|with_reducible refine hold ?_ ?_|with_reducible refine And.intro ?_ ?_));(all_goals first|trivial|exact qN (qE (by rfl))|exact qN (qG (by rfl))|exact qN (Fit.refl _)|exact qM (qL _)|(refine qN (qE ?_);(try simp only [qW]at *);simp only [zQ,zA,zB,zC,zD,zE,zF,zG,zH,zI,zJ,zK,zL,zM,zN,zO,zP,zR,zS]at *;omega)|(refine qM (qK ?_);(repeat' (first|exact qA|exact qB|refine qC ?_ rfl ?_|refine qD ?_ ?_|exact qE (by rfl)|exact qG (by rfl)|exact Fit.refl _|exact qH _|(refine qE ?_;(try simp only [qW]at *);simp only [zQ,zA,zB,zC,zD,zE,zF,zG,zH,zI,zJ,zK,zL,zM,zN,zO,zP,zR,zS]at *;omega)));done)|(refine qM (ble_row ?_ ?_)<;>first|rfl|(intro ix h0 h1;exact qC (qE ((upF_all (by(try simp only [qW]at *);(try simp only [zQ,zA,zB,zC,zD,zE,zF,zG,zH,zI,zJ,zK,zL,zM,zN,zO,zP,zR,zS]at *);omega)).trans (congrFun hG1 _))) rfl (qC (qE ((upF_all (by(try simp only [qW]at *);(try simp only [zQ,zA,zB,zC,zD,zE,zF,zG,zH,zI,zJ,zK,zL,zM,zN,zO,zP,zR,zS]at *);omega)).trans (congrFun hG2 _))) rfl qA)))|skip))
              |skip
        · have hi1 :=hil
          obtain⟨G1,hG1⟩:∃G,G=loW c (VV (i+1)):=⟨_,rfl⟩
          obtain⟨G2,hG2⟩:∃G,G=hiW c (VV (i+1)):=⟨_,rfl⟩
          have hE:=hVVe i hil
          have hway:=hWO i hil
          have c60i:=c60 _ _ _ hway
          obtain⟨st,hst⟩:∃s,s=((waysC c l v rm []).getD i (0,0)).1:=⟨_,rfl⟩
          obtain⟨rt,hrt⟩:∃s,s=((waysC c l v rm []).getD i (0,0)).2:=⟨_,rfl⟩
          have hfi:=hVVf i hil
          have hne:=hVVn i hil
          rw [←hst,←hrt]at c60i hfi hne
          obtain⟨w,hw⟩:∃w,w=atW c.hr rm st rt:=⟨_,rfl⟩
          rw [←hw]at c60i hfi hne
          simp only [ei]
          rw [←hst,←hrt]
          have hmn:∀n,min (w n) (w n)=G1 n:=fun n=>by rw [hG1,(hfi hb.symm n).1];omega
          have hmx:∀n,max (w n) (w n)=G2 n:=fun n=>by rw [hG2,(hfi hb.symm n).2];omega
          cbv
          repeat' (first
              |with_reducible refine hold ?_ ?_
              | (refine qQ ?_ (c60i) ?hfit
                 case hfit=>((repeat' (first|exact qB|refine qD ?_ ?_|exact qE (by rfl)|exact qG (by rfl)|exact Fit.refl _|exact qA|refine qC ?_ rfl ?_));done)
                 try cbv)
              |fail)
          all_goals first
            |((try simp only [qW]at *);(try simp only [zQ,zA,zB,zC,zD,zE,zF,zG,zH,zI,zJ,zK,zL,zM,zN,zO,zP,zR,zS]at *);first|(refine qO ?_;omega)|(simp only [Hold];omega))
            |(simp only [Hold];refine⟨?_,?_,by decide⟩<;>((try simp only [qW]at *);(try simp only [zQ,zA,zB,zC,zD,zE,zF,zG,zH,zI,zJ,zK,zL,zM,zN,zO,zP,zR,zS]at *);omega))
            |skip
          refine⟨none,[⟨.cell 2 0,33,2⟩],{k:Nat // k≤c.hr.toNat+1},fun x=>⟨[(3,.own 0 0),(7,.own 2 0),(11,.own 65 0),(37,.owd 65 0 1 9 (.sym fun _=>c.hr+1)),(38,(.int .i64 (.sym fun _=>c.hr+1))),(39,(.int .i64 (.sym fun _=>zi x.1)))],[(0,.cells [(wpS c l)] 132),(2,.cells [.row 78] 74),(78,.row 33 2 (.sym fun _=>zi (x.1)) (fun ix=>[(.int .i64 (.sym fun _=>w ix.den.toNat)),(.int .i64 (.sym fun _=>w ix.den.toNat))])),(65,.cells [(.arr 9 (fun ix=>(.int .i64 (.sym fun _=>w ix.den.toNat))))] 135)],200⟩,fun x=>c.hr.toNat+1-x.1,?_,?_⟩
          · refine⟨⟨0,by omega⟩,?_⟩
            cbv
            repeat' (first
              |with_reducible refine hold ?_ ?_
              |with_reducible refine And.intro ?_ ?_)
            all_goals first
              |trivial
              |exact qN (qE (by rfl))
              |exact qN (Fit.refl _)
              |exact qM (qL _)
              |(refine qM (ble_row ?_ ?_);(first|rfl|((try simp only [qW]at *);(try simp only [zQ,zA,zB,zC,zD,zE,zF,zG,zH,zI,zJ,zK,zL,zM,zN,zO,zP,zR,zS]at *);omega));intro ix h0 h1;exfalso;(try simp only [qW]at *);(try simp only [zQ,zA,zB,zC,zD,zE,zF,zG,zH,zI,zJ,zK,zL,zM,zN,zO,zP,zR,zS]at *);omega)
              |skip
          · rintro ⟨k,hk⟩
            cbv
            repeat' (first
                |with_reducible refine hold ?_ ?_
                |with_reducible refine And.intro ?_ ?_
                |(with_reducible intro hcd;(try simp only [zA,zB,zC,zD,zE,zF,zG,zH,zI,zJ,zK,zL,zM,zN,zO,zP]at hcd);try cbv)
                | (refine⟨fun ix=>[(.int .i64 (.sym fun _=>w ix.den.toNat)),(.int .i64 (.sym fun _=>w ix.den.toNat))],?_⟩
                   cbv
                   refine hold (hold_rowapp (by intro ix jx h0 h1 h2;simp only [h2];exact Fit.refl _) (by intro ix jx h0 h1 h2;(have h3:jx.den.toNat=k:=by((try simp only [qW]at *);(try simp only [zQ,zA,zB,zC,zD,zE,zF,zG,zH,zI,zJ,zK,zL,zM,zN,zO,zP,zR,zS]at *);omega));simp only [h3];exact qC (qE (wk w k)) rfl (qC (qE (wk w k)) rfl qA)) (by(try simp only [qW]at *);(try simp only [zQ,zA,zB,zC,zD,zE,zF,zG,zH,zI,zJ,zK,zL,zM,zN,zO,zP,zR,zS]at *);omega)) (Or.inl ?_)
                   try cbv)
                |fail)
            all_goals first
              |((try simp only [qW]at *);(try simp only [zQ,zA,zB,zC,zD,zE,zF,zG,zH,zI,zJ,zK,zL,zM,zN,zO,zP,zR,zS]at *);first|(refine qO ?_;omega)|(simp only [Hold];omega))
              |((try simp only [zQ,zA,zB,zC,zD,zE,zF,zG,zH,zI,zJ,zK,zL,zM,zN,zO,zP,zR,zS]at *);refine⟨⟨k+1,by((try simp only [qW]at *);(try simp only [zQ,zA,zB,zC,zD,zE,zF,zG,zH,zI,zJ,zK,zL,zM,zN,zO,zP,zR,zS]at *);omega)⟩,by simp only [];omega,?_⟩;cbv;(repeat' (first|with_reducible refine hold ?_ ?_|with_reducible refine And.intro ?_ ?_));(all_goals first|trivial|exact qN (qE (by rfl))|exact qN (qG (by rfl))|exact qN (Fit.refl _)|exact qM (qL _)|(refine qN (qE ?_);(try simp only [qW]at *);simp only [zQ,zA,zB,zC,zD,zE,zF,zG,zH,zI,zJ,zK,zL,zM,zN,zO,zP,zR,zS]at *;omega)|(refine qM (qK ?_);(repeat' (first|exact qA|exact qB|refine qC ?_ rfl ?_|refine qD ?_ ?_|exact qE (by rfl)|exact qG (by rfl)|exact Fit.refl _|exact qH _|(refine qE ?_;(try simp only [qW]at *);simp only [zQ,zA,zB,zC,zD,zE,zF,zG,zH,zI,zJ,zK,zL,zM,zN,zO,zP,zR,zS]at *;omega)));done)|(refine qM (ble_row ?_ ?_)<;>first|rfl|((try simp only [qW]at *);(try simp only [zQ,zA,zB,zC,zD,zE,zF,zG,zH,zI,zJ,zK,zL,zM,zN,zO,zP,zR,zS]at *);omega)|(intro ix h0 h1;exact Fit.refl _))|skip))
              |skip
            refine⟨none,[],{k:Nat // k≤c.hr.toNat+1},fun x=>⟨[(3,.own 0 0),(7,.own 2 0),(11,.own 65 0),(51,(.int .i64 (.sym fun _=>zi (c.hr.toNat+1)))),(52,(.int .i64 (.sym fun _=>zi x.1)))],[(0,.cells [(wpS c l)] 132),(2,.cells [.row 78] 74),(78,.row 33 2 (.sym fun _=>zi (c.hr.toNat+1)) (fun ix=>[(.int .i64 (.sym fun _=>upF (x.1) G1 w ix.den.toNat)),(.int .i64 (.sym fun _=>upF (x.1) G2 w ix.den.toNat))])),(65,.cells [(.arr 9 (fun ix=>(.int .i64 (.sym fun _=>w ix.den.toNat))))] 135)],300⟩,fun x=>c.hr.toNat+1-x.1,?_,?_⟩
            · refine⟨⟨0,by omega⟩,?_⟩
              cbv
              repeat' (first
                |with_reducible refine hold ?_ ?_
                |with_reducible refine And.intro ?_ ?_)
              all_goals first
                |trivial
                |exact qN (qE (by rfl))
                |exact qN (Fit.refl _)
                |exact qM (qL _)
                |(refine qN (qE ?_);(try simp only [qW]at *);simp only [zQ,zA,zB,zC,zD,zE,zF,zG,zH,zI,zJ,zK,zL,zM,zN,zO,zP,zR,zS]at *;omega)
                |(refine qM (ble_row ?_ ?_)<;>first|rfl|((try simp only [qW]at *);(try simp only [zQ,zA,zB,zC,zD,zE,zF,zG,zH,zI,zJ,zK,zL,zM,zN,zO,zP,zR,zS]at *);omega)|(intro ix h0 h1;exact qC (qE (upF_zero _ _ _)) rfl (qC (qE (upF_zero _ _ _)) rfl qA)))
                |skip
            · rintro ⟨k,hk⟩
              cbv
              repeat' (first
                  |with_reducible refine hold ?_ ?_
                  |with_reducible refine And.intro ?_ ?_
                  |(with_reducible intro hcd;(try simp only [zA,zB,zC,zD,zE,zF,zG,zH,zI,zJ,zK,zL,zM,zN,zO,zP]at hcd);try cbv)
                  | (refine qQ ?_ (c102 (upF k G1 w k) (upF k G2 w k) (w k) _ (wk w k)) ?hfit
                     case hfit=>((repeat' (first|exact qB|refine qD ?_ ?_|exact qE (by rfl)|exact qG (by rfl)|exact Fit.refl _|exact qA|refine qC ?_ rfl ?_));done)
                     try cbv)
                  | (refine⟨fun ix=>[(.int .i64 (.sym fun _=>upF (k+1) G1 w ix.den.toNat)),(.int .i64 (.sym fun _=>upF (k+1) G2 w ix.den.toNat))],?_⟩
                     cbv
                     refine hold (hold_rowupd (by(try simp only [qW]at *);(try simp only [zQ,zA,zB,zC,zD,zE,zF,zG,zH,zI,zJ,zK,zL,zM,zN,zO,zP,zR,zS]at *);omega) (by intro jx h0 h1 h2;refine qC (qE (upF_old (by(try simp only [qW]at *);(try simp only [zQ,zA,zB,zC,zD,zE,zF,zG,zH,zI,zJ,zK,zL,zM,zN,zO,zP,zR,zS]at *);omega))) rfl (qC (qE (upF_old (by(try simp only [qW]at *);(try simp only [zQ,zA,zB,zC,zD,zE,zF,zG,zH,zI,zJ,zK,zL,zM,zN,zO,zP,zR,zS]at *);omega))) rfl qA)) (by intro jx h0 h1 h2;refine⟨_,rfl,qC (qE (upd_lo (hmn k) (by(try simp only [qW]at *);(try simp only [zQ,zA,zB,zC,zD,zE,zF,zG,zH,zI,zJ,zK,zL,zM,zN,zO,zP,zR,zS]at *);omega))) rfl (qC (qE (upd_hi (hmx k) (by(try simp only [qW]at *);(try simp only [zQ,zA,zB,zC,zD,zE,zF,zG,zH,zI,zJ,zK,zL,zM,zN,zO,zP,zR,zS]at *);omega))) rfl qA)⟩)) ?_
                     try cbv)
                  |fail)
              all_goals first
                |trivial
                |((try simp only [qW]at *);(try simp only [zQ,zA,zB,zC,zD,zE,zF,zG,zH,zI,zJ,zK,zL,zM,zN,zO,zP,zR,zS]at *);first|(refine qO ?_;omega)|(simp only [Hold];omega))
                |((try simp only [zQ,zA,zB,zC,zD,zE,zF,zG,zH,zI,zJ,zK,zL,zM,zN,zO,zP,zR,zS]at *);refine⟨⟨k+1,by omega⟩,by simp only [];omega,?_⟩;cbv;(repeat' (first|with_reducible refine hold ?_ ?_|with_reducible refine And.intro ?_ ?_));(all_goals first|trivial|exact qN (qE (by rfl))|exact qN (qG (by rfl))|exact qN (Fit.refl _)|exact qM (qL _)|(refine qN (qE ?_);(try simp only [qW]at *);simp only [zQ,zA,zB,zC,zD,zE,zF,zG,zH,zI,zJ,zK,zL,zM,zN,zO,zP,zR,zS]at *;omega)|(refine qM (qK ?_);(repeat' (first|exact qA|exact qB|refine qC ?_ rfl ?_|refine qD ?_ ?_|exact qE (by rfl)|exact qG (by rfl)|exact Fit.refl _|exact qH _|(refine qE ?_;(try simp only [qW]at *);simp only [zQ,zA,zB,zC,zD,zE,zF,zG,zH,zI,zJ,zK,zL,zM,zN,zO,zP,zR,zS]at *;omega)));done)|(refine qM (ble_row ?_ ?_)<;>first|rfl|((try simp only [qW]at *);(try simp only [zQ,zA,zB,zC,zD,zE,zF,zG,zH,zI,zJ,zK,zL,zM,zN,zO,zP,zR,zS]at *);omega)|(intro ix h0 h1;exact Fit.refl _))|skip))
                |(refine⟨⟨false,hE.symm⟩,?_⟩;cbv;(repeat' (first|with_reducible refine hold ?_ ?_|with_reducible refine And.intro ?_ ?_));(all_goals first|trivial|exact qN (qE (by rfl))|exact qN (qG (by rfl))|exact qN (Fit.refl _)|exact qM (qL _)|(refine qN (qE ?_);(try simp only [qW]at *);simp only [zQ,zA,zB,zC,zD,zE,zF,zG,zH,zI,zJ,zK,zL,zM,zN,zO,zP,zR,zS]at *;omega)|(refine qM (qK ?_);(repeat' (first|exact qA|exact qB|refine qC ?_ rfl ?_|refine qD ?_ ?_|exact qE (by rfl)|exact qG (by rfl)|exact Fit.refl _|exact qH _|(refine qE ?_;(try simp only [qW]at *);simp only [zQ,zA,zB,zC,zD,zE,zF,zG,zH,zI,zJ,zK,zL,zM,zN,zO,zP,zR,zS]at *;omega)));done)|(refine qM (ble_row ?_ ?_)<;>first|rfl|(intro ix h0 h1;exact qC (qE ((upF_all (by(try simp only [qW]at *);(try simp only [zQ,zA,zB,zC,zD,zE,zF,zG,zH,zI,zJ,zK,zL,zM,zN,zO,zP,zR,zS]at *);omega)).trans (congrFun hG1 _))) rfl (qC (qE ((upF_all (by(try simp only [qW]at *);(try simp only [zQ,zA,zB,zC,zD,zE,zF,zG,zH,zI,zJ,zK,zL,zM,zN,zO,zP,zR,zS]at *);omega)).trans (congrFun hG2 _))) rfl qA)))|skip))
                |skip
      · rintro⟨b,hb⟩
        cases b
        · cbv
          repeat' (first
              |with_reducible refine hold ?_ ?_
              |fail)
          all_goals first
            |((try simp only [qW]at *);(try simp only [zQ,zA,zB,zC,zD,zE,zF,zG,zH,zI,zJ,zK,zL,zM,zN,zO,zP,zR,zS]at *);first|(refine qO ?_;omega)|(simp only [Hold];omega))
            |((try simp only [zQ,zA,zB,zC,zD,zE,zF,zG,zH,zI,zJ,zK,zL,zM,zN,zO,zP,zR,zS]at *);refine⟨⟨(r+1,false),by((try simp only [qW]at *);(try simp only [zQ,zA,zB,zC,zD,zE,zF,zG,zH,zI,zJ,zK,zL,zM,zN,zO,zP,zR,zS]at *);omega),by rw [←hVVL];exact hb⟩,by simp only [];omega,?_⟩;cbv;(repeat' (first|with_reducible refine hold ?_ ?_|with_reducible refine And.intro ?_ ?_));(all_goals first|trivial|exact qN (qE (by rfl))|exact qN (qG (by rfl))|exact qN (Fit.refl _)|exact qM (qL _)|(refine qN (qE ?_);(try simp only [qW]at *);simp only [zQ,zA,zB,zC,zD,zE,zF,zG,zH,zI,zJ,zK,zL,zM,zN,zO,zP,zR,zS]at *;omega)|(refine qM (qK ?_);(repeat' (first|exact qA|exact qB|refine qC ?_ rfl ?_|refine qD ?_ ?_|exact qE (by rfl)|exact qG (by rfl)|exact Fit.refl _|exact qH _|(refine qE ?_;(try simp only [qW]at *);simp only [zQ,zA,zB,zC,zD,zE,zF,zG,zH,zI,zJ,zK,zL,zM,zN,zO,zP,zR,zS]at *;omega)));done)|(refine qM (ble_row ?_ ?_)<;>first|rfl|(intro ix h0 h1;simp only [hVVL];exact Fit.refl _))|skip))
            |skip
        · cbv
          repeat' (first
              |with_reducible refine hold ?_ ?_
              |fail)
          all_goals first
            |((try simp only [qW]at *);(try simp only [zQ,zA,zB,zC,zD,zE,zF,zG,zH,zI,zJ,zK,zL,zM,zN,zO,zP,zR,zS]at *);first|(refine qO ?_;omega)|(simp only [Hold];omega))
            |((try simp only [zQ,zA,zB,zC,zD,zE,zF,zG,zH,zI,zJ,zK,zL,zM,zN,zO,zP,zR,zS]at *);refine⟨⟨(r+1,true),by((try simp only [qW]at *);(try simp only [zQ,zA,zB,zC,zD,zE,zF,zG,zH,zI,zJ,zK,zL,zM,zN,zO,zP,zR,zS]at *);omega),by rw [←hVVL];exact hb⟩,by simp only [];omega,?_⟩;cbv;(repeat' (first|with_reducible refine hold ?_ ?_|with_reducible refine And.intro ?_ ?_));(all_goals first|trivial|exact qN (qE (by rfl))|exact qN (qG (by rfl))|exact qN (Fit.refl _)|exact qM (qL _)|(refine qN (qE ?_);(try simp only [qW]at *);simp only [zQ,zA,zB,zC,zD,zE,zF,zG,zH,zI,zJ,zK,zL,zM,zN,zO,zP,zR,zS]at *;omega)|(refine qM (qK ?_);(repeat' (first|exact qA|exact qB|refine qC ?_ rfl ?_|refine qD ?_ ?_|exact qE (by rfl)|exact qG (by rfl)|exact Fit.refl _|exact qH _|(refine qE ?_;(try simp only [qW]at *);simp only [zQ,zA,zB,zC,zD,zE,zF,zG,zH,zI,zJ,zK,zL,zM,zN,zO,zP,zR,zS]at *;omega)));done)|(refine qM (ble_row ?_ ?_)<;>first|rfl|(intro ix h0 h1;simp only [hVVL];exact Fit.refl _))|skip))
            |skip
end Go.Proofs.Yteelocfbbhchcaa

namespace Go.Proofs.Yteelocfbbhchcaa
open Go Go.Eng Go.Proofs
set_option maxRecDepth 10000
theorem mem_wysN {c:Clr} {l:List LookT} {v:Int} {rs:List Int} {x:Int×Int×Int}:∀{n:Nat},x∈wysN c l v rs n↔∃k,k<n∧x∈wysR c l v (rs.getD k 0):=by
  intro n
  induction n with
  |zero=>simp only [wysN,List.not_mem_nil,false_iff];rintro⟨k,h,_⟩;omega
  | succ n ih=>
    simp only [wysN,List.mem_append,ih]
    constructor
    · rintro(⟨k,h,q⟩|q)
      · exact⟨k,by omega,q⟩
      · exact⟨n,by omega,q⟩
    · rintro⟨k,h,q⟩
      by_cases e:k=n
      · exact Or.inr (e▸q)
      · exact Or.inl ⟨k,by omega,q⟩
theorem mem_getD {L:List Int} {k:Nat}(h:k<L.length):L.getD k 0∈L:=by
  rw [List.getD_eq_getElem?_getD,List.getElem?_eq_getElem h];exact List.getElem_mem h
theorem getD_mem {L:List Int} {x:Int}(h:x∈L):∃k,k<L.length∧L.getD k 0=x:=by
  obtain⟨k,hk,e⟩:=List.getElem_of_mem h
  exact⟨k,hk,by rw [List.getD_eq_getElem?_getD,List.getElem?_eq_getElem hk];exact e⟩
theorem mem_wysL {c:Clr} {l:List LookT} {v:Int} {rs:List Int} {x:Int×Int×Int}:x∈wysL c l v rs↔∃rm,rm∈rs∧∃w,w∈waysC c l v rm []∧x=(rm,w.1,w.2):=by
  unfold wysL
  rw [mem_wysN]
  constructor
  · rintro⟨k,hk,q⟩
    unfold wysR at q
    obtain⟨w,hw,e⟩:=List.mem_map.1 q
    exact⟨_,mem_getD hk,w,hw,e.symm⟩
  · rintro⟨rm,hm,w,hw,e⟩
    obtain⟨k,hk,e'⟩:=getD_mem hm
    refine⟨k,hk,?_⟩
    rw [e',e]
    exact List.mem_map.2 ⟨w,hw,rfl⟩
theorem some_mem {α:Type} {L:List α}(h:0<L.length):∃x,x∈L:=by
  cases L with
  |nil=>cases h
  |cons x t=>exact⟨x,List.mem_cons_self ..⟩
theorem isEmpty_mem {α:Type} {L:List α} {x:α}(h:x∈L):L.isEmpty=false:=by
  cases L with
  |nil=>cases h
  |cons y t=>rfl
theorem roomB_some {c:Clr} {l:List LookT} {o:List Int} {rm:Int}(h:roomB c l o rm=true) {v:Nat}(hv:v<c.vs.length):0<(waysC c l (v:Int) rm o).length:=by
  unfold roomB at h
  rw [allB_t]at h
  exact of_decide_eq_true (h v hv)
theorem room_bd {c:Clr}(hc:COk c) {l:List LookT} {o:List Int} {k:Nat}(h:k<(roomsL c l o).length):0≤(roomsL c l o).getD k 0∧(roomsL c l o).getD k 0≤200:=by
  have:=(mem_rooms hc.ok.r1).1 (mem_getD h)
  have:=hc.ok.r0;have:=hc.ok.r2
  omega
theorem rooms_len {c:Clr}(hc:COk c)(l:List LookT)(o:List Int):(roomsL c l o).length≤21:=by
  have:=roomsN_len c l o (c.rh-c.rl+1).toNat
  have:=hc.ok.r3
  unfold roomsL;omega
def vyL (c:Clr)(l:List LookT)(v:Nat):List (Int×Int×Int):=wysL c l (v:Int) (roomsL c l [])
theorem vyL_ne {c:Clr} {l:List LookT}(h:askE c l=0) {v:Nat}(hv:v<c.vs.length):(vyL c l v).isEmpty=false:=by
  obtain⟨h1,h2⟩:=askE_ok h
  obtain⟨hc,hl⟩:=lookedF_spec h1
  obtain⟨rm,hm⟩:=some_mem (show 0<(roomsL c l []).length by omega)
  obtain⟨w,hw⟩:=some_mem (roomB_some ((mem_rooms hc.ok.r1).1 hm).2.2 hv)
  exact isEmpty_mem (mem_wysL.2 ⟨rm,hm,w,hw,rfl⟩)
def bndN (c:Clr)(l:List LookT):Nat:=if askE c l=0 then c.vs.length else 0
theorem bndN_yes {c:Clr} {l:List LookT}(h:askE c l=0):bndN c l=c.vs.length:=by unfold bndN;rw [if_pos h]
theorem bndN_no {c:Clr} {l:List LookT}(h:¬askE c l=0):bndN c l=0:=by unfold bndN;rw [if_neg h]
def oyL (c:Clr)(l:List LookT)(rm:Int)(v:Nat):List (Int×Int×Int):=wysL c l (v:Int) [rm]
theorem oyL_ne {c:Clr} {l:List LookT} {rm:Int}(h:roomB c l [] rm=true) {v:Nat}(hv:v<c.vs.length):(oyL c l rm v).isEmpty=false:=by
  obtain⟨w,hw⟩:=some_mem (roomB_some h hv)
  exact isEmpty_mem (mem_wysL.2 ⟨rm,List.mem_singleton.2 rfl,w,hw,rfl⟩)
def okT (c:Clr)(l:List LookT)(rm:Int)(h:Nat)(lim:Int)(v:Nat):Bool:=decide (hiW c (oyL c l rm v) h≤lim)
def okM (c:Clr)(l:List LookT)(rm:Int)(h:Nat)(lim:Int)(v:Nat):Bool:=decide (loW c (oyL c l rm v) h≤lim)
def coolT (c:Clr)(l:List LookT)(h:Nat)(lim rm:Int):Bool:=allB (okT c l rm h lim) c.vs.length
def coolM (c:Clr)(l:List LookT)(h:Nat)(lim rm:Int):Bool:=allB (okM c l rm h lim) c.vs.length
def sureB (c:Clr)(l:List LookT)(lim:Int)(h:Nat):Bool:=allB (fun i=>coolT c l h lim ((roomsL c l []).getD i 0)) (roomsL c l []).length
def mayB (c:Clr)(l:List LookT)(lim:Int)(h:Nat):Bool:=decide (0≤fidx (fun i=> !(coolM c l h lim ((roomsL c l []).getD i 0))) (roomsL c l []).length 0)
def hourN (p:Nat→Bool):Nat→Int
  |0=> -1
  |n+1=>if hourN p n = -1 then(if p n=true then(n:Int)else -1)else hourN p n
def sureH (c:Clr)(l:List LookT)(lim:Int):Int:=if askE c l=0 then hourN (sureB c l lim) (c.hr.toNat+1)else 0
def mayH (c:Clr)(l:List LookT)(lim:Int):Int:=if askE c l=0 then hourN (mayB c l lim) (c.hr.toNat+1)else 0
theorem hour_stay {p:Nat→Bool} {n:Nat}(h:¬hourN p n = -1):hourN p n=hourN p (n+1):=by simp only [hourN,if_neg h]
theorem hour_no {p:Nat→Bool} {n:Nat}(h:hourN p n = -1)(hp:p n=false):hourN p n=hourN p (n+1):=by simp only [hourN,if_pos h,hp];rw [if_neg (by simp),h]
theorem hour_yes {p:Nat→Bool} {n:Nat}(h:hourN p n = -1)(hp:p n=true):(n:Int)=hourN p (n+1):=by simp only [hourN,if_pos h,hp,if_true]
theorem hour_bd (p:Nat→Bool)(n:Nat): -1≤hourN p n∧hourN p n<n:=by
  induction n with
  |zero=>simp only [hourN];omega
  |succ n ih=>simp only [hourN];split<;>(try split)<;>omega
end Go.Proofs.Yteelocfbbhchcaa
