/- Parts of the proof, part 1. -/
import Derived.Test.YtnjjimhkbpdpgaaGreatDoorProg
import Derived.KernelRfl
import Derived.Lib.ItoaNum
import Derived.Lib.LaidTab
import Derived.Sort.Grow
import Derived.Deep.Draws
import Derived.Below
import Derived.Test.YtnjjimhkbpdpgaaGreatDoorQ7
set_option linter.unusedVariables false
set_option linter.unusedSimpArgs false
namespace Go.Proofs.YtnjjimhkbpdpgaaGreatDoor
def at7:Nat:=5
def ED:Nat:=16
def oc:Nat:=17
def rF:Nat:=20
def J0:Nat:=23
def pT:Nat:=24
def xu:Nat:=25
def qo:Nat:=26
def ff:Nat:=27
def vR:Nat:=28
def ac9:Nat:=29
def TT:Nat:=30
def kD:Nat:=42
def fk:Nat:=56
def cA:Nat:=57
def an:Nat:=58
def bz:Nat:=59
def ez:Nat:=66
def cM:Nat:=67
def uw:Nat:=69
def xA:Nat:=73
def eV:Nat:=81
def dW:Nat:=115
def fN:Nat:=116
def dX:Nat:=117
def cP:Nat:=118
def iz:Nat:=119
def gT:Nat:=123
def cC:Nat:=126
def fB:Nat:=127
def bi:Nat:=177
def gS:Nat:=178
def mj:Nat:=179
def fC:Nat:=180
def eh:Nat:=196
def cH:Nat:=197
def dI:Nat:=198
def gn:Nat:=241
def eP:Nat:=242
def qr:Nat:=243
open Abs
end Go.Proofs.YtnjjimhkbpdpgaaGreatDoor
namespace Go.Proofs.YtnjjimhkbpdpgaaGreatDoor
open Go.Abs
set_option maxRecDepth 100000
open Tryz
def vW:=[ok 4 vN,ok 5 (vB false)]
def vX:=[om 6 1,oo 7 (.len true (.t 6)),cn 8 .neq 7 1,om 9 8,oF 9 10 (.mv (.t 0)),oF 9 11 (.len true (.t 10)),oF 9 12 (.bin .gtr .none (.t 11) (xI 4000)),oo 13 (.pick (.t 9) (xB true) (.t 12))]
def Lc:=[oo 14 (.bslice 1 (vS []) 0 []),om 4 14,ok 5 (vB false)]
def vY:=[om 15 0,om 16 1,oo 17 (.idx (.t 16) (xI 0)),dK 18 o9 15 17,om 4 18,ok 5 (vB true)]
def AU:C:=(sr vW [0,1] (ss (sr vX [0,1,13] (sc 13 (sr Lc [4,5] .ret) .skip)) (sr vY [4,5] .ret)))
theorem MI:cE rF AU [(.tmp 4),(.tmp 5)] 19:=dE func20 rfl
def alX:=[ok 2 (vB false)]
def alY:=[om 27 0,cg 28 ED 27]
def alZ:=[ok 2 (vB true)]
def al0:=[om 30 0,cg 31 J0 30,om 29 31,cJ 32 29 0,cJ 33 29 1,dD 3 1 (.agg [vN]),dD 4 3 (.agg [vS [],vS [],vI 0]),bg 1 3 32,bg 3 4 33]
def al1:=[bu 35 1 3,bu 36 3 4,dK 37 pT 35 36,om 34 37,cJ 38 34 0,cJ 39 34 1,om 5 38,om 6 39]
def al2:=[bu 41 1 3,bu 42 3 4,dK 43 xu 41 42,om 40 43,cJ 44 40 0,cJ 45 40 1,om 7 44,om 8 45]
def al3:=[om 46 5,om 47 7,cI 48 .neq 46 47,om 49 48,oF 49 50 (.mv (.t 6)),oF 49 51 (.mv (.t 8)),oF 49 52 (.bin .neq .bool (.t 50) (.t 51)),oo 53 (.pick (.t 49) (xB true) (.t 52))]
def aDw:=[ok 2 (vB false)]
def al4:=[om 55 0,cg 56 oc 55,om 54 56,cJ 57 54 0,cJ 58 54 1,dD 9 4 (.agg [vN,vS [],vS [],vI 0]),bg 4 9 57,om 10 58]
def al5:=[bu 60 1 3,cg 61 qo 60,om 59 61,cJ 62 59 0,cJ 63 59 1,dD 11 4 (.agg [vN,vS [],vS [],vI 0]),bg 4 11 62,om 12 63]
def agB:=[bu 65 1 3,cg 66 ff 65,om 64 66,cJ 67 64 0,cJ 68 64 1,dD 13 4 (.agg [vN,vS [],vS [],vI 0]),bg 4 13 67,om 14 68]
def agC:=[bu 69 4 11,bu 70 4 13,dK 71 vR 69 70,oo 72 (.un .not (.t 71)),om 73 72,oF 73 74 (.mv (.t 12)),oF 73 75 (.mv (.t 14)),oF 73 76 (.bin .neq .bool (.t 74) (.t 75)),oo 77 (.pick (.t 73) (xB true) (.t 76))]
def aBj:=[ok 2 (vB false)]
def agD:=[om 78 12,oo 79 (.un .not (.t 78))]
def agE:=[ok 2 (vB true)]
def agF:=[om 81 10,oo 82 (.call rF [.t 81,(.k (vS [10]))]),om 80 82,cJ 83 80 0,cJ 84 80 1,om 15 83,om 16 84]
def agG:=[ok 17 (vI 0)]
def agH:=[om 85 17,om 86 15,oo 87 (.len false (.t 86)),cI 88 .lss 85 87]
def agI:=[bu 92 4 11,om 93 15,om 94 17,ft 95 1 93 94,bl 96 1 95,dK 97 ia 92 96,om 91 97,cJ 98 91 0,cJ 99 91 1,bg 4 11 98]
def PM:List (List Nat):=[[],[],[],[1,2],[1,2,3],[0,1,2,3,4],[0,1,2,3,4,5],[0,1,2,3,4,5,6],[0,1,2,3,4,5,6],[0,1,2,3,4,5,6,7]]
def agJ:=[om 89 17,fL 90 89 1,om 17 90]
def aeN:C:=(ss (sr agH [3,11,15,17,88] (sc 88 .skip (.exit 0))) (ss (.block 1 (.regD agI PM [3,11,15,17])) (.reg agJ [3,11,15,17])))
def agK:=[bu 101 1 3,aL 102 1 11,bu 103 3 102,dK 104 pT 101 103,om 100 104,cJ 105 100 0,cJ 106 100 1,om 18 105,om 19 106]
def agL:=[aL 108 1 11,bu 109 3 108,aL 110 1 11,aL 111 1 110,bl 112 1 111,oo 113 (.len true (.t 112)),aL 114 1 11,aL 115 1 114,bl 116 1 115,oo 117 (.len true (.t 116)),cn 118 .rem 117 7,cI 119 .sub 113 118,oo 120 (.call ac9 [.t 109,.t 119,(xB false)]),om 107 120,cJ 121 107 0,cJ 122 107 1,om 20 121,om 21 122]
def agM:=[om 124 20,cg 125 TT 124,om 123 125,cJ 126 123 0,cJ 127 123 1,cJ 128 123 2,dD 22 3 (.agg [vS [],vS [],vI 0]),bg 3 22 126,om 23 127,om 24 128]
def agN:=[bu 130 1 3,bu 131 3 22,dK 132 pT 130 131,om 129 132,cJ 133 129 0,cJ 134 129 1,om 25 133,om 26 134]
def agO:=[om 135 19,om 136 135,oT 136 137 (.mv (.t 18)),oT 136 138 (.faddr 1 (.t 11)),oT 136 139 (.faddr 2 (.t 138)),oT 136 140 (.ld false 1 (.t 139)),oT 136 141 (.bin .eql .none (.t 137) (.t 140)),oo 142 (.pick (.t 136) (.t 141) (xB false)),om 143 142,oT 143 144 (.mv (.t 24)),oo 145 (.pick (.t 143) (.t 144) (xB false)),om 146 145,oT 146 147 (.mv (.t 26)),oo 148 (.pick (.t 146) (.t 147) (xB false)),om 149 148,oT 149 150 (.mv (.t 25)),oT 149 151 (.faddr 2 (.t 22)),oT 149 152 (.ld false 1 (.t 151)),oT 149 153 (.bin .eql .none (.t 150) (.t 152)),oo 154 (.pick (.t 149) (.t 153) (xB false)),om 2 154]
def atp:C:=(sr alX [0] (ss (sr alY [0,28] (sc 28 (sr alZ [2] .ret) .skip)) (sr al0 [0,3,4] (sr al1 [0,3,4,5,6] (ss (sr al2 [0,3,5,6,7,8] (sr al3 [0,3,53] (sc 53 (sr aDw [2] .ret) .skip))) (sr al4 [3,10] (sr al5 [3,10,11,12] (ss (sr agB [3,10,11,12,13,14] (sr agC [3,10,11,12,77] (sc 77 (sr aBj [2] .ret) .skip))) (ss (sr agD [3,10,11,79] (sc 79 (sr agE [2] .ret) .skip)) (sr agF [3,11,15] (ss (sr agG [3,11,15,17] (.block 0 (.loop aeN))) (sr agK [3,11,18,19] (sr agL [3,11,18,19,20] (sr agM [3,11,18,19,22,24] (sr agN [11,18,19,22,24,25,26] (sr agO [2] .ret))))))))))))))))
def aGZ:Nat->List Nat
 | 0=>[0]
 | 1=>[0,28]
 | 2=>[2]
 | 3=>[0,3,4]
 | 4=>[0,3,4,5,6]
 | 5=>[0,3,5,6,7,8]
 | 6=>[0,3,53]
 | 7=>[2]
 | 8=>[3,10]
 | 9=>[3,10,11,12]
 | 10=>[3,10,11,12,13,14]
 | 11=>[3,10,11,12,77]
 | 12=>[2]
 | 13=>[3,10,11,79]
 | 14=>[2]
 | 15=>[3,11,15]
 | 16=>[3,11,15,17]
 | 17=>[3,11,15,17,88]
 | 19=>[3,11,15,17]
 | 18=>[3,11,15,17]
 | 20=>[3,11,18,19]
 | 21=>[3,11,18,19,20]
 | 22=>[3,11,18,19,22,24]
 | 23=>[11,18,19,22,24,25,26]
 | 24=>[2]
 | _=>[]
theorem aEG:cE at7 atp [(.tmp 2)] 155 :=
 ⟨Tryz.f5,_,aGZ,func5,rfl,by kernel_rfl,by kernel_rfl,by kernel_rfl,rfl⟩
def sg:=[dD 2 4 (.agg [vN,vS [],vS [],vI 0]),ok 3 (vS [])]
def si:=[om 9 0,oo 10 (.build (.agg [vN,vI 0,(.v (.int .u64 (0)))]) [(0,(1,(.t 9)))]),eF 11 3 10,om 4 11]
def sj:=[om 12 4,cg 13 fk 12,dD 5 4 (.agg [vN,vS [],vS [],vI 0]),bg 4 5 13]
def sk:=[om 14 4,bu 15 4 5,dK 16 cA 14 15,om 6 16]
def sn:=[om 17 4,oo 18 (.call an [.t 17,xI 4]),om 7 18]
def sq:=[om 19 7,cn 20 .gtr 19 0]
def sw:=[om 23 6,oo 24 (.bin .add .none (.t 23) (.k (vS [10]))),om 25 4,bu 26 4 5,dK 27 cA 25 26,cI 28 .add 24 27,om 6 28]
def sx:=[om 21 7,cn 22 .sub 21 1,om 7 22]
def rW:C:=(ss (sr sq [2,4,5,6,7,20] (sc 20 .skip (.exit 0))) (ss (.block 1 (.reg sw [2,4,5,6,7])) (.reg sx [2,4,5,6,7])))
def sy:=[om 29 4,oo 30 (.call bz [.t 29,xI 20])]
def qB:=[ok 6 (vS [])]
def qC:=[om 31 4,oo 32 (.call an [.t 31,xI 2]),oo 33 (.bin .add .none (xI 29) (.t 32)),om 8 33]
def qD:=[om 34 8,cn 35 .gtr 34 0]
def qE:=[om 38 6,oo 39 (.bin .add .none (.t 38) (.k (vS [10]))),om 6 39]
def qF:=[om 36 8,cn 37 .sub 36 1,om 8 37]
def qk:C:=(ss (sr qD [2,5,6,8,35] (sc 35 .skip (.exit 2))) (ss (.block 3 (.reg qE [2,5,6,8])) (.reg qF [2,5,6,8])))
def kI:=[bu 40 4 5,om 41 6,bg 4 2 40,om 3 41]
def vq:C:=(sr sg [0,2] (sr si [2,4] (sr sj [2,4,5] (sr sk [2,4,5,6] (ss (sr sn [2,4,5,6,7] (.block 0 (.loop rW))) (ss (sr sy [2,4,5,6,30] (sc 30 (sr qB [2,4,5,6] (sr qC [2,5,6,8] (.block 2 (.loop qk)))) .skip)) (ss (.wk (.reg kI [2,3])) .ret)))))))
def JF:Nat->List Nat
 | 0=>[0,2]
 | 1=>[2,4]
 | 2=>[2,4,5]
 | 3=>[2,4,5,6]
 | 4=>[2,4,5,6,7]
 | 5=>[2,4,5,6,7,20]
 | 7=>[2,4,5,6,7]
 | 6=>[2,4,5,6,7]
 | 8=>[2,4,5,6,30]
 | 9=>[2,4,5,6]
 | 10=>[2,5,6,8]
 | 11=>[2,5,6,8,35]
 | 13=>[2,5,6,8]
 | 12=>[2,5,6,8]
 | 14=>[999999,2,3]
 | _=>[]
theorem HP:cE oc vq [(.cell 2 true 4),(.tmp 3)] 42 :=
 ⟨Tryz.f17,_,JF,func17,rfl,by kernel_rfl,by kernel_rfl,by kernel_rfl,rfl⟩
def Ry:=[dD 2 1 (.agg [vN]),dD 3 3 (.agg [vS [],vS [],vI 0])]
def Rz:=[om 10 0,oo 11 (.build (.agg [vN,vI 0,(.v (.int .u64 (0)))]) [(0,(1,(.t 10)))]),eF 12 3 11,om 4 12]
def RA:=[om 13 4,cg 14 ez 13,dD 5 1 (.agg [vN]),bg 1 5 14]
def RB:=[bu 16 1 5,cg 17 ff 16,om 15 17,cJ 18 15 0,cJ 19 15 1,dD 6 4 (.agg [vN,vS [],vS [],vI 0]),bg 4 6 18,om 7 19]
def RC:=[om 20 4,oo 21 (.call an [.t 20,xI 5]),om 8 21]
def RD:=[om 22 8,cn 23 .gtr 22 0]
def RE:=[bu 27 4 6,om 28 4,bu 29 4 6,dK 30 cA 28 29,dK 31 fT 27 30,om 26 31,cJ 32 26 0,cJ 33 26 1,bg 4 6 32]
def F6:List (List Nat):=[[],[],[],[1,2],[0,1,2,3],[0,1,2,3,4],[0,1,2,3,4,5],[0,1,2,3,4,5],[0,1,2,3,4,5,6]]
def RF:=[om 24 8,cn 25 .sub 24 1,om 8 25]
def Qo:C:=(ss (sr RD [2,3,4,5,6,8,23] (sc 23 .skip (.exit 0))) (ss (.block 1 (.regD RE F6 [2,3,4,5,6,8])) (.reg RF [2,3,4,5,6,8])))
def RG:=[aL 34 1 6,bu 35 3 34,dD 9 3 (.agg [vS [],vS [],vI 0]),bg 3 9 35]
def OS:=[om 36 4,oo 37 (.call bz [.t 36,xI 3])]
def OT:=[bu 39 3 9,om 40 4,cg 41 cM 40,dK 42 mY 39 41,om 38 42,cJ 43 38 0,cJ 44 38 1,bg 3 9 43]
def EL:List (List Nat):=[[],[],[1],[0,1,2],[0,1,2,3],[0,1,2,3,4],[0,1,2,3,4],[0,1,2,3,4,5]]
def ER:=[bu 45 1 5,bu 46 3 9,bg 1 2 45,bg 3 3 46]
def qz:List (List Nat):=[[],[],[0],[0,1,2]]
def VY:C:=(sr Ry [0,2,3] (sr Rz [2,3,4] (sr RA [2,3,4,5] (sr RB [2,3,4,5,6] (ss (sr RC [2,3,4,5,6,8] (.block 0 (.loop Qo))) (sr RG [2,3,4,5,9] (ss (sr OS [2,3,4,5,9,37] (sc 37 (.regD OT EL [2,3,5,9]) .skip)) (ss (.wk (.regD ER qz [2,3])) .ret))))))))
def atW:Nat->List Nat
 | 0=>[0,2,3]
 | 1=>[2,3,4]
 | 2=>[2,3,4,5]
 | 3=>[2,3,4,5,6]
 | 4=>[2,3,4,5,6,8]
 | 5=>[2,3,4,5,6,8,23]
 | 7=>[2,3,4,5,6,8]
 | 6=>[2,3,4,5,6,8]
 | 8=>[2,3,4,5,9]
 | 9=>[2,3,4,5,9,37]
 | 10=>[2,3,5,9]
 | 11=>[999999,2,3]
 | _=>[]
theorem arZ:cE J0 VY [(.cell 2 true 1),(.cell 3 true 3)] 47 :=
 ⟨Tryz.f23,_,atW,func23,rfl,by kernel_rfl,by kernel_rfl,by kernel_rfl,rfl⟩
def jZ:=[dD 2 4 (.agg [vN,vS [],vS [],vI 0])]
def j0:=[om 7 0,cg 8 ez 7,cg 9 ff 8,om 6 9,cJ 10 6 0,cJ 11 6 1,dD 3 4 (.agg [vN,vS [],vS [],vI 0]),bg 4 3 10,om 4 11]
def j1:=[om 12 0,oo 13 (.call an [.t 12,xI 4]),om 5 13]
def j2:=[om 14 5,cn 15 .gtr 14 0]
def j3:=[bu 19 4 3,om 20 0,bu 21 4 3,dK 22 cA 20 21,dK 23 fT 19 22,om 18 23,cJ 24 18 0,cJ 25 18 1,bg 4 3 24]
def fZ:List (List Nat):=[[],[],[],[1,2],[0,1,2,3],[0,1,2,3,4],[0,1,2,3,4,5],[0,1,2,3,4,5],[0,1,2,3,4,5,6]]
def j4:=[om 16 5,cn 17 .sub 16 1,om 5 17]
def jN:C:=(ss (sr j2 [0,2,3,5,15] (sc 15 .skip (.exit 0))) (ss (.block 1 (.regD j3 fZ [0,2,3,5])) (.reg j4 [0,2,3,5])))
def j5:=[om 26 0,oo 27 (.call an [.t 26,xI 24])]
def eE:=[cn 29 .eql 27 0,om 28 29]
def j6:=[om 30 0,cg 31 dW 30,aL 32 0 3,bg 1 32 31]
def fF:=[cn 34 .eql 27 1,om 33 34]
def jg:=[om 35 0,cg 36 fN 35,aL 37 1 3,bg 3 37 36]
def el:=[bu 38 4 3,bg 4 2 38]
def lS:C:=(sr jZ [0,2] (sr j0 [0,2,3] (ss (sr j1 [0,2,3,5] (.block 0 (.loop jN))) (ss (sr j5 [0,2,3,27] (.block 2 (sr eE [0,2,3,27,28] (sc 28 (.reg j6 [2,3]) (sr fF [0,2,3,33] (sc 33 (.reg jg [2,3]) .skip)))))) (ss (.wk (.reg el [2])) .ret)))))
def vH:Nat->List Nat
 | 0=>[0,2]
 | 1=>[0,2,3]
 | 2=>[0,2,3,5]
 | 3=>[0,2,3,5,15]
 | 5=>[0,2,3,5]
 | 4=>[0,2,3,5]
 | 6=>[0,2,3,27]
 | 7=>[0,2,3,27,28]
 | 8=>[2,3]
 | 9=>[0,2,3,33]
 | 10=>[2,3]
 | 11=>[999999,2]
 | _=>[]
theorem uj:cE fk lS [(.cell 2 true 4)] 39 :=
 ⟨Tryz.f56,_,vH,func56,rfl,by kernel_rfl,by kernel_rfl,by kernel_rfl,rfl⟩
def dG:=[eF 3 1 1,ok 4 (vI 0)]
def dH:=[aL 5 0 3,bl 6 1 5,oo 7 (.len false (.t 6)),cn 8 .eql 7 0,om 9 8,oF 9 10 (.mv (.t 0)),oF 9 11 (.call bz [.t 10,xI 8]),oo 12 (.pick (.t 9) (xB true) (.t 11))]
def eH:=[om 13 0,oo 14 (.call an [.t 13,xI 12]),om 4 14]
def gK:=[aL 15 0 3,bl 16 1 15,om 17 0,aL 18 0 3,bl 19 1 18,oo 20 (.len false (.t 19)),dK 21 an 17 20,ft 22 18 16 21,aL 23 0 22,bl 24 1 23,om 4 24]
def eG:List (List Nat):=[[],[0],[],[],[3],[3,4],[2,3,4,5],[0,1,2,3,4,5,6],[0,1,2,3,4,5,6,7],[0,1,2,3,4,5,6,7,8],[0,1,2,3,4,5,6,7,8,9]]
def dV:C:=(sr dG [0,3] (ss (sr dH [0,3,12] (sc 12 (sr eH [4] .ret) .skip)) (ss (.regD gK eG [4]) .ret)))
theorem eM:cE dX dV [(.tmp 4)] 25:=dE func117 rfl
def jP:=[eF 3 4 1,ok 4 (vS [])]
def jQ:=[aL 11 0 3,bu 12 1 11,dD 5 1 (.agg [vN]),bg 1 5 12]
def jR:=[om 13 0,bu 14 1 5,dK 15 dX 13 14,cg 16 gk 15,om 6 16]
def jS:=[om 17 0,oo 18 (.bslice 1 (vS []) 5 [(0,(.k (vS [65,115,104,101]))),(1,(.k (vS [66,114,111,111,107]))),(2,(.k (vS [67,111,108,101]))),(3,(.k (vS [69,103,97,110]))),(4,(.k (vS [120])))]),dK 19 cP 17 18,om 7 19]
def jT:=[om 20 0,cg 21 iz 20,dD 8 16 pG,bg 16 8 21]
def jU:=[bu 22 16 8,cg 23 Ak 22,om 9 23]
def jV:=[aL 24 0 5,bl 25 1 24,oo 26 (.len false (.t 25)),cn 27 .gtr 26 0,om 28 27,oT 28 29 (.mv (.t 0)),oT 28 30 (.call bz [.t 29,xI 2]),oo 31 (.pick (.t 28) (.t 30) (xB false))]
def jW:=[aL 32 0 5,bl 33 1 32,om 34 0,aL 35 0 5,bl 36 1 35,oo 37 (.len false (.t 36)),dK 38 an 34 37,ft 39 18 33 38,aL 40 3 39,bu 41 15 40,dD 10 15 lm,bg 15 10 41]
def fY:List (List Nat):=[[],[0],[],[],[3],[3,4],[2,3,4,5],[0,1,2,3,4,5,6],[0,1,2,3,4,5,6,7],[0,1,2,3,4,5,6,7,8],[],[0,1,2,3,4,5,6,7,8,9,10]]
def jX:=[bu 42 15 10,cg 43 H2 42]
def jY:=[bu 44 15 10,cg 45 EB 44,om 9 45]
def iY:=[om 46 0,oo 47 (.call an [.t 46,xI 12])]
def be:=[cn 49 .eql 47 0,om 48 49]
def br:=[cn 50 .eql 47 1,om 48 50]
def fD:=[om 51 7,oo 52 (.bin .add .none (.k (vS [103,114,97,110,116,32])) (.t 51)),oo 53 (.bin .add .none (.t 52) (.k (vS [32]))),om 54 0,oo 55 (.call an [.t 54,xI 20]),oo 56 (.bin .add .none (xI 1700) (.t 55)),cg 57 gk 56,cI 58 .add 53 57,oo 59 (.bin .add .none (.t 58) (.k (vS [32]))),om 60 9,cI 61 .add 59 60,om 4 61]
def bw:=[cn 63 .eql 47 2,om 62 63]
def iZ:=[om 64 6,oo 65 (.bin .add .none (.k (vS [114,101,118,111,107,101,32])) (.t 64)),om 4 65]
def bA:=[cn 67 .eql 47 3,om 66 67]
def i6:=[om 68 6,oo 69 (.bin .add .none (.k (vS [116,114,97,110,115,102,101,114,32])) (.t 68)),oo 70 (.bin .add .none (.t 69) (.k (vS [32]))),om 71 7,cI 72 .add 70 71,om 4 72]
def bJ:=[cn 74 .eql 47 4,om 73 74]
def i7:=[om 75 6,oo 76 (.bin .add .none (.k (vS [115,104,111,119,32])) (.t 75)),om 4 76]
def cf:=[cn 78 .eql 47 5,om 77 78]
def i8:=[om 79 6,oo 80 (.bin .add .none (.k (vS [115,104,111,114,116,32])) (.t 79)),om 4 80]
def cr:=[cn 82 .eql 47 6,om 81 82]
def ja:=[om 83 7,oo 84 (.bin .add .none (.k (vS [111,102,32])) (.t 83)),om 4 84]
def cK:=[cn 86 .eql 47 7,om 85 86]
def jb:=[om 87 9,oo 88 (.bin .add .none (.k (vS [99,111,110,102,108,105,99,116,115,32])) (.t 87)),om 4 88]
def dB:=[cn 90 .eql 47 8,om 89 90]
def jc:=[om 91 9,oo 92 (.bin .add .none (.k (vS [102,105,110,100,32])) (.t 91)),om 4 92]
def ei:=[cn 94 .eql 47 9,om 93 94]
def jd:=[om 95 6,oo 96 (.bin .add .none (.k (vS [100,105,102,102,101,114,32])) (.t 95)),oo 97 (.bin .add .none (.t 96) (.k (vS [32]))),om 98 0,bu 99 1 5,dK 100 dX 98 99,cg 101 gk 100,cI 102 .add 97 101,om 4 102]
def fE:=[cn 104 .eql 47 10,om 103 104]
def je:=[om 105 9,oo 106 (.bin .add .none (.k (vS [116,101,120,116,32])) (.t 105)),om 4 106]
def jf:=[om 107 0,oo 108 (.bslice 1 (vS []) 13 [(0,(.k (vS [108,105,115,116]))),(1,(.k (vS [108,105,115,116]))),(2,(.k (vS []))),(3,(.k (vS [119,104,97,116]))),(4,(.k (vS [103,114,97,110,116]))),(5,(.k (vS [103,114,97,110,116,32,65,115,104,101]))),(6,(.k (vS [115,104,111,119]))),(7,(.k (vS [115,104,111,119,32,120]))),(8,(.k (vS [116,101,120,116]))),(9,(.k (vS [111,102]))),(10,(.k (vS [97,64,98]))),(11,(.k (vS [108,105,115,116,32,49]))),(12,(.k (vS [100,105,102,102,101,114,32,49])))]),dK 109 cP 107 108,om 4 109]
def lR:C:=(sr jP [0,3] (sr jQ [0,5] (sr jR [0,5,6] (sr jS [0,5,6,7] (sr jT [0,5,6,7,8] (sr jU [0,5,6,7,9] (ss (sr jV [0,5,6,7,9,31] (sc 31 (ss (.regD jW fY [0,5,6,7,9,10]) (sr jX [0,5,6,7,9,10,43] (sc 43 (.reg jY [0,5,6,7,9]) .skip))) .skip)) (ss (ss (.wk (.reg iY [0,5,6,7,9,47])) (.block 0 (ss (sr be [0,5,6,7,9,47,48] (sc 48 .skip (.reg br [0,5,6,7,9,47,48]))) (sc 48 (sr fD [4] .ret) (sr bw [0,5,6,7,9,47,62] (sc 62 (sr iZ [4] .ret) (sr bA [0,5,6,7,9,47,66] (sc 66 (sr i6 [4] .ret) (sr bJ [0,5,6,7,9,47,73] (sc 73 (sr i7 [4] .ret) (sr cf [0,5,6,7,9,47,77] (sc 77 (sr i8 [4] .ret) (sr cr [0,5,6,7,9,47,81] (sc 81 (sr ja [4] .ret) (sr cK [0,5,6,9,47,85] (sc 85 (sr jb [4] .ret) (sr dB [0,5,6,9,47,89] (sc 89 (sr jc [4] .ret) (sr ei [0,5,6,9,47,93] (sc 93 (sr jd [4] .ret) (sr fE [0,9,103] (sc 103 (sr je [4] .ret) .skip)))))))))))))))))))))) (sr jf [4] .ret)))))))))
theorem ui:cE cA lR [(.tmp 4)] 110:=dE func57 rfl
def kP:=[dD 2 16 pG]
def kQ:=[om 6 0,cg 7 cC 6,cg 8 Iz 7,dD 3 16 pG,bg 16 3 8]
def kR:=[ok 4 (vI 0)]
def kS:=[om 9 4,aL 10 15 3,bl 11 1 10,oo 12 (.len false (.t 11)),cI 13 .lss 9 12]
def kT:=[om 16 0,cg 17 fC 16,dD 5 2 (.agg [vI 0,vI 0]),bg 2 5 17]
def kU:=[aL 18 0 5,bl 19 1 18,cn 20 .neq 19 5,om 21 20,oF 21 22 (.mv (.t 4)),oF 21 23 (.faddr 15 (.t 3)),oF 21 24 (.ld false 1 (.t 23)),oF 21 25 (.len false (.t 24)),oF 21 26 (.bin .sub .none (.t 25) (xI 1)),oF 21 27 (.bin .lss .none (.t 22) (.t 26)),oo 28 (.pick (.t 21) (xB true) (.t 27))]
def kV:=[aL 29 15 3,bl 30 1 29,om 31 4,bu 32 2 5,ft 33 2 30 31,bg 2 33 32]
def kW:=[om 14 4,fL 15 14 1,om 4 15]
def kB:C:=(ss (sr kS [0,2,3,4,13] (sc 13 .skip (.exit 0))) (ss (.block 1 (sr kT [0,2,3,4,5] (sr kU [0,2,3,4,5,28] (sc 28 (.reg kV [0,2,3,4]) .skip)))) (.reg kW [0,2,3,4])))
def kX:=[bu 34 16 3,bg 16 2 34]
def mT:C:=(sr kP [0,2] (sr kQ [0,2,3] (ss (sr kR [0,2,3,4] (.block 0 (.loop kB))) (sr kX [2] .ret))))
def yk:Nat->List Nat
 | 0=>[0,2]
 | 1=>[0,2,3]
 | 2=>[0,2,3,4]
 | 3=>[0,2,3,4,13]
 | 5=>[0,2,3,4,5]
 | 6=>[0,2,3,4,5,28]
 | 7=>[0,2,3,4]
 | 4=>[0,2,3,4]
 | 8=>[2]
 | _=>[]
theorem vC:cE iz mT [(.cell 2 true 16)] 35 :=
 ⟨Tryz.f119,_,yk,func119,rfl,by kernel_rfl,by kernel_rfl,by kernel_rfl,rfl⟩
def nl:=[dD 2 2 (.agg [vI 0,vI 0])]
def nn:=[om 3 0,oo 4 (.call an [.t 3,xI 8])]
def dk:=[cn 6 .eql 4 0,om 5 6]
def np:=[oo 7 (.build (.agg [vI 0,vI 0]) [(0,(1,(xI 2)))]),bg 2 2 7]
def dQ:=[cn 9 .eql 4 1,om 8 9]
def nq:=[om 10 0,oo 11 (.call an [.t 10,xI 3]),oo 12 (.bin .add .none (xI 1) (.t 11)),oo 13 (.build (.agg [vI 0,vI 0]) [(0,(1,(xI 3))),(1,(1,(.t 12)))]),bg 2 2 13]
def eI:=[cn 15 .eql 4 2,om 14 15]
def nr:=[oo 16 (.build (.agg [vI 0,vI 0]) [(0,(1,(xI 4)))]),bg 2 2 16]
def fQ:=[cn 18 .eql 4 3,om 17 18]
def iS:=[cn 19 .eql 4 4,om 17 19]
def gY:=[oo 20 (.build (.agg [vI 0,vI 0]) [(0,(1,(xI 5)))]),bg 2 2 20]
def ma:=[om 21 0,cg 22 cH 21,oo 23 (.build (.agg [vI 0,vI 0]) [(0,(1,(xI 1))),(1,(1,(.t 22)))]),bg 2 2 23]
def qd:C:=(sr nl [0,2] (ss (sr nn [0,2,4] (.block 0 (sr dk [0,2,4,5] (sc 5 (sr np [2] .ret) (sr dQ [0,2,4,8] (sc 8 (sr nq [2] .ret) (sr eI [0,2,4,14] (sc 14 (sr nr [2] .ret) (ss (sr fQ [0,2,4,17] (sc 17 .skip (.reg iS [0,2,17]))) (sc 17 (sr gY [2] .ret) .skip)))))))))) (sr ma [2] .ret)))
theorem AZ:cE fC qd [(.cell 2 true 2)] 24:=dE func180 rfl
def bY:=[dD 2 4 xR]
def bZ:=[om 4 0,cg 5 cH 4,oo 6 (.build xR [(2,(1,(.t 5)))]),dD 3 4 xR,bg 4 3 6]
def cc:=[om 7 0,oo 8 (.call bz [.t 7,xI 2])]
def fm:=[bu 9 4 3,bg 4 2 9]
def cQ:=[om 10 0,oo 11 (.call an [.t 10,xI 7]),oo 12 (.bin .add .none (xI 1) (.t 11)),aL 13 0 3,bg 1 13 12]
def cS:=[om 14 0,oo 15 (.bslice 1 (vI 0) 6 [(0,(xI 0)),(1,(xI 0)),(2,(xI 1)),(3,(xI 2)),(4,(xI 3)),(5,(xI 4))]),dK 16 bi 14 15,aL 17 1 3,bg 1 17 16]
def cT:=[aL 18 2 3,bl 19 1 18,om 20 0,oo 21 (.call an [.t 20,xI 8]),cI 22 .add 19 21,cn 23 .rem 22 9,oo 24 (.bin .add .none (xI 1) (.t 23)),aL 25 3 3,bg 1 25 24]
def cB:List (List Nat):=[[],[0],[],[2],[0,1,2,3],[0,1,2,3,4],[0,1,2,3,4,5],[0,1,2,3,4,5,6],[0,1,2,3,4,5,6,7]]
def cU:=[bu 26 4 3,bg 4 2 26]
def ct:C:=(sr bY [0,2] (sr bZ [0,2,3] (ss (sr cc [0,2,3,8] (sc 8 (sr fm [2] .ret) .skip)) (sr cQ [0,2,3] (sr cS [0,2,3] (ss (.regD cT cB [2,3]) (sr cU [2] .ret)))))))
theorem mU:cE eh ct [(.cell 2 true 4)] 27:=dE func196 rfl
def bC:=[dD 2 4 xR]
def bD:=[om 4 0,oo 5 (.bslice 1 (vI 0) 8 [(0,(xI 1)),(1,(xI 1)),(2,(xI 2)),(3,(xI 3)),(4,(xI 3)),(5,(xI 4)),(6,(xI 5)),(7,(xI 6))]),dK 6 bi 4 5,om 7 0,oo 8 (.call an [.t 7,xI 8]),oo 9 (.bin .add .none (xI 1) (.t 8)),om 10 0,cg 11 cH 10,oo 12 (.build xR [(0,(1,(.t 6))),(1,(1,(.t 9))),(3,(1,(.t 11)))]),dD 3 4 xR,bg 4 3 12]
def bE:=[aL 13 1 3,bl 14 1 13,cg 15 Iy 14]
def cV:=[om 16 0,oo 17 (.call an [.t 16,xI 2]),oo 18 (.bin .add .none (xI 1) (.t 17)),aL 19 2 3,bg 1 19 18]
def bF:=[bu 20 4 3,bg 4 2 20]
def bS:C:=(sr bC [0,2] (sr bD [0,2,3] (ss (sr bE [0,2,3,15] (sc 15 (.reg cV [2,3]) .skip)) (sr bF [2] .ret))))
theorem mV:cE dI bS [(.cell 2 true 4)] 21:=dE func198 rfl
def ah:=[dD 2 15 lm]
def ai:=[om 4 0,cg 5 eh 4,oo 6 (.build lm [(0,(4,(.t 5)))]),dD 3 15 lm,bg 15 3 6]
def aj:=[om 7 0,oo 8 (.call bz [.t 7,xI 3]),oo 9 (.un .not (.t 8))]
def aq:=[om 10 0,oo 11 (.call an [.t 10,xI 7]),oo 12 (.bin .add .none (xI 1) (.t 11)),aL 13 4 3,bg 1 13 12]
def au:=[om 14 0,oo 15 (.bslice 1 (vI 0) 7 [(0,(xI 0)),(1,(xI 0)),(2,(xI 0)),(3,(xI 1)),(4,(xI 2)),(5,(xI 3)),(6,(xI 4))]),dK 16 bi 14 15,aL 17 5 3,bg 1 17 16]
def av:=[om 18 0,cg 19 cH 18,aL 20 6 3,bg 1 20 19]
def ax:=[om 21 0,oo 22 (.call bz [.t 21,xI 3])]
def a6:=[om 23 0,cg 24 dI 23,aL 25 7 3,bg 4 25 24]
def ak:=[om 26 0,oo 27 (.call bz [.t 26,xI 3]),oo 28 (.un .not (.t 27))]
def aU:=[om 29 0,cg 30 dI 29,aL 31 11 3,bg 4 31 30]
def af:=[bu 32 15 3,bg 15 2 32]
def am:C:=(sr ah [0,2] (sr ai [0,2,3] (ss (sr aj [0,2,3,9] (sc 9 (sr aq [0,2,3] (sr au [0,2,3] (sr av [0,2,3] (sr ax [0,2,3,22] (sc 22 (.reg a6 [0,2,3]) .skip))))) .skip)) (ss (sr ak [0,2,3,28] (sc 28 (.reg aU [2,3]) .skip)) (sr af [2] .ret)))))
theorem eg:cE cC am [(.cell 2 true 15)] 33:=dE func126 rfl
def iJ:=[ok 2 (vI 0)]
def iK:=[ok 3 (vI 0)]
def iL:=[om 4 0,aL 5 0 4,aL 6 1 5,bl 7 1 6,om 8 0,aL 9 0 8,aL 10 0 9,bl 11 1 10,oo 12 (.len false (.t 11)),cI 13 .lss 7 12]
def iC:List (List Nat):=[[],[0],[0,1],[0,1,2],[],[4],[4,5],[4,5,6],[4,5,6,7],[0,1,2,3,4,5,6,7,8]]
def ng:=[om 14 0,aL 15 0 14,aL 16 0 15,bl 17 1 16,om 18 0,aL 19 0 18,aL 20 1 19,bl 21 1 20,ft 22 1 17 21,bl 23 1 22,oo 24 (.conv (.int .i64) (.t 23)),om 3 24]
def m6:List (List Nat):=[[],[0],[0,1],[0,1,2],[],[4],[4,5],[4,5,6],[0,1,2,3,4,5,6,7],[0,1,2,3,4,5,6,7,8],[0,1,2,3,4,5,6,7,8,9],[0,1,2,3,4,5,6,7,8,9,10]]
def iM:=[om 25 0,aL 26 0 25,aL 27 1 26,bl 28 1 27,fL 29 28 1,aL 30 0 25,aL 31 1 30,bg 1 31 29]
def iN:=[om 32 0,om 33 0,aL 34 0 33,aL 35 2 34,bl 36 1 35,oo 37 (.bin .mul .none (.t 36) (.k (.v (.int .u64 (6364136223846793005))))),om 38 3,oo 39 (.conv (.int .u64) (.t 38)),cI 40 .add 37 39,oo 41 (.bin .add .none (.t 40) (.k (.v (.int .u64 (884884))))),aL 42 0 32,aL 43 2 42,bg 1 43 41]
def iO:=[om 44 0,aL 45 0 44,aL 46 1 45,bl 47 1 46,om 48 0,aL 49 0 48,aL 50 0 49,bl 51 1 50,oo 52 (.len false (.t 51)),cI 53 .leq 47 52]
def iD:List (List Nat):=[[],[0],[0,1],[0,1,2],[],[4],[4,5],[4,5,6],[4,5,6,7],[0,1,2,3,4,5,6,7,8]]
def nh:=[om 54 3,om 2 54]
def ni:=[om 55 0,aL 56 0 55,aL 57 2 56,bl 58 1 57,oo 59 (.bin .shr .none (.t 58) (.k (.v (.int .u64 (40))))),oo 60 (.bin .and .none (.t 59) (.k (.v (.int .u64 (255))))),oo 61 (.conv (.int .i64) (.t 60)),om 2 61]
def kt:C:=(sr iJ [0] (sr iK [0,3] (ss (ss (.regD iL iC [0,3,13]) (sc 13 (.regD ng m6 [0,3]) .skip)) (sr iM [0,3] (sr iN [0,3] (ss (ss (.regD iO iD [0,3,53]) (sc 53 (sr nh [2] .ret) .skip)) (sr ni [2] .ret)))))))
theorem o5:cE gT kt [(.tmp 2)] 62:=dE func123 rfl
def fO:=[ok 4 (vI 0)]
def fP:=[om 6 1,cn 7 .leq 6 1]
def nj:=[ok 4 (vI 0)]
def iP:=[om 8 0,cg 9 gT 8,om 5 9]
def iQ:=[om 10 1,cn 11 .gtr 10 200]
def nk:=[om 12 5,cn 13 .mul 12 256,om 14 0,cg 15 gT 14,cI 16 .add 13 15,om 5 16]
def iR:=[om 17 5,om 18 1,cI 19 .rem 17 18,om 4 19]
def gQ:C:=(sr fO [0,1] (ss (sr fP [0,1,7] (sc 7 (sr nj [4] .ret) .skip)) (sr iP [0,1,5] (ss (sr iQ [0,1,5,11] (sc 11 (.reg nk [1,5]) .skip)) (sr iR [4] .ret)))))
theorem jD:cE an gQ [(.tmp 4)] 20:=dE func58 rfl
def po:=[ok 4 (vB false)]
def pq:=[om 5 0,om 6 1,dK 7 an 5 6,cn 8 .eql 7 0,om 4 8]
def sG:C:=(sr po [0,1] (sr pq [4] .ret))
theorem Eu:cE bz sG [(.tmp 4)] 9:=dE func59 rfl
def lZ:=[ok 4 (vI 0)]
def l6:=[om 5 1,om 6 0,om 7 1,oo 8 (.len false (.t 7)),dK 9 an 6 8,ft 10 1 5 9,bl 11 1 10,om 4 11]
def oZ:C:=(sr lZ [0,1] (sr l6 [4] .ret))
theorem yg:cE bi oZ [(.tmp 4)] 12:=dE func177 rfl
def jr:=[ok 2 (vI 0)]
def js:=[om 3 0,oo 4 (.call an [.t 3,xI 9]),oo 5 (.bin .add .none (xI 1) (.t 4)),om 2 5]
def kw:C:=(sr jr [0] (sr js [2] .ret))
theorem rT:cE cH kw [(.tmp 2)] 6:=dE func197 rfl
end Go.Proofs.YtnjjimhkbpdpgaaGreatDoor
namespace Go.Abs
variable [gI : GI]
theorem atr {P:Program} {f:Nat} {vs:List V} {s:AS} {d i:Nat} {c:CO} {next:It->AS->Prop} {res:V} (M Z:List Nat) {H0 l:List Blk} (h:ac P f H0 (vs.map (vc M (pc Z (fy s.hp)) 6)) res (l.map some))
  (h1:M.Nodup) (hz:(Z.all fun z=>!M.contains z)=true) (h2:M.map (fy s.hp)=H0.map some) (h3:∀ blk ∈ H0,bN blk.es=true) (h4:pJ (l.map some)=true) (h5:fW res=true) (h6:(M.all fun id=>(fu vs).contains id)=true) (h7:(Z.all fun id=>(fu vs).contains id)=true)
  (h8:next ⟨c,trM d M Z l res,i,zB c s⟩ (((s.sunk Z).wrote M (l.map some)).took d res)):Dw P f vs s d c i next:=.inr <| .inl ⟨M,Z,H0,l,res,h,h1,hz,h2,h3,h4,h5,h6,h7,h8⟩
theorem NP {P:Program} {f:Nat} {vs:List V} {s:AS} {d:Nat} {K:AS->Prop} {res:V} (M Z:List Nat) {H0:List Blk} {H1:List (Option Blk)} (h:ac P f H0 (vs.map (vc M (pc Z (fy s.hp)) 6)) res H1)
  (h1:M.Nodup) (hz:(Z.all fun z=>!M.contains z)=true) (h2:M.map (fy s.hp)=H0.map some) (h3:∀ blk ∈ H0,bN blk.es=true) (h4:pJ H1=true) (h5:fW res=true)
  (h7:(List.range (ix d 0 res).2.2).all (fun i=>((s.sunk Z).wrote M H1).fresh (d+1000 * i))=true) (h8:K (((s.sunk Z).wrote M H1).took d res)):vw P f vs s d K :=
 .inr <| .inr <| .inr <| .inl ⟨M,Z,H0,res,H1,h,h1,hz,h2,h3,h4,h5,h7,h8⟩
end Go.Abs
namespace Go.Abs
variable [GI]
omit [GI] in
theorem nY {α:Type} {i:Nat} {blk:Blk} {f:α->V}:∀ {l:List α},(∀ x,Abs.frz i blk (f x)=f x)->Jy i blk (l.map f)=l.map f
 | [],_=>rfl
 | x::l,h=>by simp[h x,nY (l:=l) h]
end Go.Abs
namespace Go.Abs
section
variable [GI] {P : Program} {f d i : Nat} {args args' vs : List V} {res : V} {x : Value} {s : AS} {K : AS → Prop} {c : CO} {next : It → AS → Prop} {H0 : List Blk} {H1 : List (Option Blk)}
theorem bL (M Z:List Nat) (h:ac P f H0 (vs.map (vc M (pc Z (fy s.hp)) 6)) res H1) (h8:K (((s.sunk Z).wrote M H1).took d res))
  (h1:M.Nodup:=by simp) (hz:(Z.all fun z=>!M.contains z)=true:=by simp) (h2:M.map (fy s.hp)=H0.map some:=by simp) (h3:∀ blk ∈ H0,bN blk.es=true:=by simp) (h4:pJ H1=true:=by simp) (h5:fW res=true:=by first | rfl | simp)
  (h7:(List.range (ix d 0 res).2.2).all (fun i=>((s.sunk Z).wrote M H1).fresh (d+1000 * i))=true:=by simp):vw P f vs s d K:=NP M Z h h1 hz h2 h3 h4 h5 h7 h8
theorem mI (M Z:List Nat) {b:Blk} (h:ac P f H0 (vs.map (vc M (pc Z (fy s.hp)) 6)) res ([b].map some)) (h8:next ⟨c,trM d M Z [b] res,i,zB c s⟩ (((s.sunk Z).wrote M ([b].map some)).took d res))
  (h1:M.Nodup:=by simp) (hz:(Z.all fun z=>!M.contains z)=true:=by simp) (h2:M.map (fy s.hp)=H0.map some:=by simp) (h3:∀ blk ∈ H0,bN blk.es=true:=by simp) (h4:pJ ([b].map some)=true:=by simp) (h5:fW res=true:=by first | rfl | simp)
  (h6:(M.all fun id=>(fu vs).contains id)=true:=by simp) (h7:(Z.all fun id=>(fu vs).contains id)=true:=by simp):Dw P f vs s d c i next:=atr M Z (l:=[b]) h h1 hz h2 h3 h4 h5 h6 h7 h8
theorem Hv (h:aa P f (vs.map (cz (fy s.hp) 6)) res) (h3:next ⟨c,Ik d res,i,zB c s⟩ (s.took d res)) (h0:fW res=true:=by rfl) (hr:bN vs=true/\cO vs=true:=by simp) (h1:cO vs=true:=by simp)
  (h2:(fu vs).all (fun id=>match fy s.hp id with | some b=>mf b.es | none=>true)=true:=by simp):Dw P f vs s d c i next:=Gw h h0 (.inr hr) h1 h2 h3
theorem ae (h:ac P f H0 (vs.map (vc [1000000] (pc [] (fy s.hp)) 6)) res H1) (h8:K (((s.sunk []).wrote [1000000] H1).took d res))
  (h2:[1000000].map (fy s.hp)=H0.map some:=by simp) (h3:∀ blk ∈ H0,bN blk.es=true:=by simp) (h4:pJ H1=true:=by simp) (h5:fW res=true:=by first | rfl | simp)
  (h7:(List.range (ix d 0 res).2.2).all (fun i=>((s.sunk []).wrote [1000000] H1).fresh (d+1000 * i))=true:=by simp):vw P f vs s d K:=NP [1000000] [] h (by simp) (by simp) h2 h3 h4 h5 h7 h8
end
end Go.Abs
namespace Go.Proofs.YtnjjimhkbpdpgaaGreatDoor
open Go.Abs
open Tryz
abbrev bm (code:List UInt8) (k:Nat) (s:Int):Blk:=⟨3,[.agg [.ro 1 (code.map Y),I k,U s]]⟩
abbrev cR:V:=.ref (mG 0) 0 0
def YQ (s b:Int):Int:=IntKind.u64.wrap (IntKind.u64.wrap (IntKind.u64.wrap (s * 6364136223846793005)+IntKind.u64.wrap b)+884884)
theorem xk (code:List UInt8) (k:Nat) (s:Int) (hk:k<=1000000000000):∃ (v:Int) (s':Int),(0<=v/\v<=255)/\ie gT [bm code k s] [cR] (I v) [some (bm code (k+1) s')]:=by
 by_cases hlt:k < code.length
 ·have hb:=UInt8.toNat_lt code[k];have hw:IntKind.i64.wrap (code[k].toNat:Int)=code[k].toNat:=aD (by omega);refine⟨code[k].toNat,YQ s code[k].toNat,by omega,?_⟩;refine ac.of o5 (by simp) rfl (by simp) ?_;simp[kt,iJ,iK,iL,iC];refine⟨a7 (by first | kernel_rfl | simp) (by first | kernel_rfl | simp),fun _=>?_,fun hge=>by omega⟩;simp[ng,m6,hlt,hw];refine⟨a7 (by first | kernel_rfl | simp) (by first | kernel_rfl | simp),?_⟩;simp[iM];rw[aD (n:=(k:Int)+1) (by omega)];simp[iN];simp[iO,iD];refine⟨a7 (by first | kernel_rfl | simp) (by first | kernel_rfl | simp),fun h=>?_,fun h=>?_⟩
  ·simp[nh,YQ]
  ·omega
 ·have hge:code.length<=k:=by omega
  obtain ⟨x,hx⟩:∃ x:Nat,((YQ s 0).fdiv (2 ^ min 40 IntKind.u64.bits) % 2 ^ IntKind.u64.bits).toNat &&& (255 % 2 ^ IntKind.u64.bits)=x:=⟨_,rfl⟩
  have hx255:x<=255:=by
   rw[<- hx];have:(255 % 2 ^ IntKind.u64.bits:Nat)=255:=by decide
   rw[this];exact Nat.and_le_right
  have hw:IntKind.i64.wrap (IntKind.u64.wrap (x:Int))=x:=by
   have:IntKind.u64.wrap (x:Int)=x:=by
    have h1:IntKind.u64.signed=false:=rfl;have h2:IntKind.u64.bits=64:=rfl;simp only[IntKind.wrap,h1,h2,Bool.false_and,Bool.false_eq_true,if_false];omega
   rw[this,aD (by omega)]
  refine⟨x,YQ s 0,by omega,?_⟩;refine ac.of o5 (by simp) rfl (by simp) ?_;simp[kt,iJ,iK,iL,iC];refine⟨a7 (by first | kernel_rfl | simp) (by first | kernel_rfl | simp),fun _=>by omega,fun _=>?_⟩;simp[iM];rw[aD (n:=(k:Int)+1) (by omega)];simp[iN];simp[iO,iD];refine⟨a7 (by first | kernel_rfl | simp) (by first | kernel_rfl | simp),fun h=>by omega,fun h=>?_⟩;simp[ni];refine⟨?_,rfl⟩;rw[<- hw,<- hx];rfl
theorem aK (code:List UInt8) (k:Nat) (s n:Int) (hk:k<=100000000000) (hn:n<=1000000):∃ (v:Int) (k':Nat) (s':Int),((0<=v/\(v < n\/v=0))/\(k<=k'/\k'<=k+2))/\ie an [bm code k s] [cR,I n] (I v) [some (bm code k' s')]:=by
 by_cases h1:n<=1
 ·refine⟨0,k,s,by omega,?_⟩;refine ac.of jD (by simp) rfl (by simp) ?_;simp[gQ,fO,fP,nj,h1]
 obtain ⟨v1,s1,hv1,hM1⟩:=xk code k s (by omega);by_cases h2:n<=200
 ·refine⟨v1.tmod n,k+1,s1,⟨⟨Int.tmod_nonneg _ (by omega),.inl (Int.tmod_lt_of_pos _ (by omega))⟩,by omega⟩,?_⟩;refine ac.of jD (by simp) rfl (by simp) ?_;simp[gQ,fO,fP,h1];simp[iP];refine ae (ac.ag hM1) ?_;simp[iQ];refine⟨fun h=>by omega,fun _=>?_⟩;simp[iR];omega
 ·obtain ⟨v2,s2,hv2,hM2⟩:=xk code (k+1) s1 (by omega);refine⟨(v1 * 256+v2).tmod n,k+2,s2,⟨⟨Int.tmod_nonneg _ (by omega),.inl (Int.tmod_lt_of_pos _ (by omega))⟩,by omega⟩,?_⟩;refine ac.of jD (by simp) rfl (by simp) ?_;simp[gQ,fO,fP,h1];simp[iP];refine ae (ac.ag hM1) ?_;simp[iQ];refine⟨fun _=>?_,fun h=>by omega⟩;simp[nk];rw[aD (by omega)];refine ae (ac.ag hM2) ?_;simp;rw[aD (by omega)];simp[iR];omega
theorem dh (code:List UInt8) (k:Nat) (s n:Int) (hk:k<=100000000000) (hn:n<=1000000):∃ (v:Bool) (k':Nat) (s':Int),(k<=k'/\k'<=k+2)/\ie bz [bm code k s] [cR,I n] (B v) [some (bm code k' s')]:=by
 obtain ⟨v,k',s',⟨_,hk'⟩,hM⟩:=aK code k s n hk hn;refine⟨decide (v=0),k',s',hk',?_⟩;refine ac.of Eu (by simp) rfl (by simp) ?_;simp[sG,po,pq];refine ae (ac.ag hM) ?_;simp;rfl
theorem bG (code:List UInt8) (k:Nat) (s:Int) (l:List Int) (hk:k<=100000000000) (h0:0 < l.length) (hl:l.length<=100000) :
  ∃ (v:Int) (k':Nat) (s':Int),(v ∈ l/\(k<=k'/\k'<=k+2))/\ie bi [bm code k s] [cR,.ro 1 (l.map I)] (I v) [some (bm code k' s')]:=by
 obtain ⟨v,k',s',⟨hv,hk'⟩,hM⟩:=aK code k s l.length hk (by omega);obtain ⟨i,rfl⟩:∃ i:Nat,v=i:=⟨v.toNat,by omega⟩;have hi:i < l.length:=by omega
 refine⟨l[i],k',s',⟨List.getElem_mem _,hk'⟩,?_⟩;refine ac.of yg (by simp) rfl (by simp) ?_;simp[oZ,lZ,l6];refine ae (ac.ag hM) ?_;simp[hi]
theorem eJ (code:List UInt8) (k:Nat) (s:Int) (hk:k<=100000000000):∃ (v:Int) (k':Nat) (s':Int),((1<=v/\v<=9)/\(k<=k'/\k'<=k+2))/\ie cH [bm code k s] [cR] (I v) [some (bm code k' s')]:=by
 obtain ⟨v,k',s',⟨hv,hk'⟩,hM⟩:=aK code k s 9 hk (by omega);refine⟨1+v,k',s',by omega,?_⟩;refine ac.of rT (by simp) rfl (by simp) ?_;simp[kw,jr,js];refine ae (ac.ag hM) ?_;simp;exact aD (by omega)
theorem aPH {a v:Int} (ha:1<=a/\a<=9) (hv:0<=v/\v<=7):(1<=1+(a+v).tmod 9/\1+(a+v).tmod 9<=9)/\1+(a+v).tmod 9≠a:=by
 rw[Int.tmod_eq_emod_of_nonneg (by omega)];omega
set_option maxHeartbeats 1000000 in
theorem pu (code:List UInt8) (k:Nat) (s:Int) (hk:k<=10000000000):∃ (r0:Field) (k':Nat) (s':Int),(cN r0=true/\(k<=k'/\k'<=k+10))/\ie eh [bm code k s] [cR] (jC r0) [some (bm code k' s')]:=by
 obtain ⟨v0,k1,s1,⟨hv0,hk0⟩,hM0⟩:=eJ code k s (by omega);obtain ⟨v1,k2,s2,hk1,hM1⟩:=dh code k1 s1 2 (by omega) (by omega);cases v1 with
 | true =>
   refine⟨⟨0,0,v0,0⟩,k2,s2,⟨by simp[cN,fV];omega,by omega⟩,?_⟩;refine ac.of mU (by simp) rfl (by simp) ?_;simp[ct,bY,bZ,cc,fm];refine ae (ac.ag hM0) ?_;simp[ct,bY,bZ,cc,fm];refine ae (ac.ag hM1) ?_;simp[ct,bY,bZ,cc,fm]
 | false =>
   obtain ⟨v3,k4,s4,⟨hv3,hk3⟩,hM3⟩:=aK code k2 s2 7 (by omega) (by omega);obtain ⟨v4,k5,s5,⟨hv4,hk4⟩,hM4⟩:=bG code k4 s4 [0,0,1,2,3,4] (by omega) (by simp) (by simp);obtain ⟨v5,k6,s6,⟨hv5,hk5⟩,hM5⟩:=aK code k5 s5 8 (by omega) (by omega);have h9:=aPH (a:=v0) (v:=v5) (by omega) (by omega);have hb4:0<=v4/\v4<=4:=by simp at hv4;omega
   have e1:IntKind.i64.wrap (1+v3)=1+v3:=aD (by omega);have e2:IntKind.i64.wrap (v0+v5)=v0+v5:=aD (by omega);have e3:IntKind.i64.wrap (1+(v0+v5).tmod 9)=1+(v0+v5).tmod 9:=aD (by omega);refine⟨⟨(IntKind.i64.wrap (1+v3)),v4,v0,(IntKind.i64.wrap (1+(Int.tmod (IntKind.i64.wrap (v0+v5)) 9)))⟩,k6,s6,⟨by rw[e1,e2,e3];simp only[cN,fV,if_neg (show ¬(1+v3=0) by omega),Bool.and_eq_true,decide_eq_true_iff,bne_iff_ne];omega,by omega⟩,?_⟩;refine ac.of mU (by simp) rfl (by simp) ?_;simp[ct,bY,bZ,cc,cQ,cS,cT,cB,cU];refine ae (ac.ag hM0) ?_;simp[ct,bY,bZ,cc,cQ,cS,cT,cB,cU];refine ae (ac.ag hM1) ?_;simp[ct,bY,bZ,cc,cQ,cS,cT,cB,cU];refine ae (ac.ag hM3) ?_;simp[ct,bY,bZ,cc,cQ,cS,cT,cB,cU];refine bL [1000000] [15] (ac.ag hM4) ?_;simp[ct,bY,bZ,cc,cQ,cS,cT,cB,cU];refine mI [1000000] [] (ac.ag hM5) ?_;simp[ct,bY,bZ,cc,cQ,cS,cT,cB,cU];exact a7 (by simp[cB]) (by simp)
set_option maxHeartbeats 4000000 in
theorem eY (code:List UInt8) (k:Nat) (s:Int) (hk:k<=10000000000):∃ (r0:Group) (k':Nat) (s':Int),(bQ r0=true/\(k<=k'/\k'<=k+8))/\ie dI [bm code k s] [cR] (ib r0) [some (bm code k' s')]:=by
 obtain ⟨v0,k1,s1,⟨hv0,hk0⟩,hM0⟩:=bG code k s [1,1,2,3,3,4,5,6] (by omega) (by simp) (by simp);obtain ⟨v1,k2,s2,⟨hv1,hk1⟩,hM1⟩:=aK code k1 s1 8 (by omega) (by omega);obtain ⟨v2,k3,s3,⟨hv2,hk2⟩,hM2⟩:=eJ code k2 s2 (by omega);have e1:IntKind.i64.wrap (1+v1)=1+v1:=aD (by omega);have hb0:1<=v0/\v0<=6:=by simp at hv0;omega
 by_cases c3:(IntKind.i64.wrap (1+v1))<=3
 ·obtain ⟨v4,k5,s5,⟨hv4,hk4⟩,hM4⟩:=aK code k3 s3 2 (by omega) (by omega)
  refine⟨⟨v0,(IntKind.i64.wrap (1+v1)),(IntKind.i64.wrap (1+v4)),v2⟩,k5,s5,⟨by
   have e4:IntKind.i64.wrap (1+v4)=1+v4:=aD (by omega);rw[e1] at c3;simp only[bQ,fV,e1,e4,if_pos c3,Bool.and_eq_true,decide_eq_true_iff];omega,by omega⟩,?_⟩
  refine ac.of mV (by simp) rfl (by simp) ?_;simp[bS,bC,bD,bE,cV,bF,c3];refine bL [1000000] [5] (ac.ag hM0) ?_;simp[bS,bC,bD,bE,cV,bF,c3];refine ae (ac.ag hM1) ?_;simp[bS,bC,bD,bE,cV,bF,c3];refine ae (ac.ag hM2) ?_;simp[bS,bC,bD,bE,cV,bF,c3];refine al (aa.ag (Nj (IntKind.i64.wrap (1+v1)))) ?_;simp[bS,bC,bD,bE,cV,bF,c3];refine ae (ac.ag hM4) ?_;simp[bS,bC,bD,bE,cV,bF,c3]
 ·refine⟨⟨v0,(IntKind.i64.wrap (1+v1)),0,v2⟩,k3,s3,⟨by
   rw[e1] at c3;have hg:bQ ⟨v0,1+v1,0,v2⟩=(fV v0 1 6&&fV (1+v1) 1 8&&fV v2 1 9&&(if 1+v1<=3 then fV 0 1 2 else (0:Int)==0)):=rfl;rw[e1,hg,if_neg c3];simp[fV];omega,by omega⟩,?_⟩
  refine ac.of mV (by simp) rfl (by simp) ?_;simp[bS,bC,bD,bE,bF,c3];refine bL [1000000] [5] (ac.ag hM0) ?_;simp[bS,bC,bD,bE,bF,c3];refine ae (ac.ag hM1) ?_;simp[bS,bC,bD,bE,bF,c3];refine ae (ac.ag hM2) ?_;simp[bS,bC,bD,bE,bF,c3];refine al (aa.ag (Nj (IntKind.i64.wrap (1+v1)))) ?_;simp[bS,bC,bD,bE,bF,c3]
theorem rh {f:Field} {g r:Group} {o l t:Int} (hf:cN f=true) (h:(o=0/\l=0/\t=0/\g0 g=true)\/((1<=o/\o<=7)/\(0<=l/\l<=4)/\(1<=t/\t<=9)/\(g0 g||bQ g)=true)) (hr:(g0 r||bQ r)=true):arms ⟨f,o,l,t,g,r⟩=true:=by
 unfold arms;dsimp only;rw[hf,hr];rcases h with ⟨rfl,rfl,rfl,h⟩ | ⟨h1,h2,h3,h4⟩
 ·simp[h]
 ·rw[if_neg (by omega),h4];simp[fV];omega
set_option maxHeartbeats 4000000 in
theorem rc (code:List UInt8) (k:Nat) (s:Int) (hk:k<=1000000000):∃ (r0:Arms) (k':Nat) (s':Int),(arms r0=true/\(k<=k'/\k'<=k+38))/\ie cC [bm code k s] [cR] (dj r0) [some (bm code k' s')]:=by
 obtain ⟨v0,k1,s1,⟨ho0,hk0⟩,hM0⟩:=pu code k s (by omega);obtain ⟨v1,k2,s2,hk1,hM1⟩:=dh code k1 s1 3 (by omega) (by omega);cases v1 with
 | true =>
   obtain ⟨v3,k4,s4,hk3,hM3⟩:=dh code k2 s2 3 (by omega) (by omega);cases v3 with
   | true =>
     refine⟨⟨⟨v0.division,v0.line,v0.first,v0.second⟩,0,0,0,⟨0,0,0,0⟩,⟨0,0,0,0⟩⟩,k4,s4,⟨rh ho0 (.inl ⟨rfl,rfl,rfl,rfl⟩) rfl,by omega⟩,?_⟩;refine ac.of eg (by simp) rfl (by simp) ?_;simp[am,ah,ai,aj,ak,af];refine ae (ac.ag hM0) ?_;simp[am,ah,ai,aj,ak,af];refine ae (ac.ag hM1) ?_;simp[am,ah,ai,aj,ak,af];refine ae (ac.ag hM3) ?_;simp[am,ah,ai,aj,ak,af]
   | false =>
     obtain ⟨v5,k6,s6,⟨ho5,hk5⟩,hM5⟩:=eY code k4 s4 (by omega);refine⟨⟨⟨v0.division,v0.line,v0.first,v0.second⟩,0,0,0,⟨0,0,0,0⟩,⟨v5.count,v5.kind,v5.attitude,v5.tincture⟩⟩,k6,s6,⟨rh ho0 (.inl ⟨rfl,rfl,rfl,rfl⟩) (by rw[show bQ ⟨v5.count,v5.kind,v5.attitude,v5.tincture⟩=true from ho5,Bool.or_true]),by omega⟩,?_⟩;refine ac.of eg (by simp) rfl (by simp) ?_;simp[am,ah,ai,aj,ak,aU,af];refine ae (ac.ag hM0) ?_;simp[am,ah,ai,aj,ak,aU,af];refine ae (ac.ag hM1) ?_;simp[am,ah,ai,aj,ak,aU,af];refine ae (ac.ag hM3) ?_;simp[am,ah,ai,aj,ak,aU,af];refine ae (ac.ag hM5) ?_;simp[am,ah,ai,aj,ak,aU,af]
 | false =>
   obtain ⟨v3,k4,s4,⟨hv3,hk3⟩,hM3⟩:=aK code k2 s2 7 (by omega) (by omega);obtain ⟨v4,k5,s5,⟨hv4,hk4⟩,hM4⟩:=bG code k4 s4 [0,0,0,1,2,3,4] (by omega) (by simp) (by simp);obtain ⟨v5,k6,s6,⟨hv5,hk5⟩,hM5⟩:=eJ code k5 s5 (by omega);obtain ⟨v6,k7,s7,hk6,hM6⟩:=dh code k6 s6 3 (by omega) (by omega);cases v6 with
   | true =>
     obtain ⟨v8,k9,s9,⟨ho8,hk8⟩,hM8⟩:=eY code k7 s7 (by omega);obtain ⟨v9,k10,s10,hk9,hM9⟩:=dh code k9 s9 3 (by omega) (by omega);cases v9 with
     | true =>
       refine⟨⟨⟨v0.division,v0.line,v0.first,v0.second⟩,(IntKind.i64.wrap (1+v3)),v4,v5,⟨v8.count,v8.kind,v8.attitude,v8.tincture⟩,⟨0,0,0,0⟩⟩,k10,s10,⟨rh ho0 (.inr ⟨by rw[aD (by omega)];omega,by simp at hv4;omega,hv5,(by rw[show bQ ⟨v8.count,v8.kind,v8.attitude,v8.tincture⟩=true from ho8,Bool.or_true])⟩) rfl,by omega⟩,?_⟩;refine ac.of eg (by simp) rfl (by simp) ?_;simp[am,ah,ai,aj,aq,au,av,ax,a6,ak,af];refine ae (ac.ag hM0) ?_;simp[am,ah,ai,aj,aq,au,av,ax,a6,ak,af];refine ae (ac.ag hM1) ?_;simp[am,ah,ai,aj,aq,au,av,ax,a6,ak,af];refine ae (ac.ag hM3) ?_;simp[am,ah,ai,aj,aq,au,av,ax,a6,ak,af];refine bL [1000000] [15] (ac.ag hM4) ?_;simp[am,ah,ai,aj,aq,au,av,ax,a6,ak,af];refine ae (ac.ag hM5) ?_;simp[am,ah,ai,aj,aq,au,av,ax,a6,ak,af];refine ae (ac.ag hM6) ?_;simp[am,ah,ai,aj,aq,au,av,ax,a6,ak,af];refine ae (ac.ag hM8) ?_;simp[am,ah,ai,aj,aq,au,av,ax,a6,ak,af];refine ae (ac.ag hM9) ?_;simp[am,ah,ai,aj,aq,au,av,ax,a6,ak,af]
     | false =>
       obtain ⟨v11,k12,s12,⟨ho11,hk11⟩,hM11⟩:=eY code k10 s10 (by omega);refine⟨⟨⟨v0.division,v0.line,v0.first,v0.second⟩,(IntKind.i64.wrap (1+v3)),v4,v5,⟨v8.count,v8.kind,v8.attitude,v8.tincture⟩,⟨v11.count,v11.kind,v11.attitude,v11.tincture⟩⟩,k12,s12,⟨rh ho0 (.inr ⟨by rw[aD (by omega)];omega,by simp at hv4;omega,hv5,(by rw[show bQ ⟨v8.count,v8.kind,v8.attitude,v8.tincture⟩=true from ho8,Bool.or_true])⟩) (by rw[show bQ ⟨v11.count,v11.kind,v11.attitude,v11.tincture⟩=true from ho11,Bool.or_true]),by omega⟩,?_⟩;refine ac.of eg (by simp) rfl (by simp) ?_;simp[am,ah,ai,aj,aq,au,av,ax,a6,ak,aU,af];refine ae (ac.ag hM0) ?_;simp[am,ah,ai,aj,aq,au,av,ax,a6,ak,aU,af];refine ae (ac.ag hM1) ?_;simp[am,ah,ai,aj,aq,au,av,ax,a6,ak,aU,af];refine ae (ac.ag hM3) ?_;simp[am,ah,ai,aj,aq,au,av,ax,a6,ak,aU,af];refine bL [1000000] [15] (ac.ag hM4) ?_;simp[am,ah,ai,aj,aq,au,av,ax,a6,ak,aU,af];refine ae (ac.ag hM5) ?_;simp[am,ah,ai,aj,aq,au,av,ax,a6,ak,aU,af];refine ae (ac.ag hM6) ?_;simp[am,ah,ai,aj,aq,au,av,ax,a6,ak,aU,af];refine ae (ac.ag hM8) ?_;simp[am,ah,ai,aj,aq,au,av,ax,a6,ak,aU,af];refine ae (ac.ag hM9) ?_;simp[am,ah,ai,aj,aq,au,av,ax,a6,ak,aU,af];refine ae (ac.ag hM11) ?_;simp[am,ah,ai,aj,aq,au,av,ax,a6,ak,aU,af]
   | false =>
     obtain ⟨v8,k9,s9,hk8,hM8⟩:=dh code k7 s7 3 (by omega) (by omega);cases v8 with
     | true =>
       refine⟨⟨⟨v0.division,v0.line,v0.first,v0.second⟩,(IntKind.i64.wrap (1+v3)),v4,v5,⟨0,0,0,0⟩,⟨0,0,0,0⟩⟩,k9,s9,⟨rh ho0 (.inr ⟨by rw[aD (by omega)];omega,by simp at hv4;omega,hv5,rfl⟩) rfl,by omega⟩,?_⟩;refine ac.of eg (by simp) rfl (by simp) ?_;simp[am,ah,ai,aj,aq,au,av,ax,ak,af];refine ae (ac.ag hM0) ?_;simp[am,ah,ai,aj,aq,au,av,ax,ak,af];refine ae (ac.ag hM1) ?_;simp[am,ah,ai,aj,aq,au,av,ax,ak,af];refine ae (ac.ag hM3) ?_;simp[am,ah,ai,aj,aq,au,av,ax,ak,af];refine bL [1000000] [15] (ac.ag hM4) ?_;simp[am,ah,ai,aj,aq,au,av,ax,ak,af];refine ae (ac.ag hM5) ?_;simp[am,ah,ai,aj,aq,au,av,ax,ak,af];refine ae (ac.ag hM6) ?_;simp[am,ah,ai,aj,aq,au,av,ax,ak,af];refine ae (ac.ag hM8) ?_;simp[am,ah,ai,aj,aq,au,av,ax,ak,af]
     | false =>
       obtain ⟨v10,k11,s11,⟨ho10,hk10⟩,hM10⟩:=eY code k9 s9 (by omega);refine⟨⟨⟨v0.division,v0.line,v0.first,v0.second⟩,(IntKind.i64.wrap (1+v3)),v4,v5,⟨0,0,0,0⟩,⟨v10.count,v10.kind,v10.attitude,v10.tincture⟩⟩,k11,s11,⟨rh ho0 (.inr ⟨by rw[aD (by omega)];omega,by simp at hv4;omega,hv5,rfl⟩) (by rw[show bQ ⟨v10.count,v10.kind,v10.attitude,v10.tincture⟩=true from ho10,Bool.or_true]),by omega⟩,?_⟩;refine ac.of eg (by simp) rfl (by simp) ?_;simp[am,ah,ai,aj,aq,au,av,ax,ak,aU,af];refine ae (ac.ag hM0) ?_;simp[am,ah,ai,aj,aq,au,av,ax,ak,aU,af];refine ae (ac.ag hM1) ?_;simp[am,ah,ai,aj,aq,au,av,ax,ak,aU,af];refine ae (ac.ag hM3) ?_;simp[am,ah,ai,aj,aq,au,av,ax,ak,aU,af];refine bL [1000000] [15] (ac.ag hM4) ?_;simp[am,ah,ai,aj,aq,au,av,ax,ak,aU,af];refine ae (ac.ag hM5) ?_;simp[am,ah,ai,aj,aq,au,av,ax,ak,aU,af];refine ae (ac.ag hM6) ?_;simp[am,ah,ai,aj,aq,au,av,ax,ak,aU,af];refine ae (ac.ag hM8) ?_;simp[am,ah,ai,aj,aq,au,av,ax,ak,aU,af];refine ae (ac.ag hM10) ?_;simp[am,ah,ai,aj,aq,au,av,ax,ak,aU,af]
theorem S4 (a:Arms):(nL a).length<=300:=by
 have h1:=Ad a.field;have h2:=GO a.ordinary a.line;have h3:=mc a.tincture;have h4:=nZ a.on;have h5:=nZ a.around;have h6:=aat a.ordinary;unfold nL;split<;>split<;>split<;>simp<;>omega
theorem LK (code:List UInt8) (k:Nat) (s:Int) (hk:k<=1000000000):∃ (x:Slot) (k':Nat) (s':Int),(dF x=true/\(k<=k'/\k'<=k+4))/\ie fC [bm code k s] [cR] (eX x) [some (bm code k' s')]:=by
 obtain ⟨v,k1,s1,⟨hv,hk1⟩,hM1⟩:=aK code k s 8 (by omega) (by omega);obtain ⟨p,k2,s2,⟨hp,hk2⟩,hM2⟩:=aK code k1 s1 3 (by omega) (by omega);obtain ⟨t,k3,s3,⟨ht,hk3⟩,hM3⟩:=eJ code k1 s1 (by omega)
 have main:∀ (x:Slot) (k':Nat) (s':Int),((v=0/\x=⟨2,0⟩/\k'=k1/\s'=s1)\/(v=1/\x=⟨3,1+p⟩/\k'=k2/\s'=s2)\/(v=2/\x=⟨4,0⟩/\k'=k1/\s'=s1)\/(v=3/\x=⟨5,0⟩/\k'=k1/\s'=s1)\/(v=4/\x=⟨5,0⟩/\k'=k1/\s'=s1) \/
   ((v≠0/\v≠1/\v≠2/\v≠3/\v≠4)/\x=⟨1,t⟩/\k'=k3/\s'=s3))->ie fC [bm code k s] [cR] (eX x) [some (bm code k' s')]:=by
  intro x k' s' hfin;refine ac.of AZ (by simp) rfl (by simp) ?_;simp[qd,nl,nn];refine ae (ac.ag hM1) ?_;rcases hfin with ⟨rfl,rfl,rfl,rfl⟩ | ⟨rfl,rfl,rfl,rfl⟩ | ⟨rfl,rfl,rfl,rfl⟩ | ⟨rfl,rfl,rfl,rfl⟩ | ⟨rfl,rfl,rfl,rfl⟩ | ⟨⟨n0,n1,n2,n3,n4⟩,rfl,rfl,rfl⟩
  ·simp[dk,np]
  ·simp[dk,dQ,nq];refine ae (ac.ag hM2) ?_;simp;rw[aD (by omega)]
  ·simp[dk,dQ,eI,nr]
  ·simp[dk,dQ,eI,fQ,gY]
  ·simp[dk,dQ,eI,fQ,iS,gY]
  ·simp[dk,dQ,eI,fQ,iS,ma,n0,n1,n2,n3,n4];refine ae (ac.ag hM3) ?_;simp
 by_cases h0:v=0
 ·exact⟨⟨2,0⟩,k1,s1,⟨by decide,by omega⟩,main _ _ _ (.inl ⟨h0,rfl,rfl,rfl⟩)⟩
 by_cases h1:v=1
 ·refine⟨⟨3,1+p⟩,k2,s2,⟨?_,by omega⟩,main _ _ _ (.inr (.inl ⟨h1,rfl,rfl,rfl⟩))⟩;simp[dF,fV];omega
 by_cases h2:v=2
 ·exact⟨⟨4,0⟩,k1,s1,⟨by decide,by omega⟩,main _ _ _ (.inr (.inr (.inl ⟨h2,rfl,rfl,rfl⟩)))⟩
 by_cases h3:v=3
 ·exact⟨⟨5,0⟩,k1,s1,⟨by decide,by omega⟩,main _ _ _ (.inr (.inr (.inr (.inl ⟨h3,rfl,rfl,rfl⟩))))⟩
 by_cases h4:v=4
 ·exact⟨⟨5,0⟩,k1,s1,⟨by decide,by omega⟩,main _ _ _ (.inr (.inr (.inr (.inr (.inl ⟨h4,rfl,rfl,rfl⟩)))))⟩
 ·refine⟨⟨1,t⟩,k3,s3,⟨?_,by omega⟩,main _ _ _ (.inr (.inr (.inr (.inr (.inr ⟨⟨h0,h1,h2,h3,h4⟩,rfl,rfl,rfl⟩)))))⟩;simp[dF,fV];omega
theorem vG {A:Type} {R:A->A->Prop} {ok:Nat->A->Prop} (a0:A) (N:Nat) (h0:ok 0 a0) (h:∀ n a,n < N->ok n a->∃ a',R a a'/\ok (n+1) a') :
  ∃ t:Nat->A,t 0=a0/\(∀ n,n<=N->ok n (t n))/\∀ n,n < N->R (t n) (t (n+1)):=by
 classical
 let nxt:Nat->A->A:=fun n a=>if hh:n < N/\ok n a then (h n a hh.1 hh.2).choose else a
 let t:Nat->A:=fun n=>Nat.rec a0 (fun n a=>nxt n a) n
 have key:∀ n,n<=N->ok n (t n):=by
  intro n
  induction n with
  | zero=>intro _;exact h0
  | succ n ih =>
    intro hn;have hk:=ih (by omega)
    have e:t (n+1)=(h n (t n) (by omega) hk).choose:=by
     show nxt n (t n)=_;exact dif_pos ⟨by omega,hk⟩
    rw[e];exact(h n (t n) (by omega) hk).choose_spec.2
 refine⟨t,rfl,key,fun n hn=>?_⟩;have hk:=key n (by omega)
 have e:t (n+1)=(h n (t n) hn hk).choose:=by
  show nxt n (t n)=_;exact dif_pos ⟨hn,hk⟩
 rw[e];exact(h n (t n) hn hk).choose_spec.1
theorem aim {p:Nat->Prop}:∀ {n:Nat},p n->∃ m,m<=n/\p m/\∀ j,j < m->¬p j:=by
 intro n
 induction n using Nat.strongRecOn with
 | ind n ih =>
   intro h;by_cases hx:∃ j,j < n/\p j
   ·obtain ⟨j,hj,hp⟩:=hx;obtain ⟨m,h1,h2,h3⟩:=ih j hj hp;exact⟨m,by omega,h2,h3⟩
   ·exact⟨n,by omega,h,fun j hj hp=>hx ⟨j,hj,hp⟩⟩
structure Petition where
 number:Int
 rank:Int
 day:Int
 state:Int
 paid:Int
 deriving DecidableEq
theorem Petition.eq_iff (p q:Petition):p=q↔p.number=q.number/\p.rank=q.rank/\p.day=q.day/\p.state=q.state/\p.paid=q.paid:=by
 cases p;cases q;simp
def aJw (p:Petition):Bool:=fV p.number 1 999&&fV p.rank 1 5&&fV p.day 0 9999&&fV p.state 1 4&&fV p.paid 0 1000000
def aui (l:List Petition) (i:Nat):Bool:=match l[i]? with
 | some p=>aJw p&&(decide (i=0)||decide (((l[i - 1]?).map Petition.number).getD 0 < p.number))
 | none=>true
def aFD (l:List Petition):Bool:=(List.range l.length).all (aui l)&&decide (l.length<=12)
structure PetSt where
 l:List Petition
 n:Int
 k:Nat
 s:Int
def GQ (x:Slot) (i:Nat) (L:List Slot):List Slot:=if x.mode≠5\/i+1 < L.length then L.set i x else L
theorem aiC (x:Slot) (i:Nat) (L:List Slot):(GQ x i L).length=L.length:=by
 unfold GQ;split
 ·exact List.length_set
 ·rfl
theorem aul {A:Arms} {L:List Slot} {x:Slot} {i:Nat} (h:bM ⟨A,L⟩=true) (hi:i < L.length) (hx:dF x=true):bM ⟨A,GQ x i L⟩=true:=by
 unfold GQ;split;rotate_left
 ·exact h
 rename_i hc;unfold bM at h ⊢;dsimp only at h ⊢;simp only[Bool.and_eq_true] at h ⊢;obtain ⟨h1,h2,h3,h4,h5⟩:=h;refine⟨h1,?_,?_,h4,?_⟩
 ·rw[List.all_eq_true] at h2 ⊢;intro y hy;rcases List.mem_or_eq_of_mem_set hy with h | rfl
  ·exact h2 y h
  ·exact hx
 ·rw[List.length_set];exact h3
 ·have e:∀ M:List Slot,M.getLastD fX=(M[M.length - 1]?).getD fX:=fun M=>by rw[List.getLastD_eq_getLast?,List.getLast?_eq_getElem?]
  rw[e] at h5;rw[e,List.length_set,List.getElem?_set];by_cases hl:i=L.length - 1
  ·rw[if_pos hl,if_pos (by omega)]
   have hm:x.mode≠5:=by
    rcases hc with h | h
    ·exact h
    ·omega
   simp[hm]
  ·rw[if_neg hl];exact h5
def iW (t:Nat->(Nat×Int)×Slot) (L:List Slot):Nat->List Slot
 | 0=>L
 | i+1=>GQ (t (i+1)).2 i (iW t L i)
theorem re (t:Nat->(Nat×Int)×Slot) (L:List Slot):∀ i,(iW t L i).length=L.length
 | 0=>rfl
 | i+1=>by rw[iW,aiC,re t L i]
theorem Fl {t:Nat->(Nat×Int)×Slot} {A:Arms} {L:List Slot} (h:bM ⟨A,L⟩=true) (ht:∀ i,i < L.length->dF (t (i+1)).2=true):∀ i,i<=L.length->bM ⟨A,iW t L i⟩=true
 | 0,_=>h
 | i+1,hi=>aul (Fl h ht i (by omega)) (by rw[re];omega) (ht i (by omega))
set_option maxHeartbeats 1000000 in
theorem Fj (code:List UInt8) (k:Nat) (s:Int) (hk:k<=100000000):∃ (q:Sk) (k':Nat) (s':Int),(bM q=true/\(k<=k'/\k'<=k+60)) /\
  ie iz [bm code k s] [cR] (.agg (cy q.arms (.own 2 (q.slots.map eX)))) [some (bm code k' s')]:=by
 obtain ⟨a,k1,s1,⟨ha,hk1⟩,hM1⟩:=rc code k s (by omega);have hp:=Oc ha;have hP:=ang a ha;have hb:(fq a).arms=gO a:=rfl;obtain ⟨A,hA⟩:∃ A,gO a=A:=⟨_,rfl⟩;obtain ⟨L,hL⟩:∃ L,(fq a).slots=L:=⟨_,rfl⟩;have hp:bM ⟨A,L⟩=true:=by rw[<- hA,<- hL,<- hb];exact hp
 rw[hA,hL] at hP
 have hn:L.length<=3:=by
  unfold bM at hp;simp only[Bool.and_eq_true] at hp;have:=of_decide_eq_true hp.2.2.1;unfold nO nN nR at this;split at this<;>split at this<;>split at this<;>omega
 obtain ⟨t,ht0,htok,htR⟩:=vG (A:=(Nat×Int)×Slot) (R:=fun a b=>dF b.2=true/\ie fC [bm code a.1.1 a.1.2] [cR] (eX b.2) [some (bm code b.1.1 b.1.2)])
  (ok:=fun n a=>k1<=a.1.1/\a.1.1<=k1+4 * n) ((k1,s1),fX) L.length (by dsimp only;omega) (fun n a hn ha=>by
   obtain ⟨x,ka,sa,⟨hx,hka⟩,hMx⟩:=LK code a.1.1 a.1.2 (by omega);exact⟨((ka,sa),x),⟨hx,hMx⟩,by dsimp only;omega⟩)
 have hok:=Fl (t:=t) hp (fun i hi=>(htR i hi).1) L.length (Nat.le_refl _);have htN:=htok L.length (Nat.le_refl _);refine⟨⟨A,iW t L L.length⟩,(t L.length).1.1,(t L.length).1.2,⟨hok,by omega⟩,?_⟩;refine ac.of vC (by simp) rfl (by simp) ?_;simp[mT,kP,kQ];refine ae (ac.ag hM1) ?_;simp;refine bB (aa.ag hP) rfl (.inl (by simp[cy])) (by simp[cy]) ?_;simp[cy,kR,kB]
 refine dl (fun i:Nat=>⟨[(0,cR),(2,.ref 2 0 0),(3,.ref 3 0 0),(4,I i)],[(1000000,bm code (t i).1.1 (t i).1.2),(2,⟨16,[.agg (cy a00 nM)]⟩),(3,⟨16,[.agg (cy A (.sl 8 0 L.length))]⟩),(8,⟨2,(iW t L i).map eX⟩)],[1000000]⟩)
  (fun i=>L.length - i) (fun i=>i<=L.length) 0 (Wk.list rfl (by simp) (by simp[ht0,iW,cy])) (by simp) ?_
 intro i hi K hN hR hE;have hsl:=re t L i;simp[cy,kS,kW];refine⟨fun hlt=>?_,fun hge=>?_⟩
 ·obtain ⟨hxo,hMx⟩:=htR i hlt;have hnx:iW t L (i+1)=GQ (t (i+1)).2 i (iW t L i):=rfl;obtain ⟨u,hu⟩:∃ u,t (i+1)=u:=⟨_,rfl⟩;rw[hu] at hMx hnx;obtain ⟨⟨ku,su⟩,x⟩:=u;dsimp only at hMx hnx;generalize iW t L i=M at hsl hnx ⊢;simp[kT];refine ae (ac.ag hMx) ?_;simp[kU];rw[aD (n:=(L.length:Int) - 1) (by omega)];refine⟨fun h5=>⟨fun hlt1=>?_,fun hge1=>?_⟩,fun hne=>?_⟩;rotate_left
  ·have hput:GQ x i M=M:=by
    unfold GQ;rw[if_neg];rintro (h | h)
    ·exact h h5
    ·omega
   rw[aD (by omega)];refine hN (i+1) _ (by omega) (by omega) (Wk.list rfl ?_ ?_)
   ·simp
   ·simp[hu,hnx,hput,cy]
  all_goals
   have hput:GQ x i M=M.set i x:=by
    unfold GQ;rw[if_pos]
    first
     | exact .inl hne
     | exact .inr (by omega)
   have hiM:i < M.length:=by omega
   simp[kV,hiM,hlt];rw[aD (by omega)];refine hN (i+1) _ (by omega) (by omega) (Wk.list rfl ?_ ?_)
   ·simp
   ·simp[hu,hnx,hput,cy,List.map_set]
 ·obtain rfl:i=L.length:=by omega
  refine hE _ _ ?_;simp only[cv];simp[kX,hsl]
set_option maxRecDepth 100000
def gA:=[dD 2 1 (.agg [vN])]
def gB:=[om 7 0,cg 8 ez 7,dD 3 1 (.agg [vN]),bg 1 3 8]
def gC:=[aL 9 0 3,bl 10 1 9,oo 11 (.len false (.t 10)),cn 12 .eql 11 0]
def gD:=[bu 13 1 3,bg 1 2 13]
def gE:=[om 14 0,aL 15 0 3,bl 16 1 15,oo 17 (.len false (.t 16)),dK 18 an 14 17,om 4 18]
def gF:=[aL 19 0 3,bl 20 1 19,om 21 4,ft 22 18 20 21,bu 23 18 22,dD 5 18 zC,bg 18 5 23]
def gG:=[om 24 0,oo 25 (.call an [.t 24,xI 20])]
def gH:=[cn 27 .eql 25 0,om 26 27]
def gJ:=[om 28 0,oo 29 (.bslice 1 (vI 0) 4 [(0,(xI 0)),(1,(xI 1000)),(2,(xI 1)),(3,(xI 999))]),dK 30 bi 28 29,aL 31 0 5,bg 1 31 30]
def bT:=[cn 33 .eql 25 1,om 32 33]
def f9:=[om 34 0,oo 35 (.bslice 1 (vS []) 5 [(0,(.k (vS []))),(1,(.k (vS [97,115,104,101]))),(2,(.k (vS [65,98,99,100,101,102,103,104,105,106,107,108]))),(3,(.k (vS [65,98,99,100,101,102,103,104,105,106,107,108,109]))),(4,(.k (vS [65])))]),dK 36 cP 34 35,aL 37 1 5,bg 1 37 36]
def cj:=[cn 39 .eql 25 2,om 38 39]
def ga:=[om 40 0,oo 41 (.bslice 1 (vI 0) 4 [(0,(xI 999)),(1,(xI 1000)),(2,(xI 2999)),(3,(xI 3000))]),dK 42 bi 40 41,aL 43 2 5,bg 1 43 42]
def cD:=[cn 45 .eql 25 3,om 44 45]
def gb:=[om 46 0,cg 47 gS 46,aL 48 3 5,bg 15 48 47]
def dn:=[cn 50 .eql 25 4,om 49 50]
def gc:=[om 51 0,aL 52 0 3,bl 53 1 52,oo 54 (.iaddr 18 (.t 53) (xI 0)),aL 55 3 54,bu 56 15 55,dK 57 fB 51 56,aL 58 3 5,bg 15 58 57]
def eu:=[cn 60 .eql 25 5,om 59 60]
def gd:=[ok 6 (vI 0)]
def gf:=[aL 61 0 3,bl 62 1 61,oo 63 (.len false (.t 62)),om 64 0,oo 65 (.call an [.t 64,xI 2]),oo 66 (.bin .add .none (xI 12) (.t 65)),cI 67 .lss 63 66,om 68 67,oT 68 69 (.mv (.t 6)),oT 68 70 (.bin .lss .none (.t 69) (xI 14)),oo 71 (.pick (.t 68) (.t 70) (xB false))]
def dm:List (List Nat):=[[],[0],[0,1],[],[3],[3,4],[0,1,2,3,4,5],[0,1,2,3,4,5,6],[0,1,2,3,4,5,6,7],[0,1,2,3,4,5,6,7,8],[0,1,2,3,4,5,6,7,8,9]]
def gg:=[aL 74 0 3,bl 75 1 74,om 76 6,oo 77 (.bin .add .none (xI 100) (.t 76)),om 78 6,cn 79 .rem 78 9,oo 80 (.bin .add .none (xI 1) (.t 79)),oo 81 (.build xR [(2,(1,(.t 80)))]),om 82 6,cn 83 .rem 82 6,oo 84 (.bin .add .none (xI 1) (.t 83)),om 85 6,cn 86 .rem 85 5,oo 87 (.bin .add .none (xI 4) (.t 86)),om 88 6,cn 89 .quo 88 2,oo 90 (.bin .add .none (xI 1) (.t 89)),oo 91 (.build xR [(0,(1,(.t 84))),(1,(1,(.t 87))),(3,(1,(.t 90)))]),oo 92 (.build lm [(0,(4,(.t 81))),(11,(4,(.t 91)))]),oo 93 (.build zC [(0,(1,(.t 77))),(1,(1,(.k (vS [90,101,100])))),(2,(1,(xI 2900))),(3,(15,(.t 92)))]),oo 94 (.bslice 18 zC 1 [(0,(.t 93))]),oo 95 (.app 18 152 (.t 75) (.t 94)),aL 96 0 3,bg 1 96 95]
def gh:=[om 72 6,fL 73 72 1,om 6 73]
def f8:C:=(ss (ss (.regD gf dm [0,2,3,6,71]) (sc 71 .skip (.exit 1))) (ss (.block 2 (.reg gg [0,2,3,6])) (.reg gh [0,2,3,6])))
def ew:=[bu 97 1 3,bg 1 2 97]
def bO:=[aL 98 0 3,bl 99 1 98,om 100 4,bu 101 18 5,ft 102 18 99 100,bg 18 102 101]
def bP:=[bu 103 1 3,bg 1 2 103]
def ig:C:=(sr gA [0,2] (sr gB [0,2,3] (ss (sr gC [0,2,3,12] (sc 12 (sr gD [2] .ret) .skip)) (sr gE [0,2,3,4] (sr gF [0,2,3,4,5] (ss (sr gG [0,2,3,4,5,25] (.block 0 (sr gH [0,2,3,4,5,25,26] (sc 26 (.reg gJ [2,3,4,5]) (sr bT [0,2,3,4,5,25,32] (sc 32 (.reg f9 [2,3,4,5]) (sr cj [0,2,3,4,5,25,38] (sc 38 (.reg ga [2,3,4,5]) (sr cD [0,2,3,4,5,25,44] (sc 44 (.reg gb [2,3,4,5]) (sr dn [0,2,3,4,5,25,49] (sc 49 (.reg gc [2,3,4,5]) (sr eu [0,2,3,4,5,59] (sc 59 (ss (sr gd [0,2,3,6] (.block 1 (.loop f8))) (sr ew [2] .ret)) .skip)))))))))))))) (sr bO [2,3] (sr bP [2] .ret))))))))
def pB:Nat->List Nat
 | 0=>[0,2]
 | 1=>[0,2,3]
 | 2=>[0,2,3,12]
 | 3=>[2]
 | 4=>[0,2,3,4]
 | 5=>[0,2,3,4,5]
 | 6=>[0,2,3,4,5,25]
 | 7=>[0,2,3,4,5,25,26]
 | 8=>[2,3,4,5]
 | 9=>[0,2,3,4,5,25,32]
 | 10=>[2,3,4,5]
 | 11=>[0,2,3,4,5,25,38]
 | 12=>[2,3,4,5]
 | 13=>[0,2,3,4,5,25,44]
 | 14=>[2,3,4,5]
 | 15=>[0,2,3,4,5,25,49]
 | 16=>[2,3,4,5]
 | 17=>[0,2,3,4,5,59]
 | 18=>[0,2,3,6]
 | 19=>[0,2,3,6,71]
 | 21=>[0,2,3,6]
 | 20=>[0,2,3,6]
 | 22=>[2]
 | 23=>[2,3]
 | 24=>[2]
 | _=>[]
theorem nX:cE dW ig [(.cell 2 true 1)] 104 :=
 ⟨Tryz.f115,_,pB,func115,rfl,by kernel_rfl,by kernel_rfl,by kernel_rfl,rfl⟩
def jh:=[dD 2 1 (.agg [vN])]
def ji:=[oo 9 (.bslice 18 zC 0 []),oo 10 (.build (.agg [vN]) [(0,(1,(.t 9)))]),dD 3 1 (.agg [vN]),bg 1 3 10]
def jj:=[om 11 0,oo 12 (.call an [.t 11,xI 100]),oo 13 (.bin .add .none (xI 1500) (.t 12)),om 4 13,ok 5 (vI 0)]
def jk:=[om 14 0,cg 15 cC 14,dD 6 15 lm,bg 15 6 15]
def jl:=[om 16 0,oo 17 (.call an [.t 16,xI 6]),om 7 17]
def jm:=[om 18 7,cn 19 .gtr 18 0]
def jn:=[om 22 0,bu 23 15 6,dK 24 fB 22 23,dD 8 15 lm,bg 15 8 24]
def jo:=[om 25 0,oo 26 (.call bz [.t 25,xI 2])]
def jp:=[om 27 0,cg 28 cC 27,bg 15 8 28]
def jq:=[bu 29 1 3,bu 30 15 8,dK 31 ue 29 30,oo 32 (.len false (.t 31)),cn 33 .gtr 32 0]
def ip:=[om 34 4,om 35 0,oo 36 (.call an [.t 35,xI 20]),cI 37 .add 34 36,om 4 37]
def iq:=[om 38 5,fL 39 38 1,om 40 0,oo 41 (.call an [.t 40,xI 2]),cI 42 .add 39 41,om 5 42]
def ir:=[aL 43 0 3,bl 44 1 43,om 45 5,om 46 0,oo 47 (.bslice 1 (vS []) 4 [(0,(.k (vS [65,115,104,101]))),(1,(.k (vS [66,114,111,111,107]))),(2,(.k (vS [67,111,108,101]))),(3,(.k (vS [68,117,110,110])))]),dK 48 cP 46 47,om 49 4,bu 50 15 8,oo 51 (.build zC [(0,(1,(.t 45))),(1,(1,(.t 48))),(2,(1,(.t 49))),(3,(15,(.t 50)))]),oo 52 (.bslice 18 zC 1 [(0,(.t 51))]),oo 53 (.app 18 152 (.t 44) (.t 52)),aL 54 0 3,bg 1 54 53]
def fg:List (List Nat):=[[],[0],[],[],[],[3,4],[],[],[2,3,4,5,6,7],[2,3,4,5,6,7,8],[0,1,2,3,4,5,6,7,8,9],[0,1,2,3,4,5,6,7,8,9,10],[0,1,2,3,4,5,6,7,8,9,10,11]]
def fj:=[om 20 7,cn 21 .sub 20 1,om 7 21]
def ii:C:=(ss (sr jm [0,2,3,4,5,6,7,19] (sc 19 .skip (.exit 0))) (ss (.block 1 (sr jn [0,2,3,4,5,6,7,8] (ss (sr jo [0,2,3,4,5,6,7,8,26] (sc 26 (.reg jp [0,2,3,4,5,6,7,8]) .skip)) (ss (ss (.wk (.reg jq [0,2,3,4,5,6,7,8,33])) (sc 33 (.exit 1) .skip)) (sr ip [0,2,3,4,5,6,7,8] (sr iq [0,2,3,4,5,6,7,8] (.regD ir fg [0,2,3,4,5,6,7]))))))) (.reg fj [0,2,3,4,5,6,7])))
def iu:=[bu 55 1 3,bg 1 2 55]
def kv:C:=(sr jh [0,2] (sr ji [0,2,3] (sr jj [0,2,3,4,5] (sr jk [0,2,3,4,5,6] (ss (sr jl [0,2,3,4,5,6,7] (.block 0 (.loop ii))) (sr iu [2] .ret))))))
def uq:Nat->List Nat
 | 0=>[0,2]
 | 1=>[0,2,3]
 | 2=>[0,2,3,4,5]
 | 3=>[0,2,3,4,5,6]
 | 4=>[0,2,3,4,5,6,7]
 | 5=>[0,2,3,4,5,6,7,19]
 | 7=>[0,2,3,4,5,6,7,8]
 | 8=>[0,2,3,4,5,6,7,8,26]
 | 9=>[0,2,3,4,5,6,7,8]
 | 10=>[999999,0,2,3,4,5,6,7,8,33]
 | 11=>[0,2,3,4,5,6,7,8]
 | 12=>[0,2,3,4,5,6,7,8]
 | 13=>[0,2,3,4,5,6,7]
 | 6=>[0,2,3,4,5,6,7]
 | 14=>[2]
 | _=>[]
theorem rS:cE ez kv [(.cell 2 true 1)] 56 :=
 ⟨Tryz.f66,_,uq,func66,rfl,by kernel_rfl,by kernel_rfl,by kernel_rfl,rfl⟩
def bU:=[eF 3 15 1,dD 4 15 lm]
def bV:=[bu 6 15 3,dD 5 15 lm,bg 15 5 6]
def bW:=[om 7 0,oo 8 (.call an [.t 7,xI 7])]
def bX:=[cn 10 .eql 8 0,om 9 10]
def nc:=[om 11 0,cg 12 eh 11,aL 13 0 5,bg 4 13 12]
def ck:=[cn 15 .eql 8 1,om 14 15]
def iI:=[aL 16 4 5,bl 17 1 16,cn 18 .gtr 17 0]
def nd:=[om 19 0,cg 20 cH 19,aL 21 6 5,bg 1 21 20]
def cL:=[cn 23 .eql 8 2,om 22 23]
def nf:=[om 24 0,cg 25 dI 24,aL 26 11 5,bg 4 26 25]
def cW:=[cn 28 .eql 8 3,om 27 28]
def gW:=[aL 29 4 5,bl 30 1 29,cn 31 .gtr 30 0]
def l7:=[om 32 0,oo 33 (.call an [.t 32,xI 7]),oo 34 (.bin .add .none (xI 1) (.t 33)),aL 35 4 5,bg 1 35 34]
def en:=[cn 37 .eql 8 4,om 36 37]
def l8:=[om 38 0,cg 39 cC 38,bg 15 5 39]
def fo:=[cn 41 .eql 8 5,om 40 41]
def gX:=[aL 42 11 5,bu 43 4 42,cg 44 iA 43,oo 45 (.un .not (.t 44))]
def l9:=[om 46 0,oo 47 (.call an [.t 46,xI 6]),oo 48 (.bin .add .none (xI 1) (.t 47)),aL 49 11 5,aL 50 0 49,bg 1 50 48]
def bK:=[bu 51 15 5,bg 15 4 51]
def cq:C:=(sr bU [0,3,4] (sr bV [0,4,5] (ss (sr bW [0,4,5,8] (.block 0 (sr bX [0,4,5,8,9] (sc 9 (.reg nc [4,5]) (sr ck [0,4,5,8,14] (sc 14 (sr iI [0,4,5,18] (sc 18 (.reg nd [4,5]) .skip)) (sr cL [0,4,5,8,22] (sc 22 (.reg nf [4,5]) (sr cW [0,4,5,8,27] (sc 27 (sr gW [0,4,5,31] (sc 31 (.reg l7 [4,5]) .skip)) (sr en [0,4,5,8,36] (sc 36 (.reg l8 [4,5]) (sr fo [0,4,5,40] (sc 40 (sr gX [0,4,5,45] (sc 45 (.reg l9 [4,5]) .skip)) .skip)))))))))))))) (sr bK [4] .ret))))
theorem cu:cE fB cq [(.cell 4 true 15)] 52:=dE func127 rfl
def aP:=[dD 2 4 xR]
def aQ:=[om 4 0,cg 5 eh 4,dD 3 4 xR,bg 4 3 5]
def aR:=[om 6 0,oo 7 (.call an [.t 6,xI 24])]
def aS:=[cn 9 .eql 7 0,om 8 9]
def dv:=[om 10 0,oo 11 (.bslice 1 (vI 0) 5 [(0,(xI (-1))),(1,(xI 8)),(2,(xI 0)),(3,(xI 7)),(4,(xI 1))]),dK 12 bi 10 11,aL 13 0 3,bg 1 13 12]
def aY:=[cn 15 .eql 7 1,om 14 15]
def dw:=[om 16 0,oo 17 (.bslice 1 (vI 0) 4 [(0,(xI (-1))),(1,(xI 5)),(2,(xI 1)),(3,(xI 4))]),dK 18 bi 16 17,aL 19 1 3,bg 1 19 18]
def bq:=[cn 21 .eql 7 2,om 20 21]
def dx:=[om 22 0,oo 23 (.bslice 1 (vI 0) 3 [(0,(xI 0)),(1,(xI 10)),(2,(xI 9))]),dK 24 bi 22 23,aL 25 2 3,bg 1 25 24]
def ce:=[cn 27 .eql 7 3,om 26 27]
def dd:=[om 28 0,aL 29 2 3,bl 30 1 29,oo 31 (.bslice 1 (vI 0) 4 [(0,(xI 0)),(1,(xI 10)),(2,(.t 30)),(3,(xI 9))]),dK 32 bi 28 31,aL 33 3 3,bg 1 33 32]
def aM:=[bu 34 4 3,bg 4 2 34]
def aX:C:=(sr aP [0,2] (sr aQ [0,2,3] (ss (sr aR [0,2,3,7] (.block 0 (sr aS [0,2,3,7,8] (sc 8 (.reg dv [2,3]) (sr aY [0,2,3,7,14] (sc 14 (.reg dw [2,3]) (sr bq [0,2,3,7,20] (sc 20 (.reg dx [2,3]) (sr ce [0,2,3,26] (sc 26 (.reg dd [2,3]) .skip)))))))))) (sr aM [2] .ret))))
theorem dJ:cE gn aX [(.cell 2 true 4)] 35:=dE func241 rfl
def aF:=[dD 2 4 xR]
def aG:=[om 4 0,cg 5 dI 4,dD 3 4 xR,bg 4 3 5]
def aH:=[om 6 0,oo 7 (.call an [.t 6,xI 24])]
def aI:=[cn 9 .eql 7 0,om 8 9]
def dy:=[om 10 0,oo 11 (.bslice 1 (vI 0) 3 [(0,(xI 0)),(1,(xI 7)),(2,(xI (-1)))]),dK 12 bi 10 11,aL 13 0 3,bg 1 13 12]
def aV:=[cn 15 .eql 7 1,om 14 15]
def dz:=[om 16 0,oo 17 (.bslice 1 (vI 0) 4 [(0,(xI 0)),(1,(xI 9)),(2,(xI 3)),(3,(xI 4))]),dK 18 bi 16 17,aL 19 1 3,bg 1 19 18]
def bc:=[cn 21 .eql 7 2,om 20 21]
def dA:=[om 22 0,oo 23 (.bslice 1 (vI 0) 5 [(0,(xI 0)),(1,(xI 1)),(2,(xI 2)),(3,(xI 3)),(4,(xI (-1)))]),dK 24 bi 22 23,aL 25 2 3,bg 1 25 24]
def bv:=[cn 27 .eql 7 3,om 26 27]
def de:=[om 28 0,oo 29 (.bslice 1 (vI 0) 2 [(0,(xI 0)),(1,(xI 10))]),dK 30 bi 28 29,aL 31 3 3,bg 1 31 30]
def cm:=[cn 33 .eql 7 4,om 32 33]
def dY:=[oo 34 (.build xR []),bg 4 2 34]
def aN:=[bu 35 4 3,bg 4 2 35]
def aO:C:=(sr aF [0,2] (sr aG [0,2,3] (ss (sr aH [0,2,3,7] (.block 0 (sr aI [0,2,3,7,8] (sc 8 (.reg dy [2,3]) (sr aV [0,2,3,7,14] (sc 14 (.reg dz [2,3]) (sr bc [0,2,3,7,20] (sc 20 (.reg dA [2,3]) (sr bv [0,2,3,7,26] (sc 26 (.reg de [2,3]) (sr cm [2,3,32] (sc 32 (sr dY [2] .ret) .skip)))))))))))) (sr aN [2] .ret))))
theorem cZ:cE eP aO [(.cell 2 true 4)] 36:=dE func242 rfl
def az:=[dD 2 15 lm]
def aA:=[om 4 0,cg 5 cC 4,dD 3 15 lm,bg 15 3 5]
def aB:=[om 6 0,oo 7 (.call an [.t 6,xI 24])]
def aC:=[cn 9 .eql 7 0,om 8 9]
def dL:=[om 10 0,cg 11 gn 10,aL 12 0 3,bg 4 12 11]
def aJ:=[cn 14 .eql 7 1,om 13 14]
def dM:=[om 15 0,oo 16 (.bslice 1 (vI 0) 4 [(0,(xI (-1))),(1,(xI 8)),(2,(xI 0)),(3,(xI 7))]),dK 17 bi 15 16,aL 18 4 3,bg 1 18 17]
def aW:=[cn 20 .eql 7 2,om 19 20]
def dN:=[om 21 0,oo 22 (.bslice 1 (vI 0) 3 [(0,(xI (-1))),(1,(xI 5)),(2,(xI 1))]),dK 23 bi 21 22,aL 24 5 3,bg 1 24 23]
def a8:=[cn 26 .eql 7 3,om 25 26]
def dp:=[om 27 0,oo 28 (.bslice 1 (vI 0) 3 [(0,(xI 0)),(1,(xI 10)),(2,(xI 3))]),dK 29 bi 27 28,aL 30 6 3,bg 1 30 29]
def bp:=[cn 32 .eql 7 4,om 31 32]
def dq:=[om 33 0,cg 34 eP 33,aL 35 7 3,bg 4 35 34]
def cd:=[cn 37 .eql 7 5,om 36 37]
def du:=[om 38 0,cg 39 eP 38,aL 40 11 3,bg 4 40 39]
def ay:=[bu 41 15 3,bg 15 2 41]
def aE:C:=(sr az [0,2] (sr aA [0,2,3] (ss (sr aB [0,2,3,7] (.block 0 (sr aC [0,2,3,7,8] (sc 8 (.reg dL [2,3]) (sr aJ [0,2,3,7,13] (sc 13 (.reg dM [2,3]) (sr aW [0,2,3,7,19] (sc 19 (.reg dN [2,3]) (sr a8 [0,2,3,7,25] (sc 25 (.reg dp [2,3]) (sr bp [0,2,3,7,31] (sc 31 (.reg dq [2,3]) (sr cd [0,2,3,36] (sc 36 (.reg du [2,3]) .skip)))))))))))))) (sr ay [2] .ret))))
theorem cG:cE gS aE [(.cell 2 true 15)] 42:=dE func178 rfl
theorem tX (code:List UInt8) (k:Nat) (s:Int) (hk:k<=10000000000):∃ (r0:Field) (k':Nat) (s':Int),(k<=k'/\k'<=k+10)/\ie eh [bm code k s] [cR] (jC r0) [some (bm code k' s')]:=by
 obtain ⟨r0,k',s',⟨_,h1⟩,h2⟩:=pu code k s hk;exact⟨r0,k',s',h1,h2⟩
theorem tY (code:List UInt8) (k:Nat) (s:Int) (hk:k<=10000000000):∃ (r0:Group) (k':Nat) (s':Int),(k<=k'/\k'<=k+8)/\ie dI [bm code k s] [cR] (ib r0) [some (bm code k' s')]:=by
 obtain ⟨r0,k',s',⟨_,h1⟩,h2⟩:=eY code k s hk;exact⟨r0,k',s',h1,h2⟩
set_option maxHeartbeats 4000000 in
theorem zy (code:List UInt8) (k:Nat) (s:Int) (hk:k<=1000000000):∃ (r0:Field) (k':Nat) (s':Int),(k<=k'/\k'<=k+14)/\ie gn [bm code k s] [cR] (jC r0) [some (bm code k' s')]:=by
 obtain ⟨v0,k1,s1,hk0,hM0⟩:=tX code k s (by omega);obtain ⟨v1,k2,s2,⟨hv1,hk1⟩,hM1⟩:=aK code k1 s1 24 (by omega) (by omega);by_cases c2:v1=0
 ·obtain ⟨v3,k4,s4,⟨hv3,hk3⟩,hM3⟩:=bG code k2 s2 [-1,8,0,7,1] (by omega) (by simp) (by simp);refine⟨⟨v3,v0.line,v0.first,v0.second⟩,k4,s4,by omega,?_⟩;refine ac.of dJ (by simp) rfl (by simp) ?_;simp[aX,aP,aQ,aR,aS,dv,aM,c2];refine ae (ac.ag hM0) ?_;simp[aX,aP,aQ,aR,aS,dv,aM,c2];refine ae (ac.ag hM1) ?_;simp[aX,aP,aQ,aR,aS,dv,aM,c2];refine bL [1000000] [11] (ac.ag hM3) ?_;simp[aX,aP,aQ,aR,aS,dv,aM,c2]
 ·by_cases c3:v1=1
  ·obtain ⟨v4,k5,s5,⟨hv4,hk4⟩,hM4⟩:=bG code k2 s2 [-1,5,1,4] (by omega) (by simp) (by simp);refine⟨⟨v0.division,v4,v0.first,v0.second⟩,k5,s5,by omega,?_⟩;refine ac.of dJ (by simp) rfl (by simp) ?_;simp[aX,aP,aQ,aR,aS,aY,dw,aM,c2,c3];refine ae (ac.ag hM0) ?_;simp[aX,aP,aQ,aR,aS,aY,dw,aM,c2,c3];refine ae (ac.ag hM1) ?_;simp[aX,aP,aQ,aR,aS,aY,dw,aM,c2,c3];refine bL [1000000] [17] (ac.ag hM4) ?_;simp[aX,aP,aQ,aR,aS,aY,dw,aM,c2,c3]
  ·by_cases c4:v1=2
   ·obtain ⟨v5,k6,s6,⟨hv5,hk5⟩,hM5⟩:=bG code k2 s2 [0,10,9] (by omega) (by simp) (by simp);refine⟨⟨v0.division,v0.line,v5,v0.second⟩,k6,s6,by omega,?_⟩;refine ac.of dJ (by simp) rfl (by simp) ?_;simp[aX,aP,aQ,aR,aS,aY,bq,dx,aM,c2,c3,c4];refine ae (ac.ag hM0) ?_;simp[aX,aP,aQ,aR,aS,aY,bq,dx,aM,c2,c3,c4];refine ae (ac.ag hM1) ?_;simp[aX,aP,aQ,aR,aS,aY,bq,dx,aM,c2,c3,c4];refine bL [1000000] [23] (ac.ag hM5) ?_;simp[aX,aP,aQ,aR,aS,aY,bq,dx,aM,c2,c3,c4]
   ·by_cases c5:v1=3
    ·obtain ⟨v6,k7,s7,⟨hv6,hk6⟩,hM6⟩:=bG code k2 s2 [0,10,v0.first,9] (by omega) (by simp) (by simp);refine⟨⟨v0.division,v0.line,v0.first,v6⟩,k7,s7,by omega,?_⟩;refine ac.of dJ (by simp) rfl (by simp) ?_;simp[aX,aP,aQ,aR,aS,aY,bq,ce,dd,aM,c2,c3,c4,c5];refine ae (ac.ag hM0) ?_;simp[aX,aP,aQ,aR,aS,aY,bq,ce,dd,aM,c2,c3,c4,c5];refine ae (ac.ag hM1) ?_;simp[aX,aP,aQ,aR,aS,aY,bq,ce,dd,aM,c2,c3,c4,c5];refine bL [1000000] [31] (ac.ag hM6) ?_;simp[aX,aP,aQ,aR,aS,aY,bq,ce,dd,aM,c2,c3,c4,c5]
    ·refine⟨⟨v0.division,v0.line,v0.first,v0.second⟩,k2,s2,by omega,?_⟩;refine ac.of dJ (by simp) rfl (by simp) ?_;simp[aX,aP,aQ,aR,aS,aY,bq,ce,aM,c2,c3,c4,c5];refine ae (ac.ag hM0) ?_;simp[aX,aP,aQ,aR,aS,aY,bq,ce,aM,c2,c3,c4,c5];refine ae (ac.ag hM1) ?_;simp[aX,aP,aQ,aR,aS,aY,bq,ce,aM,c2,c3,c4,c5]
set_option maxHeartbeats 4000000 in
theorem nK (code:List UInt8) (k:Nat) (s:Int) (hk:k<=1000000000):∃ (r0:Group) (k':Nat) (s':Int),(k<=k'/\k'<=k+12)/\ie eP [bm code k s] [cR] (ib r0) [some (bm code k' s')]:=by
 obtain ⟨v0,k1,s1,hk0,hM0⟩:=tY code k s (by omega);obtain ⟨v1,k2,s2,⟨hv1,hk1⟩,hM1⟩:=aK code k1 s1 24 (by omega) (by omega);by_cases c2:v1=0
 ·obtain ⟨v3,k4,s4,⟨hv3,hk3⟩,hM3⟩:=bG code k2 s2 [0,7,-1] (by omega) (by simp) (by simp);refine⟨⟨v3,v0.kind,v0.attitude,v0.tincture⟩,k4,s4,by omega,?_⟩;refine ac.of cZ (by simp) rfl (by simp) ?_;simp[aO,aF,aG,aH,aI,dy,aN,c2];refine ae (ac.ag hM0) ?_;simp[aO,aF,aG,aH,aI,dy,aN,c2];refine ae (ac.ag hM1) ?_;simp[aO,aF,aG,aH,aI,dy,aN,c2];refine bL [1000000] [11] (ac.ag hM3) ?_;simp[aO,aF,aG,aH,aI,dy,aN,c2]
 ·by_cases c3:v1=1
  ·obtain ⟨v4,k5,s5,⟨hv4,hk4⟩,hM4⟩:=bG code k2 s2 [0,9,3,4] (by omega) (by simp) (by simp);refine⟨⟨v0.count,v4,v0.attitude,v0.tincture⟩,k5,s5,by omega,?_⟩;refine ac.of cZ (by simp) rfl (by simp) ?_;simp[aO,aF,aG,aH,aI,aV,dz,aN,c2,c3];refine ae (ac.ag hM0) ?_;simp[aO,aF,aG,aH,aI,aV,dz,aN,c2,c3];refine ae (ac.ag hM1) ?_;simp[aO,aF,aG,aH,aI,aV,dz,aN,c2,c3];refine bL [1000000] [17] (ac.ag hM4) ?_;simp[aO,aF,aG,aH,aI,aV,dz,aN,c2,c3]
  ·by_cases c4:v1=2
   ·obtain ⟨v5,k6,s6,⟨hv5,hk5⟩,hM5⟩:=bG code k2 s2 [0,1,2,3,-1] (by omega) (by simp) (by simp);refine⟨⟨v0.count,v0.kind,v5,v0.tincture⟩,k6,s6,by omega,?_⟩;refine ac.of cZ (by simp) rfl (by simp) ?_;simp[aO,aF,aG,aH,aI,aV,bc,dA,aN,c2,c3,c4];refine ae (ac.ag hM0) ?_;simp[aO,aF,aG,aH,aI,aV,bc,dA,aN,c2,c3,c4];refine ae (ac.ag hM1) ?_;simp[aO,aF,aG,aH,aI,aV,bc,dA,aN,c2,c3,c4];refine bL [1000000] [23] (ac.ag hM5) ?_;simp[aO,aF,aG,aH,aI,aV,bc,dA,aN,c2,c3,c4]
   ·by_cases c5:v1=3
    ·obtain ⟨v6,k7,s7,⟨hv6,hk6⟩,hM6⟩:=bG code k2 s2 [0,10] (by omega) (by simp) (by simp);refine⟨⟨v0.count,v0.kind,v0.attitude,v6⟩,k7,s7,by omega,?_⟩;refine ac.of cZ (by simp) rfl (by simp) ?_;simp[aO,aF,aG,aH,aI,aV,bc,bv,de,aN,c2,c3,c4,c5];refine ae (ac.ag hM0) ?_;simp[aO,aF,aG,aH,aI,aV,bc,bv,de,aN,c2,c3,c4,c5];refine ae (ac.ag hM1) ?_;simp[aO,aF,aG,aH,aI,aV,bc,bv,de,aN,c2,c3,c4,c5];refine bL [1000000] [29] (ac.ag hM6) ?_;simp[aO,aF,aG,aH,aI,aV,bc,bv,de,aN,c2,c3,c4,c5]
    ·by_cases c6:v1=4
     ·refine⟨⟨0,0,0,0⟩,k2,s2,by omega,?_⟩;refine ac.of cZ (by simp) rfl (by simp) ?_;simp[aO,aF,aG,aH,aI,aV,bc,bv,cm,dY,c2,c3,c4,c5,c6];refine ae (ac.ag hM0) ?_;simp[aO,aF,aG,aH,aI,aV,bc,bv,cm,dY,c2,c3,c4,c5,c6];refine ae (ac.ag hM1) ?_;simp[aO,aF,aG,aH,aI,aV,bc,bv,cm,dY,c2,c3,c4,c5,c6]
     ·refine⟨⟨v0.count,v0.kind,v0.attitude,v0.tincture⟩,k2,s2,by omega,?_⟩;refine ac.of cZ (by simp) rfl (by simp) ?_;simp[aO,aF,aG,aH,aI,aV,bc,bv,cm,aN,c2,c3,c4,c5,c6];refine ae (ac.ag hM0) ?_;simp[aO,aF,aG,aH,aI,aV,bc,bv,cm,aN,c2,c3,c4,c5,c6];refine ae (ac.ag hM1) ?_;simp[aO,aF,aG,aH,aI,aV,bc,bv,cm,aN,c2,c3,c4,c5,c6]
theorem km (code:List UInt8) (k:Nat) (s:Int) (hk:k<=1000000000):∃ (r0:Arms) (k':Nat) (s':Int),(k<=k'/\k'<=k+38)/\ie cC [bm code k s] [cR] (dj r0) [some (bm code k' s')]:=by
 obtain ⟨r0,k',s',⟨_,h1⟩,h2⟩:=rc code k s hk;exact⟨r0,k',s',h1,h2⟩
set_option maxHeartbeats 4000000 in
theorem CY (code:List UInt8) (k:Nat) (s:Int) (hk:k<=100000000):∃ (r0:Arms) (k':Nat) (s':Int),(k<=k'/\k'<=k+54)/\ie gS [bm code k s] [cR] (dj r0) [some (bm code k' s')]:=by
 obtain ⟨v0,k1,s1,hk0,hM0⟩:=km code k s (by omega);obtain ⟨v1,k2,s2,⟨hv1,hk1⟩,hM1⟩:=aK code k1 s1 24 (by omega) (by omega);by_cases c2:v1=0
 ·obtain ⟨v3,k4,s4,hk3,hM3⟩:=zy code k2 s2 (by omega);refine⟨⟨⟨v3.division,v3.line,v3.first,v3.second⟩,v0.ordinary,v0.line,v0.tincture,⟨v0.on.count,v0.on.kind,v0.on.attitude,v0.on.tincture⟩,⟨v0.around.count,v0.around.kind,v0.around.attitude,v0.around.tincture⟩⟩,k4,s4,by omega,?_⟩;refine ac.of cG (by simp) rfl (by simp) ?_;simp[aE,az,aA,aB,aC,dL,ay,c2];refine ae (ac.ag hM0) ?_;simp[aE,az,aA,aB,aC,dL,ay,c2];refine ae (ac.ag hM1) ?_;simp[aE,az,aA,aB,aC,dL,ay,c2];refine ae (ac.ag hM3) ?_;simp[aE,az,aA,aB,aC,dL,ay,c2]
 ·by_cases c3:v1=1
  ·obtain ⟨v4,k5,s5,⟨hv4,hk4⟩,hM4⟩:=bG code k2 s2 [-1,8,0,7] (by omega) (by simp) (by simp);refine⟨⟨⟨v0.field.division,v0.field.line,v0.field.first,v0.field.second⟩,v4,v0.line,v0.tincture,⟨v0.on.count,v0.on.kind,v0.on.attitude,v0.on.tincture⟩,⟨v0.around.count,v0.around.kind,v0.around.attitude,v0.around.tincture⟩⟩,k5,s5,by omega,?_⟩;refine ac.of cG (by simp) rfl (by simp) ?_;simp[aE,az,aA,aB,aC,aJ,dM,ay,c2,c3];refine ae (ac.ag hM0) ?_;simp[aE,az,aA,aB,aC,aJ,dM,ay,c2,c3];refine ae (ac.ag hM1) ?_;simp[aE,az,aA,aB,aC,aJ,dM,ay,c2,c3];refine bL [1000000] [16] (ac.ag hM4) ?_;simp[aE,az,aA,aB,aC,aJ,dM,ay,c2,c3]
  ·by_cases c4:v1=2
   ·obtain ⟨v5,k6,s6,⟨hv5,hk5⟩,hM5⟩:=bG code k2 s2 [-1,5,1] (by omega) (by simp) (by simp);refine⟨⟨⟨v0.field.division,v0.field.line,v0.field.first,v0.field.second⟩,v0.ordinary,v5,v0.tincture,⟨v0.on.count,v0.on.kind,v0.on.attitude,v0.on.tincture⟩,⟨v0.around.count,v0.around.kind,v0.around.attitude,v0.around.tincture⟩⟩,k6,s6,by omega,?_⟩;refine ac.of cG (by simp) rfl (by simp) ?_;simp[aE,az,aA,aB,aC,aJ,aW,dN,ay,c2,c3,c4];refine ae (ac.ag hM0) ?_;simp[aE,az,aA,aB,aC,aJ,aW,dN,ay,c2,c3,c4];refine ae (ac.ag hM1) ?_;simp[aE,az,aA,aB,aC,aJ,aW,dN,ay,c2,c3,c4];refine bL [1000000] [22] (ac.ag hM5) ?_;simp[aE,az,aA,aB,aC,aJ,aW,dN,ay,c2,c3,c4]
   ·by_cases c5:v1=3
    ·obtain ⟨v6,k7,s7,⟨hv6,hk6⟩,hM6⟩:=bG code k2 s2 [0,10,3] (by omega) (by simp) (by simp);refine⟨⟨⟨v0.field.division,v0.field.line,v0.field.first,v0.field.second⟩,v0.ordinary,v0.line,v6,⟨v0.on.count,v0.on.kind,v0.on.attitude,v0.on.tincture⟩,⟨v0.around.count,v0.around.kind,v0.around.attitude,v0.around.tincture⟩⟩,k7,s7,by omega,?_⟩;refine ac.of cG (by simp) rfl (by simp) ?_;simp[aE,az,aA,aB,aC,aJ,aW,a8,dp,ay,c2,c3,c4,c5];refine ae (ac.ag hM0) ?_;simp[aE,az,aA,aB,aC,aJ,aW,a8,dp,ay,c2,c3,c4,c5];refine ae (ac.ag hM1) ?_;simp[aE,az,aA,aB,aC,aJ,aW,a8,dp,ay,c2,c3,c4,c5];refine bL [1000000] [28] (ac.ag hM6) ?_;simp[aE,az,aA,aB,aC,aJ,aW,a8,dp,ay,c2,c3,c4,c5]
    ·by_cases c6:v1=4
     ·obtain ⟨v7,k8,s8,hk7,hM7⟩:=nK code k2 s2 (by omega);refine⟨⟨⟨v0.field.division,v0.field.line,v0.field.first,v0.field.second⟩,v0.ordinary,v0.line,v0.tincture,⟨v7.count,v7.kind,v7.attitude,v7.tincture⟩,⟨v0.around.count,v0.around.kind,v0.around.attitude,v0.around.tincture⟩⟩,k8,s8,by omega,?_⟩;refine ac.of cG (by simp) rfl (by simp) ?_;simp[aE,az,aA,aB,aC,aJ,aW,a8,bp,dq,ay,c2,c3,c4,c5,c6];refine ae (ac.ag hM0) ?_;simp[aE,az,aA,aB,aC,aJ,aW,a8,bp,dq,ay,c2,c3,c4,c5,c6];refine ae (ac.ag hM1) ?_;simp[aE,az,aA,aB,aC,aJ,aW,a8,bp,dq,ay,c2,c3,c4,c5,c6];refine ae (ac.ag hM7) ?_;simp[aE,az,aA,aB,aC,aJ,aW,a8,bp,dq,ay,c2,c3,c4,c5,c6]
     ·by_cases c7:v1=5
      ·obtain ⟨v8,k9,s9,hk8,hM8⟩:=nK code k2 s2 (by omega);refine⟨⟨⟨v0.field.division,v0.field.line,v0.field.first,v0.field.second⟩,v0.ordinary,v0.line,v0.tincture,⟨v0.on.count,v0.on.kind,v0.on.attitude,v0.on.tincture⟩,⟨v8.count,v8.kind,v8.attitude,v8.tincture⟩⟩,k9,s9,by omega,?_⟩;refine ac.of cG (by simp) rfl (by simp) ?_;simp[aE,az,aA,aB,aC,aJ,aW,a8,bp,cd,du,ay,c2,c3,c4,c5,c6,c7];refine ae (ac.ag hM0) ?_;simp[aE,az,aA,aB,aC,aJ,aW,a8,bp,cd,du,ay,c2,c3,c4,c5,c6,c7];refine ae (ac.ag hM1) ?_;simp[aE,az,aA,aB,aC,aJ,aW,a8,bp,cd,du,ay,c2,c3,c4,c5,c6,c7];refine ae (ac.ag hM8) ?_;simp[aE,az,aA,aB,aC,aJ,aW,a8,bp,cd,du,ay,c2,c3,c4,c5,c6,c7]
      ·refine⟨⟨⟨v0.field.division,v0.field.line,v0.field.first,v0.field.second⟩,v0.ordinary,v0.line,v0.tincture,⟨v0.on.count,v0.on.kind,v0.on.attitude,v0.on.tincture⟩,⟨v0.around.count,v0.around.kind,v0.around.attitude,v0.around.tincture⟩⟩,k2,s2,by omega,?_⟩;refine ac.of cG (by simp) rfl (by simp) ?_;simp[aE,az,aA,aB,aC,aJ,aW,a8,bp,cd,ay,c2,c3,c4,c5,c6,c7];refine ae (ac.ag hM0) ?_;simp[aE,az,aA,aB,aC,aJ,aW,a8,bp,cd,ay,c2,c3,c4,c5,c6,c7];refine ae (ac.ag hM1) ?_;simp[aE,az,aA,aB,aC,aJ,aW,a8,bp,cd,ay,c2,c3,c4,c5,c6,c7]
def qG:=[ok 4 (vS [])]
def qH:=[om 5 1,om 6 0,om 7 1,oo 8 (.len false (.t 7)),dK 9 an 6 8,ft 10 1 5 9,bl 11 1 10,om 4 11]
def vr:C:=(sr qG [0,1] (sr qH [4] .ret))
theorem Gx:cE cP vr [(.tmp 4)] 12:=dE func118 rfl
def gw:=[ok 6 (vS [])]
def gx:=[om 9 1,oo 10 (.bin .eql .none (.t 9) (.k (vS [])))]
def kY:=[om 11 2,oo 12 (.slc none (.t 11) none (some (xI 1))),om 6 12]
def kZ:=[om 13 0,om 14 1,oo 15 (.len true (.t 14)),dK 16 an 13 15,om 7 16]
def la:=[om 17 2,om 18 0,om 19 2,oo 20 (.len true (.t 19)),dK 21 an 18 20,oo 22 (.slc none (.t 17) (some (.t 21)) none),oo 23 (.slc none (.t 22) none (some (xI 1))),om 8 23]
def lb:=[om 24 0,oo 25 (.call an [.t 24,xI 3])]
def eS:=[cn 27 .eql 25 0,om 26 27]
def lc:=[om 28 1,om 29 7,oo 30 (.slc none (.t 28) none (some (.t 29))),om 31 8,cI 32 .add 30 31,om 33 1,om 34 7,oo 35 (.slc none (.t 33) (some (.t 34)) none),cI 36 .add 32 35,om 6 36]
def gq:List (List Nat):=[[],[],[0,1],[],[0,1,2,3],[],[],[5,6],[0,1,2,3,4,5,6,7],[0,1,2,3,4,5,6,7,8]]
def gy:=[cn 38 .eql 25 1,om 37 38]
def lf:=[om 39 1,om 40 7,oo 41 (.slc none (.t 39) none (some (.t 40))),om 42 8,cI 43 .add 41 42,om 44 1,om 45 7,fL 46 45 1,oo 47 (.slc none (.t 44) (some (.t 46)) none),cI 48 .add 43 47,om 6 48]
def gu:List (List Nat):=[[],[],[0,1],[],[0,1,2,3],[],[],[6],[5,6,7],[0,1,2,3,4,5,6,7,8],[0,1,2,3,4,5,6,7,8,9]]
def j7:=[om 49 1,om 50 7,oo 51 (.slc none (.t 49) none (some (.t 50))),om 52 1,om 53 7,fL 54 53 1,oo 55 (.slc none (.t 52) (some (.t 54)) none),cI 56 .add 51 55,om 6 56]
def f6:List (List Nat):=[[],[],[0,1],[],[],[4],[3,4,5],[0,1,2,3,4,5,6],[0,1,2,3,4,5,6,7]]
def iy:C:=(sr gw [0,1,2] (ss (sr gx [0,1,2,10] (sc 10 (sr kY [6] .ret) .skip)) (sr kZ [0,1,2,7] (sr la [0,1,7,8] (ss (sr lb [1,7,8,25] (.block 0 (sr eS [1,7,8,25,26] (sc 26 (ss (.regD lc gq [6]) .ret) (sr gy [1,7,8,37] (sc 37 (ss (.regD lf gu [6]) .ret) .skip)))))) (ss (.regD j7 f6 [6]) .ret))))))
theorem lT:cE eV iy [(.tmp 6)] 57:=dE func81 rfl
theorem fI (code:List UInt8) (k:Nat) (s:Int) (l:List (List UInt8)) (hk:k<=100000000000) (h0:0 < l.length) (hl:l.length<=100000) :
  ∃ (v:List UInt8) (k':Nat) (s':Int),(v ∈ l/\(k<=k'/\k'<=k+2))/\ie cP [bm code k s] [cR,.ro 1 (l.map S)] (S v) [some (bm code k' s')]:=by
 obtain ⟨v,k',s',⟨hv,hk'⟩,hM⟩:=aK code k s l.length hk (by omega);obtain ⟨i,rfl⟩:∃ i:Nat,v=i:=⟨v.toNat,by omega⟩;have hi:i < l.length:=by omega
 refine⟨l[i],k',s',⟨List.getElem_mem _,hk'⟩,?_⟩;refine ac.of Gx (by simp) rfl (by simp) ?_;simp[vr,qG,qH];refine ae (ac.ag hM) ?_;simp[hi]
theorem zz (code:List UInt8) (k:Nat) (s:Int) (t with_:List UInt8) (hk:k<=10000000000) (h0:0 < with_.length) (hl:with_.length<=1000) (ht:t.length<=100000) :
  ∃ (v:List UInt8) (k':Nat) (s':Int),(v.length<=t.length+1/\(k<=k'/\k'<=k+6))/\ie eV [bm code k s] [cR,S t,S with_] (S v) [some (bm code k' s')]:=by
 by_cases he:t=[]
 ·refine⟨with_.take 1,k,s,by simp;omega,?_⟩;refine ac.of lT (by simp) rfl (by simp) ?_;simp[iy,gw,gx,kY,he];omega
 ·have htl:0 < t.length:=by
   cases t with
   | nil=>exact absurd rfl he
   | cons a t=>simp
  obtain ⟨v1,k1,s1,⟨hv1,hk1⟩,hM1⟩:=aK code k s t.length (by omega) (by omega);obtain ⟨v2,k2,s2,⟨hv2,hk2⟩,hM2⟩:=aK code k1 s1 with_.length (by omega) (by omega);obtain ⟨v3,k3,s3,⟨hv3,hk3⟩,hM3⟩:=aK code k2 s2 3 (by omega) (by omega);obtain ⟨i,rfl⟩:∃ i:Nat,v1=i:=⟨v1.toNat,by omega⟩;obtain ⟨j,rfl⟩:∃ i:Nat,v2=i:=⟨v2.toNat,by omega⟩
  have main:∀ v:List UInt8,((v3=0/\v=t.take i++(with_.drop j).take 1++t.drop i)\/(v3=1/\v=t.take i++(with_.drop j).take 1++t.drop (i+1))\/((v3≠0/\v3≠1)/\v=t.take i++t.drop (i+1))) ->
    ie eV [bm code k s] [cR,S t,S with_] (S v) [some (bm code k3 s3)]:=by
   intro v hv;refine ac.of lT (by simp) rfl (by simp) ?_;simp[iy,gw,gx,he];simp[kZ];refine ae (ac.ag hM1) ?_;simp[la];refine ae (ac.ag hM2) ?_;simp;refine⟨by omega,by omega,?_⟩;simp[lb];refine ae (ac.ag hM3) ?_;rcases hv with ⟨rfl,rfl⟩ | ⟨rfl,rfl⟩ | ⟨⟨n0,n1⟩,rfl⟩
   ·simp[eS,lc,gq];refine⟨by omega,by omega,by omega,by omega,a7 (by simp[gq]) (by simp),?_⟩;rw[List.take_of_length_le (l:=t.drop i) (by simp),List.take_of_length_le (l:=with_.drop j) (by simp)]
   ·simp[eS,gy,lf,gu];rw[aD (n:=(i:Int)+1) (by omega),show ((i:Int)+1).toNat=i+1 by omega];refine⟨by omega,by omega,by omega,by omega,a7 (by simp[gu]) (by simp),?_⟩;rw[List.take_of_length_le (l:=t.drop (i+1)) (by simp),List.take_of_length_le (l:=with_.drop j) (by simp)]
   ·simp[eS,gy,j7,f6,n0,n1];rw[aD (n:=(i:Int)+1) (by omega),show ((i:Int)+1).toNat=i+1 by omega];refine⟨by omega,by omega,by omega,a7 (by simp[f6]) (by simp),?_⟩;rw[List.take_of_length_le (l:=t.drop (i+1)) (by simp)]
  by_cases c0:v3=0
  ·exact⟨_,_,_,⟨by simp;omega,by omega⟩,main _ (.inl ⟨c0,rfl⟩)⟩
  by_cases c1:v3=1
  ·exact⟨_,_,_,⟨by simp;omega,by omega⟩,main _ (.inr (.inl ⟨c1,rfl⟩))⟩
  ·exact⟨_,_,_,⟨by simp;omega,by omega⟩,main _ (.inr (.inr ⟨⟨c0,c1⟩,rfl⟩))⟩
set_option maxHeartbeats 4000000 in
theorem xj (code:List UInt8) (k:Nat) (s:Int) (a:Arms) (hk:k<=100000000):∃ (b:Arms) (k':Nat) (s':Int),(k<=k'/\k'<=k+50)/\ie fB [bm code k s] [cR,dj a] (dj b) [some (bm code k' s')]:=by
 obtain ⟨v,k1,s1,⟨hv,hk1⟩,hM1⟩:=aK code k s 7 (by omega) (by omega);have hcs:v=0\/v=1\/v=2\/v=3\/v=4\/v=5\/v=6:=by omega
 rcases hcs with rfl | rfl | rfl | rfl | rfl | rfl | rfl
 ·obtain ⟨f,k2,s2,hk2,hM2⟩:=tX code k1 s1 (by omega);refine⟨⟨f,a.ordinary,a.line,a.tincture,a.on,a.around⟩,k2,s2,by omega,?_⟩;refine ac.of cu (by simp) rfl (by simp) ?_;simp[cq,bU,bV,bW];refine ae (ac.ag hM1) ?_;simp[bX,nc];refine ae (ac.ag hM2) ?_;simp[bK]
 ·by_cases ho:0 < a.ordinary
  ·obtain ⟨f,k2,s2,⟨_,hk2⟩,hM2⟩:=eJ code k1 s1 (by omega);refine⟨⟨a.field,a.ordinary,a.line,f,a.on,a.around⟩,k2,s2,by omega,?_⟩;refine ac.of cu (by simp) rfl (by simp) ?_;simp[cq,bU,bV,bW];refine ae (ac.ag hM1) ?_;simp[bX,ck,iI,nd,ho];refine ae (ac.ag hM2) ?_;simp[bK]
  ·refine⟨a,k1,s1,by omega,?_⟩;refine ac.of cu (by simp) rfl (by simp) ?_;simp[cq,bU,bV,bW];refine ae (ac.ag hM1) ?_;simp[bX,ck,iI,bK,ho]
 ·obtain ⟨f,k2,s2,hk2,hM2⟩:=tY code k1 s1 (by omega);refine⟨⟨a.field,a.ordinary,a.line,a.tincture,a.on,f⟩,k2,s2,by omega,?_⟩;refine ac.of cu (by simp) rfl (by simp) ?_;simp[cq,bU,bV,bW];refine ae (ac.ag hM1) ?_;simp[bX,ck,cL,nf];refine ae (ac.ag hM2) ?_;simp[bK]
 ·by_cases ho:0 < a.ordinary
  ·obtain ⟨f,k2,s2,⟨_,hk2⟩,hM2⟩:=aK code k1 s1 7 (by omega) (by omega);refine⟨⟨a.field,1+f,a.line,a.tincture,a.on,a.around⟩,k2,s2,by omega,?_⟩;refine ac.of cu (by simp) rfl (by simp) ?_;simp[cq,bU,bV,bW];refine ae (ac.ag hM1) ?_;simp[bX,ck,cL,cW,gW,l7,ho];refine ae (ac.ag hM2) ?_;simp;rw[aD (by omega)];simp[bK]
  ·refine⟨a,k1,s1,by omega,?_⟩;refine ac.of cu (by simp) rfl (by simp) ?_;simp[cq,bU,bV,bW];refine ae (ac.ag hM1) ?_;simp[bX,ck,cL,cW,gW,bK,ho]
 ·obtain ⟨b,k2,s2,hk2,hM2⟩:=km code k1 s1 (by omega);refine⟨b,k2,s2,by omega,?_⟩;refine ac.of cu (by simp) rfl (by simp) ?_;simp[cq,bU,bV,bW];refine ae (ac.ag hM1) ?_;simp[bX,ck,cL,cW,en,l8];refine ae (ac.ag hM2) ?_;simp[bK]
 ·cases hr:g0 a.around with
  | false =>
    obtain ⟨f,k2,s2,⟨_,hk2⟩,hM2⟩:=aK code k1 s1 6 (by omega) (by omega);refine⟨⟨a.field,a.ordinary,a.line,a.tincture,a.on,⟨1+f,a.around.kind,a.around.attitude,a.around.tincture⟩⟩,k2,s2,by omega,?_⟩;refine ac.of cu (by simp) rfl (by simp) ?_;simp[cq,bU,bV,bW];refine ae (ac.ag hM1) ?_;simp[bX,ck,cL,cW,en,fo,gX];refine al (aa.ag (iT a.around)) ?_;simp[hr,l9];refine ae (ac.ag hM2) ?_;simp;rw[aD (by omega)];simp[bK]
  | true =>
    refine⟨a,k1,s1,by omega,?_⟩;refine ac.of cu (by simp) rfl (by simp) ?_;simp[cq,bU,bV,bW];refine ae (ac.ag hM1) ?_;simp[bX,ck,cL,cW,en,fo,gX];refine al (aa.ag (iT a.around)) ?_;simp[hr,bK]
 ·refine⟨a,k1,s1,by omega,?_⟩;refine ac.of cu (by simp) rfl (by simp) ?_;simp[cq,bU,bV,bW];refine ae (ac.ag hM1) ?_;simp[bX,ck,cL,cW,en,fo,bK]
structure RegSt where
 l:List Grant
 year:Int
 num:Int
 k:Nat
 s:Int
def N8:List (List UInt8):=[[65,115,104,101],[66,114,111,111,107],[67,111,108,101],[68,117,110,110]]
def VI (code:List UInt8) (a:Arms) (u v:RegSt):Prop:=∃ (b0:Arms) (ka:Nat) (sa:Int) (o:Bool) (kb:Nat) (sb:Int) (b1:Arms) (kc:Nat) (sc:Int),
 ie fB [bm code u.k u.s] [cR,dj a] (dj b0) [some (bm code ka sa)] /\
 ie bz [bm code ka sa] [cR,I 2] (B o) [some (bm code kb sb)] /\
 ((o=false/\b1=b0/\kc=kb/\sc=sb)\/(o=true/\ie cC [bm code kb sb] [cR] (dj b1) [some (bm code kc sc)])) /\
 ((0 < (yd u.l b1 (List.length u.l)).length/\v=⟨u.l,u.year,u.num,kc,sc⟩) \/
  ((yd u.l b1 (List.length u.l)).length=0/\∃ (p:Int) (kd:Nat) (sd:Int) (q:Int) (ke:Nat) (se:Int) (n:List UInt8) (kf:Nat) (sf:Int),((0<=p/\p < 20)/\(0<=q/\q < 2)) /\
   ie an [bm code kc sc] [cR,I 20] (I p) [some (bm code kd sd)] /\
   ie an [bm code kd sd] [cR,I 2] (I q) [some (bm code ke se)] /\
   ie cP [bm code ke se] [cR,.ro 1 (N8.map S)] (S n) [some (bm code kf sf)] /\
   v=⟨u.l++[⟨u.num+1+q,n,u.year+p,b1⟩],u.year+p,u.num+1+q,kf,sf⟩))
theorem Vj (code:List UInt8) (a:Arms) (u:RegSt) (hu:u.k<=10000000):∃ v,VI code a u v/\(List.length v.l<=List.length u.l+1/\(u.year<=v.year/\v.year<=u.year+20)/\(u.num<=v.num/\v.num<=u.num+2)/\(u.k<=v.k/\v.k<=u.k+120)/\∀ g ∈ v.l,g ∈ u.l\/g.number=v.num):=by
 obtain ⟨b0,ka,sa,h1,hM1⟩:=xj code u.k u.s a (by omega);obtain ⟨o,kb,sb,h2,hM2⟩:=dh code ka sa 2 (by omega) (by omega)
 obtain ⟨b1,kc,sc,h3,hk3⟩:∃ (b1:Arms) (kc:Nat) (sc:Int),((o=false/\b1=b0/\kc=kb/\sc=sb)\/(o=true/\ie cC [bm code kb sb] [cR] (dj b1) [some (bm code kc sc)]))/\(kb<=kc/\kc<=kb+38):=by
  cases o with
  | false=>exact⟨b0,kb,sb,.inl ⟨rfl,rfl,rfl,rfl⟩,by omega⟩
  | true =>
    obtain ⟨b1,kc,sc,h3,hM3⟩:=km code kb sb (by omega);exact⟨b1,kc,sc,.inr ⟨rfl,hM3⟩,h3⟩
 by_cases hc:(yd u.l b1 (List.length u.l)).length=0
 ·obtain ⟨p,kd,sd,⟨hp,h4⟩,hM4⟩:=aK code kc sc 20 (by omega) (by omega);obtain ⟨q,ke,se,⟨hq,h5⟩,hM5⟩:=aK code kd sd 2 (by omega) (by omega);obtain ⟨n,kf,sf,⟨_,h6⟩,hM6⟩:=fI code ke se N8 (by omega) (by simp[N8]) (by simp[N8])
  exact⟨⟨u.l++[⟨u.num+1+q,n,u.year+p,b1⟩],u.year+p,u.num+1+q,kf,sf⟩,⟨b0,ka,sa,o,kb,sb,b1,kc,sc,hM1,hM2,h3,.inr ⟨hc,p,kd,sd,q,ke,se,n,kf,sf,by omega,hM4,hM5,hM6,rfl⟩⟩,
   by simp,by dsimp only;omega,by dsimp only;omega,by dsimp only;omega,fun g hg=>by
    rcases List.mem_append.1 hg with h | h
    ·exact .inl h
    ·exact .inr (by rw[List.mem_singleton.1 h])⟩
 ·exact⟨⟨u.l,u.year,u.num,kc,sc⟩,⟨b0,ka,sa,o,kb,sb,b1,kc,sc,hM1,hM2,h3,.inl ⟨by omega,rfl⟩⟩,by simp,by dsimp only;omega,by dsimp only;omega,by dsimp only;omega,fun g hg=>.inl hg⟩
def sL (l:aT):Prop:=∀ g ∈ l,0<=g.number/\g.number<=2000
def uQ (code:List UInt8) (ul:aT) (uy un:Int) (N j:Nat) (a b1:Arms) (kc:Nat) (sc:Int):AS :=
 ⟨[(0,cR),(2,.ref 2 0 0),(3,.ref 3 0 0),(4,I uy),(5,I un),(6,.ref 6 0 0),(7,I ((N:Int) - j)),(8,.ref 8 0 0)],[(1000000,bm code kc sc),(2,⟨1,[.agg [.v (.slice none 0 0)]]⟩),(3,⟨1,[.agg [.sl 9 0 (List.length ul)]]⟩),(9,⟨18,List.map bd ul⟩),(6,⟨15,[dj a]⟩),(8,⟨15,[dj b1]⟩)],[1000000]⟩
set_option maxHeartbeats 4000000 in
theorem kn (code:List UInt8) (k:Nat) (s:Int) (hk:k<=1000000):∃ (l:aT) (k':Nat) (s':Int),((List.length l<=6/\sL l)/\(k<=k'/\k'<=k+1000)) /\
  ie ez [bm code k s] [cR] (ly l) [some (bm code k' s')]:=by
 obtain ⟨y,k1,s1,⟨hy,hk1⟩,hM1⟩:=aK code k s 100 (by omega) (by omega);obtain ⟨a,k2,s2,hk2,hM2⟩:=km code k1 s1 (by omega);obtain ⟨c,k3,s3,⟨hc,hk3⟩,hM3⟩:=aK code k2 s2 6 (by omega) (by omega);obtain ⟨N,rfl⟩:∃ N:Nat,c=N:=⟨c.toNat,by omega⟩
 obtain ⟨t,ht0,htok,htR⟩:=vG (R:=VI code a) (ok:=fun n u=>List.length u.l<=n/\(1500<=u.year/\u.year<=1600+20 * (n:Int))/\(0<=u.num/\u.num<=2 * (n:Int))/\(k3<=u.k/\u.k<=k3+120 * n)/\sL u.l) ⟨[],1500+y,0,k3,s3⟩ N ⟨by simp,by dsimp only;omega,by dsimp only;omega,by dsimp only;omega,by simp[sL]⟩
  (fun n u hn hu=>by
   obtain ⟨v,h1,h2,h3,h4,h5,h6⟩:=Vj code a u (by omega);refine⟨v,h1,by omega,by omega,by omega,by omega,fun g hg=>?_⟩;rcases h6 g hg with h | h
   ·exact hu.2.2.2.2 g h
   ·omega)
 have htN:=htok N (by omega);refine⟨(t N).l,(t N).k,(t N).s,⟨⟨by omega,htN.2.2.2.2⟩,by omega⟩,?_⟩;refine ac.of rS (by simp) rfl (by simp) ?_;simp[kv,jh,ji,jj];refine ae (ac.ag hM1) ?_;simp;rw[aD (by omega)];simp[jk];refine ae (ac.ag hM2) ?_;simp[jl];refine ae (ac.ag hM3) ?_;simp
 refine dl (fun j:Nat=>⟨[(0,cR),(2,.ref 2 0 0),(3,.ref 3 0 0),(4,I (t j).year),(5,I (t j).num),(6,.ref 6 0 0),(7,I ((N:Int) - j))],[(1000000,bm code (t j).k (t j).s),(2,⟨1,[.agg [.v (.slice none 0 0)]]⟩),(3,⟨1,[.agg [.sl 9 0 (t j).l.length]]⟩),(9,⟨18,(t j).l.map bd⟩),(6,⟨15,[dj a]⟩)],[1000000]⟩)
  (fun j=>N - j) (fun j=>j<=N) 0 (Wk.list rfl (by simp[ht0]) (by simp[ht0])) (by simp) ?_
 intro j hj K hN hR hE;obtain ⟨hul,huy,hun,huk,_⟩:=htok j hj;simp[ii,jm];refine⟨fun hlt=>?_,fun hge=>?_⟩
 ·obtain ⟨b0,ka,sa,o,kb,sb,b1,kc,sc,hMa,hMb,harm,hend⟩:=htR j hlt;obtain ⟨u,hu⟩:∃ u,t j=u:=⟨_,rfl⟩;obtain ⟨v,hv⟩:∃ v,t (j+1)=v:=⟨_,rfl⟩;rw[hu] at hul huy hun huk hMa hend ⊢;rw[hv] at hend;obtain ⟨ul,uy,un,uk,us⟩:=u;dsimp only at hul huy hun huk hMa hend ⊢;simp[jn];refine ae (ac.ag hMa) ?_;simp[jo];refine ae (ac.ag hMb) ?_;have hcnt:=amW ul b1 (List.length ul);rcases harm with ⟨rfl,rfl,rfl,rfl⟩ | ⟨rfl,hMc⟩
  case' inl =>
   simp;refine cp (uQ code ul uy un N j a b1 kc sc) (Wk.list rfl (by simp[uQ]) (by simp[uQ])) ?_
  case' inr =>
   simp[jp];refine ae (ac.ag hMc) ?_;simp;refine cp (uQ code ul uy un N j a b1 kc sc) (Wk.list rfl (by simp[uQ]) (by simp[uQ])) ?_
  all_goals
   have hcf:=LJ ul b1 (by omega);simp[uQ,jq];refine aZ (aa.at hcf) ?_;rcases hend with ⟨hpos,rfl⟩ | ⟨hzero,p,kd,sd,q,ke,se,n,kf,sf,⟨hp,hq⟩,hMd,hMe,hMf,rfl⟩
   ·simp[show (0:Int) < (yd ul b1 (List.length ul)).length by omega,hpos];simp[fj];rw[aD (by omega)];refine hN (j+1) _ (by omega) (by omega) (Wk.list rfl ?_ ?_)
    ·simp[hv];omega
    ·simp[hv]
   ·simp[show ¬(0:Int) < (yd ul b1 (List.length ul)).length by omega,hzero];simp[ip];refine ae (ac.ag hMd) ?_;simp;rw[aD (n:=uy+p) (by omega)];simp[iq];refine ae (ac.ag hMe) ?_;simp;rw[aD (n:=un+1) (by omega),aD (n:=un+1+q) (by omega)];simp[ir,fg];simp only[N8,List.map_cons,List.map_nil] at hMf;refine mI [1000000] [47] (ac.ag hMf) ?_;simp;refine⟨by unfold bR;omega,a7 (by simp[fg]) (by simp),?_⟩;simp[fj];rw[aD (by omega)];refine hN (j+1) _ (by omega) (by omega) (Wk.trans (Wk.ren 53 9 (by decide) (by simp)) (Wk.list rfl ?_ ?_))
    ·simp[AS.ren,ren,reN,hv];omega
    ·simp[AS.ren,ren,reN,ad3,hv]
 ·obtain rfl:j=N:=by omega
  refine hE _ _ ?_;simp only[cv];simp[iu]
def zed (n:Nat):Grant:=⟨100+(n:Int),[90,101,100],2900,⟨⟨0,0,1+(n:Int).tmod 9,0⟩,0,0,0,⟨0,0,0,0⟩,⟨1+(n:Int).tmod 6,4+(n:Int).tmod 5,0,1+(n:Int) / 2⟩⟩⟩
def Ht (n:Nat):List Grant:=(List.range n).map zed
theorem xp (n:Nat):(Ht n).length=n:=by simp[Ht]
theorem acG (n:Nat):Ht (n+1)=Ht n++[zed n]:=by simp only[Ht,List.range_succ,List.map_append,List.map_cons,List.map_nil]
def asW:List (List UInt8):=[[],[97,115,104,101],[65,98,99,100,101,102,103,104,105,106,107,108],[65,98,99,100,101,102,103,104,105,106,107,108,109],[65]]
set_option maxHeartbeats 8000000 in
theorem rb (code:List UInt8) (k:Nat) (s:Int) (hk:k<=100000):∃ (l:aT) (k':Nat) (s':Int),((List.length l<=30/\sL l)/\(k<=k'/\k'<=k+2000)) /\
  ie dW [bm code k s] [cR] (ly l) [some (bm code k' s')]:=by
 obtain ⟨L,k1,s1,⟨⟨hL,hLn⟩,hk1⟩,hM1⟩:=kn code k s (by omega);obtain ⟨w0,k2,s2,⟨hw,hk2⟩,hM2⟩:=aK code k1 s1 (List.length L) (by omega) (by omega);obtain ⟨w,rfl⟩:∃ w:Nat,w0=w:=⟨w0.toNat,by omega⟩;obtain ⟨x,k3,s3,⟨hx,hk3⟩,hM3⟩:=aK code k2 s2 20 (by omega) (by omega);obtain ⟨z0,k4,s4,⟨hz0,hk4⟩,hM4⟩:=bG code k3 s3 [0,1000,1,999] (by omega) (by simp) (by simp);obtain ⟨z1,k5,s5,⟨_,hk5⟩,hM5⟩:=fI code k3 s3 asW (by omega) (by simp[asW]) (by simp[asW]);obtain ⟨z2,k6,s6,⟨_,hk6⟩,hM6⟩:=bG code k3 s3 [999,1000,2999,3000] (by omega) (by simp) (by simp);obtain ⟨z3,k7,s7,hk7,hM7⟩:=CY code k3 s3 (by omega);obtain ⟨gz,hgz⟩:∃ gz,List.getD L 0 Dz=gz:=⟨_,rfl⟩;obtain ⟨z4,k8,s8,hk8,hM8⟩:=xj code k3 s3 gz.arms (by omega)
 obtain ⟨t,ht0,htok,htR⟩:=vG (A:=(Nat×Int)×Int) (R:=fun a b=>(0<=b.2/\b.2 < 2)/\ie an [bm code a.1.1 a.1.2] [cR,I 2] (I b.2) [some (bm code b.1.1 b.1.2)])
  (ok:=fun n a=>k3<=a.1.1/\a.1.1<=k3+2 * n) ((k3,s3),0) 16 (by dsimp only;omega) (fun n a hn ha=>by
   obtain ⟨v,ka,sa,⟨hv,hka⟩,hMv⟩:=aK code a.1.1 a.1.2 2 (by omega) (by omega);exact⟨((ka,sa),v),⟨by dsimp only;omega,hMv⟩,by dsimp only;omega⟩)
 obtain ⟨m,hm,hmstop,hmgo⟩:=aim (p:=fun n=>¬((List.length L:Int)+n < 12+(t (n+1)).2/\n < 14)) (n:=14) (by omega);simp only[asW,List.map_cons,List.map_nil] at hM5
 have main:∀ (l':aT) (k':Nat) (s':Int),((L=[]/\l'=[]/\k'=k1/\s'=s1)\/(∃ g,L[w]?=some g /\
   ((x=0/\l'=L.set w ⟨z0,g.name,g.year,g.arms⟩/\k'=k4/\s'=s4)\/(x=1/\l'=L.set w ⟨g.number,z1,g.year,g.arms⟩/\k'=k5/\s'=s5)\/(x=2/\l'=L.set w ⟨g.number,g.name,z2,g.arms⟩/\k'=k6/\s'=s6) \/
    (x=3/\l'=L.set w ⟨g.number,g.name,g.year,z3⟩/\k'=k7/\s'=s7)\/(x=4/\l'=L.set w ⟨g.number,g.name,g.year,z4⟩/\k'=k8/\s'=s8) \/
    (x=5/\l'=L++Ht m/\k'=(t (m+1)).1.1/\s'=(t (m+1)).1.2)\/((x≠0/\x≠1/\x≠2/\x≠3/\x≠4/\x≠5)/\l'=L.set w g/\k'=k3/\s'=s3)))) ->
   ie dW [bm code k s] [cR] (ly l') [some (bm code k' s')]:=by
  intro l' k' s' hfin;refine ac.of nX (by simp) rfl (by simp) ?_;simp[ig,gA,gB];refine ae (ac.ag hM1) ?_;simp;simp[gC];rcases hfin with ⟨rfl,rfl,rfl,rfl⟩ | ⟨g,hg,hfin⟩
  ·simp[gD]
  have hLn:L≠[]:=by rintro rfl;simp at hg
  have hwl:w < List.length L:=(List.getElem?_eq_some_iff.1 hg).1;have hg':∀ h,L[w]'h=g:=fun h=>by rw[List.getElem_eq_iff];exact hg
  have hLp:0 < List.length L:=by omega
  have hL0:∀ h,L[0]'h=gz:=fun h=>by rw[<- hgz];simp[hLp]
  simp[hLn];simp[gE];refine ae (ac.ag hM2) ?_;simp[gF,hwl,hg'];simp[gG];refine ae (ac.ag hM3) ?_;simp[gH];have hsp:∀ q:Grant,(List.map bd L).set w (bd q)=List.map bd (L.set w q):=fun q=>by rw[List.map_set]
  rcases hfin with ⟨rfl,rfl,rfl,rfl⟩ | ⟨rfl,rfl,rfl,rfl⟩ | ⟨rfl,rfl,rfl,rfl⟩ | ⟨rfl,rfl,rfl,rfl⟩ | ⟨rfl,rfl,rfl,rfl⟩ | ⟨rfl,rfl,rfl,rfl⟩ | ⟨⟨n0,n1,n2,n3,n4,n5⟩,rfl,rfl,rfl⟩
  ·simp[gJ];refine bL [1000000] [29] (ac.ag hM4) ?_;simp[bO,bP,hwl]
  ·simp[bT,f9];refine bL [1000000] [35] (ac.ag hM5) ?_;simp[bO,bP,hwl]
  ·simp[bT,cj,ga];refine bL [1000000] [41] (ac.ag hM6) ?_;simp[bO,bP,hwl]
  ·simp[bT,cj,cD,gb];refine ae (ac.ag hM7) ?_;simp[bO,bP,hwl]
  ·simp[bT,cj,cD,dn,gc,hLp,hL0];refine ae (ac.ag hM8) ?_;simp[bO,bP,hwl]
  ·simp[bT,cj,cD,dn,eu,gd]
   refine dl (fun n:Nat=>⟨[(0,cR),(2,.ref 2 0 0),(3,.ref 3 0 0),(6,I n)],[(1000000,bm code (t n).1.1 (t n).1.2),(3,⟨1,[.agg [.sl 8 0 (List.length L+n)]]⟩),(8,⟨18,List.map bd (L++Ht n)⟩),(2,⟨1,[.agg [.v (.slice none 0 0)]]⟩)],[1000000]⟩) (fun n=>m - n) (fun n=>n<=m) 0
    (Wk.list rfl (by simp) (by simp[ht0,Ht])) (by simp) ?_
   intro n hn K hN hR hE;obtain ⟨hv,hMv⟩:=htR n (by omega);have hmg:=hmgo n;simp[f8,gf,dm];refine mI [1000000] [] (ac.ag hMv) ?_;simp;rw[aD (n:=12+(t (n+1)).2) (by omega)];have hend:¬((List.length L:Int)+n < 12+(t (n+1)).2/\n < 14)->n=m:=fun h=>Classical.byContradiction fun hc=>hmg (by omega) h;refine⟨fun h1=>⟨a7 (by simp[dm]) (by simp),fun h2=>?_,fun h2=>?_⟩,fun h1=>⟨a7 (by simp[dm]) (by simp),?_⟩⟩
   ·have hnm:n < m:=Classical.byContradiction fun hc=>by
     obtain rfl:n=m:=by omega
     exact hmstop ⟨h1,by omega⟩
    have e9:0<=(n:Int).tmod 9/\(n:Int).tmod 9 < 9:=⟨Int.tmod_nonneg _ (by omega),Int.tmod_lt_of_pos _ (by omega)⟩;have e6:0<=(n:Int).tmod 6/\(n:Int).tmod 6 < 6:=⟨Int.tmod_nonneg _ (by omega),Int.tmod_lt_of_pos _ (by omega)⟩;have e5:0<=(n:Int).tmod 5/\(n:Int).tmod 5 < 5:=⟨Int.tmod_nonneg _ (by omega),Int.tmod_lt_of_pos _ (by omega)⟩;have hzs:=acG n;have hzl:=xp n;simp[gg,gh,hzl];have ht2:List.take (List.length L+n) (List.map bd L++List.map bd (Ht n))=List.map bd L++List.map bd (Ht n):=List.take_of_length_le (by simp[hzl]);rw[ht2,aD (n:=(n:Int) / 2) (by omega),aD (n:=1+(n:Int) / 2) (by omega),aD (n:=100+(n:Int)) (by omega),aD (n:=1+(n:Int).tmod 9) (by omega),aD (n:=1+(n:Int).tmod 6) (by omega),aD (n:=4+(n:Int).tmod 5) (by omega),aD (n:=(n:Int)+1) (by omega)];refine⟨by unfold bR;omega,?_⟩;refine hN (n+1) _ (by omega) (by omega) (Wk.trans (Wk.ren 95 8 (by decide) (by simp)) (Wk.list rfl ?_ ?_))
    ·simp[AS.ren,ren,reN]
    ·simp[AS.ren,ren,reN,ad3,hzs,zed];omega
   ·obtain rfl:=hend (by omega);refine hE _ _ ?_;simp only[cv];simp[ew,xp]
   ·obtain rfl:=hend (by omega);refine hE _ _ ?_;simp only[cv];simp[ew,xp]
  ·simp[bT,cj,cD,dn,eu,bO,bP,n0,n1,n2,n3,n4,n5,hwl]
 by_cases hL0:L=[]
 ·exact⟨_,_,_,⟨⟨by simp,by simp[sL]⟩,by omega⟩,main [] _ _ (.inl ⟨hL0,rfl,rfl,rfl⟩)⟩
 have hwl:w < List.length L:=by have:=List.length_pos_iff.2 hL0;omega
 have hg:=List.getElem?_eq_getElem hwl;have hgn:=hLn L[w] (List.getElem_mem hwl);have hb0:0<=z0/\z0<=2000:=by simp at hz0;omega
 have hset:∀ q:Grant,0<=q.number/\q.number<=2000->List.length (L.set w q)<=30/\sL (L.set w q):=fun q hq=>⟨by rw[List.length_set];omega,fun g hg=>by
  rcases List.mem_or_eq_of_mem_set hg with h | rfl
  ·exact hLn g h
  ·exact hq⟩
 by_cases c0:x=0
 ·exact⟨_,_,_,⟨hset _ hb0,by omega⟩,main _ _ _ (.inr ⟨_,hg,.inl ⟨c0,rfl,rfl,rfl⟩⟩)⟩
 by_cases c1:x=1
 ·exact⟨_,_,_,⟨by exact hset _ hgn,by omega⟩,main _ _ _ (.inr ⟨_,hg,.inr (.inl ⟨c1,rfl,rfl,rfl⟩)⟩)⟩
 by_cases c2:x=2
 ·exact⟨_,_,_,⟨by exact hset _ hgn,by omega⟩,main _ _ _ (.inr ⟨_,hg,.inr (.inr (.inl ⟨c2,rfl,rfl,rfl⟩))⟩)⟩
 by_cases c3:x=3
 ·exact⟨_,_,_,⟨by exact hset _ hgn,by omega⟩,main _ _ _ (.inr ⟨_,hg,.inr (.inr (.inr (.inl ⟨c3,rfl,rfl,rfl⟩)))⟩)⟩
 by_cases c4:x=4
 ·exact⟨_,_,_,⟨by exact hset _ hgn,by omega⟩,main _ _ _ (.inr ⟨_,hg,.inr (.inr (.inr (.inr (.inl ⟨c4,rfl,rfl,rfl⟩))))⟩)⟩
 by_cases c5:x=5
 ·have h2:=htok (m+1) (by omega);refine⟨_,_,_,⟨⟨by rw[List.length_append,xp];omega,fun g hg'=>?_⟩,by omega⟩,main _ _ _ (.inr ⟨_,hg,.inr (.inr (.inr (.inr (.inr (.inl ⟨c5,rfl,rfl,rfl⟩)))))⟩)⟩;rcases List.mem_append.1 hg' with h | h
  ·exact hLn g h
  ·obtain ⟨j,hj,rfl⟩:=List.mem_map.1 h;have:=List.mem_range.1 hj;simp only[zed];omega
 ·exact⟨_,_,_,⟨by exact hset _ hgn,by omega⟩,main _ _ _ (.inr ⟨_,hg,.inr (.inr (.inr (.inr (.inr (.inr ⟨⟨c0,c1,c2,c3,c4,c5⟩,rfl,rfl,rfl⟩)))))⟩)⟩
theorem j8 (code:List UInt8) (k:Nat) (s:Int) (l:aT) (hk:k<=1000000000) (hl:List.length l<=1000) (hn:sL l):∃ (n:Int) (k':Nat) (s':Int),((0<=n/\n<=2000)/\(k<=k'/\k'<=k+4)) /\
  ie dX [bm code k s] [cR,bn l] (I n) [some (bm code k' s')]:=by
 by_cases h0:l=[]
 ·obtain ⟨p,k1,s1,⟨hp,hk1⟩,hM1⟩:=aK code k s 12 (by omega) (by omega);refine⟨p,k1,s1,⟨by omega,by omega⟩,?_⟩;refine ac.of eM (by simp) rfl (by simp) ?_;simp[dV,dG,dH,eH,h0];refine ae (ac.ag hM1) ?_;simp
 ·have hpos:=List.length_pos_iff.2 h0;have hpos':¬(List.length l:Int)=0:=by omega
  obtain ⟨o,k1,s1,hk1,hM1⟩:=dh code k s 8 (by omega) (by omega);cases o with
  | true =>
    obtain ⟨p,k2,s2,⟨hp,hk2⟩,hM2⟩:=aK code k1 s1 12 (by omega) (by omega);refine⟨p,k2,s2,⟨by omega,by omega⟩,?_⟩;refine ac.of eM (by simp) rfl (by simp) ?_;simp[dV,dG,dH,h0];refine ae (ac.ag hM1) ?_;simp[eH];refine ae (ac.ag hM2) ?_;simp
  | false =>
    obtain ⟨p,k2,s2,⟨hp,hk2⟩,hM2⟩:=aK code k1 s1 (List.length l) (by omega) (by omega);obtain ⟨w,rfl⟩:∃ w:Nat,p=w:=⟨p.toNat,by omega⟩;have hw:w < List.length l:=by omega
    have hg:=List.getElem?_eq_getElem hw;have hgn:=hn l[w] (List.getElem_mem hw);obtain ⟨g,hge⟩:∃ g,l[w]=g:=⟨_,rfl⟩;have hgE:∀ h,l[w]'h=g:=fun _=>hge;rw[hge] at hg hgn;refine⟨g.number,k2,s2,⟨hgn,by omega⟩,?_⟩;refine ac.of eM (by simp) rfl (by simp) ?_;simp[dV,dG,dH,h0];refine ae (ac.ag hM1) ?_;simp[gK,eG];refine mI [1000000] [] (ac.ag hM2) ?_;simp[hw,hg,hgE];exact a7 (by simp[eG]) (by simp)
def qh:List (List UInt8):=[[65,115,104,101],[66,114,111,111,107],[67,111,108,101],[69,103,97,110],[120]]
def Ep:List (List UInt8):=[[108,105,115,116],[108,105,115,116],[],[119,104,97,116],[103,114,97,110,116],[103,114,97,110,116,32,65,115,104,101],[115,104,111,119],[115,104,111,119,32,120],[116,101,120,116],[111,102],[97,64,98],[108,105,115,116,32,49],[100,105,102,102,101,114,32,49]]
theorem uo (n:Int) (h:0<=n/\n<=2000):(Lib.itoa n).length<=7:=aas ⟨by omega,by omega⟩
set_option maxHeartbeats 8000000 in
theorem jG (code:List UInt8) (k:Nat) (s:Int) (c:Console) (hk:k<=10000000) (hl:List.length c.grants<=1000) (hn:sL c.grants):∃ (t:List UInt8) (k':Nat) (s':Int),(t.length<=400/\(k<=k'/\k'<=k+100)) /\
  ie cA [bm code k s] [cR,co c] (S t) [some (bm code k' s')]:=by
 obtain ⟨n,k1,s1,⟨hnn,hk1⟩,hM1⟩:=j8 code k s c.grants (by omega) hl hn;obtain ⟨nm,k2,s2,⟨hnm,hk2⟩,hM2⟩:=fI code k1 s1 qh (by omega) (by simp[qh]) (by simp[qh]);obtain ⟨q,k3,s3,⟨hq,hk3⟩,hM3⟩:=Fj code k2 s2 (by omega)
 have hnl:nm.length<=5:=by
  have:∀ x ∈ qh,x.length<=5:=by decide
  exact this nm hnm
 have hql:=aeb q
 obtain ⟨T,k5,s5,hT,hk5,hbr⟩:∃ (T:List UInt8) (k5:Nat) (s5:Int),T.length<=300/\(k3<=k5/\k5<=k3+4)/\((c.grants=[]/\T=bH q/\k5=k3/\s5=s3) \/
   (c.grants≠[]/\ie bz [bm code k3 s3] [cR,I 2] (B false) [some (bm code k5 s5)]/\T=bH q) \/
   (c.grants≠[]/\∃ (k4:Nat) (s4:Int) (w:Nat) (g:Grant),ie bz [bm code k3 s3] [cR,I 2] (B true) [some (bm code k4 s4)]/\ie an [bm code k4 s4] [cR,I (List.length c.grants)] (I w) [some (bm code k5 s5)] /\
    c.grants[w]?=some g/\T=if arms g.arms=true then nL g.arms else bH q)):=by
  by_cases h0:c.grants=[]
  ·exact⟨bH q,k3,s3,by omega,by omega,.inl ⟨h0,rfl,rfl,rfl⟩⟩
  ·obtain ⟨o,k4,s4,hk4,hM4⟩:=dh code k3 s3 2 (by omega) (by omega);cases o with
   | false=>exact⟨bH q,k4,s4,by omega,by omega,.inr (.inl ⟨h0,hM4,rfl⟩)⟩
   | true =>
     have hpos:=List.length_pos_iff.2 h0;obtain ⟨p,k5,s5,⟨hp,hk5⟩,hM5⟩:=aK code k4 s4 (List.length c.grants) (by omega) (by omega);obtain ⟨w,rfl⟩:∃ w:Nat,p=w:=⟨p.toNat,by omega⟩;have hw:w < List.length c.grants:=by omega
     refine⟨if arms c.grants[w].arms=true then nL c.grants[w].arms else bH q,k5,s5,?_,by omega,.inr (.inr ⟨h0,k4,s4,w,c.grants[w],hM4,hM5,List.getElem?_eq_getElem hw,rfl⟩)⟩;have:=S4 c.grants[w].arms;split<;>omega
 obtain ⟨v,k6,s6,⟨hv,hk6⟩,hM6⟩:=aK code k5 s5 12 (by omega) (by omega);obtain ⟨p,k7,s7,⟨hp,hk7⟩,hM7⟩:=aK code k6 s6 20 (by omega) (by omega);obtain ⟨m,k8,s8,⟨hm,hk8⟩,hM8⟩:=j8 code k6 s6 c.grants (by omega) hl hn;obtain ⟨od,k9,s9,⟨hod,hk9⟩,hM9⟩:=fI code k6 s6 Ep (by omega) (by simp[Ep]) (by simp[Ep])
 have hol:od.length<=20:=by
  have:∀ x ∈ Ep,x.length<=20:=by decide
  exact this od hod
 have hN:=j9 n (by omega);have hY:=j9 (1700+p) (by omega);have hNm:=j9 m (by omega);have hnt:=uo n hnn;have hmt:=uo m hm;have hyt:=uo (1700+p) (by omega);obtain ⟨nT,hnT⟩:∃ nT,Lib.itoa n=nT:=⟨_,rfl⟩;rw[hnT] at hN hnt;have hTxt:=Vm q hq;simp only[qh,List.map_cons,List.map_nil] at hM2;simp only[Ep,List.map_cons,List.map_nil] at hM9
 have main:∀ (t':List UInt8) (k':Nat) (s':Int),(((v=0\/v=1)/\t'=[103,114,97,110,116,32]++nm++[32]++Lib.itoa (1700+p)++[32]++T/\k'=k7/\s'=s7)\/((v=2)/\t'=[114,101,118,111,107,101,32]++nT/\k'=k6/\s'=s6)\/((v=3)/\t'=[116,114,97,110,115,102,101,114,32]++nT++[32]++nm/\k'=k6/\s'=s6)\/((v=4)/\t'=[115,104,111,119,32]++nT/\k'=k6/\s'=s6)\/((v=5)/\t'=[115,104,111,114,116,32]++nT/\k'=k6/\s'=s6)\/((v=6)/\t'=[111,102,32]++nm/\k'=k6/\s'=s6)\/((v=7)/\t'=[99,111,110,102,108,105,99,116,115,32]++T/\k'=k6/\s'=s6)\/((v=8)/\t'=[102,105,110,100,32]++T/\k'=k6/\s'=s6)\/((v=9)/\t'=[100,105,102,102,101,114,32]++nT++[32]++Lib.itoa m/\k'=k8/\s'=s8)\/((v=10)/\t'=[116,101,120,116,32]++T/\k'=k6/\s'=s6)\/((v≠0/\v≠1/\v≠2/\v≠3/\v≠4/\v≠5/\v≠6/\v≠7/\v≠8/\v≠9/\v≠10)/\t'=od/\k'=k9/\s'=s9)) ->
   ie cA [bm code k s] [cR,co c] (S t') [some (bm code k' s')]:=by
  intro t' k' s' hfin;refine ac.of ui (by simp) rfl (by simp) ?_;simp[lR,jP,jQ,jR];refine ae (ac.ag hM1) ?_;simp;refine al (aa.ag hN) ?_;simp[jS];refine bL [1000000] [18] (ac.ag hM2) ?_;simp[jT];refine ae (ac.ag hM3) ?_;simp[cy,jU];refine al (aa.arg hTxt (by simp[cy,List.take_of_length_le])) ?_;simp[jV];rcases hbr with ⟨h0,hTe,hk53,hs53⟩ | ⟨h0,hMo,hTe⟩ | ⟨h0,k4,s4,w,g,hMo,hMp,hg,hTe⟩
  focus
   simp[h0];refine cp ⟨[(0,cR),(5,.ref 5 0 0),(6,S nT),(7,S nm),(9,S T)],[(1000000,bm code k5 s5),(5,⟨1,[bn c.grants]⟩)],[1000000]⟩ (Wk.list rfl (by simp[hTe]) (by simp[hk53,hs53,h0])) ?_
  rotate_left
  focus
   have hpos:=List.length_pos_iff.2 h0;simp[h0,hpos];refine ae (ac.ag hMo) ?_;simp;refine cp ⟨[(0,cR),(5,.ref 5 0 0),(6,S nT),(7,S nm),(9,S T)],[(1000000,bm code k5 s5),(5,⟨1,[bn c.grants]⟩)],[1000000]⟩ (Wk.list rfl (by simp[hTe]) (by simp)) ?_
  rotate_left
  focus
   have hpos:=List.length_pos_iff.2 h0;have hw:=(List.getElem?_eq_some_iff.1 hg).1;have hgE:∀ h,c.grants[w]'h=g:=fun h=>by rw[List.getElem_eq_iff];exact hg
   simp[h0,hpos];refine ae (ac.ag hMo) ?_;simp[jW,fY];refine mI [1000000] [] (ac.ag hMp) ?_;simp[hw,hg,hgE];refine⟨a7 (by simp[fY]) (by simp),?_⟩;simp[jX];refine al (aa.ag (amp g.arms)) ?_;cases hga:arms g.arms
   focus
    rw[hga,if_neg (by simp)] at hTe;simp;refine cp ⟨[(0,cR),(5,.ref 5 0 0),(6,S nT),(7,S nm),(9,S T)],[(1000000,bm code k5 s5),(5,⟨1,[bn c.grants]⟩)],[1000000]⟩ (Wk.list rfl (by simp[hTe]) (by simp)) ?_
   rotate_left
   focus
    rw[hga,if_pos rfl] at hTe;simp[jY];refine al (aa.ag (acr g.arms hga)) ?_;simp;refine cp ⟨[(0,cR),(5,.ref 5 0 0),(6,S nT),(7,S nm),(9,S T)],[(1000000,bm code k5 s5),(5,⟨1,[bn c.grants]⟩)],[1000000]⟩ (Wk.list rfl (by simp[hTe]) (by simp)) ?_
  rotate_left
  all_goals
   clear hTxt hTe;simp[iY];refine ae (ac.ag hM6) ?_;rcases hfin with ⟨rfl | rfl,rfl,rfl,rfl⟩ | ⟨rfl,rfl,rfl,rfl⟩ | ⟨rfl,rfl,rfl,rfl⟩ | ⟨rfl,rfl,rfl,rfl⟩ | ⟨rfl,rfl,rfl,rfl⟩ | ⟨rfl,rfl,rfl,rfl⟩ | ⟨rfl,rfl,rfl,rfl⟩ | ⟨rfl,rfl,rfl,rfl⟩ | ⟨rfl,rfl,rfl,rfl⟩ | ⟨rfl,rfl,rfl,rfl⟩ | ⟨⟨n0,n1,n2,n3,n4,n5,n6,n7,n8,n9,n10⟩,rfl,rfl,rfl⟩
   ·simp[be,fD]
    repeat (refine⟨by omega,?_⟩)
    refine ae (ac.ag hM7) ?_;simp;rw[aD (n:=1700+p) (by omega)];refine al (aa.ag hY) ?_;simp;omega
   ·simp[be,br,fD]
    repeat (refine⟨by omega,?_⟩)
    refine ae (ac.ag hM7) ?_;simp;rw[aD (n:=1700+p) (by omega)];refine al (aa.ag hY) ?_;simp;omega
   ·simp[be,br,bw,iZ];omega
   ·simp[be,br,bw,bA,i6];omega
   ·simp[be,br,bw,bA,bJ,i7];omega
   ·simp[be,br,bw,bA,bJ,cf,i8];omega
   ·simp[be,br,bw,bA,bJ,cf,cr,ja];omega
   ·simp[be,br,bw,bA,bJ,cf,cr,cK,jb];omega
   ·simp[be,br,bw,bA,bJ,cf,cr,cK,dB,jc];omega
   ·simp[be,br,bw,bA,bJ,cf,cr,cK,dB,ei,jd]
    repeat (refine⟨by omega,?_⟩)
    refine ae (ac.ag hM8) ?_;simp;refine al (aa.ag hNm) ?_;simp;omega
   ·simp[be,br,bw,bA,bJ,cf,cr,cK,dB,ei,fE,je];omega
   ·simp[be,br,bw,bA,bJ,cf,cr,cK,dB,ei,fE,jf,n0,n1,n2,n3,n4,n5,n6,n7,n8,n9,n10];refine bL [1000000] [108] (ac.ag hM9) ?_;simp
 by_cases c0:v=0\/v=1
 ·exact⟨_,_,_,⟨by simp;omega,by omega⟩,main _ _ _ (.inl ⟨c0,rfl,rfl,rfl⟩)⟩
 by_cases c1:v=2
 ·exact⟨_,_,_,⟨by simp;omega,by omega⟩,main _ _ _ (.inr (.inl ⟨c1,rfl,rfl,rfl⟩))⟩
 by_cases c2:v=3
 ·exact⟨_,_,_,⟨by simp;omega,by omega⟩,main _ _ _ (.inr (.inr (.inl ⟨c2,rfl,rfl,rfl⟩)))⟩
 by_cases c3:v=4
 ·exact⟨_,_,_,⟨by simp;omega,by omega⟩,main _ _ _ (.inr (.inr (.inr (.inl ⟨c3,rfl,rfl,rfl⟩))))⟩
 by_cases c4:v=5
 ·exact⟨_,_,_,⟨by simp;omega,by omega⟩,main _ _ _ (.inr (.inr (.inr (.inr (.inl ⟨c4,rfl,rfl,rfl⟩)))))⟩
 by_cases c5:v=6
 ·exact⟨_,_,_,⟨by simp;omega,by omega⟩,main _ _ _ (.inr (.inr (.inr (.inr (.inr (.inl ⟨c5,rfl,rfl,rfl⟩))))))⟩
 by_cases c6:v=7
 ·exact⟨_,_,_,⟨by simp;omega,by omega⟩,main _ _ _ (.inr (.inr (.inr (.inr (.inr (.inr (.inl ⟨c6,rfl,rfl,rfl⟩)))))))⟩
 by_cases c7:v=8
 ·exact⟨_,_,_,⟨by simp;omega,by omega⟩,main _ _ _ (.inr (.inr (.inr (.inr (.inr (.inr (.inr (.inl ⟨c7,rfl,rfl,rfl⟩))))))))⟩
 by_cases c8:v=9
 ·exact⟨_,_,_,⟨by simp;omega,by omega⟩,main _ _ _ (.inr (.inr (.inr (.inr (.inr (.inr (.inr (.inr (.inl ⟨c8,rfl,rfl,rfl⟩)))))))))⟩
 by_cases c9:v=10
 ·exact⟨_,_,_,⟨by simp;omega,by omega⟩,main _ _ _ (.inr (.inr (.inr (.inr (.inr (.inr (.inr (.inr (.inr (.inl ⟨c9,rfl,rfl,rfl⟩))))))))))⟩
 ·exact⟨_,_,_,⟨by omega,by omega⟩,main _ _ _ (.inr (.inr (.inr (.inr (.inr (.inr (.inr (.inr (.inr (.inr ⟨⟨fun e=>c0 (.inl e),fun e=>c0 (.inr e),c1,c2,c3,c4,c5,c6,c7,c8,c9⟩,rfl,rfl,rfl⟩))))))))))⟩
theorem aPT (s:List UInt8):oq s<=s.length:=by
 obtain ⟨_,r,h⟩:=ad2 60 0 s;unfold oq fM
 conv=>rhs;rw[h]
 simp
def abj:=[dD 2 3 (.agg [vS [],vS [],vI 0]),ok 3 (vI 0),ok 4 (vB false)]
def abk:=[om 8 0,oo 9 (.len true (.t 8)),cn 10 .gtr 9 30000]
def abl:=[oo 11 (.build (.agg [vS [],vS [],vI 0]) []),bg 3 2 11,ok 3 (vI 0),ok 4 (vB false)]
def abm:=[om 13 0,cg 14 rE 13,om 12 14,cJ 15 12 0,cJ 16 12 1,om 5 15,om 6 16]
def abn:=[om 17 6,om 18 5,oo 19 (.len false (.t 18)),ft 20 1 17 19,bl 21 1 20,om 7 21]
def abo:=[om 22 0,om 23 7,oo 24 (.slc none (.t 22) none (some (.t 23))),om 25 5,oo 26 (.len false (.t 25)),oo 27 (.build (.agg [vS [],vS [],vI 0]) [(0,(1,(.t 24))),(2,(1,(.t 26)))]),om 28 7,bg 3 2 27,om 3 28,ok 4 (vB true)]
def ahC:C:=(sr abj [0,2] (ss (sr abk [0,2,10] (sc 10 (sr abl [2,3,4] .ret) .skip)) (sr abm [0,2,5,6] (sr abn [0,2,5,7] (sr abo [2,3,4] .ret)))))
theorem aAW:cE TT ahC [(.cell 2 true 3),(.tmp 3),(.tmp 4)] 29:=dE func30 rfl
def sN:=[eF 1 3 0,dD 2 3 (.agg [vS [],vS [],vI 0]),ok 3 (vB false)]
def sO:=[bu 4 3 1,cg 5 ux 4,oo 6 (.un .not (.t 5))]
def sP:=[oo 7 (.build (.agg [vS [],vS [],vI 0]) []),bg 3 2 7,ok 3 (vB false)]
def sQ:=[aL 8 0 1,bl 9 1 8,aL 10 1 1,bl 11 1 10,cI 12 .add 9 11,aL 13 2 1,bl 14 1 13,oo 15 (.build (.agg [vS [],vS [],vI 0]) [(0,(1,(.t 12))),(2,(1,(.t 14)))]),bg 3 2 15,ok 3 (vB true)]
def zD:C:=(sr sN [1,2] (ss (sr sO [1,2,6] (sc 6 (sr sP [2,3] .ret) .skip)) (sr sQ [2,3] .ret)))
theorem Jo:cE qr zD [(.cell 2 true 3),(.tmp 3)] 16:=dE func243 rfl
def yQ:=[eF 1 3 0,ok 2 vN,ok 3 (vB false)]
def yR:=[bu 6 3 1,cg 7 ux 6,oo 8 (.un .not (.t 7))]
def yS:=[oo 9 (.bslice 2 (.agg [vS [],vS []]) 0 []),om 2 9,ok 3 (vB false)]
def yT:=[aL 11 0 1,bl 12 1 11,aL 13 1 1,bl 14 1 13,cI 15 .add 12 14,cg 16 Ix 15,om 10 16,cJ 17 10 0,cJ 18 10 1,om 4 17,om 5 18]
def yU:=[om 19 4,om 2 19,ok 3 (vB true)]
def Ek:C:=(sr yQ [1] (ss (sr yR [1,8] (sc 8 (sr yS [2,3] .ret) .skip)) (sr yT [4] (sr yU [2,3] .ret))))
theorem Pr:cE uw Ek [(.tmp 2),(.tmp 3)] 20:=dE func69 rfl
def m7:=[eF 1 3 0,ok 2 vN,ok 3 (vB false)]
def m8:=[bu 6 3 1,cg 7 qn 6,oo 8 (.un .not (.t 7))]
def m9:=[ok 2 vN,ok 3 (vB false)]
def na:=[aL 10 0 1,bl 11 1 10,aL 12 1 1,bl 13 1 12,cI 14 .add 11 13,cg 15 rE 14,om 9 15,cJ 16 9 0,cJ 17 9 1,om 4 16,om 5 17]
def nb:=[om 18 4,om 2 18,ok 3 (vB true)]
def qb:C:=(sr m7 [1] (ss (sr m8 [1,8] (sc 8 (sr m9 [2,3] .ret) .skip)) (sr na [4] (sr nb [2,3] .ret))))
theorem AY:cE kD qb [(.tmp 2),(.tmp 3)] 19:=dE func42 rfl
def pF (s:List UInt8):Log:=if s.length<=30000 then ⟨s.take (oq s),[],(fM s).length⟩ else ⟨[],[],0⟩
def aDz (s:List UInt8):Int:=if s.length<=30000 then oq s else 0
theorem aGM (s:List UInt8):di TT [S s] (.tup [rA (pF s),I (aDz s),B (decide (s.length<=30000))]):=by
 have hb:=aPT s;refine aa.of aAW (by simp) ?_;simp[ahC,abj,abk];refine⟨fun h=>?_,fun h=>?_⟩
 ·have h':¬s.length<=30000:=by omega
  simp[abl,pF,aDz,h']
 ·have h':s.length<=30000:=by omega
  have hel:=MF (fM s);have heg:=arF (l:=fM s) (j:=(fM s).length) (by omega);rw[List.take_length] at heg;have hN:(hJ 0 (fM s)).length=oq s:=rfl;rw[hN] at heg;simp[abm];refine bB (GD s (by omega)) rfl (.inl (by simp)) (by simp) ?_;simp[abn,hel,heg,show (fM s).length < (HN (fM s)).length by omega];refine⟨by omega,?_⟩;simp[abo,pF,aDz,h'];omega
def FS (l:Log):Log:=if fx l then ⟨l.durable++l.pending,[],l.count⟩ else ⟨[],[],0⟩
theorem aco (l:Log) (hf:iw l):di qr [rA l] (.tup [rA (FS l),B (fx l)]):=by
 have hf':=hf;unfold iw at hf';refine aa.of Jo (by simp) ?_;simp[zD,sN,sO];refine al (aa.ag (LM l hf)) ?_;cases h:fx l with
 | false=>simp[sP,FS,h]
 | true =>
   simp[sQ,FS,h];omega
theorem oV (l:Log):(df l).length<=60:=by
 unfold df;split
 ·exact Fg 60 0 _
 ·simp
theorem ad6 (l:Log) (hf:iw l):di uw [rA l] (.tup [.own 2 ((df l).map dc),B (fx l)]):=by
 have hf':=hf;unfold iw at hf';refine aa.ofN Pr (by simp) ?_;simp[Ek,yQ,yR];refine al (aa.ag (LM l hf)) ?_;cases h:fx l with
 | false=>simp[yS,df,h]
 | true =>
   simp[yT];refine⟨by omega,?_⟩;refine aZ (aa.ag (ane (l.durable++l.pending) (by rw[List.length_append];omega))) ?_;simp[yU,df,h]
theorem JC (l:Log) (hf:iw l):di kD [rA l] (.tup [.own 2 ((df l).map dc),B (fx l)]):=by
 have hf':=hf;unfold iw at hf';refine aa.ofN AY (by simp) ?_;simp[qb,m7,m8];refine al (aa.ag (Fq l hf)) ?_;cases h:fx l with
 | false=>simp[m9,df,h]
 | true =>
   simp[na];refine⟨by omega,?_⟩;refine aZ (aa.ag (GD (l.durable++l.pending) (by rw[List.length_append];omega))) ?_;simp[nb,df,h]
theorem MB {l:Log} {e:LogRecord} (h:mH l e≠0):fc l e=l:=by
 unfold mH at h;rw[fc];split
 ·rename_i hc;simp only[Bool.and_eq_true,Bool.not_eq_true',decide_eq_false_iff_not] at hc;rw[if_pos (by simp[hc.1.1,hc.1.2]),if_neg hc.2] at h;exact absurd rfl h
 ·rfl
theorem aAz (s:List UInt8) (hs:s.length<=30000):fx (pF s)=true/\FS (pF s)=pF s:=by
 have hok:=aud s;have hoe:=ayC hok.1 hok.2;have e:pF s=⟨hJ 0 (fM s),[],(fM s).length⟩:=by rw[pF,if_pos hs,ani]
 have hl:fx (pF s)=true:=by
  rw[Fr,e];dsimp only;rw[List.append_nil,hoe.1,hoe.2];exact⟨by simp,rfl,rfl⟩
 refine⟨hl,?_⟩;rw[FS,if_pos hl,e];simp
def aiJ:=[eF 3 3 0,ok 6 (vS []),ok 7 (vB false)]
def aiK:=[bu 9 3 3,cg 10 qn 9,oo 11 (.un .not (.t 10)),om 12 11,oF 12 13 (.mv (.t 1)),oF 12 14 (.faddr 1 (.t 3)),oF 12 15 (.ld false 1 (.t 14)),oF 12 16 (.len true (.t 15)),oF 12 17 (.call mQ [.t 13,xI 0,.t 16]),oF 12 18 (.un .not (.t 17)),oo 19 (.pick (.t 12) (xB true) (.t 18))]
def Ul:=[ok 6 (vS []),ok 7 (vB false)]
def aiL:=[aL 20 1 3,bl 21 1 20,om 22 1,oo 23 (.slc none (.t 21) none (some (.t 22))),oo 24 (.conv .strBytes (.t 23)),om 8 24]
def Um:=[om 25 2,om 26 25,oT 26 27 (.mv (.t 1)),oT 26 28 (.bin .gtr .none (.t 27) (xI 0)),oo 29 (.pick (.t 26) (.t 28) (xB false))]
def aiM:=[om 30 8,om 31 1,cn 32 .sub 31 1,om 33 8,om 34 1,cn 35 .sub 34 1,ft 36 1 33 35,bl 37 1 36,oo 38 (.bin .sub .none (.k (.v (.int .u8 (255)))) (.t 37)),ft 39 1 30 32,bg 1 39 38]
def EO:=[aL 40 0 3,bl 41 1 40,om 42 8,oo 43 (.conv .bytesStr (.t 42)),cI 44 .add 41 43,om 6 44,ok 7 (vB true)]
def as1:C:=(sr aiJ [1,2,3] (ss (sr aiK [1,2,3,19] (sc 19 (sr Ul [6,7] .ret) .skip)) (sr aiL [1,2,3,8] (ss (sr Um [1,3,8,29] (sc 29 (.reg aiM [3,8]) .skip)) (sr EO [6,7] .ret)))))
theorem aEh:cE ac9 as1 [(.tmp 6),(.tmp 7)] 45:=dE func29 rfl
def acz (t:List UInt8) (b:Bool):List UInt8:=if b then t.set (t.length - 1) (255 - t.getD (t.length - 1) 0) else t
def Jl (l:Log) (n:Int):Bool:=fx l&&fV n 0 l.pending.length
def MD (l:Log) (n:Int) (b:Bool):List UInt8:=if Jl l n then l.durable++acz (l.pending.take n.toNat) b else []
theorem aTU (x:UInt8):IntKind.u8.wrap (255 - (x.toNat:Int))=((255 - x:UInt8).toNat:Int):=by
 have h:=UInt8.toNat_lt x
 have e:(255 - x:UInt8).toNat=255 - x.toNat:=by
  rw[UInt8.toNat_sub];show (2 ^ 8 - x.toNat+255) % 2 ^ 8=255 - x.toNat;omega
 have h1:IntKind.u8.signed=false:=rfl;have h2:IntKind.u8.bits=8:=rfl;rw[e];simp only[IntKind.wrap,h1,h2,Bool.false_and,Bool.false_eq_true,if_false];omega
theorem aKM (l:Log) (n:Int) (b:Bool) (hf:iw l):di ac9 [rA l,I n,B b] (.tup [S (MD l n b),B (Jl l n)]):=by
 refine aa.of aEh (by simp) ?_;simp[as1,aiJ,aiK];refine al (aa.ag (Fq l hf)) ?_;cases h1:fx l with
 | false=>simp[Ul,MD,Jl,h1]
 | true =>
 simp;refine al (vE ..) ?_;cases h2:fV n 0 l.pending.length with
 | false=>simp[Ul,MD,Jl,h1,h2]
 | true =>
 have h2':=db.1 h2;have hfl:=hf;unfold iw at hfl;obtain ⟨k,rfl⟩:∃ k:Nat,n=k:=⟨n.toNat,by omega⟩;simp[aiL];refine⟨by omega,?_⟩;have hTl:(l.pending.take k).length=k:=by rw[List.length_take];omega
 have hT:MD l k b=l.durable++acz (l.pending.take k) b:=by simp[MD,Jl,h1,h2]
 have hO:Jl l k=true:=by simp[Jl,h1,h2]
 rw[hT,hO];by_cases hk:k=0
 ·subst hk;simp[Um];cases b with
  | false =>
    simp[EO,acz];omega
  | true =>
    simp[EO,acz];omega
 ·have hpn:l.pending≠[]:=by
   intro e;rw[e] at h2';simp at h2';omega
  rw[if_neg (by simp[hk,hpn]),<- List.map_take,Nat.min_eq_left (by omega)];generalize l.pending.take k=t at hTl ⊢;simp[Um];cases b with
  | false =>
    simp[EO];rw[if_pos (by omega)];simp[acz];rw[List.take_of_length_le (by simp;omega),axO];simp[acz];omega
  | true =>
    have hk1:k - 1 < t.length:=by omega
    have hset:acz t true=t.set (k - 1) (255 - t[k - 1]):=by
     have:t.getD (k - 1) 0=t[k - 1]:=by simp[hk1]
     rw[acz,if_pos rfl,hTl,this]
    simp[aiM];refine⟨fun _=>?_,fun h0=>absurd h0 hk⟩;rw[aD (n:=(k:Int) - 1) (by omega),show ((k:Int) - 1).toNat=k - 1 by omega];refine⟨by omega,?_⟩;simp[hk1];refine⟨by omega,?_⟩;rw[aTU,<- List.map_set,hset];simp[EO];rw[if_pos (by omega)];simp;rw[<- List.map_set,List.take_of_length_le (by simp;omega),axO];simp;omega
theorem aGc {k:Nat} {a r:List UInt8} {e:LogRecord} (h:px k a=some e):px k (a++r)=some e:=by
 obtain ⟨h1,r',rfl⟩:=vy.1 h;exact vy.2 ⟨h1,r'++r,by simp⟩
theorem aGb {k:Nat} {a:List UInt8} {y:UInt8} {e:LogRecord} (hy:y≠10) (h:px k (a++[y])=some e):∃ r,a=Dy k e++10::r/\px k a=some e:=by
 obtain ⟨h1,r,hr⟩:=vy.1 h;rcases List.eq_nil_or_concat r with rfl | ⟨r',z,rfl⟩
 ·have:(a++[y]).getLast?=(Dy k e++[10]).getLast?:=by rw[hr]
  simp at this;exact absurd this hy
 ·have h2:a++[y]=(Dy k e++10::r')++[z]:=by rw[hr];simp
  have h3:=(List.append_inj' h2 rfl).1;exact⟨r',h3,vy.2 ⟨h1,r',h3⟩⟩
theorem axh:∀ (n k:Nat) (a r:List UInt8),∃ w,CX n k (a++r)=CX n k a++w
 | 0,k,a,r=>⟨[],rfl⟩
 | n+1,k,a,r=>by
   cases h:px k a with
   | none=>exact⟨CX (n+1) k (a++r),by rw[CX.eq_def (n+1) k a];simp only[h,List.nil_append]⟩
   | some e =>
     obtain ⟨h1,r',rfl⟩:=vy.1 h;have h':=aGc (r:=r) h;obtain ⟨w,hw⟩:=axh n (k+1) r' r;refine⟨w,?_⟩;rw[CX,h',CX,h];dsimp only;simp only[List.append_assoc,List.cons_append,aal,hw]
theorem aJA:∀ (n k:Nat) (a:List UInt8) (y:UInt8),y≠10->∃ w,CX n k a=CX n k (a++[y])++w
 | 0,k,a,y,_=>⟨[],rfl⟩
 | n+1,k,a,y,hy=>by
   cases h:px k (a++[y]) with
   | none=>exact⟨CX (n+1) k a,by rw[CX.eq_def (n+1) k (a++[y])];simp only[h,List.nil_append]⟩
   | some e =>
     obtain ⟨r,rfl,h2⟩:=aGb hy h;obtain ⟨w,hw⟩:=aJA n (k+1) r y hy;refine⟨w,?_⟩;rw[CX,h2,CX,h];dsimp only;simp only[List.append_assoc,List.cons_append,aal,hw]
theorem aMW {k:Nat} {e:LogRecord} (h:fG e=true):(245:UInt8) ∉ Dy k e:=by
 obtain ⟨_,_,h1,h2,h3⟩:=AL.1 h
 have g:∀ {s:List UInt8},plain s=true->(245:UInt8) ∉ s:=fun hs hm=>by
  have:=(aaF hs hm).2.1;revert this;decide
 have d:∀ n,(245:UInt8) ∉ fw n:=fun n=>Tp (by decide);unfold Dy ag5 acM;simp only[List.mem_append,List.mem_cons,not_or];exact⟨⟨d _,by decide,g h1,by decide,g h2⟩,by decide,d _⟩
theorem aCx:∀ (es:List LogRecord) (k:Nat),(∀ e ∈ es,fG e=true)->(245:UInt8) ∉ hJ k es
 | [],_,_=>by simp[hJ]
 | e::es,k,h=>by
   simp only[hJ,List.mem_append,List.mem_cons,not_or];exact⟨aMW (h e (by simp)),by decide,aCx es (k+1) fun x hx=>h x (by simp[hx])⟩
theorem aG6 {l:Log} (h:fx l=true) (x:List UInt8):l.durable.length<=oq (l.durable++x):=by
 obtain ⟨_,h2,_⟩:=Fr.1 h;obtain ⟨w,hw⟩:=axh 60 0 l.durable x;have hw':fM (l.durable++x)=fM l.durable++w:=hw;rw[oq,hw',Iq,List.length_append];have:(hJ 0 (fM l.durable)).length=l.durable.length:=h2;omega
theorem aQm {t:List UInt8} {y:UInt8} (h:t≠[]):t.set (t.length - 1) y=t.dropLast++[y]:=by
 rcases List.eq_nil_or_concat t with rfl | ⟨a,z,rfl⟩
 ·exact absurd rfl h
 ·simp
theorem aVC {x:UInt8} (h:x≠245):(255 - x:UInt8)≠10:=by
 intro e;apply h
 have:x=255 - (255 - x):=by
  apply UInt8.toNat_inj.1;have hx:=UInt8.toNat_lt x
  have e1:(255 - x:UInt8).toNat=255 - x.toNat:=by
   rw[UInt8.toNat_sub];show (2 ^ 8 - x.toNat+255) % 2 ^ 8=255 - x.toNat;omega
  rw[UInt8.toNat_sub,e1];show x.toNat=(2 ^ 8 - (255 - x.toNat)+255) % 2 ^ 8;omega
 rw[this,e];rfl
theorem aMP {l:Log} {n:Int} {b:Bool} (h:Jl l n=true) :
  (MD l n b).length<=30000/\l.durable.length<=oq (MD l n b)/\∃ w,df l=fM (MD l n b)++w:=by
 have h':=h;simp only[Jl,Bool.and_eq_true,db] at h';obtain ⟨hl,hn⟩:=h';obtain ⟨h1,h2,h3⟩:=Fr.1 hl;have hb:=Wz (l.durable++l.pending);have hok:=aud (l.durable++l.pending);have hall:=(aFu hl).1;rw[MD,if_pos h,df,if_pos hl];obtain ⟨k,rfl⟩:∃ k:Nat,n=k:=⟨n.toNat,by omega⟩;simp only[Int.toNat_natCast]
 have htl:(acz (l.pending.take k) b).length<=l.pending.length:=by
  unfold acz;split<;>simp<;>omega
 refine⟨by rw[List.length_append];omega,aG6 hl _,?_⟩;by_cases hc:b=true/\l.pending.take k≠[]
 ·obtain ⟨rfl,hne⟩:=hc;obtain ⟨t,ht⟩:∃ t,l.pending.take k=t:=⟨_,rfl⟩;rw[ht] at hne ⊢;have hp:l.pending=t++l.pending.drop k:=by rw[<- ht,List.take_append_drop]
  obtain ⟨x,hx⟩:∃ x,t.getD (t.length - 1) 0=x:=⟨_,rfl⟩
  have hlast:t=t.dropLast++[x]:=by
   rcases List.eq_nil_or_concat t with rfl | ⟨a,z,rfl⟩
   ·exact absurd rfl hne
   ·simp at hx;rw[hx];simp
  have hxm:x ∈ l.durable++l.pending:=by
   rw[hp,hlast];simp
  have hx5:x≠245:=fun e=>by
   rw[hall] at hxm;exact aCx _ 0 hok.1 (e▸hxm)
  rw[acz,if_pos rfl,hx,aQm hne,<- List.append_assoc];obtain ⟨w1,hw1⟩:=aJA 60 0 (l.durable++t.dropLast) (255 - x) (aVC hx5);obtain ⟨w2,hw2⟩:=axh 60 0 (l.durable++t.dropLast) ([x]++l.pending.drop k)
  have e:l.durable++l.pending=l.durable++t.dropLast++([x]++l.pending.drop k):=by
   conv=>lhs;rw[hp,hlast]
   simp
  refine⟨w1++w2,?_⟩;show CX 60 0 (l.durable++l.pending)=CX 60 0 _++(w1++w2);rw[e,hw2,hw1,List.append_assoc]
 ·have e:acz (l.pending.take k) b=l.pending.take k:=by
   unfold acz;cases b with
   | false=>rfl
   | true =>
     have:l.pending.take k=[]:=by
      apply Classical.byContradiction;intro hne;exact hc ⟨rfl,hne⟩
     rw[this];rfl
  rw[e];obtain ⟨w,hw⟩:=axh 60 0 (l.durable++l.pending.take k) (l.pending.drop k);refine⟨w,?_⟩;show CX 60 0 (l.durable++l.pending)=CX 60 0 _++w;rw[<- hw,List.append_assoc,List.take_append_drop]
theorem aBl (s:List UInt8) (hs:s.length<=30000):df (pF s)=fM s/\(pF s).durable=s.take (oq s):=by
 have hok:=aud s;have hoe:=ayC hok.1 hok.2;have e:pF s=⟨s.take (oq s),[],(fM s).length⟩:=by rw[pF,if_pos hs]
 refine⟨?_,by rw[e]⟩;rw[df,if_pos (aAz s hs).1,e];dsimp only;rw[List.append_nil,ani];exact hoe.1
def eD (c:Console) (L:List (List UInt8)) (k:Nat):Console:=(L.take k).foldl (fun d s=>(gN d s).1) c
theorem kh (c:Console) (L:List (List UInt8)):eD c L 0=c:=by simp[eD]
theorem rz {c:Console} {L:List (List UInt8)} {k:Nat} (h:k < L.length):eD c L (k+1)=(gN (eD c L k) L[k]).1:=by
 unfold eD;rw[dP h,List.foldl_append];rfl
theorem ry {c:Console} (L:List (List UInt8)) (hf:iw c.log) (hl:c.grants.length<=1048576):∀ k,iw (eD c L k).log/\(eD c L k).grants.length<=1048576:=by
 intro k;unfold eD;generalize L.take k=M
 induction M generalizing c with
 | nil=>exact⟨hf,hl⟩
 | cons s M ih =>
   have:=vg s hf hl;exact ih this.1 this.2
theorem aO2 {c:Console} (L:List (List UInt8)) (h:dC c=true):∀ k,dC (eD c L k)=true:=by
 intro k;unfold eD;generalize L.take k=M
 induction M generalizing c with
 | nil=>exact h
 | cons s M ih=>exact ih (aty s h)
def kp (c:Console):List LogRecord->Nat
 | []=>0
 | e::l=>if (gN c e.command).2=e.reply then kp (gN c e.command).1 l+1 else 0
def HJ (c:Console):List LogRecord->Option Console
 | []=>some c
 | e::l=>if (gN c e.command).2=e.reply then HJ (gN c e.command).1 l else none
theorem asE:∀ (l:List LogRecord) (c d:Console),HJ c l=some d->kp c l=l.length
 | [],_,_,_=>rfl
 | e::l,c,d,h=>by
   unfold HJ at h;unfold kp;split at h
   ·rename_i he;rw[if_pos he,asE l _ d h];rfl
   ·cases h
theorem asF:∀ (a b:List LogRecord) (c:Console),HJ c (a++b)=(HJ c a).bind fun d=>HJ d b
 | [],b,c=>rfl
 | e::a,b,c=>by
   show (if (gN c e.command).2=e.reply then HJ (gN c e.command).1 (a++b) else none)=(if (gN c e.command).2=e.reply then HJ (gN c e.command).1 a else none).bind fun d=>HJ d b;split
   ·exact asF a b _
   ·rfl
theorem aLm {a b:List LogRecord} {c d:Console} (h:HJ c (a++b)=some d):kp c a=a.length:=by
 rw[asF] at h;obtain ⟨x,hx,_⟩:=Option.bind_eq_some_iff.1 h;exact asE a c x hx
def aEc (c0 c:Console):Prop:=HJ c0 (df c.log)=some c
theorem aOr {c0 c:Console} (s:List UInt8) (h:aEc c0 c):aEc c0 (gN c s).1:=by
 rcases HO c s with ⟨e,_⟩ | ⟨_,_,h2,h3⟩
 ·rw[e];exact h
 ·unfold aEc at h ⊢;rw[h3,(Ef h2).2.2.2.1,asF,h,Option.bind_some];show (if (gN c s).2=(gN c s).2 then HJ (gN c s).1 [] else none)=_;rw[if_pos rfl];rfl
theorem aR0 {c0:Console} (L:List (List UInt8)) (h:aEc c0 c0) (k:Nat):aEc c0 (eD c0 L k):=by
 have key:∀ (M:List (List UInt8)) (c:Console),aEc c0 c->aEc c0 (M.foldl (fun d s=>(gN d s).1) c):=by
  intro M
  induction M with
  | nil=>intro c h;exact h
  | cons s M ih=>intro c h;exact ih _ (aOr s h)
 exact key _ c0 h
theorem NE {l:Log} (h:fx l=true):((df l).length:Int)=l.count:=by
 rw[df,if_pos h];exact(Fr.1 h).2.2
def yB:=[eF 1 1 0,dD 2 4 (.agg [vN,vS [],vS [],vI 0]),ok 3 (vB false)]
def yC:=[bu 4 1 1,cg 5 eU 4,oo 6 (.un .not (.t 5))]
def yD:=[oo 7 (.build (.agg [vN,vS [],vS [],vI 0]) []),bg 4 2 7,ok 3 (vB false)]
def yE:=[bu 8 1 1,cg 9 lV 8,oo 10 (.build (.agg [vN,vS [],vS [],vI 0]) [(0,(1,(.t 9)))]),bg 4 2 10,ok 3 (vB true)]
def Eh:C:=(sr yB [1,2] (ss (sr yC [1,2,6] (sc 6 (sr yD [2,3] .ret) .skip)) (sr yE [2,3] .ret)))
theorem Pq:cE qo Eh [(.cell 2 true 4),(.tmp 3)] 11:=dE func26 rfl
def iE:=[eF 1 1 0,dD 2 4 (.agg [vN,vS [],vS [],vI 0]),ok 3 (vB false)]
def iF:=[bu 4 1 1,cg 5 mZ 4,oo 6 (.un .not (.t 5))]
def iG:=[oo 7 (.build (.agg [vN,vS [],vS [],vI 0]) []),bg 4 2 7,ok 3 (vB false)]
def iH:=[bu 8 1 1,cg 9 Ai 8,oo 10 (.build (.agg [vN,vS [],vS [],vI 0]) [(0,(1,(.t 9)))]),bg 4 2 10,ok 3 (vB true)]
def kr:C:=(sr iE [1,2] (ss (sr iF [1,2,6] (sc 6 (sr iG [2,3] .ret) .skip)) (sr iH [2,3] .ret)))
theorem rC:cE ff kr [(.cell 2 true 4),(.tmp 3)] 11:=dE func27 rfl
def oj (r:aT):Console:=if bx r then ⟨r,⟨[],[],0⟩⟩ else ⟨[],⟨[],[],0⟩⟩
theorem aDd (r:aT):(oj r).grants.length<=12:=by
 unfold oj;split
 ·rename_i h;exact eo h
 ·simp
theorem Sv (r:aT) (hl:r.length<=1048576):di qo [bn r] (.tup [GN (oj r),B (bx r)]):=by
 refine aa.ofN Pq (by simp) ?_;simp[Eh,yB,yC];refine al (aa.ag (gR r)) ?_;cases h:bx r with
 | false=>simp[yD,oj,h]
 | true =>
   simp[yE];refine aZ (aa.ag (vh r hl)) ?_;simp[oj,h]
theorem p8 (r:aT) (hl:r.length<=1048576):di ff [bn r] (.tup [GN (oj r),B (bx r)]):=by
 refine aa.ofN rC (by simp) ?_;simp[kr,iE,iF];refine al (aa.ag (zx r)) ?_;cases h:bx r with
 | false=>simp[iG,oj,h]
 | true =>
   simp[iH];refine aZ (aa.ag (Vl r hl)) ?_;simp[oj,h]
def kJ:=[dD 2 3 (.agg [vS [],vS [],vI 0])]
def kK:=[om 4 0,cg 5 mj 4,dD 3 3 (.agg [vS [],vS [],vI 0]),bg 3 3 5]
def kL:=[om 6 0,oo 7 (.call an [.t 6,xI 24])]
def dT:=[cn 9 .eql 7 0,om 8 9]
def kM:=[aL 10 2 3,bl 11 1 10,fL 12 11 1,aL 13 2 3,bg 1 13 12]
def eQ:=[cn 15 .eql 7 1,om 14 15]
def kN:=[om 16 0,aL 17 1 3,bl 18 1 17,oo 19 (.call eV [.t 16,.t 18,(.k (vS [35,64,10,48,49]))]),aL 20 1 3,bg 1 20 19]
def gv:=[cn 22 .eql 7 2,om 21 22]
def kO:=[aL 23 0 3,bl 24 1 23,aL 25 1 3,bl 26 1 25,cI 27 .add 24 26,aL 28 0 3,bg 1 28 27]
def dU:=[bu 29 3 3,bg 3 2 29]
def mS:C:=(sr kJ [0,2] (sr kK [0,2,3] (ss (sr kL [0,2,3,7] (.block 0 (sr dT [0,2,3,7,8] (sc 8 (.reg kM [2,3]) (sr eQ [0,2,3,7,14] (sc 14 (.reg kN [2,3]) (sr gv [2,3,21] (sc 21 (.reg kO [2,3]) .skip)))))))) (sr dU [2] .ret))))
theorem vA:cE fN mS [(.cell 2 true 3)] 30:=dE func116 rfl
def ij:=[dD 2 2 (.agg [vS [],vS []])]
def ik:=[om 4 0,oo 5 (.bslice 1 (vS []) 5 [(0,(.k (vS [99,111,117,110,116]))),(1,(.k (vS [115,111,114,116,32,109,101,114,103,101]))),(2,(.k (vS [120]))),(3,(.k (vS [115,101,108,101,99,116,32,50]))),(4,(.k (vS [48,32,49])))]),dK 6 cP 4 5,om 7 0,oo 8 (.bslice 1 (vS []) 5 [(0,(.k (vS []))),(1,(.k (vS [51]))),(2,(.k (vS [63]))),(3,(.k (vS [97,64,98]))),(4,(.k (vS [51,32,49,32,50])))]),dK 9 cP 7 8,oo 10 (.build (.agg [vS [],vS []]) [(0,(1,(.t 6))),(1,(1,(.t 9)))]),dD 3 2 (.agg [vS [],vS []]),bg 2 3 10]
def il:=[om 11 0,oo 12 (.call an [.t 11,xI 24])]
def dZ:=[cn 14 .eql 12 0,om 13 14]
def im:=[om 15 0,oo 16 (.mks 1 (.v (.int .u8 (0))) 1 (xI 3) (xI 3)),oo 17 (.conv .bytesStr (.t 16)),oo 18 (.bslice 1 (vS []) 5 [(0,(.k (vS []))),(1,(.k (vS [97,64,98]))),(2,(.k (vS [97,35]))),(3,(.k (vS [10]))),(4,(.t 17))]),dK 19 cP 15 18,aL 20 0 3,bg 1 20 19]
def fh:=[cn 22 .eql 12 1,om 21 22]
def io:=[om 23 0,oo 24 (.bslice 1 (vS []) 3 [(0,(.k (vS [35]))),(1,(.k (vS [10]))),(2,(.k (vS [127])))]),dK 25 cP 23 24,aL 26 1 3,bg 1 26 25]
def ee:=[bu 27 2 3,bg 2 2 27]
def jL:C:=(sr ij [0,2] (sr ik [0,2,3] (ss (sr il [0,2,3,12] (.block 0 (sr dZ [0,2,3,12,13] (sc 13 (.reg im [2,3]) (sr fh [0,2,3,21] (sc 21 (.reg io [2,3]) .skip)))))) (sr ee [2] .ret))))
theorem qj:cE cM jL [(.cell 2 true 2)] 28:=dE func67 rfl
def pd:=[dD 2 3 (.agg [vS [],vS [],vI 0])]
def pf:=[oo 5 (.build (.agg [vS [],vS [],vI 0]) []),dD 3 3 (.agg [vS [],vS [],vI 0]),bg 3 3 5]
def pg:=[om 6 0,oo 7 (.call an [.t 6,xI 7]),om 4 7]
def ph:=[om 8 4,cn 9 .gtr 8 0]
def pi:=[bu 13 3 3,om 14 0,cg 15 cM 14,dK 16 mY 13 15,om 12 16,cJ 17 12 0,cJ 18 12 1,bg 3 3 17]
def jE:List (List Nat):=[[],[],[1],[0,1,2],[0,1,2,3],[0,1,2,3,4],[0,1,2,3,4],[0,1,2,3,4,5]]
def pj:=[om 19 0,oo 20 (.call bz [.t 19,xI 4])]
def pk:=[bu 22 3 3,cg 23 qr 22,om 21 23,cJ 24 21 0,cJ 25 21 1,bg 3 3 24]
def pm:=[om 10 4,cn 11 .sub 10 1,om 4 11]
def o7:C:=(ss (sr ph [0,2,3,4,9] (sc 9 .skip (.exit 0))) (ss (.block 1 (ss (.regD pi jE [0,2,3,4]) (sr pj [0,2,3,4,20] (sc 20 (.reg pk [0,2,3,4]) .skip)))) (.reg pm [0,2,3,4])))
def pn:=[bu 26 3 3,bg 3 2 26]
def sE:C:=(sr pd [0,2] (sr pf [0,2,3] (ss (sr pg [0,2,3,4] (.block 0 (.loop o7))) (sr pn [2] .ret))))
def GF:Nat->List Nat
 | 0=>[0,2]
 | 1=>[0,2,3]
 | 2=>[0,2,3,4]
 | 3=>[0,2,3,4,9]
 | 5=>[0,2,3,4]
 | 6=>[0,2,3,4,20]
 | 7=>[0,2,3,4]
 | 4=>[0,2,3,4]
 | 8=>[2]
 | _=>[]
theorem Et:cE mj sE [(.cell 2 true 3)] 27 :=
 ⟨Tryz.f179,_,GF,func179,rfl,by kernel_rfl,by kernel_rfl,by kernel_rfl,rfl⟩
set_option maxHeartbeats 1000000 in
theorem rt (code:List UInt8) (k:Nat) (s:Int) (hk:k<=1000000000):∃ (e:LogRecord) (k':Nat) (s':Int),((e.command.length<=20/\e.reply.length<=20)/\(k<=k'/\k'<=k+10)) /\
  ie cM [bm code k s] [cR] (dc e) [some (bm code k' s')]:=by
 obtain ⟨v1,k1,s1,⟨hv1,hk1⟩,hM1⟩:=fI code k s [[99,111,117,110,116],[115,111,114,116,32,109,101,114,103,101],[120],[115,101,108,101,99,116,32,50],[48,32,49]] (by omega) (by simp) (by simp);obtain ⟨v2,k2,s2,⟨hv2,hk2⟩,hM2⟩:=fI code k1 s1 [[],[51],[63],[97,64,98],[51,32,49,32,50]] (by omega) (by simp) (by simp);obtain ⟨x,k3,s3,⟨hx,hk3⟩,hM3⟩:=aK code k2 s2 24 (by omega) (by omega);obtain ⟨v4,k4,s4,⟨hv4,hk4⟩,hM4⟩:=fI code k3 s3 [[],[97,64,98],[97,35],[10],[0,0,0]] (by omega) (by simp) (by simp);obtain ⟨v5,k5,s5,⟨hv5,hk5⟩,hM5⟩:=fI code k3 s3 [[35],[10],[127]] (by omega) (by simp) (by simp);have l1:v1.length<=20:=by simp at hv1;rcases hv1 with rfl | rfl | rfl | rfl | rfl<;>simp
 have l2:v2.length<=20:=by simp at hv2;rcases hv2 with rfl | rfl | rfl | rfl | rfl<;>simp
 have l4:v4.length<=20:=by simp at hv4;rcases hv4 with rfl | rfl | rfl | rfl | rfl<;>simp
 have l5:v5.length<=20:=by simp at hv5;rcases hv5 with rfl | rfl | rfl<;>simp
 have main:∀ (e:LogRecord) (k':Nat) (s':Int),((x=0/\e=⟨v4,v2⟩/\k'=k4/\s'=s4)\/(x=1/\e=⟨v1,v5⟩/\k'=k5/\s'=s5)\/((x≠0/\x≠1)/\e=⟨v1,v2⟩/\k'=k3/\s'=s3))->ie cM [bm code k s] [cR] (dc e) [some (bm code k' s')]:=by
  intro e k' s' hfin;refine ac.of qj (by simp) rfl (by simp) ?_;simp[jL,ij,ik];refine bL [1000000] [5] (ac.ag hM1) ?_;simp;refine bL [1000000] [8] (ac.ag hM2) ?_;simp[il];refine ae (ac.ag hM3) ?_;rcases hfin with ⟨rfl,rfl,rfl,rfl⟩ | ⟨rfl,rfl,rfl,rfl⟩ | ⟨⟨n0,n1⟩,rfl,rfl,rfl⟩
  ·simp[dZ,im];refine⟨by unfold bR;omega,?_⟩;refine bL [1000000] [18] (ac.ag hM4) ?_;simp[ee]
  ·simp[dZ,fh,io];refine bL [1000000] [24] (ac.ag hM5) ?_;simp[ee]
  ·simp[dZ,fh,ee,n0,n1]
 by_cases c0:x=0
 ·exact⟨_,_,_,⟨⟨l4,l2⟩,by omega⟩,main _ _ _ (.inl ⟨c0,rfl,rfl,rfl⟩)⟩
 by_cases c1:x=1
 ·exact⟨_,_,_,⟨⟨l1,l5⟩,by omega⟩,main _ _ _ (.inr (.inl ⟨c1,rfl,rfl,rfl⟩))⟩
 ·exact⟨_,_,_,⟨⟨l1,l2⟩,by omega⟩,main _ _ _ (.inr (.inr ⟨⟨c0,c1⟩,rfl,rfl,rfl⟩))⟩
theorem JP (code:List UInt8):∃ g:Nat->Int->LogRecord×Nat×Int,∀ (k:Nat) (s:Int),k<=1000000000 ->
  ((((g k s).1.command.length<=20/\(g k s).1.reply.length<=20)/\(k<=(g k s).2.1/\(g k s).2.1<=k+10))/\ie cM [bm code k s] [cR] (dc (g k s).1) [some (bm code (g k s).2.1 (g k s).2.2)]):=by
 have key:∀ (k:Nat) (s:Int),∃ z:LogRecord×Nat×Int,k<=1000000000->(((z.1.command.length<=20/\z.1.reply.length<=20)/\(k<=z.2.1/\z.2.1<=k+10))/\ie cM [bm code k s] [cR] (dc z.1) [some (bm code z.2.1 z.2.2)]):=fun k s=>by
  by_cases hk:k<=1000000000
  ·obtain ⟨v,k',s',h1,h2⟩:=rt code k s hk;exact⟨(v,k',s'),fun _=>⟨h1,h2⟩⟩
  ·exact⟨(aeV,0,0),fun h=>absurd h hk⟩
 exact⟨fun k s=>(key k s).choose,fun k s hk=>(key k s).choose_spec hk⟩
theorem aDi (code:List UInt8) (n:Int) (hn:n<=1000000):∃ g:Nat->Int->Bool×Nat×Int,∀ (k:Nat) (s:Int),k<=100000000000 ->
  ((k<=(g k s).2.1/\(g k s).2.1<=k+2)/\ie bz [bm code k s] [cR,I n] (B (g k s).1) [some (bm code (g k s).2.1 (g k s).2.2)]):=by
 have key:∀ (k:Nat) (s:Int),∃ z:Bool×Nat×Int,k<=100000000000->((k<=z.2.1/\z.2.1<=k+2)/\ie bz [bm code k s] [cR,I n] (B z.1) [some (bm code z.2.1 z.2.2)]):=fun k s=>by
  by_cases hk:k<=100000000000
  ·obtain ⟨v,k',s',h1,h2⟩:=dh code k s n hk hn;exact⟨(v,k',s'),fun _=>⟨h1,h2⟩⟩
  ·exact⟨(true,0,0),fun h=>absurd h hk⟩
 exact⟨fun k s=>(key k s).choose,fun k s hk=>(key k s).choose_spec hk⟩
def gl (l:Log):Prop:=l.durable.length+l.pending.length<=23000/\0<=l.count/\l.count<=61
theorem gl.fits {l:Log} (h:gl l):iw l:=by unfold gl at h;unfold Go.Proofs.YtnjjimhkbpdpgaaGreatDoor.iw;omega
theorem gl.append {l:Log} (h:gl l) (e:LogRecord):gl (fc l e):=by
 by_cases hn:mH l e=0
 ·obtain ⟨h1,h2,h3,h4,h5,h6⟩:=Ef hn;have:=oV l;unfold gl;omega
 ·rw[MB hn];exact h
theorem gl.sync {l:Log} (h:gl l):gl (FS l):=by
 rw[FS];split
 ·unfold gl at h ⊢;simp;omega
 ·unfold gl;simp
theorem gl.zero:gl ⟨[],[],0⟩:=by unfold gl;simp
structure TrailL where
 l:Log
 k:Nat
 s:Int
def LR (gr:Nat->Int->LogRecord×Nat×Int) (go:Nat->Int->Bool×Nat×Int) (a:TrailL):TrailL :=
 let z:=gr a.k a.s
 let o:=go z.2.1 z.2.2
 ⟨if o.1 then FS (fc a.l z.1) else fc a.l z.1,o.2.1,o.2.2⟩
def azO (gr:Nat->Int->LogRecord×Nat×Int) (go:Nat->Int->Bool×Nat×Int) (a:TrailL):Nat->TrailL
 | 0=>a
 | n+1=>LR gr go (azO gr go a n)
set_option maxHeartbeats 2000000 in
theorem Pg (code:List UInt8) (k:Nat) (s:Int) (hk:k<=1000000):∃ (l:Log) (k':Nat) (s':Int),(gl l/\(k<=k'/\k'<=k+200)) /\
  ie mj [bm code k s] [cR] (rA l) [some (bm code k' s')]:=by
 obtain ⟨v,k2,s2,⟨hv,hk2⟩,hM2⟩:=aK code k s 7 (by omega) (by omega);obtain ⟨gr,hgr⟩:=JP code;obtain ⟨go,hgo⟩:=aDi code 4 (by omega);obtain ⟨n,hn⟩:∃ n:Nat,v=n:=⟨v.toNat,by omega⟩;have hn6:n<=6:=by omega
 obtain ⟨u,hu⟩:∃ u:Nat->TrailL,u=azO gr go ⟨⟨[],[],0⟩,k2,s2⟩:=⟨_,rfl⟩;have hu0:u 0=⟨⟨[],[],0⟩,k2,s2⟩:=by rw[hu];rfl
 have hus:∀ j,u (j+1)=LR gr go (u j):=fun j=>by rw[hu];rfl
 have hinv:∀ j,j<=6->gl (u j).l/\k2<=(u j).k/\(u j).k<=k2+12 * j:=by
  intro j
  induction j with
  | zero=>intro _;rw[hu0];exact⟨gl.zero,by dsimp only;omega⟩
  | succ j ih =>
    intro hj;have ⟨i1,i2⟩:=ih (by omega);have a1:=(hgr (u j).k (u j).s (by omega)).1.2;have a2:=(hgo (gr (u j).k (u j).s).2.1 (gr (u j).k (u j).s).2.2 (by omega)).1;rw[hus];simp only[LR];refine⟨?_,by omega⟩;split
    ·exact(i1.append _).sync
    ·exact i1.append _
 refine⟨(u n).l,(u n).k,(u n).s,⟨(hinv n hn6).1,by have:=hinv n hn6;omega⟩,?_⟩;refine ac.of Et (by simp) rfl (by simp) ?_;simp[sE,pd,pf,pg,o7];refine ae (ac.ag hM2) ?_;rw[hn];simp;refine dl (fun j:Nat=>⟨[(0,cR),(2,.ref 2 0 0),(3,.ref 3 0 0),(4,I ((n:Int) - j))],[(1000000,bm code (u j).k (u j).s),(3,⟨3,[rA (u j).l]⟩),(2,⟨3,[rA ⟨[],[],0⟩]⟩)],[1000000]⟩) (fun j=>n - j) (fun j=>j<=n) 0 (Wk.list rfl (by simp) (by simp[hu0])) (by simp) ?_;intro j hj K hN hR hE;have hju:=hinv j (by omega);have hjs:=hus j;obtain ⟨a,ha⟩:∃ a,u j=a:=⟨_,rfl⟩;rw[ha] at hju hjs ⊢;obtain ⟨l,ka,sa⟩:=a;obtain ⟨hl,hka⟩:=hju;dsimp only at hl hka ⊢;obtain ⟨hz,hMz⟩:=hgr ka sa (by omega);simp only[LR] at hjs;obtain ⟨z,hzz⟩:∃ z,gr ka sa=z:=⟨_,rfl⟩;rw[hzz] at hz hMz hjs;obtain ⟨e,kz,sz⟩:=z;dsimp only at hz hMz hjs;obtain ⟨ho,hMo⟩:=hgo kz sz (by omega);obtain ⟨o,hoo⟩:∃ o,go kz sz=o:=⟨_,rfl⟩;rw[hoo] at ho hMo hjs;obtain ⟨o,ko,so⟩:=o;dsimp only at ho hMo hjs;simp[ph,pm];refine⟨fun hlt=>?_,fun hge=>?_⟩
 ·simp[pi,jE];refine mI [1000000] [] (ac.ag hMz) ?_;simp;refine gm (aa.ag (zw l e hl.fits)) ?_;simp;refine⟨a7 (by simp[jE]) (by simp),?_⟩;simp[pj];refine ae (ac.ag hMo) ?_;cases o with
  | true =>
    simp[pk];refine aZ (aa.ag (aco (fc l e) (hl.append e).fits)) ?_;simp;rw[aD (by omega)];refine hN (j+1) _ (by omega) (by omega) (Wk.list rfl ?_ ?_)
    ·simp;omega
    ·simp[hjs]
  | false =>
    simp;rw[aD (by omega)];refine hN (j+1) _ (by omega) (by omega) (Wk.list rfl ?_ ?_)
    ·simp;omega
    ·simp[hjs]
 ·obtain rfl:j=n:=by omega
  refine hE _ _ ?_;simp only[cv];simp[pn,ha]
def Mid (l:Log):Prop:=l.durable.length+l.pending.length<=50000/\l.pending.length<=23001
theorem Mid.fits {l:Log} (h:Mid l):iw l:=by unfold Mid at h;unfold Go.Proofs.YtnjjimhkbpdpgaaGreatDoor.iw;omega
theorem Fi (code:List UInt8) (k:Nat) (s:Int) (hk:k<=1000000):∃ (l:Log) (k':Nat) (s':Int),(Mid l/\(k<=k'/\k'<=k+300)) /\
  ie fN [bm code k s] [cR] (rA l) [some (bm code k' s')]:=by
 obtain ⟨l,k1,s1,⟨hl,hk1⟩,hM1⟩:=Pg code k s hk;obtain ⟨x,k2,s2,⟨hx,hk2⟩,hM2⟩:=aK code k1 s1 24 (by omega) (by omega);obtain ⟨hl1,hl2,hl3⟩:=hl;obtain ⟨v,k3,s3,⟨hv,hk3⟩,hM3⟩:=zz code k2 s2 l.pending [35,64,10,48,49] (by omega) (by simp) (by simp) (by omega)
 have main:∀ (a:Log) (k':Nat) (s':Int),((x=0/\a=⟨l.durable,l.pending,l.count+1⟩/\k'=k2/\s'=s2)\/(x=1/\a=⟨l.durable,v,l.count⟩/\k'=k3/\s'=s3)\/(x=2/\a=⟨l.durable++l.pending,l.pending,l.count⟩/\k'=k2/\s'=s2) \/
   ((x≠0/\x≠1/\x≠2)/\a=l/\k'=k2/\s'=s2))->ie fN [bm code k s] [cR] (rA a) [some (bm code k' s')]:=by
  intro a k' s' hfin;refine ac.of vA (by simp) rfl (by simp) ?_;simp[mS,kJ,kK];refine ae (ac.ag hM1) ?_;simp[kL];refine ae (ac.ag hM2) ?_;rcases hfin with ⟨rfl,rfl,rfl,rfl⟩ | ⟨rfl,rfl,rfl,rfl⟩ | ⟨rfl,rfl,rfl,rfl⟩ | ⟨⟨n0,n1,n2⟩,rfl,rfl,rfl⟩
  ·simp[dT,kM,dU];rw[aD (by omega)]
  ·simp[dT,eQ,kN];refine ae (ac.ag hM3) ?_;simp[dU]
  ·simp[dT,eQ,gv,kO,dU];omega
  ·simp[dT,eQ,gv,dU,n0,n1,n2]
 by_cases c0:x=0
 ·exact⟨_,_,_,⟨⟨by dsimp only;omega,by dsimp only;omega⟩,by omega⟩,main _ _ _ (.inl ⟨c0,rfl,rfl,rfl⟩)⟩
 by_cases c1:x=1
 ·exact⟨_,_,_,⟨⟨by dsimp only;omega,by dsimp only;omega⟩,by omega⟩,main _ _ _ (.inr (.inl ⟨c1,rfl,rfl,rfl⟩))⟩
 by_cases c2:x=2
 ·exact⟨_,_,_,⟨⟨by dsimp only;rw[List.length_append];omega,by dsimp only;omega⟩,by omega⟩,main _ _ _ (.inr (.inr (.inl ⟨c2,rfl,rfl,rfl⟩)))⟩
 ·exact⟨_,_,_,⟨⟨by omega,by omega⟩,by omega⟩,main _ _ _ (.inr (.inr (.inr ⟨⟨c0,c1,c2⟩,rfl,rfl,rfl⟩)))⟩
def lu (c:Console):Prop:=(iw c.log/\c.log.durable.length+c.log.pending.length<=100000)/\List.length c.grants<=30/\sL c.grants
theorem N9 {c:Console} (h:dC c=true):lu c:=by
 obtain ⟨h1,h2⟩:=lp.1 h;have h3:=MP h2;have h4:=eo h1;refine⟨⟨by unfold iw;omega,by omega⟩,by omega,fun g hg=>?_⟩;have:=(FC.1 h1).2.1 g hg;unfold jx at this;simp only[Bool.and_eq_true] at this;have hr:fV g.number 1 999=true:=by simp_all
 simp[fV] at hr;omega
theorem MG {c:Console} (s:List UInt8) (h:lu c):lu (gN c s).1:=by
 rcases HO c s with ⟨e,_⟩ | ⟨h0,_,_,_⟩
 ·rw[e];exact h
 ·exact N9 (aty s h0)
theorem M0 (r:aT):lu (oj r):=by
 unfold oj;split
 ·rename_i h;exact N9 (lp.2 ⟨h,(show fx ⟨[],[],0⟩=true by decide +kernel)⟩)
 ·exact⟨⟨by simp[iw],by simp⟩,by simp,by simp[sL]⟩
theorem lu.fits {c:Console} (h:lu c):iw c.log/\List.length c.grants<=1048576:=⟨h.1.1,by have:=h.2.1;omega⟩
set_option maxHeartbeats 4000000 in
theorem CZ (code:List UInt8) (k:Nat) (s:Int) (hk:k<=10000):∃ (c:Console) (k':Nat) (s':Int),(lu c/\(k<=k'/\k'<=k+5000)) /\
  ie fk [bm code k s] [cR] (co c) [some (bm code k' s')]:=by
 obtain ⟨R,k1,s1,⟨⟨hR,hRn⟩,hk1⟩,hM1⟩:=kn code k s (by omega);have hNC:=p8 R (by omega);have hc0:=M0 R;generalize oj R=c0 at hNC hc0;generalize bx R=b0 at hNC;obtain ⟨x,k2,s2,⟨hx,hk2⟩,hM2⟩:=aK code k1 s1 4 (by omega) (by omega);obtain ⟨N,rfl⟩:∃ N:Nat,x=N:=⟨x.toNat,by omega⟩
 obtain ⟨t,ht0,htok,htR⟩:=vG (A:=(Nat×Int)×Console) (R:=fun a b=>∃ l:List UInt8,l.length<=400/\ie cA [bm code a.1.1 a.1.2] [cR,co a.2] (S l) [some (bm code b.1.1 b.1.2)]/\b.2=(gN a.2 l).1)
  (ok:=fun n a=>lu a.2/\k2<=a.1.1/\a.1.1<=k2+100 * n) ((k2,s2),c0) N ⟨hc0,by dsimp only;omega⟩ (fun n a hn ha=>by
   obtain ⟨l,ka,sa,⟨hl,hka⟩,hMl⟩:=jG code a.1.1 a.1.2 a.2 (by omega) (by have:=ha.1.2.1;omega) ha.1.2.2;exact⟨((ka,sa),(gN a.2 l).1),⟨l,hl,hMl,rfl⟩,MG l ha.1,by dsimp only;omega⟩)
 obtain ⟨hcN,hkN⟩:=htok N (Nat.le_refl _);obtain ⟨u,hu⟩:∃ u,t N=u:=⟨_,rfl⟩;rw[hu] at hcN hkN;obtain ⟨⟨k3,s3⟩,d⟩:=u;dsimp only at hcN hkN;obtain ⟨y,k4,s4,⟨hy,hk4⟩,hM4⟩:=aK code k3 s3 24 (by omega) (by omega);obtain ⟨R2,k5,s5,⟨⟨hR2,hR2n⟩,hk5⟩,hM5⟩:=rb code k4 s4 (by omega);obtain ⟨G,k6,s6,⟨hG,hk6⟩,hM6⟩:=Fi code k4 s4 (by omega);have hGl:G.durable.length+G.pending.length<=50000:=hG.1
 have main:∀ (c':Console) (k':Nat) (s':Int),((y=0/\c'=⟨R2,d.log⟩/\k'=k5/\s'=s5)\/(y=1/\c'=⟨d.grants,G⟩/\k'=k6/\s'=s6)\/((y≠0/\y≠1)/\c'=d/\k'=k4/\s'=s4)) ->
   ie fk [bm code k s] [cR] (co c') [some (bm code k' s')]:=by
  intro c' k' s' hfin;refine ac.of uj (by simp) rfl (by simp) ?_;simp[lS,jZ,j0];refine ae (ac.ag hM1) ?_;simp;refine aZ (aa.at hNC) ?_;simp[j1];refine ae (ac.ag hM2) ?_;simp[jN]
  refine dl (fun j:Nat=>⟨[(0,cR),(2,.ref 2 0 0),(3,.ref 3 0 0),(5,I ((N:Int) - j))],[(1000000,bm code (t j).1.1 (t j).1.2),(2,⟨4,[.agg [nM,S [],S [],I 0]]⟩),(3,⟨4,[co (t j).2]⟩)],[1000000]⟩) (fun j=>N - j) (fun j=>j<=N) 0
   (Wk.trans (Wk.frz 9 ⟨18,c0.grants.map bd⟩ (by simp) (by simp) (by simp)) (Wk.list rfl (by simp) (by simp[ht0,List.take_of_length_le]))) (by simp) ?_
  intro j hj K hK hR' hE;obtain ⟨hcj,hkj⟩:=htok j hj;simp[j2,j4];refine⟨fun hlt=>?_,fun hge=>?_⟩
  ·obtain ⟨l,hl,hMl,hnx⟩:=htR j (by omega);have hX:=jJ (t j).2 l hcj.fits.1 hcj.fits.2;obtain ⟨a,ha⟩:∃ a,t j=a:=⟨_,rfl⟩;obtain ⟨b,hb⟩:∃ b,t (j+1)=b:=⟨_,rfl⟩;rw[ha] at hMl hnx hX ⊢;rw[hb] at hMl hnx;obtain ⟨⟨ka,sa⟩,ca⟩:=a;obtain ⟨⟨kb,sb⟩,cb⟩:=b;dsimp only at hMl hnx hX ⊢;rw[<- hnx] at hX;simp[j3,fZ];refine mI [1000000] [] (ac.ag hMl) ?_;simp;refine Hv (aa.ag hX) ?_;simp;refine⟨a7 (by simp[fZ]) (by simp),?_⟩;rw[aD (by omega)];refine hK (j+1) _ (by omega) (by omega) (Wk.list rfl ?_ ?_)
   ·simp;omega
   ·simp[hb]
  ·obtain rfl:j=N:=by omega
   rw[hu];dsimp only;refine hE _ _ ?_;simp only[cv];simp[j5];refine ae (ac.ag hM4) ?_;rcases hfin with ⟨rfl,rfl,rfl,rfl⟩ | ⟨rfl,rfl,rfl,rfl⟩ | ⟨⟨n0,n1⟩,rfl,rfl,rfl⟩
   ·simp[eE,j6];refine ae (ac.ag hM5) ?_;simp;refine cp _ (Wk.frz 31 ⟨18,R2.map bd⟩ (by simp) (by simp) (by simp)) ?_;simp[el,List.take_of_length_le]
   ·simp[eE,fF,jg];refine ae (ac.ag hM6) ?_;simp;refine cp _ (Wk.refl _) ?_;simp[el]
   ·simp[eE,fF,n0,n1];refine cp _ (Wk.refl _) ?_;simp[el]
 by_cases y0:y=0
 ·exact⟨_,_,_,⟨(show lu ⟨R2,d.log⟩ from ⟨hcN.1,hR2,hR2n⟩),by omega⟩,main _ _ _ (.inl ⟨y0,rfl,rfl,rfl⟩)⟩
 by_cases y1:y=1
 ·exact⟨_,_,_,⟨(show lu ⟨d.grants,G⟩ from ⟨⟨hG.fits,by show G.durable.length+G.pending.length<=100000;omega⟩,hcN.2⟩),by omega⟩,main _ _ _ (.inr (.inl ⟨y1,rfl,rfl,rfl⟩))⟩
 ·exact⟨_,_,_,⟨hcN,by omega⟩,main _ _ _ (.inr (.inr ⟨⟨y0,y1⟩,rfl,rfl,rfl⟩))⟩
theorem lu.log {d:Console} (h:lu d) {l:Log} (hl:gl l):lu ⟨d.grants,l⟩:=by
 have h1:=hl.fits;unfold gl at hl;exact⟨⟨h1,by show l.durable.length+l.pending.length<=100000;omega⟩,h.2⟩
@[simp] theorem azH (i:Nat) (blk:Blk) (l:aT):Jy i blk (l.map bd)=l.map bd:=nY fun _=>rfl
theorem aON {l:Log} (e:LogRecord) (h:l.durable.length+l.pending.length<=100000):(fc l e).durable.length+(fc l e).pending.length<=100000:=by
 by_cases hn:mH l e=0
 ·have:=(Ef hn).2.2.2.2.2;omega
 ·rw[MB hn];exact h
set_option maxHeartbeats 4000000 in
theorem aBm (code:List UInt8):∃ (r:aT) (l:Log),List.length r<=30/\iw l/\di J0 [.ro 1 (code.map Y)] (.tup [ly r,rA l]):=by
 obtain ⟨R,k1,s1,⟨⟨hR,hRn⟩,hk1⟩,hM1⟩:=kn code 0 0 (by omega);have hNC:=p8 R (by omega);have hc0:=M0 R;generalize oj R=c0 at hNC hc0;generalize bx R=b0 at hNC;obtain ⟨x,k2,s2,⟨hx,hk2⟩,hM2⟩:=aK code k1 s1 5 (by omega) (by omega);obtain ⟨N,rfl⟩:∃ N:Nat,x=N:=⟨x.toNat,by omega⟩
 obtain ⟨t,ht0,htok,htR⟩:=vG (A:=(Nat×Int)×Console) (R:=fun a b=>∃ l:List UInt8,l.length<=400/\ie cA [bm code a.1.1 a.1.2] [cR,co a.2] (S l) [some (bm code b.1.1 b.1.2)]/\b.2=(gN a.2 l).1)
  (ok:=fun n a=>lu a.2/\k2<=a.1.1/\a.1.1<=k2+100 * n) ((k2,s2),c0) N ⟨hc0,by dsimp only;omega⟩ (fun n a hn ha=>by
   obtain ⟨l,ka,sa,⟨hl,hka⟩,hMl⟩:=jG code a.1.1 a.1.2 a.2 (by omega) (by have:=ha.1.2.1;omega) ha.1.2.2;exact⟨((ka,sa),(gN a.2 l).1),⟨l,hl,hMl,rfl⟩,MG l ha.1,by dsimp only;omega⟩)
 obtain ⟨hcN,hkN⟩:=htok N (Nat.le_refl _);obtain ⟨u,hu⟩:∃ u,t N=u:=⟨_,rfl⟩;rw[hu] at hcN hkN;obtain ⟨⟨k3,s3⟩,d⟩:=u;dsimp only at hcN hkN;obtain ⟨o,k4,s4,hk4,hM4⟩:=dh code k3 s3 3 (by omega) (by omega);obtain ⟨e,k5,s5,⟨he,hk5⟩,hM5⟩:=rt code k4 s4 (by omega);have hap:=zw d.log e hcN.1.1;have hfe:=aON e hcN.1.2;refine⟨R,if o=true then fc d.log e else d.log,by omega,?_,?_⟩
 ·split
  ·unfold iw;omega
  ·exact hcN.1.1
 refine aa.ofN arZ (by simp) ?_;simp[VY,Ry,Rz,RA];refine bL [12] [] (ac.ag hM1) ?_;simp[RB];refine aZ (aa.at hNC) ?_;simp[RC];refine bL [12] [] (ac.ag hM2) ?_;simp[Qo]
 refine dl (fun j:Nat=>⟨[(2,.ref 2 0 0),(3,.ref 3 0 0),(4,.ref 12 0 0),(5,.ref 5 0 0),(6,.ref 6 0 0),(8,I ((N:Int) - j))],[(12,bm code (t j).1.1 (t j).1.2),(2,⟨1,[.agg [nM]]⟩),(3,⟨3,[.agg [S [],S [],I 0]]⟩),(5,⟨1,[.agg [.sl 14 0 (List.length R)]]⟩),(14,⟨18,R.map bd⟩),(6,⟨4,[co (t j).2]⟩)],[]⟩) (fun j=>N - j) (fun j=>j<=N) 0
  (Wk.trans (Wk.frz 17 ⟨18,c0.grants.map bd⟩ (by simp) (by simp) (by simp)) (Wk.list rfl (by simp) (by simp[ht0,List.take_of_length_le]))) (by simp) ?_
 intro j hj K hK hR' hE;obtain ⟨hcj,hkj⟩:=htok j hj;simp[RD,RF];refine⟨fun hlt=>?_,fun hge=>?_⟩
 ·obtain ⟨l,hl,hMl,hnx⟩:=htR j (by omega);have hX:=jJ (t j).2 l hcj.fits.1 hcj.fits.2;obtain ⟨a,ha⟩:∃ a,t j=a:=⟨_,rfl⟩;obtain ⟨b,hb⟩:∃ b,t (j+1)=b:=⟨_,rfl⟩;rw[ha] at hMl hnx hX ⊢;rw[hb] at hMl hnx;obtain ⟨⟨ka,sa⟩,ca⟩:=a;obtain ⟨⟨kb,sb⟩,cb⟩:=b;dsimp only at hMl hnx hX ⊢;rw[<- hnx] at hX;simp[RE,F6];refine mI [12] [] (ac.ag hMl) ?_;simp;refine Hv (aa.ag hX) ?_;simp;refine⟨a7 (by simp[F6]) (by simp),?_⟩;rw[aD (by omega)];refine hK (j+1) _ (by omega) (by omega) (Wk.list rfl ?_ ?_)
  ·simp;omega
  ·simp[hb]
 ·obtain rfl:j=N:=by omega
  rw[hu];dsimp only;refine hE _ _ ?_;simp only[cv];simp[RG,OS];refine bL [12] [] (ac.ag hM4) ?_;cases o with
  | true =>
    simp[OT,EL];refine mI [12] [] (ac.ag hM5) ?_;simp;refine gm (aa.ag hap) ?_;simp;refine⟨a7 (by simp[EL]) (by simp),?_⟩;refine cp _ (Wk.refl _) ?_;simp[ER,qz];exact a7 (by simp[qz]) (by simp)
  | false =>
    simp;refine cp _ (Wk.refl _) ?_;simp[ER,qz];exact a7 (by simp[qz]) (by simp)
set_option maxHeartbeats 4000000 in
theorem Qf (code:List UInt8):∃ (c:Console) (t:List UInt8),lu c/\t.length<=4000/\di oc [.ro 1 (code.map Y)] (.tup [co c,S t]):=by
 obtain ⟨d,k1,s1,⟨hd,hk1⟩,hM1⟩:=CZ code 0 0 (by omega);obtain ⟨l0,k2,s2,⟨hl0,hk2⟩,hM2⟩:=jG code k1 s1 d (by omega) (by have:=hd.2.1;omega) hd.2.2;obtain ⟨x,k3,s3,⟨hx,hk3⟩,hM3⟩:=aK code k2 s2 4 (by omega) (by omega);obtain ⟨N,rfl⟩:∃ N:Nat,x=N:=⟨x.toNat,by omega⟩
 obtain ⟨t,ht0,htok,htR⟩:=vG (A:=(Nat×Int)×List UInt8) (R:=fun a b=>∃ l:List UInt8,ie cA [bm code a.1.1 a.1.2] [cR,co d] (S l) [some (bm code b.1.1 b.1.2)]/\b.2=a.2++10::l)
  (ok:=fun n a=>a.2.length<=400+401 * n/\k3<=a.1.1/\a.1.1<=k3+100 * n) ((k3,s3),l0) N ⟨by dsimp only;omega,by dsimp only;omega⟩ (fun n a hn ha=>by
   obtain ⟨l,ka,sa,⟨hl,hka⟩,hMl⟩:=jG code a.1.1 a.1.2 d (by omega) (by have:=hd.2.1;omega) hd.2.2;exact⟨((ka,sa),a.2++10::l),⟨l,hMl,rfl⟩,by dsimp only;rw[List.length_append,List.length_cons];omega,by dsimp only;omega⟩)
 obtain ⟨hcN,hkN⟩:=htok N (Nat.le_refl _);obtain ⟨u,hu⟩:∃ u,t N=u:=⟨_,rfl⟩;rw[hu] at hcN hkN;obtain ⟨⟨k4,s4⟩,L⟩:=u;dsimp only at hcN hkN;obtain ⟨o,k5,s5,hk5,hM5⟩:=dh code k4 s4 20 (by omega) (by omega);obtain ⟨v,k6,s6,⟨hv,hk6⟩,hM6⟩:=aK code k5 s5 2 (by omega) (by omega);obtain ⟨n,hn⟩:∃ n:Nat,29+v=n:=⟨(29+v).toNat,by omega⟩;refine⟨d,if o=true then List.replicate n 10 else L,hd,?_,?_⟩
 ·split
  ·rw[List.length_replicate];omega
  ·omega
 refine aa.ofN HP (by simp) ?_;simp[vq,sg,si,sj];refine bL [11] [] (ac.ag hM1) ?_;simp[sk];refine bL [11] [] (ac.ag hM2) ?_;simp[sn];refine bL [11] [] (ac.ag hM3) ?_;simp[rW]
 refine dl (fun j:Nat=>⟨[(2,.ref 2 0 0),(4,.ref 11 0 0),(5,.ref 5 0 0),(6,S (t j).2),(7,I ((N:Int) - j))],[(11,bm code (t j).1.1 (t j).1.2),(2,⟨4,[.agg [nM,S [],S [],I 0]]⟩),(5,⟨4,[co d]⟩)],[]⟩) (fun j=>N - j) (fun j=>j<=N) 0
  (Wk.list rfl (by simp[ht0]) (by simp[ht0])) (by simp) ?_
 intro j hj K hK hR' hE;obtain ⟨hcj,hkj⟩:=htok j hj;simp[sq,sx];refine⟨fun hlt=>?_,fun hge=>?_⟩
 ·obtain ⟨l,hMl,hnx⟩:=htR j (by omega);obtain ⟨a,ha⟩:∃ a,t j=a:=⟨_,rfl⟩;obtain ⟨b,hb⟩:∃ b,t (j+1)=b:=⟨_,rfl⟩;rw[ha] at hMl hnx hcj ⊢;rw[hb] at hMl hnx;obtain ⟨⟨ka,sa⟩,ta⟩:=a;obtain ⟨⟨kb,sb⟩,tb⟩:=b;dsimp only at hMl hnx hcj ⊢;simp[sw]
  repeat (refine⟨by omega,?_⟩)
  refine bL [11] [] (ac.ag hMl) ?_;simp
  have htb:tb.length<=400+401 * (j+1):=by
   have:=(htok (j+1) (by omega)).1
   rwa [hb] at this
  rw[hnx,List.length_append,List.length_cons] at htb;refine⟨by omega,?_⟩;rw[aD (by omega)];refine hK (j+1) _ (by omega) (by omega) (Wk.list rfl ?_ ?_)
  ·simp[hb,hnx];omega
  ·simp[hb]
 ·obtain rfl:j=N:=by omega
  rw[hu];dsimp only;refine hE _ _ ?_;simp only[cv];simp[sy];refine bL [11] [] (ac.ag hM5) ?_;cases o with
  | true =>
    simp[qB,qC,qk];refine bL [11] [] (ac.ag hM6) ?_;simp;rw[aD (by omega),hn]
    refine dl (fun j:Nat=>⟨[(2,.ref 2 0 0),(5,.ref 5 0 0),(6,S (List.replicate j 10)),(8,I ((n:Int) - j))],[(2,⟨4,[.agg [nM,S [],S [],I 0]]⟩),(5,⟨4,[co d]⟩)],[]⟩) (fun j=>n - j) (fun j=>j<=n) 0
     Wk.li (by simp) ?_
    intro j hj K hN hR hE;simp[qD,qF];refine⟨fun hlt=>?_,fun hge=>?_⟩
    ·have hrep:List.replicate (j+1) (10:UInt8)=List.replicate j 10++[10]:=by rw[List.replicate_succ']
     simp[qE];refine⟨by omega,?_⟩;rw[aD (by omega)];refine hN (j+1) _ (by omega) (by omega) (Wk.list rfl ?_ ?_)
     ·simp[hrep];omega
     ·simp
    ·obtain rfl:j=n:=by omega
     refine hE _ _ ?_;simp only[cv];refine cp _ (Wk.refl _) ?_;simp[kI]
  | false =>
    simp;refine cp _ (Wk.refl _) ?_;simp[kI]
def CN:=[eF 2 1 0,eF 3 1 1,ok 4 (vB false)]
def CP:=[aL 6 0 2,bl 7 1 6,oo 8 (.len false (.t 7)),aL 9 0 3,bl 10 1 9,oo 11 (.len false (.t 10)),cI 12 .neq 8 11]
def Qd:=[ok 4 (vB false)]
def CQ:=[ok 5 (vI 0)]
def CS:=[om 13 5,aL 14 0 2,bl 15 1 14,oo 16 (.len false (.t 15)),cI 17 .lss 13 16]
def CT:=[aL 20 0 2,bl 21 1 20,om 22 5,ft 23 18 21 22,bu 24 18 23,aL 25 0 3,bl 26 1 25,om 27 5,ft 28 18 26 27,bu 29 18 28,oo 30 (.bin .neq (.struct [EK.int,EK.str,EK.int,EK.int,EK.int,EK.int,EK.int,EK.int,EK.int,EK.int,EK.int,EK.int,EK.int,EK.int,EK.int,EK.int,EK.int,EK.int]) (.t 24) (.t 29))]
def rM:List (List Nat):=[[],[0],[],[0,1,2],[0,1,2,3],[],[5],[],[5,6,7],[5,6,7,8],[0,1,2,3,4,5,6,7,8,9]]
def Qe:=[ok 4 (vB false)]
def CU:=[om 18 5,fL 19 18 1,om 5 19]
def A6:C:=(ss (sr CS [2,3,5,17] (sc 17 .skip (.exit 0))) (ss (.block 1 (ss (.regD CT rM [2,3,5,30]) (sc 30 (sr Qe [4] .ret) .skip))) (.reg CU [2,3,5])))
def CW:=[ok 4 (vB true)]
def Gv:C:=(sr CN [2,3] (ss (sr CP [2,3,12] (sc 12 (sr Qd [4] .ret) .skip)) (ss (sr CQ [2,3,5] (.block 0 (.loop A6))) (sr CW [4] .ret))))
def Ze:Nat->List Nat
 | 0=>[2,3]
 | 1=>[2,3,12]
 | 2=>[4]
 | 3=>[2,3,5]
 | 4=>[2,3,5,17]
 | 6=>[2,3,5,30]
 | 7=>[4]
 | 5=>[2,3,5]
 | 8=>[4]
 | _=>[]
theorem TD:cE xA Gv [(.tmp 4)] 31 :=
 ⟨Tryz.f73,_,Ze,func73,rfl,by kernel_rfl,by kernel_rfl,by kernel_rfl,rfl⟩
def Fe:=[eF 2 4 0,eF 3 4 1,ok 4 (vB false)]
def Ff:=[aL 5 0 2,bu 6 1 5,aL 7 0 3,bu 8 1 7,dK 9 xA 6 8,om 10 9,oT 10 11 (.faddr 1 (.t 2)),oT 10 12 (.ld true 3 (.t 11)),oT 10 13 (.faddr 1 (.t 3)),oT 10 14 (.ld true 3 (.t 13)),oT 10 15 (.bin .eql (.struct [EK.str,EK.str,EK.int]) (.t 12) (.t 14)),oo 16 (.pick (.t 10) (.t 15) (xB false)),om 4 16]
def Jk:C:=(sr Fe [2,3] (sr Ff [4] .ret))
theorem Y7:cE vR Jk [(.tmp 4)] 17:=dE func28 rfl
def Fb:=[ok 2 (vB false)]
def Fc:=[om 3 0,oo 4 (.len false (.t 3)),cn 5 .gtr 4 65536,om 2 5]
def NO:C:=(sr Fb [0] (sr Fc [2] .ret))
theorem aaq:cE ED NO [(.tmp 2)] 6:=dE func16 rfl
theorem aD5 (code:List UInt8):di ED [.ro 1 (code.map Y)] (B (decide (65536 < code.length))):=by
 refine aa.ofL aaq (by simp) fun hl=>?_;simp[NO,Fb,Fc];omega
theorem amL (l:aT):di xA [bn l,bn l] (B true):=by
 refine aa.ofL TD (by simp) fun hl=>?_;simp at hl;simp[Gv,CN,CP,CQ,A6];refine dl (fun i:Nat=>⟨[(2,.ref 2 0 0),(3,.ref 3 0 0),(5,I i)],[(2,⟨1,[bn l]⟩),(3,⟨1,[bn l]⟩)],[]⟩) (fun i=>l.length - i) (fun i=>i<=l.length) 0 Wk.li (by simp) ?_;intro i hi K hN hR hE;simp[CS,CU];refine⟨fun hlt=>?_,fun hge=>?_⟩
 ·obtain ⟨x,hx⟩:∃ x,l[i]=x:=⟨_,rfl⟩;have hg:l[i]?=some x:=by rw[<- hx];exact List.getElem?_eq_getElem hlt
  have hgE:∀ h,l[i]'h=x:=fun _=>hx;simp[CT,rM,hlt,hg,hgE];refine⟨a7 (by simp[rM]) (by simp),?_⟩;rw[aD (by omega)];exact hN (i+1) _ (by omega) (by omega) Wk.li
 ·obtain rfl:i=l.length:=by omega
  refine hE _ _ ?_;simp[CW]
theorem aeh (c:Console):di vR [co c,co c] (B true):=by
 refine aa.of Y7 (by simp) ?_;simp[Jk,Fe,Ff];refine al (aa.ag (amL c.grants)) ?_;simp
end Go.Proofs.YtnjjimhkbpdpgaaGreatDoor
