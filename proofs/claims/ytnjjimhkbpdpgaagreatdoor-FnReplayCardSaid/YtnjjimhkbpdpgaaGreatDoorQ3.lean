/- Parts of the proof that several claims share, part 3. -/
import Derived.Sort.Grow
import Derived.Deep.Draws
import Derived.Below
import Derived.Test.YtnjjimhkbpdpgaaGreatDoorQ2
set_option linter.unusedVariables false
set_option linter.unusedSimpArgs false
namespace Go.Proofs.YtnjjimhkbpdpgaaGreatDoor
open Go.Abs
set_option maxRecDepth 100000
open Tryz
def akk:=[eF 2 1 0,dD 4 1 (.agg [vN]),ok 5 (vS [])]
def akl:=[om 20 1,oo 21 (.call Fw [.t 20,(.k (vS [32]))]),om 19 21,cJ 22 19 0,cJ 23 19 1,cJ 24 19 2,om 6 22,om 7 23,om 8 24]
def akm:=[om 26 7,oo 27 (.call Fw [.t 26,(.k (vS [32]))]),om 25 27,cJ 28 25 0,cJ 29 25 1,cJ 30 25 2,om 9 28,om 10 29,om 11 30]
def akn:=[om 32 9,cg 33 Fv 32,om 31 33,cJ 34 31 0,cJ 35 31 1,om 12 34,om 13 35]
def ako:=[om 37 10,cg 38 Wt 37,om 36 38,cJ 39 36 0,cJ 40 36 1,dD 14 15 lm,bg 15 14 39,om 15 40]
def akp:=[om 41 8,oo 42 (.un .not (.t 41)),om 43 42,oF 43 44 (.mv (.t 11)),oF 43 45 (.un .not (.t 44)),oo 46 (.pick (.t 43) (xB true) (.t 45)),om 47 46,oF 47 48 (.mv (.t 13)),oF 47 49 (.un .not (.t 48)),oo 50 (.pick (.t 47) (xB true) (.t 49)),om 51 50,oF 51 52 (.mv (.t 15)),oF 51 53 (.un .not (.t 52)),oo 54 (.pick (.t 51) (xB true) (.t 53))]
def ET:=[bu 55 1 2,bg 1 4 55,ok 5 (vS [63])]
def akq:=[bu 57 1 2,om 58 6,om 59 12,bu 60 15 14,oo 61 (.call Zm [.t 57,.t 58,.t 59,.t 60]),om 56 61,cJ 62 56 0,cJ 63 56 1,cJ 64 56 2,dD 16 1 (.agg [vN]),bg 1 16 62,om 17 63,om 18 64]
def akr:=[om 65 18,oo 66 (.un .not (.t 65))]
def aks:=[bu 67 1 2,bg 1 4 67,ok 5 (vS [63])]
def afQ:=[bu 68 1 16,om 69 17,cg 70 gk 69,bg 1 4 68,om 5 70]
def PI:List (List Nat):=[[],[],[1],[0,1,2],[0,1,2,3]]
def ati:C:=(sr akk [1,2,4] (sr akl [2,4,6,7,8] (sr akm [2,4,6,8,9,10,11] (sr akn [2,4,6,8,10,11,12,13] (sr ako [2,4,6,8,11,12,13,14,15] (ss (sr akp [2,4,6,12,14,54] (sc 54 (sr ET [4,5] .ret) .skip)) (sr akq [2,4,16,17,18] (ss (sr akr [2,4,16,17,66] (sc 66 (sr aks [4,5] .ret) .skip)) (ss (.regD afQ PI [4,5]) .ret)))))))))
theorem aEz:cE adl ati [(.cell 4 true 1),(.tmp 5)] 71:=dE func86 rfl
def apY:=[eF 2 1 0,dD 4 1 (.agg [vN]),ok 5 (vS [])]
def apZ:=[om 13 1,oo 14 (.iaddr 1 (.t 13) (xI 1)),bl 15 1 14,cg 16 Fv 15,om 12 16,cJ 17 12 0,cJ 18 12 1,om 6 17,om 7 18]
def ap0:=[om 19 7,oo 20 (.un .not (.t 19))]
def ap1:=[bu 21 1 2,bg 1 4 21,ok 5 (vS [63])]
def ap2:=[om 22 1,oo 23 (.iaddr 1 (.t 22) (xI 0)),bl 24 1 23,oo 25 (.bin .eql .none (.t 24) (.k (vS [114,101,118,111,107,101]))),om 26 25,oT 26 27 (.mv (.t 1)),oT 26 28 (.len false (.t 27)),oT 26 29 (.bin .eql .none (.t 28) (xI 2)),oo 30 (.pick (.t 26) (.t 29) (xB false))]
def ap3:=[bu 32 1 2,om 33 6,dK 34 PD 32 33,om 31 34,cJ 35 31 0,cJ 36 31 1,dD 8 1 (.agg [vN]),bg 1 8 35,om 9 36]
def ZR:=[om 37 9]
def ap4:=[bu 38 1 8,bg 1 4 38,ok 5 (vS [111,107])]
def ap5:=[om 39 1,oo 40 (.iaddr 1 (.t 39) (xI 0)),bl 41 1 40,oo 42 (.bin .eql .none (.t 41) (.k (vS [116,114,97,110,115,102,101,114]))),om 43 42,oT 43 44 (.mv (.t 1)),oT 43 45 (.len false (.t 44)),oT 43 46 (.bin .eql .none (.t 45) (xI 3)),oo 47 (.pick (.t 43) (.t 46) (xB false))]
def ap6:=[bu 49 1 2,om 50 6,om 51 1,oo 52 (.iaddr 1 (.t 51) (xI 2)),bl 53 1 52,oo 54 (.call J2 [.t 49,.t 50,.t 53]),om 48 54,cJ 55 48 0,cJ 56 48 1,dD 10 1 (.agg [vN]),bg 1 10 55,om 11 56]
def Zu:List (List Nat):=[[],[],[],[2],[2,3],[0,1,2,3,4],[0,1,2,3,4,5],[0,1,2,3,4,5,6],[0,1,2,3,4,5,6],[],[0,1,2,3,4,5,6,7,9],[0,1,2,3,4,5,6,7,8,9,10]]
def U0:=[om 57 11]
def akj:=[bu 58 1 10,bg 1 4 58,ok 5 (vS [111,107])]
def Ld:=[bu 59 1 2,bg 1 4 59,ok 5 (vS [63])]
def azl:C:=(sr apY [1,2,4] (sr apZ [1,2,4,6,7] (ss (sr ap0 [1,2,4,6,20] (sc 20 (sr ap1 [4,5] .ret) .skip)) (ss (sr ap2 [1,2,4,6,30] (sc 30 (sr ap3 [1,2,4,6,8,9] (ss (.wk (.reg ZR [1,2,4,6,8,37])) (sc 37 (sr ap4 [4,5] .ret) .skip))) .skip)) (ss (ss (.wk (.reg ap5 [1,2,4,6,47])) (sc 47 (ss (.regD ap6 Zu [2,4,10,11]) (ss (.wk (.reg U0 [2,4,10,57])) (sc 57 (sr akj [4,5] .ret) .skip))) .skip)) (sr Ld [4,5] .ret))))))
theorem aGv:cE ais azl [(.cell 4 true 1),(.tmp 5)] 60:=dE func87 rfl
def afR:=[eF 2 1 0,ok 4 (vS [])]
def afS:=[om 13 1,oo 14 (.iaddr 1 (.t 13) (xI 1)),bl 15 1 14,cg 16 Fv 15,om 12 16,cJ 17 12 0,cJ 18 12 1,om 5 17,om 6 18]
def afT:=[bu 19 1 2,om 20 5,dK 21 Iw 19 20,om 7 21]
def afU:=[om 22 6,oo 23 (.un .not (.t 22)),om 24 23,oF 24 25 (.mv (.t 7)),oF 24 26 (.bin .lss .none (.t 25) (xI 0)),oo 27 (.pick (.t 24) (xB true) (.t 26))]
def PU:=[ok 4 (vS [63])]
def afV:=[aL 28 0 2,bl 29 1 28,om 30 7,ft 31 18 29 30,aL 32 3 31,bu 33 15 32,dD 8 15 lm,bg 15 8 33]
def afW:=[om 35 1,oo 36 (.iaddr 1 (.t 35) (xI 0)),bl 37 1 36,oo 38 (.bin .eql .none (.t 37) (.k (vS [115,104,111,119]))),om 39 38,oT 39 40 (.mv (.t 1)),oT 39 41 (.len false (.t 40)),oT 39 42 (.bin .eql .none (.t 41) (xI 2)),oo 43 (.pick (.t 39) (.t 42) (xB false)),om 34 43]
def afX:=[bu 44 15 8,cg 45 EB 44,om 4 45]
def afY:=[om 47 1,oo 48 (.iaddr 1 (.t 47) (xI 0)),bl 49 1 48,oo 50 (.bin .eql .none (.t 49) (.k (vS [115,104,111,114,116]))),om 51 50,oT 51 52 (.mv (.t 1)),oT 51 53 (.len false (.t 52)),oT 51 54 (.bin .eql .none (.t 53) (xI 2)),oo 55 (.pick (.t 51) (.t 54) (xB false)),om 46 55]
def afZ:=[bu 56 15 8,oo 57 (.bslice 2 (.agg [vI 0,vI 0]) 0 []),bu 58 15 8,cg 59 Iz 58,oo 60 (.call EC [.t 56,.t 57,.t 59]),cg 61 Ak 60,om 4 61]
def PJ:List (List Nat):=[[],[],[],[2],[0,1,2,3],[0,1,2,3,4],[0,1,2,3,4,5]]
def abL:=[om 63 1,oo 64 (.iaddr 1 (.t 63) (xI 0)),bl 65 1 64,oo 66 (.bin .eql .none (.t 65) (.k (vS [100,105,102,102,101,114]))),om 67 66,oT 67 68 (.mv (.t 1)),oT 67 69 (.len false (.t 68)),oT 67 70 (.bin .eql .none (.t 69) (xI 3)),oo 71 (.pick (.t 67) (.t 70) (xB false)),om 62 71]
def abM:=[om 73 1,oo 74 (.iaddr 1 (.t 73) (xI 2)),bl 75 1 74,cg 76 Fv 75,om 72 76,cJ 77 72 0,cJ 78 72 1,om 9 77,om 10 78]
def abN:=[bu 79 1 2,om 80 9,dK 81 Iw 79 80,om 11 81]
def abO:=[om 82 10,om 83 82,oT 83 84 (.mv (.t 11)),oT 83 85 (.bin .geq .none (.t 84) (xI 0)),oo 86 (.pick (.t 83) (.t 85) (xB false))]
def abP:=[bu 87 15 8,aL 88 0 2,bl 89 1 88,om 90 11,ft 91 18 89 90,aL 92 3 91,bu 93 15 92,dK 94 SD 87 93,cg 95 gk 94,om 4 95]
def M6:List (List Nat):=[[],[],[1],[],[1,2,3],[1,2,3,4],[1,2,3,4,5],[0,1,2,3,4,5,6],[0,1,2,3,4,5,6,7],[0,1,2,3,4,5,6,7,8]]
def za:=[ok 4 (vS [63])]
def anK:C:=(sr afR [1,2] (sr afS [1,2,5,6] (sr afT [1,2,6,7] (ss (sr afU [1,2,7,27] (sc 27 (sr PU [4] .ret) .skip)) (sr afV [1,2,8] (ss (.block 0 (sr afW [1,2,8,34] (sc 34 (sr afX [4] .ret) (ss (.wk (.reg afY [1,2,8,46])) (sc 46 (ss (.regD afZ PJ [4]) .ret) (ss (.wk (.reg abL [1,2,8,62])) (sc 62 (sr abM [2,8,9,10] (sr abN [2,8,10,11] (sr abO [2,8,11,86] (sc 86 (ss (.regD abP M6 [4]) .ret) .skip)))) .skip))))))) (ss (.wk (.reg za [4])) .ret)))))))
theorem aCM:cE Zn anK [(.tmp 4)] 96:=dE func88 rfl
def akt:=[eF 3 1 0,ok 6 (vS [])]
def aku:=[om 13 1,oo 14 (.bin .eql .none (.t 13) (.k (vS [111,102])))]
def akv:=[om 15 2,cg 16 N0 15,oo 17 (.un .not (.t 16))]
def akw:=[ok 6 (vS [63])]
def akx:=[bu 19 1 3,om 20 2,dK 21 adi 19 20,om 18 21,cJ 22 18 0,cJ 23 18 1,om 7 22,om 8 23]
def aky:=[om 24 7,cg 25 J3 24,om 6 25]
def akz:=[om 27 2,cg 28 Wt 27,om 26 28,cJ 29 26 0,cJ 30 26 1,dD 9 15 lm,bg 15 9 29,om 10 30]
def akA:=[om 31 10,oo 32 (.un .not (.t 31))]
def akB:=[ok 6 (vS [63])]
def akC:=[om 33 1]
def af0:=[oo 35 (.bin .eql .none (.t 33) (.k (vS [99,111,110,102,108,105,99,116,115]))),om 34 35]
def af1:=[bu 36 1 3,bu 37 15 9,dK 38 ue 36 37,cg 39 J3 38,om 6 39]
def af2:=[oo 41 (.bin .eql .none (.t 33) (.k (vS [102,105,110,100]))),om 40 41]
def af3:=[bu 43 1 3,bu 44 15 9,dK 45 adh 43 44,om 42 45,cJ 46 42 0,cJ 47 42 1,om 11 46,om 12 47]
def af4:=[om 48 12]
def af5:=[om 49 11,cg 50 gk 49,om 6 50]
def af6:=[ok 6 (vS [63])]
def af7:=[bu 51 15 9,cg 52 EB 51,om 6 52]
def atj:C:=(sr akt [1,2,3] (ss (sr aku [1,2,3,14] (sc 14 (ss (sr akv [2,3,17] (sc 17 (sr akw [6] .ret) .skip)) (sr akx [7] (sr aky [6] .ret))) .skip)) (sr akz [1,3,9,10] (ss (sr akA [1,3,9,32] (sc 32 (sr akB [6] .ret) .skip)) (ss (sr akC [3,9,33] (.block 0 (sr af0 [3,9,33,34] (sc 34 (sr af1 [6] .ret) (sr af2 [3,9,40] (sc 40 (ss (sr af3 [11,12] (sr af4 [11,48] (sc 48 (sr af5 [6] .ret) .skip))) (sr af6 [6] .ret)) .skip)))))) (sr af7 [6] .ret))))))
theorem aEA:cE adm atj [(.tmp 6)] 53:=dE func89 rfl
def afG:=[eF 4 1 0,eF 7 15 3,dD 8 1 (.agg [vN]),ok 9 (vI 0),ok 10 (vB false)]
def afH:=[bu 14 1 4,cg 15 mZ 14,oo 16 (.un .not (.t 15))]
def aBh:=[oo 17 (.build (.agg [vN]) []),bg 1 8 17,ok 9 (vI 0),ok 10 (vB false)]
def afI:=[ok 11 (vI 1)]
def afJ:=[aL 18 0 4,bl 19 1 18,oo 20 (.len false (.t 19)),om 12 20]
def afK:=[om 21 12,cn 22 .gtr 21 0]
def afL:=[aL 23 0 4,bl 24 1 23,om 25 12,cn 26 .sub 25 1,ft 27 18 24 26,aL 28 0 27,bl 29 1 28,fL 30 29 1,om 11 30]
def afM:=[bu 31 1 4,cg 32 Ai 31,dD 13 1 (.agg [vN]),bg 1 13 32]
def afN:=[aL 33 0 13,bl 34 1 33,om 35 11,om 36 1,om 37 2,bu 38 15 7,oo 39 (.build zC [(0,(1,(.t 35))),(1,(1,(.t 36))),(2,(1,(.t 37))),(3,(15,(.t 38)))]),oo 40 (.bslice 18 zC 1 [(0,(.t 39))]),oo 41 (.app 18 152 (.t 34) (.t 40)),aL 42 0 13,bg 1 42 41]
def afO:=[bu 43 1 13,cg 44 mZ 43,oo 45 (.un .not (.t 44))]
def abJ:=[oo 46 (.build (.agg [vN]) []),bg 1 8 46,ok 9 (vI 0),ok 10 (vB false)]
def abK:=[bu 47 1 13,om 48 11,bg 1 8 47,om 9 48,ok 10 (vB true)]
def anJ:C:=(sr afG [1,2,4,7,8] (ss (sr afH [1,2,4,7,8,16] (sc 16 (sr aBh [8,9,10] .ret) .skip)) (sr afI [1,2,4,7,8,11] (ss (sr afJ [1,2,4,7,8,11,12] (sr afK [1,2,4,7,8,11,12,22] (sc 22 (.reg afL [1,2,4,7,8,11]) .skip))) (ss (.wk (.reg afM [1,2,7,8,11,13])) (sr afN [8,11,13] (ss (ss (.wk (.reg afO [8,11,13,45])) (sc 45 (sr abJ [8,9,10] .ret) .skip)) (sr abK [8,9,10] .ret))))))))
theorem aCK:cE Zm anJ [(.cell 8 true 1),(.tmp 9),(.tmp 10)] 49:=dE func143 rfl
def RM:=[eF 3 1 0,dD 6 1 (.agg [vN]),ok 7 (vB false)]
def RN:=[bu 11 1 3,om 12 1,dK 13 Iw 11 12,om 8 13]
def RO:=[bu 14 1 3,cg 15 mZ 14,oo 16 (.un .not (.t 15)),om 17 16,oF 17 18 (.mv (.t 8)),oF 17 19 (.bin .lss .none (.t 18) (xI 0)),oo 20 (.pick (.t 17) (xB true) (.t 19)),om 21 20,oF 21 22 (.mv (.t 2)),oF 21 23 (.call N0 [.t 22]),oF 21 24 (.un .not (.t 23)),oo 25 (.pick (.t 21) (xB true) (.t 24))]
def Gg:=[oo 26 (.build (.agg [vN]) []),bg 1 6 26,ok 7 (vB false)]
def RP:=[bu 27 1 3,cg 28 Ai 27,dD 9 1 (.agg [vN]),bg 1 9 28]
def RQ:=[aL 29 0 9,bl 30 1 29,om 31 8,ft 32 18 30 31,bu 33 18 32,dD 10 18 zC,bg 18 10 33]
def RR:=[om 34 2,aL 35 1 10,bg 1 35 34]
def RT:=[aL 36 0 9,bl 37 1 36,om 38 8,bu 39 18 10,ft 40 18 37 38,bg 18 40 39]
def RU:=[bu 41 1 9,bg 1 6 41,ok 7 (vB true)]
def V0:C:=(sr RM [1,2,3,6] (sr RN [2,3,6,8] (ss (sr RO [2,3,6,8,25] (sc 25 (sr Gg [6,7] .ret) .skip)) (sr RP [2,6,8,9] (sr RQ [2,6,8,9,10] (sr RR [6,8,9,10] (sr RT [6,9] (ss (.wk (.reg RU [6,7])) .ret))))))))
theorem ar1:cE J2 V0 [(.cell 6 true 1),(.tmp 7)] 42:=dE func145 rfl
def XA:=[eF 2 1 0,dD 4 1 (.agg [vN]),ok 5 (vB false)]
def XB:=[bu 7 1 2,om 8 1,dK 9 Iw 7 8,om 6 9]
def XC:=[bu 10 1 2,cg 11 mZ 10,oo 12 (.un .not (.t 11)),om 13 12,oF 13 14 (.mv (.t 6)),oF 13 15 (.bin .lss .none (.t 14) (xI 0)),oo 16 (.pick (.t 13) (xB true) (.t 15))]
def XD:=[oo 17 (.build (.agg [vN]) []),bg 1 4 17,ok 5 (vB false)]
def XE:=[oo 18 (.bslice 18 zC 0 []),aL 19 0 2,bl 20 1 19,om 21 6,oo 22 (.slc (some 18) (.t 20) none (some (.t 21))),oo 23 (.app 18 152 (.t 18) (.t 22)),aL 24 0 2,bl 25 1 24,om 26 6,fL 27 26 1,oo 28 (.slc (some 18) (.t 25) (some (.t 27)) none),oo 29 (.app 18 152 (.t 23) (.t 28)),oo 30 (.build (.agg [vN]) [(0,(1,(.t 29)))]),bg 1 4 30,ok 5 (vB true)]
def Kb:List (List Nat):=[[],[],[1],[],[1,2,3],[0,1,2,3,4],[],[6],[],[8],[6,7,8,9],[0,1,2,3,4,5,6,7,8,9,10],[0,1,2,3,4,5,6,7,8,9,10,11],[0,1,2,3,4,5,6,7,8,9,10,11,12],[0,1,2,3,4,5,6,7,8,9,10,11,12,13]]
def aew:C:=(sr XA [1,2,4] (sr XB [2,4,6] (ss (sr XC [2,4,6,16] (sc 16 (sr XD [4,5] .ret) .skip)) (ss (.regD XE Kb [4,5]) .ret))))
theorem ax3:cE PD aew [(.cell 4 true 1),(.tmp 5)] 31:=dE func144 rfl
def aoT:=[eF 2 1 0,ok 4 (vI 0)]
def aoU:=[ok 5 (vI 0)]
def aoV:=[om 6 5,aL 7 0 2,bl 8 1 7,oo 9 (.len false (.t 8)),cI 10 .lss 6 9]
def aoW:=[aL 13 0 2,bl 14 1 13,om 15 5,ft 16 18 14 15,aL 17 0 16,bl 18 1 17,om 19 1,cI 20 .eql 18 19]
def aoX:=[om 21 5,om 4 21]
def aoY:=[om 11 5,fL 12 11 1,om 5 12]
def anX:C:=(ss (sr aoV [1,2,5,10] (sc 10 .skip (.exit 0))) (ss (.block 1 (sr aoW [1,2,5,20] (sc 20 (sr aoX [4] .ret) .skip))) (.reg aoY [1,2,5])))
def aoZ:=[ok 4 (vI (-1))]
def azb:C:=(sr aoT [1,2] (ss (sr aoU [1,2,5] (.block 0 (.loop anX))) (sr aoZ [4] .ret)))
def aI0:Nat->List Nat
 | 0=>[1,2]
 | 1=>[1,2,5]
 | 2=>[1,2,5,10]
 | 4=>[1,2,5,20]
 | 5=>[4]
 | 3=>[1,2,5]
 | 6=>[4]
 | _=>[]
theorem aGl:cE Iw azb [(.tmp 4)] 22 :=
 ⟨Tryz.f146,_,aI0,func146,rfl,by kernel_rfl,by kernel_rfl,by kernel_rfl,rfl⟩
def ajz:=[eF 2 1 0,eF 3 15 1,ok 4 (vI 0),ok 5 (vB false)]
def ajA:=[bu 7 1 2,cg 8 mZ 7,oo 9 (.un .not (.t 8))]
def aDs:=[ok 4 (vI 0),ok 5 (vB false)]
def ajB:=[ok 6 (vI 0)]
def ajC:=[om 10 6,aL 11 0 2,bl 12 1 11,oo 13 (.len false (.t 12)),cI 14 .lss 10 13]
def ajD:=[aL 17 0 2,bl 18 1 17,om 19 6,ft 20 18 18 19,aL 21 3 20,bu 22 15 21,bu 23 15 3,oo 24 (.bin .eql (.struct [EK.int,EK.int,EK.int,EK.int,EK.int,EK.int,EK.int,EK.int,EK.int,EK.int,EK.int,EK.int,EK.int,EK.int,EK.int]) (.t 22) (.t 23))]
def T8:List (List Nat):=[[],[0],[],[0,1,2],[0,1,2,3],[0,1,2,3,4],[],[0,1,2,3,4,5,6]]
def ajE:=[aL 25 0 2,bl 26 1 25,om 27 6,ft 28 18 26 27,aL 29 0 28,bl 30 1 29,om 4 30,ok 5 (vB true)]
def ajF:=[om 15 6,fL 16 15 1,om 6 16]
def aic:C:=(ss (sr ajC [2,3,6,14] (sc 14 .skip (.exit 0))) (ss (.block 1 (ss (.regD ajD T8 [2,3,6,24]) (sc 24 (sr ajE [4,5] .ret) .skip))) (.reg ajF [2,3,6])))
def ajG:=[ok 4 (vI 0),ok 5 (vB false)]
def atb:C:=(sr ajz [2,3] (ss (sr ajA [2,3,9] (sc 9 (sr aDs [4,5] .ret) .skip)) (ss (sr ajB [2,3,6] (.block 0 (.loop aic))) (sr ajG [4,5] .ret))))
def aGS:Nat->List Nat
 | 0=>[2,3]
 | 1=>[2,3,9]
 | 2=>[4,5]
 | 3=>[2,3,6]
 | 4=>[2,3,6,14]
 | 6=>[2,3,6,24]
 | 7=>[4,5]
 | 5=>[2,3,6]
 | 8=>[4,5]
 | _=>[]
theorem aEs:cE adh atb [(.tmp 4),(.tmp 5)] 31 :=
 ⟨Tryz.f152,_,aGS,func152,rfl,by kernel_rfl,by kernel_rfl,by kernel_rfl,rfl⟩
def ajH:=[eF 2 1 0,ok 4 vN,ok 5 (vB false)]
def ajI:=[oo 8 (.bslice 1 (vI 0) 0 []),om 6 8]
def ajJ:=[bu 9 1 2,cg 10 mZ 9,oo 11 (.un .not (.t 10))]
def aDt:=[om 12 6,om 4 12,ok 5 (vB false)]
def ajK:=[ok 7 (vI 0)]
def ajL:=[om 13 7,aL 14 0 2,bl 15 1 14,oo 16 (.len false (.t 15)),cI 17 .lss 13 16]
def ajM:=[aL 20 0 2,bl 21 1 20,om 22 7,ft 23 18 21 22,aL 24 1 23,bl 25 1 24,om 26 1,cI 27 .eql 25 26]
def ajN:=[om 28 6,aL 29 0 2,bl 30 1 29,om 31 7,ft 32 18 30 31,aL 33 0 32,bl 34 1 33,oo 35 (.bslice 1 (vI 0) 1 [(0,(.t 34))]),oo 36 (.app 1 8 (.t 28) (.t 35)),om 6 36]
def ajO:=[om 18 7,fL 19 18 1,om 7 19]
def aid:C:=(ss (sr ajL [1,2,6,7,17] (sc 17 .skip (.exit 0))) (ss (.block 1 (sr ajM [1,2,6,7,27] (sc 27 (.reg ajN [1,2,6,7]) .skip))) (.reg ajO [1,2,6,7])))
def afP:=[om 37 6,om 4 37,ok 5 (vB true)]
def atc:C:=(sr ajH [1,2] (sr ajI [1,2,6] (ss (sr ajJ [1,2,6,11] (sc 11 (sr aDt [4,5] .ret) .skip)) (ss (sr ajK [1,2,6,7] (.block 0 (.loop aid))) (sr afP [4,5] .ret)))))
def aGT:Nat->List Nat
 | 0=>[1,2]
 | 1=>[1,2,6]
 | 2=>[1,2,6,11]
 | 3=>[4,5]
 | 4=>[1,2,6,7]
 | 5=>[1,2,6,7,17]
 | 7=>[1,2,6,7,27]
 | 8=>[1,2,6,7]
 | 6=>[1,2,6,7]
 | 9=>[4,5]
 | _=>[]
theorem aEt:cE adi atc [(.tmp 4),(.tmp 5)] 38 :=
 ⟨Tryz.f151,_,aGT,func151,rfl,by kernel_rfl,by kernel_rfl,by kernel_rfl,rfl⟩
def ai4:=[eF 1 18 0,ok 2 (vB false)]
def ai5:=[ok 2 (vB true)]
def as4:C:=(sr ai4 [] (sr ai5 [2] .ret))
theorem aEk:cE Sy as4 [(.tmp 2)] 3:=dE func102 rfl
def ai6:=[eF 2 18 0,ok 3 (vB false)]
def ai7:=[aL 4 1 2,bl 5 1 4,bl 6 1 1,cI 7 .eql 5 6,om 3 7]
def as5:C:=(sr ai6 [1,2] (sr ai7 [3] .ret))
theorem aEl:cE Sz as5 [(.tmp 3)] 8:=dE func107 rfl
def L4:=[eF 2 18 0,ok 3 (vB false)]
def L5:=[aL 4 3 2,bu 5 15 4,bu 6 15 1,dK 7 SA 5 6,om 3 7]
def Qg:C:=(sr L4 [1,2] (sr L5 [3] .ret))
theorem ahT:cE xT Qg [(.tmp 3)] 8:=dE func239 rfl
def Qs:=[eF 2 1 0,eF 3 15 1,ok 4 vN,ok 5 (vB false)]
def Qt:=[bu 6 1 2,cg 7 eU 6,oo 8 (.un .not (.t 7)),om 9 8,oF 9 10 (.ld true 15 (.t 3)),oF 9 11 (.call rD [.t 10]),oF 9 12 (.un .not (.t 11)),oo 13 (.pick (.t 9) (xB true) (.t 12))]
def anu:=[ok 4 vN,ok 5 (vB false)]
def Qu:=[bu 14 1 2,oo 15 (.clo xT [.t 3]),dK 16 qq 14 15,om 4 16,ok 5 (vB true)]
def VJ:C:=(sr Qs [2,3] (ss (sr Qt [2,3,13] (sc 13 (sr anu [4,5] .ret) .skip)) (sr Qu [4,5] .ret)))
theorem arI:cE JQ VJ [(.tmp 4),(.tmp 5)] 17:=dE func174 rfl
def aiN:=[eF 2 1 0,eF 3 15 1,ok 4 (vI 0),ok 5 (vB false)]
def aiO:=[bu 8 1 2,cg 9 eU 8,oo 10 (.un .not (.t 9))]
def aDr:=[ok 4 (vI 0),ok 5 (vB false)]
def aiP:=[aL 11 0 2,bl 12 1 11,oo 13 (.len false (.t 12)),ok 14 (vI 0)]
def aiQ:=[cI 15 .lss 14 13]
def aiR:=[ft 16 18 12 14,bu 17 18 16,dD 7 18 zC,bg 18 7 17]
def aiS:=[aL 18 3 7,bu 19 15 18,bu 20 15 3,oo 21 (.bin .eql (.struct [EK.int,EK.int,EK.int,EK.int,EK.int,EK.int,EK.int,EK.int,EK.int,EK.int,EK.int,EK.int,EK.int,EK.int,EK.int]) (.t 19) (.t 20))]
def aiT:=[aL 22 0 7,bl 23 1 22,om 4 23,ok 5 (vB true)]
def aiU:=[fL 24 14 1,om 14 24]
def ah8:C:=(sr aiQ [3,12,13,14,15] (ss (sc 15 .skip (.exit 0)) (ss (.block 1 (sr aiR [3,7,12,13,14] (sr aiS [3,7,12,13,14,21] (sc 21 (sr aiT [4,5] .ret) .skip)))) (.reg aiU [3,12,13,14]))))
def ae4:=[ok 4 (vI 0),ok 5 (vB false)]
def as2:C:=(sr aiN [2,3] (ss (sr aiO [2,3,10] (sc 10 (sr aDr [4,5] .ret) .skip)) (ss (sr aiP [3,12,13,14] (.block 0 (.loop ah8))) (sr ae4 [4,5] .ret))))
theorem aEi:cE ada as2 [(.tmp 4),(.tmp 5)] 25:=dE func175 rfl
def Ru:=[eF 1 1 0,dD 2 1 (.agg [vN]),ok 3 (vB false)]
def Rv:=[bu 4 1 1,cg 5 eU 4,oo 6 (.un .not (.t 5))]
def Rw:=[oo 7 (.build (.agg [vN]) []),bg 1 2 7,ok 3 (vB false)]
def Rx:=[bu 8 1 1,bg 1 2 8,ok 3 (vB true)]
def VX:C:=(sr Ru [1,2] (ss (sr Rv [1,2,6] (sc 6 (sr Rw [2,3] .ret) .skip)) (sr Rx [2,3] .ret)))
theorem arY:cE JZ VX [(.cell 2 true 1),(.tmp 3)] 9:=dE func160 rfl
def ae5:=[eF 4 1 0,eF 7 15 3,dD 8 1 (.agg [vN]),ok 9 (vI 0),ok 10 (vB false)]
def ae6:=[bu 14 1 4,cg 15 eU 14,oo 16 (.un .not (.t 15))]
def aBg:=[oo 17 (.build (.agg [vN]) []),bg 1 8 17,ok 9 (vI 0),ok 10 (vB false)]
def ae7:=[ok 11 (vI 1)]
def ae8:=[aL 18 0 4,bl 19 1 18,oo 20 (.len false (.t 19)),om 12 20]
def ae9:=[om 21 12,cn 22 .gtr 21 0]
def afa:=[aL 23 0 4,bl 24 1 23,om 25 12,cn 26 .sub 25 1,ft 27 18 24 26,aL 28 0 27,bl 29 1 28,fL 30 29 1,om 11 30]
def afb:=[bu 31 1 4,cg 32 lV 31,dD 13 1 (.agg [vN]),bg 1 13 32]
def afc:=[aL 33 0 13,bl 34 1 33,om 35 11,om 36 1,om 37 2,bu 38 15 7,oo 39 (.build zC [(0,(1,(.t 35))),(1,(1,(.t 36))),(2,(1,(.t 37))),(3,(15,(.t 38)))]),oo 40 (.bslice 18 zC 1 [(0,(.t 39))]),oo 41 (.app 18 152 (.t 34) (.t 40)),aL 42 0 13,bg 1 42 41]
def afd:=[bu 43 1 13,cg 44 eU 43,oo 45 (.un .not (.t 44))]
def aaI:=[oo 46 (.build (.agg [vN]) []),bg 1 8 46,ok 9 (vI 0),ok 10 (vB false)]
def aaJ:=[bu 47 1 13,om 48 11,bg 1 8 47,om 9 48,ok 10 (vB true)]
def anD:C:=(sr ae5 [1,2,4,7,8] (ss (sr ae6 [1,2,4,7,8,16] (sc 16 (sr aBg [8,9,10] .ret) .skip)) (sr ae7 [1,2,4,7,8,11] (ss (sr ae8 [1,2,4,7,8,11,12] (sr ae9 [1,2,4,7,8,11,12,22] (sc 22 (.reg afa [1,2,4,7,8,11]) .skip))) (ss (.wk (.reg afb [1,2,7,8,11,13])) (sr afc [8,11,13] (ss (ss (.wk (.reg afd [8,11,13,45])) (sc 45 (sr aaI [8,9,10] .ret) .skip)) (sr aaJ [8,9,10] .ret))))))))
theorem aCC:cE Zh anD [(.cell 8 true 1),(.tmp 9),(.tmp 10)] 49:=dE func96 rfl
def Q7:=[eF 3 1 0,dD 6 1 (.agg [vN]),ok 7 (vB false)]
def Q8:=[bu 10 1 3,om 11 1,dK 12 qp 10 11,om 8 12]
def Q9:=[bu 13 1 3,cg 14 eU 13,oo 15 (.un .not (.t 14)),om 16 15,oF 16 17 (.mv (.t 8)),oF 16 18 (.bin .lss .none (.t 17) (xI 0)),oo 19 (.pick (.t 16) (xB true) (.t 18))]
def Ra:=[oo 20 (.build (.agg [vN]) []),bg 1 6 20,ok 7 (vB false)]
def Rb:=[bu 21 1 3,cg 22 lV 21,dD 9 1 (.agg [vN]),bg 1 9 22]
def Rc:=[aL 23 0 9,bl 24 1 23,om 25 8,om 26 2,ft 27 18 24 25,aL 28 1 27,bg 1 28 26]
def Rd:=[bu 29 1 9,cg 30 JZ 29,cJ 31 30 0,cJ 32 30 1,bg 1 6 31,om 7 32]
def VR:C:=(sr Q7 [1,2,3,6] (sr Q8 [2,3,6,8] (ss (sr Q9 [2,3,6,8,19] (sc 19 (sr Ra [6,7] .ret) .skip)) (sr Rb [2,6,8,9] (sr Rc [6,9] (ss (.wk (.reg Rd [6,7])) .ret))))))
theorem arQ:cE JW VR [(.cell 6 true 1),(.tmp 7)] 33:=dE func98 rfl
def GR:=[eF 2 18 0,ok 3 (vB false)]
def GS:=[aL 4 0 2,bl 5 1 4,bl 6 1 1,cI 7 .eql 5 6,om 3 7]
def Jg:C:=(sr GR [1,2] (sr GS [3] .ret))
theorem aam:cE sB Jg [(.tmp 3)] 8:=dE func229 rfl
def Kw:=[eF 2 1 0,eF 3 1 1,ok 4 (vI 0)]
def Kx:=[aL 5 0 2,bl 6 1 5,oo 7 (.clo sB [.t 3]),dK 8 gp 6 7,om 4 8]
def NJ:C:=(sr Kw [2,3] (sr Kx [4] .ret))
theorem ahb:cE qp NJ [(.tmp 4)] 9:=dE func158 rfl
def Ky:=[eF 2 1 0,dD 4 15 lm,ok 5 (vB false)]
def Kz:=[om 10 1,cg 11 Ft 10,om 9 11,cJ 12 9 0,cJ 13 9 1,om 6 12,om 7 13]
def KA:=[bu 14 1 2,om 15 6,dK 16 qp 14 15,om 8 16]
def KB:=[om 17 7,oo 18 (.un .not (.t 17)),om 19 18,oF 19 20 (.mv (.t 8)),oF 19 21 (.bin .lss .none (.t 20) (xI 0)),oo 22 (.pick (.t 19) (xB true) (.t 21))]
def Av:=[oo 23 (.build lm []),bg 15 4 23,ok 5 (vB false)]
def KC:=[aL 24 0 2,bl 25 1 24,om 26 8,ft 27 18 25 26,aL 28 3 27,bu 29 15 28,bg 15 4 29,ok 5 (vB true)]
def NK:C:=(sr Ky [1,2,4] (sr Kz [2,4,6,7] (sr KA [2,4,7,8] (ss (sr KB [2,4,8,22] (sc 22 (sr Av [4,5] .ret) .skip)) (sr KC [4,5] .ret)))))
theorem ahc:cE mX NK [(.cell 4 true 15),(.tmp 5)] 30:=dE func103 rfl
def KD:=[eF 2 1 0,ok 4 vN]
def KE:=[oo 8 (.bslice 1 (vI 0) 0 []),om 5 8]
def KF:=[aL 9 0 2,bl 10 1 9,oo 11 (.len false (.t 10)),ok 12 (vI 0)]
def KG:=[cI 13 .lss 12 11]
def KH:=[ft 14 18 10 12,bu 15 18 14,dD 7 18 zC,bg 18 7 15]
def KI:=[om 16 1,bu 17 18 7,oo 18 (.callv (.t 16) [.t 17])]
def KJ:=[om 19 5,aL 20 0 7,bl 21 1 20,oo 22 (.bslice 1 (vI 0) 1 [(0,(.t 21))]),oo 23 (.app 1 8 (.t 19) (.t 22)),om 5 23]
def KK:=[fL 24 12 1,om 12 24]
def JL:C:=(sr KG [1,5,10,11,12,13] (ss (sc 13 .skip (.exit 0)) (ss (.block 1 (sr KH [1,5,7,10,11,12] (sr KI [1,5,7,10,11,12,18] (sc 18 (.reg KJ [1,5,10,11,12]) .skip)))) (.reg KK [1,5,10,11,12]))))
def KL:=[om 25 5,om 4 25]
def NL:C:=(sr KD [1,2] (sr KE [1,2,5] (ss (sr KF [1,5,10,11,12] (.block 0 (.loop JL))) (sr KL [4] .ret))))
theorem ahd:cE qq NL [(.tmp 4)] 26:=dE func101 rfl
def auH:=[ok 2 (vB false)]
def auI:=[om 4 0,oo 5 (.len true (.t 4)),ok 6 (vI 0)]
def auJ:=[cI 7 .lss 6 5]
def auK:=[om 8 6,om 3 8]
def auL:=[om 9 3,cn 10 .eql 9 0,om 11 10,oT 11 12 (.mv (.t 0)),oT 11 13 (.mv (.t 3)),oT 11 14 (.idx (.t 12) (.t 13)),oT 11 15 (.bin .lss .none (.t 14) (.k (.v (.int .u8 (65))))),oT 11 16 (.mv (.t 15)),oF 16 17 (.mv (.t 0)),oF 16 18 (.mv (.t 3)),oF 16 19 (.idx (.t 17) (.t 18)),oF 16 20 (.bin .gtr .none (.t 19) (.k (.v (.int .u8 (90))))),oT 11 21 (.pick (.t 16) (xB true) (.t 20)),oo 22 (.pick (.t 11) (.t 21) (xB false)),om 23 22,oF 23 24 (.mv (.t 3)),oF 23 25 (.bin .gtr .none (.t 24) (xI 0)),oF 23 26 (.mv (.t 25)),oT 26 27 (.mv (.t 0)),oT 26 28 (.mv (.t 3)),oT 26 29 (.idx (.t 27) (.t 28)),oT 26 30 (.bin .lss .none (.t 29) (.k (.v (.int .u8 (97))))),oT 26 31 (.mv (.t 30)),oF 31 32 (.mv (.t 0)),oF 31 33 (.mv (.t 3)),oF 31 34 (.idx (.t 32) (.t 33)),oF 31 35 (.bin .gtr .none (.t 34) (.k (.v (.int .u8 (122))))),oT 26 36 (.pick (.t 31) (xB true) (.t 35)),oF 23 37 (.pick (.t 26) (.t 36) (xB false)),oo 38 (.pick (.t 23) (xB true) (.t 37))]
def auM:=[ok 2 (vB false)]
def auN:=[fL 39 6 1,om 6 39]
def atY:C:=(sr auJ [0,5,6,7] (ss (sc 7 .skip (.exit 0)) (ss (.block 1 (sr auK [0,3,5,6] (sr auL [0,5,6,38] (sc 38 (sr auM [2] .ret) .skip)))) (.reg auN [0,5,6]))))
def auO:=[om 40 0,oo 41 (.len true (.t 40)),oo 42 (.call mQ [.t 41,xI 1,xI 12]),om 2 42]
def aBY:C:=(sr auH [0] (ss (sr auI [0,5,6] (.block 0 (.loop atY))) (sr auO [2] .ret)))
theorem aIf:cE adf aBY [(.tmp 2)] 43:=dE func108 rfl
def ao6:=[ok 2 (vB false)]
def ao7:=[om 4 0,oo 5 (.len true (.t 4)),oo 6 (.call rZ [.t 5,xI 1,xI 12]),oo 7 (.un .not (.t 6)),om 8 7,oF 8 9 (.mv (.t 0)),oF 8 10 (.idx (.t 9) (xI 0)),oF 8 11 (.bin .lss .none (.t 10) (.k (.v (.int .u8 (65))))),oo 12 (.pick (.t 8) (xB true) (.t 11)),om 13 12,oF 13 14 (.mv (.t 0)),oF 13 15 (.idx (.t 14) (xI 0)),oF 13 16 (.bin .gtr .none (.t 15) (.k (.v (.int .u8 (90))))),oo 17 (.pick (.t 13) (xB true) (.t 16))]
def NB:=[ok 2 (vB false)]
def ao8:=[ok 3 (vI 1)]
def ao9:=[om 18 3,om 19 0,oo 20 (.len true (.t 19)),cI 21 .lss 18 20]
def apa:=[om 24 0,om 25 3,oo 26 (.idx (.t 24) (.t 25)),oo 27 (.bin .lss .none (.t 26) (.k (.v (.int .u8 (97))))),om 28 27,oF 28 29 (.mv (.t 0)),oF 28 30 (.mv (.t 3)),oF 28 31 (.idx (.t 29) (.t 30)),oF 28 32 (.bin .gtr .none (.t 31) (.k (.v (.int .u8 (122))))),oo 33 (.pick (.t 28) (xB true) (.t 32))]
def apb:=[ok 2 (vB false)]
def apc:=[om 22 3,fL 23 22 1,om 3 23]
def anY:C:=(ss (sr ao9 [0,3,21] (sc 21 .skip (.exit 0))) (ss (.block 1 (sr apa [0,3,33] (sc 33 (sr apb [2] .ret) .skip))) (.reg apc [0,3])))
def apd:=[ok 2 (vB true)]
def azd:C:=(sr ao6 [0] (ss (sr ao7 [0,17] (sc 17 (sr NB [2] .ret) .skip)) (ss (sr ao8 [0,3] (.block 0 (.loop anY))) (sr apd [2] .ret))))
def aI2:Nat->List Nat
 | 0=>[0]
 | 1=>[0,17]
 | 2=>[2]
 | 3=>[0,3]
 | 4=>[0,3,21]
 | 6=>[0,3,33]
 | 7=>[2]
 | 5=>[0,3]
 | 8=>[2]
 | _=>[]
theorem aGn:cE N0 azd [(.tmp 2)] 34 :=
 ⟨Tryz.f150,_,aI2,func150,rfl,by kernel_rfl,by kernel_rfl,by kernel_rfl,rfl⟩
def aj0:=[eF 1 18 0,ok 2 (vB false)]
def aj1:=[aL 3 0 1,bl 4 1 3,oo 5 (.call rZ [.t 4,xI 1,xI 999]),om 6 5,oT 6 7 (.faddr 1 (.t 1)),oT 6 8 (.ld false 1 (.t 7)),oT 6 9 (.call N0 [.t 8]),oo 10 (.pick (.t 6) (.t 9) (xB false)),om 11 10,oT 11 12 (.faddr 2 (.t 1)),oT 11 13 (.ld false 1 (.t 12)),oT 11 14 (.call rZ [.t 13,xI 1000,xI 2999]),oo 15 (.pick (.t 11) (.t 14) (xB false)),om 16 15,oT 16 17 (.faddr 3 (.t 1)),oT 16 18 (.ld true 15 (.t 17)),oT 16 19 (.call H2 [.t 18]),oo 20 (.pick (.t 16) (.t 19) (xB false)),om 2 20]
def atf:C:=(sr aj0 [1] (sr aj1 [2] .ret))
theorem aEw:cE adj atf [(.tmp 2)] 21:=dE func134 rfl
def ao0:=[eF 1 1 0,ok 2 (vB false)]
def ao1:=[aL 5 0 1,bl 6 1 5,oo 7 (.len false (.t 6)),cn 8 .gtr 7 12]
def ao2:=[ok 2 (vB false)]
def ao3:=[ok 3 (vI 0)]
def ao4:=[om 9 3,aL 10 0 1,bl 11 1 10,oo 12 (.len false (.t 11)),cI 13 .lss 9 12]
def ao5:=[aL 16 0 1,bl 17 1 16,om 18 3,ft 19 18 17 18,bu 20 18 19,cg 21 adj 20,oo 22 (.un .not (.t 21)),om 23 22,oF 23 24 (.mv (.t 3)),oF 23 25 (.bin .gtr .none (.t 24) (xI 0)),oF 23 26 (.mv (.t 25)),oT 26 27 (.faddr 0 (.t 1)),oT 26 28 (.ld false 1 (.t 27)),oT 26 29 (.mv (.t 3)),oT 26 30 (.bin .sub .none (.t 29) (xI 1)),oT 26 31 (.iaddr 18 (.t 28) (.t 30)),oT 26 32 (.faddr 0 (.t 31)),oT 26 33 (.ld false 1 (.t 32)),oT 26 34 (.faddr 0 (.t 1)),oT 26 35 (.ld false 1 (.t 34)),oT 26 36 (.mv (.t 3)),oT 26 37 (.iaddr 18 (.t 35) (.t 36)),oT 26 38 (.faddr 0 (.t 37)),oT 26 39 (.ld false 1 (.t 38)),oT 26 40 (.bin .geq .none (.t 33) (.t 39)),oT 26 41 (.mv (.t 40)),oF 41 42 (.faddr 0 (.t 1)),oF 41 43 (.ld false 1 (.t 42)),oF 41 44 (.mv (.t 3)),oF 41 45 (.bin .sub .none (.t 44) (xI 1)),oF 41 46 (.iaddr 18 (.t 43) (.t 45)),oF 41 47 (.faddr 2 (.t 46)),oF 41 48 (.ld false 1 (.t 47)),oF 41 49 (.faddr 0 (.t 1)),oF 41 50 (.ld false 1 (.t 49)),oF 41 51 (.mv (.t 3)),oF 41 52 (.iaddr 18 (.t 50) (.t 51)),oF 41 53 (.faddr 2 (.t 52)),oF 41 54 (.ld false 1 (.t 53)),oF 41 55 (.bin .gtr .none (.t 48) (.t 54)),oT 26 56 (.pick (.t 41) (xB true) (.t 55)),oF 23 57 (.pick (.t 26) (.t 56) (xB false)),oo 58 (.pick (.t 23) (xB true) (.t 57))]
def aoc:List (List Nat):=[[],[0],[],[0,1,2],[0,1,2,3],[0,1,2,3,4],[0,1,2,3,4,5],[0,1,2,3,4,5,6],[0,1,2,3,4,5,6,7],[0,1,2,3,4,5,6,7,8],[0,1,2,3,4,5,6,7,8,9],[0,1,2,3,4,5,6,7,8,9,10],[0,1,2,3,4,5,6,7,8,9,10,11],[0,1,2,3,4,5,6,7,8,9,10],[0,1,2,3,4,5,6,7,8,9,10,13],[0,1,2,3,4,5,6,7,8,9,10,11,12,13,14],[0,1,2,3,4,5,6,7,8,9,10,11,12,13,14,15],[0,1,2,3,4,5,6,7,8,9,10,11,12,13,14,15,16],[0,1,2,3,4,5,6,7,8,9,10],[0,1,2,3,4,5,6,7,8,9,10,18],[0,1,2,3,4,5,6,7,8,9,10],[0,1,2,3,4,5,6,7,8,9,10,18,19,20],[0,1,2,3,4,5,6,7,8,9,10,18,19,20,21],[0,1,2,3,4,5,6,7,8,9,10,18,19,20,21,22],[0,1,2,3,4,5,6,7,8,9,10,11,12,13,14,15,16,17,18,19,20,21,22,23],[0,1,2,3,4,5,6,7,8,9,10,11,12,13,14,15,16,17,18,19,20,21,22,23,24],[0,1,2,3,4,5,6,7,8,9,10,11,12,13,14,15,16,17,18,19,20,21,22,23,24,25],[0,1,2,3,4,5,6,7,8,9,10,11,12,13,14,15,16,17,18,19,20,21,22,23,24,25,26],[0,1,2,3,4,5,6,7,8,9,10,11,12,13,14,15,16,17,18,19,20,21,22,23,24,25],[0,1,2,3,4,5,6,7,8,9,10,11,12,13,14,15,16,17,18,19,20,21,22,23,24,25,28],[0,1,2,3,4,5,6,7,8,9,10,11,12,13,14,15,16,17,18,19,20,21,22,23,24,25,26,27,28,29],[0,1,2,3,4,5,6,7,8,9,10,11,12,13,14,15,16,17,18,19,20,21,22,23,24,25,26,27,28,29,30],[0,1,2,3,4,5,6,7,8,9,10,11,12,13,14,15,16,17,18,19,20,21,22,23,24,25,26,27,28,29,30,31],[0,1,2,3,4,5,6,7,8,9,10,11,12,13,14,15,16,17,18,19,20,21,22,23,24,25],[0,1,2,3,4,5,6,7,8,9,10,11,12,13,14,15,16,17,18,19,20,21,22,23,24,25,33],[0,1,2,3,4,5,6,7,8,9,10,11,12,13,14,15,16,17,18,19,20,21,22,23,24,25],[0,1,2,3,4,5,6,7,8,9,10,11,12,13,14,15,16,17,18,19,20,21,22,23,24,25,33,34,35],[0,1,2,3,4,5,6,7,8,9,10,11,12,13,14,15,16,17,18,19,20,21,22,23,24,25,33,34,35,36],[0,1,2,3,4,5,6,7,8,9,10,11,12,13,14,15,16,17,18,19,20,21,22,23,24,25,33,34,35,36,37],[0,1,2,3,4,5,6,7,8,9,10,11,12,13,14,15,16,17,18,19,20,21,22,23,24,25,26,27,28,29,30,31,32,33,34,35,36,37,38],[0,1,2,3,4,5,6,7,8,9,10,11,12,13,14,15,16,17,18,19,20,21,22,23,24,25,26,27,28,29,30,31,32,33,34,35,36,37,38,39],[0,1,2,3,4,5,6,7,8,9,10,11,12,13,14,15,16,17,18,19,20,21,22,23,24,25,26,27,28,29,30,31,32,33,34,35,36,37,38,39,40],[0,1,2,3,4,5,6,7,8,9,10,11,12,13,14,15,16,17,18,19,20,21,22,23,24,25,26,27,28,29,30,31,32,33,34,35,36,37,38,39,40,41]]
def ZF:=[ok 2 (vB false)]
def ZG:=[ok 4 (vI 0)]
def ZH:=[om 59 4,om 60 3,cI 61 .lss 59 60]
def ZI:=[aL 64 0 1,bl 65 1 64,om 66 4,ft 67 18 65 66,aL 68 3 67,bu 69 15 68,aL 70 0 1,bl 71 1 70,om 72 3,ft 73 18 71 72,aL 74 3 73,bu 75 15 74,dK 76 HB 69 75]
def Zs:List (List Nat):=[[],[0],[],[0,1,2],[0,1,2,3],[0,1,2,3,4],[],[6],[],[6,7,8],[6,7,8,9],[6,7,8,9,10],[0,1,2,3,4,5,6,7,8,9,10,11]]
def UW:=[ok 2 (vB false)]
def UX:=[om 62 4,fL 63 62 1,om 4 63]
def TN:C:=(ss (sr ZH [1,3,4,61] (sc 61 .skip (.exit 2))) (ss (.block 3 (ss (.regD ZI Zs [1,3,4,76]) (sc 76 (sr UW [2] .ret) .skip))) (.reg UX [1,3,4])))
def UY:=[om 14 3,fL 15 14 1,om 3 15]
def aie:C:=(ss (sr ao4 [1,3,13] (sc 13 .skip (.exit 0))) (ss (.block 1 (ss (ss (.regD ao5 aoc [1,3,58]) (sc 58 (sr ZF [2] .ret) .skip)) (sr ZG [1,3,4] (.block 2 (.loop TN))))) (.reg UY [1,3])))
def ajZ:=[ok 2 (vB true)]
def azc:C:=(sr ao0 [1] (ss (sr ao1 [1,8] (sc 8 (sr ao2 [2] .ret) .skip)) (ss (sr ao3 [1,3] (.block 0 (.loop aie))) (sr ajZ [2] .ret))))
def aI1:Nat->List Nat
 | 0=>[1]
 | 1=>[1,8]
 | 2=>[2]
 | 3=>[1,3]
 | 4=>[1,3,13]
 | 6=>[1,3,58]
 | 7=>[2]
 | 8=>[1,3,4]
 | 9=>[1,3,4,61]
 | 11=>[1,3,4,76]
 | 12=>[2]
 | 10=>[1,3,4]
 | 5=>[1,3]
 | 13=>[2]
 | _=>[]
theorem aGm:cE mZ azc [(.tmp 2)] 77 :=
 ⟨Tryz.f72,_,aI1,func72,rfl,by kernel_rfl,by kernel_rfl,by kernel_rfl,rfl⟩
def lI:=[ok 4 (vI 0)]
def lJ:=[om 6 0,oo 7 (.len false (.t 6)),ok 8 (vI 0)]
def lK:=[cI 9 .lss 8 7]
def lL:=[om 10 8,om 5 10]
def lM:=[om 11 1,om 12 0,om 13 5,ft 14 18 12 13,bu 15 18 14,oo 16 (.callv (.t 11) [.t 15])]
def lN:=[om 17 5,om 4 17]
def lO:=[fL 18 8 1,om 8 18]
def lG:C:=(sr lK [0,1,7,8,9] (ss (sc 9 .skip (.exit 0)) (ss (.block 1 (sr lL [0,1,5,7,8] (sr lM [0,1,5,7,8,16] (sc 16 (sr lN [4] .ret) .skip)))) (.reg lO [0,1,7,8]))))
def lP:=[ok 4 (vI (-1))]
def mN:C:=(sr lI [0,1] (ss (sr lJ [0,1,7,8] (.block 0 (.loop lG))) (sr lP [4] .ret)))
theorem sJ:cE gp mN [(.tmp 4)] 19:=dE func203 rfl
def pP:=[ok 4 (vB false)]
def pQ:=[om 5 0,om 6 1,dK 7 gp 5 6,cn 8 .geq 7 0,om 4 8]
def rj:C:=(sr pP [0,1] (sr pQ [4] .ret))
theorem Ev:cE lx rj [(.tmp 4)] 9:=dE func131 rfl
def IE:=[eF 2 18 0,ok 3 (vB false)]
def IF:=[aL 4 3 2,bu 5 15 4,aL 6 3 1,bu 7 15 6,dK 8 SA 5 7,om 3 8]
def LY:C:=(sr IE [1,2] (sr IF [3] .ret))
theorem acZ:cE pC LY [(.tmp 3)] 9:=dE func132 rfl
def Mb:=[eF 1 1 0,ok 2 (vB false)]
def Mc:=[aL 5 0 1,bl 6 1 5,oo 7 (.len false (.t 6)),ok 8 (vI 0)]
def Md:=[cI 9 .lss 8 7]
def Me:=[om 10 8,ft 11 18 6 8,bu 12 18 11,dD 4 18 zC,om 3 10,bg 18 4 12]
def Mf:=[aL 13 0 4,bl 14 1 13,oo 15 (.call mQ [.t 14,xI 1,xI 999]),oo 16 (.un .not (.t 15)),om 17 16,oF 17 18 (.faddr 1 (.t 4)),oF 17 19 (.ld false 1 (.t 18)),oF 17 20 (.call adf [.t 19]),oF 17 21 (.un .not (.t 20)),oo 22 (.pick (.t 17) (xB true) (.t 21)),om 23 22,oF 23 24 (.faddr 2 (.t 4)),oF 23 25 (.ld false 1 (.t 24)),oF 23 26 (.call mQ [.t 25,xI 1000,xI 2999]),oF 23 27 (.un .not (.t 26)),oo 28 (.pick (.t 23) (xB true) (.t 27)),om 29 28,oF 29 30 (.faddr 3 (.t 4)),oF 29 31 (.ld true 15 (.t 30)),oF 29 32 (.call rD [.t 31]),oF 29 33 (.un .not (.t 32)),oo 34 (.pick (.t 29) (xB true) (.t 33))]
def pD:=[ok 2 (vB false)]
def Mg:=[om 35 3,cn 36 .gtr 35 0,om 37 36,oT 37 38 (.faddr 0 (.t 1)),oT 37 39 (.ld false 1 (.t 38)),oT 37 40 (.mv (.t 3)),oT 37 41 (.bin .sub .none (.t 40) (xI 1)),oT 37 42 (.iaddr 18 (.t 39) (.t 41)),oT 37 43 (.faddr 0 (.t 42)),oT 37 44 (.ld false 1 (.t 43)),oT 37 45 (.faddr 0 (.t 4)),oT 37 46 (.ld false 1 (.t 45)),oT 37 47 (.bin .geq .none (.t 44) (.t 46)),oT 37 48 (.mv (.t 47)),oF 48 49 (.faddr 0 (.t 1)),oF 48 50 (.ld false 1 (.t 49)),oF 48 51 (.mv (.t 3)),oF 48 52 (.bin .sub .none (.t 51) (xI 1)),oF 48 53 (.iaddr 18 (.t 50) (.t 52)),oF 48 54 (.faddr 2 (.t 53)),oF 48 55 (.ld false 1 (.t 54)),oF 48 56 (.faddr 2 (.t 4)),oF 48 57 (.ld false 1 (.t 56)),oF 48 58 (.bin .gtr .none (.t 55) (.t 57)),oT 37 59 (.pick (.t 48) (xB true) (.t 58)),oo 60 (.pick (.t 37) (.t 59) (xB false))]
def L3:List (List Nat):=[[],[0],[0,1],[0,1,2],[0,1,2,3],[0,1,2],[0,1,2,5],[0,1,2,3,4,5,6],[0,1,2,3,4,5,6,7],[0,1,2,3,4,5,6,7,8],[0,1,2],[0,1,2,10],[0,1,2,3,4,5,6,7,8,9,10,11],[0,1,2,3,4,5,6,7,8,9,10,11,12],[0,1,2,3,4,5,6,7,8,9,10,11,12,13],[0,1,2,3,4,5,6,7,8,9,10,11,12,13,14],[0,1,2,3,4,5,6,7,8,9,10,11,12,13],[0,1,2,3,4,5,6,7,8,9,10,11,12,13,16],[0,1,2,3,4,5,6,7,8,9,10,11,12,13,14,15,16,17],[0,1,2,3,4,5,6,7,8,9,10,11,12,13,14,15,16,17,18],[0,1,2,3,4,5,6,7,8,9,10,11,12,13,14,15,16,17,18,19],[0,1,2,3,4,5,6,7,8,9,10,11,12,13],[0,1,2,3,4,5,6,7,8,9,10,11,12,13,21],[0,1,2,3,4,5,6,7,8,9,10,11,12,13,14,15,16,17,18,19,20,21,22],[0,1,2,3,4,5,6,7,8,9,10,11,12,13,14,15,16,17,18,19,20,21,22,23],[0,1,2,3,4,5,6,7,8,9,10,11,12,13,14,15,16,17,18,19,20,21,22,23,24]]
def Mh:=[ok 2 (vB false)]
def Dn:=[aL 61 0 1,bl 62 1 61,om 63 3,oo 64 (.slc (some 18) (.t 62) none (some (.t 63))),oo 65 (.clo pC [.t 4]),dK 66 lx 64 65]
def Do:=[ok 2 (vB false)]
def Au:=[fL 67 8 1,om 8 67]
def JK:C:=(sr Md [1,6,7,8,9] (ss (sc 9 .skip (.exit 0)) (ss (.block 1 (sr Me [1,3,4,6,7,8] (ss (sr Mf [1,3,4,6,7,8,34] (sc 34 (sr pD [2] .ret) .skip)) (ss (ss (.regD Mg L3 [1,3,4,6,7,8,60]) (sc 60 (sr Mh [2] .ret) .skip)) (sr Dn [1,6,7,8,66] (sc 66 (sr Do [2] .ret) .skip)))))) (.reg Au [1,6,7,8]))))
def Kp:=[aL 68 0 1,bl 69 1 68,oo 70 (.len false (.t 69)),cn 71 .leq 70 12,om 2 71]
def Qh:C:=(sr Mb [1] (ss (sr Mc [1,6,7,8] (.block 0 (.loop JK))) (sr Kp [2] .ret)))
theorem ahV:cE eU Qh [(.tmp 2)] 72:=dE func70 rfl
def Re:=[eF 1 1 0,dD 2 1 (.agg [vN])]
def Rf:=[oo 3 (.bslice 18 zC 0 []),aL 4 0 1,bl 5 1 4,oo 6 (.app 18 152 (.t 3) (.t 5)),oo 7 (.build (.agg [vN]) [(0,(1,(.t 6)))]),bg 1 2 7]
def VS:C:=(sr Re [1,2] (sr Rf [2] .ret))
theorem arR:cE lV VS [(.cell 2 true 1)] 8:=dE func71 rfl
def au1:=[eF 1 1 0,dD 2 1 (.agg [vN])]
def au2:=[oo 3 (.bslice 18 zC 0 []),aL 4 0 1,bl 5 1 4,oo 6 (.app 18 152 (.t 3) (.t 5)),oo 7 (.build (.agg [vN]) [(0,(1,(.t 6)))]),bg 1 2 7]
def aB1:C:=(sr au1 [1,2] (sr au2 [2] .ret))
theorem aIi:cE Ai aB1 [(.cell 2 true 1)] 8:=dE func43 rfl
def Di:=[eF 1 4 0,ok 2 vN]
def Dj:=[aL 3 0 1,bl 4 1 3,cn 5 .eql 4 0]
def Dk:=[aL 6 2 1,bl 7 1 6,oo 8 (.bslice 1 (vI 0) 1 [(0,(.t 7))]),om 2 8]
def Dm:=[aL 9 2 1,bl 10 1 9,aL 11 3 1,bl 12 1 11,oo 13 (.bslice 1 (vI 0) 2 [(0,(.t 10)),(1,(.t 12))]),om 2 13]
def FT:C:=(sr Di [1] (ss (sr Dj [1,5] (sc 5 (sr Dk [2] .ret) .skip)) (sr Dm [2] .ret)))
theorem ahU:cE rX FT [(.tmp 2)] 14:=dE func238 rfl
def Lf:=[eF 1 4 0,ok 2 vN]
def Lg:=[aL 3 0 1,bl 4 1 3,cn 5 .eql 4 0]
def Lh:=[aL 6 2 1,bl 7 1 6,oo 8 (.bslice 1 (vI 0) 1 [(0,(.t 7))]),om 2 8]
def Li:=[aL 9 2 1,bl 10 1 9,aL 11 3 1,bl 12 1 11,oo 13 (.bslice 1 (vI 0) 2 [(0,(.t 10)),(1,(.t 12))]),om 2 13]
def Po:C:=(sr Lf [1] (ss (sr Lg [1,5] (sc 5 (sr Lh [2] .ret) .skip)) (sr Li [2] .ret)))
theorem ax5:cE rG Po [(.tmp 2)] 14:=dE func215 rfl
def adO:=[ok 4 (vB false)]
def adP:=[om 6 0,oo 7 (.len false (.t 6)),om 8 1,oo 9 (.len false (.t 8)),cI 10 .neq 7 9]
def adQ:=[ok 4 (vB false)]
def avd:=[ok 5 (vI 0)]
def ave:=[om 11 5,om 12 0,oo 13 (.len false (.t 12)),cI 14 .lss 11 13]
def avf:=[om 17 0,om 18 5,ft 19 1 17 18,bl 20 1 19,om 21 1,om 22 5,ft 23 1 21 22,bl 24 1 23,cI 25 .neq 20 24]
def aug:List (List Nat):=[[],[],[0,1],[0,1,2],[],[],[4,5],[4,5,6],[0,1,2,3,4,5,6,7]]
def avg:=[ok 4 (vB false)]
def avh:=[om 15 5,fL 16 15 1,om 5 16]
def atZ:C:=(ss (sr ave [0,1,5,14] (sc 14 .skip (.exit 0))) (ss (.block 1 (ss (.regD avf aug [0,1,5,25]) (sc 25 (sr avg [4] .ret) .skip))) (.reg avh [0,1,5])))
def avi:=[ok 4 (vB true)]
def arB:C:=(sr adO [0,1] (ss (sr adP [0,1,10] (sc 10 (sr adQ [4] .ret) .skip)) (ss (sr avd [0,1,5] (.block 0 (.loop atZ))) (sr avi [4] .ret))))
def aKW:Nat->List Nat
 | 0=>[0,1]
 | 1=>[0,1,10]
 | 2=>[4]
 | 3=>[0,1,5]
 | 4=>[0,1,5,14]
 | 6=>[0,1,5,25]
 | 7=>[4]
 | 5=>[0,1,5]
 | 8=>[4]
 | _=>[]
theorem aIk:cE asi arB [(.tmp 4)] 26 :=
 ⟨Tryz.f272,_,aKW,func272,rfl,by kernel_rfl,by kernel_rfl,by kernel_rfl,rfl⟩
def xL:=[ok 4 (vB false)]
def xM:=[om 6 0,oo 7 (.len false (.t 6)),om 8 1,oo 9 (.len false (.t 8)),cI 10 .neq 7 9]
def xN:=[ok 4 (vB false)]
def G7:=[om 11 0,oo 12 (.len false (.t 11)),ok 13 (vI 0)]
def G8:=[cI 14 .lss 13 12]
def G9:=[om 15 13,om 5 15]
def Ha:=[om 16 0,om 17 5,ft 18 1 16 17,bl 19 1 18,om 20 1,om 21 5,ft 22 1 20 21,bl 23 1 22,cI 24 .neq 19 23]
def GP:List (List Nat):=[[],[],[0,1],[0,1,2],[],[],[4,5],[4,5,6],[0,1,2,3,4,5,6,7]]
def Hb:=[ok 4 (vB false)]
def Hc:=[fL 25 13 1,om 13 25]
def GH:C:=(sr G8 [0,1,12,13,14] (ss (sc 14 .skip (.exit 0)) (ss (.block 1 (sr G9 [0,1,5,12,13] (ss (.regD Ha GP [0,1,12,13,24]) (sc 24 (sr Hb [4] .ret) .skip)))) (.reg Hc [0,1,12,13]))))
def FQ:=[ok 4 (vB true)]
def Ab:C:=(sr xL [0,1] (ss (sr xM [0,1,10] (sc 10 (sr xN [4] .ret) .skip)) (ss (sr G7 [0,1,12,13] (.block 0 (.loop GH))) (sr FQ [4] .ret))))
theorem aao:cE Al Ab [(.tmp 4)] 26:=dE func237 rfl
def Kl:=[eF 2 4 0,eF 3 4 1,ok 4 (vI 0),ok 5 (vB false)]
def Km:=[bu 6 4 2,cg 7 ud 6,oo 8 (.un .not (.t 7)),om 9 8,oF 9 10 (.ld true 4 (.t 3)),oF 9 11 (.call ud [.t 10]),oF 9 12 (.un .not (.t 11)),oo 13 (.pick (.t 9) (xB true) (.t 12))]
def adJ:=[ok 4 (vI 0),ok 5 (vB false)]
def Kn:=[aL 14 0 2,bl 15 1 14,aL 16 0 3,bl 17 1 16,cI 18 .neq 15 17,cg 19 xt 18,aL 20 1 2,bl 21 1 20,aL 22 1 3,bl 23 1 22,cI 24 .neq 21 23,cg 25 xt 24,cI 26 .add 19 25,bu 27 4 2,cg 28 rX 27,bu 29 4 3,cg 30 rX 29,dK 31 Al 28 30,oo 32 (.un .not (.t 31)),cg 33 xt 32,cI 34 .add 26 33,om 4 34,ok 5 (vB true)]
def Ao:List (List Nat):=[[],[0],[],[2],[0,1,2,3],[0,1,2,3,4],[],[6],[],[8],[6,7,8,9],[0,1,2,3,4,5,6,7,8,9,10],[0,1,2,3,4,5,6,7,8,9,10,11],[],[0,1,2,3,4,5,6,7,8,9,10,11,13],[],[0,1,2,3,4,5,6,7,8,9,10,11,13,14,15],[0,1,2,3,4,5,6,7,8,9,10,11,13,14,15,16],[0,1,2,3,4,5,6,7,8,9,10,11,13,14,15,16,17],[0,1,2,3,4,5,6,7,8,9,10,11,13,14,15,16,17,18],[0,1,2,3,4,5,6,7,8,9,10,11,12,13,14,15,16,17,18,19],[0,1,2,3,4,5,6,7,8,9,10,11,12,13,14,15,16,17,18,19,20],[0,1,2,3,4,5,6,7,8,9,10,11,12,13,14,15,16,17,18,19,20,21]]
def NI:C:=(sr Kl [2,3] (ss (sr Km [2,3,13] (sc 13 (sr adJ [4,5] .ret) .skip)) (ss (.regD Kn Ao [4,5]) .ret)))
theorem aha:cE Ex NI [(.tmp 4),(.tmp 5)] 35:=dE func171 rfl
def RW:=[eF 2 4 0,eF 3 4 1,ok 4 (vI 0)]
def RX:=[ok 5 (vI 0)]
def RY:=[aL 6 0 2,bl 7 1 6,aL 8 0 3,bl 9 1 8,cI 10 .neq 7 9]
def RZ:=[om 11 5,fL 12 11 1,om 5 12]
def R0:=[aL 13 1 2,bl 14 1 13,aL 15 1 3,bl 16 1 15,cI 17 .neq 14 16]
def R1:=[om 18 5,fL 19 18 1,om 5 19]
def R3:=[bu 20 4 2,cg 21 rG 20,bu 22 4 3,cg 23 rG 22,dK 24 asi 21 23,oo 25 (.un .not (.t 24))]
def F8:List (List Nat):=[[],[0],[],[0,1,2],[0,1,2,3],[0,1,2,3,4]]
def R4:=[om 26 5,fL 27 26 1,om 5 27]
def Gh:=[om 28 5,om 4 28]
def V1:C:=(sr RW [2,3] (sr RX [2,3,5] (ss (sr RY [2,3,5,10] (sc 10 (.reg RZ [2,3,5]) .skip)) (ss (sr R0 [2,3,5,17] (sc 17 (.reg R1 [2,3,5]) .skip)) (ss (ss (.regD R3 F8 [5,25]) (sc 25 (.reg R4 [5]) .skip)) (sr Gh [4] .ret))))))
theorem ar2:cE J4 V1 [(.tmp 4)] 29:=dE func216 rfl
def AF:=[eF 2 4 0,eF 3 4 1,ok 4 (vI 0)]
def AG:=[bu 6 4 2,bu 7 4 3,oo 8 (.bin .eql (.struct [EK.int,EK.int,EK.int,EK.int]) (.t 6) (.t 7))]
def K4:=[ok 4 (vI 0)]
def sD:=[bu 9 4 2,oo 10 (.build xR []),oo 11 (.bin .eql (.struct [EK.int,EK.int,EK.int,EK.int]) (.t 9) (.t 10)),om 12 11,oF 12 13 (.ld true 4 (.t 3)),oF 12 14 (.build xR []),oF 12 15 (.bin .eql (.struct [EK.int,EK.int,EK.int,EK.int]) (.t 13) (.t 14)),oo 16 (.pick (.t 12) (xB true) (.t 15))]
def AH:=[ok 4 (vI 2)]
def K5:=[aL 17 0 2,bl 18 1 17,aL 19 0 3,bl 20 1 19,cI 21 .neq 18 20,cg 22 xt 21,aL 23 3 2,bl 24 1 23,aL 25 3 3,bl 26 1 25,cI 27 .neq 24 26,cg 28 xt 27,cI 29 .add 22 28,om 5 29]
def Ap:List (List Nat):=[[],[0],[],[2],[0,1,2,3],[0,1,2,3,4],[],[6],[],[8],[6,7,8,9],[0,1,2,3,4,5,6,7,8,9,10],[0,1,2,3,4,5,6,7,8,9,10,11],[0,1,2,3,4,5,6,7,8,9,10,11,12]]
def K6:=[aL 30 1 2,bl 31 1 30,aL 32 1 3,bl 33 1 32,cI 34 .neq 31 33]
def K7:=[om 35 5,fL 36 35 2,om 4 36]
def K8:=[om 37 5,aL 38 2 2,bl 39 1 38,aL 40 2 3,bl 41 1 40,cI 42 .neq 39 41,cg 43 xt 42,cI 44 .add 37 43,om 4 44]
def Ei:C:=(sr AF [2,3] (ss (sr AG [2,3,8] (sc 8 (sr K4 [4] .ret) .skip)) (ss (sr sD [2,3,16] (sc 16 (sr AH [4] .ret) .skip)) (ss (.regD K5 Ap [2,3,5]) (ss (sr K6 [2,3,5,34] (sc 34 (sr K7 [4] .ret) .skip)) (sr K8 [4] .ret))))))
theorem ahe:cE vL Ei [(.tmp 4)] 45:=dE func172 rfl
def R5:=[eF 2 4 0,eF 3 4 1,ok 4 (vI 0)]
def R6:=[bu 6 4 2,cg 7 iA 6,bu 8 4 3,cg 9 iA 8,oo 10 (.bin .neq .bool (.t 7) (.t 9))]
def F9:List (List Nat):=[[],[0],[],[0,1,2],[0,1,2,3]]
def R7:=[ok 4 (vI 2)]
def R8:=[ok 5 (vI 0)]
def R9:=[aL 11 0 2,bl 12 1 11,aL 13 0 3,bl 14 1 13,cI 15 .neq 12 14]
def Sa:=[om 16 5,fL 17 16 1,om 5 17]
def Sb:=[aL 18 1 2,bl 19 1 18,aL 20 1 3,bl 21 1 20,cI 22 .neq 19 21]
def Sc:=[om 23 5,fL 24 23 2,om 5 24]
def Sd:=[aL 25 2 2,bl 26 1 25,aL 27 2 3,bl 28 1 27,cI 29 .neq 26 28]
def Se:=[om 30 5,fL 31 30 1,om 5 31]
def O6:=[aL 32 3 2,bl 33 1 32,aL 34 3 3,bl 35 1 34,cI 36 .neq 33 35]
def O7:=[om 37 5,fL 38 37 1,om 5 38]
def O8:=[om 39 5,om 4 39]
def V2:C:=(sr R5 [2,3] (ss (ss (.regD R6 F9 [2,3,10]) (sc 10 (sr R7 [4] .ret) .skip)) (sr R8 [2,3,5] (ss (sr R9 [2,3,5,15] (sc 15 (.reg Sa [2,3,5]) .skip)) (ss (sr Sb [2,3,5,22] (sc 22 (.reg Sc [2,3,5]) (sr Sd [2,3,5,29] (sc 29 (.reg Se [2,3,5]) .skip)))) (ss (sr O6 [5,36] (sc 36 (.reg O7 [5]) .skip)) (sr O8 [4] .ret)))))))
theorem ar3:cE DE V2 [(.tmp 4)] 40:=dE func217 rfl
def Xl:=[eF 2 15 0,eF 3 15 1,ok 4 (vI 0)]
def Xm:=[aL 8 0 2,bu 9 4 8,aL 10 0 3,bu 11 4 10,dK 12 Ex 9 11,om 7 12,cJ 13 7 0,cJ 14 7 1,om 5 13,om 6 14]
def Xn:=[om 15 5,aL 16 7 2,bu 17 4 16,aL 18 7 3,bu 19 4 18,dK 20 vL 17 19,aL 21 11 2,bu 22 4 21,aL 23 11 3,bu 24 4 23,dK 25 vL 22 24,cI 26 .add 20 25,cI 27 .add 15 26,om 5 27]
def J9:List (List Nat):=[[],[],[1],[],[3],[1,2,3,4],[],[6],[],[8],[1,2,3,4,5,6,7,8,9],[1,2,3,4,5,6,7,8,9,10],[0,1,2,3,4,5,6,7,8,9,10,11],[0,1,2,3,4,5,6,7,8,9,10,11,12]]
def K1:=[aL 28 4 2,bl 29 1 28,aL 30 4 3,bl 31 1 30,cI 32 .neq 29 31]
def Xo:=[om 33 5,fL 34 33 2,om 4 34]
def Xp:=[om 35 5,aL 36 5 2,bl 37 1 36,aL 38 5 3,bl 39 1 38,cI 40 .neq 37 39,cg 41 xt 40,cI 42 .add 35 41,aL 43 6 2,bl 44 1 43,aL 45 6 3,bl 46 1 45,cI 47 .neq 44 46,cg 48 xt 47,cI 49 .add 42 48,om 4 49]
def Ka:List (List Nat):=[[],[],[1],[],[3],[1,2,3,4],[1,2,3,4,5],[0,1,2,3,4,5,6],[],[8],[],[10],[8,9,10,11],[1,2,3,4,5,6,8,9,10,11,12],[0,1,2,3,4,5,6,7,8,9,10,11,12,13],[0,1,2,3,4,5,6,7,8,9,10,11,12,13,14]]
def aet:C:=(sr Xl [2,3] (sr Xm [2,3,5] (ss (.regD Xn J9 [2,3,5]) (ss (sr K1 [2,3,5,32] (sc 32 (sr Xo [4] .ret) .skip)) (ss (.regD Xp Ka [4]) .ret)))))
theorem ax0:cE HA aet [(.tmp 4)] 50:=dE func110 rfl
def ajf:=[eF 2 15 0,eF 3 15 1,ok 4 (vB false)]
def ajg:=[bu 5 15 2,bu 6 15 3,dK 7 HA 5 6,cn 8 .lss 7 2,om 4 8]
def as7:C:=(sr ajf [2,3] (sr ajg [4] .ret))
theorem aEn:cE SA as7 [(.tmp 4)] 9:=dE func133 rfl
def ajR:=[eF 2 15 0,eF 3 15 1,ok 4 (vI 0)]
def ajS:=[aL 6 0 2,bu 7 4 6,aL 8 0 3,bu 9 4 8,dK 10 J4 7 9,aL 11 7 2,bu 12 4 11,aL 13 7 3,bu 14 4 13,dK 15 DE 12 14,cI 16 .add 10 15,aL 17 11 2,bu 18 4 17,aL 19 11 3,bu 20 4 19,dK 21 DE 18 20,cI 22 .add 16 21,om 5 22]
def T9:List (List Nat):=[[],[0],[],[2],[0,1,2,3],[],[5],[],[7],[0,1,2,3,4,5,6,7,8],[0,1,2,3,4,5,6,7,8,9],[],[11],[],[13],[0,1,2,3,4,5,6,7,8,9,11,12,13,14],[0,1,2,3,4,5,6,7,8,9,10,11,12,13,14,15],[0,1,2,3,4,5,6,7,8,9,10,11,12,13,14,15,16]]
def UO:=[aL 23 4 2,bl 24 1 23,aL 25 4 3,bl 26 1 25,cI 27 .neq 24 26]
def ajT:=[om 28 5,fL 29 28 2,om 4 29]
def ajU:=[aL 30 5 2,bl 31 1 30,aL 32 5 3,bl 33 1 32,cI 34 .neq 31 33]
def ajV:=[om 35 5,fL 36 35 1,om 5 36]
def ajW:=[aL 37 6 2,bl 38 1 37,aL 39 6 3,bl 40 1 39,cI 41 .neq 38 40]
def ajX:=[om 42 5,fL 43 42 1,om 5 43]
def ajY:=[om 44 5,om 4 44]
def ate:C:=(sr ajR [2,3] (ss (.regD ajS T9 [2,3,5]) (ss (sr UO [2,3,5,27] (sc 27 (sr ajT [4] .ret) .skip)) (ss (sr ajU [2,3,5,34] (sc 34 (.reg ajV [2,3,5]) .skip)) (ss (sr ajW [5,41] (sc 41 (.reg ajX [5]) .skip)) (sr ajY [4] .ret))))))
theorem aEv:cE SD ate [(.tmp 4)] 45:=dE func149 rfl
def XF:=[eF 2 15 0,eF 3 15 1,ok 4 (vB false)]
def XG:=[bu 5 15 2,bu 6 15 3,dK 7 SD 5 6,cn 8 .lss 7 2,om 4 8]
def aex:C:=(sr XF [2,3] (sr XG [4] .ret))
theorem ax4:cE HB aex [(.tmp 4)] 9:=dE func135 rfl
def auF:=[ok 2 (vB false)]
def auG:=[om 3 0,oo 4 (.call mQ [.t 3,xI 0,xI 4]),om 2 4]
def aBX:C:=(sr auF [0] (sr auG [2] .ret))
theorem aIe:cE ade aBX [(.tmp 2)] 5:=dE func256 rfl
def auD:=[ok 2 (vB false)]
def auE:=[om 3 0,oo 4 (.call mQ [.t 3,xI 1,xI 8]),om 2 4]
def aBW:C:=(sr auD [0] (sr auE [2] .ret))
theorem aId:cE asf aBW [(.tmp 2)] 5:=dE func311 rfl
def avI:=[ok 2 (vB false)]
def avJ:=[om 3 0,oo 4 (.call rZ [.t 3,xI 0,xI 4]),om 2 4]
def aB9:C:=(sr avI [0] (sr avJ [2] .ret))
theorem aIr:cE ado aB9 [(.tmp 2)] 5:=dE func189 rfl
def avU:=[ok 2 (vB false)]
def avV:=[om 3 0,oo 4 (.call rZ [.t 3,xI 1,xI 8]),om 2 4]
def aCb:C:=(sr avU [0] (sr avV [2] .ret))
theorem aIu:cE asm aCb [(.tmp 2)] 5:=dE func247 rfl
def aqC:=[ok 2 (vB false)]
def aqD:=[om 3 0,cn 4 .leq 3 3,om 2 4]
def azq:C:=(sr aqC [0] (sr aqD [2] .ret))
theorem aGA:cE Iy azq [(.tmp 2)] 5:=dE func248 rfl
def avW:=[eF 1 4 0,ok 2 (vB false)]
def avX:=[bu 3 4 1,oo 4 (.build xR []),oo 5 (.bin .eql (.struct [EK.int,EK.int,EK.int,EK.int]) (.t 3) (.t 4)),om 2 5]
def aCc:C:=(sr avW [1] (sr avX [2] .ret))
theorem aIv:cE iA aCc [(.tmp 2)] 6:=dE func184 rfl
def auT:=[ok 2 (vI 0)]
def auU:=[om 3 0]
def auV:=[ok 2 (vI 1)]
def auW:=[ok 2 (vI 0)]
def aB0:C:=(sr auT [0] (ss (sr auU [3] (sc 3 (sr auV [2] .ret) .skip)) (sr auW [2] .ret)))
theorem aIh:cE xt aB0 [(.tmp 2)] 4:=dE func173 rfl
def Bw:=[ok 2 vN]
def Bx:=[om 3 0]
def Bz:=[cn 5 .eql 3 1,om 4 5]
def BA:=[oo 6 (.bslice 1 (vS []) 2 [(0,(.k (vS [114,97,109,112,97,110,116]))),(1,(.k (vS [112,97,115,115,97,110,116])))]),om 2 6]
def BB:=[cn 8 .eql 3 2,om 7 8]
def BC:=[oo 9 (.bslice 1 (vS []) 2 [(0,(.k (vS [100,105,115,112,108,97,121,101,100]))),(1,(.k (vS [114,105,115,105,110,103])))]),om 2 9]
def BD:=[cn 11 .eql 3 3,om 10 11]
def BE:=[oo 12 (.bslice 1 (vS []) 2 [(0,(.k (vS [115,119,105,109,109,105,110,103]))),(1,(.k (vS [117,112,114,105,103,104,116])))]),om 2 12]
def BF:=[oo 13 (.bslice 1 (vS []) 0 []),om 2 13]
def Gp:C:=(sr Bw [0] (ss (sr Bx [3] (.block 0 (sr Bz [3,4] (sc 4 (sr BA [2] .ret) (sr BB [3,7] (sc 7 (sr BC [2] .ret) (sr BD [10] (sc 10 (sr BE [2] .ret) .skip)))))))) (sr BF [2] .ret)))
theorem aCG:cE GK Gp [(.tmp 2)] 14:=dE func303 rfl
def avE:=[eF 1 4 0,ok 2 (vB false)]
def avF:=[aL 3 0 1,bl 4 1 3,oo 5 (.call rZ [.t 4,xI 0,xI 7]),oo 6 (.un .not (.t 5)),om 7 6,oF 7 8 (.faddr 1 (.t 1)),oF 7 9 (.ld false 1 (.t 8)),oF 7 10 (.call ado [.t 9]),oF 7 11 (.un .not (.t 10)),oo 12 (.pick (.t 7) (xB true) (.t 11)),om 13 12,oF 13 14 (.faddr 2 (.t 1)),oF 13 15 (.ld false 1 (.t 14)),oF 13 16 (.call HZ [.t 15]),oF 13 17 (.un .not (.t 16)),oo 18 (.pick (.t 13) (xB true) (.t 17))]
def SK:=[ok 2 (vB false)]
def avG:=[aL 19 0 1,bl 20 1 19,cn 21 .eql 20 0]
def adR:=[aL 22 1 1,bl 23 1 22,cn 24 .eql 23 0,om 25 24,oT 25 26 (.faddr 3 (.t 1)),oT 25 27 (.ld false 1 (.t 26)),oT 25 28 (.bin .eql .none (.t 27) (xI 0)),oo 29 (.pick (.t 25) (.t 28) (xB false)),om 2 29]
def avH:=[aL 30 3 1,bl 31 1 30,cg 32 HZ 31,om 33 32,oT 33 34 (.faddr 3 (.t 1)),oT 33 35 (.ld false 1 (.t 34)),oT 33 36 (.faddr 2 (.t 1)),oT 33 37 (.ld false 1 (.t 36)),oT 33 38 (.bin .neq .none (.t 35) (.t 37)),oo 39 (.pick (.t 33) (.t 38) (xB false)),om 2 39]
def aB8:C:=(sr avE [1] (ss (sr avF [1,18] (sc 18 (sr SK [2] .ret) .skip)) (ss (sr avG [1,21] (sc 21 (sr adR [2] .ret) .skip)) (sr avH [2] .ret))))
theorem aIq:cE adn aB8 [(.tmp 2)] 40:=dE func187 rfl
def Un:=[eF 1 4 0,ok 2 (vB false)]
def Uo:=[aL 3 0 1,bl 4 1 3,oo 5 (.call mQ [.t 4,xI 0,xI 7]),oo 6 (.un .not (.t 5)),om 7 6,oF 7 8 (.faddr 1 (.t 1)),oF 7 9 (.ld false 1 (.t 8)),oF 7 10 (.call ade [.t 9]),oF 7 11 (.un .not (.t 10)),oo 12 (.pick (.t 7) (xB true) (.t 11)),om 13 12,oF 13 14 (.faddr 2 (.t 1)),oF 13 15 (.ld false 1 (.t 14)),oF 13 16 (.call uu [.t 15]),oF 13 17 (.un .not (.t 16)),oo 18 (.pick (.t 13) (xB true) (.t 17))]
def As:=[ok 2 (vB false)]
def Up:=[aL 19 0 1,bl 20 1 19,cn 21 .eql 20 0]
def H8:=[aL 22 1 1,bl 23 1 22,cn 24 .eql 23 0,om 25 24,oT 25 26 (.faddr 3 (.t 1)),oT 25 27 (.ld false 1 (.t 26)),oT 25 28 (.bin .eql .none (.t 27) (xI 0)),oo 29 (.pick (.t 25) (.t 28) (xB false)),om 2 29]
def Uq:=[aL 30 3 1,bl 31 1 30,cg 32 uu 31,om 33 32,oT 33 34 (.faddr 3 (.t 1)),oT 33 35 (.ld false 1 (.t 34)),oT 33 36 (.faddr 2 (.t 1)),oT 33 37 (.ld false 1 (.t 36)),oT 33 38 (.bin .neq .none (.t 35) (.t 37)),oo 39 (.pick (.t 33) (.t 38) (xB false)),om 2 39]
def aaa:C:=(sr Un [1] (ss (sr Uo [1,18] (sc 18 (sr As [2] .ret) .skip)) (ss (sr Up [1,21] (sc 21 (sr H8 [2] .ret) .skip)) (sr Uq [2] .ret))))
theorem atD:cE ud aaa [(.tmp 2)] 40:=dE func200 rfl
def aqE:=[eF 1 4 0,ok 2 (vB false)]
def aqF:=[aL 3 0 1,bl 4 1 3,oo 5 (.call rZ [.t 4,xI 1,xI 6]),oo 6 (.un .not (.t 5)),om 7 6,oF 7 8 (.faddr 1 (.t 1)),oF 7 9 (.ld false 1 (.t 8)),oF 7 10 (.call asm [.t 9]),oF 7 11 (.un .not (.t 10)),oo 12 (.pick (.t 7) (xB true) (.t 11)),om 13 12,oF 13 14 (.faddr 3 (.t 1)),oF 13 15 (.ld false 1 (.t 14)),oF 13 16 (.call HZ [.t 15]),oF 13 17 (.un .not (.t 16)),oo 18 (.pick (.t 13) (xB true) (.t 17))]
def ND:=[ok 2 (vB false)]
def aqG:=[aL 19 1 1,bl 20 1 19,cg 21 Iy 20]
def aqH:=[aL 22 2 1,bl 23 1 22,oo 24 (.call rZ [.t 23,xI 1,xI 2]),om 2 24]
def aqI:=[aL 25 2 1,bl 26 1 25,cn 27 .eql 26 0,om 2 27]
def azr:C:=(sr aqE [1] (ss (sr aqF [1,18] (sc 18 (sr ND [2] .ret) .skip)) (ss (sr aqG [1,21] (sc 21 (sr aqH [2] .ret) .skip)) (sr aqI [2] .ret))))
theorem aGB:cE N3 azr [(.tmp 2)] 28:=dE func188 rfl
def Ur:=[eF 1 4 0,ok 2 (vB false)]
def Us:=[aL 4 0 1,bl 5 1 4,oo 6 (.call mQ [.t 5,xI 1,xI 6]),oo 7 (.un .not (.t 6)),om 8 7,oF 8 9 (.faddr 1 (.t 1)),oF 8 10 (.ld false 1 (.t 9)),oF 8 11 (.call asf [.t 10]),oF 8 12 (.un .not (.t 11)),oo 13 (.pick (.t 8) (xB true) (.t 12)),om 14 13,oF 14 15 (.faddr 3 (.t 1)),oF 14 16 (.ld false 1 (.t 15)),oF 14 17 (.call uu [.t 16]),oF 14 18 (.un .not (.t 17)),oo 19 (.pick (.t 14) (xB true) (.t 18))]
def At:=[ok 2 (vB false)]
def Ut:=[aL 20 1 1,bl 21 1 20,cg 22 GK 21,oo 23 (.len false (.t 22)),om 3 23]
def H9:=[om 24 3,cn 25 .gtr 24 0]
def Uu:=[aL 26 2 1,bl 27 1 26,om 28 3,oo 29 (.call mQ [.t 27,xI 1,.t 28]),om 2 29]
def Uv:=[aL 30 2 1,bl 31 1 30,cn 32 .eql 31 0,om 2 32]
def aab:C:=(sr Ur [1] (ss (sr Us [1,19] (sc 19 (sr At [2] .ret) .skip)) (ss (sr Ut [1,3] (sr H9 [1,3,25] (sc 25 (sr Uu [2] .ret) .skip))) (sr Uv [2] .ret))))
theorem atE:cE Fs aab [(.tmp 2)] 33:=dE func258 rfl
def ZD:=[eF 1 4 0,ok 2 (vB false)]
def ZE:=[bu 3 4 1,oo 4 (.build xR []),oo 5 (.bin .eql (.struct [EK.int,EK.int,EK.int,EK.int]) (.t 3) (.t 4)),om 6 5,oF 6 7 (.ld true 4 (.t 1)),oF 6 8 (.call Fs [.t 7]),oo 9 (.pick (.t 6) (xB true) (.t 8)),om 2 9]
def ahE:C:=(sr ZD [1] (sr ZE [2] .ret))
theorem aGj:cE Wq ahE [(.tmp 2)] 10:=dE func201 rfl
def abw:=[ok 6 (vB false)]
def abx:=[om 7 0,oo 8 (.call mQ [.t 7,xI 1,xI 7]),om 9 8,oT 9 10 (.mv (.t 1)),oT 9 11 (.call ade [.t 10]),oo 12 (.pick (.t 9) (.t 11) (xB false)),om 13 12,oT 13 14 (.mv (.t 2)),oT 13 15 (.call uu [.t 14]),oo 16 (.pick (.t 13) (.t 15) (xB false)),om 6 16]
def ahF:C:=(sr abw [0,1,2] (sr abx [6] .ret))
theorem aAY:cE JX ahF [(.tmp 6)] 17:=dE func202 rfl
def WJ:=[eF 1 15 0,ok 2 (vB false)]
def WK:=[aL 3 0 1,bu 4 4 3,cg 5 ud 4,oo 6 (.un .not (.t 5)),om 7 6,oF 7 8 (.faddr 11 (.t 1)),oF 7 9 (.ld true 4 (.t 8)),oF 7 10 (.call Wq [.t 9]),oF 7 11 (.un .not (.t 10)),oo 12 (.pick (.t 7) (xB true) (.t 11))]
def Ko:=[ok 2 (vB false)]
def WL:=[aL 13 4 1,bl 14 1 13,cn 15 .eql 14 0]
def DF:=[aL 16 5 1,bl 17 1 16,cn 18 .eql 17 0,om 19 18,oT 19 20 (.faddr 6 (.t 1)),oT 19 21 (.ld false 1 (.t 20)),oT 19 22 (.bin .eql .none (.t 21) (xI 0)),oo 23 (.pick (.t 19) (.t 22) (xB false)),om 24 23,oT 24 25 (.faddr 7 (.t 1)),oT 24 26 (.ld true 4 (.t 25)),oT 24 27 (.build xR []),oT 24 28 (.bin .eql (.struct [EK.int,EK.int,EK.int,EK.int]) (.t 26) (.t 27)),oo 29 (.pick (.t 24) (.t 28) (xB false)),om 2 29]
def WM:=[aL 30 4 1,bl 31 1 30,aL 32 5 1,bl 33 1 32,aL 34 6 1,bl 35 1 34,oo 36 (.call JX [.t 31,.t 33,.t 35]),om 37 36,oT 37 38 (.faddr 7 (.t 1)),oT 37 39 (.ld true 4 (.t 38)),oT 37 40 (.call Wq [.t 39]),oo 41 (.pick (.t 37) (.t 40) (xB false)),om 2 41]
def aeo:C:=(sr WJ [1] (ss (sr WK [1,12] (sc 12 (sr Ko [2] .ret) .skip)) (ss (sr WL [1,15] (sc 15 (sr DF [2] .ret) .skip)) (sr WM [2] .ret))))
theorem axV:cE rD aeo [(.tmp 2)] 42:=dE func130 rfl
def av3:=[eF 1 15 0,ok 2 (vB false)]
def av4:=[aL 3 0 1,bu 4 4 3,cg 5 adn 4,oo 6 (.un .not (.t 5)),om 7 6,oF 7 8 (.faddr 4 (.t 1)),oF 7 9 (.ld false 1 (.t 8)),oF 7 10 (.call rZ [.t 9,xI 0,xI 7]),oF 7 11 (.un .not (.t 10)),oo 12 (.pick (.t 7) (xB true) (.t 11)),om 13 12,oF 13 14 (.faddr 11 (.t 1)),oF 13 15 (.ld true 4 (.t 14)),oF 13 16 (.call iA [.t 15]),oF 13 17 (.un .not (.t 16)),oF 13 18 (.mv (.t 17)),oT 18 19 (.faddr 11 (.t 1)),oT 18 20 (.ld true 4 (.t 19)),oT 18 21 (.call N3 [.t 20]),oT 18 22 (.un .not (.t 21)),oF 13 23 (.pick (.t 18) (.t 22) (xB false)),oo 24 (.pick (.t 13) (xB true) (.t 23))]
def SO:=[ok 2 (vB false)]
def adW:=[aL 25 4 1,bl 26 1 25,cn 27 .eql 26 0]
def AK:=[aL 28 5 1,bl 29 1 28,cn 30 .eql 29 0,om 31 30,oT 31 32 (.faddr 6 (.t 1)),oT 31 33 (.ld false 1 (.t 32)),oT 31 34 (.bin .eql .none (.t 33) (xI 0)),oo 35 (.pick (.t 31) (.t 34) (xB false)),om 36 35,oT 36 37 (.faddr 7 (.t 1)),oT 36 38 (.ld true 4 (.t 37)),oT 36 39 (.call iA [.t 38]),oo 40 (.pick (.t 36) (.t 39) (xB false)),om 2 40]
def adX:=[aL 41 5 1,bl 42 1 41,cg 43 ado 42,om 44 43,oT 44 45 (.faddr 6 (.t 1)),oT 44 46 (.ld false 1 (.t 45)),oT 44 47 (.call HZ [.t 46]),oo 48 (.pick (.t 44) (.t 47) (xB false)),om 49 48,oT 49 50 (.faddr 7 (.t 1)),oT 49 51 (.ld true 4 (.t 50)),oT 49 52 (.call iA [.t 51]),oT 49 53 (.mv (.t 52)),oF 53 54 (.faddr 7 (.t 1)),oF 53 55 (.ld true 4 (.t 54)),oF 53 56 (.call N3 [.t 55]),oT 49 57 (.pick (.t 53) (xB true) (.t 56)),oo 58 (.pick (.t 49) (.t 57) (xB false)),om 2 58]
def aCf:C:=(sr av3 [1] (ss (sr av4 [1,24] (sc 24 (sr SO [2] .ret) .skip)) (ss (sr adW [1,27] (sc 27 (sr AK [2] .ret) .skip)) (sr adX [2] .ret))))
theorem aIy:cE H2 aCf [(.tmp 2)] 59:=dE func121 rfl
def ak5:=[eF 1 15 0,ok 2 (vI 0)]
def ak6:=[ok 3 (vI 1)]
def ak7:=[aL 4 4 1,bl 5 1 4,cn 6 .gtr 5 0]
def ak8:=[om 7 3,fL 8 7 1,om 3 8]
def U1:=[aL 9 7 1,bu 10 4 9,cg 11 iA 10,oo 12 (.un .not (.t 11))]
def U2:=[om 13 3,fL 14 13 1,om 3 14]
def EU:=[aL 15 11 1,bu 16 4 15,cg 17 iA 16,oo 18 (.un .not (.t 17))]
def EV:=[om 19 3,fL 20 19 1,om 3 20]
def oN:=[om 21 3,om 2 21]
def atm:C:=(sr ak5 [1] (sr ak6 [1,3] (ss (sr ak7 [1,3,6] (sc 6 (.reg ak8 [1,3]) .skip)) (ss (sr U1 [1,3,12] (sc 12 (.reg U2 [1,3]) .skip)) (ss (sr EU [3,18] (sc 18 (.reg EV [3]) .skip)) (sr oN [2] .ret))))))
theorem aED:cE adr atm [(.tmp 2)] 22:=dE func270 rfl
def avA:=[ok 2 (vB false)]
def avB:=[om 3 0,oo 4 (.call rZ [.t 3,xI 1,xI 9]),om 2 4]
def aB6:C:=(sr avA [0] (sr avB [2] .ret))
theorem aIo:cE HZ aB6 [(.tmp 2)] 5:=dE func190 rfl
def aaO:=[ok 2 (vB false)]
def aaP:=[om 3 0,oo 4 (.call mQ [.t 3,xI 1,xI 9]),om 2 4]
def ahy:C:=(sr aaO [0] (sr aaP [2] .ret))
theorem aAS:cE uu ahy [(.tmp 2)] 5:=dE func257 rfl
def B5:=[ok 4 (vI 0)]
def B6:=[om 6 0,oo 7 (.len false (.t 6)),ok 8 (vI 0)]
def B7:=[cI 9 .lss 8 7]
def B8:=[om 10 8,om 5 10]
def B9:=[om 11 1,om 12 0,om 13 5,ft 14 1 12 13,bl 15 1 14,oo 16 (.callv (.t 11) [.t 15])]
def Ca:=[om 17 5,om 4 17]
def Cb:=[fL 18 8 1,om 8 18]
def A5:C:=(sr B7 [0,1,7,8,9] (ss (sc 9 .skip (.exit 0)) (ss (.block 1 (sr B8 [0,1,5,7,8] (sr B9 [0,1,5,7,8,16] (sc 16 (sr Ca [4] .ret) .skip)))) (.reg Cb [0,1,7,8]))))
def Cc:=[ok 4 (vI (-1))]
def El:C:=(sr B5 [0,1] (ss (sr B6 [0,1,7,8] (.block 0 (.loop A5))) (sr Cc [4] .ret)))
theorem Sr:cE uz El [(.tmp 4)] 19:=dE func331 rfl
def xP:=[ok 4 (vB false)]
def xQ:=[om 5 0,om 6 1,dK 7 uz 5 6,cn 8 .geq 7 0,om 4 8]
def zE:C:=(sr xP [0,1] (sr xQ [4] .ret))
theorem MJ:cE qt zE [(.tmp 4)] 9:=dE func292 rfl
def He:=[ok 4 (vI 0)]
def Hf:=[om 6 0,oo 7 (.len false (.t 6)),ok 8 (vI 0)]
def Hg:=[cI 9 .lss 8 7]
def Hh:=[om 10 8,om 5 10]
def Hi:=[om 11 1,om 12 0,om 13 5,ft 14 1 12 13,bl 15 1 14,cI 16 .eql 11 15]
def Hj:=[om 17 5,om 4 17]
def Hk:=[fL 18 8 1,om 8 18]
def GI:C:=(sr Hg [0,1,7,8,9] (ss (sc 9 .skip (.exit 0)) (ss (.block 1 (sr Hh [0,1,5,7,8] (sr Hi [0,1,5,7,8,16] (sc 16 (sr Hj [4] .ret) .skip)))) (.reg Hk [0,1,7,8]))))
def Hl:=[ok 4 (vI (-1))]
def Ji:C:=(sr He [0,1] (ss (sr Hf [0,1,7,8] (.block 0 (.loop GI))) (sr Hl [4] .ret)))
theorem aap:cE Am Ji [(.tmp 4)] 19:=dE func342 rfl
def auB:=[ok 6 (vB false)]
def auC:=[om 7 0,om 8 1,cI 9 .geq 7 8,om 10 9,oT 10 11 (.mv (.t 0)),oT 10 12 (.mv (.t 2)),oT 10 13 (.bin .leq .none (.t 11) (.t 12)),oo 14 (.pick (.t 10) (.t 13) (xB false)),om 6 14]
def aBV:C:=(sr auB [0,1,2] (sr auC [6] .ret))
theorem aIc:cE mQ aBV [(.tmp 6)] 15:=dE func75 rfl
def aDu:=[ok 6 (vB false)]
def aDv:=[om 7 0,om 8 1,cI 9 .geq 7 8,om 10 9,oT 10 11 (.mv (.t 0)),oT 10 12 (.mv (.t 2)),oT 10 13 (.bin .leq .none (.t 11) (.t 12)),oo 14 (.pick (.t 10) (.t 13) (xB false)),om 6 14]
def aHS:C:=(sr aDu [0,1,2] (sr aDv [6] .ret))
theorem aM5:cE rZ aHS [(.tmp 6)] 15:=dE func140 rfl
end Go.Proofs.YtnjjimhkbpdpgaaGreatDoor
namespace Go.Abs
abbrev I (n:Int):V:=.v (.int .i64 n)
abbrev B (b:Bool):V:=.v (.bool b)
attribute [simp] aP9 AS.mark aJ9 AS.ev AS.init lk fy rmb AS.keep AS.app AS.put AS.wrt AS.del AS.new ep lH aHw vun veq aR2 aKr eqB EqK.veq EqK.nil? Fh u6 LX aCR aJ8 aKa da List.range_succ vld aK1 vst aQr Vw Vr aBu aKe aAM aMC aDb aJ7 aHy axr aef ag6 NF aFU vmm axB Nr ag7 azG atB cO bN cz pO Vk ix takes AS.took
@[simp] theorem aSf:u7 (.undef)=true:=by simp only[u7]
@[simp] theorem aWa (x:Value):u7 (.v x)=true:=by simp only[u7]
@[simp] theorem aUc (id i j:Nat):u7 (.ref id i j)=false:=by simp only[u7]
@[simp] theorem aU2 (id i n:Nat):u7 (.sl id i n)=false:=by simp only[u7]
@[simp] theorem aU1 (s:Nat) (es:List V) (i j:Nat):u7 (.rp s es i j)=true:=by simp only[u7]
@[simp] theorem aU0 (s:Nat) (es:List V):u7 (.ro s es)=true:=by simp only[u7]
@[simp] theorem aUb (s:Nat) (es:List V):u7 (.own s es)=mf es:=by simp only[u7]
@[simp] theorem aT9 (cs:List V):u7 (.agg cs)=mf cs:=by simp only[u7]
@[simp] theorem aUd (cs:List V):u7 (.tup cs)=mf cs:=by simp only[u7]
@[simp] theorem aUa (f:Nat) (cs:List V):u7 (.clo f cs)=mf cs:=by simp only[u7]
@[simp] theorem aSp:g9 (.undef)=true:=by simp only[g9]
@[simp] theorem aWu (x:Value):g9 (.v x)=true:=by simp only[g9]
@[simp] theorem aUu (id i j:Nat):g9 (.ref id i j)=true:=by simp only[g9]
@[simp] theorem aVw (id i n:Nat):g9 (.sl id i n)=true:=by simp only[g9]
@[simp] theorem aVv (s:Nat) (es:List V) (i j:Nat):g9 (.rp s es i j)=true:=by simp only[g9]
@[simp] theorem aVu (s:Nat) (es:List V):g9 (.ro s es)=true:=by simp only[g9]
@[simp] theorem aUt (s:Nat) (es:List V):g9 (.own s es)=false:=by simp only[g9]
@[simp] theorem aUr (cs:List V):g9 (.agg cs)=cO cs:=by simp only[g9]
@[simp] theorem aUv (cs:List V):g9 (.tup cs)=cO cs:=by simp only[g9]
@[simp] theorem aUs (f:Nat) (cs:List V):g9 (.clo f cs)=cO cs:=by simp only[g9]
@[simp] theorem aSm:gV (.undef)=true:=by simp only[gV]
@[simp] theorem aWt (x:Value):gV (.v x)=true:=by simp only[gV]
@[simp] theorem aUp (id i j:Nat):gV (.ref id i j)=false:=by simp only[gV]
@[simp] theorem aVt (id i n:Nat):gV (.sl id i n)=false:=by simp only[gV]
@[simp] theorem aVs (s:Nat) (es:List V) (i j:Nat):gV (.rp s es i j)=true:=by simp only[gV]
@[simp] theorem aVr (s:Nat) (es:List V):gV (.ro s es)=true:=by simp only[gV]
@[simp] theorem aUo (s:Nat) (es:List V):gV (.own s es)=true:=by simp only[gV]
@[simp] theorem aUm (cs:List V):gV (.agg cs)=bN cs:=by simp only[gV]
@[simp] theorem aUq (cs:List V):gV (.tup cs)=bN cs:=by simp only[gV]
@[simp] theorem aUn (f:Nat) (cs:List V):gV (.clo f cs)=bN cs:=by simp only[gV]
@[simp] theorem aTv:u5 (.undef)=true:=by simp only[u5]
@[simp] theorem aXa (x:Value):u5 (.v x)=true:=by simp only[u5]
@[simp] theorem aVA (id i j:Nat):u5 (.ref id i j)=true:=by simp only[u5]
@[simp] theorem aWx (id i n:Nat):u5 (.sl id i n)=true:=by simp only[u5]
@[simp] theorem aWw (s:Nat) (es:List V) (i j:Nat):u5 (.rp s es i j)=false:=by simp only[u5]
@[simp] theorem aWv (s:Nat) (es:List V):u5 (.ro s es)=es.isEmpty:=by simp only[u5]
@[simp] theorem aVz (s:Nat) (es:List V):u5 (.own s es)=pO es:=by simp only[u5]
@[simp] theorem aVx (cs:List V):u5 (.agg cs)=pO cs:=by simp only[u5]
@[simp] theorem aVB (cs:List V):u5 (.tup cs)=pO cs:=by simp only[u5]
@[simp] theorem aVy (f:Nat) (cs:List V):u5 (.clo f cs)=pO cs:=by simp only[u5]
@[simp] theorem aSC:fW (.undef)=true:=by simp only[fW]
@[simp] theorem aWX (x:Value):fW (.v x)=true:=by simp only[fW]
@[simp] theorem aUG (id i j:Nat):fW (.ref id i j)=false:=by simp only[fW]
@[simp] theorem aV0 (id i n:Nat):fW (.sl id i n)=false:=by simp only[fW]
@[simp] theorem aVZ (s:Nat) (es:List V) (i j:Nat):fW (.rp s es i j)=true:=by simp only[fW]
@[simp] theorem aVY (s:Nat) (es:List V):fW (.ro s es)=true:=by simp only[fW]
@[simp] theorem aUF (s:Nat) (es:List V):fW (.own s es)=true:=by simp only[fW]
@[simp] theorem aUD (cs:List V):fW (.agg cs)=Vk cs:=by simp only[fW]
@[simp] theorem aUH (cs:List V):fW (.tup cs)=Vk cs:=by simp only[fW]
@[simp] theorem aUE (f:Nat) (cs:List V):fW (.clo f cs)=false:=by simp only[fW]
@[simp] theorem aRo:kA (.undef)=false:=by simp only[kA]
@[simp] theorem aVh (x:Value):kA (.v x)=false:=by simp only[kA]
@[simp] theorem aTk (id i j:Nat):kA (.ref id i j)=false:=by simp only[kA]
@[simp] theorem aUh (id i n:Nat):kA (.sl id i n)=false:=by simp only[kA]
@[simp] theorem aUg (s:Nat) (es:List V) (i j:Nat):kA (.rp s es i j)=false:=by simp only[kA]
@[simp] theorem aUf (s:Nat) (es:List V):kA (.ro s es)=false:=by simp only[kA]
@[simp] theorem aTj (s:Nat) (es:List V):kA (.own s es)=false:=by simp only[kA]
@[simp] theorem aTh (cs:List V):kA (.agg cs)=true:=by simp only[kA]
@[simp] theorem aTl (cs:List V):kA (.tup cs)=false:=by simp only[kA]
@[simp] theorem aTi (f:Nat) (cs:List V):kA (.clo f cs)=false:=by simp only[kA]
@[simp] theorem aSG:zA (.undef)=false:=by simp only[zA]
@[simp] theorem aWZ (x:Value):zA (.v x)=true:=by simp only[zA]
@[simp] theorem aUL (id i j:Nat):zA (.ref id i j)=true:=by simp only[zA]
@[simp] theorem aV4 (id i n:Nat):zA (.sl id i n)=true:=by simp only[zA]
@[simp] theorem aV3 (s:Nat) (es:List V) (i j:Nat):zA (.rp s es i j)=true:=by simp only[zA]
@[simp] theorem aV2 (s:Nat) (es:List V):zA (.ro s es)=true:=by simp only[zA]
@[simp] theorem aUK (s:Nat) (es:List V):zA (.own s es)=true:=by simp only[zA]
@[simp] theorem aUI (cs:List V):zA (.agg cs)=false:=by simp only[zA]
@[simp] theorem aUM (cs:List V):zA (.tup cs)=false:=by simp only[zA]
@[simp] theorem aUJ (f:Nat) (cs:List V):zA (.clo f cs)=true:=by simp only[zA]
@[simp] theorem aQ7:fR (.undef)=none:=by simp only[fR]
@[simp] theorem aUZ (x:Value):fR (.v x)=some [.v x]:=by simp only[fR]
@[simp] theorem aS5 (id i j:Nat):fR (.ref id i j)=some [.ref id i j]:=by simp only[fR]
@[simp] theorem aT8 (id i n:Nat):fR (.sl id i n)=some [.sl id i n]:=by simp only[fR]
@[simp] theorem aT7 (s:Nat) (es:List V) (i j:Nat):fR (.rp s es i j)=some [.rp s es i j]:=by simp only[fR]
@[simp] theorem aT6 (s:Nat) (es:List V):fR (.ro s es)=some [.ro s es]:=by simp only[fR]
@[simp] theorem aS4 (s:Nat) (es:List V):fR (.own s es)=some [.own s es]:=by simp only[fR]
@[simp] theorem aS2 (cs:List V):fR (.agg cs)=some cs:=by simp only[fR]
@[simp] theorem aS6 (cs:List V):fR (.tup cs)=none:=by simp only[fR]
@[simp] theorem aS3 (f:Nat) (cs:List V):fR (.clo f cs)=some [.clo f cs]:=by simp only[fR]
@[simp] theorem aTo (k:Nat):gj k (.undef)=false:=by simp only[gj]
@[simp] theorem aW9 (k:Nat) (x:Value):gj k (.v x)=false:=by simp only[gj]
@[simp] theorem aVp (k:Nat) (id i j:Nat):gj k (.ref id i j)=(id==k):=by simp only[gj]
@[simp] theorem aWs (k:Nat) (id i n:Nat):gj k (.sl id i n)=(id==k):=by simp only[gj]
@[simp] theorem aWr (k:Nat) (s:Nat) (es:List V) (i j:Nat):gj k (.rp s es i j)=false:=by simp only[gj]
@[simp] theorem aWq (k:Nat) (s:Nat) (es:List V):gj k (.ro s es)=false:=by simp only[gj]
@[simp] theorem aVo (k:Nat) (s:Nat) (es:List V):gj k (.own s es)=false:=by simp only[gj]
@[simp] theorem aVl (k:Nat) (cs:List V):gj k (.agg cs)=da k cs:=by simp only[gj]
@[simp] theorem aVq (k:Nat) (cs:List V):gj k (.tup cs)=da k cs:=by simp only[gj]
@[simp] theorem aVm (k:Nat) (f:Nat) (cs:List V):gj k (.clo f cs)=da k cs:=by simp only[gj]
@[simp] theorem aTf:mh (.undef)=[]:=by simp only[mh]
@[simp] theorem aW6 (x:Value):mh (.v x)=[]:=by simp only[mh]
@[simp] theorem aVe (id i j:Nat):mh (.ref id i j)=[id]:=by simp only[mh]
@[simp] theorem aWh (id i n:Nat):mh (.sl id i n)=[id]:=by simp only[mh]
@[simp] theorem aWg (s:Nat) (es:List V) (i j:Nat):mh (.rp s es i j)=[]:=by simp only[mh]
@[simp] theorem aWf (s:Nat) (es:List V):mh (.ro s es)=[]:=by simp only[mh]
@[simp] theorem aVd (s:Nat) (es:List V):mh (.own s es)=[]:=by simp only[mh]
@[simp] theorem aVb (cs:List V):mh (.agg cs)=fu cs:=by simp only[mh]
@[simp] theorem aVf (cs:List V):mh (.tup cs)=fu cs:=by simp only[mh]
@[simp] theorem aVc (f:Nat) (cs:List V):mh (.clo f cs)=fu cs:=by simp only[mh]
def frS (d:Nat):List (Nat×V)->Bool
 | []=>true
 | p::l=>!gj d p.2&&frS d l
def frH (d:Nat):List (Nat×Blk)->Bool
 | []=>true
 | p::l=>p.1 != d&&!da d p.2.es&&frH d l
@[simp] theorem aWc {d:Nat}:frS d []=true:=by simp only[frS]
@[simp] theorem aU8 {d k:Nat} {v:V} {l:List (Nat×V)}:frS d ((k,v)::l)=(!gj d v&&frS d l):=by simp only[frS]
@[simp] theorem aWb {d:Nat}:frH d []=true:=by simp only[frH]
@[simp] theorem aU4 {d k s:Nat} {es:List V} {l:List (Nat×Blk)}:frH d ((k,⟨s,es⟩)::l)=(k != d&&!da d es&&frH d l):=by simp only[frH]
theorem aMe (d:Nat):∀ l:List (Nat×V),l.all (fun p=>!gj d p.2)=frS d l
 | []=>rfl
 | p::l=>by simp only[List.all_cons,frS,aMe d l]
theorem aMd (d:Nat):∀ l:List (Nat×Blk),l.all (fun p=>p.1 != d&&!da d p.2.es)=frH d l
 | []=>rfl
 | p::l=>by simp only[List.all_cons,frH,aMd d l]
@[simp] theorem AS.fresh_mk {sl:List (Nat×V)} {hp:List (Nat×Blk)} {pin:List Nat} {d:Nat}:AS.fresh ⟨sl,hp,pin⟩ d=(frS d sl&&frH d hp&&!pin.contains d):=by
 simp only[AS.fresh,aMe,aMd]
variable [gI : GI]
section
variable {P : Program} {K : AS → Prop} {Q : Exit → AS → Prop} {s : AS}
def TG (P:Program) (c:CO) (K:AS->Prop) (s:AS) (t:Nat) (b:Bool):V->Prop
 | .v (.bool v)=>(v=b->rg P c K (s.mark t (.v (.bool b))))/\(v=!b->K ((s.mark t (.v (.bool !b))).put c.d (.tup [])))
 | .tup []=>K (s.put c.d (.tup []))
 | _=>False
theorem aNe {c:CO} {t:Nat}:TG P c K s t true (.v (.bool true))↔rg P c K (s.mark t (.v (.bool true))):=by simp[TG]
theorem aNb {c:CO} {t:Nat}:TG P c K s t false (.v (.bool false))↔rg P c K (s.mark t (.v (.bool false))):=by simp[TG]
theorem aNd {c:CO} {t:Nat}:TG P c K s t true (.v (.bool false))↔K ((s.mark t (.v (.bool false))).put c.d (.tup [])):=by simp[TG]
theorem aNc {c:CO} {t:Nat}:TG P c K s t false (.v (.bool true))↔K ((s.mark t (.v (.bool true))).put c.d (.tup [])):=by simp[TG]
def wpG (P:Program) (c:CO) (K:AS->Prop) (s:AS):Prop:=match c.g with
 | none=>rg P c K s
 | some (t,b)=>TG P c K s t b (lk s.sl t)
theorem aQM {c:CO} {cs:List CO}:wpO P (c::cs) K s=wpG P c (wpO P cs K) s:=by
 unfold wpG TG;rw[wpO];rfl
section
variable {c : CO} {i : Nat} {acc : List It} {f : Nat → List It → AS → Prop} {t : Nat}
end
def aTc (pl:List (List Nat)) (s0:AS) (acc:List It):Prop:=azN pl acc=true/\(acc.all fun e=>e.tr.news.all s0.fresh)=true
theorem aR4 {pl:List (List Nat)} {s0:AS} {i:Nat} {acc:List It}:wpD P pl s0 K [] i acc s=(azN pl acc=true/\(acc.all fun e=>e.tr.news.all s0.fresh)=true/\K s):=rfl
theorem aR3 {pl:List (List Nat)} {s0:AS} {i:Nat} {acc:List It}:wpD P pl s0 K [] i acc s↔(aTc pl s0 acc/\K s):=by rw[aR4,aTc,and_assoc]
theorem cp {b:C} (s':AS) (h:Wk s s') (h':Z4 P b Q s'):Z4 P (.wk b) Q s:=⟨s',h,h'⟩
def aCt (K K':AS->Prop) (s:AS):V->Prop
 | .v (.bool t)=>(t=true->K s)/\(t=false->K' s)
 | _=>False
omit gI in
theorem aRd {K K':AS->Prop} {s:AS}:aCt K K' s (.v (.bool true))↔K s:=by simp[aCt]
omit gI in
theorem aRb {K K':AS->Prop} {s:AS}:aCt K K' s (.v (.bool false))↔K' s:=by simp[aCt]
omit gI in
theorem aRc {K K':AS->Prop} {s:AS} {t:Bool}:aCt K K' s (.v (.bool t))↔(t=true->K s)/\(t=false->K' s):=Iff.rfl
theorem aQL {x:X} {a b:C}:Z4 P (.cond x a b) Q s↔aCt (Z4 P a Q) (Z4 P b Q) s (s.ev x):=Iff.rfl
omit gI in
theorem arz {id:Nat}:acL id Q .ret=Q .ret:=rfl
omit gI in
theorem cv {id i:Nat}:acL id Q (.exit i)=if i=id then Q .normal else Q (.exit i):=rfl
@[simp] theorem aTQ {I:Nat->AS->Prop} {n:Nat}:aHf I n Q .ret=Q .ret:=rfl
@[simp] theorem aSE {I:Nat->AS->Prop} {n i:Nat}:aHf I n Q (.exit i)=Q (.exit i):=rfl
@[simp] theorem aQR {I:Nat->AS->Prop} {n:Nat} {s:AS}:aHf I n Q .normal s↔∃ m s',m < n/\Wk s s'/\I m s':=Iff.rfl
end
def aJy (c a b:V):Option (Prop×Dl):=match c with | .v (.bool t)=>ep (bif t then a else b) | _=>none
def aQH (n:Nat) (v:V) (d:Nat):Option (Prop×Dl):=if ag7 v=some n/\g9 v/\azG v then some (True,{ v:=.ref d 0 0,new:=some ⟨n,[v]⟩ }) else none
def aQK (sz:Option Nat) (look:Nat->Option Blk) (x:V) (lo hi:Option V):Option (Prop×Dl):=match sz with | none=>aKe x lo hi | some s=>aAM s look x lo hi
def aD2 (off:Nat) (x:V):Option (Prop×Dl):=match x with | .ref id i j=>ep (.ref id i (j+off)) | .rp s es i j=>ep (.rp s es i (j+off)) | _=>none
def aQI (i:Nat) (x:V):Option (Prop×Dl):=match x with | .tup vs=>(match vs[i]? with | some v=>ep v | none=>none) | _=>none
def aQJ (b:Bool) (x:V):Option (Prop×Dl):=if b then aKa x else aJ9 x
attribute [simp] aJy aQH aQK aD2 aQI aQJ
def frK (s:AS) (d:Nat):Option Blk->Prop
 | none=>True
 | some _=>s.fresh d=true
omit gI in
@[simp] theorem aU6 {s:AS} {d:Nat}:frK s d none↔True:=Iff.rfl
omit gI in
@[simp] theorem aU7 {s:AS} {d:Nat} {b:Blk}:frK s d (some b)↔s.fresh d=true:=Iff.rfl
def Pp (d:Option Nat) (K:AS->Prop) (s:AS):Option (Prop×Dl)->Prop
 | some (p,δ)=>p/\(δ.new.isSome=true->s.fresh (d.getD 0)=true)/\K (s.app d δ)
 | none=>False
omit gI in
theorem aMU {d:Option Nat} {K:AS->Prop} {s:AS} {p:Prop} {δ:Dl}:Pp d K s (some (p,δ))↔p/\frK s (d.getD 0) δ.new/\K (s.app d δ):=by
 have h:(δ.new.isSome=true->s.fresh (d.getD 0)=true)↔frK s (d.getD 0) δ.new:=by
  cases δ.new with
  | none=>exact⟨fun _=>trivial,fun _ h=>by cases h⟩
  | some b=>exact⟨fun h=>h rfl,fun h _=>h⟩
 show (p/\(δ.new.isSome=true->s.fresh (d.getD 0)=true)/\K (s.app d δ))↔_;rw[h]
omit gI in
theorem aPa {d:Option Nat} {K:AS->Prop} {s:AS} {p:Prop} [Decidable p] {x:Option (Prop×Dl)}:Pp d K s (if p then x else none)↔p/\Pp d K s x:=by
 by_cases h:p<;>simp only[h,if_true,if_false,true_and,false_and]<;>exact Iff.rfl
def VC (c:CO) (i:Nat) (s:AS) (next:It->AS->Prop):Option (Prop×Dl)->Prop
 | some (p,δ)=>p/\(δ.new.isSome=true->c.d.isSome=true)/\next ⟨c,aHu δ c.d,i,zB c s⟩ (s.app c.d δ)
 | none=>False
section
variable {P : Program} {K : AS → Prop} {s : AS} {g : Option (Nat × Bool)} {d : Option Nat} {j : Nat} {next : It → AS → Prop}
theorem aQz {x:X}:rg P ⟨g,d,.mv x⟩ K s↔Pp d K s (ep (s.ev x)):=by
 exact Iff.rfl
theorem aQu {x:X}:ru P ⟨g,d,.mv x⟩ j s next↔VC ⟨g,d,.mv x⟩ j s next (ep (s.ev x)):=by
 exact Iff.rfl
theorem aLH {c a b:X}:rg P ⟨g,d,.pick c a b⟩ K s↔Pp d K s (aJy (s.ev c) (s.ev a) (s.ev b)):=by
 exact Iff.rfl
theorem aLF {c a b:X}:ru P ⟨g,d,.pick c a b⟩ j s next↔VC ⟨g,d,.pick c a b⟩ j s next (aJy (s.ev c) (s.ev a) (s.ev b)):=by
 exact Iff.rfl
theorem aOf {n:Nat} {x:X}:rg P ⟨g,d,.box n x⟩ K s↔Pp d K s (aQH n (s.ev x) (d.getD 0)):=by
 exact Iff.rfl
theorem aN5 {n:Nat} {x:X}:ru P ⟨g,d,.box n x⟩ j s next↔VC ⟨g,d,.box n x⟩ j s next (aQH n (s.ev x) (d.getD 0)):=by
 exact Iff.rfl
theorem aJY {z:V} {ps:List (Nat×Nat×X)}:rg P ⟨g,d,.build z ps⟩ K s↔Pp d K s (aef s.ev z ps):=by
 exact Iff.rfl
theorem aJU {z:V} {ps:List (Nat×Nat×X)}:ru P ⟨g,d,.build z ps⟩ j s next↔VC ⟨g,d,.build z ps⟩ j s next (aef s.ev z ps):=by
 exact Iff.rfl
theorem aHp {sz:Nat} {z:V} {n:Nat} {ps:List (Nat×X)}:rg P ⟨g,d,.bslice sz z n ps⟩ K s↔Pp d K s (NF s.ev sz z n (d.getD 0) ps):=by
 exact Iff.rfl
theorem aHo {sz:Nat} {z:V} {n:Nat} {ps:List (Nat×X)}:ru P ⟨g,d,.bslice sz z n ps⟩ j s next↔VC ⟨g,d,.bslice sz z n ps⟩ j s next (NF s.ev sz z n (d.getD 0) ps):=by
 exact Iff.rfl
theorem aQx {b:Bool} {n:Nat} {x:X}:rg P ⟨g,d,.ld b n x⟩ K s↔Pp d K s (vld b n (fy s.hp) (s.ev x)):=by
 exact Iff.rfl
theorem aQs {b:Bool} {n:Nat} {x:X}:ru P ⟨g,d,.ld b n x⟩ j s next↔VC ⟨g,d,.ld b n x⟩ j s next (vld b n (fy s.hp) (s.ev x)):=by
 exact Iff.rfl
theorem aQB {n:Nat} {a x:X}:rg P ⟨g,d,.st n a x⟩ K s↔Pp d K s (vst n (fy s.hp) (s.ev x) (s.ev a)):=by
 exact Iff.rfl
theorem aQv {n:Nat} {a x:X}:ru P ⟨g,d,.st n a x⟩ j s next↔VC ⟨g,d,.st n a x⟩ j s next (vst n (fy s.hp) (s.ev x) (s.ev a)):=by
 exact Iff.rfl
theorem aOe {op:BinOp} {k:EqK} {x y:X}:rg P ⟨g,d,.bin op k x y⟩ K s↔Pp d K s (aHw op k (s.ev x) (s.ev y)):=by
 exact Iff.rfl
theorem aN4 {op:BinOp} {k:EqK} {x y:X}:ru P ⟨g,d,.bin op k x y⟩ j s next↔VC ⟨g,d,.bin op k x y⟩ j s next (aHw op k (s.ev x) (s.ev y)):=by
 exact Iff.rfl
theorem aQC {op:UnOp} {x:X}:rg P ⟨g,d,.un op x⟩ K s↔Pp d K s (vun op (s.ev x)):=by
 exact Iff.rfl
theorem aQw {op:UnOp} {x:X}:ru P ⟨g,d,.un op x⟩ j s next↔VC ⟨g,d,.un op x⟩ j s next (vun op (s.ev x)):=by
 exact Iff.rfl
theorem aLG {c:CK} {x:X}:rg P ⟨g,d,.conv c x⟩ K s↔Pp d K s (axB c (fy s.hp) (d.getD 0) (s.ev x)):=by
 exact Iff.rfl
theorem aLE {c:CK} {x:X}:ru P ⟨g,d,.conv c x⟩ j s next↔VC ⟨g,d,.conv c x⟩ j s next (axB c (fy s.hp) (d.getD 0) (s.ev x)):=by
 exact Iff.rfl
theorem aOg {f:Nat} {cs:List X}:rg P ⟨g,d,.clo f cs⟩ K s↔Pp d K s (ep (.clo f (cs.map s.ev))):=by
 exact Iff.rfl
theorem aN6 {f:Nat} {cs:List X}:ru P ⟨g,d,.clo f cs⟩ j s next↔VC ⟨g,d,.clo f cs⟩ j s next (ep (.clo f (cs.map s.ev))):=by
 exact Iff.rfl
theorem aOl {sz:Nat} {z:V} {bytes:Nat} {l c:X}:rg P ⟨g,d,.mks sz z bytes l c⟩ K s↔Pp d K s (aHy sz bytes z (d.getD 0) (s.ev l) (s.ev c)):=by
 exact Iff.rfl
theorem aOb {sz:Nat} {z:V} {bytes:Nat} {l c:X}:ru P ⟨g,d,.mks sz z bytes l c⟩ j s next↔VC ⟨g,d,.mks sz z bytes l c⟩ j s next (aHy sz bytes z (d.getD 0) (s.ev l) (s.ev c)):=by
 exact Iff.rfl
theorem aOm {sz:Option Nat} {x:X} {lo hi:Option X}:rg P ⟨g,d,.slc sz x lo hi⟩ K s↔Pp d K s (aQK sz (fy s.hp) (s.ev x) (lo.map s.ev) (hi.map s.ev)):=by
 cases sz<;>exact Iff.rfl
theorem aOc {sz:Option Nat} {x:X} {lo hi:Option X}:ru P ⟨g,d,.slc sz x lo hi⟩ j s next↔VC ⟨g,d,.slc sz x lo hi⟩ j s next (aQK sz (fy s.hp) (s.ev x) (lo.map s.ev) (hi.map s.ev)):=by
 cases sz<;>exact Iff.rfl
theorem aJ0 {off:Nat} {x:X}:rg P ⟨g,d,.faddr off x⟩ K s↔Pp d K s (aD2 off (s.ev x)):=by
 exact Iff.rfl
theorem aJW {off:Nat} {x:X}:ru P ⟨g,d,.faddr off x⟩ j s next↔VC ⟨g,d,.faddr off x⟩ j s next (aD2 off (s.ev x)):=by
 exact Iff.rfl
theorem aOi {b:Bool} {off n:Nat} {x:X}:rg P ⟨g,d,.fld b off n x⟩ K s↔Pp d K s (aJ7 b off n (s.ev x)):=by
 exact Iff.rfl
theorem aN8 {b:Bool} {off n:Nat} {x:X}:ru P ⟨g,d,.fld b off n x⟩ j s next↔VC ⟨g,d,.fld b off n x⟩ j s next (aJ7 b off n (s.ev x)):=by
 exact Iff.rfl
theorem aJ1 {sz:Nat} {x i:X}:rg P ⟨g,d,.iaddr sz x i⟩ K s↔Pp d K s (Vw sz (fy s.hp) (s.ev x) (s.ev i)):=by
 exact Iff.rfl
theorem aJX {sz:Nat} {x i:X}:ru P ⟨g,d,.iaddr sz x i⟩ j s next↔VC ⟨g,d,.iaddr sz x i⟩ j s next (Vw sz (fy s.hp) (s.ev x) (s.ev i)):=by
 exact Iff.rfl
theorem aOj {x i:X}:rg P ⟨g,d,.idx x i⟩ K s↔Pp d K s (aJ8 (s.ev x) (s.ev i)):=by
 exact Iff.rfl
theorem aN9 {x i:X}:ru P ⟨g,d,.idx x i⟩ j s next↔VC ⟨g,d,.idx x i⟩ j s next (aJ8 (s.ev x) (s.ev i)):=by
 exact Iff.rfl
theorem aOh {x:X} {i:Nat}:rg P ⟨g,d,.ext x i⟩ K s↔Pp d K s (aQI i (s.ev x)):=by
 exact Iff.rfl
theorem aN7 {x:X} {i:Nat}:ru P ⟨g,d,.ext x i⟩ j s next↔VC ⟨g,d,.ext x i⟩ j s next (aQI i (s.ev x)):=by
 exact Iff.rfl
theorem aOk {b:Bool} {x:X}:rg P ⟨g,d,.len b x⟩ K s↔Pp d K s (aQJ b (s.ev x)):=by
 exact Iff.rfl
theorem aOa {b:Bool} {x:X}:ru P ⟨g,d,.len b x⟩ j s next↔VC ⟨g,d,.len b x⟩ j s next (aQJ b (s.ev x)):=by
 exact Iff.rfl
theorem aOd {sz bytes:Nat} {x y:X}:rg P ⟨g,d,.app sz bytes x y⟩ K s↔Pp d K s (aBu sz bytes (fy s.hp) (d.getD 0) (s.ev y) (s.ev x)):=by
 exact Iff.rfl
theorem aN3 {sz bytes:Nat} {x y:X}:ru P ⟨g,d,.app sz bytes x y⟩ j s next↔VC ⟨g,d,.app sz bytes x y⟩ j s next (aBu sz bytes (fy s.hp) (d.getD 0) (s.ev y) (s.ev x)):=by
 exact Iff.rfl
theorem aQy {b:Bool} {xs:List X}:rg P ⟨g,d,.mm b xs⟩ K s↔Pp d K s (vmm b (xs.map s.ev)):=by
 exact Iff.rfl
theorem aQt {b:Bool} {xs:List X}:ru P ⟨g,d,.mm b xs⟩ j s next↔VC ⟨g,d,.mm b xs⟩ j s next (vmm b (xs.map s.ev)):=by
 exact Iff.rfl
def aKt (P:Program) (d:Nat) (vs:List V) (K:AS->Prop) (s:AS):V->Prop
 | .clo f caps=>vw P f (vs++caps) s d K
 | _=>False
@[simp] theorem aS0 {d:Nat} {vs caps:List V} {f:Nat}:aKt P d vs K s (.clo f caps)↔vw P f (vs++caps) s d K:=Iff.rfl
theorem aJZ {x:X} {xs:List X}:rg P ⟨g,d,.callv x xs⟩ K s↔aKt P (d.getD 0) (xs.map s.ev) K s (s.ev x):=Iff.rfl
end
class Hd (α:Type) where
 v:α
def oO (P:Program) (cs:List CO) (s:AS) [k:Hd (AS->Prop)]:Prop:=wpO P cs k.v s
def oG (P:Program) (c:CO) (s:AS) [k:Hd (AS->Prop)]:Prop:=wpG P c k.v s
def oK (P:Program) (c:CO) (t:Nat) (b:Bool) (s:AS) (v:V) [k:Hd (AS->Prop)]:Prop:=TG P c k.v s t b v
def oS (P:Program) (c:CO) (s:AS) [k:Hd (AS->Prop)]:Prop:=rg P c k.v s
def oE (d:Option Nat) (s:AS) (o:Option (Prop×Dl)) [k:Hd (AS->Prop)]:Prop:=Pp d k.v s o
def oC (P:Program) (b:C) (s:AS) [q:Hd (Exit->AS->Prop)]:Prop:=Z4 P b q.v s
def oI (P:Program) (a b:C) (s:AS) (v:V) [q:Hd (Exit->AS->Prop)]:Prop:=aCt (Z4 P a q.v) (Z4 P b q.v) s v
def aVK [h:Hd ((List (List Nat)×AS)×List It)]:Prop:=aTc h.v.1.1 h.v.1.2 h.v.2
def oD (P:Program) (cs:List CO) (i:Nat) (s:AS) [z:Hd (List (List Nat)×AS)] [k:Hd (AS->Prop)] [acc:Hd (List It)]:Prop:=wpD P z.v.1 z.v.2 k.v cs i acc.v s
def nxD (P:Program) (cs:List CO) (i:Nat) (it:It) (s:AS) [z:Hd (List (List Nat)×AS)] [k:Hd (AS->Prop)] [acc:Hd (List It)]:Prop:=wpD P z.v.1 z.v.2 k.v cs i (acc.v++[it]) s
def oDG (P:Program) (c:CO) (i:Nat) (s:AS) [n:Hd (It->AS->Prop)]:Prop:=match c.g with
 | none=>ru P c i s n.v
 | some (t,b)=>match lk s.sl t with
   | .v (.bool v)=>(v=b->ru P c i (s.mark t (.v (.bool b))) n.v)/\(v=!b->n.v ⟨c,⟨.tup [],[],[]⟩,i,zB c s⟩ ((s.mark t (.v (.bool !b))).put c.d (.tup [])))
   | .tup []=>n.v ⟨c,⟨.tup [],[],[]⟩,i,zB c s⟩ (s.put c.d (.tup []))
   | _=>False
def oDK (P:Program) (c:CO) (i t:Nat) (b:Bool) (s:AS) (v:V) [n:Hd (It->AS->Prop)]:Prop:=match v with
  | .v (.bool v)=>(v=b->ru P c i (s.mark t (.v (.bool b))) n.v)/\(v=!b->n.v ⟨c,⟨.tup [],[],[]⟩,i,zB c s⟩ ((s.mark t (.v (.bool !b))).put c.d (.tup [])))
  | .tup []=>n.v ⟨c,⟨.tup [],[],[]⟩,i,zB c s⟩ (s.put c.d (.tup []))
  | _=>False
def oDS (P:Program) (c:CO) (i:Nat) (s:AS) [n:Hd (It->AS->Prop)]:Prop:=ru P c i s n.v
def oDE (c:CO) (i:Nat) (s:AS) (o:Option (Prop×Dl)) [n:Hd (It->AS->Prop)]:Prop:=VC c i s n.v o
omit gI in
theorem a7 {pl:List (List Nat)} {s0:AS} {acc:List It} (h1:azN pl acc=true) (h2:(acc.all fun e=>e.tr.news.all s0.fresh)=true):@aVK ⟨((pl,s0),acc)⟩:=⟨h1,h2⟩
section
variable {P : Program} {K K' : AS → Prop} {Q : Exit → AS → Prop} {s : AS} {cs : List CO} {c : CO} {t i j id : Nat} {g : Option (Nat × Bool)} {d : Option Nat} {o : O} {nx : It → AS → Prop} {pl : List (List Nat)} {s0 : AS} {acc : List It} {it : It} {a b : C} {ks : List Nat}
@[simp ↓] theorem aX1:Z4 P b Q s↔@oC gI P b s ⟨Q⟩:=Iff.rfl
@[simp] theorem aWC:@oC gI P .skip s ⟨Q⟩↔Q .normal s:=Iff.rfl
@[simp] theorem aXc:@oC gI P (.reg cs ks) s ⟨Q⟩↔@oO gI P cs s ⟨fun s=>Q .normal (s.keep ks)⟩:=Iff.rfl
@[simp] theorem aWB:@oC gI P (.regD cs pl ks) s ⟨Q⟩↔@oD gI P cs 0 s ⟨(pl,s)⟩ ⟨fun s=>Q .normal (s.keep ks)⟩ ⟨[]⟩:=Iff.rfl
@[simp] theorem aXe:@oC gI P (.seq a b) s ⟨Q⟩↔@oC gI P a s ⟨aQl (Z4 P b Q) Q⟩:=Iff.rfl
@[simp] theorem aVD:@oC gI P (.block id b) s ⟨Q⟩↔@oC gI P b s ⟨acL id Q⟩:=Iff.rfl
@[simp] theorem aWA:@oC gI P (.loop b) s ⟨Q⟩↔aJf (Z4 P b) Q s:=Iff.rfl
@[simp] theorem aWz:@oC gI P (.exit id) s ⟨Q⟩↔Q (.exit id) s:=Iff.rfl
@[simp] theorem aXd:@oC gI P .ret s ⟨Q⟩↔Q .ret s:=Iff.rfl
@[simp] theorem aXb:@oC gI P .bad s ⟨Q⟩↔False:=Iff.rfl
@[simp] theorem aWy {x:X}:@oC gI P (.cond x a b) s ⟨Q⟩↔@oI gI P a b s (s.ev x) ⟨Q⟩:=aQL
@[simp] theorem aX7:@oI gI P a b s (.v (.bool true)) ⟨Q⟩↔@oC gI P a s ⟨Q⟩:=aRd
@[simp] theorem aX5:@oI gI P a b s (.v (.bool false)) ⟨Q⟩↔@oC gI P b s ⟨Q⟩:=aRb
@[simp low] theorem aX6 {q:Bool}:@oI gI P a b s (.v (.bool q)) ⟨Q⟩↔(q=true->@oC gI P a s ⟨Q⟩)/\(q=false->@oC gI P b s ⟨Q⟩):=aRc
omit gI in
@[simp ↓] theorem aXE:aQl K Q .normal s↔K s:=Iff.rfl
omit gI in
@[simp ↓] theorem aXF:aQl K Q .ret s↔Q .ret s:=Iff.rfl
omit gI in
@[simp ↓] theorem aXD:aQl K Q (.exit i) s↔Q (.exit i) s:=Iff.rfl
omit gI in
@[simp ↓] theorem aUT:acL id Q .normal s↔Q .normal s:=Iff.rfl
omit gI in
@[simp ↓] theorem aUU:acL id Q .ret s↔Q .ret s:=Iff.rfl
omit gI in
@[simp ↓] theorem aUS:acL id Q (.exit i) s↔if i=id then Q .normal s else Q (.exit i) s:=by
 rw[cv];split<;>rfl
omit gI in
@[simp ↓] theorem aWl:aPt ks Q s↔Q .normal (s.keep ks):=Iff.rfl
@[simp] theorem aXq:@oO gI P [] s ⟨K⟩↔K s:=Iff.rfl
@[simp] theorem aWT:@oO gI P (c::cs) s ⟨K⟩↔@oG gI P c s ⟨fun s=>@oO gI P cs s ⟨K⟩⟩:=by
 unfold oO oG;rw[aQM];rfl
@[simp ↓] theorem aX3:wpO P cs K s↔@oO gI P cs s ⟨K⟩:=Iff.rfl
@[simp] theorem aWR:@oG gI P ⟨none,d,o⟩ s ⟨K⟩↔@oS gI P ⟨none,d,o⟩ s ⟨K⟩:=Iff.rfl
@[simp] theorem aWS {q:Bool}:@oG gI P ⟨some (t,q),d,o⟩ s ⟨K⟩↔@oK gI P ⟨some (t,q),d,o⟩ t q s (lk s.sl t) ⟨K⟩:=Iff.rfl
@[simp] theorem aXT:@oK gI P c t true s (.v (.bool true)) ⟨K⟩↔@oS gI P c (s.mark t (.v (.bool true))) ⟨K⟩:=aNe
@[simp] theorem aXQ:@oK gI P c t false s (.v (.bool false)) ⟨K⟩↔@oS gI P c (s.mark t (.v (.bool false))) ⟨K⟩:=aNb
@[simp] theorem aXS:@oK gI P c t true s (.v (.bool false)) ⟨K⟩↔K ((s.mark t (.v (.bool false))).put c.d (.tup [])):=aNd
@[simp] theorem aXR:@oK gI P c t false s (.v (.bool true)) ⟨K⟩↔K ((s.mark t (.v (.bool true))).put c.d (.tup [])):=aNc
@[simp] theorem aX9 {q:Bool}:@oK gI P c t q s (.tup []) ⟨K⟩↔K (s.put c.d (.tup [])):=Iff.rfl
@[simp low] theorem aX8 {q v:Bool}:@oK gI P c t q s (.v (.bool v)) ⟨K⟩↔(v=q->@oS gI P c (s.mark t (.v (.bool q))) ⟨K⟩)/\(v=!q->K ((s.mark t (.v (.bool !q))).put c.d (.tup []))):=Iff.rfl
omit [GI] in
@[simp] theorem aWQ {p:Prop} {δ:Dl}:@oE d s (some (p,δ)) ⟨K⟩↔p/\frK s (d.getD 0) δ.new/\K (s.app d δ):=aMU
omit [GI] in
@[simp] theorem aXp {p:Prop} [Decidable p] {x:Option (Prop×Dl)}:@oE d s (if p then x else none) ⟨K⟩↔p/\@oE d s x ⟨K⟩:=aPa
@[simp] theorem aWU {f:Nat} {xs:List X}:@oS gI P ⟨g,d,.call f xs⟩ s ⟨K⟩↔vw P f (xs.map s.ev) s (d.getD 0) K:=Iff.rfl
@[simp] theorem aVM {x:X} {xs:List X}:@oS gI P ⟨g,d,.callv x xs⟩ s ⟨K⟩↔aKt P (d.getD 0) (xs.map s.ev) K s (s.ev x):=aJZ
@[simp ↓] theorem aX2:wpD P pl s0 K cs i acc s↔@oD gI P cs i s ⟨(pl,s0)⟩ ⟨K⟩ ⟨acc⟩:=Iff.rfl
@[simp] theorem aXo:@oD gI P [] i s ⟨(pl,s0)⟩ ⟨K⟩ ⟨acc⟩↔(@aVK ⟨((pl,s0),acc)⟩/\K s):=aR3
@[simp] theorem aWP:@oD gI P (c::cs) i s ⟨(pl,s0)⟩ ⟨K⟩ ⟨acc⟩↔@oDG gI P c i s ⟨fun it s=>@nxD gI P cs (i+1) it s ⟨(pl,s0)⟩ ⟨K⟩ ⟨acc⟩⟩:=by
 unfold oD oDG;rw[wpD];rfl
@[simp] theorem aXN:@nxD gI P cs i it s ⟨(pl,s0)⟩ ⟨K⟩ ⟨acc⟩↔@oD gI P cs i s ⟨(pl,s0)⟩ ⟨K⟩ ⟨acc++[it]⟩:=Iff.rfl
@[simp] theorem aVF:@oDG gI P ⟨none,d,o⟩ i s ⟨nx⟩↔@oDS gI P ⟨none,d,o⟩ i s ⟨nx⟩:=Iff.rfl
@[simp] theorem aVG {q:Bool}:@oDG gI P ⟨some (t,q),d,o⟩ i s ⟨nx⟩↔@oDK gI P ⟨some (t,q),d,o⟩ i t q s (lk s.sl t) ⟨nx⟩:=Iff.rfl
@[simp] theorem aXi:@oDK gI P c i t true s (.v (.bool true)) ⟨nx⟩↔@oDS gI P c i (s.mark t (.v (.bool true))) ⟨nx⟩:=by simp[oDK,oDS]
@[simp] theorem aXf:@oDK gI P c i t false s (.v (.bool false)) ⟨nx⟩↔@oDS gI P c i (s.mark t (.v (.bool false))) ⟨nx⟩:=by simp[oDK,oDS]
@[simp] theorem aXh:@oDK gI P c i t true s (.v (.bool false)) ⟨nx⟩↔nx ⟨c,⟨.tup [],[],[]⟩,i,zB c s⟩ ((s.mark t (.v (.bool false))).put c.d (.tup [])):=by simp[oDK]
@[simp] theorem aXg:@oDK gI P c i t false s (.v (.bool true)) ⟨nx⟩↔nx ⟨c,⟨.tup [],[],[]⟩,i,zB c s⟩ ((s.mark t (.v (.bool true))).put c.d (.tup [])):=by simp[oDK]
@[simp] theorem aXP {q:Bool}:@oDK gI P c i t q s (.tup []) ⟨nx⟩↔nx ⟨c,⟨.tup [],[],[]⟩,i,zB c s⟩ (s.put c.d (.tup [])):=Iff.rfl
@[simp low] theorem aXO {q v:Bool}:@oDK gI P c i t q s (.v (.bool v)) ⟨nx⟩↔(v=q->@oDS gI P c i (s.mark t (.v (.bool q))) ⟨nx⟩)/\(v=!q->nx ⟨c,⟨.tup [],[],[]⟩,i,zB c s⟩ ((s.mark t (.v (.bool !q))).put c.d (.tup []))):=Iff.rfl
omit [GI] in
@[simp] theorem aVE {p:Prop} {δ:Dl}:@oDE c i s (some (p,δ)) ⟨nx⟩↔p/\(δ.new.isSome=true->c.d.isSome=true)/\nx ⟨c,aHu δ c.d,i,zB c s⟩ (s.app c.d δ):=Iff.rfl
omit [GI] in
@[simp] theorem aWD {p:Prop} [Decidable p] {x:Option (Prop×Dl)}:@oDE c i s (if p then x else none) ⟨nx⟩↔p/\@oDE c i s x ⟨nx⟩:=by
 by_cases h:p<;>simp only[h,if_true,if_false,true_and,false_and]<;>exact Iff.rfl
@[simp] theorem aVH {f:Nat} {xs:List X}:@oDS gI P ⟨g,d,.call f xs⟩ j s ⟨nx⟩↔∃ d',d=some d'/\Dw P f (xs.map s.ev) s d' ⟨g,d,.call f xs⟩ j nx:=Iff.rfl
def aF6 (P:Program) (d:Option Nat) (vs:List V) (c:CO) (i:Nat) (nx:It->AS->Prop) (s:AS):V->Prop
 | .clo f caps=>∃ d',d=some d'/\Dw P f (vs++caps) s d' c i nx
 | _=>False
@[simp] theorem aSZ {vs caps:List V} {f:Nat}:aF6 P d vs c i nx s (.clo f caps)↔∃ d',d=some d'/\Dw P f (vs++caps) s d' c i nx:=Iff.rfl
theorem aJV {x:X} {xs:List X}:ru P ⟨g,d,.callv x xs⟩ j s nx↔aF6 P d (xs.map s.ev) ⟨g,d,.callv x xs⟩ j nx s (s.ev x):=by
 unfold ru aF6;simp only;cases s.ev x<;>simp
@[simp] theorem aUy {x:X} {xs:List X}:@oDS gI P ⟨g,d,.callv x xs⟩ j s ⟨nx⟩↔aF6 P d (xs.map s.ev) ⟨g,d,.callv x xs⟩ j nx s (s.ev x):=aJV
@[simp] theorem aXW {x:X}:@oS gI P ⟨g,d,.mv x⟩ s ⟨K⟩↔@oE d s (ep (s.ev x)) ⟨K⟩:=aQz
@[simp] theorem aXl {x:X}:@oDS gI P ⟨g,d,.mv x⟩ j s ⟨nx⟩↔@oDE ⟨g,d,.mv x⟩ j s (ep (s.ev x)) ⟨nx⟩:=aQu
@[simp] theorem aWW {c a b:X}:@oS gI P ⟨g,d,.pick c a b⟩ s ⟨K⟩↔@oE d s (aJy (s.ev c) (s.ev a) (s.ev b)) ⟨K⟩:=aLH
@[simp] theorem aVJ {c a b:X}:@oDS gI P ⟨g,d,.pick c a b⟩ j s ⟨nx⟩↔@oDE ⟨g,d,.pick c a b⟩ j s (aJy (s.ev c) (s.ev a) (s.ev b)) ⟨nx⟩:=aLF
@[simp] theorem aXt {n:Nat} {x:X}:@oS gI P ⟨g,d,.box n x⟩ s ⟨K⟩↔@oE d s (aQH n (s.ev x) (d.getD 0)) ⟨K⟩:=aOf
@[simp] theorem aWH {n:Nat} {x:X}:@oDS gI P ⟨g,d,.box n x⟩ j s ⟨nx⟩↔@oDE ⟨g,d,.box n x⟩ j s (aQH n (s.ev x) (d.getD 0)) ⟨nx⟩:=aN5
@[simp] theorem aVL {z:V} {ps:List (Nat×Nat×X)}:@oS gI P ⟨g,d,.build z ps⟩ s ⟨K⟩↔@oE d s (aef s.ev z ps) ⟨K⟩:=aJY
@[simp] theorem aUx {z:V} {ps:List (Nat×Nat×X)}:@oDS gI P ⟨g,d,.build z ps⟩ j s ⟨nx⟩↔@oDE ⟨g,d,.build z ps⟩ j s (aef s.ev z ps) ⟨nx⟩:=aJU
@[simp] theorem aUB {sz:Nat} {z:V} {n:Nat} {ps:List (Nat×X)}:@oS gI P ⟨g,d,.bslice sz z n ps⟩ s ⟨K⟩↔@oE d s (NF s.ev sz z n (d.getD 0) ps) ⟨K⟩:=aHp
@[simp] theorem aTA {sz:Nat} {z:V} {n:Nat} {ps:List (Nat×X)}:@oDS gI P ⟨g,d,.bslice sz z n ps⟩ j s ⟨nx⟩↔@oDE ⟨g,d,.bslice sz z n ps⟩ j s (NF s.ev sz z n (d.getD 0) ps) ⟨nx⟩:=aHo
@[simp] theorem aXU {b:Bool} {n:Nat} {x:X}:@oS gI P ⟨g,d,.ld b n x⟩ s ⟨K⟩↔@oE d s (vld b n (fy s.hp) (s.ev x)) ⟨K⟩:=aQx
@[simp] theorem aXj {b:Bool} {n:Nat} {x:X}:@oDS gI P ⟨g,d,.ld b n x⟩ j s ⟨nx⟩↔@oDE ⟨g,d,.ld b n x⟩ j s (vld b n (fy s.hp) (s.ev x)) ⟨nx⟩:=aQs
@[simp] theorem aXX {n:Nat} {a x:X}:@oS gI P ⟨g,d,.st n a x⟩ s ⟨K⟩↔@oE d s (vst n (fy s.hp) (s.ev x) (s.ev a)) ⟨K⟩:=aQB
@[simp] theorem aXm {n:Nat} {a x:X}:@oDS gI P ⟨g,d,.st n a x⟩ j s ⟨nx⟩↔@oDE ⟨g,d,.st n a x⟩ j s (vst n (fy s.hp) (s.ev x) (s.ev a)) ⟨nx⟩:=aQv
@[simp] theorem aXs {op:BinOp} {k:EqK} {x y:X}:@oS gI P ⟨g,d,.bin op k x y⟩ s ⟨K⟩↔@oE d s (aHw op k (s.ev x) (s.ev y)) ⟨K⟩:=aOe
@[simp] theorem aWG {op:BinOp} {k:EqK} {x y:X}:@oDS gI P ⟨g,d,.bin op k x y⟩ j s ⟨nx⟩↔@oDE ⟨g,d,.bin op k x y⟩ j s (aHw op k (s.ev x) (s.ev y)) ⟨nx⟩:=aN4
@[simp] theorem aXY {op:UnOp} {x:X}:@oS gI P ⟨g,d,.un op x⟩ s ⟨K⟩↔@oE d s (vun op (s.ev x)) ⟨K⟩:=aQC
@[simp] theorem aXn {op:UnOp} {x:X}:@oDS gI P ⟨g,d,.un op x⟩ j s ⟨nx⟩↔@oDE ⟨g,d,.un op x⟩ j s (vun op (s.ev x)) ⟨nx⟩:=aQw
@[simp] theorem aWV {c:CK} {x:X}:@oS gI P ⟨g,d,.conv c x⟩ s ⟨K⟩↔@oE d s (axB c (fy s.hp) (d.getD 0) (s.ev x)) ⟨K⟩:=aLG
@[simp] theorem aVI {c:CK} {x:X}:@oDS gI P ⟨g,d,.conv c x⟩ j s ⟨nx⟩↔@oDE ⟨g,d,.conv c x⟩ j s (axB c (fy s.hp) (d.getD 0) (s.ev x)) ⟨nx⟩:=aLE
@[simp] theorem aXu {f:Nat} {cs:List X}:@oS gI P ⟨g,d,.clo f cs⟩ s ⟨K⟩↔@oE d s (ep (.clo f (cs.map s.ev))) ⟨K⟩:=aOg
@[simp] theorem aWI {f:Nat} {cs:List X}:@oDS gI P ⟨g,d,.clo f cs⟩ j s ⟨nx⟩↔@oDE ⟨g,d,.clo f cs⟩ j s (ep (.clo f (cs.map s.ev))) ⟨nx⟩:=aN6
@[simp] theorem aXz {sz:Nat} {z:V} {bytes:Nat} {l c:X}:@oS gI P ⟨g,d,.mks sz z bytes l c⟩ s ⟨K⟩↔@oE d s (aHy sz bytes z (d.getD 0) (s.ev l) (s.ev c)) ⟨K⟩:=aOl
@[simp] theorem aWN {sz:Nat} {z:V} {bytes:Nat} {l c:X}:@oDS gI P ⟨g,d,.mks sz z bytes l c⟩ j s ⟨nx⟩↔@oDE ⟨g,d,.mks sz z bytes l c⟩ j s (aHy sz bytes z (d.getD 0) (s.ev l) (s.ev c)) ⟨nx⟩:=aOb
@[simp] theorem aXA {sz:Option Nat} {x:X} {lo hi:Option X}:@oS gI P ⟨g,d,.slc sz x lo hi⟩ s ⟨K⟩↔@oE d s (aQK sz (fy s.hp) (s.ev x) (lo.map s.ev) (hi.map s.ev)) ⟨K⟩:=aOm
@[simp] theorem aWO {sz:Option Nat} {x:X} {lo hi:Option X}:@oDS gI P ⟨g,d,.slc sz x lo hi⟩ j s ⟨nx⟩↔@oDE ⟨g,d,.slc sz x lo hi⟩ j s (aQK sz (fy s.hp) (s.ev x) (lo.map s.ev) (hi.map s.ev)) ⟨nx⟩:=aOc
@[simp] theorem aVN {off:Nat} {x:X}:@oS gI P ⟨g,d,.faddr off x⟩ s ⟨K⟩↔@oE d s (aD2 off (s.ev x)) ⟨K⟩:=aJ0
@[simp] theorem aUz {off:Nat} {x:X}:@oDS gI P ⟨g,d,.faddr off x⟩ j s ⟨nx⟩↔@oDE ⟨g,d,.faddr off x⟩ j s (aD2 off (s.ev x)) ⟨nx⟩:=aJW
@[simp] theorem aXw {b:Bool} {off n:Nat} {x:X}:@oS gI P ⟨g,d,.fld b off n x⟩ s ⟨K⟩↔@oE d s (aJ7 b off n (s.ev x)) ⟨K⟩:=aOi
@[simp] theorem aWK {b:Bool} {off n:Nat} {x:X}:@oDS gI P ⟨g,d,.fld b off n x⟩ j s ⟨nx⟩↔@oDE ⟨g,d,.fld b off n x⟩ j s (aJ7 b off n (s.ev x)) ⟨nx⟩:=aN8
@[simp] theorem aVO {sz:Nat} {x i:X}:@oS gI P ⟨g,d,.iaddr sz x i⟩ s ⟨K⟩↔@oE d s (Vw sz (fy s.hp) (s.ev x) (s.ev i)) ⟨K⟩:=aJ1
@[simp] theorem aUA {sz:Nat} {x i:X}:@oDS gI P ⟨g,d,.iaddr sz x i⟩ j s ⟨nx⟩↔@oDE ⟨g,d,.iaddr sz x i⟩ j s (Vw sz (fy s.hp) (s.ev x) (s.ev i)) ⟨nx⟩:=aJX
@[simp] theorem aXx {x i:X}:@oS gI P ⟨g,d,.idx x i⟩ s ⟨K⟩↔@oE d s (aJ8 (s.ev x) (s.ev i)) ⟨K⟩:=aOj
@[simp] theorem aWL {x i:X}:@oDS gI P ⟨g,d,.idx x i⟩ j s ⟨nx⟩↔@oDE ⟨g,d,.idx x i⟩ j s (aJ8 (s.ev x) (s.ev i)) ⟨nx⟩:=aN9
@[simp] theorem aXv {x:X} {i:Nat}:@oS gI P ⟨g,d,.ext x i⟩ s ⟨K⟩↔@oE d s (aQI i (s.ev x)) ⟨K⟩:=aOh
@[simp] theorem aWJ {x:X} {i:Nat}:@oDS gI P ⟨g,d,.ext x i⟩ j s ⟨nx⟩↔@oDE ⟨g,d,.ext x i⟩ j s (aQI i (s.ev x)) ⟨nx⟩:=aN7
@[simp] theorem aXy {b:Bool} {x:X}:@oS gI P ⟨g,d,.len b x⟩ s ⟨K⟩↔@oE d s (aQJ b (s.ev x)) ⟨K⟩:=aOk
@[simp] theorem aWM {b:Bool} {x:X}:@oDS gI P ⟨g,d,.len b x⟩ j s ⟨nx⟩↔@oDE ⟨g,d,.len b x⟩ j s (aQJ b (s.ev x)) ⟨nx⟩:=aOa
@[simp] theorem aXr {sz bytes:Nat} {x y:X}:@oS gI P ⟨g,d,.app sz bytes x y⟩ s ⟨K⟩↔@oE d s (aBu sz bytes (fy s.hp) (d.getD 0) (s.ev y) (s.ev x)) ⟨K⟩:=aOd
@[simp] theorem aWF {sz bytes:Nat} {x y:X}:@oDS gI P ⟨g,d,.app sz bytes x y⟩ j s ⟨nx⟩↔@oDE ⟨g,d,.app sz bytes x y⟩ j s (aBu sz bytes (fy s.hp) (d.getD 0) (s.ev y) (s.ev x)) ⟨nx⟩:=aN3
@[simp] theorem aXV {b:Bool} {xs:List X}:@oS gI P ⟨g,d,.mm b xs⟩ s ⟨K⟩↔@oE d s (vmm b (xs.map s.ev)) ⟨K⟩:=aQy
@[simp] theorem aXk {b:Bool} {xs:List X}:@oDS gI P ⟨g,d,.mm b xs⟩ j s ⟨nx⟩↔@oDE ⟨g,d,.mm b xs⟩ j s (vmm b (xs.map s.ev)) ⟨nx⟩:=aQt
end
theorem bB {P:Program} {f:Nat} {vs:List V} {s:AS} {d:Nat} {K:AS->Prop} {res:V} (h:aa P f (vs.map (cz (fy s.hp) 6)) res)
  (h1:fW res=true) (h2:u5 res=true\/(bN vs=true/\cO vs=true)) (h3:(List.range (ix d 0 res).2.2).all (fun i=>s.fresh (d+1000 * i))=true) (h4:K (s.took d res)):vw P f vs s d K:=.inl ⟨res,h,h1,h2,h3,h4⟩
omit [GI] in
theorem aHt (s:AS) (d:Nat) (x:Value):s.took d (.v x)=s.put (some d) (.v x):=by simp[AS.took,ix,AS.put]
theorem al {P:Program} {f:Nat} {vs:List V} {s:AS} {d:Nat} {K:AS->Prop} {x:Value} (h:aa P f (vs.map (cz (fy s.hp) 6)) (.v x)) (h4:K (s.put (some d) (.v x))):vw P f vs s d K :=
 bB h rfl (.inl rfl) (by simp[ix]) (by rw[aHt];exact h4)
theorem aa.arg {P:Program} {f:Nat} {args args':List V} {res:V} (h:aa P f args res) (e:args'=args):aa P f args' res:=by rw[e];exact h
theorem ac.arg {P:Program} {f:Nat} {args args':List V} {res:V} {H0:List Blk} {H1:List (Option Blk)} (h:ac P f H0 args res H1) (e:args'=args):ac P f H0 args' res H1:=by rw[e];exact h
theorem iV {P:Program} {f:Nat} {vs:List V} {s:AS} {d i:Nat} {c:CO} {next:It->AS->Prop} {x:Value} (h:aa P f (vs.map (cz (fy s.hp) 6)) (.v x)) (h1:cO vs=true)
  (h2:(fu vs).all (fun id=>match fy s.hp id with | some b=>mf b.es | none=>true)=true) (h3:next ⟨c,Ik d (.v x),i,zB c s⟩ (s.put (some d) (.v x))):Dw P f vs s d c i next :=
 .inl ⟨.v x,h,rfl,.inl rfl,h1,h2,by rw[aHt];exact h3⟩
theorem Gw {P:Program} {f:Nat} {vs:List V} {s:AS} {d i:Nat} {c:CO} {next:It->AS->Prop} {res:V} (h:aa P f (vs.map (cz (fy s.hp) 6)) res) (h0:fW res=true) (hr:u5 res=true\/(bN vs=true/\cO vs=true)) (h1:cO vs=true)
  (h2:(fu vs).all (fun id=>match fy s.hp id with | some b=>mf b.es | none=>true)=true) (h3:next ⟨c,Ik d res,i,zB c s⟩ (s.took d res)):Dw P f vs s d c i next :=
 .inl ⟨res,h,h0,hr,h1,h2,h3⟩
attribute [simp] trM
attribute [simp] mf azN ind aiy Tr.free aHu Ik zB xsT xsO fu rdS
theorem aQ6 {P:Program} {f:Nat} {vs:List V} {s:AS} {d:Nat} {K:AS->Prop} {res:V} (M:List Nat) {H0:List Blk} {H1:List (Option Blk)} (h:ac P f H0 (vs.map (vc M (fy s.hp) 6)) res H1)
  (h1:M.Nodup) (h2:M.map (fy s.hp)=H0.map some) (h3:∀ blk ∈ H0,bN blk.es=true) (h4:WA H1=true) (h5:fW res=true) (h6:u5 res=true)
  (h7:(List.range (ix d 0 res).2.2).all (fun i=>(s.wrote M H1).fresh (d+1000 * i))=true) (h8:K ((s.wrote M H1).took d res)):vw P f vs s d K :=
 .inr <| .inl ⟨M,H0,res,H1,h,h1,h2,h3,h4,h5,h6,h7,h8⟩
attribute [simp] mG hpM AS.minit pR vc aC7 A3 aBf AS.wrote ay3 WA aec
def aMw (res:V):Option (Prop×V×List Nat)->Prop
 | some (p,r,ids)=>p/\r=res/\ids.Nodup
 | none=>False
def aFI (look:Nat->Option Blk) (res:V):Option (List V)->Prop
 | some vs=>aMw res (LX look (u6 vs))
 | none=>False
attribute [simp] aMw aFI
omit [GI] in
theorem aOJ {rs:List RV} {res:V} {s:AS}:(∃ vs p ids,Fh s rs=some vs/\LX (fy s.hp) (u6 vs)=some (p,res,ids)/\p/\ids.Nodup)↔aFI (fy s.hp) res (Fh s rs):=by
 cases h:Fh s rs with
 | none=>simp[aFI]
 | some vs =>
   simp only[aFI,Option.some.injEq];cases h2:LX (fy s.hp) (u6 vs) with
   | none =>
     simp only[aMw,iff_false];rintro ⟨vs',p,ids,rfl,h3,_⟩;rw[h2] at h3;cases h3
   | some y =>
     obtain ⟨p,r,ids⟩:=y;simp only[aMw];constructor
     ·rintro ⟨vs',p',ids',rfl,h3,h4,h5⟩;rw[h2] at h3;cases h3;exact⟨h4,rfl,h5⟩
     ·rintro ⟨h4,rfl,h5⟩;exact⟨vs,p,ids,rfl,h2,h4,h5⟩
omit [GI] in
theorem aQW {rs:List RV} {res:V} {s:AS}:Ret rs res .ret s↔aFI (fy s.hp) res (Fh s rs):=by rw[<- aOJ];simp[Ret]
omit [GI] in
theorem aKq {rs:List RV} {res:V} {s:AS}:Ret rs res .normal s↔aFI (fy s.hp) res (Fh s rs):=by rw[<- aOJ];simp[Ret]
omit [GI] in
theorem aOK {rs:List RV} {res:V} {s:AS} {i:Nat}:Ret rs res (.exit i) s↔False:=by simp[Ret]
attribute [simp] aQW aKq aOK
def aG4 (look:Nat->Option Blk) (res:V) (H1:List (Option Blk)):Option (Prop×V×List Nat)->Prop
 | some (p,r,ids)=>p/\r=res/\(ids++(pR H1 0).map mG).Nodup/\aec look H1 0
 | none=>False
def ays (look:Nat->Option Blk) (res:V) (H1:List (Option Blk)):Option (List V)->Prop
 | some vs=>aG4 look res H1 (LX look (u6 vs))
 | none=>False
attribute [simp] aG4 ays
omit [GI] in
theorem aL0 {rs:List RV} {res:V} {s:AS} {H1:List (Option Blk)}:(∃ vs p ids,Fh s rs=some vs/\LX (fy s.hp) (u6 vs)=some (p,res,ids)/\p/\(ids++(pR H1 0).map mG).Nodup/\aec (fy s.hp) H1 0)↔ays (fy s.hp) res H1 (Fh s rs):=by
 cases h:Fh s rs with
 | none=>simp only[ays,iff_false];rintro ⟨vs,p,ids,e,_⟩;cases e
 | some vs =>
   simp only[ays,Option.some.injEq];cases h2:LX (fy s.hp) (u6 vs) with
   | none =>
     simp only[aG4,iff_false];rintro ⟨vs',p,ids,rfl,h3,_⟩;rw[h2] at h3;cases h3
   | some y =>
     obtain ⟨p,r,ids⟩:=y;simp only[aG4];constructor
     ·rintro ⟨vs',p',ids',rfl,h3,h4,h5⟩;rw[h2] at h3;cases h3;exact⟨h4,rfl,h5⟩
     ·rintro ⟨h4,rfl,h5⟩;exact⟨vs,p,ids,rfl,h2,h4,h5⟩
omit [GI] in
@[simp] theorem aUO {rs:List RV} {res:V} {H1:List (Option Blk)} {s:AS}:aHI rs res H1 .ret s↔ays (fy s.hp) res H1 (Fh s rs):=by rw[<- aL0];simp[aHI]
omit [GI] in
@[simp] theorem aR9 {rs:List RV} {res:V} {H1:List (Option Blk)} {s:AS}:aHI rs res H1 .normal s↔ays (fy s.hp) res H1 (Fh s rs):=by rw[<- aL0];simp[aHI]
omit [GI] in
@[simp] theorem aT1 {rs:List RV} {res:V} {H1:List (Option Blk)} {s:AS} {i:Nat}:aHI rs res H1 (.exit i) s↔False:=by simp[aHI]
def aPs (J:AS->Prop) (Q:Exit->AS->Prop):Exit->AS->Prop
 | .normal=>J
 | e=>Q e
omit [GI] in
@[simp ↓] theorem aWj {J:AS->Prop} {Q:Exit->AS->Prop} {s:AS}:aPs J Q .normal s↔J s:=Iff.rfl
omit [GI] in
@[simp ↓] theorem aWk {J:AS->Prop} {Q:Exit->AS->Prop} {s:AS}:aPs J Q .ret s↔Q .ret s:=Iff.rfl
omit [GI] in
@[simp ↓] theorem aWi {J:AS->Prop} {Q:Exit->AS->Prop} {i:Nat} {s:AS}:aPs J Q (.exit i) s↔Q (.exit i) s:=Iff.rfl
section
omit [GI]
@[simp] theorem aWp (as_ bs:List V):leV (.tup as_) (.tup bs)↔ail as_ bs:=by simp[leV]
@[simp] theorem aWm (as_ bs:List V):leV (.agg as_) (.agg bs)↔ail as_ bs:=by simp[leV]
@[simp] theorem aWn (x:Value) (n:Nat) (es:List V):leV (.v x) (.own n es)↔x=.slice none 0 0/\es=[]:=by simp[leV]
@[simp] theorem aUj (x:Value) (n:Nat) (es:List V):leV (.v x) (.ro n es)↔x=.slice none 0 0/\es=[]:=by simp[leV]
@[simp] theorem aW8 (n m:Nat) (as_ bs:List V):leV (.ro n as_) (.ro m bs)↔n=m/\as_=bs:=by simp[leV]
@[simp] theorem aSk (n:Nat) (es:List V):leV (.ro n es) .undef↔True:=by simp[leV]
@[simp] theorem aXL (x y:Value):leV (.v x) (.v y)↔x=y:=by simp[leV]
@[simp] theorem aWo (n m:Nat) (as_ bs:List V):leV (.own n as_) (.own m bs)↔n=m/\as_=bs:=by simp[leV]
@[simp] theorem aVj:ail [] []↔True:=by simp[ail]
@[simp] theorem aUk (a b:V) (as_ bs:List V):ail (a::as_) (b::bs)↔leV a b/\ail as_ bs:=by simp[ail]
end
def aHd (res:V):Option (Prop×V×List Nat)->Prop
 | some (p,r,ids)=>p/\leV r res/\ids.Nodup
 | none=>False
def ayL (look:Nat->Option Blk) (res:V):Option (List V)->Prop
 | some vs=>aHd res (LX look (u6 vs))
 | none=>False
attribute [simp] aHd ayL
omit [GI] in
theorem aL3 {rs:List RV} {res:V} {s:AS}:(∃ vs p r ids,Fh s rs=some vs/\LX (fy s.hp) (u6 vs)=some (p,r,ids)/\p/\ids.Nodup/\leV r res)↔ayL (fy s.hp) res (Fh s rs):=by
 cases h:Fh s rs with
 | none=>simp[ayL]
 | some vs =>
   simp only[ayL,Option.some.injEq];cases h2:LX (fy s.hp) (u6 vs) with
   | none =>
     simp only[aHd,iff_false];rintro ⟨vs',p,r,ids,rfl,h3,_⟩;rw[h2] at h3;cases h3
   | some y =>
     obtain ⟨p,r,ids⟩:=y;simp only[aHd];constructor
     ·rintro ⟨vs',p',r',ids',rfl,h3,h4,h5,h6⟩;rw[h2] at h3;cases h3;exact⟨h4,h6,h5⟩
     ·rintro ⟨h4,h6,h5⟩;exact⟨vs,p,r,ids,rfl,h2,h4,h5,h6⟩
omit [GI] in
@[simp] theorem aUR {rs:List RV} {res:V} {s:AS}:aHK rs res .ret s↔ayL (fy s.hp) res (Fh s rs):=by rw[<- aL3];simp[aHK]
omit [GI] in
@[simp] theorem aSc {rs:List RV} {res:V} {s:AS}:aHK rs res .normal s↔ayL (fy s.hp) res (Fh s rs):=by rw[<- aL3];simp[aHK]
omit [GI] in
@[simp] theorem aT3 {rs:List RV} {res:V} {s:AS} {i:Nat}:aHK rs res (.exit i) s↔False:=by simp[aHK]
def aG5 (R:V->List Blk->Prop) (N:Nat):Option (Prop×V×List Nat)->Option (List Blk)->Prop
 | some (p,r,ids),some l=>p/\(ids++(List.range N).map mG).Nodup/\(l.all fun b=>bN b.es)=true/\R r l
 | _,_=>False
def am4 (look:Nat->Option Blk) (R:V->List Blk->Prop) (N:Nat):Option (List V)->Prop
 | some vs=>aG5 R N (LX look (u6 vs)) (aeQ look 0 N)
 | none=>False
attribute [simp] aG5 am4 aeQ
omit [GI] in
theorem aHJ {rs:List RV} {R:V->List Blk->Prop} {N:Nat} {s:AS}:(∃ vs p res ids l,Fh s rs=some vs/\LX (fy s.hp) (u6 vs)=some (p,res,ids)/\p/\(ids++(List.range N).map mG).Nodup/\aeQ (fy s.hp) 0 N=some l/\(l.all fun b=>bN b.es)=true/\R res l)↔am4 (fy s.hp) R N (Fh s rs):=by
 cases h:Fh s rs with
 | none=>simp only[am4,iff_false];rintro ⟨vs,p,r,ids,l,e,_⟩;cases e
 | some vs =>
   simp only[am4];constructor
   ·rintro ⟨vs',p,r,ids,l,e,h1,h2,h3,h4,h5,h6⟩;cases e;rw[h1,h4];exact⟨h2,h3,h5,h6⟩
   ·intro hm;unfold aG5 at hm;split at hm
    ·rename_i p r ids l h1 h2;exact⟨vs,p,r,ids,l,rfl,h1,hm.1,hm.2.1,h2,hm.2.2.1,hm.2.2.2⟩
    ·exact hm.elim
omit [GI] in
@[simp] theorem aT0 {rs:List RV} {R:V->List Blk->Prop} {N:Nat} {s:AS}:ay4 rs R N .ret s↔am4 (fy s.hp) R N (Fh s rs):=by rw[<- aHJ];simp[ay4]
omit [GI] in
@[simp] theorem aQU {rs:List RV} {R:V->List Blk->Prop} {N:Nat} {s:AS}:ay4 rs R N .normal s↔am4 (fy s.hp) R N (Fh s rs):=by rw[<- aHJ];simp[ay4]
omit [GI] in
@[simp] theorem aSN {rs:List RV} {R:V->List Blk->Prop} {N:Nat} {s:AS} {i:Nat}:ay4 rs R N (.exit i) s↔False:=by simp[ay4]
attribute [simp] pJ pc AS.sunk aJE
theorem aL9 {P:Program} {f:Nat} {vs:List V} {s:AS} {d:Nat} {K:AS->Prop} (M Z:List Nat) {H0:List Blk} {R:V->List Blk->Option Blk->Prop} (h:jA P f H0 (vs.map (vc M (pc Z (fy s.hp)) 6)) R)
  (h1:M.Nodup) (hz:(Z.all fun z=>!M.contains z)=true) (h2:M.map (fun id=>(fy s.hp id).map (NZ (upI M)))=H0.map some) (h3:∀ id ∈ M,∀ blk,fy s.hp id=some blk->∀ i,da i blk.es=true->i ∈ M)
  (h4:∀ res l nw,R res l nw->l.length=H0.length->at5 (H0.length+if nw.isSome then 1 else 0) res/\(∀ blk ∈ l,MR (H0.length+if nw.isSome then 1 else 0) blk.es)/\(∀ blk,nw=some blk->MR H0.length blk.es)/\(nw.isSome=true->(s.sunk Z).fresh d=true)/\K ((s.sunk Z).back M d res l nw)):vw P f vs s d K :=
 .inr <| .inr <| .inr <| .inr <| .inr ⟨M,Z,H0,R,h,h1,hz,h2,h3,h4⟩
theorem Pn.arg {P:Program} {f:Nat} {args args':List V} {H0:List Blk} {R:V->List Blk->Prop} (h:Pn P f H0 args R) (e:args'=args):Pn P f H0 args' R:=by rw[e];exact h
omit [GI] in
theorem aMm:∀ (l:List (Nat×V)) (t:Nat),lk l t=.undef\/(t,lk l t) ∈ l
 | [],t=>.inl rfl
 | (k,v)::l,t=>by
   simp only[lk];split
   ·rename_i e;subst e;exact .inr (by simp)
   ·rcases aMm l t with h | h
    ·exact .inl h
    ·exact .inr (List.mem_cons_of_mem _ h)
theorem Wk.list {s s':AS} (hp:s'.pin=s.pin) (h1:∀ p ∈ s'.sl,lk s.sl p.1=p.2) (h2:∀ p ∈ s'.hp,fy s.hp p.1=some p.2):Wk s s':=by
 refine Wk.of_lk hp (fun t=>?_) fun i=>?_
 ·rcases aMm s'.sl t with h | h
  ·exact .inr h
  ·exact .inl (h1 _ h).symm
 ·cases hb:fy s'.hp i with
  | none=>exact .inr rfl
  | some b=>exact .inl (h2 _ (aBH _ _ _ hb)).symm
def aHe {α:Type} (St:α->AS) (m:α->Nat) (ok:α->Prop) (a:α) (Q:Exit->AS->Prop):Exit->AS->Prop
 | .normal=>fun s=>∃ a',m a' < m a/\ok a'/\Wk s (St a')
 | e=>Q e
theorem GJ {P:Program} {b:C} {Q:Exit->AS->Prop} {s:AS} {α:Type} (St:α->AS) (m:α->Nat) (ok:α->Prop) (a0:α) (h0:Wk s (St a0)) (h1:ok a0)
  (step:∀ a,ok a->Z4 P b (aHe St m ok a Q) (St a)):aJf (Z4 P b) Q s:=by
 refine⟨fun n s=>∃ a,ok a/\m a=n/\s=St a,m a0,St a0,h0,⟨a0,h1,rfl,rfl⟩,?_⟩;rintro n s ⟨a,ha,rfl,rfl⟩;refine LV b (St a) (fun e s hq=>?_) (step a ha);cases e with
 | normal =>
   obtain ⟨a',h2,h3,h4⟩:=hq;exact⟨m a',St a',h2,h4,a',h3,rfl,rfl⟩
 | _=>exact hq
theorem dl {P:Program} {b:C} {Q:Exit->AS->Prop} {s:AS} {α:Type} (St:α->AS) (m:α->Nat) (ok:α->Prop) (a0:α) (h0:Wk s (St a0)) (h1:ok a0)
  (step:∀ a,ok a->∀ K:Exit->AS->Prop,(∀ a' s,m a' < m a->ok a'->Wk s (St a')->K .normal s)->(∀ s,Q .ret s->K .ret s)->(∀ i s,Q (.exit i) s->K (.exit i) s)->Z4 P b K (St a)):aJf (Z4 P b) Q s :=
 GJ St m ok a0 h0 h1 fun a ha=>step a ha _ (fun a' _ h2 h3 h4=>⟨a',h2,h3,h4⟩) (fun _ h=>h) (fun _ _ h=>h)
section
variable {α : Type} {St : α → AS} {m : α → Nat} {ok : α → Prop} {a : α} {Q : Exit → AS → Prop}
@[simp] theorem aTP:aHe St m ok a Q .ret=Q .ret:=rfl
@[simp] theorem aSD {i:Nat}:aHe St m ok a Q (.exit i)=Q (.exit i):=rfl
theorem FD {s:AS} (a':α) (h1:m a' < m a) (h2:ok a') (h3:Wk s (St a')):aHe St m ok a Q .normal s:=⟨a',h1,h2,h3⟩
end
omit [GI] in
theorem aTZ {n:Int} (h1 : -9223372036854775808<=n) (h2:n<=9223372036854775807):IntKind.i64.wrap n=n:=by
 simp[IntKind.wrap,IntKind.signed,IntKind.bits];omega
abbrev mi (l:List Int):List V:=l.map I
omit [GI] in
@[simp] theorem aTa (l:List Int):mf (l.map I)=true:=by induction l<;>simp_all [mf]
omit [GI] in
@[simp] theorem aSr (l:List Int):cO (l.map I)=true:=by induction l<;>simp_all
omit [GI] in
@[simp] theorem aSn (l:List Int):bN (l.map I)=true:=by induction l<;>simp_all
omit [GI] in
@[simp] theorem aTx (l:List Int):pO (l.map I)=true:=by induction l<;>simp_all
omit [GI] in
@[simp] theorem aTq (d:Nat) (l:List Int):da d (l.map I)=false:=by induction l<;>simp_all
omit [GI] in
@[simp] theorem aSd (hp:Nat->Option Blk) (k:Nat) (l:List Int):(l.map I).map (cz hp (k+1))=l.map I:=by simp[Function.comp_def]
omit [GI] in
@[simp] theorem aRt (hp:Nat->Option Blk) (k:Nat) (l:List Int):List.map (cz hp (k+1)∘I) l=l.map I:=by simp[Function.comp_def]
omit [GI] in
@[simp] theorem aRY {α:Type} (f:α->V) (l:List α):List.take l.length (l.map f)=l.map f:=List.take_of_length_le (by simp)
omit [GI] in
@[simp] theorem aNt (d:Nat):∀ a b:List V,da d (a++b)=(da d a||da d b)
 | [],b=>by simp
 | x::a,b=>by simp[aNt d a b,Bool.or_assoc]
omit [GI] in
@[simp] theorem aLb:∀ a b:List V,cO (a++b)=(cO a&&cO b)
 | [],b=>by simp
 | x::a,b=>by simp[aLb a b,Bool.and_assoc]
omit [GI] in
@[simp] theorem aMS:∀ a b:List V,mf (a++b)=(mf a&&mf b)
 | [],b=>by simp[mf]
 | x::a,b=>by simp[mf,aMS a b,Bool.and_assoc]
omit [GI] in
@[simp] theorem aMT {α:Type} (f:α->V) (h:∀ x,u7 (f x)=true):∀ l:List α,mf (l.map f)=true
 | []=>by simp[mf]
 | x::l=>by simp[mf,h,aMT f h l]
omit [GI] in
@[simp] theorem aK9:∀ a b:List V,bN (a++b)=(bN a&&bN b)
 | [],b=>by simp
 | x::a,b=>by simp[aK9 a b,Bool.and_assoc]
omit [GI] in
@[simp] theorem aNw:∀ a b:List V,pO (a++b)=(pO a&&pO b)
 | [],b=>by simp
 | x::a,b=>by simp[aNw a b,Bool.and_assoc]
omit [GI] in
@[simp] theorem aFx {α:Type} (d:Nat) (f:α->V) (h:∀ x,gj d (f x)=false):∀ l:List α,da d (l.map f)=false
 | []=>by simp
 | x::l=>by simp[h,aFx d f h l]
omit [GI] in
@[simp] theorem aLc {α:Type} (f:α->V) (h:∀ x,g9 (f x)=true):∀ l:List α,cO (l.map f)=true
 | []=>by simp
 | x::l=>by simp[h,aLc f h l]
omit [GI] in
@[simp] theorem aJn {α:Type} (f:α->V) (h:∀ x,gV (f x)=true):∀ l:List α,bN (l.map f)=true
 | []=>by simp
 | x::l=>by simp[h,aJn f h l]
omit [GI] in
@[simp] theorem aNx {α:Type} (f:α->V) (h:∀ x,u5 (f x)=true):∀ l:List α,pO (l.map f)=true
 | []=>by simp
 | x::l=>by simp[h,aNx f h l]
omit [GI] in
theorem Iv {d:Nat}:∀ {es:List V},da d es=false↔∀ e ∈ es,gj d e=false
 | []=>by simp
 | e::es=>by simp[Iv (es:=es)]
omit [GI] in
@[simp] theorem aTs {d:Nat} {es:List V} {k:Nat} (h:da d es=false):da d (es.take k)=false:=Iv.2 fun e he=>Iv.1 h e (List.mem_of_mem_take he)
omit [GI] in
@[simp] theorem aTp {d:Nat} {es:List V} {k:Nat} (h:da d es=false):da d (es.drop k)=false:=Iv.2 fun e he=>Iv.1 h e (List.mem_of_mem_drop he)
omit [GI] in
@[simp] theorem aTr {d:Nat} {es:List V} {k:Nat} {v:V} (h:da d es=false) (hv:gj d v=false):da d (es.set k v)=false:=Iv.2 fun e he=>by
 rcases List.mem_or_eq_of_mem_set he with h' | rfl
 ·exact Iv.1 h e h'
 ·exact hv
omit [GI] in
@[simp] theorem aUl {d:Nat} {v:V} {k:Nat} (hv:gj d v=false):da d (List.replicate k v)=false:=Iv.2 fun e he=>by rw[(List.mem_replicate.1 he).2];exact hv
omit [GI] in
theorem EG:∀ {es:List V},cO es=true↔∀ e ∈ es,g9 e=true
 | []=>by simp
 | e::es=>by simp[EG (es:=es)]
omit [GI] in
@[simp] theorem aSt {es:List V} {k:Nat} (h:cO es=true):cO (es.take k)=true:=EG.2 fun e he=>EG.1 h e (List.mem_of_mem_take he)
omit [GI] in
@[simp] theorem aSq {es:List V} {k:Nat} (h:cO es=true):cO (es.drop k)=true:=EG.2 fun e he=>EG.1 h e (List.mem_of_mem_drop he)
omit [GI] in
@[simp] theorem aSs {es:List V} {k:Nat} {v:V} (h:cO es=true) (hv:g9 v=true):cO (es.set k v)=true:=EG.2 fun e he=>by
 rcases List.mem_or_eq_of_mem_set he with h' | rfl
 ·exact EG.1 h e h'
 ·exact hv
omit [GI] in
@[simp] theorem aTu {v:V} {k:Nat} (hv:g9 v=true):cO (List.replicate k v)=true:=EG.2 fun e he=>by rw[(List.mem_replicate.1 he).2];exact hv
omit [GI] in
theorem EF:∀ {es:List V},bN es=true↔∀ e ∈ es,gV e=true
 | []=>by simp
 | e::es=>by simp[EF (es:=es)]
omit [GI] in
@[simp] theorem aJo {es:List V} {k:Nat} (h:bN es=true):bN (es.take k)=true:=EF.2 fun e he=>EF.1 h e (List.mem_of_mem_take he)
omit [GI] in
@[simp] theorem aJm {es:List V} {k:Nat} (h:bN es=true):bN (es.drop k)=true:=EF.2 fun e he=>EF.1 h e (List.mem_of_mem_drop he)
omit [GI] in
@[simp] theorem aSo {es:List V} {k:Nat} {v:V} (h:bN es=true) (hv:gV v=true):bN (es.set k v)=true:=EF.2 fun e he=>by
 rcases List.mem_or_eq_of_mem_set he with h' | rfl
 ·exact EF.1 h e h'
 ·exact hv
omit [GI] in
@[simp] theorem aTt {v:V} {k:Nat} (hv:gV v=true):bN (List.replicate k v)=true:=EF.2 fun e he=>by rw[(List.mem_replicate.1 he).2];exact hv
omit [GI] in
theorem IB:∀ {es:List V},pO es=true↔∀ e ∈ es,u5 e=true
 | []=>by simp
 | e::es=>by simp[IB (es:=es)]
omit [GI] in
@[simp] theorem aTz {es:List V} {k:Nat} (h:pO es=true):pO (es.take k)=true:=IB.2 fun e he=>IB.1 h e (List.mem_of_mem_take he)
omit [GI] in
@[simp] theorem aTw {es:List V} {k:Nat} (h:pO es=true):pO (es.drop k)=true:=IB.2 fun e he=>IB.1 h e (List.mem_of_mem_drop he)
omit [GI] in
@[simp] theorem aTy {es:List V} {k:Nat} {v:V} (h:pO es=true) (hv:u5 v=true):pO (es.set k v)=true:=IB.2 fun e he=>by
 rcases List.mem_or_eq_of_mem_set he with h' | rfl
 ·exact IB.1 h e h'
 ·exact hv
omit [GI] in
@[simp] theorem aUw {v:V} {k:Nat} (hv:u5 v=true):pO (List.replicate k v)=true:=IB.2 fun e he=>by rw[(List.mem_replicate.1 he).2];exact hv
omit [GI] in
theorem aak:∀ {es:List V},mf es=true↔∀ e ∈ es,u7 e=true
 | []=>by simp
 | e::es=>by simp[aak (es:=es)]
omit [GI] in
@[simp] theorem aTb {es:List V} {k:Nat} (h:mf es=true):mf (es.take k)=true:=aak.2 fun e he=>aak.1 h e (List.mem_of_mem_take he)
omit [GI] in
@[simp] theorem aS9 {es:List V} {k:Nat} (h:mf es=true):mf (es.drop k)=true:=aak.2 fun e he=>aak.1 h e (List.mem_of_mem_drop he)
abbrev roI (l:List Int):V:=.ro 1 (mi l)
abbrev aXB (l:List Int):V:=.own 1 (mi l)
omit [GI] in
@[simp] theorem aOB (hp:Nat->Option Blk) (k:Nat) (l:List (List Int)):List.map (cz hp (k+2)∘aXB) l=l.map roI:=by simp[Function.comp_def]
omit [GI] in
@[simp] theorem aPF (hp:Nat->Option Blk) (k:Nat) (l:List (List Int)):List.map (cz hp (k+1)∘roI) l=l.map roI:=by simp[Function.comp_def]
end Go.Abs
namespace Go.Abs
variable [GI]
omit [GI] in
theorem azL:∀ {cs:List V},bN cs=true->fu cs=[]:=fun {cs} h=>by
 cases e:fu cs with
 | nil=>rfl
 | cons i l =>
   have:=MN i cs (by rw[e];exact List.mem_cons_self);rw[jO i cs h] at this;cases this
def aNu (n id:Nat):Bool:=decide (1000000<=id)&&decide (id < 1000000+n)
omit [GI] in
theorem aaz {n id:Nat}:aNu n id=true↔1000000<=id/\id < 1000000+n:=by simp[aNu]
omit [GI] in
theorem aNv {n:Nat} {v:V}:at5 n v↔(mh v).all (aNu n)=true:=by
 rw[List.all_eq_true];exact⟨fun h id hi=>aaz.2 (h id (aIW id v hi)),fun h id hi=>aaz.1 (h id (aJh id v hi))⟩
omit [GI] in
theorem aK6 {n:Nat} {vs:List V}:MR n vs↔(fu vs).all (aNu n)=true:=by
 rw[List.all_eq_true];exact⟨fun h id hi=>aaz.2 (h id (MN id vs hi)),fun h id hi=>aaz.1 (h id (aax id vs hi))⟩
def okB (q:Option Nat) (n id:Nat):Bool:=aNu n id||some id==q
omit [GI] in
theorem aNB {q:Option Nat} {n:Nat} {vs:List V}:Qr q n vs↔(fu vs).all (okB q n)=true:=by
 rw[List.all_eq_true];constructor
 ·intro h id hi;rcases h id (MN id vs hi) with h | h
  ·simp[okB,aaz.2 h]
  ·simp[okB,h]
 ·intro h id hi;have:=h id (aax id vs hi);simp only[okB,Bool.or_eq_true,beq_iff_eq,aaz] at this;exact this
attribute [simp] aNv aK6 aNB fu aNu okB
attribute [simp] Hw
theorem jA.arg {P:Program} {f:Nat} {args args':List V} {H0:List Blk} {R:V->List Blk->Option Blk->Prop} (h:jA P f H0 args R) (e:args'=args):jA P f H0 args' R:=by rw[e];exact h
theorem ahM {P:Program} {f:Nat} {vs:List V} {s:AS} {d:Nat} {K:AS->Prop} (M Z:List Nat) {H0 l:List Blk} {res:V} (h:jA P f H0 (vs.map (vc M (pc Z (fy s.hp)) 6)) (fun r k nw=>r=res/\k=l/\nw=none))
  (h1:M.Nodup) (hz:(Z.all fun z=>!M.contains z)=true) (h2:M.map (fun id=>(fy s.hp id).map (NZ (upI M)))=H0.map some) (h3:Hw M (fy s.hp) M=true)
  (h4:at5 H0.length res) (h5:∀ blk ∈ l,MR H0.length blk.es) (h6:K ((s.sunk Z).back M d res l none)):vw P f vs s d K :=
 aL9 M Z h h1 hz h2 (acS h3) fun _ _ _ ⟨e1,e2,e3⟩ _=>by
  subst e1;subst e2;subst e3;exact⟨h4,h5,fun _ e=>(by cases e),fun e=>(by cases e),h6⟩
theorem aHT {P:Program} {f:Nat} {vs:List V} {s:AS} {d:Nat} {K:AS->Prop} (M Z:List Nat) {H0 l:List Blk} {res:V} {nw:Blk} (h:jA P f H0 (vs.map (vc M (pc Z (fy s.hp)) 6)) (fun r k n=>r=res/\k=l/\n=some nw))
  (h1:M.Nodup) (hz:(Z.all fun z=>!M.contains z)=true) (h2:M.map (fun id=>(fy s.hp id).map (NZ (upI M)))=H0.map some) (h3:Hw M (fy s.hp) M=true)
  (h4:at5 (H0.length+1) res) (h5:∀ blk ∈ l,MR (H0.length+1) blk.es) (h5':MR H0.length nw.es) (h7:(s.sunk Z).fresh d=true) (h6:K ((s.sunk Z).back M d res l (some nw))):vw P f vs s d K :=
 aL9 M Z h h1 hz h2 (acS h3) fun _ _ _ ⟨e1,e2,e3⟩ _=>by
  subst e1;subst e2;subst e3;exact⟨h4,h5,fun _ e=>(by cases e;exact h5'),fun _=>h7,h6⟩
attribute [simp] upI dnI AS.back ayw
def ayx (look:Nat->Option Blk) (R:V->List Blk->Option Blk->Prop) (N:Nat):Option (List V)->Option (List Blk)->Prop
 | some vs,some l=>(Qr none N vs/\(∀ b ∈ l,Qr none N b.es)/\R (u6 vs) l none) \/
  ∃ q blk,look q=some blk/\q < 1000000/\Qr (some q) N vs/\(∀ b ∈ l,Qr (some q) N b.es)/\Qr none N blk.es/\R (ahh (ayw q N) (u6 vs)) (l.map (NZ (ayw q N))) (some (NZ (ayw q N) blk))
 | _,_=>False
omit [GI] in
theorem aL2 {rs:List RV} {R:V->List Blk->Option Blk->Prop} {N:Nat} {e:Exit} {s:AS} (he:match e with | .normal=>True | .ret=>True | _=>False):aKp rs R N e s↔ayx (fy s.hp) R N (Fh s rs) (aeQ (fy s.hp) 0 N):=by
 unfold aKp ayx;constructor
 ·rintro ⟨_,vs,l,h1,h2,h3⟩;rw[h1,h2];exact h3
 ·intro h;refine⟨he,?_⟩;split at h
  ·rename_i vs l h1 h2;exact⟨vs,l,h1,h2,h⟩
  ·exact h.elim
omit [GI] in
@[simp] theorem aUP {rs:List RV} {R:V->List Blk->Option Blk->Prop} {N:Nat} {s:AS}:aKp rs R N .ret s↔ayx (fy s.hp) R N (Fh s rs) (aeQ (fy s.hp) 0 N):=aL2 trivial
omit [GI] in
@[simp] theorem aSa {rs:List RV} {R:V->List Blk->Option Blk->Prop} {N:Nat} {s:AS}:aKp rs R N .normal s↔ayx (fy s.hp) R N (Fh s rs) (aeQ (fy s.hp) 0 N):=aL2 trivial
omit [GI] in
@[simp] theorem aT2 {rs:List RV} {R:V->List Blk->Option Blk->Prop} {N:Nat} {s:AS} {i:Nat}:aKp rs R N (.exit i) s↔False:=⟨fun h=>h.1,False.elim⟩
omit [GI] in
theorem A9 {look:Nat->Option Blk} {R:V->List Blk->Option Blk->Prop} {N:Nat} {vs:List V} {l:List Blk} (h1:Qr none N vs) (h2:∀ b ∈ l,Qr none N b.es) (h3:R (u6 vs) l none):ayx look R N (some vs) (some l):=.inl ⟨h1,h2,h3⟩
omit [GI] in
theorem aSw (q:Nat) {look:Nat->Option Blk} {R:V->List Blk->Option Blk->Prop} {N:Nat} {vs:List V} {l:List Blk} {blk:Blk} (h:look q=some blk) (hq:q < 1000000) (h1:Qr (some q) N vs) (h2:∀ b ∈ l,Qr (some q) N b.es) (h4:Qr none N blk.es)
  (h3:R (ahh (ayw q N) (u6 vs)) (l.map (NZ (ayw q N))) (some (NZ (ayw q N) blk))):ayx look R N (some vs) (some l):=.inr ⟨q,blk,h,hq,h1,h2,h4,h3⟩
theorem aBC {P:Program} {f:Nat} {vs:List V} {s:AS} {d i:Nat} {c:CO} {next:It->AS->Prop} {res:V} (M Z:List Nat) {H0 l:List Blk} (h:jA P f H0 (vs.map (vc M (pc Z (fy s.hp)) 6)) (fun r k nw=>r=res/\k=l/\nw=none))
  (h1:M.Nodup) (hz:(Z.all fun z=>!M.contains z)=true) (h2:M.map (fun id=>(fy s.hp id).map (NZ (upI M)))=H0.map some) (h3:Hw M (fy s.hp) M=true) (hl:l.length=H0.length)
  (h4:at5 H0.length res) (h5:∀ blk ∈ l,MR H0.length blk.es) (h6:(M.all fun id=>(fu vs).contains id)=true) (h7:(Z.all fun id=>(fu vs).contains id)=true)
  (h8:next ⟨c,trN d M Z l res,i,zB c s⟩ ((s.sunk Z).back M d res l none)):Dw P f vs s d c i next:=.inr <| .inr ⟨M,Z,H0,l,res,h,h1,hz,h2,h3,hl,h4,h5,h6,h7,h8⟩
attribute [simp] trN
end Go.Abs
namespace Go.Abs
abbrev S (l:List UInt8):V:=.v (.string (bs l))
abbrev Y (b:UInt8):V:=.v (.int .u8 b.toNat)
@[simp] theorem aBB (l:List UInt8):(bs l).size=l.length:=by simp[bs,ByteArray.size]
@[simp] theorem aT4 (a b:List UInt8):bs a++bs b=bs (a++b):=by apply ByteArray.ext;simp[bs]
@[simp] theorem aSP (l:List UInt8) (i j:Nat):(bs l).extract i j=bs ((l.drop i).take (j - i)):=by apply ByteArray.ext;simp[bs]
@[simp] theorem aSQ (l:List UInt8) (i:Nat):(bs l)[i]?=l[i]?:=by
 unfold bs;show (if h:i < (ByteArray.mk l.toArray).size then some ((ByteArray.mk l.toArray)[i]) else none)=_;have:(ByteArray.mk l.toArray).size=l.length:=rfl;by_cases h:i < l.length
 ·rw[dif_pos (by rw[this];exact h),List.getElem?_eq_getElem h];rfl
 ·rw[dif_neg (by rw[this];exact h),List.getElem?_eq_none (by omega)]
@[simp] theorem aV9 (l:List UInt8) (i:Nat) (h:i < (bs l).size):(bs l)[i]'h=l[i]'(by simpa [bs,ByteArray.size] using h):=by
 have h1:(bs l)[i]?=some ((bs l)[i]'h):=by rw[getElem?_pos]
 rw[aSQ,List.getElem?_eq_getElem (by simpa [bs,ByteArray.size] using h)] at h1;exact(Option.some.inj h1).symm
theorem aQ4 (l:List UInt8):∀ (k i:Nat) (r:List UInt8),l.length - i=k->ByteArray.toList.loop (bs l) i r=r.reverse++l.drop i:=by
 intro k
 induction k with
 | zero =>
   intro i r h;rw[ByteArray.toList.loop,if_neg (by show ¬i < l.length;omega),List.drop_of_length_le (by omega)];simp
 | succ k ih =>
   intro i r h;rw[ByteArray.toList.loop,if_pos (by show i < l.length;omega),ih (i+1) _ (by omega)];have hi:i < l.length:=by omega
   rw[List.drop_eq_getElem_cons hi]
   have:(bs l).get! i=l[i]:=by
    show (bs l).data[i]! = _;simp[bs,hi]
   rw[this];simp
@[simp] theorem aE2 (l:List UInt8):(bs l).toList=l:=by
 show ByteArray.toList.loop (bs l) 0 []=l;rw[aQ4 l _ 0 [] rfl];simp
theorem aQ3 (b:ByteArray):b=bs b.data.toList:=by apply ByteArray.ext;simp[bs]
@[simp] theorem aW2 {a b:List UInt8}:bs a=bs b↔a=b:=⟨fun h=>by rw[<- aE2 a,h,aE2],fun h=>by rw[h]⟩
@[simp] theorem aOY {a b:UInt8}:((a.toNat:Int)=(b.toNat:Int))↔a=b:=⟨fun h=>UInt8.toNat.inj (by omega),fun h=>by rw[h]⟩
abbrev aXZ (l:List (List UInt8)):List V:=l.map S
@[simp] theorem aRy (l:List (List UInt8)):cO (l.map S)=true:=by induction l<;>simp_all
@[simp] theorem aRx (l:List (List UInt8)):bN (l.map S)=true:=by induction l<;>simp_all
@[simp] theorem aSu (l:List (List UInt8)):pO (l.map S)=true:=by induction l<;>simp_all
@[simp] theorem aSl (d:Nat) (l:List (List UInt8)):da d (l.map S)=false:=by induction l<;>simp_all
@[simp] theorem aRu (hp:Nat->Option Blk) (k:Nat) (l:List (List UInt8)):List.map (cz hp (k+1)∘S) l=l.map S:=by simp[Function.comp_def]
theorem aWY {α:Type} {f:α->V} {s:Nat} {b:Bool} {Q:V->Prop} (hQ:∀ v,Q v->∃ x,v=f x) {v:V} (h:∃ es,v=.ro s es/\(∀ e ∈ es,Q e/\kA e=b)/\es.length<=maxLen):∃ l:List α,v=.ro s (l.map f):=by
 obtain ⟨es,rfl,h,hlen⟩:=h;clear hlen
 induction es with
 | nil=>exact⟨[],rfl⟩
 | cons e es ih =>
   obtain ⟨x,hx⟩:=hQ e (h e List.mem_cons_self).1;obtain ⟨l,hl⟩:=ih (fun e he=>h e (List.mem_cons_of_mem _ he));cases hl;exact⟨x::l,by rw[hx];rfl⟩
@[simp] theorem aW0 (l:List UInt8):aHq (bs l)=l.map Y:=by simp[aHq,bs]
@[simp] theorem axO:∀ l:List UInt8,Nr (l.map Y)=some l
 | []=>rfl
 | x::l=>by
   have ih:=axO l;simp only[List.map_cons,Nr] at ih ⊢;rw[ih];simp
end Go.Abs
namespace Go.Abs
variable [GI]
def reN (i j k:Nat):Nat:=if k=i then j else k
mutual
def ren (i j:Nat):V->V
 | .ref k a b=>.ref (reN i j k) a b
 | .sl k a n=>.sl (reN i j k) a n
 | .agg cs=>.agg (Jd i j cs)
 | .tup cs=>.tup (Jd i j cs)
 | .clo f cs=>.clo f (Jd i j cs)
 | .undef=>.undef
 | .v x=>.v x
 | .rp s es a b=>.rp s es a b
 | .ro s es=>.ro s es
 | .own s es=>.own s es
def Jd (i j:Nat):List V->List V
 | []=>[]
 | c::cs=>ren i j c::Jd i j cs
end
attribute [simp] reN ren Jd
section
variable {w : World} {D : Nat → Prop} {φ φ' : Nat → Option Pl} {i j : Nat}
omit [GI] in
theorem aP4 (hj:φ' j=φ i) (ho:∀ k,k≠j->φ' k=φ k) {k:Nat} (h:k≠j):φ' (reN i j k)=φ k:=by
 unfold reN;split
 ·rename_i e;rw[hj,e]
 ·exact ho k h
omit [GI] in
mutual
theorem aKl (hj:φ' j=φ i) (ho:∀ k,k≠j->φ' k=φ k):∀ (v:V) (x:Value) (fp:List Nat),gj j v=false->CV w D v φ x fp->CV w D (ren i j v) φ' x fp
 | .undef,x,fp,_,h=>by simpa [CV] using h
 | .v y,x,fp,_,h=>by simpa [CV] using h
 | .rp _ _ _ _,x,fp,_,h=>by simpa [CV] using h
 | .ro _ _,x,fp,_,h=>by simpa [CV] using h
 | .own _ _,x,fp,_,h=>by simpa [CV] using h
 | .ref k a b,x,fp,hm,h=>by
   have hk:k≠j:=by simpa [gj] using hm
   simp only[ren,CV] at h ⊢;rw[aP4 hj ho hk];exact h
 | .sl k a n,x,fp,hm,h=>by
   have hk:k≠j:=by simpa [gj] using hm
   simp only[ren,CV] at h ⊢;rw[aP4 hj ho hk];exact h
 | .agg cs,x,fp,hm,h=>by
   simp only[ren,CV] at h ⊢;obtain ⟨xs,rfl,h⟩:=h;exact⟨xs,rfl,aBz hj ho cs _ _ (by simpa [gj] using hm) h⟩
 | .tup cs,x,fp,hm,h=>by
   simp only[ren,CV] at h ⊢;obtain ⟨xs,rfl,h⟩:=h;exact⟨xs,rfl,aBz hj ho cs _ _ (by simpa [gj] using hm) h⟩
 | .clo f cs,x,fp,hm,h=>by
   simp only[ren,CV] at h ⊢;obtain ⟨xs,rfl,h⟩:=h;exact⟨xs,rfl,aBz hj ho cs _ _ (by simpa [gj] using hm) h⟩
theorem aBz (hj:φ' j=φ i) (ho:∀ k,k≠j->φ' k=φ k):∀ (cs:List V) (xs:List Value) (fp:List Nat),da j cs=false->iU w D cs φ xs fp->iU w D (Jd i j cs) φ' xs fp
 | [],xs,fp,_,h=>by simpa [iU] using h
 | c::cs,xs,fp,hm,h=>by
   simp only[da,Bool.or_eq_false_iff] at hm;simp only[Jd,iU] at h ⊢;obtain ⟨x,xs',f1,f2,rfl,rfl,h1,h2⟩:=h;exact⟨x,xs',f1,f2,rfl,rfl,aKl hj ho c _ _ hm.1 h1,aBz hj ho cs _ _ hm.2 h2⟩
end
omit [GI] in
theorem aOH (hj:φ' j=φ i) (ho:∀ k,k≠j->φ' k=φ k) {s:Nat}:∀ (cs:List V) (xs:List Value) (fp:List Nat),da j cs=false->CR w D s cs φ xs fp->CR w D s (Jd i j cs) φ' xs fp
 | [],xs,fp,_,h=>by simpa [CR] using h
 | c::cs,xs,fp,hm,h=>by
   simp only[da,Bool.or_eq_false_iff] at hm;simp only[Jd,CR] at h ⊢;obtain ⟨x,rest,f1,f2,rfl,hs,rfl,h1,h2⟩:=h;exact⟨x,rest,f1,f2,rfl,hs,rfl,aKl hj ho c _ _ hm.1 h1,aOH hj ho cs _ _ hm.2 h2⟩
def ad3 (i j:Nat) (b:Blk):Blk:=⟨b.s,Jd i j b.es⟩
attribute [simp] ad3
theorem RelD.ren {X:Ctx} {s s':St} {a:Act} {F:Nat->List Nat} {G:List Nat} (h:RelD X s a w D φ F G) (hij:i≠j) (hf:Fresh s j) (hp:j ∉ X.pin) (hsl:∀ t,s'.sl t=Abs.ren i j (s.sl t))
  (hhp:∀ k,s'.hp k=if k=j then (s.hp i).map (ad3 i j) else if k=i then none else (s.hp k).map (ad3 i j)) :
  RelD X s' a w D (fun k=>if k=j then φ i else φ k) (fun k=>if k=j then F i else if k=i then [] else F k) G:=by
 have hj:(fun k=>if k=j then φ i else φ k) j=φ i:=by simp
 have ho:∀ k,k≠j->(fun k=>if k=j then φ i else φ k) k=φ k:=fun k hk=>by simp[hk]
 have blk:∀ k blk,s.hp k=some blk->∀ id,(if id=j then φ i else φ id)=φ k->p9 w D (fun k=>if k=j then φ i else φ k) id (ad3 i j blk) (F k):=fun k blk hb id hid=>by
  rcases h.blks k blk hb with ⟨h1,h2,h3⟩ | ⟨p,arr,ty,f',h1,h2,h3,h4,h5,h6⟩
  ·exact .inl ⟨hid.trans h1,by simp[h2],h3⟩
  ·exact .inr ⟨p,arr,ty,f',hid.trans h1,h2,h3,h4,h5,aOH hj ho _ _ _ (hf.hp k blk hb) h6⟩
 have part:∀ k b,b ∈ (if k=j then F i else if k=i then [] else F k)->∃ k',b ∈ F k'/\((k=j/\k'=i)\/(k≠j/\k≠i/\k'=k)):=fun k b hb=>by
  split at hb
  ·rename_i e;exact⟨i,hb,.inl ⟨e,rfl⟩⟩
  ·split at hb
   ·cases hb
   ·rename_i e1 e2;exact⟨k,hb,.inr ⟨e1,e2,rfl⟩⟩
 refine { h with slots:=fun t=>?_,blks:=fun id b hb=>?_,nob:=fun id hid=>?_,nodup:=fun id=>?_,sep:=fun k k' hkk b hb hb'=>?_,notD:=fun id b hb=>?_,pins:=fun id hid=>?_,gsep:=fun k b hb=>?_ }
 ·rw[hsl];exact aKl hj ho _ _ _ (hf.sl t) (h.slots t)
 ·rw[hhp] at hb;by_cases e:id=j
  ·rw[if_pos e] at hb ⊢;simp only[Option.map_eq_some_iff] at hb;obtain ⟨b0,hb0,rfl⟩:=hb;exact blk i b0 hb0 id (by rw[if_pos e])
  ·rw[if_neg e] at hb ⊢;by_cases e2:id=i
   ·rw[if_pos e2] at hb;cases hb
   ·rw[if_neg e2] at hb ⊢;simp only[Option.map_eq_some_iff] at hb;obtain ⟨b0,hb0,rfl⟩:=hb;exact blk id b0 hb0 id (by rw[if_neg e])
 ·rw[hhp] at hid;by_cases e:id=j
  ·rw[if_pos e] at hid ⊢;exact h.nob i (by simpa using hid)
  ·rw[if_neg e] at hid ⊢;by_cases e2:id=i
   ·rw[if_pos e2]
   ·rw[if_neg e2] at hid ⊢;exact h.nob id (by simpa using hid)
 ·split
  ·exact h.nodup i
  ·split
   ·exact List.nodup_nil
   ·exact h.nodup id
 ·obtain ⟨m,h1,h2⟩:=part k b hb;obtain ⟨m',h1',h2'⟩:=part k' b hb';refine h.sep m m' ?_ b h1 h1';rcases h2 with ⟨a1,a2⟩ | ⟨a1,a2,a3⟩<;>rcases h2' with ⟨b1,b2⟩ | ⟨b1,b2,b3⟩<;>omega
 ·obtain ⟨m,h1,_⟩:=part id b hb;exact h.notD m b h1
 ·have hne:id≠j:=fun e=>hp (by rw[<- e];exact hid);rw[if_neg hne];exact h.pins id hid
 ·obtain ⟨m,h1,_⟩:=part k b hb;exact h.gsep m b h1
end
def AS.ren (i j:Nat) (s:AS):AS:={ s with sl:=s.sl.map fun p=>(p.1,Abs.ren i j p.2),hp:=s.hp.map fun p=>(reN i j p.1,ad3 i j p.2) }
attribute [simp] AS.ren
omit [GI] in
theorem aPD (i j:Nat):∀ (l:List (Nat×V)) (t:Nat),lk (l.map fun p=>(p.1,ren i j p.2)) t=ren i j (lk l t)
 | [],t=>by simp[lk]
 | (k,v)::l,t=>by
   simp only[List.map_cons,lk];split
   ·rfl
   ·exact aPD i j l t
omit [GI] in
theorem aMo {i j:Nat} (hij:i≠j):∀ (l:List (Nat×Blk)),(∀ p ∈ l,p.1≠j)->∀ k,fy (l.map fun p=>(reN i j p.1,ad3 i j p.2)) k=if k=j then (fy l i).map (ad3 i j) else if k=i then none else (fy l k).map (ad3 i j)
 | [],_,k=>by simp[fy]
 | (m,b)::l,h,k=>by
   have ih:=aMo hij l (fun p hp=>h p (List.mem_cons_of_mem _ hp)) k;have hm:m≠j:=h _ List.mem_cons_self;simp only[List.map_cons,fy];rw[ih];simp only[reN];by_cases e1:m=i
   ·subst e1;by_cases e2:k=j
    ·subst e2;simp
    ·by_cases e3:k=m
     ·subst e3;simp[e2]
     ·simp[e2,e3]
   ·by_cases e2:k=j
    ·subst e2;have:¬k=m:=fun e=>hm e.symm;have e1':¬i=m:=fun e=>e1 e.symm;simp[e1,e1',this]
    ·by_cases e3:k=i
     ·subst e3;have:¬k=m:=fun e=>e1 e.symm;simp[e1,e2,this]
     ·by_cases e4:k=m
      ·subst e4;simp[e1,e2]
      ·simp[e1,e2,e3,e4]
theorem Wk.ren {s:AS} (i j:Nat) (hij:i≠j) (hf:s.fresh j=true):Wk s (s.ren i j):=by
 refine⟨rfl,fun X a w hpin ⟨D,φ,F,h⟩=>?_⟩;obtain ⟨h1,h2⟩:=AS.fresh_ok hf;simp only[AS.fresh,Bool.and_eq_true,List.all_eq_true,bne_iff_ne,ne_eq] at hf;exact⟨D,_,_,h.ren hij h1 (by rw[hpin];exact h2) (fun t=>aPD i j s.sl t) (fun k=>aMo hij s.hp (fun p hp=>(hf.1.2 p hp).1) k)⟩
omit [GI] in
@[simp] theorem aFH (i j:Nat) (l:List Int):Jd i j (l.map I)=l.map I:=by induction l<;>simp_all
omit [GI] in
@[simp] theorem aP5 (i j:Nat):∀ a b:List V,Jd i j (a++b)=Jd i j a++Jd i j b
 | [],b=>by simp
 | x::a,b=>by simp[aP5 i j a b]
omit [GI] in
@[simp] theorem aP8 (i j k:Nat) (l:List Int):Jd i j (List.take k (l.map I))=List.take k (l.map I):=by rw[<- List.map_take];exact aFH i j _
omit [GI] in
@[simp] theorem aP6 (i j k:Nat) (l:List Int):Jd i j (List.drop k (l.map I))=List.drop k (l.map I):=by rw[<- List.map_drop];exact aFH i j _
theorem aa.res {P:Program} {f:Nat} {args:List V} {res res':V} (h:aa P f args res) (hr:∀ w D x fp,CV w D res (fun _=>none) x fp->CV w D res' (fun _=>none) x fp):aa P f args res':=by
 refine⟨h.1,fun w D xs hD hg hxs=>(h.2 w D xs hD hg hxs).mono ?_⟩;rintro e w' ⟨y,D',fp,h1,h2,h3,h4⟩;exact⟨y,D',fp,h1,h2,hr _ _ _ _ h3,h4⟩
def Le (v v':V):Prop:=∀ w D x fp,CV w D v (fun _=>none) x fp->CV w D v' (fun _=>none) x fp
omit [GI] in
theorem Le.refl (v:V):Le v v:=fun _ _ _ _ h=>h
omit [GI] in
theorem Le.nil (s:Nat):Le (.v (.slice none 0 0)) (.own s []):=fun w D x fp h=>by
 simp only[CV] at h ⊢;exact .inl ⟨trivial,h.1,h.2.2⟩
def Les:List V->List V->Prop
 | [],[]=>True
 | v::vs,u::us=>Le v u/\Les vs us
 | _,_=>False
omit [GI] in
theorem aKn {w:World} {D:Nat->Prop}:∀ (vs us:List V) (xs:List Value) (fp:List Nat),Les vs us->iU w D vs (fun _=>none) xs fp->iU w D us (fun _=>none) xs fp
 | [],[],xs,fp,_,h=>h
 | v::vs,u::us,xs,fp,hl,h=>by
   simp only[iU] at h ⊢;obtain ⟨x,xs',f1,f2,rfl,rfl,h1,h2⟩:=h;exact⟨x,xs',f1,f2,rfl,rfl,hl.1 _ _ _ _ h1,aKn vs us _ _ hl.2 h2⟩
 | [],_::_,_,_,hl,_=>hl.elim
 | _::_,[],_,_,hl,_=>hl.elim
omit [GI] in
theorem Le.tup {vs us:List V} (h:Les vs us):Le (.tup vs) (.tup us):=fun w D x fp hv=>by
 simp only[CV] at hv ⊢;obtain ⟨xs,rfl,hv⟩:=hv;exact⟨xs,rfl,aKn vs us _ _ h hv⟩
omit [GI] in
theorem Le.agg {vs us:List V} (h:Les vs us):Le (.agg vs) (.agg us):=fun w D x fp hv=>by
 simp only[CV] at hv ⊢;obtain ⟨xs,rfl,hv⟩:=hv;exact⟨xs,rfl,aKn vs us _ _ h hv⟩
omit [GI] in
mutual
theorem aTM {i j:Nat}:∀ (v:V),gj i v=false->Abs.ren i j v=v
 | .undef,_ | .v _,_ | .rp _ _ _ _,_ | .ro _ _,_ | .own _ _,_=>by simp only[Abs.ren]
 | .ref id a b,h=>by
   have:id≠i:=by simpa [gj] using h
   simp only[Abs.ren,reN,if_neg this]
 | .sl id a b,h=>by
   have:id≠i:=by simpa [gj] using h
   simp only[Abs.ren,reN,if_neg this]
 | .agg cs,h=>by simp only[Abs.ren];rw[axk cs (by simpa [gj] using h)]
 | .tup cs,h=>by simp only[Abs.ren];rw[axk cs (by simpa [gj] using h)]
 | .clo f cs,h=>by simp only[Abs.ren];rw[axk cs (by simpa [gj] using h)]
theorem axk {i j:Nat}:∀ (cs:List V),da i cs=false->Jd i j cs=cs
 | [],_=>by simp only[Jd]
 | c::cs,h=>by
   simp only[da,Bool.or_eq_false_iff] at h;simp only[Jd];rw[aTM c h.1,axk cs h.2]
end
omit [GI] in
theorem aP7 {α:Type} {i j:Nat} {f:α->V} {l:List α} (h:∀ x,gj i (f x)=false):Jd i j (l.map f)=l.map f:=axk _ (aFx i f h l)
attribute [simp] aP7
end Go.Abs
namespace Go.Abs
variable [GI]
mutual
def frz (i:Nat) (blk:Blk):V->V
 | .ref k a b=>if k=i then .rp blk.s blk.es a b else .ref k a b
 | .sl k a n=>if k=i then (if a+n<=blk.es.length then .ro blk.s ((blk.es.drop a).take n) else .undef) else .sl k a n
 | .agg cs=>.agg (Jy i blk cs)
 | .tup cs=>.tup (Jy i blk cs)
 | .clo f cs=>.clo f (Jy i blk cs)
 | .undef=>.undef
 | .v x=>.v x
 | .rp s es a b=>.rp s es a b
 | .ro s es=>.ro s es
 | .own s es=>.own s es
def Jy (i:Nat) (blk:Blk):List V->List V
 | []=>[]
 | c::cs=>frz i blk c::Jy i blk cs
end
attribute [simp] frz Jy
section
variable {w : World} {D : Nat → Prop} {φ : Nat → Option Pl} {i : Nat} {blk : Blk} {f : List Nat}
omit [GI] in
mutual
theorem aKk (hb:p9 w D φ i blk f) (hi:bN blk.es=true) (ho:cO blk.es=true):∀ (v:V) (x:Value) (fp:List Nat),CV w D v φ x fp->CV w (fun b=>D b\/b ∈ f) (frz i blk v) φ x fp
 | .undef,x,fp,h=>by simpa [CV] using h
 | .v y,x,fp,h=>by simpa [CV] using h
 | .rp s es a b,x,fp,h=>pS (fun _ h=>.inl h) (.rp s es a b) φ φ x fp (fun _ _=>rfl) (fun _ _=>rfl) h
 | .ro s es,x,fp,h=>pS (fun _ h=>.inl h) (.ro s es) φ φ x fp (fun _ _=>rfl) (fun _ _=>rfl) h
 | .own s es,x,fp,h=>pS (fun _ h=>.inl h) (.own s es) φ φ x fp (fun _ _=>rfl) (fun _ _=>rfl) h
 | .ref k a b,x,fp,h=>by
   by_cases e:k=i
   ·subst e;simp only[frz,if_true];simp only[CV] at h ⊢;obtain ⟨rfl,p,hp,rfl⟩:=h;rcases hb with ⟨h1,_,_⟩ | ⟨q,arr,ty,f',h1,h2,h3,h4,h5,h6⟩
    ·rw[h1] at hp;cases hp
    ·rw[hp] at h1;cases h1;have hf:=Ta _ _ _ _ ho h6;subst hf;exact⟨rfl,p.b,p.o,arr,by rw[h2],.inr (by rw[h5];exact List.mem_cons_self),h4.blk,lv (fun _ h=>.inl h) _ _ _ _ _ _ (fun _ _=>rfl) (fun id hm=>by rw[jO id _ hi] at hm;cases hm) h6,hi⟩
   ·simp only[frz,if_neg e];exact pS (fun _ h=>.inl h) (.ref k a b) φ φ x fp (fun _ _=>rfl) (fun _ _=>rfl) h
 | .sl k a n,x,fp,h=>by
   by_cases e:k=i
   ·subst e;simp only[frz,if_true];by_cases hle:a+n<=blk.es.length
    ·rw[if_pos hle];have hlen:((blk.es.drop a).take n).length=n:=by rw[List.length_take,List.length_drop];omega
     simp only[CV] at h ⊢;obtain ⟨rfl,⟨h1,rfl,rfl,rfl⟩ | ⟨p,o,cap,hp,rfl,hnc,hcm,hcap⟩⟩:=h
     ·exact⟨rfl,.inl ⟨by simp,none,0,rfl,Nat.zero_le _⟩⟩
     ·refine⟨rfl,?_⟩;by_cases hn:n=0
      ·subst hn;exact .inl ⟨by simp,_,cap,rfl,hcm⟩
      ·rcases hb with ⟨h1,_,_⟩ | ⟨q,arr,ty,f',h1,h2,h3,h4,h5,h6⟩
       ·rw[h1] at hp;cases hp
       ·rw[hp] at h1;cases h1;have hf:=Ta _ _ _ _ ho h6;subst hf;obtain ⟨ho',_⟩:=hcap.resolve_left (by omega);have hm:=lv (w:=w) (w':=w) (D:=D) (D':=fun b=>D b\/b ∈ f) (fun _ h=>.inl h) blk.s blk.es φ (fun _=>none) _ _ (fun _ _=>rfl) (fun id hm=>by rw[jO id _ hi] at hm;cases hm) h6;have h3':=VG n (amP a hm);rw[List.drop_drop] at h3';refine .inr ⟨p.b,o,cap,arr,by rw[hlen],by rw[hlen];exact hnc,hcm,.inr (by rw[h5];exact List.mem_cons_self),h4.blk,?_,?_⟩
        ·rw[ho',h2];exact h3'
        ·exact aJo (aJm hi)
    ·rw[if_neg hle];simp only[CV] at h ⊢;exact h.1
   ·simp only[frz,if_neg e];exact pS (fun _ h=>.inl h) (.sl k a n) φ φ x fp (fun _ _=>rfl) (fun _ _=>rfl) h
 | .agg cs,x,fp,h=>by
   simp only[frz,CV] at h ⊢;obtain ⟨xs,rfl,h⟩:=h;exact⟨xs,rfl,aBy hb hi ho cs _ _ h⟩
 | .tup cs,x,fp,h=>by
   simp only[frz,CV] at h ⊢;obtain ⟨xs,rfl,h⟩:=h;exact⟨xs,rfl,aBy hb hi ho cs _ _ h⟩
 | .clo g cs,x,fp,h=>by
   simp only[frz,CV] at h ⊢;obtain ⟨xs,rfl,h⟩:=h;exact⟨xs,rfl,aBy hb hi ho cs _ _ h⟩
theorem aBy (hb:p9 w D φ i blk f) (hi:bN blk.es=true) (ho:cO blk.es=true):∀ (cs:List V) (xs:List Value) (fp:List Nat),iU w D cs φ xs fp->iU w (fun b=>D b\/b ∈ f) (Jy i blk cs) φ xs fp
 | [],xs,fp,h=>by simpa [iU] using h
 | c::cs,xs,fp,h=>by
   simp only[Jy,iU] at h ⊢;obtain ⟨x,xs',f1,f2,rfl,rfl,h1,h2⟩:=h;exact⟨x,xs',f1,f2,rfl,rfl,aKk hb hi ho c _ _ h1,aBy hb hi ho cs _ _ h2⟩
end
omit [GI] in
theorem aOG (hb:p9 w D φ i blk f) (hi:bN blk.es=true) (ho:cO blk.es=true) {s:Nat}:∀ (cs:List V) (xs:List Value) (fp:List Nat),CR w D s cs φ xs fp->CR w (fun b=>D b\/b ∈ f) s (Jy i blk cs) φ xs fp
 | [],xs,fp,h=>by simpa [CR] using h
 | c::cs,xs,fp,h=>by
   simp only[Jy,CR] at h ⊢;obtain ⟨x,rest,f1,f2,rfl,hs,rfl,h1,h2⟩:=h;exact⟨x,rest,f1,f2,rfl,hs,rfl,aKk hb hi ho c _ _ h1,aOG hb hi ho cs _ _ h2⟩
def aM6 (i:Nat) (blk:Blk) (b:Blk):Blk:=⟨b.s,Jy i blk b.es⟩
attribute [simp] aM6
theorem RelD.frz {X:Ctx} {s s':St} {a:Act} {F:Nat->List Nat} {G:List Nat} (h:RelD X s a w D φ F G) (hbl:s.hp i=some blk) (hi:bN blk.es=true) (ho:cO blk.es=true) (hsl:∀ t,s'.sl t=Abs.frz i blk (s.sl t))
  (hhp:∀ k,s'.hp k=if k=i then none else (s.hp k).map (aM6 i blk)):RelD X s' a w (fun b=>D b\/b ∈ F i) φ (fun k=>if k=i then [] else F k) G:=by
 have hb:=h.blks i blk hbl
 have sub:∀ k b,b ∈ (if k=i then [] else F k)->k≠i/\b ∈ F k:=fun k b hb=>by
  split at hb
  ·cases hb
  ·rename_i e;exact⟨e,hb⟩
 refine { h with Dup:=fun b hb=>.inl (h.Dup b hb),Ddn:=fun b hb=>?_,Dlt:=fun b hb=>?_,slots:=fun t=>?_,blks:=fun id b hb'=>?_,nob:=fun id hid=>?_,nodup:=fun id=>?_,sep:=fun k k' hkk b hb1 hb2=>?_,notD:=fun id b hb1=>?_,gsep:=fun k b hb1=>?_,gnotD:=fun b hb1=>?_,gi:=GI.mono h.gi (fun _ h=>.inl h) fun _ _=>rfl }
 ·rcases hb with hb | hb
  ·exact h.Ddn b hb
  ·exact .inr (h.notD i b hb).2.2
 ·rcases hb with hb | hb
  ·exact h.Dlt b hb
  ·exact(h.notD i b hb).2.1
 ·rw[hsl];exact aKk hb hi ho _ _ _ (h.slots t)
 ·rw[hhp] at hb';by_cases e:id=i
  ·rw[if_pos e] at hb';cases hb'
  ·rw[if_neg e] at hb' ⊢;simp only[Option.map_eq_some_iff] at hb';obtain ⟨b0,hb0,rfl⟩:=hb';rcases h.blks id b0 hb0 with ⟨h1,h2,h3⟩ | ⟨p,arr,ty,f',h1,h2,h3,h4,h5,h6⟩
   ·exact .inl ⟨h1,by simp[h2],h3⟩
   ·exact .inr ⟨p,arr,ty,f',h1,h2,h3,h4,h5,aOG hb hi ho _ _ _ h6⟩
 ·rw[hhp] at hid;by_cases e:id=i
  ·rw[if_pos e]
  ·rw[if_neg e] at hid ⊢;exact h.nob id (by simpa using hid)
 ·split
  ·exact List.nodup_nil
  ·exact h.nodup id
 ·obtain ⟨_,g1⟩:=sub k b hb1;obtain ⟨_,g2⟩:=sub k' b hb2;exact h.sep k k' hkk b g1 g2
 ·obtain ⟨g0,g1⟩:=sub id b hb1;have:=h.notD id b g1;exact⟨fun hd=>hd.elim this.1 (h.sep id i g0 b g1),this.2⟩
 ·obtain ⟨_,g1⟩:=sub k b hb1;exact h.gsep k b g1
 ·have:=h.gnotD b hb1;exact⟨fun hd=>hd.elim this.1 (fun hf=>h.gsep i b hf hb1),this.2⟩
end
def AS.frz (i:Nat) (blk:Blk) (s:AS):AS:={ s with sl:=s.sl.map fun p=>(p.1,Abs.frz i blk p.2),hp:=(rmb i s.hp).map fun p=>(p.1,aM6 i blk p.2) }
attribute [simp] AS.frz
omit [GI] in
theorem aPB (i:Nat) (blk:Blk):∀ (l:List (Nat×V)) (t:Nat),lk (l.map fun p=>(p.1,frz i blk p.2)) t=frz i blk (lk l t)
 | [],t=>by simp[lk]
 | (k,v)::l,t=>by
   simp only[List.map_cons,lk];split
   ·rfl
   ·exact aPB i blk l t
omit [GI] in
theorem aMn (i:Nat) (blk:Blk):∀ (l:List (Nat×Blk)) (k:Nat),fy (l.map fun p=>(p.1,aM6 i blk p.2)) k=(fy l k).map (aM6 i blk)
 | [],k=>by simp[fy]
 | (m,b)::l,k=>by
   simp only[List.map_cons,fy];split
   ·rfl
   ·exact aMn i blk l k
theorem Wk.frz {s:AS} (i:Nat) (blk:Blk) (hb:fy s.hp i=some blk) (hi:bN blk.es=true) (ho:cO blk.es=true):Wk s (s.frz i blk):=by
 refine⟨rfl,fun X a w hpin ⟨D,φ,F,h⟩=>?_⟩;refine⟨_,_,_,h.frz (i:=i) (blk:=blk) hb hi ho (fun t=>aPB i blk s.sl t) (fun k=>?_)⟩;show fy ((rmb i s.hp).map fun p=>(p.1,aM6 i blk p.2)) k=_;rw[aMn,am3];unfold oY;split
 ·rfl
 ·rfl
omit [GI] in
@[simp] theorem aUe (i:Nat) (blk:Blk) (l:List Int):Jy i blk (l.map I)=l.map I:=by induction l<;>simp_all
omit [GI] in
@[simp] theorem aPi (i:Nat) (blk:Blk):∀ a b:List V,Jy i blk (a++b)=Jy i blk a++Jy i blk b
 | [],b=>by simp
 | x::a,b=>by simp[aPi i blk a b]
section
variable {w : World} {D : Nat → Prop} {φ : Nat → Option Pl} {i : Nat} {blk : Blk}
theorem RelD.cut {X:Ctx} {s s':St} {a:Act} {F:Nat->List Nat} {G:List Nat} (n:Nat) (h:RelD X s a w D φ F G) (hbl:s.hp i=some blk) (ho:cO blk.es=true) (hsl:s'.sl=s.sl)
  (hhp:s'.hp=oY s.hp i (some ⟨blk.s,blk.es.take n⟩)):RelD X s' a w D φ F G:=by
 refine { h with slots:=fun t=>by rw[hsl];exact h.slots t,blks:=fun id b hb'=>?_,nob:=fun id hid=>?_ }
 ·rw[hhp] at hb';by_cases e:id=i
  ·subst e;rw[ju] at hb';simp only[Option.some.injEq] at hb';subst hb';rcases h.blks id blk hbl with ⟨h1,h2,h3⟩ | ⟨p,arr,ty,f',h1,h2,h3,h4,h5,h6⟩
   ·exact .inl ⟨h1,by simp[h2],h3⟩
   ·have hf:=Ta _ _ _ _ ho h6;subst hf;exact .inr ⟨p,arr,ty,[],h1,h2,h3,h4,h5,VG n h6⟩
  ·rw[gZ _ _ e] at hb';exact h.blks id b hb'
 ·rw[hhp] at hid;by_cases e:id=i
  ·subst e;rw[ju] at hid;cases hid
  ·rw[gZ _ _ e] at hid;exact h.nob id hid
end
theorem Wk.cut {s:AS} (i n:Nat) {blk:Blk} (hb:fy s.hp i=some blk) (ho:cO blk.es=true):Wk s { s with hp:=(i,⟨blk.s,blk.es.take n⟩)::s.hp }:=by
 refine⟨rfl,fun X a w hpin ⟨D,φ,F,h⟩=>?_⟩;exact⟨D,φ,F,h.cut (s':=(AS.den { s with hp:=(i,⟨blk.s,blk.es.take n⟩)::s.hp })) n hb ho rfl (aav _ _ _)⟩
end Go.Abs
namespace Go.Abs
variable [GI]
section
variable {w : World} {D : Nat → Prop} {φ : Nat → Option Pl} {F : Nat → List Nat}
omit [GI] in
theorem aR6 {s:Nat}:∀ {es:List V} {xs:List Value} {f:List Nat} {i:Nat} {e:V},CR w D s es φ xs f->es[i]?=some e ->
  ∃ x f1 fi f2,f=f1++fi++f2/\CV w D e φ x fi/\∀ e' fe φ',(∀ id,da id (es.set i .undef)=true->φ' id=φ id)->CV w D e' φ' x fe->CR w D s (es.set i e') φ' xs (f1++fe++f2)
 | [],xs,f,i,e,h,he=>by simp at he
 | c::cs,xs,f,i,e,h,he=>by
   simp only[CR] at h;obtain ⟨x,rest,g1,g2,rfl,⟨hs,ho⟩,rfl,h1,h⟩:=h;cases i with
   | zero =>
     simp at he;subst he;refine⟨x,[],g1,g2,by simp,h1,fun e' fe φ' hφ he'=>?_⟩;simp only[List.set_cons_zero,CR];exact⟨x,rest,fe,g2,rfl,⟨hs,ho⟩,by simp,he',lv (fun _ hb=>hb) _ _ _ _ _ _ (fun _ _=>rfl) (fun id hm=>hφ id (by simp[da,hm])) h⟩
   | succ i =>
     obtain ⟨y,f1,fi,f2,rfl,k2,k3⟩:=aR6 h (by simpa using he);refine⟨y,g1++f1,fi,f2,by simp,k2,fun e' fe φ' hφ he'=>?_⟩;simp only[List.set_cons_succ,CR];exact⟨x,rest,g1,f1++fe++f2,rfl,⟨hs,ho⟩,by simp,pS (fun _ hb=>hb) _ _ _ _ _ (fun _ _=>rfl) (fun id hm=>hφ id (by simp[da,hm])) h1,k3 e' fe φ' (fun id hm=>hφ id (by simp[da,hm])) he'⟩
omit [GI] in
mutual
theorem aJ4 (d:Nat):∀ (v:V) (k:Nat) (q:Nat×Blk),q ∈ (ix d k v).2.1->∃ j,(k<=j/\j < (ix d k v).2.2)/\q.1=d+1000 * j
 | .own s es,k,q,h=>by
   simp only[ix,List.mem_singleton] at h;exact⟨k,⟨Nat.le_refl _,by simp[ix]⟩,by rw[h]⟩
 | .agg cs,k,q,h=>by
   simp only[ix] at h ⊢;exact ayX d cs k q h
 | .tup cs,k,q,h=>by
   simp only[ix] at h ⊢;exact ayX d cs k q h
 | .undef,k,q,h | .v _,k,q,h | .ref _ _ _,k,q,h | .sl _ _ _,k,q,h | .rp _ _ _ _,k,q,h | .ro _ _,k,q,h | .clo _ _,k,q,h=>by simp[ix] at h
theorem ayX (d:Nat):∀ (cs:List V) (k:Nat) (q:Nat×Blk),q ∈ (takes d k cs).2.1->∃ j,(k<=j/\j < (takes d k cs).2.2)/\q.1=d+1000 * j
 | [],k,q,h=>by simp[takes] at h
 | c::cs,k,q,h=>by
   simp only[takes,List.mem_append] at h ⊢;have hle1:=aHr d c k;have hle2:=amB d cs (ix d k c).2.2;rcases h with h | h
   ·obtain ⟨j,hj,e⟩:=aJ4 d c k q h;exact⟨j,⟨hj.1,by omega⟩,e⟩
   ·obtain ⟨j,hj,e⟩:=ayX d cs _ q h;exact⟨j,⟨by omega,hj.2⟩,e⟩
end
variable {X : Ctx} {s : St} {a : Act}
theorem RelD.unfold (h:RelD X s a w D φ F []) {host i d:Nat} {bh:Blk} (hb:s.hp host=some bh) {v:V} (hv:bh.es[i]?=some v) (hni:gV v=true) (hro:fW v=true)
  (hf:∀ k,k < (ix d 0 v).2.2->Fresh s (d+1000 * k)/\d+1000 * k ∉ X.pin) :
  ∃ φ' F',RelD X { s with hp:=oY (VF (oY s.hp host (some ⟨bh.s,bh.es.set i .undef⟩)) (ix d 0 v).2.1) host (some ⟨bh.s,bh.es.set i (ix d 0 v).1⟩) } a w D φ' F' []:=by
 rcases h.blks host bh hb with ⟨_,e,_⟩ | ⟨p0,arr,ty,f',q1,q2,q3,q4,q5,q6⟩
 ·rw[e] at hv;simp at hv
 obtain ⟨x,f1,fi,f2,rfl,hx,hset⟩:=aR6 q6 hv;have hx':CV w D v (fun _=>none) x fi:=pS (fun _ hb=>hb) _ _ _ _ _ (fun _ _=>rfl) (fun id hm=>by rw[Ag id v hni] at hm;cases hm) hx;have hnodup:=h.nodup host;rw[q5] at hnodup
 have hperm:(p0.b::(f1++fi++f2)).Perm ((p0.b::(f1++f2))++fi):=by
  simp only[List.cons_append];refine List.Perm.cons _ ?_;rw[List.append_assoc,List.append_assoc];exact List.Perm.append_left f1 List.perm_append_comm
 have hnd2:=hperm.nodup_iff.1 hnodup;have hin:∀ b,b ∈ fi->b ∈ F host:=fun b hb=>by rw[q5];simp[hb]
 have hin2:∀ b,b ∈ p0.b::(f1++f2)->b ∈ F host:=fun b hb=>by
  rw[q5];simp only[List.mem_cons,List.mem_append] at hb ⊢;rcases hb with hb | hb | hb<;>simp[hb]
 have h1:RelD X { s with hp:=oY s.hp host (some ⟨bh.s,bh.es.set i .undef⟩) } a w D φ (oY F host (p0.b::(f1++f2))) (fi++[]):=by
  refine { h with blks:=fun k blk hbk=>?_,nob:=fun k hn=>?_,nodup:=fun k=>?_,sep:=fun k j hkj b hbk hbj=>?_,notD:=fun k b hbk=>?_,gnodup:=?_,gsep:=fun k b hbk hm=>?_,gnotD:=fun b hm=>?_ }
  ·by_cases e:k=host
   ·subst e;simp at hbk;subst hbk;rw[ju];exact .inr ⟨p0,arr,ty,f1++f2,q1,q2,q3,q4,rfl,by simpa using hset .undef [] φ (fun _ _=>rfl) (by simp[CV])⟩
   ·rw[gZ _ _ e];simp only[oY,e,if_false] at hbk;exact h.blks k blk hbk
  ·by_cases e:k=host
   ·subst e;simp at hn
   ·rw[gZ _ _ e];simp only[oY,e,if_false] at hn;exact h.nob k hn
  ·by_cases e:k=host
   ·subst e;rw[ju];exact(List.nodup_append.1 hnd2).1
   ·rw[gZ _ _ e];exact h.nodup k
  ·have g1:b ∈ F k:=by
    by_cases e:k=host
    ·subst e;rw[ju] at hbk;exact hin2 b hbk
    ·rw[gZ _ _ e] at hbk;exact hbk
   have g2:b ∈ F j:=by
    by_cases e:j=host
    ·subst e;rw[ju] at hbj;exact hin2 b hbj
    ·rw[gZ _ _ e] at hbj;exact hbj
   exact h.sep k j hkj b g1 g2
  ·by_cases e:k=host
   ·subst e;rw[ju] at hbk;exact h.notD k b (hin2 b hbk)
   ·rw[gZ _ _ e] at hbk;exact h.notD k b hbk
  ·simpa using (List.nodup_append.1 hnd2).2.1
  ·simp only[List.append_nil] at hm;by_cases e:k=host
   ·subst e;rw[ju] at hbk;exact(List.nodup_append.1 hnd2).2.2 b hbk b hm rfl
   ·rw[gZ _ _ e] at hbk;exact h.sep k host e b hbk (hin b hm)
  ·simp only[List.append_nil] at hm;exact h.notD host b (hin b hm)
 have hset_ments:∀ k,da k bh.es=false->da k (bh.es.set i .undef)=false:=fun k hk=>aay (by simp[gj]) hk;have hne:∀ k,Fresh s k->k≠host:=fun k hk e=>by rw[<- e,hk.no] at hb;cases hb
 obtain ⟨φ',F',t1,t2,t3⟩:=aee (d:=d) v 0 _ φ _ x fi [] hro h1 hx' (fun k _ hk=>by
  obtain ⟨g1,g2⟩:=hf k hk;refine⟨⟨g1.sl,fun id blk hbk=>?_,?_⟩,g2⟩
  ·by_cases e:id=host
   ·subst e;simp at hbk;subst hbk;exact hset_ments _ (g1.hp id bh hb)
   ·simp only[oY,e,if_false] at hbk;exact g1.hp id blk hbk
  ·simp only[oY,hne _ g1,if_false];exact g1.no)
 have h2:=t1.rel
 have hhost:VF (oY s.hp host (some ⟨bh.s,bh.es.set i .undef⟩)) (ix d 0 v).2.1 host=some ⟨bh.s,bh.es.set i .undef⟩:=by
  have hall:∀ q ∈ (ix d 0 v).2.1,q.1≠host:=by
   intro q hq;obtain ⟨k,hk,e⟩:=aJ4 d v 0 q hq;rw[e];exact hne _ (hf k hk.2).1
  generalize (ix d 0 v).2.1=l at hall
  have:∀ (l:List (Nat×Blk)) (f:Nat->Option Blk),(∀ q ∈ l,q.1≠host)->VF f l host=f host:=by
   intro l
   induction l with
   | nil=>intro f _;rfl
   | cons q l ih =>
     intro f hl;obtain ⟨j,b⟩:=q;simp only[VF];rw[ih _ (fun q hq=>hl q (List.mem_cons_of_mem _ hq)),gZ _ _ (Ne.symm (hl (j,b) List.mem_cons_self))]
  rw[this l _ hall,ju]
 have hφ:φ' host=φ host:=t1.same host fun k _ hk e=>hne _ (hf k hk).1 e.symm
 have hsetid:∀ id,da id (bh.es.set i .undef)=true->φ' id=φ id:=fun id hm=>t1.same id fun k _ hk e=>by
  subst e;rw[hset_ments _ ((hf k hk).1.hp host bh hb)] at hm;cases hm
 rcases h2.blks host _ hhost with ⟨_,e,_⟩ | ⟨p1,arr1,ty1,f3,r1,r2,r3,r4,r5,r6⟩
 ·have:(bh.es.set i V.undef).length=0:=by rw[show bh.es.set i V.undef=[] from e];rfl
  rw[List.length_set] at this;rw[List.eq_nil_of_length_eq_zero this] at hv;simp at hv
 ·rw[hφ,q1] at r1;cases r1;have q40:=q4;have r40:=r4;obtain ⟨_,_,q4'⟩:=q40;obtain ⟨_,_,r4'⟩:=r40;rw[r4'] at q4';cases q4';have hlt:i < bh.es.length:=(List.getElem?_eq_some_iff.1 hv).1;have hFh:F' host=p0.b::(f1++f2):=by rw[t1.sameF host fun k _ hk e=>hne _ (hf k hk).1 e.symm,ju]
  refine⟨φ',F',{ h2 with blks:=fun k blk hbk=>?_,nob:=fun k hn=>?_ }⟩
  ·by_cases e:k=host
   ·subst e;simp at hbk;subst hbk;exact .inr ⟨p0,arr,ty,f1++f2,by rw[hφ];exact q1,q2,q3,q4,hFh,by simpa using hset (ix d 0 v).1 [] φ' hsetid t2⟩
   ·simp only[oY,e,if_false] at hbk;exact h2.blks k blk hbk
  ·by_cases e:k=host
   ·subst e;simp at hn
   ·simp only[oY,e,if_false] at hn;exact h2.nob k hn
end
end Go.Abs
namespace Go.Abs
variable [GI]
mutual
def aBe:V->Prop
 | .ro _ es=>es.length<=9223372036854775807/\TQ es
 | .rp _ es _ _=>TQ es
 | .agg cs=>TQ cs
 | .v (.string b)=>b.size<=9223372036854775807
 | _=>True
def TQ:List V->Prop
 | []=>True
 | c::cs=>aBe c/\TQ cs
end
section
variable {w : World} {D : Nat → Prop}
omit [GI] in
mutual
theorem aLW:∀ (v:V) (φ:Nat->Option Pl) (x:Value) (fp:List Nat),CV w D v φ x fp->aBe v
 | .ro s es,φ,x,fp,h=>by
   simp only[CV] at h;obtain ⟨_,⟨rfl,_⟩ | ⟨b,o,cap,arr,_,h1,h2,_,_,h3,_⟩⟩:=h
   ·simp[aBe,TQ]
   ·simp only[aBe];exact⟨by unfold maxLen at h2;omega,aFY s es _ _ _ h3⟩
 | .rp s es i j,φ,x,fp,h=>by
   simp only[CV] at h;obtain ⟨_,b,o,arr,_,_,_,h3,_⟩:=h;simp only[aBe];exact aFY s es _ _ _ h3
 | .agg cs,φ,x,fp,h=>by
   simp only[CV] at h;obtain ⟨xs,_,h⟩:=h;simp only[aBe];exact aBK cs _ _ _ h
 | .v y,φ,x,fp,h=>by
   simp only[CV] at h;cases y<;>simp only[aBe];have:=h.2.1;simpa [one] using this
 | .undef,φ,x,fp,h | .ref _ _ _,φ,x,fp,h | .sl _ _ _,φ,x,fp,h | .own _ _,φ,x,fp,h | .tup _,φ,x,fp,h | .clo _ _,φ,x,fp,h=>by simp[aBe]
theorem aBK:∀ (cs:List V) (φ:Nat->Option Pl) (xs:List Value) (fp:List Nat),iU w D cs φ xs fp->TQ cs
 | [],φ,xs,fp,h=>trivial
 | c::cs,φ,xs,fp,h=>by
   simp only[iU] at h;obtain ⟨x,xs',f1,f2,_,_,h1,h2⟩:=h;exact⟨aLW c _ _ _ h1,aBK cs _ _ _ h2⟩
theorem aFY (s:Nat):∀ (cs:List V) (φ:Nat->Option Pl) (xs:List Value) (fp:List Nat),CR w D s cs φ xs fp->TQ cs
 | [],φ,xs,fp,h=>trivial
 | c::cs,φ,xs,fp,h=>by
   simp only[CR] at h;obtain ⟨x,rest,f1,f2,_,_,_,h1,h2⟩:=h;exact⟨aLW c _ _ _ h1,aFY s cs _ _ _ h2⟩
end
end
attribute [simp] aBe TQ
omit [GI] in
@[simp] theorem aTm (l:List Int):TQ (l.map I):=by induction l<;>simp_all
omit [GI] in
theorem FnC.callable {P:Program} {f:Nat} {c:C} {rs:List RV} {n:Nat} (h:FnC P f c rs n):Abs.pz P f=true:=by
 obtain ⟨fn,code,ks,h1,h2,h3,_⟩:=h;simp[Abs.pz,h1,h2,h3]
theorem aa.lens {P:Program} {f:Nat} {args:List V} {res:V} (hc:pz P f=true) (h:TQ args->aa P f args res):aa P f args res :=
 ⟨hc,fun w D xs hD hg hxs=>(h (aBK _ _ _ _ hxs)).2 w D xs hD hg hxs⟩
theorem aa.ofL {P:Program} {f:Nat} {c:C} {rs:List RV} {n:Nat} {args:List V} {res:V} (hf:FnC P f c rs n) (hlen:args.length<=n) (h:TQ args->Z4 P c (Ret rs res) (AS.init args)):aa P f args res :=
 aa.lens hf.callable fun hl=>aa.of hf hlen (h hl)
theorem aa.len {P:Program} {f:Nat} {c:C} {rs:List RV} {n:Nat} {args:List V} {res:V} (hf:FnC P f c rs n) (h:TQ args->aa P f args res):aa P f args res :=
 aa.lens hf.callable h
end Go.Abs
namespace Go.Abs
open Go.RowKit
variable [GI]
omit [GI] in
theorem Grow.same (w:World) (D:Nat->Prop) (hD:∀ b,D b->b < w.heap.size):Grow w D [] w D :=
 ⟨rfl,rfl,rfl,Nat.le_refl _,fun _ _ _=>rfl,fun _ h=>h,fun _ h=>.inl h,hD⟩
omit [GI] in
theorem Tb {w:World} {D:Nat->Prop}:∀ {vs xs:List Value},iU w D (vs.map .v) (fun _=>none) xs []->xs=vs
 | [],xs,h=>by simp only[List.map_nil,iU] at h;exact h.1
 | v::vs,xs,h=>by
   simp only[List.map_cons,iU] at h;obtain ⟨x,xs',f1,f2,rfl,hf,h1,h2⟩:=h;have hf:=List.append_eq_nil_iff.1 hf.symm;obtain ⟨rfl,rfl⟩:=hf;simp only[CV] at h1;rw[h1.1,Tb h2]
theorem aa.same {P:Program} {f:Nat} {vs:List Value} {res:V} {y:Value} (hc:pz P f=true) (hr:∀ w D,CV w D res (fun _=>none) y [])
  (h:∀ (w:World) (D:Nat->Prop),GI.holds w D->Calls P f vs.toArray w fun e w'=>e=.returned y/\w'=w):aa P f (vs.map .v) res:=by
 refine⟨hc,fun w D xs hD hg hxs=>?_⟩;obtain rfl:=Tb hxs;refine(h w D hg).mono ?_;rintro e w' ⟨rfl,rfl⟩;exact⟨y,D,[],rfl,Grow.same _ _ hD,hr _ _,List.nodup_nil,by simp⟩
theorem aa.drawn {P:Program} {f:Nat} {vs:List Value} {res:V} {y:Value} (hc:pz P f=true) (hr:∀ w D,CV w D res (fun _=>none) y [])
  (h:∀ (w:World) (D:Nat->Prop),GI.holds w D->Calls P f vs.toArray w fun e w'=>e=.returned y/\w'.os=w.os/\w'.tape=w.tape/\w'.output=w.output/\w'.heap=w.heap):aa P f (vs.map .v) res:=by
 refine⟨hc,fun w D xs hD hg hxs=>?_⟩;obtain rfl:=Tb hxs;refine(h w D hg).mono ?_;rintro e w' ⟨rfl,h1,h2,h3,h4⟩;exact⟨y,D,[],rfl,⟨h1,h2,h3,by rw[h4];exact Nat.le_refl _,fun _ _ _=>by rw[h4],fun _ h=>h,fun _ h=>.inl h,by rw[h4];exact hD⟩,hr _ _,List.nodup_nil,by simp⟩
theorem aa.grown {P:Program} {f:Nat} {vs:List Value} {res:V} {y:Value} (hc:pz P f=true) (hr:∀ w D,CV w D res (fun _=>none) y [])
  (h:∀ (w:World) (D:Nat->Prop),GI.holds w D->Calls P f vs.toArray w fun e w'=>e=.returned y/\∃ k os,w'=Sort.grow (w.drewN k) os):aa P f (vs.map .v) res:=by
 refine⟨hc,fun w D xs hD hg hxs=>?_⟩;obtain rfl:=Tb hxs;refine(h w D hg).mono ?_;rintro e w' ⟨rfl,k,os,rfl⟩
 have hb:∀ b,b < w.heap.size->(Sort.grow (w.drewN k) os).heap[b]?=w.heap[b]?:=fun b hb=>by
  show (w.heap++os)[b]?=_;rw[Array.getElem?_append_left hb]
 refine⟨y,D,[],rfl,⟨rfl,rfl,rfl,?_,fun b hb' _=>hb b hb',fun _ h=>h,fun _ h=>.inl h,fun b hb'=>?_⟩,hr _ _,List.nodup_nil,by simp⟩
 ·show w.heap.size<=(w.heap++os).size;simp
 ·show b < (w.heap++os).size;have:=hD b hb';simp;omega
omit [GI] in
theorem Grow.of_below {w w':World} {D:Nat->Prop} (hD:∀ b,D b->b < w.heap.size) (h:Below w.heap.size w w'):Grow w D [] w' D :=
 ⟨h.os,h.tape,h.output,h.size,fun b hb _=>h.block b hb,fun _ h=>h,fun _ h=>.inl h,fun b hb=>Nat.lt_of_lt_of_le (hD b hb) h.size⟩
theorem aa.below {P:Program} {f:Nat} {vs:List Value} {res:V} {y:Value} (hc:pz P f=true) (hr:∀ w D,CV w D res (fun _=>none) y [])
  (h:∀ (w:World) (D:Nat->Prop),GI.holds w D->Calls P f vs.toArray w fun e w'=>e=.returned y/\Below w.heap.size w w'):aa P f (vs.map .v) res:=by
 refine⟨hc,fun w D xs hD hg hxs=>?_⟩;obtain rfl:=Tb hxs;refine(h w D hg).mono ?_;rintro e w' ⟨rfl,hb⟩;exact⟨y,D,[],rfl,Grow.of_below hD hb,hr _ _,List.nodup_nil,by simp⟩
omit [GI] in
theorem aHH {w:World} {D:Nat->Prop} {φ:Nat->Option Pl}:∀ (l:List (List UInt8)) (xs:List Value) (f:List Nat),CR w D 1 (l.map S) φ xs f->∀ (j:Nat) (x:List UInt8),l[j]?=some x->xs[j]?=some (.string (bs x))
 | [],xs,f,_,j,x,hj=>by simp at hj
 | a::l,xs,f,h,j,x,hj=>by
   simp only[List.map_cons,CR] at h;obtain ⟨v,rest,f1,f2,rfl,_,_,h1,h2⟩:=h;have hv:v=.string (bs a):=by simp only[CV] at h1;exact h1.1
   subst hv;have hc:(Value.string (bs a)).cells.toList=[Value.string (bs a)]:=rfl;rw[hc];cases j with
   | zero=>simp at hj;subst hj;simp
   | succ j=>simpa using aHH l rest f2 h2 j x (by simpa using hj)
theorem aa.belowRow {P:Program} {f:Nat} {l:List (List UInt8)} {vs:List Value} {res:V} {y:Value} (hc:pz P f=true) (hr:∀ w D,CV w D res (fun _=>none) y [])
  (h0:l=[]->∀ (w:World) (D:Nat->Prop) (a:Option Addr) (c:Nat),GI.holds w D->Calls P f (.slice a 0 c::vs).toArray w fun e w'=>e=.returned y/\Below w.heap.size w w')
  (h:∀ (w:World) (D:Nat->Prop) (b o c:Nat),GI.holds w D->(∀ (j:Nat) x,l[j]?=some x->w.cell? ⟨b,o+j,none⟩=some (.string (bs x)))->b < w.heap.size->l.length<=c ->
   Calls P f (.slice (some ⟨b,o,none⟩) l.length c::vs).toArray w fun e w'=>e=.returned y/\Below w.heap.size w w'):aa P f (.ro 1 (l.map S)::vs.map .v) res:=by
 refine⟨hc,fun w D xs hD hg hxs=>?_⟩;simp only[iU] at hxs;obtain ⟨x,xs',f1,f2,rfl,hf,hx,hv⟩:=hxs;obtain ⟨rfl,rfl⟩:=List.append_eq_nil_iff.1 hf.symm;obtain rfl:=Tb hv
 have fin:∀ (e:Ending) (w':World),(e=.returned y/\Below w.heap.size w w')->∃ y D' fp,e=.returned y/\Grow w D [] w' D'/\CV w' D' res (fun _=>none) y fp/\fp.Nodup/\∀ b,b ∈ fp->w.heap.size<=b/\b < w'.heap.size/\¬D' b:=by
  rintro e w' ⟨rfl,hb⟩;exact⟨y,D,[],rfl,Grow.of_below hD hb,hr _ _,List.nodup_nil,by simp⟩
 simp only[CV] at hx;obtain ⟨_,⟨h1,a,c,rfl,_⟩ | ⟨b,o,c,arr,rfl,h2,_,h4,h5,h6,_⟩⟩:=hx
 ·exact(h0 (by simpa using h1) w D a c hg).mono fin
 ·rw[List.length_map] at h2 ⊢;refine(h w D b o c hg (fun j x hj=>?_) (hD b h4) h2).mono fin;have:=aHH l _ _ h6 j x hj;rw[List.getElem?_drop] at this;rw[Fo h5];simpa using this
end Go.Abs
namespace Go.Abs
section
variable [GI] {P : Program} {f d i : Nat} {args args' vs : List V} {res : V} {x : Value} {s : AS} {K : AS → Prop} {c : CO} {next : It → AS → Prop} {H0 : List Blk} {H1 : List (Option Blk)}
theorem aa.ag (h:aa P f args res) (e:args'=args:=by simp):aa P f args' res:=aa.arg h e
theorem aa.at (h:aa P f args res) (e:args'=args:=by simp[List.take_of_length_le]):aa P f args' res:=aa.arg h e
theorem ac.ag (h:ac P f H0 args res H1) (e:args'=args:=by simp):ac P f H0 args' res H1:=ac.arg h e
theorem aZ (h:aa P f (vs.map (cz (fy s.hp) 6)) res) (h4:K (s.took d res)) (h1:fW res=true:=by rfl) (h2:u5 res=true:=by simp)
  (h3:(List.range (ix d 0 res).2.2).all (fun i=>s.fresh (d+1000 * i))=true:=by simp):vw P f vs s d K:=bB h h1 (.inl h2) h3 h4
theorem Ac (h:aa P f (vs.map (cz (fy s.hp) 6)) res) (h4:K (s.took d res)) (h1:fW res=true:=by rfl) (h2:bN vs=true/\cO vs=true:=by simp)
  (h3:(List.range (ix d 0 res).2.2).all (fun i=>s.fresh (d+1000 * i))=true:=by simp):vw P f vs s d K:=bB h h1 (.inr h2) h3 h4
theorem cF (h:aa P f (vs.map (cz (fy s.hp) 6)) (.v x)) (h3:next ⟨c,Ik d (.v x),i,zB c s⟩ (s.put (some d) (.v x))) (h1:cO vs=true:=by simp)
  (h2:(fu vs).all (fun id=>match fy s.hp id with | some b=>mf b.es | none=>true)=true:=by simp):Dw P f vs s d c i next:=iV h h1 h2 h3
theorem gm (h:aa P f (vs.map (cz (fy s.hp) 6)) res) (h3:next ⟨c,Ik d res,i,zB c s⟩ (s.took d res)) (h0:fW res=true:=by rfl) (hr:u5 res=true:=by simp) (h1:cO vs=true:=by simp)
  (h2:(fu vs).all (fun id=>match fy s.hp id with | some b=>mf b.es | none=>true)=true:=by simp):Dw P f vs s d c i next:=Gw h h0 (.inl hr) h1 h2 h3
omit [GI] in
theorem aD {n:Int} (h : -9223372036854775808<=n/\n<=9223372036854775807):IntKind.i64.wrap n=n:=aTZ h.1 h.2
theorem Wk.li {s s':AS} (hp:s'.pin=s.pin:=by rfl) (h1:∀ p ∈ s'.sl,lk s.sl p.1=p.2:=by simp) (h2:∀ p ∈ s'.hp,fy s.hp p.1=some p.2:=by simp):Wk s s':=Wk.list hp h1 h2
end
end Go.Abs
namespace Go.Proofs.YtnjjimhkbpdpgaaGreatDoor
open Go.Abs
def fV (n lo hi:Int):Bool:=decide (lo<=n)&&decide (n<=hi)
theorem db {n lo hi:Int}:fV n lo hi=true↔lo<=n/\n<=hi:=by simp[fV]
theorem am0 {n lo hi:Int}:fV n lo hi=false↔n < lo\/hi < n:=by
 rw[<- Bool.not_eq_true,db];omega
theorem vE (n lo hi:Int):di mQ [I n,I lo,I hi] (B (fV n lo hi)):=by
 refine aa.of aIc (by simp) ?_;simp[aBV,auB,auC,fV];omega
theorem LL (n lo hi:Int):di rZ [I n,I lo,I hi] (B (fV n lo hi)):=by
 refine aa.of aM5 (by simp) ?_;simp[aHS,aDu,aDv,fV];omega
theorem dP {α:Type} {l:List α} {i:Nat} (h:i < l.length):l.take (i+1)=l.take i++[l[i]]:=by simp
theorem yf {α:Type} {l:List α} {i:Nat} (h:i < l.length):l.drop i=l[i]::l.drop (i+1):=List.drop_eq_getElem_cons h
theorem vD {β:Type} {xs:List β} {z:β} {n i:Nat} (hx:xs.length=i) (h:i < n):(xs++List.replicate (n - i) z)[i]?=some z:=by
 rw[List.getElem?_append_right (by omega),hx,Nat.sub_self,List.getElem?_replicate,if_pos (by omega)]
theorem rV {β:Type} {xs:List β} {z v:β} {n i:Nat} (hx:xs.length=i) (h:i < n):(xs++List.replicate (n - i) z).set i v=(xs++[v])++List.replicate (n - (i+1)) z:=by
 rw[List.set_append_right _ _ (by omega),hx,Nat.sub_self];obtain ⟨m,e⟩:∃ m,n - i=m+1:=⟨n - i - 1,by omega⟩;rw[e,List.replicate_succ,List.set_cons_zero,show n - (i+1)=m from by omega];simp
theorem fK {β:Type} {xs ys:List β} {v w:β} {i:Nat} (hx:xs.length=i):(xs++v::ys).set i w=xs++w::ys:=by subst hx;simp
theorem fJ {β:Type} {xs ys:List β} {v:β} {i:Nat} (hx:xs.length=i):(xs++v::ys)[i]?=some v:=by subst hx;simp
theorem Gk {α:Type} {p:α->Bool} {l:List α} {i:Nat} (h:i < l.length):(l.take (i+1)).all p=((l.take i).all p&&p l[i]):=by
 rw[dP h,List.all_append];simp only[List.all_cons,List.all_nil,Bool.and_true]
theorem axI {α:Type} {p:α->Bool} {l:List α} {i:Nat} (h:i < l.length) (hp:p l[i]=false):l.all p=false:=by
 rw[<- Bool.not_eq_true,List.all_eq_true];intro h';rw[h' _ (List.getElem_mem h)] at hp;cases hp
def kg {α:Type} (l:List (List α)):Nat:=(l.map List.length).sum
@[simp] theorem ayY {α:Type}:kg ([]:List (List α))=0:=rfl
@[simp] theorem asK {α:Type} (r:List α) (l:List (List α)):kg (r::l)=r.length+kg l:=by simp[kg]
@[simp] theorem FF {α:Type} (a b:List (List α)):kg (a++b)=kg a+kg b:=by simp[kg]
def rest (left:Int) (n:Nat):Int:=if left - n < 0 then -1 else left - n
theorem MA (q:Nat->Bool) (i:Nat):(List.range (i+1)).all q=((List.range i).all q&&q i):=by
 simp only[List.range_succ,List.all_append,List.all_cons,List.all_nil,Bool.and_true]
theorem ahr {q:Nat->Bool} {n i:Nat} (h:i < n) (hq:q i=false):(List.range n).all q=false:=by
 rw[<- Bool.not_eq_true,List.all_eq_true];intro h';rw[h' i (List.mem_range.2 h)] at hq;cases hq
def idx {α:Type} (p:α->Bool) (l:List α):Int:=if l.findIdx p < l.length then (l.findIdx p:Nat) else -1
theorem ac2 {α:Type} {p:α->Bool} {l:List α} {i:Nat} (hi:i < l.length) (h:∀ j (_:j < i),p (l[j]'(by omega))=false) (hp:p l[i]=true):idx p l=i:=by
 have e:l.findIdx p=i:=(List.findIdx_eq hi).2 ⟨hp,h⟩;simp[idx,e,hi]
theorem JD {α:Type} {p:α->Bool} {l:List α} (h:∀ j (_:j < l.length),p l[j]=false):idx p l = -1:=by
 have e:l.findIdx p=l.length:=by
  rw[List.findIdx_eq_length];intro x hx;obtain ⟨j,hj,rfl⟩:=List.getElem_of_mem hx;exact h j hj
 simp[idx,e]
theorem amZ {α:Type} {p:α->Bool} {l:List α}:decide (0<=idx p l)=l.any p:=by
 rw[Bool.eq_iff_iff,decide_eq_true_iff,List.any_eq_true];unfold idx;constructor
 ·intro h;split at h
  ·rename_i hlt;exact⟨_,List.getElem_mem hlt,List.findIdx_getElem⟩
  ·omega
 ·rintro ⟨x,hx,hp⟩;rw[if_pos (List.findIdx_lt_length_of_exists ⟨x,hx,hp⟩)];omega
theorem amv (l:List Int) (x:Int):di Am [.ro 1 (mi l),I x] (I (idx (fun y=>decide (y=x)) l)):=by
 refine aa.ofL aap (by simp) fun hl=>?_;simp at hl;simp[Ji,He,Hf,Hl];refine GJ (fun i:Nat=>⟨[(0,.ro 1 (mi l)),(1,I x),(7,I l.length),(8,I i)],[],[]⟩) (fun i=>l.length - i) (fun i=>i<=l.length/\∀ j (_:j < i) (hj:j < l.length),decide (l[j]=x)=false) 0 Wk.li (by simp) ?_;rintro i ⟨hi,hj⟩;simp[Hg,GI];refine⟨fun hlt=>?_,fun hge=>?_⟩
 ·simp[Hh,Hi,hlt];refine⟨fun ht=>?_,fun hf=>?_⟩
  ·simp[Hj];exact(ac2 hlt (fun j h=>hj j h (by omega)) (by simpa using ht.symm)).symm
  ·simp[Hk];rw[aD (by omega)];refine FD (i+1) (by omega) ⟨by omega,fun j h h'=>?_⟩ Wk.li;by_cases e:j=i
   ·subst e;simpa using fun h=>hf h.symm
   ·simpa using hj j (by omega) h'
 ·have:idx (fun y=>decide (y=x)) l = -1:=JD fun j h=>hj j (by omega) h;simp[this]
theorem acq (x:Int):di HZ [I x] (B (fV x 1 9)):=by
 refine aa.of aIo (by simp) ?_;simp[aB6,avA,avB];exact al (LL ..) (by simp)
theorem JA (x:Int):di uu [I x] (B (fV x 1 9)):=by
 refine aa.of aAS (by simp) ?_;simp[ahy,aaO,aaP];exact al (vE ..) (by simp)
def aV1 (n:Nat) (r:List Int):Bool:=decide (r.length=n)&&r.all fun x=>fV x 1 9
def aV7 (b:List (List Int)):Nat:=(b.headD []).length
def aW1 (b:List (List Int)):Bool:=fV b.length 1 60&&fV (aV7 b) 1 60&&b.all (aV1 (aV7 b))
structure Field where
 division:Int
 line:Int
 first:Int
 second:Int
 deriving DecidableEq
structure Group where
 count:Int
 kind:Int
 attitude:Int
 tincture:Int
 deriving DecidableEq
structure Arms where
 field:Field
 ordinary:Int
 line:Int
 tincture:Int
 on:Group
 around:Group
 deriving DecidableEq
abbrev jC (f:Field):V:=.agg [I f.division,I f.line,I f.first,I f.second]
abbrev ib (g:Group):V:=.agg [I g.count,I g.kind,I g.attitude,I g.tincture]
abbrev dj (a:Arms):V:=.agg [I a.field.division,I a.field.line,I a.field.first,I a.field.second,I a.ordinary,I a.line,I a.tincture,
 I a.on.count,I a.on.kind,I a.on.attitude,I a.on.tincture,I a.around.count,I a.around.kind,I a.around.attitude,I a.around.tincture]
def cN (f:Field):Bool:=fV f.division 0 7&&fV f.line 0 4&&fV f.first 1 9&&(if f.division=0 then f.line==0&&f.second==0 else fV f.second 1 9&&f.second != f.first)
def bQ (g:Group):Bool:=fV g.count 1 6&&fV g.kind 1 8&&fV g.tincture 1 9&&(if g.kind<=3 then fV g.attitude 1 2 else g.attitude==0)
def g0 (g:Group):Bool:=g.count==0&&(g.kind==0&&(g.attitude==0&&g.tincture==0))
def arms (a:Arms):Bool:=cN a.field&&(g0 a.around||bQ a.around)&&(if a.ordinary=0 then a.line==0&&a.tincture==0&&g0 a.on else fV a.ordinary 1 7&&fV a.line 0 4&&fV a.tincture 1 9&&(g0 a.on||bQ a.on))
def bit (b:Bool):Int:=if b then 1 else 0
def TP (a:Arms):Int:=1+bit (a.ordinary != 0)+bit (!g0 a.on)+bit (!g0 a.around)
theorem aIT (x:Int):di ade [I x] (B (fV x 0 4)):=by
 refine aa.of aIe (by simp) ?_;simp[aBX,auF,auG];exact al (vE ..) (by simp)
theorem aPp (x:Int):di asf [I x] (B (fV x 1 8)):=by
 refine aa.of aId (by simp) ?_;simp[aBW,auD,auE];exact al (vE ..) (by simp)
theorem aDH (x:Int):di ado [I x] (B (fV x 0 4)):=by
 refine aa.of aIr (by simp) ?_;simp[aB9,avI,avJ];exact al (LL ..) (by simp)
theorem aQh (x:Int):di asm [I x] (B (fV x 1 8)):=by
 refine aa.of aIu (by simp) ?_;simp[aCb,avU,avV];exact al (LL ..) (by simp)
theorem Nj (x:Int):di Iy [I x] (B (decide (x<=3))):=by
 refine aa.of aGA (by simp) ?_;simp[azq,aqC,aqD]
theorem iT (g:Group):di iA [ib g] (B (g0 g)):=by
 refine aa.of aIv (by simp) ?_;simp[aCc,avW,avX,g0]
theorem NW (b:Bool):di xt [B b] (I (bit b)):=by
 refine aa.of aIh (by simp) ?_;cases b<;>simp[aB0,auT,auU,auV,auW,bit]
def cY (k:Int):List (List UInt8):=if k=1 then [[114,97,109,112,97,110,116],[112,97,115,115,97,110,116]] else if k=2 then [[100,105,115,112,108,97,121,101,100],[114,105,115,105,110,103]] else if k=3 then [[115,119,105,109,109,105,110,103],[117,112,114,105,103,104,116]] else []
theorem anA (k:Int):((cY k).length:Int)=if 1<=k/\k<=3 then 2 else 0:=by
 unfold cY;split
 ·rw[if_pos (by omega)];rfl
 ·split
  ·rw[if_pos (by omega)];rfl
  ·split
   ·rw[if_pos (by omega)];rfl
   ·rw[if_neg (by omega)];rfl
theorem ah4 (k:Int):di GK [I k] (.own 1 ((cY k).map S)):=by
 refine aa.of aCG (by simp) ?_;by_cases h1:k=1
 ·simp[Gp,Bw,Bx,Bz,BA,BB,BC,BD,BE,BF,h1,cY]
 by_cases h2:k=2
 ·simp[Gp,Bw,Bx,Bz,BA,BB,BC,BD,BE,BF,h2,cY]
 by_cases h3:k=3
 ·simp[Gp,Bw,Bx,Bz,BA,BB,BC,BD,BE,BF,h3,cY]
 simp[Gp,Bw,Bx,Bz,BA,BB,BC,BD,BE,BF,h1,h2,h3,cY]
theorem aJL (f:Field):di adn [jC f] (B (cN f)):=by
 refine aa.of aIq (by simp) ?_;simp[aB8,avE,avF];refine al (LL ..) ?_;cases h1:fV f.division 0 7 with
 | false=>simp[SK,cN,h1]
 | true =>
 simp;refine al (aDH ..) ?_;cases h2:fV f.line 0 4 with
 | false=>simp[SK,cN,h2]
 | true =>
 simp;refine al (acq ..) ?_;cases h3:fV f.first 1 9 with
 | false=>simp[SK,cN,h3]
 | true =>
 simp[avG];refine⟨fun h4=>?_,fun h4=>?_⟩
 ·by_cases h5:f.line=0
  ·simp[adR,cN,h1,h2,h3,h4,h5,show fV 0 0 7=true from rfl,show fV 0 0 4=true from rfl]
  ·simp[adR,cN,h1,h2,h3,h4,h5]
 ·simp[avH];refine al (acq ..) ?_;cases h5:fV f.second 1 9 with
  | false=>simp[cN,h1,h2,h3,h4,h5]
  | true =>
    simp[cN,h1,h2,h3,h4,h5]
theorem JB (f:Field):di ud [jC f] (B (cN f)):=by
 refine aa.of atD (by simp) ?_;simp[aaa,Un,Uo];refine al (vE ..) ?_;cases h1:fV f.division 0 7 with
 | false=>simp[As,cN,h1]
 | true =>
 simp;refine al (aIT ..) ?_;cases h2:fV f.line 0 4 with
 | false=>simp[As,cN,h2]
 | true =>
 simp;refine al (JA ..) ?_;cases h3:fV f.first 1 9 with
 | false=>simp[As,cN,h3]
 | true =>
 simp[Up];refine⟨fun h4=>?_,fun h4=>?_⟩
 ·by_cases h5:f.line=0
  ·simp[H8,cN,h1,h2,h3,h4,h5,show fV 0 0 7=true from rfl,show fV 0 0 4=true from rfl]
  ·simp[H8,cN,h1,h2,h3,h4,h5]
 ·simp[Uq];refine al (JA ..) ?_;cases h5:fV f.second 1 9 with
  | false=>simp[cN,h1,h2,h3,h4,h5]
  | true =>
    simp[cN,h1,h2,h3,h4,h5]
theorem anf (g:Group):di N3 [ib g] (B (bQ g)):=by
 refine aa.of aGB (by simp) ?_;simp[azr,aqE,aqF];refine al (LL ..) ?_;cases h1:fV g.count 1 6 with
 | false=>simp[ND,bQ,h1]
 | true =>
 simp;refine al (aQh ..) ?_;cases h2:fV g.kind 1 8 with
 | false=>simp[ND,bQ,h2]
 | true =>
 simp;refine al (acq ..) ?_;cases h3:fV g.tincture 1 9 with
 | false=>simp[ND,bQ,h3]
 | true =>
 simp[aqG];refine al (Nj ..) ?_;simp;refine⟨fun h4=>?_,fun h4=>?_⟩
 ·simp[aqH];refine al (LL ..) ?_;simp[bQ,h1,h2,h3,h4]
 ·have h4':¬g.kind<=3:=by omega
  simp[aqI,bQ,h1,h2,h3,h4']
theorem ah2 (g:Group):di Fs [ib g] (B (bQ g)):=by
 refine aa.of atE (by simp) ?_;simp[aab,Ur,Us];refine al (vE ..) ?_;cases h1:fV g.count 1 6 with
 | false=>simp[At,bQ,h1]
 | true =>
 simp;refine al (aPp ..) ?_;cases h2:fV g.kind 1 8 with
 | false=>simp[At,bQ,h2]
 | true =>
 have h2':=db.1 h2;simp;refine al (JA ..) ?_;cases h3:fV g.tincture 1 9 with
 | false=>simp[At,bQ,h3]
 | true =>
 simp[Ut];have hl:=anA g.kind;have hc:=ah4 g.kind;generalize cY g.kind=l at hl hc;refine aZ (aa.ag hc) ?_;simp[hl];by_cases h4:g.kind<=3
 ·simp[H9,Uu,hl,h2',h4];refine al (vE ..) ?_;simp[bQ,h1,h2,h3,h4]
 ·simp[H9,hl,h2',h4];simp[Uv,bQ,h1,h2,h3,h4]
theorem aFo (g:Group):di Wq [ib g] (B (g0 g||bQ g)):=by
 refine aa.of aGj (by simp) ?_;cases h:g0 g with
 | true =>
   have e:(g.count==0&&(g.kind==0&&(g.attitude==0&&g.tincture==0)))=true:=h;simp only[Bool.and_eq_true,beq_iff_eq] at e;obtain ⟨e1,e2,e3,e4⟩:=e;simp[ahE,ZD,ZE,e1,e2,e3,e4]
 | false =>
   have e:(g.count==0&&(g.kind==0&&(g.attitude==0&&g.tincture==0)))=false:=h;simp[ahE,ZD,ZE,e];exact al (aa.ag (ah2 g)) (by simp)
theorem atU (x l t:Int):di JX [I x,I l,I t] (B (fV x 1 7&&fV l 0 4&&fV t 1 9)):=by
 refine aa.of aAY (by simp) ?_;simp[ahF,abw,abx];refine al (vE ..) ?_;cases h1:fV x 1 7 with
 | false=>simp
 | true =>
 simp;refine al (aIT ..) ?_;cases h2:fV l 0 4 with
 | false=>simp
 | true =>
 simp;exact al (JA ..) (by simp)
theorem GB (a:Arms):di rD [dj a] (B (arms a)):=by
 refine aa.of axV (by simp) ?_;simp[aeo,WJ,WK];refine al (aa.ag (JB a.field)) ?_;cases h1:cN a.field with
 | false=>simp[Ko,arms,h1]
 | true =>
 simp;refine al (aa.ag (aFo a.around)) ?_;cases h2:(g0 a.around||bQ a.around) with
 | false=>simp[Ko,arms,h2]
 | true =>
 simp[WL];refine⟨fun h3=>?_,fun h3=>?_⟩
 ·have e:(a.on.count==0&&(a.on.kind==0&&(a.on.attitude==0&&a.on.tincture==0)))=g0 a.on:=rfl;by_cases h4:a.line=0
  ·by_cases h5:a.tincture=0
   ·simp[DF,h4,h5,e];simp[arms,h1,h2,h3,h4,h5]
   ·simp[DF,h4,h5,arms,h3]
  ·simp[DF,h4,arms,h3]
 ·simp[WM];refine al (atU ..) ?_;cases h4:(fV a.ordinary 1 7&&fV a.line 0 4&&fV a.tincture 1 9) with
  | false =>
    have:arms a=false:=by simp only[arms,h3,if_false,h4,Bool.false_and,Bool.and_false]
    simp[this]
  | true =>
    simp;refine al (aa.ag (aFo a.on)) ?_;have:arms a=(g0 a.on||bQ a.on):=by simp only[arms,h1,h2,h3,if_false,h4,Bool.true_and]
    simp[this]
theorem amp (a:Arms):di H2 [dj a] (B (arms a)):=by
 refine aa.of aIy (by simp) ?_;simp[aCf,av3,av4];refine al (aa.ag (aJL a.field)) ?_;cases h1:cN a.field with
 | false=>simp[SO,arms,h1]
 | true =>
 simp;refine al (LL ..) ?_;cases h0:fV a.ordinary 0 7 with
 | false =>
   have h0':=am0.1 h0;have h3:¬a.ordinary=0:=by omega
   have h4:fV a.ordinary 1 7=false:=am0.2 (by omega);simp[SO,arms,h3,h4]
 | true =>
 have h0':=db.1 h0;simp;refine al (aa.ag (iT a.around)) ?_;cases hN:g0 a.around with
 | true =>
   have hA:(g0 a.around||bQ a.around)=true:=by rw[hN];rfl
   simp[adW];refine⟨fun h3=>?_,fun h3=>?_⟩
   ·by_cases h4:a.line=0
    ·by_cases h5:a.tincture=0
     ·simp[AK,h4,h5];refine al (aa.ag (iT a.on)) ?_;simp[arms,h1,hA,h3,h4,h5]
     ·simp[AK,h4,h5,arms,h3]
    ·simp[AK,h4,arms,h3]
   ·have h0:fV a.ordinary 1 7=true:=db.2 (by omega);simp[adX];refine al (aDH ..) ?_;cases h4:fV a.line 0 4 with
    | false=>simp[arms,h3,h4]
    | true =>
    simp;refine al (acq ..) ?_;cases h5:fV a.tincture 1 9 with
    | false=>simp[arms,h3,h5]
    | true =>
    simp;refine al (aa.ag (iT a.on)) ?_;cases h6:g0 a.on with
    | true=>simp[arms,h0,h1,hA,h3,h4,h5,h6]
    | false =>
    simp;refine al (aa.ag (anf a.on)) ?_;simp[arms,h0,h1,hA,h3,h4,h5,h6]
 | false =>
   simp;refine al (aa.ag (anf a.around)) ?_;cases hG:bQ a.around with
   | false=>simp[SO,arms,hN,hG]
   | true =>
     have hA:(g0 a.around||bQ a.around)=true:=by rw[hN,hG];rfl
     simp[adW];refine⟨fun h3=>?_,fun h3=>?_⟩
     ·by_cases h4:a.line=0
      ·by_cases h5:a.tincture=0
       ·simp[AK,h4,h5];refine al (aa.ag (iT a.on)) ?_;simp[arms,h1,hA,h3,h4,h5]
       ·simp[AK,h4,h5,arms,h3]
      ·simp[AK,h4,arms,h3]
     ·have h0:fV a.ordinary 1 7=true:=db.2 (by omega);simp[adX];refine al (aDH ..) ?_;cases h4:fV a.line 0 4 with
      | false=>simp[arms,h3,h4]
      | true =>
      simp;refine al (acq ..) ?_;cases h5:fV a.tincture 1 9 with
      | false=>simp[arms,h3,h5]
      | true =>
      simp;refine al (aa.ag (iT a.on)) ?_;cases h6:g0 a.on with
      | true=>simp[arms,h0,h1,hA,h3,h4,h5,h6]
      | false =>
      simp;refine al (aa.ag (anf a.on)) ?_;simp[arms,h0,h1,hA,h3,h4,h5,h6]
theorem aLx (a:Arms) (h:0<=a.ordinary):di adr [dj a] (I (TP a)):=by
 refine aa.of aED (by simp) ?_;simp[atm,ak5,ak6,ak7];refine⟨fun h1=>?_,fun h1=>?_⟩
 ·have h1:(a.ordinary != 0)=true:=by simp;omega
  simp[ak8];rw[aD (by omega)];simp[U1];refine al (aa.ag (iT a.on)) ?_;cases h2:g0 a.on with
  | false =>
    simp[U2];rw[aD (by omega)];simp[EU];refine al (aa.ag (iT a.around)) ?_;cases h3:g0 a.around with
    | false =>
      simp[EV];rw[aD (by omega)];simp[oN,TP,bit,h1,h2,h3]
    | true =>
      simp[oN,TP,bit,h1,h2,h3]
  | true =>
    simp[EU];refine al (aa.ag (iT a.around)) ?_;cases h3:g0 a.around with
    | false =>
      simp[EV];rw[aD (by omega)];simp[oN,TP,bit,h1,h2,h3]
    | true =>
      simp[oN,TP,bit,h1,h2,h3]
 ·have h1:(a.ordinary != 0)=false:=by simp;omega
  simp[U1];refine al (aa.ag (iT a.on)) ?_;cases h2:g0 a.on with
  | false =>
    simp[U2];rw[aD (by omega)];simp[EU];refine al (aa.ag (iT a.around)) ?_;cases h3:g0 a.around with
    | false =>
      simp[EV];rw[aD (by omega)];simp[oN,TP,bit,h1,h2,h3]
    | true =>
      simp[oN,TP,bit,h1,h2,h3]
  | true =>
    simp[EU];refine al (aa.ag (iT a.around)) ?_;cases h3:g0 a.around with
    | false =>
      simp[EV];rw[aD (by omega)];simp[oN,TP,bit,h1,h2,h3]
    | true =>
      simp[oN,TP,bit,h1,h2,h3]
def fa (f:Field):List Int:=if f.division=0 then [f.first] else [f.first,f.second]
def Fp (a b:Field):Int:=bit (a.division != b.division)+bit (a.line != b.line)+bit (!decide (fa a=fa b))
def geq (a b:Group):Bool:=a.count==b.count&&(a.kind==b.kind&&(a.attitude==b.attitude&&a.tincture==b.tincture))
def mW (a b:Group):Int:=if geq a b then 0 else if g0 a||g0 b then 2 else bit (a.count != b.count)+bit (a.tincture != b.tincture)+(if a.kind=b.kind then bit (a.attitude != b.attitude) else 2)
def kx (a b:Arms):Int:=Fp a.field b.field+(mW a.on b.on+mW a.around b.around)+(if a.ordinary=b.ordinary then bit (a.line != b.line)+bit (a.tincture != b.tincture) else 2)
theorem lD (b:Bool):0<=bit b/\bit b<=1:=by unfold bit;split<;>omega
theorem MH (a b:Field):0<=Fp a b/\Fp a b<=3:=by
 unfold Fp;have h1:=lD (a.division != b.division);have h2:=lD (a.line != b.line);have h3:=lD (!decide (fa a=fa b));omega
theorem ub (a b:Group):0<=mW a b/\mW a b<=4:=by
 unfold mW;have h1:=lD (a.count != b.count);have h2:=lD (a.tincture != b.tincture);have h3:=lD (a.attitude != b.attitude);split
 ·omega
 ·split
  ·omega
  ·split<;>omega
theorem Jz (f:Field):di rX [jC f] (.own 1 ((fa f).map I)):=by
 refine aa.of ahU (by simp) ?_;by_cases h:f.division=0
 ·simp[FT,Di,Dj,Dk,Dm,h,fa]
 ·simp[FT,Di,Dj,Dk,Dm,h,fa]
theorem Hn (f:Field):di rG [jC f] (.own 1 ((fa f).map I)):=by
 refine aa.of ax5 (by simp) ?_;by_cases h:f.division=0
 ·simp[Po,Lf,Lg,Lh,Li,h,fa]
 ·simp[Po,Lf,Lg,Lh,Li,h,fa]
theorem aQe (a b:List Int):di asi [.ro 1 (a.map I),.ro 1 (b.map I)] (B (decide (a=b))):=by
 refine aa.ofL aIk (by simp) fun hl=>?_;simp at hl;by_cases hl:a.length=b.length
 ·simp[arB,adO,adP,adQ,avd,avi,hl];refine dl (fun i:Nat=>⟨[(0,.ro 1 (a.map I)),(1,.ro 1 (b.map I)),(5,I i)],[],[]⟩) (fun i=>a.length - i) (fun i=>i<=a.length/\a.take i=b.take i) 0 Wk.li (by simp) ?_;rintro i ⟨hi,hj⟩ K hN hR hE;simp[ave,atZ];refine⟨fun hlt=>?_,fun hge=>?_⟩
  ·have hlb:i < b.length:=by omega
   simp[avf,aug,hlt,hlb];refine⟨a7 (by first | kernel_rfl | simp) (by first | kernel_rfl | simp),fun hne=>?_,fun he=>?_⟩
   ·simp[avg];refine hR _ ?_;simp;rintro rfl;exact hne rfl
   ·simp[avh];rw[aD (by omega)];refine hN (i+1) _ (by omega) ⟨by omega,?_⟩ Wk.li;rw[dP hlt,dP hlb,hj,he]
  ·refine hE _ _ ?_;rw[List.take_of_length_le (by omega),List.take_of_length_le (by omega)] at hj;simp[hj]
 ·simp[arB,adO,adP,adQ,hl];refine⟨fun _ e=>hl (by rw[e]),fun e=>absurd (by omega) hl⟩
theorem amu (a b:List Int):di Al [.ro 1 (a.map I),.ro 1 (b.map I)] (B (decide (a=b))):=by
 refine aa.ofL aao (by simp) fun hl=>?_;simp at hl;by_cases hl:a.length=b.length
 ·simp[Ab,xL,xM,xN,G7,FQ,hl];refine dl (fun i:Nat=>⟨[(0,.ro 1 (a.map I)),(1,.ro 1 (b.map I)),(12,I b.length),(13,I i)],[],[]⟩) (fun i=>a.length - i) (fun i=>i<=a.length/\a.take i=b.take i) 0 Wk.li (by simp) ?_;rintro i ⟨hi,hj⟩ K hN hR hE;simp[G8,GH];refine⟨fun hlt=>?_,fun hge=>?_⟩
  ·have hla:i < a.length:=by omega
   simp[G9,Ha,GP,hlt,hla];refine⟨a7 (by first | kernel_rfl | simp) (by first | kernel_rfl | simp),fun hne=>?_,fun he=>?_⟩
   ·simp[Hb];refine hR _ ?_;simp;rintro rfl;exact hne rfl
   ·simp[Hc];rw[aD (by omega)];refine hN (i+1) _ (by omega) ⟨by omega,?_⟩ Wk.li;rw[dP hla,dP hlt,hj,he]
  ·refine hE _ _ ?_;rw[List.take_of_length_le (by omega),List.take_of_length_le (by omega)] at hj;simp[hj]
 ·simp[Ab,xL,xM,xN,hl];refine⟨fun _ e=>hl (by rw[e]),fun e=>absurd (by omega) hl⟩
theorem ar9 (a b:Field) (ha:cN a=true) (hb:cN b=true):di Ex [jC a,jC b] (.tup [I (Fp a b),B true]):=by
 have h1:=lD (a.division != b.division);have h2:=lD (a.line != b.line);have h3:=lD (!decide (fa a=fa b));refine aa.of aha (by simp) ?_;simp[NI,Kl,Km];refine al (aa.ag (JB a)) ?_;simp[ha];refine al (aa.ag (JB b)) ?_;simp[hb];simp[Kn,Ao];refine iV (NW (a.division != b.division)) ?_ ?_ ?_
 ·simp
 ·simp
 simp;refine iV (NW (a.line != b.line)) ?_ ?_ ?_
 ·simp
 ·simp
 simp;refine gm (aa.ag (Jz a)) ?_;simp;refine gm (aa.ag (Jz b)) ?_;simp;refine cF (aa.at (amu (fa a) (fa b))) ?_;simp;refine iV (NW (!decide (fa a=fa b))) ?_ ?_ ?_
 ·simp
 ·simp
 simp;rw[aD (n:=bit (a.division != b.division)+bit (a.line != b.line)) (by omega),aD (by omega)];exact⟨a7 (by simp[Ao]) (by simp),rfl⟩
theorem aBp (a b:Field):di J4 [jC a,jC b] (I (Fp a b)):=by
 refine aa.of ar2 (by simp) ?_;unfold Fp;by_cases h1:a.division=b.division<;>by_cases h2:a.line=b.line
 all_goals
  simp[V1,RW,RX,RY,h1];simp[RZ,R0,h1,h2];simp[R1,R3,F8,h1,h2]
  try rw[show IntKind.i64.wrap 1=1 from rfl]
  try rw[show IntKind.i64.wrap (1+1)=2 from rfl]
  refine gm (aa.ag (Hn a)) ?_;simp;refine gm (aa.ag (Hn b)) ?_;simp;refine cF (aa.at (aQe (fa a) (fa b))) ?_;simp;refine⟨a7 (by simp[F8]) (by simp),?_⟩;by_cases h3:fa a=fa b
  ·simp[Gh,h1,h2,h3,bit]
  ·simp[R4,h3];rw[aD (by omega)];simp[Gh,h1,h2,h3,bit]
theorem aGJ {a b:Group}:geq a b=true↔a=b:=by
 cases a;cases b;simp[geq]
theorem TI (a b:Group):di vL [ib a,ib b] (I (mW a b)):=by
 have h1:=lD (a.count != b.count);have h2:=lD (a.tincture != b.tincture);have h3:=lD (a.attitude != b.attitude);refine aa.of ahe (by simp) ?_;unfold mW;cases h:geq a b with
 | true =>
   have e:=aGJ.1 h;subst e;simp[Ei,AF,AG,K4]
 | false =>
 have e:(a.count==b.count&&(a.kind==b.kind&&(a.attitude==b.attitude&&a.tincture==b.tincture)))=false:=h;simp[Ei,AF,AG,e]
 have z:∀ g:Group,g0 g=true->g.count=0/\g.kind=0/\g.attitude=0/\g.tincture=0:=fun g hg=>by
  simpa [g0] using hg
 cases hA:g0 a with
 | true =>
   obtain ⟨e1,e2,e3,e4⟩:=z a hA;simp[sD,AH,e1,e2,e3,e4]
 | false =>
 have eA:(a.count==0&&(a.kind==0&&(a.attitude==0&&a.tincture==0)))=false:=hA;cases hB:g0 b with
 | true =>
   obtain ⟨e1,e2,e3,e4⟩:=z b hB;simp[sD,AH,e1,e2,e3,e4,eA]
 | false =>
 have eB:(b.count==0&&(b.kind==0&&(b.attitude==0&&b.tincture==0)))=false:=hB;simp[sD,eA,eB];simp[K5,Ap];refine iV (NW (a.count != b.count)) ?_ ?_ ?_
 ·simp
 ·simp
 simp;refine iV (NW (a.tincture != b.tincture)) ?_ ?_ ?_
 ·simp
 ·simp
 simp;rw[aD (by omega)];refine⟨a7 (by simp[Ap]) (by simp),?_⟩;simp[K6];by_cases hk:a.kind=b.kind
 ·rw[if_pos hk];simp[K8,hk];refine al (NW (a.attitude != b.attitude)) ?_;simp;exact aD (by omega)
 ·rw[if_neg hk];simp[K7,hk];exact aD (by omega)
theorem ag4 (a b:Group):di DE [ib a,ib b] (I (mW a b)):=by
 have z:∀ g:Group,g0 g=true->g.count=0/\g.kind=0/\g.attitude=0/\g.tincture=0:=fun g hg=>by
  simpa [g0] using hg
 refine aa.of ar3 (by simp) ?_;simp[V2,R5,R6,F9];refine cF (aa.ag (iT a)) ?_;simp;refine cF (aa.ag (iT b)) ?_;simp;refine⟨a7 (by simp[F9]) (by simp),fun hne=>?_,fun he=>?_⟩
 ·have h1:geq a b=false:=by
   cases h:geq a b with
   | false=>rfl
   | true=>exact absurd (by rw[aGJ.1 h]) hne
  have h2:(g0 a||g0 b)=true:=by cases hA:g0 a<;>cases hB:g0 b<;>simp_all
  simp[R7,mW,h1,h2]
 simp[R8]
 have goal:mW a b=bit (a.count != b.count)+(if a.kind=b.kind then bit (a.attitude != b.attitude) else 2)+bit (a.tincture != b.tincture):=by
  unfold mW;cases h:geq a b with
  | true =>
    have:=aGJ.1 h;subst this;simp[bit]
  | false =>
    cases hA:g0 a with
    | true =>
      rw[hA] at he;obtain ⟨e1,e2,e3,e4⟩:=z a hA;obtain ⟨f1,f2,f3,f4⟩:=z b he.symm;exact absurd (show geq a b=true by simp[geq,e1,e2,e3,e4,f1,f2,f3,f4]) (by rw[h];simp)
    | false =>
      rw[hA] at he;simp[<- he];omega
 obtain ⟨r,hr⟩:∃ r,mW a b=r:=⟨_,rfl⟩;rw[hr];by_cases h1:a.count=b.count<;>by_cases h2:a.kind=b.kind<;>by_cases h3:a.attitude=b.attitude<;>by_cases h4:a.tincture=b.tincture
 all_goals
  simp[R9,Sa,Sb,Sc,Sd,Se,h1,h2,h3];simp[O6,O7,O8,h4];rw[<- hr,goal];simp only[h1,h2,h3,h4,bit,if_true,if_false,bne_self_eq_false,bne_iff_ne,ne_eq,not_true,not_false_eq_true,Bool.false_eq_true]
  first | rfl | decide
theorem anS (a b:Arms) (ha:cN a.field=true) (hb:cN b.field=true):di HA [dj a,dj b] (I (kx a b)):=by
 have h1:=MH a.field b.field;have h2:=ub a.on b.on;have h3:=ub a.around b.around;have h4:=lD (a.line != b.line);have h5:=lD (a.tincture != b.tincture);refine aa.of ax0 (by simp) ?_;unfold kx;simp[aet,Xl,Xm];refine aZ (aa.ag (ar9 a.field b.field ha hb)) ?_;simp[Xn,J9];refine cF (aa.ag (TI a.on b.on)) ?_;simp;refine cF (aa.ag (TI a.around b.around)) ?_;simp;rw[aD (n:=mW a.on b.on+mW a.around b.around) (by omega),aD (by omega)];refine⟨a7 (by simp[J9]) (by simp),?_⟩;by_cases ho:a.ordinary=b.ordinary
 ·simp[K1,Xp,Ka,ho];refine iV (NW (a.line != b.line)) ?_ ?_ ?_
  ·simp
  ·simp
  simp;refine iV (NW (a.tincture != b.tincture)) ?_ ?_ ?_
  ·simp
  ·simp
  simp;rw[aD (n:=_+bit (a.line != b.line)) (by omega),aD (by omega)];refine⟨a7 (by simp[Ka]) (by simp),?_⟩;omega
 ·simp[K1,Xo,ho];exact aD (by omega)
theorem aCV (a b:Arms) (ha:cN a.field=true) (hb:cN b.field=true):di SA [dj a,dj b] (B (decide (kx a b < 2))):=by
 refine aa.of aEn (by simp) ?_;simp[as7,ajf,ajg];refine al (aa.ag (anS a b ha hb)) ?_;simp
theorem aDF (a b:Arms):di SD [dj a,dj b] (I (kx a b)):=by
 have h1:=MH a.field b.field;have h2:=ub a.on b.on;have h3:=ub a.around b.around;refine aa.of aEv (by simp) ?_;unfold kx;simp[ate,ajR,ajS,T9];refine cF (aa.ag (aBp a.field b.field)) ?_;simp;refine cF (aa.ag (ag4 a.on b.on)) ?_;simp;refine cF (aa.ag (ag4 a.around b.around)) ?_;simp;rw[aD (n:=Fp a.field b.field+mW a.on b.on) (by omega),aD (by omega)];refine⟨a7 (by simp[T9]) (by simp),?_⟩;by_cases ho:a.ordinary=b.ordinary;rotate_left
 ·simp[UO,ajT,ho];rw[aD (by omega)];omega
 simp[UO,ho];by_cases hl:a.line=b.line<;>by_cases ht:a.tincture=b.tincture
 all_goals
  simp[ajU,ajV,ajW,ajX,ajY,hl,ht,bit]
  try omega
 ·rw[aD (by omega)];omega
 ·rw[aD (by omega)];omega
 ·rw[aD (n:=Fp a.field b.field+mW a.on b.on+mW a.around b.around+1) (by omega),aD (by omega)];omega
theorem ZZ (a b:Arms):di HB [dj a,dj b] (B (decide (kx a b < 2))):=by
 refine aa.of ax4 (by simp) ?_;simp[aex,XF,XG];refine al (aa.ag (aDF a b)) ?_;simp
set_option maxRecDepth 100000
structure Grant where
 number:Int
 name:List UInt8
 year:Int
 arms:Arms
 deriving DecidableEq
abbrev bd (g:Grant):V:=.agg [I g.number,S g.name,I g.year,I g.arms.field.division,I g.arms.field.line,I g.arms.field.first,I g.arms.field.second,I g.arms.ordinary,I g.arms.line,I g.arms.tincture,
 I g.arms.on.count,I g.arms.on.kind,I g.arms.on.attitude,I g.arms.on.tincture,I g.arms.around.count,I g.arms.around.kind,I g.arms.around.attitude,I g.arms.around.tincture]
abbrev aT:=List Grant
abbrev bn (r:aT):V:=.agg [.ro 18 (r.map bd)]
theorem Field.eq_iff (p q:Field):p=q↔p.division=q.division/\p.line=q.line/\p.first=q.first/\p.second=q.second:=by
 cases p;cases q;simp
theorem Group.eq_iff (p q:Group):p=q↔p.count=q.count/\p.kind=q.kind/\p.attitude=q.attitude/\p.tincture=q.tincture:=by
 cases p;cases q;simp
theorem Arms.eq_iff (p q:Arms):p=q↔p.field=q.field/\p.ordinary=q.ordinary/\p.line=q.line/\p.tincture=q.tincture/\p.on=q.on/\p.around=q.around:=by
 cases p;cases q;simp
theorem Grant.eq_iff (p q:Grant):p=q↔p.number=q.number/\p.name=q.name/\p.year=q.year/\p.arms=q.arms:=by
 cases p;cases q;simp
abbrev ly (r:aT):V:=.agg [.own 18 (r.map bd)]
end Go.Proofs.YtnjjimhkbpdpgaaGreatDoor
