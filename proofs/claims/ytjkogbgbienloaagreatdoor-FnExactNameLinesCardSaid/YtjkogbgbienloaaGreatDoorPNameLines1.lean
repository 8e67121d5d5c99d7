/- Parts of the proof, part 1. -/
import Derived.Test.YtjkogbgbienloaaGreatDoorProg
import Derived.KernelRfl
import Derived.Lib.ItoaNum
import Derived.Lib.LaidTab
import Derived.Sort.Grow
import Derived.Deep.Draws
import Derived.Below
import Derived.Test.YtjkogbgbienloaaGreatDoorQ6
set_option linter.unusedVariables false
set_option linter.unusedSimpArgs false
namespace Go.Proofs.YtjkogbgbienloaaGreatDoor
def pO:Nat:=3
def tt:Nat:=5
def gX:Nat:=7
def tu:Nat:=8
def kv:Nat:=10
def tp:Nat:=11
def oQ:Nat:=12
def qD:Nat:=13
def lg:Nat:=14
def Bu:Nat:=24
def Bv:Nat:=29
def Bs:Nat:=36
def tq:Nat:=37
def mO:Nat:=38
def E5:Nat:=53
def E7:Nat:=56
def E4:Nat:=70
def Ky:Nat:=94
def Kx:Nat:=114
def E6:Nat:=138
def vi:Nat:=139
def E3:Nat:=159
def vh:Nat:=160
open Abs
end Go.Proofs.YtjkogbgbienloaaGreatDoor
namespace Go.Proofs.YtjkogbgbienloaaGreatDoor
open Go.Abs
set_option maxRecDepth 100000
def nD:=[fc 2 1 0,fc 3 3 1,ok 4 (vB false)]
def nE:=[ok 5 (vI 1048576)]
def nF:=[cm 16 1 2,om 17 5,eo 18 tt 16 17,om 5 18]
def nG:=[om 19 5,cD 20 .lss 19 0]
def nH:=[ok 4 (vB true)]
def nI:=[cm 22 1 2,di 23 gX 22,cm 24 3 3,di 25 tu 24,eo 26 pB 23 25,om 21 26,sE 27 21 0,sE 28 21 1,om 6 27,om 7 28]
def iq:List (List Nat):=[[],[0],[],[0,1,2],[0,1,2,3],[0,1,2,3,4],[0,1,2,3,4,5],[0,1,2,3,4,5],[0,1,2,3,4,5,6],[0,1,2,3,4,5,6,7,8]]
def nJ:=[cm 29 1 2,di 30 gX 29,qo 8 1 (.agg [vN]),cy 1 8 30]
def nK:=[cm 32 1 8,cm 33 3 3,di 34 tu 33,eo 35 ku 32 34,om 31 35,sE 36 31 0,sE 37 31 1,om 9 36,om 10 37]
def ir:List (List Nat):=[[],[],[1],[0,1,2],[0,1,2,3],[0,1,2,3,4],[0,1,2,3,4],[0,1,2,3,4,5],[0,1,2,3,4,5,6,7]]
def nL:=[om 38 9,om 39 6,eo 40 kv 38 39,oo 41 (.un .not (.t 40)),om 42 41,oF 42 43 (.mv (.t 10)),oF 42 44 (.mv (.t 7)),oF 42 45 (.bin .neq .bool (.t 43) (.t 44)),oo 46 (.pick (.t 42) (xB true) (.t 45))]
def BZ:=[ok 4 (vB false)]
def lP:=[cm 47 1 8,cm 48 1 2,di 49 gX 48,eo 50 tp 47 49,oo 51 (.un .not (.t 50))]
def gZ:List (List Nat):=[[],[],[1],[0,1,2],[0,1,2,3]]
def Aq:=[ok 4 (vB false)]
def lQ:=[ok 11 (vI 1)]
def lR:=[cm 52 1 8,om 53 11,eo 54 oQ 52 53,om 11 54]
def lS:=[om 55 11,cD 56 .lss 55 0,om 57 56,oF 57 58 (.mv (.t 9)),oF 57 59 (.mv (.t 6)),oF 57 60 (.call kv [.t 58,.t 59]),oF 57 61 (.un .not (.t 60)),oo 62 (.pick (.t 57) (xB true) (.t 61)),om 63 62,oF 63 64 (.mv (.t 10)),oF 63 65 (.mv (.t 7)),oF 63 66 (.bin .neq .bool (.t 64) (.t 65)),oo 67 (.pick (.t 63) (xB true) (.t 66))]
def Ar:=[ok 4 (vB false)]
def lT:=[ok 12 (vI 1)]
def lU:=[om 68 9,om 69 12,eo 70 qD 68 69,om 12 70]
def lV:=[ok 13 (vI 1)]
def lW:=[om 71 9,om 72 13,eo 73 lg 71 72,om 13 73]
def lX:=[om 74 13,cD 75 .lss 74 0]
def As:=[ok 4 (vB false)]
def lY:=[om 76 13,om 77 12,bM 78 .neq 76 77]
def At:=[ok 4 (vB false)]
def lZ:=[cm 80 1 2,di 81 gX 80,cm 82 3 3,di 83 tu 82,eo 84 ku 81 83,om 79 84,sE 85 79 0,sE 86 79 1,om 14 85,om 15 86]
def g9:List (List Nat):=[[],[0],[],[0,1,2],[0,1,2,3],[0,1,2,3,4],[0,1,2,3,4,5],[0,1,2,3,4,5],[0,1,2,3,4,5,6],[0,1,2,3,4,5,6,7,8]]
def l0:=[om 87 14,om 88 6,eo 89 kv 87 88,oo 90 (.un .not (.t 89)),om 91 90,oF 91 92 (.mv (.t 15)),oF 91 93 (.mv (.t 7)),oF 91 94 (.bin .neq .bool (.t 92) (.t 93)),oo 95 (.pick (.t 91) (xB true) (.t 94))]
def Au:=[ok 4 (vB false)]
def l3:=[ok 13 (vI 1)]
def l4:=[om 96 9,om 97 13,eo 98 lg 96 97,om 13 98]
def l5:=[om 99 13,cD 100 .lss 99 0]
def Av:=[ok 4 (vB false)]
def l6:=[om 101 13,om 102 12,bM 103 .neq 101 102]
def Aw:=[ok 4 (vB false)]
def l7:=[ok 4 (vB true)]
def pJ:C:=(sr nD [2,3] (sr nE [2,3,5] (sr nF [2,3,5] (ss (sr nG [2,3,20] (sc 20 (sr nH [4] .ret) .skip)) (ss (.regD nI iq [2,3,6,7]) (sr nJ [2,3,6,7,8] (ss (.regD nK ir [2,3,6,7,8,9,10]) (ss (sr nL [2,3,6,7,8,9,10,46] (sc 46 (sr BZ [4] .ret) .skip)) (ss (ss (.regD lP gZ [2,3,6,7,8,9,10,51]) (sc 51 (sr Aq [4] .ret) .skip)) (sr lQ [2,3,6,7,8,9,10,11] (sr lR [2,3,6,7,9,10,11] (ss (sr lS [2,3,6,7,9,67] (sc 67 (sr Ar [4] .ret) .skip)) (sr lT [2,3,6,7,9,12] (sr lU [2,3,6,7,9,12] (sr lV [2,3,6,7,9,12,13] (sr lW [2,3,6,7,9,12,13] (ss (sr lX [2,3,6,7,9,12,13,75] (sc 75 (sr As [4] .ret) .skip)) (ss (sr lY [2,3,6,7,9,12,78] (sc 78 (sr At [4] .ret) .skip)) (ss (.regD lZ g9 [6,7,9,12,14,15]) (ss (sr l0 [9,12,95] (sc 95 (sr Au [4] .ret) .skip)) (sr l3 [9,12,13] (sr l4 [12,13] (ss (sr l5 [12,13,100] (sc 100 (sr Av [4] .ret) .skip)) (ss (sr l6 [103] (sc 103 (sr Aw [4] .ret) .skip)) (sr l7 [4] .ret)))))))))))))))))))))))))
theorem D7:cz pO pJ [(.tmp 4)] 104:=dh Tryz.func3 rfl
end Go.Proofs.YtjkogbgbienloaaGreatDoor
namespace Go.Abs
variable [gI : GI]
theorem adC {P:Program} {f:Nat} {vs:List V} {s:AS} {d:Nat} {K:AS->Prop} {x:Value} (M:List Nat) {H0:List Blk} {H1:List (Option Blk)} (h:ac P f H0 (vs.map (my M (bB s.hp) 6)) (.v x) H1)
  (h1:M.Nodup) (h2:M.map (bB s.hp)=H0.map some) (h3:∀ blk ∈ H0,aC blk.es=true) (h4:CJ H1=true) (h5:K ((s.wrote M H1).put (some d) (.v x))):nT P f vs s d K :=
 .inr <| .inl ⟨M,H0,.v x,H1,h,h1,h2,h3,h4,rfl,rfl,by simp[b9],by rw[YY];exact h5⟩
end Go.Abs
namespace Go.Abs
section
variable [GI] {P : Program} {f d i : Nat} {args args' vs : List V} {res : V} {x : Value} {s : AS} {K : AS → Prop} {c : CO} {next : It → AS → Prop} {H0 : List Blk} {H1 : List (Option Blk)}
theorem Uj (M:List Nat) (h:ac P f H0 (vs.map (my M (bB s.hp) 6)) (.v x) H1) (h5:K ((s.wrote M H1).put (some d) (.v x)))
  (h1:M.Nodup:=by simp) (h2:M.map (bB s.hp)=H0.map some:=by simp) (h3:∀ blk ∈ H0,aC blk.es=true:=by simp) (h4:CJ H1=true:=by simp):nT P f vs s d K:=adC M h h1 h2 h3 h4 h5
end
end Go.Abs
namespace Go.Proofs.YtjkogbgbienloaaGreatDoor
open Go.Abs
open Tryz
theorem Tt {α:Type} {l:List α} {i:Nat} (h:i < l.length):l.drop i=l[i]::l.drop (i+1):=List.drop_eq_getElem_cons h
theorem PN {left:Int} {n:Nat} (h:¬rest left n < 0):(n:Int)<=left:=by
 unfold rest at h;split at h<;>omega
set_option maxRecDepth 100000
def Js:=[fc 1 4 0,qo 2 4 QF]
def Jt:=[qo 3 4 QF]
def Ju:=[aJ 4 0 1,bd 5 1 4,aJ 6 0 3,cy 1 6 5]
def Jv:=[aJ 7 1 1,bd 8 1 7,aJ 9 1 3,cy 1 9 8]
def Jw:=[aJ 10 2 1,bd 11 1 10,aJ 12 2 3,cy 1 12 11]
def Jx:=[aJ 13 3 1,bd 14 1 13,aJ 15 3 3,cy 1 15 14]
def Jy:=[cm 16 4 3,cy 4 2 16]
def OX:C:=(sr Js [1,2] (sr Jt [1,2,3] (sr Ju [1,2,3] (sr Jv [1,2,3] (sr Jw [1,2,3] (sr Jx [2,3] (sr Jy [2] .ret)))))))
theorem UF:cz E6 OX [(.cell 2 true 4)] 17:=dh func138 rfl
def JG:=[fc 1 4 0,qo 2 4 QF]
def JH:=[qo 3 4 QF]
def JI:=[aJ 4 0 1,bd 5 1 4,aJ 6 0 3,cy 1 6 5]
def JJ:=[aJ 7 1 1,bd 8 1 7,aJ 9 1 3,cy 1 9 8]
def JK:=[aJ 10 2 1,bd 11 1 10,aJ 12 2 3,cy 1 12 11]
def JL:=[aJ 13 3 1,bd 14 1 13,aJ 15 3 3,cy 1 15 14]
def JM:=[cm 16 4 3,cy 4 2 16]
def OZ:C:=(sr JG [1,2] (sr JH [1,2,3] (sr JI [1,2,3] (sr JJ [1,2,3] (sr JK [1,2,3] (sr JL [2,3] (sr JM [2] .ret)))))))
theorem UH:cz vi OZ [(.cell 2 true 4)] 17:=dh func139 rfl
def Nj:=[fc 1 15 0,qo 2 15 Qt]
def Nk:=[qo 3 15 Qt]
def Nl:=[aJ 4 0 1,cm 5 4 4,di 6 E6 5,aJ 7 0 3,cy 4 7 6]
def Nn:=[aJ 8 4 1,bd 9 1 8,aJ 10 4 3,cy 1 10 9]
def Np:=[aJ 11 5 1,bd 12 1 11,aJ 13 5 3,cy 1 13 12]
def Nq:=[aJ 14 6 1,bd 15 1 14,aJ 16 6 3,cy 1 16 15]
def Nr:=[aJ 17 7 1,cm 18 4 17,di 19 vi 18,aJ 20 7 3,cy 4 20 19]
def Ns:=[aJ 21 11 1,cm 22 4 21,di 23 vi 22,aJ 24 11 3,cy 4 24 23]
def Nt:=[cm 25 15 3,cy 15 2 25]
def Q8:C:=(sr Nj [1,2] (sr Nk [1,2,3] (sr Nl [1,2,3] (sr Nn [1,2,3] (sr Np [1,2,3] (sr Nq [1,2,3] (sr Nr [1,2,3] (sr Ns [2,3] (sr Nt [2] .ret)))))))))
theorem Wn:cz Ky Q8 [(.cell 2 true 15)] 26:=dh func94 rfl
theorem abk (f:Field):cJ E6 [jw f] (jw f):=by
 refine aa.of UF (by simp) ?_;simp[OX,Js,Jt,Ju,Jv,Jw,Jx,Jy]
theorem Ua (g:Group):cJ vi [gl g] (gl g):=by
 refine aa.of UH (by simp) ?_;simp[OZ,JG,JH,JI,JJ,JK,JL,JM]
theorem adh (a:Arms):cJ Ky [dM a] (dM a):=by
 refine aa.of Wn (by simp) ?_;simp[Q8,Nj,Nk,Nl];refine bN (aa.ag (abk a.field)) ?_;simp[Nn,Np,Nq,Nr];refine bN (aa.ag (Ua a.on)) ?_;simp[Ns];refine bN (aa.ag (Ua a.around)) ?_;simp[Nt]
def I4:=[fc 2 4 0,fc 3 4 1,ok 4 (vB false)]
def xL:=[aJ 5 0 2,bd 6 1 5,aJ 7 0 3,bd 8 1 7,bM 9 .neq 6 8]
def I5:=[ok 4 (vB false)]
def xM:=[aJ 10 1 2,bd 11 1 10,aJ 12 1 3,bd 13 1 12,bM 14 .neq 11 13]
def I6:=[ok 4 (vB false)]
def xN:=[aJ 15 2 2,bd 16 1 15,aJ 17 2 3,bd 18 1 17,bM 19 .neq 16 18]
def I7:=[ok 4 (vB false)]
def xO:=[aJ 20 3 2,bd 21 1 20,aJ 22 3 3,bd 23 1 22,bM 24 .neq 21 23]
def I8:=[ok 4 (vB false)]
def I9:=[ok 4 (vB true)]
def OT:C:=(sr I4 [2,3] (ss (sr xL [2,3,9] (sc 9 (sr I5 [4] .ret) .skip)) (ss (sr xM [2,3,14] (sc 14 (sr I6 [4] .ret) .skip)) (ss (sr xN [2,3,19] (sc 19 (sr I7 [4] .ret) .skip)) (ss (sr xO [24] (sc 24 (sr I8 [4] .ret) .skip)) (sr I9 [4] .ret))))))
theorem UB:cz E3 OT [(.tmp 4)] 25:=dh func159 rfl
def Jh:=[fc 2 4 0,fc 3 4 1,ok 4 (vB false)]
def xS:=[aJ 5 0 2,bd 6 1 5,aJ 7 0 3,bd 8 1 7,bM 9 .neq 6 8]
def Ji:=[ok 4 (vB false)]
def xT:=[aJ 10 1 2,bd 11 1 10,aJ 12 1 3,bd 13 1 12,bM 14 .neq 11 13]
def Jj:=[ok 4 (vB false)]
def xU:=[aJ 15 2 2,bd 16 1 15,aJ 17 2 3,bd 18 1 17,bM 19 .neq 16 18]
def Jk:=[ok 4 (vB false)]
def xV:=[aJ 20 3 2,bd 21 1 20,aJ 22 3 3,bd 23 1 22,bM 24 .neq 21 23]
def Jl:=[ok 4 (vB false)]
def Jm:=[ok 4 (vB true)]
def OV:C:=(sr Jh [2,3] (ss (sr xS [2,3,9] (sc 9 (sr Ji [4] .ret) .skip)) (ss (sr xT [2,3,14] (sc 14 (sr Jj [4] .ret) .skip)) (ss (sr xU [2,3,19] (sc 19 (sr Jk [4] .ret) .skip)) (ss (sr xV [24] (sc 24 (sr Jl [4] .ret) .skip)) (sr Jm [4] .ret))))))
theorem UD:cz vh OV [(.tmp 4)] 25:=dh func160 rfl
def M5:=[fc 2 15 0,fc 3 15 1,ok 4 (vB false)]
def M6:=[aJ 5 0 2,cm 6 4 5,aJ 7 0 3,cm 8 4 7,eo 9 E3 6 8,oo 10 (.un .not (.t 9))]
def M7:=[ok 4 (vB false)]
def B0:=[aJ 11 4 2,bd 12 1 11,aJ 13 4 3,bd 14 1 13,bM 15 .neq 12 14]
def M8:=[ok 4 (vB false)]
def B1:=[aJ 16 5 2,bd 17 1 16,aJ 18 5 3,bd 19 1 18,bM 20 .neq 17 19]
def M9:=[ok 4 (vB false)]
def B2:=[aJ 21 6 2,bd 22 1 21,aJ 23 6 3,bd 24 1 23,bM 25 .neq 22 24]
def Na:=[ok 4 (vB false)]
def Nb:=[aJ 26 7 2,cm 27 4 26,aJ 28 7 3,cm 29 4 28,eo 30 vh 27 29,oo 31 (.un .not (.t 30))]
def I0:=[ok 4 (vB false)]
def I1:=[aJ 32 11 2,cm 33 4 32,aJ 34 11 3,cm 35 4 34,eo 36 vh 33 35,oo 37 (.un .not (.t 36))]
def I2:=[ok 4 (vB false)]
def I3:=[ok 4 (vB true)]
def Q7:C:=(sr M5 [2,3] (ss (sr M6 [2,3,10] (sc 10 (sr M7 [4] .ret) .skip)) (ss (sr B0 [2,3,15] (sc 15 (sr M8 [4] .ret) .skip)) (ss (sr B1 [2,3,20] (sc 20 (sr M9 [4] .ret) .skip)) (ss (sr B2 [2,3,25] (sc 25 (sr Na [4] .ret) .skip)) (ss (sr Nb [2,3,31] (sc 31 (sr I0 [4] .ret) .skip)) (ss (sr I1 [37] (sc 37 (sr I2 [4] .ret) .skip)) (sr I3 [4] .ret))))))))
theorem Wl:cz Kx Q7 [(.tmp 4)] 38:=dh func114 rfl
def Ja:=[fc 2 18 0,fc 3 18 1,ok 4 (vB false)]
def xP:=[aJ 5 0 2,bd 6 1 5,aJ 7 0 3,bd 8 1 7,bM 9 .neq 6 8]
def Jb:=[ok 4 (vB false)]
def xQ:=[aJ 10 1 2,bd 11 1 10,aJ 12 1 3,bd 13 1 12,bM 14 .neq 11 13]
def Jc:=[ok 4 (vB false)]
def xR:=[aJ 15 2 2,bd 16 1 15,aJ 17 2 3,bd 18 1 17,bM 19 .neq 16 18]
def Jd:=[ok 4 (vB false)]
def Je:=[aJ 20 3 2,cm 21 15 20,aJ 22 3 3,cm 23 15 22,eo 24 Kx 21 23,oo 25 (.un .not (.t 24))]
def Jf:=[ok 4 (vB false)]
def Jg:=[ok 4 (vB true)]
def OU:C:=(sr Ja [2,3] (ss (sr xP [2,3,9] (sc 9 (sr Jb [4] .ret) .skip)) (ss (sr xQ [2,3,14] (sc 14 (sr Jc [4] .ret) .skip)) (ss (sr xR [2,3,19] (sc 19 (sr Jd [4] .ret) .skip)) (ss (sr Je [25] (sc 25 (sr Jf [4] .ret) .skip)) (sr Jg [4] .ret))))))
theorem UC:cz E4 OU [(.tmp 4)] 26:=dh func70 rfl
def ux:=[ok 4 (vB false)]
def uz:=[om 6 0,oo 7 (.len false (.t 6)),om 8 1,oo 9 (.len false (.t 8)),bM 10 .neq 7 9]
def uA:=[ok 4 (vB false)]
def GG:=[ok 5 (vI 0)]
def GH:=[om 11 5,om 12 0,oo 13 (.len false (.t 12)),bM 14 .lss 11 13]
def GI:=[om 17 0,om 18 5,ep 19 18 17 18,cm 20 18 19,om 21 1,om 22 5,ep 23 18 21 22,cm 24 18 23,eo 25 E4 20 24,oo 26 (.un .not (.t 25))]
def Fc:List (List Nat):=[[],[],[0,1],[0,1,2],[],[],[4,5],[4,5,6],[0,1,2,3,4,5,6,7],[0,1,2,3,4,5,6,7,8]]
def GJ:=[ok 4 (vB false)]
def GK:=[om 15 5,fv 16 15 1,om 5 16]
def ES:C:=(ss (sr GH [0,1,5,14] (sc 14 .skip (.exit 0))) (ss (.block 1 (ss (.regD GI Fc [0,1,5,26]) (sc 26 (sr GJ [4] .ret) .skip))) (.reg GK [0,1,5])))
def GL:=[ok 4 (vB true)]
def A8:C:=(sr ux [0,1] (ss (sr uz [0,1,10] (sc 10 (sr uA [4] .ret) .skip)) (ss (sr GG [0,1,5] (.block 0 (.loop ES))) (sr GL [4] .ret))))
def UU:Nat->List Nat
 | 0=>[0,1]
 | 1=>[0,1,10]
 | 2=>[4]
 | 3=>[0,1,5]
 | 4=>[0,1,5,14]
 | 6=>[0,1,5,26]
 | 7=>[4]
 | 5=>[0,1,5]
 | 8=>[4]
 | _=>[]
theorem SU:cz Bs A8 [(.tmp 4)] 27 :=
 ⟨Tryz.f36,_,UU,func36,rfl,by kernel_rfl,by kernel_rfl,by kernel_rfl,rfl⟩
def Ax:=[fc 2 1 0,fc 3 1 1,ok 4 (vB false)]
def Ay:=[aJ 5 0 2,bd 6 1 5,aJ 7 0 3,bd 8 1 7,eo 9 Bs 6 8,oo 10 (.un .not (.t 9))]
def Az:=[ok 4 (vB false)]
def AA:=[ok 4 (vB true)]
def Ez:C:=(sr Ax [2,3] (ss (sr Ay [10] (sc 10 (sr Az [4] .ret) .skip)) (sr AA [4] .ret)))
theorem Qa:cz tp Ez [(.tmp 4)] 11:=dh func11 rfl
def Jz:=[fc 1 18 0,qo 2 18 Cd]
def JA:=[qo 3 18 Cd]
def JB:=[aJ 4 0 1,bd 5 1 4,aJ 6 0 3,cy 1 6 5]
def JC:=[aJ 7 1 1,bd 8 1 7,aJ 9 1 3,cy 1 9 8]
def JD:=[aJ 10 2 1,bd 11 1 10,aJ 12 2 3,cy 1 12 11]
def JE:=[aJ 13 3 1,cm 14 15 13,di 15 Ky 14,aJ 16 3 3,cy 15 16 15]
def JF:=[cm 17 18 3,cy 18 2 17]
def OY:C:=(sr Jz [1,2] (sr JA [1,2,3] (sr JB [1,2,3] (sr JC [1,2,3] (sr JD [1,2,3] (sr JE [2,3] (sr JF [2] .ret)))))))
theorem UG:cz E7 OY [(.cell 2 true 18)] 18:=dh func56 rfl
def Jn:=[fc 2 18 0,ok 4 (vI 0)]
def Jo:=[om 5 1,aJ 6 1 2,bd 7 1 6,oo 8 (.len true (.t 7)),bM 9 .sub 5 8,om 1 9]
def Jp:=[om 10 1,cD 11 .lss 10 0]
def Jq:=[ok 4 (vI (-1))]
def Jr:=[om 12 1,om 4 12]
def OW:C:=(sr Jn [1,2] (sr Jo [1] (ss (sr Jp [1,11] (sc 11 (sr Jq [4] .ret) .skip)) (sr Jr [4] .ret))))
theorem UE:cz E5 OW [(.tmp 4)] 13:=dh func53 rfl
def GV:=[ok 4 (vI 0)]
def GW:=[om 6 1,om 7 0,oo 8 (.len false (.t 7)),bM 9 .sub 6 8,om 1 9]
def GX:=[om 10 1,cD 11 .lss 10 0]
def GY:=[ok 4 (vI (-1))]
def GZ:=[ok 5 (vI 0)]
def G0:=[om 12 5,om 13 0,oo 14 (.len false (.t 13)),bM 15 .lss 12 14]
def G1:=[om 18 0,om 19 5,ep 20 18 18 19,cm 21 18 20,om 22 1,eo 23 E5 21 22,om 1 23]
def G2:=[om 24 1,cD 25 .lss 24 0]
def G3:=[ok 4 (vI (-1))]
def G4:=[om 16 5,fv 17 16 1,om 5 17]
def CD:C:=(ss (sr G0 [0,1,5,15] (sc 15 .skip (.exit 0))) (ss (.block 1 (sr G1 [0,1,5] (sr G2 [0,1,5,25] (sc 25 (sr G3 [4] .ret) .skip)))) (.reg G4 [0,1,5])))
def DR:=[om 26 1,om 4 26]
def Ld:C:=(sr GV [0,1] (sr GW [0,1] (ss (sr GX [0,1,11] (sc 11 (sr GY [4] .ret) .skip)) (ss (sr GZ [0,1,5] (.block 0 (.loop CD))) (sr DR [4] .ret)))))
def UV:Nat->List Nat
 | 0=>[0,1]
 | 1=>[0,1]
 | 2=>[0,1,11]
 | 3=>[4]
 | 4=>[0,1,5]
 | 5=>[0,1,5,15]
 | 7=>[0,1,5]
 | 8=>[0,1,5,25]
 | 9=>[4]
 | 6=>[0,1,5]
 | 10=>[4]
 | _=>[]
theorem SW:cz Bu Ld [(.tmp 4)] 27 :=
 ⟨Tryz.f24,_,UV,func24,rfl,by kernel_rfl,by kernel_rfl,by kernel_rfl,rfl⟩
def AM:=[fc 2 1 0,ok 4 (vI 0)]
def AN:=[aJ 5 0 2,bd 6 1 5,om 7 1,eo 8 Bu 6 7,om 1 8]
def AO:=[om 9 1,cD 10 .lss 9 0]
def AP:=[ok 4 (vI (-1))]
def AQ:=[om 11 1,om 4 11]
def EB:C:=(sr AM [1,2] (sr AN [1] (ss (sr AO [1,10] (sc 10 (sr AP [4] .ret) .skip)) (sr AQ [4] .ret))))
theorem Qc:cz tt EB [(.tmp 4)] 12:=dh func5 rfl
def G5:=[ok 2 vN]
def G6:=[om 5 0,oo 6 (.len false (.t 5)),oo 7 (.mks 18 Cd 152 (.t 6) (.t 6)),om 3 7]
def G7:=[ok 4 (vI 0)]
def G8:=[om 8 4,om 9 0,oo 10 (.len false (.t 9)),bM 11 .lss 8 10]
def G9:=[om 14 3,om 15 4,om 16 0,om 17 4,ep 18 18 16 17,cm 19 18 18,di 20 E7 19,ep 21 18 14 15,cy 18 21 20]
def Ha:=[om 12 4,fv 13 12 1,om 4 13]
def EU:C:=(ss (sr G8 [0,3,4,11] (sc 11 .skip (.exit 0))) (ss (.block 1 (.reg G9 [0,3,4])) (.reg Ha [0,3,4])))
def Hb:=[om 22 3,om 2 22]
def Lf:C:=(sr G5 [0] (sr G6 [0,3] (ss (sr G7 [0,3,4] (.block 0 (.loop EU))) (sr Hb [2] .ret))))
def UW:Nat->List Nat
 | 0=>[0]
 | 1=>[0,3]
 | 2=>[0,3,4]
 | 3=>[0,3,4,11]
 | 5=>[0,3,4]
 | 4=>[0,3,4]
 | 6=>[2]
 | _=>[]
theorem SX:cz Bv Lf [(.tmp 2)] 23 :=
 ⟨Tryz.f29,_,UW,func29,rfl,by kernel_rfl,by kernel_rfl,by kernel_rfl,rfl⟩
def AR:=[fc 1 1 0,qo 2 1 (.agg [vN])]
def AU:=[qo 3 1 (.agg [vN])]
def AV:=[aJ 4 0 1,bd 5 1 4,di 6 Bv 5,aJ 7 0 3,cy 1 7 6]
def AW:=[cm 8 1 3,cy 1 2 8]
def EC:C:=(sr AR [1,2] (sr AU [1,2,3] (sr AV [2,3] (sr AW [2] .ret))))
theorem Qd:cz gX EC [(.cell 2 true 1)] 9:=dh func7 rfl
theorem Field.eq_iff (p q:Field):p=q↔p.division=q.division/\p.line=q.line/\p.first=q.first/\p.second=q.second:=by
 cases p;cases q;simp
theorem abg (p q:Field):cJ E3 [jw p,jw q] (B (decide (p=q))):=by
 refine aa.of UB (by simp) ?_;simp[OT,I4];by_cases h0:p.division=q.division;rotate_left
 ·simp[xL,I5,h0,Field.eq_iff]
 simp[xL,h0];by_cases h1:p.line=q.line;rotate_left
 ·simp[xM,I6,h1,h0,Field.eq_iff]
 simp[xM,h1];by_cases h2:p.first=q.first
 rotate_left
 ·simp[xN,I7,h2,h0,h1,Field.eq_iff]
 simp[xN,h2];by_cases h3:p.second=q.second;rotate_left
 ·simp[xO,I8,h3,h0,h1,h2,Field.eq_iff]
 simp[xO,h3];simp[I9,Field.eq_iff,h0,h1,h2,h3]
theorem Group.eq_iff (p q:Group):p=q↔p.count=q.count/\p.kind=q.kind/\p.attitude=q.attitude/\p.tincture=q.tincture:=by
 cases p;cases q;simp
theorem T9 (p q:Group):cJ vh [gl p,gl q] (B (decide (p=q))):=by
 refine aa.of UD (by simp) ?_;simp[OV,Jh];by_cases h0:p.count=q.count;rotate_left
 ·simp[xS,Ji,h0,Group.eq_iff]
 simp[xS,h0];by_cases h1:p.kind=q.kind;rotate_left
 ·simp[xT,Jj,h1,h0,Group.eq_iff]
 simp[xT,h1];by_cases h2:p.attitude=q.attitude;rotate_left
 ·simp[xU,Jk,h2,h0,h1,Group.eq_iff]
 simp[xU,h2];by_cases h3:p.tincture=q.tincture;rotate_left
 ·simp[xV,Jl,h3,h0,h1,h2,Group.eq_iff]
 simp[xV,h3];simp[Jm,Group.eq_iff,h0,h1,h2,h3]
theorem Arms.eq_iff (p q:Arms):p=q↔p.field=q.field/\p.ordinary=q.ordinary/\p.line=q.line/\p.tincture=q.tincture/\p.on=q.on/\p.around=q.around:=by
 cases p;cases q;simp
theorem adg (p q:Arms):cJ Kx [dM p,dM q] (B (decide (p=q))):=by
 refine aa.of Wl (by simp) ?_;simp[Q7,M5];simp[M6];refine af (aa.ag (abg p.field q.field)) ?_;by_cases h0:p.field=q.field;rotate_left
 ·simp[M7,h0,Arms.eq_iff]
 simp[h0];by_cases h1:p.ordinary=q.ordinary;rotate_left
 ·simp[B0,M8,h1,h0,Arms.eq_iff]
 simp[B0,h1];by_cases h2:p.line=q.line;rotate_left
 ·simp[B1,M9,h2,h0,h1,Arms.eq_iff]
 simp[B1,h2];by_cases h3:p.tincture=q.tincture;rotate_left
 ·simp[B2,Na,h3,h0,h1,h2,Arms.eq_iff]
 simp[B2,h3];simp[Nb];refine af (aa.ag (T9 p.on q.on)) ?_;by_cases h4:p.on=q.on;rotate_left
 ·simp[I0,h4,h0,h1,h2,h3,Arms.eq_iff]
 simp[h4];simp[I1];refine af (aa.ag (T9 p.around q.around)) ?_;by_cases h5:p.around=q.around;rotate_left
 ·simp[I2,h5,h0,h1,h2,h3,h4,Arms.eq_iff]
 simp[h5];simp[I3,Arms.eq_iff,h0,h1,h2,h3,h4,h5]
theorem Grant.eq_iff (p q:Grant):p=q↔p.number=q.number/\p.name=q.name/\p.year=q.year/\p.arms=q.arms:=by
 cases p;cases q;simp
theorem abh (p q:Grant):cJ E4 [aY p,aY q] (B (decide (p=q))):=by
 refine aa.of UC (by simp) ?_;simp[OU,Ja];by_cases h0:p.number=q.number;rotate_left
 ·simp[xP,Jb,h0,Grant.eq_iff]
 simp[xP,h0];by_cases h1:p.name=q.name;rotate_left
 ·simp[xQ,Jc,h1,h0,Grant.eq_iff]
 simp[xQ,h1];by_cases h2:p.year=q.year;rotate_left
 ·simp[xR,Jd,h2,h0,h1,Grant.eq_iff]
 simp[xR,h2];simp[Je];refine af (aa.ag (adg p.arms q.arms)) ?_;by_cases h3:p.arms=q.arms;rotate_left
 ·simp[Jf,h3,h0,h1,h2,Grant.eq_iff]
 simp[h3];simp[Jg,Grant.eq_iff,h0,h1,h2,h3]
theorem Y4 (a b:List Grant):cJ Bs [.ro 18 (a.map aY),.ro 18 (b.map aY)] (B (decide (a=b))):=by
 refine aa.ofL SU (by simp) fun hl=>?_;simp at hl;by_cases hl:a.length=b.length
 ·simp[A8,ux,uz,uA,GG,GL,hl];refine ci (fun i:Nat=>⟨[(0,.ro 18 (a.map aY)),(1,.ro 18 (b.map aY)),(5,I i)],[],[]⟩) (fun i=>a.length - i) (fun i=>i<=a.length/\a.take i=b.take i) 0 Wk.li (by simp) ?_;rintro i ⟨hi,hj⟩ K hN hR hE;simp[ES,GH];refine⟨fun hlt=>?_,fun hge=>?_⟩
  ·have hlb:i < b.length:=by omega
   simp[GI,Fc,hlt,hlb];refine mr (abh a[i] b[i]) ?_ ?_ ?_
   ·simp
   ·simp
   simp;refine⟨aO (by first | kernel_rfl | simp) (by first | kernel_rfl | simp),fun hne=>?_,fun he=>?_⟩
   ·simp[GJ];refine hR _ ?_;simp;rintro rfl;exact hne rfl
   ·simp[GK];rw[am (by omega)];refine hN (i+1) _ (by omega) ⟨by omega,?_⟩ Wk.li;rw[br hlt,br hlb,hj,he]
  ·refine hE _ _ ?_;rw[List.take_of_length_le (by omega),List.take_of_length_le (by omega)] at hj;simp[hj]
 ·simp[A8,ux,uz,uA,hl];refine⟨fun _ e=>hl (by rw[e]),fun e=>absurd (by omega) hl⟩
theorem Vw (a b:aZ):cJ tp [be a,be b] (B (decide (a=b))):=by
 refine aa.of Qa (by simp) ?_;simp[Ez,Ax,Ay];refine af (aa.ag (Y4 a b)) ?_;by_cases h:a=b
 ·simp[AA,h]
 ·simp[Az,h]
theorem abl (g:Grant):cJ E7 [aY g] (aY g):=by
 refine aa.of UG (by simp) ?_;simp[OY,Jz,JA,JB,JC,JD,JE];refine bN (aa.ag (adh g.arms)) ?_;simp[JF]
theorem abj (g:Grant) (left:Int) (h0:0<=left) (h1:left<=1048576):cJ E5 [aY g,I left] (I (rest left g.name.length)):=by
 refine aa.ofL UE (by simp) fun hl=>?_;simp[yJ,S5] at hl;simp[OW,Jn,Jo];rw[am (by omega)];simp[Jp,Jq,Jr,rest];constructor<;>intros<;>omega
def szG (l:List Grant):Nat:=l.length+gJ (l.map Grant.name)
theorem Y5 (l:List Grant) (left:Int) (h0:0<=left) (h1:left<=1048576):cJ Bu [.ro 18 (l.map aY),I left] (I (rest left (szG l))):=by
 refine aa.ofL SW (by simp) fun hl=>?_;simp at hl;simp[GV,GW,Ld];rw[am (by omega)];simp[GX];refine⟨fun hneg=>?_,fun hge=>?_⟩
 ·simp[GY,rest,szG];omega
 simp[GZ,DR];refine Ly (fun i:Nat=>⟨[(0,.ro 18 (l.map aY)),(1,I (left - l.length - gJ ((l.map Grant.name).take i))),(5,I i)],[],[]⟩) (fun i=>l.length - i) (fun i=>i<=l.length/\l.length+gJ ((l.map Grant.name).take i)<=left) 0 Wk.li ⟨by simp,by simp;omega⟩ ?_;rintro i ⟨hi,hb⟩;simp[CD,G0];refine⟨fun hlt=>?_,fun hge=>?_⟩
 ·simp[G1,hlt];refine af (abj l[i] (left - l.length - gJ ((l.map Grant.name).take i)) (by omega) (by omega)) ?_;have e:gJ ((l.map Grant.name).take (i+1))=gJ ((l.map Grant.name).take i)+l[i].name.length:=by rw[br (by simpa using hlt),Cb,KI,T5];simp
  have hle:gJ ((l.map Grant.name).take (i+1))<=gJ (l.map Grant.name):=JS _ _;simp[G2];refine⟨fun hneg=>?_,fun hpos=>?_⟩
  ·simp[G3];unfold rest at hneg ⊢;unfold szG;split at hneg<;>split<;>omega
  ·simp[G4];have:=PN (by omega:¬rest (left - l.length - gJ ((l.map Grant.name).take i)) l[i].name.length < 0);rw[am (by omega)];refine Ov (i+1) (by omega) ⟨by omega,by omega⟩ (Wk.list rfl ?_ (by simp));simp only[rest,e];rw[if_neg (by omega)];simp;omega
 ·obtain rfl:i=l.length:=by omega
  rw[List.take_of_length_le (by simp)] at hb ⊢;unfold rest szG;rw[if_neg (by omega)];omega
theorem Vy (l:aZ) (left:Int) (h0:0<=left) (h1:left<=1048576):cJ tt [be l,I left] (I (rest left (szG l))):=by
 refine aa.of Qc (by simp) ?_;simp[EB,AM,AN];refine af (aa.ag (Y5 l left h0 h1)) ?_;simp[AO,AP,AQ];intro h;unfold rest at h ⊢;split at h
 ·rename_i h';rw[if_pos h']
 ·rename_i h';rw[if_neg h'];omega
theorem Y6 (l:List Grant) (hl:l.length<=1048576):cJ Bv [.ro 18 (l.map aY)] (.own 18 (l.map aY)):=by
 refine aa.of SX (by simp) ?_;simp[Lf,G5,G6,G7,ba];refine⟨by omega,?_⟩;simp[Hb];refine ci (fun i:Nat=>⟨[(0,.ro 18 (l.map aY)),(3,.sl 7 0 l.length),(4,I i)],[(7,⟨18,(l.map aY).take i++List.replicate (l.length - i) (.agg [I 0,S [],I 0,I 0,I 0,I 0,I 0,I 0,I 0,I 0,I 0,I 0,I 0,I 0,I 0,I 0,I 0,I 0])⟩)],[]⟩) (fun i=>l.length - i) (fun i=>i<=l.length) 0 Wk.li (by simp) ?_;intro i hi K hN hR hE;have hlen:((l.map aY).take i).length=i:=by simp;omega
 simp[EU,G8];refine⟨fun hlt=>?_,fun hge=>?_⟩
 ·simp[G9,hlt];refine km (abl l[i]) rfl (.inl (by simp)) (by simp) ?_;simp[RA hlen hlt,hlt];simp[Ha];rw[am (by omega)];refine hN (i+1) _ (by omega) (by omega) (Wk.list rfl (by simp) ?_);simp[Lp hlen hlt,br,hlt]
 ·refine hE _ _ ?_;obtain rfl:i=l.length:=by omega
  simp
theorem Vz (l:aZ) (hl:l.length<=1048576):cJ gX [be l] (oR l):=by
 refine aa.of Qd (by simp) ?_;simp[EC,AR,AU,AV];refine bN (aa.ag (Y6 l hl)) ?_;simp[AW]
def GM:=[ok 2 (vS [])]
def GN:=[om 4 0,cD 5 .leq 4 0]
def GO:=[ok 2 (vS [109,48])]
def GP:=[ok 3 (vS [])]
def GQ:=[om 6 0,cD 7 .gtr 6 0]
def GR:=[om 8 0,cD 9 .rem 8 10,oo 10 (.bin .add .none (xI 48) (.t 9)),oo 11 (.conv (.int .u8) (.t 10)),oo 12 (.bslice 1 (.v (.int .u8 (0))) 1 [(0,(.t 11))]),oo 13 (.conv .bytesStr (.t 12)),om 14 3,bM 15 .add 13 14,om 3 15]
def GS:=[om 16 0,cD 17 .quo 16 10,om 0 17]
def ET:C:=(ss (sr GQ [0,3,7] (sc 7 .skip (.exit 0))) (.block 1 (sr GR [0,3] (.reg GS [0,3]))))
def GU:=[om 18 3,oo 19 (.bin .add .none (.k (vS [109])) (.t 18)),om 2 19]
def Lc:C:=(sr GM [0] (ss (sr GN [0,5] (sc 5 (sr GO [2] .ret) .skip)) (sr GP [0,3] (ss (.block 0 (.loop ET)) (sr GU [2] .ret)))))
theorem SV:cz mO Lc [(.tmp 2)] 20:=dh func38 rfl
def qR:=[ok 4 (vB false)]
def qS:=[om 6 0,oo 7 (.len false (.t 6)),om 8 1,oo 9 (.len false (.t 8)),bM 10 .neq 7 9]
def qT:=[ok 4 (vB false)]
def DM:=[ok 5 (vI 0)]
def DN:=[om 11 5,om 12 0,oo 13 (.len false (.t 12)),bM 14 .lss 11 13]
def DO:=[om 17 0,om 18 5,ep 19 1 17 18,bd 20 1 19,om 21 1,om 22 5,ep 23 1 21 22,bd 24 1 23,bM 25 .neq 20 24]
def CL:List (List Nat):=[[],[],[0,1],[0,1,2],[],[],[4,5],[4,5,6],[0,1,2,3,4,5,6,7]]
def DP:=[ok 4 (vB false)]
def DQ:=[om 15 5,fv 16 15 1,om 5 16]
def CC:C:=(ss (sr DN [0,1,5,14] (sc 14 .skip (.exit 0))) (ss (.block 1 (ss (.regD DO CL [0,1,5,25]) (sc 25 (sr DP [4] .ret) .skip))) (.reg DQ [0,1,5])))
def qU:=[ok 4 (vB true)]
def xf:C:=(sr qR [0,1] (ss (sr qS [0,1,10] (sc 10 (sr qT [4] .ret) .skip)) (ss (sr DM [0,1,5] (.block 0 (.loop CC))) (sr qU [4] .ret))))
def S4:Nat->List Nat
 | 0=>[0,1]
 | 1=>[0,1,10]
 | 2=>[4]
 | 3=>[0,1,5]
 | 4=>[0,1,5,14]
 | 6=>[0,1,5,25]
 | 7=>[4]
 | 5=>[0,1,5]
 | 8=>[4]
 | _=>[]
theorem Rv:cz kv xf [(.tmp 4)] 26 :=
 ⟨Tryz.f10,_,S4,func10,rfl,by kernel_rfl,by kernel_rfl,by kernel_rfl,rfl⟩
def wZ:=[ok 4 (vI 0)]
def w3:=[ok 5 (vI 0)]
def w4:=[om 6 5,om 7 0,oo 8 (.len false (.t 7)),bM 9 .lss 6 8]
def w5:=[om 12 0,om 13 5,om 14 1,di 15 mO 14,ep 16 1 12 13,cy 1 16 15]
def w6:=[om 17 1,fv 18 17 1,om 1 18]
def w7:=[om 10 5,fv 11 10 1,om 5 11]
def u9:C:=(ss (sr w4 [0,1,5,9] (sc 9 .skip (.exit 0))) (ss (.block 1 (sr w5 [0,1,5] (.reg w6 [0,1,5]))) (.reg w7 [0,1,5])))
def w8:=[om 19 1,om 4 19]
def Cr:C:=(sr wZ [0,1] (ss (sr w3 [0,1,5] (.block 0 (.loop u9))) (sr w8 [4] .ret)))
def Qm:Nat->List Nat
 | 0=>[0,1]
 | 1=>[0,1,5]
 | 2=>[0,1,5,9]
 | 4=>[0,1,5]
 | 5=>[0,1,5]
 | 3=>[0,1,5]
 | 6=>[4]
 | _=>[]
theorem Oc:cz qD Cr [(.tmp 4)] 20 :=
 ⟨Tryz.f13,_,Qm,func13,rfl,by kernel_rfl,by kernel_rfl,by kernel_rfl,rfl⟩
def wl:=[ok 4 (vI 0)]
def wm:=[ok 5 (vI 0)]
def wn:=[om 6 5,om 7 0,oo 8 (.len false (.t 7)),bM 9 .lss 6 8]
def wo:=[om 12 0,om 13 5,ep 14 1 12 13,bd 15 1 14,om 16 1,di 17 mO 16,bM 18 .neq 15 17]
def vn:List (List Nat):=[[],[],[0,1],[0,1,2],[],[4],[0,1,2,3,4,5]]
def Nc:=[ok 4 (vI (-1))]
def wq:=[om 19 1,fv 20 19 1,om 1 20]
def ws:=[om 10 5,fv 11 10 1,om 5 11]
def u6:C:=(ss (sr wn [0,1,5,9] (sc 9 .skip (.exit 0))) (ss (.block 1 (ss (ss (.regD wo vn [0,1,5,18]) (sc 18 (sr Nc [4] .ret) .skip)) (.reg wq [0,1,5]))) (.reg ws [0,1,5])))
def wt:=[om 21 1,om 4 21]
def Cq:C:=(sr wl [0,1] (ss (sr wm [0,1,5] (.block 0 (.loop u6))) (sr wt [4] .ret)))
def Ql:Nat->List Nat
 | 0=>[0,1]
 | 1=>[0,1,5]
 | 2=>[0,1,5,9]
 | 4=>[0,1,5,18]
 | 5=>[4]
 | 6=>[0,1,5]
 | 3=>[0,1,5]
 | 7=>[4]
 | _=>[]
theorem Ob:cz lg Cq [(.tmp 4)] 22 :=
 ⟨Tryz.f14,_,Ql,func14,rfl,by kernel_rfl,by kernel_rfl,by kernel_rfl,rfl⟩
def RN (k:Nat):List UInt8:=109::cW k
theorem ahY {n:Int} (h1:0<=n) (h2:n<=255):IntKind.u8.wrap n=n:=by
 simp[IntKind.wrap,IntKind.signed,IntKind.bits];omega
theorem KJ (k:Nat) (hk:k<=100000000):cJ mO [I k] (S (RN k)):=by
 refine aa.of SV (by simp) ?_;simp[Lc,GM,GN];refine⟨fun h=>?_,fun h=>?_⟩
 ·have:k=0:=by omega
  subst this;simp[GO,RN,ib]
 ·simp[GP,ET];refine ci (fun p:Nat×List UInt8=>⟨[(0,I p.1),(3,S p.2)],[],[]⟩) (fun p=>p.1) (fun p=>p.1<=k/\p.2.length<=2 * (k - p.1)/\(0 < p.1->cW k=cW p.1++p.2)/\(p.1=0->cW k=p.2)) (k,[]) Wk.li ⟨by simp,by simp,by simp,fun h'=>by dsimp only at h';omega⟩ ?_;rintro ⟨j,suf⟩ ⟨hj,hl,h1,h2⟩ K hN hR hE;dsimp only at hj hl h1 h2;simp[GQ];refine⟨fun hlt=>?_,fun hge=>?_⟩
  ·obtain ⟨m,hm,hmj⟩:∃ m,m < 10/\j % 10=m:=⟨j % 10,by omega,rfl⟩;have e2:(j:Int).tmod 10=(m:Int):=by rw[Int.tmod_eq_emod_of_nonneg (by omega)];omega
   have hd:=h1 (by omega);simp[GR];rw[e2,am (by omega),ahY (by omega) (by omega)];rw[show (48+(m:Int)).toNat=48+m by omega];refine⟨by omega,?_⟩;simp[GS];rw[am (by omega)];refine hN (j / 10,UInt8.ofNat (48+m)::suf) _ (by dsimp only;omega) ⟨by dsimp only;omega,by simp only[List.length_cons];omega,fun h'=>?_,fun h'=>?_⟩ Wk.li
   ·dsimp only at h' ⊢;rw[hd,sT (n:=j) (by omega),hmj];simp
   ·dsimp only at h' ⊢;rw[hd,ib (n:=j) (by omega),<- hmj,show j % 10=j by omega];simp
  ·refine hE _ _ ?_;have:j=0:=by omega
   subst this;have:=h2 rfl;simp only[aL];simp[GU,RN,<- this];have:=N0 k;omega
theorem Hu (a b:List (List UInt8)):cJ kv [.ro 1 (a.map S),.ro 1 (b.map S)] (B (decide (a=b))):=by
 refine aa.ofL Rv (by simp) fun hl=>?_;simp at hl;by_cases hl:a.length=b.length
 ·simp[xf,qR,qS,qT,DM,qU,hl];refine ci (fun i:Nat=>⟨[(0,.ro 1 (a.map S)),(1,.ro 1 (b.map S)),(5,I i)],[],[]⟩) (fun i=>a.length - i) (fun i=>i<=a.length/\∀ j,j < i->a[j]?=b[j]?) 0 Wk.li ⟨by simp,by simp⟩ ?_;rintro i ⟨hi,hj⟩ K hN hR hE;simp[CC,DN];refine⟨fun hlt=>?_,fun hge=>?_⟩
  ·have hlb:i < b.length:=by omega
   simp[DO,CL,hlt,hlb];refine⟨⟨rfl,rfl⟩,fun hne=>?_,fun he=>?_⟩
   ·simp[DP];refine hR _ ?_;simp;rintro rfl;exact hne rfl
   ·simp[DQ];rw[am (by omega)];refine hN (i+1) _ (by omega) ⟨by omega,fun j hj'=>?_⟩ Wk.li;by_cases e:j=i
    ·subst e;simp[hlt,hlb,he]
    ·exact hj j (by omega)
  ·refine hE _ _ ?_
   have:a=b:=by
    apply List.ext_getElem?;intro j;by_cases h:j < i
    ·exact hj j h
    ·rw[List.getElem?_eq_none (by omega),List.getElem?_eq_none (by omega)]
   simp only[aL];simp[qU,this]
 ·simp[xf,qR,qS,qT,hl];exact⟨fun _ e=>hl (by rw[e]),fun e=>absurd e (by omega)⟩
def lp (k n:Nat):List (List UInt8):=(List.range n).map fun i=>RN (k+i)
theorem tg (k n:Nat):(lp k n).length=n:=by simp[lp]
theorem WT (k:Nat) (n:Nat):lp k (n+1)=lp k n++[RN (k+n)]:=by simp only[lp,List.range_succ,List.map_append,List.map_cons,List.map_nil]
theorem Yr {k m i:Nat} (h:i < (lp k m).length):(lp k m)[i]=RN (k+i):=by simp[lp]
theorem Td (l:List (List UInt8)) (k:Nat) (hl:l.length<=1000000) (hk:k<=1000000) :
  x4 qD [⟨1,l.map S⟩] [.sl (gL 0) 0 l.length,I k] (I ((k+l.length:Nat):Int)) [some ⟨1,(lp k l.length).map S⟩]:=by
 refine ac.of Oc (by simp) rfl (by simp) ?_;simp[Cr,wZ,w3,u9]
 refine ci (fun i:Nat=>⟨[(0,.sl 1000000 0 l.length),(1,I ((k+i:Nat):Int)),(5,I i)],[(1000000,⟨1,(lp k i++l.drop i).map S⟩)],[1000000]⟩) (fun i=>l.length - i)
  (fun i=>i<=l.length) 0 (Wk.list rfl (by simp) (by simp[lp])) (by simp) ?_
 intro i hi K hN hR hE;simp[w4];have hml:(List.map S (lp k i)).length=i:=by rw[List.length_map,tg]
 refine⟨fun hlt=>?_,fun hge=>?_⟩
 ·have hd:(l.map S).drop i=S l[i]::(l.map S).drop (i+1):=by rw[Tt (l:=l.map S) (by simpa using hlt)];simp
  simp only[hd];simp[w5];refine af (aa.ag (KJ (k+i) (by omega))) ?_;simp[hlt,bU hml,bV hml];simp[w6];rw[am (by omega)];simp[w7];rw[am (by omega)];refine hN (i+1) _ (by omega) (by omega) (Wk.list rfl ?_ ?_)
  ·simp;omega
  ·simp[WT,bV hml]
 ·refine hE _ _ ?_;obtain rfl:i=l.length:=by omega
  simp[w8,tg]
theorem HU (k m:Nat) (hm:m<=1000000) (hk:k<=1000000):cJ lg [.ro 1 ((lp k m).map S),I k] (I ((k+m:Nat):Int)):=by
 refine aa.of Ob (by simp) ?_;simp[Cq,wl,wm,u6];refine ci (fun i:Nat=>⟨[(0,.ro 1 ((lp k m).map S)),(1,I ((k+i:Nat):Int)),(5,I i)],[],[]⟩) (fun i=>m - i) (fun i=>i<=m) 0 Wk.li (by simp) ?_;intro i hi K hN hR hE;simp[wn,tg];refine⟨fun hlt=>?_,fun hge=>?_⟩
 ·have hg:i < (lp k m).length:=by rw[tg];exact hlt
  have hx:=Yr hg;simp[wo,vn,hlt,hg,hx];refine bu (aa.ag (KJ (k+i) (by omega))) ?_;simp;refine⟨aO (by first | kernel_rfl | simp) (by first | kernel_rfl | simp),?_⟩;simp[wq];rw[am (by omega)];simp[ws];rw[am (by omega)];refine hN (i+1) _ (by omega) (by omega) (Wk.list rfl ?_ ?_)
  ·simp;omega
  ·simp
 ·refine hE _ _ ?_;obtain rfl:i=m:=by omega
  simp[wt]
def Nu:=[fc 1 3 0,qo 2 3 (.agg [vI 0,vI 0,vI 0])]
def Nv:=[qo 3 3 (.agg [vI 0,vI 0,vI 0])]
def Nw:=[aJ 4 0 1,bd 5 1 4,aJ 6 0 3,cy 1 6 5]
def Nx:=[aJ 7 1 1,bd 8 1 7,aJ 9 1 3,cy 1 9 8]
def Ny:=[aJ 10 2 1,bd 11 1 10,aJ 12 2 3,cy 1 12 11]
def Nz:=[cm 13 3 3,cy 3 2 13]
def Q9:C:=(sr Nu [1,2] (sr Nv [1,2,3] (sr Nw [1,2,3] (sr Nx [1,2,3] (sr Ny [2,3] (sr Nz [2] .ret))))))
theorem Wo:cz tu Q9 [(.cell 2 true 3)] 14:=dh func8 rfl
def uB:=[fc 2 1 0,ok 4 (vI 0)]
def uC:=[aJ 5 0 2,bd 6 1 5,om 7 1,eo 8 tq 6 7,om 1 8]
def uD:=[om 9 1,om 4 9]
def yg:C:=(sr uB [1,2] (sr uC [1] (sr uD [4] .ret)))
theorem Lm:cz oQ yg [(.tmp 4)] 10:=dh func12 rfl
def AB:=[ok 4 (vI 0)]
def AC:=[ok 5 (vI 0)]
def AD:=[om 6 5,om 7 0,oo 8 (.len false (.t 7)),bM 9 .lss 6 8]
def AE:=[om 12 0,om 13 5,om 14 1,ep 15 18 12 13,aJ 16 0 15,cy 1 16 14]
def AF:=[om 17 1,fv 18 17 1,om 1 18]
def AG:=[om 19 0,om 20 5,om 21 1,di 22 mO 21,ep 23 18 19 20,aJ 24 1 23,cy 1 24 22]
def AH:=[om 25 1,fv 26 25 1,om 1 26]
def AJ:=[om 27 0,om 28 5,om 29 1,ep 30 18 27 28,aJ 31 2 30,cy 1 31 29]
def AK:=[om 32 1,fv 33 32 1,om 1 33]
def AL:=[om 34 0,om 35 5,om 36 1,ep 37 18 34 35,aJ 38 3 37,aJ 39 0 38,aJ 40 0 39,cy 1 40 36]
def wu:=[om 41 1,fv 42 41 1,om 1 42]
def wv:=[om 43 0,om 44 5,om 45 1,ep 46 18 43 44,aJ 47 3 46,aJ 48 0 47,aJ 49 1 48,cy 1 49 45]
def ww:=[om 50 1,fv 51 50 1,om 1 51]
def wx:=[om 52 0,om 53 5,om 54 1,ep 55 18 52 53,aJ 56 3 55,aJ 57 0 56,aJ 58 2 57,cy 1 58 54]
def wy:=[om 59 1,fv 60 59 1,om 1 60]
def wz:=[om 61 0,om 62 5,om 63 1,ep 64 18 61 62,aJ 65 3 64,aJ 66 0 65,aJ 67 3 66,cy 1 67 63]
def wA:=[om 68 1,fv 69 68 1,om 1 69]
def wB:=[om 70 0,om 71 5,om 72 1,ep 73 18 70 71,aJ 74 3 73,aJ 75 4 74,cy 1 75 72]
def wC:=[om 76 1,fv 77 76 1,om 1 77]
def wD:=[om 78 0,om 79 5,om 80 1,ep 81 18 78 79,aJ 82 3 81,aJ 83 5 82,cy 1 83 80]
def wE:=[om 84 1,fv 85 84 1,om 1 85]
def wF:=[om 86 0,om 87 5,om 88 1,ep 89 18 86 87,aJ 90 3 89,aJ 91 6 90,cy 1 91 88]
def wG:=[om 92 1,fv 93 92 1,om 1 93]
def wH:=[om 94 0,om 95 5,om 96 1,ep 97 18 94 95,aJ 98 3 97,aJ 99 7 98,aJ 100 0 99,cy 1 100 96]
def wI:=[om 101 1,fv 102 101 1,om 1 102]
def wJ:=[om 103 0,om 104 5,om 105 1,ep 106 18 103 104,aJ 107 3 106,aJ 108 7 107,aJ 109 1 108,cy 1 109 105]
def wK:=[om 110 1,fv 111 110 1,om 1 111]
def wL:=[om 112 0,om 113 5,om 114 1,ep 115 18 112 113,aJ 116 3 115,aJ 117 7 116,aJ 118 2 117,cy 1 118 114]
def wM:=[om 119 1,fv 120 119 1,om 1 120]
def wN:=[om 121 0,om 122 5,om 123 1,ep 124 18 121 122,aJ 125 3 124,aJ 126 7 125,aJ 127 3 126,cy 1 127 123]
def wO:=[om 128 1,fv 129 128 1,om 1 129]
def wP:=[om 130 0,om 131 5,om 132 1,ep 133 18 130 131,aJ 134 3 133,aJ 135 11 134,aJ 136 0 135,cy 1 136 132]
def wQ:=[om 137 1,fv 138 137 1,om 1 138]
def wR:=[om 139 0,om 140 5,om 141 1,ep 142 18 139 140,aJ 143 3 142,aJ 144 11 143,aJ 145 1 144,cy 1 145 141]
def wS:=[om 146 1,fv 147 146 1,om 1 147]
def wT:=[om 148 0,om 149 5,om 150 1,ep 151 18 148 149,aJ 152 3 151,aJ 153 11 152,aJ 154 2 153,cy 1 154 150]
def wU:=[om 155 1,fv 156 155 1,om 1 156]
def wV:=[om 157 0,om 158 5,om 159 1,ep 160 18 157 158,aJ 161 3 160,aJ 162 11 161,aJ 163 3 162,cy 1 163 159]
def wW:=[om 164 1,fv 165 164 1,om 1 165]
def wX:=[om 10 5,fv 11 10 1,om 5 11]
def u7:C:=(ss (sr AD [0,1,5,9] (sc 9 .skip (.exit 0))) (ss (.block 1 (sr AE [0,1,5] (sr AF [0,1,5] (sr AG [0,1,5] (sr AH [0,1,5] (sr AJ [0,1,5] (sr AK [0,1,5] (sr AL [0,1,5] (sr wu [0,1,5] (sr wv [0,1,5] (sr ww [0,1,5] (sr wx [0,1,5] (sr wy [0,1,5] (sr wz [0,1,5] (sr wA [0,1,5] (sr wB [0,1,5] (sr wC [0,1,5] (sr wD [0,1,5] (sr wE [0,1,5] (sr wF [0,1,5] (sr wG [0,1,5] (sr wH [0,1,5] (sr wI [0,1,5] (sr wJ [0,1,5] (sr wK [0,1,5] (sr wL [0,1,5] (sr wM [0,1,5] (sr wN [0,1,5] (sr wO [0,1,5] (sr wP [0,1,5] (sr wQ [0,1,5] (sr wR [0,1,5] (sr wS [0,1,5] (sr wT [0,1,5] (sr wU [0,1,5] (sr wV [0,1,5] (.reg wW [0,1,5]))))))))))))))))))))))))))))))))))))) (.reg wX [0,1,5])))
def wY:=[om 166 1,om 4 166]
def EA:C:=(sr AB [0,1] (ss (sr AC [0,1,5] (.block 0 (.loop u7))) (sr wY [4] .ret)))
def RF:Nat->List Nat
 | 0=>[0,1]
 | 1=>[0,1,5]
 | 2=>[0,1,5,9]
 | 4=>[0,1,5]
 | 5=>[0,1,5]
 | 6=>[0,1,5]
 | 7=>[0,1,5]
 | 8=>[0,1,5]
 | 9=>[0,1,5]
 | 10=>[0,1,5]
 | 11=>[0,1,5]
 | 12=>[0,1,5]
 | 13=>[0,1,5]
 | 14=>[0,1,5]
 | 15=>[0,1,5]
 | 16=>[0,1,5]
 | 17=>[0,1,5]
 | 18=>[0,1,5]
 | 19=>[0,1,5]
 | 20=>[0,1,5]
 | 21=>[0,1,5]
 | 22=>[0,1,5]
 | 23=>[0,1,5]
 | 24=>[0,1,5]
 | 25=>[0,1,5]
 | 26=>[0,1,5]
 | 27=>[0,1,5]
 | 28=>[0,1,5]
 | 29=>[0,1,5]
 | 30=>[0,1,5]
 | 31=>[0,1,5]
 | 32=>[0,1,5]
 | 33=>[0,1,5]
 | 34=>[0,1,5]
 | 35=>[0,1,5]
 | 36=>[0,1,5]
 | 37=>[0,1,5]
 | 38=>[0,1,5]
 | 39=>[0,1,5]
 | 3=>[0,1,5]
 | 40=>[4]
 | _=>[]
theorem Qb:cz tq EA [(.tmp 4)] 167 :=
 ⟨Tryz.f37,_,RF,func37,rfl,by kernel_rfl,by kernel_rfl,by kernel_rfl,rfl⟩
def U1 (k:Nat):Grant:=⟨((k:Nat):Int),RN (k+1),((k+2:Nat):Int),⟨⟨((k+3:Nat):Int),((k+4:Nat):Int),((k+5:Nat):Int),((k+6:Nat):Int)⟩,((k+7:Nat):Int),((k+8:Nat):Int),((k+9:Nat):Int),⟨((k+10:Nat):Int),((k+11:Nat):Int),((k+12:Nat):Int),((k+13:Nat):Int)⟩,⟨((k+14:Nat):Int),((k+15:Nat):Int),((k+16:Nat):Int),((k+17:Nat):Int)⟩⟩⟩
def gw (k:Nat) (n:Nat):List Grant:=(List.range n).map fun i:Nat=>U1 (k+18 * i)
theorem EW (k n:Nat):(gw k n).length=n:=by simp[gw]
theorem Qn (k:Nat) (n:Nat):gw k (n+1)=gw k n++[U1 (k+18 * n)]:=by simp only[gw,List.range_succ,List.map_append,List.map_cons,List.map_nil]
set_option maxHeartbeats 4000000 in
theorem Vx (l:List Grant) (k:Nat) (hl:l.length<=1048576) (hk:k<=1000000) :
  x4 tq [⟨18,l.map aY⟩] [.sl (gL 0) 0 l.length,I k] (I ((k+18 * l.length:Nat):Int)) [some ⟨18,(gw k l.length).map aY⟩]:=by
 refine ac.of Qb (by simp) rfl (by simp) ?_;simp[EA,AB,AC,u7]
 refine ci (fun i:Nat=>⟨[(0,.sl 1000000 0 l.length),(1,I ((k+18 * i:Nat):Int)),(5,I i)],[(1000000,⟨18,(gw k i++l.drop i).map aY⟩)],[1000000]⟩) (fun i=>l.length - i)
  (fun i=>i<=l.length) 0 (Wk.list rfl (by simp) (by simp[gw])) (by simp) ?_
 intro i hi K hN hR hE;simp[AD];have hml:(List.map aY (gw k i)).length=i:=by rw[List.length_map,EW]
 refine⟨fun hlt=>?_,fun hge=>?_⟩
 ·have hd:(l.map aY).drop i=aY l[i]::(l.map aY).drop (i+1):=by rw[Tt (l:=l.map aY) (by simpa using hlt)];simp
  simp only[hd];simp[AE,AF,hlt,bU hml,bV hml];rw[am (by omega)];simp[AG];refine af (aa.ag (KJ (k+18 * i+1) (by omega))) ?_;simp[AH,hlt,bU hml,bV hml];rw[am (by omega)];simp[AJ,AK,hlt,bU hml,bV hml];rw[am (by omega)];simp[AL,wu,hlt,bU hml,bV hml];rw[am (by omega)];simp[wv,ww,hlt,bU hml,bV hml];rw[am (by omega)];simp[wx,wy,hlt,bU hml,bV hml];rw[am (by omega)];simp[wz,wA,hlt,bU hml,bV hml];rw[am (by omega)];simp[wB,wC,hlt,bU hml,bV hml];rw[am (by omega)];simp[wD,wE,hlt,bU hml,bV hml];rw[am (by omega)];simp[wF,wG,hlt,bU hml,bV hml];rw[am (by omega)];simp[wH,wI,hlt,bU hml,bV hml];rw[am (by omega)];simp[wJ,wK,hlt,bU hml,bV hml];rw[am (by omega)];simp[wL,wM,hlt,bU hml,bV hml];rw[am (by omega)];simp[wN,wO,hlt,bU hml,bV hml];rw[am (by omega)];simp[wP,wQ,hlt,bU hml,bV hml];rw[am (by omega)];simp[wR,wS,hlt,bU hml,bV hml];rw[am (by omega)];simp[wT,wU,hlt,bU hml,bV hml];rw[am (by omega)];simp[wV,wW,hlt,bU hml,bV hml];rw[am (by omega)];simp[wX];rw[am (by omega)];refine hN (i+1) _ (by omega) (by omega) (Wk.list rfl ?_ ?_)
  ·simp;omega
  ·simp[Qn,U1,bV hml];omega
 ·refine hE _ _ ?_;obtain rfl:i=l.length:=by omega
  simp[wY,EW]
theorem Sz (l:aZ) (k:Nat) (hl:l.length<=1048576) (hk:k<=1000000) :
  x4 oQ [⟨18,l.map aY⟩] [.agg [.sl (gL 0) 0 l.length],I k] (I ((k+18 * l.length:Nat):Int)) [some ⟨18,(gw k l.length).map aY⟩]:=by
 refine ac.of Lm (by simp) rfl (by simp) ?_;simp[yg,uB,uC];refine Uj [1000000] (ac.ag (Vx l k hl hk)) ?_;simp[uD]
theorem adi (x:Roll):cJ tu [d6 x] (d6 x):=by
 refine aa.of Wo (by simp) ?_;simp[Q9,Nu,Nv,Nw,Nx,Ny,Nz]
theorem Y3 (l:aZ) (x:Roll):cJ pO [be l,d6 x] (B true):=by
 have hn:=TM l x;have hS:=PP l x;have hI:=O7 l x;generalize vj l x=N at hn hS hI;generalize dd l x=b at hS hI;refine aa.of D7 (by simp) ?_;simp[pJ,nD,nE,nF];refine af (aa.ag (Vy l 1048576 (by omega) (by omega))) ?_;simp[nG];refine⟨fun _=>by simp[nH],fun hge=>?_⟩;have hs:=PN (left:=1048576) (n:=szG l) (by omega);have hl:List.length l<=1048576:=by unfold szG at hs;omega
 have hto:=Vz l hl;have htr:=adi x;simp[nI,iq];refine ft (aa.ag hto) ?_;simp;refine ft (aa.ag htr) ?_;simp;refine ft (aa.ag hS) ?_;simp;refine⟨aO (by simp[iq]) (by simp),?_⟩;simp[nJ];refine bN (aa.ag hto) ?_;simp[nK,ir];refine ft (aa.ag htr) ?_;simp;refine ft (aa.ag hI) ?_;simp;refine⟨aO (by simp[ir]) (by simp),?_⟩;simp[nL];refine af (aa.ag (Hu N N)) ?_;simp[lP,gZ];refine ft (aa.ag hto) ?_;simp;refine bu (aa.at (Vw l l)) ?_;simp;refine⟨aO (by simp[gZ]) (by simp),?_⟩;simp[lQ,lR];refine Uj [30] (ac.ag (Sz l 1 (by omega) (by omega))) ?_;have hk1:¬(1+18 * (List.length l:Int) < 0):=by omega
 simp[lS,hk1];refine af (aa.ag (Hu N N)) ?_;simp;simp[lT,lU];refine Uj [35] (ac.ag (Td N 1 (by omega) (by omega))) ?_;have hk2:¬(1+(N.length:Int) < 0):=by omega
 have hml:=tg 1 N.length;have hheld:=HU 1 N.length (by omega) (by omega);simp[lV,lW,hk2];refine af (aa.arg hheld (by simp[hml,List.take_of_length_le])) ?_;simp[lX,lY,hk2];simp[lZ,g9];refine ft (aa.ag hto) ?_;simp;refine ft (aa.ag htr) ?_;simp;refine ft (aa.ag hI) ?_;simp;refine⟨aO (by simp[g9]) (by simp),?_⟩;simp[l0];refine af (aa.ag (Hu N N)) ?_;simp;simp[l3,l4];refine af (aa.arg hheld (by simp[hml,List.take_of_length_le])) ?_;simp[l5,l6,l7,hk2]
end Go.Proofs.YtjkogbgbienloaaGreatDoor
