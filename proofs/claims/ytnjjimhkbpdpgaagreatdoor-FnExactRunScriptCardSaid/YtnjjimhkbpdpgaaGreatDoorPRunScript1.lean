/- Parts of the proof, part 1. -/
import Derived.Test.YtnjjimhkbpdpgaaGreatDoorProg
import Derived.KernelRfl
import Derived.Lib.ItoaNum
import Derived.Lib.LaidTab
import Derived.Sort.Grow
import Derived.Deep.Draws
import Derived.Below
import Derived.Test.YtnjjimhkbpdpgaaGreatDoorQ7
set_option linter.unusedVariables false
set_option linter.unusedSimpArgs false
namespace Go.Proofs.YtnjjimhkbpdpgaaGreatDoor
def N7:Nat:=7
def xw:Nat:=9
def jH:Nat:=11
def nP:Nat:=13
def pb:Nat:=14
def pU:Nat:=18
def xv:Nat:=19
def kH:Nat:=31
def yt:Nat:=32
def iB:Nat:=33
def vj:Nat:=34
def kG:Nat:=35
def GM:Nat:=36
def PG:Nat:=37
def HD:Nat:=38
def MY:Nat:=53
def pI:Nat:=54
def oh:Nat:=77
def oi:Nat:=78
def og:Nat:=79
def pV:Nat:=80
def uC:Nat:=113
def qw:Nat:=137
def qy:Nat:=138
def qv:Nat:=139
def uD:Nat:=204
def uB:Nat:=205
def qx:Nat:=259
def lX:Nat:=260
def qu:Nat:=261
def lW:Nat:=262
open Abs
end Go.Proofs.YtnjjimhkbpdpgaaGreatDoor
namespace Go.Proofs.YtnjjimhkbpdpgaaGreatDoor
open Go.Abs
set_option maxRecDepth 100000
open Tryz
def Lw:=[eF 2 4 0,ok 4 (vB false)]
def Lx:=[om 16 1,oo 17 (.len true (.t 16)),cn 18 .gtr 17 1048576]
def Ly:=[ok 4 (vB true)]
def Lz:=[ok 5 (vI 1048576)]
def LA:=[bu 19 4 2,om 20 5,dK 21 xw 19 20,om 5 21]
def LB:=[om 22 5,cn 23 .lss 22 0]
def LC:=[ok 4 (vB true)]
def LD:=[bu 25 4 2,cg 26 jH 25,om 27 1,dK 28 xv 26 27,om 24 28,cJ 29 24 0,cJ 30 24 1,om 6 29,om 7 30]
def LF:=[bu 31 4 2,cg 32 jH 31,dD 8 4 (.agg [vN,vS [],vS [],vI 0]),bg 4 8 32]
def LG:=[bu 34 4 8,om 35 1,dK 36 pU 34 35,om 33 36,cJ 37 33 0,cJ 38 33 1,om 9 37,om 10 38]
def IK:=[om 39 9,om 40 6,dK 41 GM 39 40,oo 42 (.un .not (.t 41)),om 43 42,oF 43 44 (.mv (.t 10)),oF 43 45 (.mv (.t 7)),oF 43 46 (.bin .neq .bool (.t 44) (.t 45)),oo 47 (.pick (.t 43) (xB true) (.t 46))]
def ab7:=[ok 4 (vB false)]
def IL:=[bu 48 4 8,bu 49 4 2,cg 50 jH 49,dK 51 nP 48 50,oo 52 (.un .not (.t 51))]
def yz:List (List Nat):=[[],[],[1],[0,1,2],[0,1,2,3]]
def ab8:=[ok 4 (vB false)]
def IM:=[ok 11 (vI 1)]
def IP:=[bu 53 4 8,om 54 11,dK 55 pb 53 54,om 11 55]
def IQ:=[om 56 11,cn 57 .lss 56 0,om 58 57,oF 58 59 (.mv (.t 9)),oF 58 60 (.mv (.t 6)),oF 58 61 (.call GM [.t 59,.t 60]),oF 58 62 (.un .not (.t 61)),oo 63 (.pick (.t 58) (xB true) (.t 62)),om 64 63,oF 64 65 (.mv (.t 10)),oF 64 66 (.mv (.t 7)),oF 64 67 (.bin .neq .bool (.t 65) (.t 66)),oo 68 (.pick (.t 64) (xB true) (.t 67))]
def ab9:=[ok 4 (vB false)]
def IU:=[ok 12 (vI 1)]
def IV:=[om 69 9,om 70 12,dK 71 PG 69 70,om 12 71]
def IW:=[ok 13 (vI 1)]
def IX:=[om 72 9,om 73 13,dK 74 HD 72 73,om 13 74]
def IY:=[om 75 13,cn 76 .lss 75 0]
def aca:=[ok 4 (vB false)]
def IZ:=[om 77 13,om 78 12,cI 79 .neq 77 78]
def acb:=[ok 4 (vB false)]
def I0:=[bu 81 4 2,cg 82 jH 81,om 83 1,dK 84 pU 82 83,om 80 84,cJ 85 80 0,cJ 86 80 1,om 14 85,om 15 86]
def I1:=[om 87 14,om 88 6,dK 89 GM 87 88,oo 90 (.un .not (.t 89)),om 91 90,oF 91 92 (.mv (.t 15)),oF 91 93 (.mv (.t 7)),oF 91 94 (.bin .neq .bool (.t 92) (.t 93)),oo 95 (.pick (.t 91) (xB true) (.t 94))]
def acd:=[ok 4 (vB false)]
def I2:=[ok 13 (vI 1)]
def I3:=[om 96 9,om 97 13,dK 98 HD 96 97,om 13 98]
def I4:=[om 99 13,cn 100 .lss 99 0]
def ace:=[ok 4 (vB false)]
def I5:=[om 101 13,om 102 12,cI 103 .neq 101 102]
def acf:=[ok 4 (vB false)]
def I6:=[ok 4 (vB true)]
def NN:C:=(sr Lw [1,2] (ss (sr Lx [1,2,18] (sc 18 (sr Ly [4] .ret) .skip)) (sr Lz [1,2,5] (sr LA [1,2,5] (ss (sr LB [1,2,23] (sc 23 (sr LC [4] .ret) .skip)) (sr LD [1,2,6,7] (sr LF [1,2,6,7,8] (sr LG [1,2,6,7,8,9,10] (ss (sr IK [1,2,6,7,8,9,10,47] (sc 47 (sr ab7 [4] .ret) .skip)) (ss (ss (.regD IL yz [1,2,6,7,8,9,10,52]) (sc 52 (sr ab8 [4] .ret) .skip)) (sr IM [1,2,6,7,8,9,10,11] (sr IP [1,2,6,7,9,10,11] (ss (sr IQ [1,2,6,7,9,68] (sc 68 (sr ab9 [4] .ret) .skip)) (sr IU [1,2,6,7,9,12] (sr IV [1,2,6,7,9,12] (sr IW [1,2,6,7,9,12,13] (sr IX [1,2,6,7,9,12,13] (ss (sr IY [1,2,6,7,9,12,13,76] (sc 76 (sr aca [4] .ret) .skip)) (ss (sr IZ [1,2,6,7,9,12,79] (sc 79 (sr acb [4] .ret) .skip)) (sr I0 [6,7,9,12,14,15] (ss (sr I1 [9,12,95] (sc 95 (sr acd [4] .ret) .skip)) (sr I2 [9,12,13] (sr I3 [12,13] (ss (sr I4 [12,13,100] (sc 100 (sr ace [4] .ret) .skip)) (ss (sr I5 [103] (sc 103 (sr acf [4] .ret) .skip)) (sr I6 [4] .ret))))))))))))))))))))))))))
theorem ahg:cE N7 NN [(.tmp 4)] 104:=dE func7 rfl
def Bk:=[eF 2 4 0,ok 4 vN,ok 5 (vB false)]
def Bl:=[om 12 1,oo 13 (.call rH [.t 12,(.k (vS [10]))]),om 6 13]
def Bm:=[bu 14 4 2,cg 15 kC 14,oo 16 (.un .not (.t 15)),om 17 16,oF 17 18 (.mv (.t 1)),oF 17 19 (.len true (.t 18)),oF 17 20 (.bin .gtr .none (.t 19) (xI 4000)),oo 21 (.pick (.t 17) (xB true) (.t 20)),om 22 21,oF 22 23 (.mv (.t 6)),oF 22 24 (.len false (.t 23)),oF 22 25 (.bin .gtr .none (.t 24) (xI 30)),oo 26 (.pick (.t 22) (xB true) (.t 25))]
def mK:=[ok 4 vN,ok 5 (vB false)]
def Bn:=[oo 27 (.bslice 1 (vS []) 0 []),om 7 27]
def Bo:=[om 28 6,oo 29 (.len false (.t 28)),ok 30 (vI 0)]
def Bp:=[cI 31 .lss 30 29]
def Bq:=[ft 32 1 28 30,bl 33 1 32,om 9 33]
def Br:=[bu 35 4 2,om 36 9,dK 37 ia 35 36,om 34 37,cJ 38 34 0,cJ 39 34 1,dD 10 4 (.agg [vN,vS [],vS [],vI 0]),bg 4 10 38,om 11 39]
def Bs:=[bu 40 4 10,bg 4 2 40]
def yJ:=[om 41 7,om 42 11,oo 43 (.bslice 1 (vS []) 1 [(0,(.t 42))]),oo 44 (.app 1 16 (.t 41) (.t 43)),om 7 44]
def yK:=[fL 45 30 1,om 30 45]
def yo:C:=(sr Bp [2,7,28,29,30,31] (ss (sc 31 .skip (.exit 0)) (ss (.block 1 (sr Bq [2,7,9,28,29,30] (sr Br [2,7,10,11,28,29,30] (sr Bs [2,7,11,28,29,30] (.reg yJ [2,7,28,29,30]))))) (.reg yK [2,7,28,29,30]))))
def yL:=[om 46 7,om 4 46,ok 5 (vB true)]
def Gn:C:=(sr Bk [1,2] (sr Bl [1,2,6] (ss (sr Bm [2,6,26] (sc 26 (sr mK [4,5] .ret) .skip)) (sr Bn [2,6,7] (ss (sr Bo [2,7,28,29,30] (.block 0 (.loop yo))) (sr yL [4,5] .ret))))))
theorem Tt:cE pU Gn [(.tmp 4),(.tmp 5)] 47:=dE func18 rfl
def BT:=[eF 2 4 0,ok 4 vN,ok 5 (vB false)]
def BU:=[oo 10 (.bslice 1 (vS []) 0 []),om 6 10]
def BV:=[om 11 1,oo 12 (.call o9 [.t 11,(.k (.v (.int .u8 (10))))]),om 7 12]
def BW:=[bu 13 4 2,cg 14 Ez 13,oo 15 (.un .not (.t 14)),om 16 15,oF 16 17 (.mv (.t 1)),oF 16 18 (.len true (.t 17)),oF 16 19 (.bin .gtr .none (.t 18) (xI 4000)),oo 20 (.pick (.t 16) (xB true) (.t 19)),om 21 20,oF 21 22 (.mv (.t 7)),oF 21 23 (.len false (.t 22)),oF 21 24 (.bin .gtr .none (.t 23) (xI 30)),oo 25 (.pick (.t 21) (xB true) (.t 24))]
def mL:=[om 26 6,om 4 26,ok 5 (vB false)]
def BX:=[ok 8 (vS [])]
def BZ:=[ok 9 (vI 0)]
def B0:=[om 27 9,om 28 7,oo 29 (.len false (.t 28)),cI 30 .lss 27 29]
def B1:=[bu 34 4 2,om 35 7,om 36 9,ft 37 1 35 36,bl 38 1 37,dK 39 fT 34 38,om 33 39,cJ 40 33 0,cJ 41 33 1,bg 4 2 40,om 8 41]
def rK:List (List Nat):=[[],[],[],[1,2],[1,2,3],[0,1,2,3,4],[0,1,2,3,4,5],[0,1,2,3,4,5,6],[0,1,2,3,4,5,6],[0,1,2,3,4,5,6,7],[0,1,2,3,4,5,6,7,8,9]]
def B2:=[om 42 6,om 43 8,oo 44 (.bslice 1 (vS []) 1 [(0,(.t 43))]),oo 45 (.app 1 16 (.t 42) (.t 44)),om 6 45]
def yY:=[om 31 9,fL 32 31 1,om 9 32]
def yq:C:=(ss (sr B0 [2,6,7,9,30] (sc 30 .skip (.exit 0))) (ss (.block 1 (ss (.regD B1 rK [2,6,7,8,9]) (.reg B2 [2,6,7,9]))) (.reg yY [2,6,7,9])))
def yZ:=[om 46 6,om 4 46,ok 5 (vB true)]
def Gr:C:=(sr BT [1,2] (sr BU [1,2,6] (sr BV [1,2,6,7] (ss (sr BW [2,6,7,25] (sc 25 (sr mL [4,5] .ret) .skip)) (sr BX [2,6,7] (ss (sr BZ [2,6,7,9] (.block 0 (.loop yq))) (sr yZ [4,5] .ret)))))))
def Zd:Nat->List Nat
 | 0=>[1,2]
 | 1=>[1,2,6]
 | 2=>[1,2,6,7]
 | 3=>[2,6,7,25]
 | 4=>[4,5]
 | 5=>[2,6,7]
 | 6=>[2,6,7,9]
 | 7=>[2,6,7,9,30]
 | 9=>[2,6,7,8,9]
 | 10=>[2,6,7,9]
 | 8=>[2,6,7,9]
 | 11=>[4,5]
 | _=>[]
theorem Tv:cE xv Gr [(.tmp 4),(.tmp 5)] 47 :=
 ⟨Tryz.f19,_,Zd,func19,rfl,by kernel_rfl,by kernel_rfl,by kernel_rfl,rfl⟩
def tB:=[eF 1 4 0,dD 2 4 xR]
def tC:=[dD 3 4 xR]
def tD:=[aL 4 0 1,bl 5 1 4,aL 6 0 3,bg 1 6 5]
def tE:=[aL 7 1 1,bl 8 1 7,aL 9 1 3,bg 1 9 8]
def tF:=[aL 10 2 1,bl 11 1 10,aL 12 2 3,bg 1 12 11]
def tG:=[aL 13 3 1,bl 14 1 13,aL 15 3 3,bg 1 15 14]
def tH:=[bu 16 4 3,bg 4 2 16]
def zJ:C:=(sr tB [1,2] (sr tC [1,2,3] (sr tD [1,2,3] (sr tE [1,2,3] (sr tF [1,2,3] (sr tG [2,3] (sr tH [2] .ret)))))))
theorem Jv:cE qx zJ [(.cell 2 true 4)] 17:=dE func259 rfl
def tP:=[eF 1 4 0,dD 2 4 xR]
def tQ:=[dD 3 4 xR]
def tR:=[aL 4 0 1,bl 5 1 4,aL 6 0 3,bg 1 6 5]
def tS:=[aL 7 1 1,bl 8 1 7,aL 9 1 3,bg 1 9 8]
def tT:=[aL 10 2 1,bl 11 1 10,aL 12 2 3,bg 1 12 11]
def tU:=[aL 13 3 1,bl 14 1 13,aL 15 3 3,bg 1 15 14]
def tV:=[bu 16 4 3,bg 4 2 16]
def zL:C:=(sr tP [1,2] (sr tQ [1,2,3] (sr tR [1,2,3] (sr tS [1,2,3] (sr tT [1,2,3] (sr tU [2,3] (sr tV [2] .ret)))))))
theorem Jx:cE lX zL [(.cell 2 true 4)] 17:=dE func260 rfl
def w6:=[eF 1 15 0,dD 2 15 lm]
def w7:=[dD 3 15 lm]
def w8:=[aL 4 0 1,bu 5 4 4,cg 6 qx 5,aL 7 0 3,bg 4 7 6]
def w9:=[aL 8 4 1,bl 9 1 8,aL 10 4 3,bg 1 10 9]
def xb:=[aL 11 5 1,bl 12 1 11,aL 13 5 3,bg 1 13 12]
def xd:=[aL 14 6 1,bl 15 1 14,aL 16 6 3,bg 1 16 15]
def xe:=[aL 17 7 1,bu 18 4 17,cg 19 lX 18,aL 20 7 3,bg 4 20 19]
def xf:=[aL 21 11 1,bu 22 4 21,cg 23 lX 22,aL 24 11 3,bg 4 24 23]
def xg:=[bu 25 15 3,bg 15 2 25]
def Eo:C:=(sr w6 [1,2] (sr w7 [1,2,3] (sr w8 [1,2,3] (sr w9 [1,2,3] (sr xb [1,2,3] (sr xd [1,2,3] (sr xe [1,2,3] (sr xf [2,3] (sr xg [2] .ret)))))))))
theorem NU:cE uD Eo [(.cell 2 true 15)] 26:=dE func204 rfl
end Go.Proofs.YtnjjimhkbpdpgaaGreatDoor
namespace Go.Abs
variable [gI : GI]
theorem aF5 {P:Program} {f:Nat} {vs:List V} {s:AS} {d:Nat} {K:AS->Prop} {x:Value} (M:List Nat) {H0:List Blk} {H1:List (Option Blk)} (h:ac P f H0 (vs.map (vc M (fy s.hp) 6)) (.v x) H1)
  (h1:M.Nodup) (h2:M.map (fy s.hp)=H0.map some) (h3:∀ blk ∈ H0,bN blk.es=true) (h4:WA H1=true) (h5:K ((s.wrote M H1).put (some d) (.v x))):vw P f vs s d K :=
 .inr <| .inl ⟨M,H0,.v x,H1,h,h1,h2,h3,h4,rfl,rfl,by simp[ix],by rw[aHt];exact h5⟩
end Go.Abs
namespace Go.Abs
variable [GI]
omit [GI] in
theorem nY {α:Type} {i:Nat} {blk:Blk} {f:α->V}:∀ {l:List α},(∀ x,Abs.frz i blk (f x)=f x)->Jy i blk (l.map f)=l.map f
 | [],_=>rfl
 | x::l,h=>by simp[h x,nY (l:=l) h]
end Go.Abs
namespace Go.Abs
section
variable [GI] {P : Program} {f d i : Nat} {args args' vs : List V} {res : V} {x : Value} {s : AS} {K : AS → Prop} {c : CO} {next : It → AS → Prop} {H0 : List Blk} {H1 : List (Option Blk)}
theorem So (M:List Nat) (h:ac P f H0 (vs.map (vc M (fy s.hp) 6)) (.v x) H1) (h5:K ((s.wrote M H1).put (some d) (.v x)))
  (h1:M.Nodup:=by simp) (h2:M.map (fy s.hp)=H0.map some:=by simp) (h3:∀ blk ∈ H0,bN blk.es=true:=by simp) (h4:WA H1=true:=by simp):vw P f vs s d K:=aF5 M h h1 h2 h3 h4 h5
theorem Hv (h:aa P f (vs.map (cz (fy s.hp) 6)) res) (h3:next ⟨c,Ik d res,i,zB c s⟩ (s.took d res)) (h0:fW res=true:=by rfl) (hr:bN vs=true/\cO vs=true:=by simp) (h1:cO vs=true:=by simp)
  (h2:(fu vs).all (fun id=>match fy s.hp id with | some b=>mf b.es | none=>true)=true:=by simp):Dw P f vs s d c i next:=Gw h h0 (.inr hr) h1 h2 h3
end
end Go.Abs
namespace Go.Proofs.YtnjjimhkbpdpgaaGreatDoor
open Go.Abs
open Tryz
theorem Hr {α:Type} (l:List (List α)) (i:Nat):kg (l.take i)<=kg l:=by
 have:kg l=kg (l.take i)+kg (l.drop i):=by rw[<- FF,List.take_append_drop]
 omega
theorem tW {left:Int} {n:Nat} (h:¬rest left n < 0):(n:Int)<=left:=by
 unfold rest at h;split at h<;>omega
theorem acE (f:Field):di qx [jC f] (jC f):=by
 refine aa.of Jv (by simp) ?_;simp[zJ,tB,tC,tD,tE,tF,tG,tH]
theorem Jb (g:Group):di lX [ib g] (ib g):=by
 refine aa.of Jx (by simp) ?_;simp[zL,tP,tQ,tR,tS,tT,tU,tV]
theorem amK (a:Arms):di uD [dj a] (dj a):=by
 refine aa.of NU (by simp) ?_;simp[Eo,w6,w7,w8];refine aZ (aa.ag (acE a.field)) ?_;simp[w9,xb,xd,xe];refine aZ (aa.ag (Jb a.on)) ?_;simp[xf];refine aZ (aa.ag (Jb a.around)) ?_;simp[xg]
set_option maxRecDepth 100000
def sV:=[eF 2 4 0,eF 3 4 1,ok 4 (vB false)]
def ms:=[aL 5 0 2,bl 6 1 5,aL 7 0 3,bl 8 1 7,cI 9 .neq 6 8]
def sW:=[ok 4 (vB false)]
def mu:=[aL 10 1 2,bl 11 1 10,aL 12 1 3,bl 13 1 12,cI 14 .neq 11 13]
def sX:=[ok 4 (vB false)]
def mw:=[aL 15 2 2,bl 16 1 15,aL 17 2 3,bl 18 1 17,cI 19 .neq 16 18]
def sY:=[ok 4 (vB false)]
def my:=[aL 20 3 2,bl 21 1 20,aL 22 3 3,bl 23 1 22,cI 24 .neq 21 23]
def sZ:=[ok 4 (vB false)]
def tc:=[ok 4 (vB true)]
def zF:C:=(sr sV [2,3] (ss (sr ms [2,3,9] (sc 9 (sr sW [4] .ret) .skip)) (ss (sr mu [2,3,14] (sc 14 (sr sX [4] .ret) .skip)) (ss (sr mw [2,3,19] (sc 19 (sr sY [4] .ret) .skip)) (ss (sr my [24] (sc 24 (sr sZ [4] .ret) .skip)) (sr tc [4] .ret))))))
theorem Jq:cE qu zF [(.tmp 4)] 25:=dE func261 rfl
def tl:=[eF 2 4 0,eF 3 4 1,ok 4 (vB false)]
def mC:=[aL 5 0 2,bl 6 1 5,aL 7 0 3,bl 8 1 7,cI 9 .neq 6 8]
def tm:=[ok 4 (vB false)]
def mD:=[aL 10 1 2,bl 11 1 10,aL 12 1 3,bl 13 1 12,cI 14 .neq 11 13]
def tn:=[ok 4 (vB false)]
def mE:=[aL 15 2 2,bl 16 1 15,aL 17 2 3,bl 18 1 17,cI 19 .neq 16 18]
def tp:=[ok 4 (vB false)]
def mF:=[aL 20 3 2,bl 21 1 20,aL 22 3 3,bl 23 1 22,cI 24 .neq 21 23]
def tq:=[ok 4 (vB false)]
def tt:=[ok 4 (vB true)]
def zH:C:=(sr tl [2,3] (ss (sr mC [2,3,9] (sc 9 (sr tm [4] .ret) .skip)) (ss (sr mD [2,3,14] (sc 14 (sr tn [4] .ret) .skip)) (ss (sr mE [2,3,19] (sc 19 (sr tp [4] .ret) .skip)) (ss (sr mF [24] (sc 24 (sr tq [4] .ret) .skip)) (sr tt [4] .ret))))))
theorem Js:cE lW zH [(.tmp 4)] 25:=dE func262 rfl
def wj:=[eF 2 15 0,eF 3 15 1,ok 4 (vB false)]
def wl:=[aL 5 0 2,bu 6 4 5,aL 7 0 3,bu 8 4 7,dK 9 qu 6 8,oo 10 (.un .not (.t 9))]
def wm:=[ok 4 (vB false)]
def oQ:=[aL 11 4 2,bl 12 1 11,aL 13 4 3,bl 14 1 13,cI 15 .neq 12 14]
def wn:=[ok 4 (vB false)]
def oR:=[aL 16 5 2,bl 17 1 16,aL 18 5 3,bl 19 1 18,cI 20 .neq 17 19]
def wo:=[ok 4 (vB false)]
def oU:=[aL 21 6 2,bl 22 1 21,aL 23 6 3,bl 24 1 23,cI 25 .neq 22 24]
def wq:=[ok 4 (vB false)]
def wt:=[aL 26 7 2,bu 27 4 26,aL 28 7 3,bu 29 4 28,dK 30 lW 27 29,oo 31 (.un .not (.t 30))]
def sR:=[ok 4 (vB false)]
def sS:=[aL 32 11 2,bu 33 4 32,aL 34 11 3,bu 35 4 34,dK 36 lW 33 35,oo 37 (.un .not (.t 36))]
def sT:=[ok 4 (vB false)]
def sU:=[ok 4 (vB true)]
def Em:C:=(sr wj [2,3] (ss (sr wl [2,3,10] (sc 10 (sr wm [4] .ret) .skip)) (ss (sr oQ [2,3,15] (sc 15 (sr wn [4] .ret) .skip)) (ss (sr oR [2,3,20] (sc 20 (sr wo [4] .ret) .skip)) (ss (sr oU [2,3,25] (sc 25 (sr wq [4] .ret) .skip)) (ss (sr wt [2,3,31] (sc 31 (sr sR [4] .ret) .skip)) (ss (sr sS [37] (sc 37 (sr sT [4] .ret) .skip)) (sr sU [4] .ret))))))))
theorem NT:cE uB Em [(.tmp 4)] 38:=dE func205 rfl
def td:=[eF 2 18 0,eF 3 18 1,ok 4 (vB false)]
def mz:=[aL 5 0 2,bl 6 1 5,aL 7 0 3,bl 8 1 7,cI 9 .neq 6 8]
def tf:=[ok 4 (vB false)]
def mA:=[aL 10 1 2,bl 11 1 10,aL 12 1 3,bl 13 1 12,cI 14 .neq 11 13]
def tg:=[ok 4 (vB false)]
def mB:=[aL 15 2 2,bl 16 1 15,aL 17 2 3,bl 18 1 17,cI 19 .neq 16 18]
def th:=[ok 4 (vB false)]
def ti:=[aL 20 3 2,bu 21 15 20,aL 22 3 3,bu 23 15 22,dK 24 uB 21 23,oo 25 (.un .not (.t 24))]
def tj:=[ok 4 (vB false)]
def tk:=[ok 4 (vB true)]
def zG:C:=(sr td [2,3] (ss (sr mz [2,3,9] (sc 9 (sr tf [4] .ret) .skip)) (ss (sr mA [2,3,14] (sc 14 (sr tg [4] .ret) .skip)) (ss (sr mB [2,3,19] (sc 19 (sr th [4] .ret) .skip)) (ss (sr ti [25] (sc 25 (sr tj [4] .ret) .skip)) (sr tk [4] .ret))))))
theorem Jr:cE qv zG [(.tmp 4)] 26:=dE func139 rfl
def lg:=[ok 4 (vB false)]
def lh:=[om 6 0,oo 7 (.len false (.t 6)),om 8 1,oo 9 (.len false (.t 8)),cI 10 .neq 7 9]
def lj:=[ok 4 (vB false)]
def qI:=[ok 5 (vI 0)]
def qJ:=[om 11 5,om 12 0,oo 13 (.len false (.t 12)),cI 14 .lss 11 13]
def qK:=[om 17 0,om 18 5,ft 19 18 17 18,bu 20 18 19,om 21 1,om 22 5,ft 23 18 21 22,bu 24 18 23,dK 25 qv 20 24,oo 26 (.un .not (.t 25))]
def qA:List (List Nat):=[[],[],[0,1],[0,1,2],[],[],[4,5],[4,5,6],[0,1,2,3,4,5,6,7],[0,1,2,3,4,5,6,7,8]]
def qL:=[ok 4 (vB false)]
def qM:=[om 15 5,fL 16 15 1,om 5 16]
def ql:C:=(ss (sr qJ [0,1,5,14] (sc 14 .skip (.exit 0))) (ss (.block 1 (ss (.regD qK qA [0,1,5,26]) (sc 26 (sr qL [4] .ret) .skip))) (.reg qM [0,1,5])))
def qN:=[ok 4 (vB true)]
def nU:C:=(sr lg [0,1] (ss (sr lh [0,1,10] (sc 10 (sr lj [4] .ret) .skip)) (ss (sr qI [0,1,5] (.block 0 (.loop ql))) (sr qN [4] .ret))))
def JG:Nat->List Nat
 | 0=>[0,1]
 | 1=>[0,1,10]
 | 2=>[4]
 | 3=>[0,1,5]
 | 4=>[0,1,5,14]
 | 6=>[0,1,5,26]
 | 7=>[4]
 | 5=>[0,1,5]
 | 8=>[4]
 | _=>[]
theorem Gy:cE og nU [(.tmp 4)] 27 :=
 ⟨Tryz.f79,_,JG,func79,rfl,by kernel_rfl,by kernel_rfl,by kernel_rfl,rfl⟩
def nt:=[eF 2 1 0,eF 3 1 1,ok 4 (vB false)]
def nv:=[aL 5 0 2,bl 6 1 5,aL 7 0 3,bl 8 1 7,dK 9 og 6 8,oo 10 (.un .not (.t 9))]
def ny:=[ok 4 (vB false)]
def nz:=[ok 4 (vB true)]
def qe:C:=(sr nt [2,3] (ss (sr nv [10] (sc 10 (sr ny [4] .ret) .skip)) (sr nz [4] .ret)))
theorem A0:cE kG qe [(.tmp 4)] 11:=dE func35 rfl
def tI:=[eF 1 18 0,dD 2 18 zC]
def tJ:=[dD 3 18 zC]
def tK:=[aL 4 0 1,bl 5 1 4,aL 6 0 3,bg 1 6 5]
def tL:=[aL 7 1 1,bl 8 1 7,aL 9 1 3,bg 1 9 8]
def tM:=[aL 10 2 1,bl 11 1 10,aL 12 2 3,bg 1 12 11]
def tN:=[aL 13 3 1,bu 14 15 13,cg 15 uD 14,aL 16 3 3,bg 15 16 15]
def tO:=[bu 17 18 3,bg 18 2 17]
def zK:C:=(sr tI [1,2] (sr tJ [1,2,3] (sr tK [1,2,3] (sr tL [1,2,3] (sr tM [1,2,3] (sr tN [2,3] (sr tO [2] .ret)))))))
theorem Jw:cE qy zK [(.cell 2 true 18)] 18:=dE func138 rfl
def tu:=[eF 2 18 0,ok 4 (vI 0)]
def tv:=[om 5 1,aL 6 1 2,bl 7 1 6,oo 8 (.len true (.t 7)),cI 9 .sub 5 8,om 1 9]
def tw:=[om 10 1,cn 11 .lss 10 0]
def tz:=[ok 4 (vI (-1))]
def tA:=[om 12 1,om 4 12]
def zI:C:=(sr tu [1,2] (sr tv [1] (ss (sr tw [1,11] (sc 11 (sr tz [4] .ret) .skip)) (sr tA [4] .ret))))
theorem Ju:cE qw zI [(.tmp 4)] 13:=dE func137 rfl
def qO:=[ok 4 (vI 0)]
def qP:=[om 6 1,om 7 0,oo 8 (.len false (.t 7)),cI 9 .sub 6 8,om 1 9]
def qQ:=[om 10 1,cn 11 .lss 10 0]
def qR:=[ok 4 (vI (-1))]
def qS:=[ok 5 (vI 0)]
def qT:=[om 12 5,om 13 0,oo 14 (.len false (.t 13)),cI 15 .lss 12 14]
def qU:=[om 18 0,om 19 5,ft 20 18 18 19,bu 21 18 20,om 22 1,dK 23 qw 21 22,om 1 23]
def qV:=[om 24 1,cn 25 .lss 24 0]
def qW:=[ok 4 (vI (-1))]
def qX:=[om 16 5,fL 17 16 1,om 5 17]
def o8:C:=(ss (sr qT [0,1,5,15] (sc 15 .skip (.exit 0))) (ss (.block 1 (sr qU [0,1,5] (sr qV [0,1,5,25] (sc 25 (sr qW [4] .ret) .skip)))) (.reg qX [0,1,5])))
def pr:=[om 26 1,om 4 26]
def vu:C:=(sr qO [0,1] (sr qP [0,1] (ss (sr qQ [0,1,11] (sc 11 (sr qR [4] .ret) .skip)) (ss (sr qS [0,1,5] (.block 0 (.loop o8))) (sr pr [4] .ret)))))
def JH:Nat->List Nat
 | 0=>[0,1]
 | 1=>[0,1]
 | 2=>[0,1,11]
 | 3=>[4]
 | 4=>[0,1,5]
 | 5=>[0,1,5,15]
 | 7=>[0,1,5]
 | 8=>[0,1,5,25]
 | 9=>[4]
 | 6=>[0,1,5]
 | 10=>[4]
 | _=>[]
theorem Gz:cE oh vu [(.tmp 4)] 27 :=
 ⟨Tryz.f77,_,JH,func77,rfl,by kernel_rfl,by kernel_rfl,by kernel_rfl,rfl⟩
def nA:=[eF 2 1 0,ok 4 (vI 0)]
def nB:=[aL 5 0 2,bl 6 1 5,om 7 1,dK 8 oh 6 7,om 1 8]
def nC:=[om 9 1,cn 10 .lss 9 0]
def nD:=[ok 4 (vI (-1))]
def nE:=[om 11 1,om 4 11]
def qf:C:=(sr nA [1,2] (sr nB [1] (ss (sr nC [1,10] (sc 10 (sr nD [4] .ret) .skip)) (sr nE [4] .ret))))
theorem A1:cE kH qf [(.tmp 4)] 12:=dE func31 rfl
def qY:=[ok 2 vN]
def qZ:=[om 5 0,oo 6 (.len false (.t 5)),oo 7 (.mks 18 zC 152 (.t 6) (.t 6)),om 3 7]
def q0:=[ok 4 (vI 0)]
def q7:=[om 8 4,om 9 0,oo 10 (.len false (.t 9)),cI 11 .lss 8 10]
def q8:=[om 14 3,om 15 4,om 16 0,om 17 4,ft 18 18 16 17,bu 19 18 18,cg 20 qy 19,ft 21 18 14 15,bg 18 21 20]
def q9:=[om 12 4,fL 13 12 1,om 4 13]
def qm:C:=(ss (sr q7 [0,3,4,11] (sc 11 .skip (.exit 0))) (ss (.block 1 (.reg q8 [0,3,4])) (.reg q9 [0,3,4])))
def ra:=[om 22 3,om 2 22]
def vv:C:=(sr qY [0] (sr qZ [0,3] (ss (sr q0 [0,3,4] (.block 0 (.loop qm))) (sr ra [2] .ret))))
def JI:Nat->List Nat
 | 0=>[0]
 | 1=>[0,3]
 | 2=>[0,3,4]
 | 3=>[0,3,4,11]
 | 5=>[0,3,4]
 | 4=>[0,3,4]
 | 6=>[2]
 | _=>[]
theorem GA:cE oi vv [(.tmp 2)] 23 :=
 ⟨Tryz.f78,_,JI,func78,rfl,by kernel_rfl,by kernel_rfl,by kernel_rfl,rfl⟩
def nF:=[eF 1 1 0,dD 2 1 (.agg [vN])]
def nG:=[dD 3 1 (.agg [vN])]
def nH:=[aL 4 0 1,bl 5 1 4,cg 6 oi 5,aL 7 0 3,bg 1 7 6]
def nI:=[bu 8 1 3,bg 1 2 8]
def qg:C:=(sr nF [1,2] (sr nG [1,2,3] (sr nH [2,3] (sr nI [2] .ret))))
theorem A2:cE iB qg [(.cell 2 true 1)] 9:=dE func33 rfl
theorem acB (p q:Field):di qu [jC p,jC q] (B (decide (p=q))):=by
 refine aa.of Jq (by simp) ?_;simp[zF,sV];by_cases h0:p.division=q.division;rotate_left
 ·simp[ms,sW,h0,Field.eq_iff]
 simp[ms,h0];by_cases h1:p.line=q.line;rotate_left
 ·simp[mu,sX,h1,h0,Field.eq_iff]
 simp[mu,h1];by_cases h2:p.first=q.first
 rotate_left
 ·simp[mw,sY,h2,h0,h1,Field.eq_iff]
 simp[mw,h2];by_cases h3:p.second=q.second;rotate_left
 ·simp[my,sZ,h3,h0,h1,h2,Field.eq_iff]
 simp[my,h3];simp[tc,Field.eq_iff,h0,h1,h2,h3]
theorem Ja (p q:Group):di lW [ib p,ib q] (B (decide (p=q))):=by
 refine aa.of Js (by simp) ?_;simp[zH,tl];by_cases h0:p.count=q.count;rotate_left
 ·simp[mC,tm,h0,Group.eq_iff]
 simp[mC,h0];by_cases h1:p.kind=q.kind;rotate_left
 ·simp[mD,tn,h1,h0,Group.eq_iff]
 simp[mD,h1];by_cases h2:p.attitude=q.attitude;rotate_left
 ·simp[mE,tp,h2,h0,h1,Group.eq_iff]
 simp[mE,h2];by_cases h3:p.tincture=q.tincture;rotate_left
 ·simp[mF,tq,h3,h0,h1,h2,Group.eq_iff]
 simp[mF,h3];simp[tt,Group.eq_iff,h0,h1,h2,h3]
theorem amG (p q:Arms):di uB [dj p,dj q] (B (decide (p=q))):=by
 refine aa.of NT (by simp) ?_;simp[Em,wj];simp[wl];refine al (aa.ag (acB p.field q.field)) ?_;by_cases h0:p.field=q.field;rotate_left
 ·simp[wm,h0,Arms.eq_iff]
 simp[h0];by_cases h1:p.ordinary=q.ordinary;rotate_left
 ·simp[oQ,wn,h1,h0,Arms.eq_iff]
 simp[oQ,h1];by_cases h2:p.line=q.line;rotate_left
 ·simp[oR,wo,h2,h0,h1,Arms.eq_iff]
 simp[oR,h2];by_cases h3:p.tincture=q.tincture;rotate_left
 ·simp[oU,wq,h3,h0,h1,h2,Arms.eq_iff]
 simp[oU,h3];simp[wt];refine al (aa.ag (Ja p.on q.on)) ?_;by_cases h4:p.on=q.on;rotate_left
 ·simp[sR,h4,h0,h1,h2,h3,Arms.eq_iff]
 simp[h4];simp[sS];refine al (aa.ag (Ja p.around q.around)) ?_;by_cases h5:p.around=q.around;rotate_left
 ·simp[sT,h5,h0,h1,h2,h3,h4,Arms.eq_iff]
 simp[h5];simp[sU,Arms.eq_iff,h0,h1,h2,h3,h4,h5]
theorem acC (p q:Grant):di qv [bd p,bd q] (B (decide (p=q))):=by
 refine aa.of Jr (by simp) ?_;simp[zG,td];by_cases h0:p.number=q.number;rotate_left
 ·simp[mz,tf,h0,Grant.eq_iff]
 simp[mz,h0];by_cases h1:p.name=q.name;rotate_left
 ·simp[mA,tg,h1,h0,Grant.eq_iff]
 simp[mA,h1];by_cases h2:p.year=q.year;rotate_left
 ·simp[mB,th,h2,h0,h1,Grant.eq_iff]
 simp[mB,h2];simp[ti];refine al (aa.ag (amG p.arms q.arms)) ?_;by_cases h3:p.arms=q.arms;rotate_left
 ·simp[tj,h3,h0,h1,h2,Grant.eq_iff]
 simp[h3];simp[tk,Grant.eq_iff,h0,h1,h2,h3]
theorem Vx (a b:List Grant):di og [.ro 18 (a.map bd),.ro 18 (b.map bd)] (B (decide (a=b))):=by
 refine aa.ofL Gy (by simp) fun hl=>?_;simp at hl;by_cases hl:a.length=b.length
 ·simp[nU,lg,lh,lj,qI,qN,hl];refine dl (fun i:Nat=>⟨[(0,.ro 18 (a.map bd)),(1,.ro 18 (b.map bd)),(5,I i)],[],[]⟩) (fun i=>a.length - i) (fun i=>i<=a.length/\a.take i=b.take i) 0 Wk.li (by simp) ?_;rintro i ⟨hi,hj⟩ K hN hR hE;simp[ql,qJ];refine⟨fun hlt=>?_,fun hge=>?_⟩
  ·have hlb:i < b.length:=by omega
   simp[qK,qA,hlt,hlb];refine iV (acC a[i] b[i]) ?_ ?_ ?_
   ·simp
   ·simp
   simp;refine⟨a7 (by first | kernel_rfl | simp) (by first | kernel_rfl | simp),fun hne=>?_,fun he=>?_⟩
   ·simp[qL];refine hR _ ?_;simp;rintro rfl;exact hne rfl
   ·simp[qM];rw[aD (by omega)];refine hN (i+1) _ (by omega) ⟨by omega,?_⟩ Wk.li;rw[dP hlt,dP hlb,hj,he]
  ·refine hE _ _ ?_;rw[List.take_of_length_le (by omega),List.take_of_length_le (by omega)] at hj;simp[hj]
 ·simp[nU,lg,lh,lj,hl];refine⟨fun _ e=>hl (by rw[e]),fun e=>absurd (by omega) hl⟩
theorem LS (a b:aT):di kG [bn a,bn b] (B (decide (a=b))):=by
 refine aa.of A0 (by simp) ?_;simp[qe,nt,nv];refine al (aa.ag (Vx a b)) ?_;by_cases h:a=b
 ·simp[nz,h]
 ·simp[ny,h]
theorem acF (g:Grant):di qy [bd g] (bd g):=by
 refine aa.of Jw (by simp) ?_;simp[zK,tI,tJ,tK,tL,tM,tN];refine aZ (aa.ag (amK g.arms)) ?_;simp[tO]
theorem acD (g:Grant) (left:Int) (h0:0<=left) (h1:left<=1048576):di qw [bd g,I left] (I (rest left g.name.length)):=by
 refine aa.ofL Ju (by simp) fun hl=>?_;simp[TQ,aBe] at hl;simp[zI,tu,tv];rw[aD (by omega)];simp[tw,tz,tA,rest];constructor<;>intros<;>omega
def szG (l:List Grant):Nat:=l.length+kg (l.map Grant.name)
theorem Vz (l:List Grant) (left:Int) (h0:0<=left) (h1:left<=1048576):di oh [.ro 18 (l.map bd),I left] (I (rest left (szG l))):=by
 refine aa.ofL Gz (by simp) fun hl=>?_;simp at hl;simp[qO,qP,vu];rw[aD (by omega)];simp[qQ];refine⟨fun hneg=>?_,fun hge=>?_⟩
 ·simp[qR,rest,szG];omega
 simp[qS,pr];refine GJ (fun i:Nat=>⟨[(0,.ro 18 (l.map bd)),(1,I (left - l.length - kg ((l.map Grant.name).take i))),(5,I i)],[],[]⟩) (fun i=>l.length - i) (fun i=>i<=l.length/\l.length+kg ((l.map Grant.name).take i)<=left) 0 Wk.li ⟨by simp,by simp;omega⟩ ?_;rintro i ⟨hi,hb⟩;simp[o8,qT];refine⟨fun hlt=>?_,fun hge=>?_⟩
 ·simp[qU,hlt];refine al (acD l[i] (left - l.length - kg ((l.map Grant.name).take i)) (by omega) (by omega)) ?_;have e:kg ((l.map Grant.name).take (i+1))=kg ((l.map Grant.name).take i)+l[i].name.length:=by rw[dP (by simpa using hlt),FF,asK,ayY];simp
  have hle:kg ((l.map Grant.name).take (i+1))<=kg (l.map Grant.name):=Hr _ _;simp[qV];refine⟨fun hneg=>?_,fun hpos=>?_⟩
  ·simp[qW];unfold rest at hneg ⊢;unfold szG;split at hneg<;>split<;>omega
  ·simp[qX];have:=tW (by omega:¬rest (left - l.length - kg ((l.map Grant.name).take i)) l[i].name.length < 0);rw[aD (by omega)];refine FD (i+1) (by omega) ⟨by omega,by omega⟩ (Wk.list rfl ?_ (by simp));simp only[rest,e];rw[if_neg (by omega)];simp;omega
 ·obtain rfl:i=l.length:=by omega
  rw[List.take_of_length_le (by simp)] at hb ⊢;unfold rest szG;rw[if_neg (by omega)];omega
theorem LU (l:aT) (left:Int) (h0:0<=left) (h1:left<=1048576):di kH [bn l,I left] (I (rest left (szG l))):=by
 refine aa.of A1 (by simp) ?_;simp[qf,nA,nB];refine al (aa.ag (Vz l left h0 h1)) ?_;simp[nC,nD,nE];intro h;unfold rest at h ⊢;split at h
 ·rename_i h';rw[if_pos h']
 ·rename_i h';rw[if_neg h'];omega
theorem VA (l:List Grant) (hl:l.length<=1048576):di oi [.ro 18 (l.map bd)] (.own 18 (l.map bd)):=by
 refine aa.of GA (by simp) ?_;simp[vv,qY,qZ,q0,bR];refine⟨by omega,?_⟩;simp[ra];refine dl (fun i:Nat=>⟨[(0,.ro 18 (l.map bd)),(3,.sl 7 0 l.length),(4,I i)],[(7,⟨18,(l.map bd).take i++List.replicate (l.length - i) (.agg [I 0,S [],I 0,I 0,I 0,I 0,I 0,I 0,I 0,I 0,I 0,I 0,I 0,I 0,I 0,I 0,I 0,I 0])⟩)],[]⟩) (fun i=>l.length - i) (fun i=>i<=l.length) 0 Wk.li (by simp) ?_;intro i hi K hN hR hE;have hlen:((l.map bd).take i).length=i:=by simp;omega
 simp[qm,q7];refine⟨fun hlt=>?_,fun hge=>?_⟩
 ·simp[q8,hlt];refine bB (acF l[i]) rfl (.inl (by simp)) (by simp) ?_;simp[vD hlen hlt,hlt];simp[q9];rw[aD (by omega)];refine hN (i+1) _ (by omega) (by omega) (Wk.list rfl (by simp) ?_);simp[rV hlen hlt,dP,hlt]
 ·refine hE _ _ ?_;obtain rfl:i=l.length:=by omega
  simp
theorem AQ (l:aT) (hl:l.length<=1048576):di iB [bn l] (ly l):=by
 refine aa.of A2 (by simp) ?_;simp[qg,nF,nG,nH];refine aZ (aa.ag (VA l hl)) ?_;simp[nI]
def CH:=[eF 1 4 0,dD 2 4 (.agg [vN,vS [],vS [],vI 0])]
def CI:=[dD 3 4 (.agg [vN,vS [],vS [],vI 0])]
def CJ:=[aL 4 0 1,bu 5 1 4,cg 6 iB 5,aL 7 0 3,bg 1 7 6]
def CL:=[aL 8 1 1,bu 9 3 8,cg 10 vj 9,aL 11 1 3,bg 3 11 10]
def CM:=[bu 12 4 3,bg 4 2 12]
def Gu:C:=(sr CH [1,2] (sr CI [1,2,3] (sr CJ [1,2,3] (sr CL [2,3] (sr CM [2] .ret)))))
theorem TB:cE jH Gu [(.cell 2 true 4)] 13:=dE func11 rfl
def Cz:=[eF 2 4 0,ok 4 (vI 0)]
def CA:=[aL 5 0 2,bu 6 1 5,om 7 1,dK 8 kH 6 7,om 1 8]
def CB:=[om 9 1,cn 10 .lss 9 0]
def CC:=[ok 4 (vI (-1))]
def CD:=[aL 11 1 2,bu 12 3 11,om 13 1,dK 14 yt 12 13,om 1 14]
def CE:=[om 15 1,cn 16 .lss 15 0]
def CF:=[ok 4 (vI (-1))]
def CG:=[om 17 1,om 4 17]
def Gt:C:=(sr Cz [1,2] (sr CA [1,2] (ss (sr CB [1,2,10] (sc 10 (sr CC [4] .ret) .skip)) (sr CD [1] (ss (sr CE [1,16] (sc 16 (sr CF [4] .ret) .skip)) (sr CG [4] .ret))))))
theorem Tz:cE xw Gt [(.tmp 4)] 18:=dE func9 rfl
def Cv:=[eF 2 4 0,eF 3 4 1,ok 4 (vB false)]
def Cw:=[aL 5 0 2,bu 6 1 5,aL 7 0 3,bu 8 1 7,dK 9 kG 6 8,oo 10 (.un .not (.t 9))]
def P7:=[ok 4 (vB false)]
def Cx:=[aL 11 1 2,bu 12 3 11,aL 13 1 3,bu 14 3 13,dK 15 MY 12 14,oo 16 (.un .not (.t 15))]
def P8:=[ok 4 (vB false)]
def Cy:=[ok 4 (vB true)]
def Gs:C:=(sr Cv [2,3] (ss (sr Cw [2,3,10] (sc 10 (sr P7 [4] .ret) .skip)) (ss (sr Cx [16] (sc 16 (sr P8 [4] .ret) .skip)) (sr Cy [4] .ret))))
theorem Ty:cE nP Gs [(.tmp 4)] 17:=dE func13 rfl
def uN:=[eF 2 1 0,ok 4 (vI 0)]
def uO:=[aL 5 0 2,bl 6 1 5,om 7 1,dK 8 uC 6 7,om 1 8]
def uP:=[om 9 1,om 4 9]
def yb:C:=(sr uN [1,2] (sr uO [1] (sr uP [4] .ret)))
theorem Jt:cE pI yb [(.tmp 4)] 10:=dE func54 rfl
def wu:=[eF 2 4 0,ok 4 (vI 0)]
def wv:=[aL 5 0 2,bu 6 1 5,om 7 1,dK 8 pI 6 7,om 1 8]
def ww:=[om 9 1,om 4 9]
def AX:C:=(sr wu [1,2] (sr wv [1] (sr ww [4] .ret)))
theorem MK:cE pb AX [(.tmp 4)] 10:=dE func14 rfl
def zl:=[ok 4 (vI 0)]
def zm:=[ok 5 (vI 0)]
def zn:=[om 6 5,om 7 0,oo 8 (.len false (.t 7)),cI 9 .lss 6 8]
def zo:=[om 12 0,om 13 5,om 14 1,ft 15 18 12 13,aL 16 0 15,bg 1 16 14]
def zp:=[om 17 1,fL 18 17 1,om 1 18]
def zq:=[om 19 0,om 20 5,om 21 1,cg 22 pV 21,ft 23 18 19 20,aL 24 1 23,bg 1 24 22]
def zr:=[om 25 1,fL 26 25 1,om 1 26]
def zt:=[om 27 0,om 28 5,om 29 1,ft 30 18 27 28,aL 31 2 30,bg 1 31 29]
def zu:=[om 32 1,fL 33 32 1,om 1 33]
def zv:=[om 34 0,om 35 5,om 36 1,ft 37 18 34 35,aL 38 3 37,aL 39 0 38,aL 40 0 39,bg 1 40 36]
def wx:=[om 41 1,fL 42 41 1,om 1 42]
def wy:=[om 43 0,om 44 5,om 45 1,ft 46 18 43 44,aL 47 3 46,aL 48 0 47,aL 49 1 48,bg 1 49 45]
def wz:=[om 50 1,fL 51 50 1,om 1 51]
def wA:=[om 52 0,om 53 5,om 54 1,ft 55 18 52 53,aL 56 3 55,aL 57 0 56,aL 58 2 57,bg 1 58 54]
def wB:=[om 59 1,fL 60 59 1,om 1 60]
def wC:=[om 61 0,om 62 5,om 63 1,ft 64 18 61 62,aL 65 3 64,aL 66 0 65,aL 67 3 66,bg 1 67 63]
def wD:=[om 68 1,fL 69 68 1,om 1 69]
def wE:=[om 70 0,om 71 5,om 72 1,ft 73 18 70 71,aL 74 3 73,aL 75 4 74,bg 1 75 72]
def wF:=[om 76 1,fL 77 76 1,om 1 77]
def wG:=[om 78 0,om 79 5,om 80 1,ft 81 18 78 79,aL 82 3 81,aL 83 5 82,bg 1 83 80]
def wH:=[om 84 1,fL 85 84 1,om 1 85]
def wI:=[om 86 0,om 87 5,om 88 1,ft 89 18 86 87,aL 90 3 89,aL 91 6 90,bg 1 91 88]
def wJ:=[om 92 1,fL 93 92 1,om 1 93]
def wK:=[om 94 0,om 95 5,om 96 1,ft 97 18 94 95,aL 98 3 97,aL 99 7 98,aL 100 0 99,bg 1 100 96]
def wL:=[om 101 1,fL 102 101 1,om 1 102]
def wM:=[om 103 0,om 104 5,om 105 1,ft 106 18 103 104,aL 107 3 106,aL 108 7 107,aL 109 1 108,bg 1 109 105]
def wN:=[om 110 1,fL 111 110 1,om 1 111]
def wO:=[om 112 0,om 113 5,om 114 1,ft 115 18 112 113,aL 116 3 115,aL 117 7 116,aL 118 2 117,bg 1 118 114]
def wP:=[om 119 1,fL 120 119 1,om 1 120]
def wQ:=[om 121 0,om 122 5,om 123 1,ft 124 18 121 122,aL 125 3 124,aL 126 7 125,aL 127 3 126,bg 1 127 123]
def wR:=[om 128 1,fL 129 128 1,om 1 129]
def wS:=[om 130 0,om 131 5,om 132 1,ft 133 18 130 131,aL 134 3 133,aL 135 11 134,aL 136 0 135,bg 1 136 132]
def wT:=[om 137 1,fL 138 137 1,om 1 138]
def wU:=[om 139 0,om 140 5,om 141 1,ft 142 18 139 140,aL 143 3 142,aL 144 11 143,aL 145 1 144,bg 1 145 141]
def wV:=[om 146 1,fL 147 146 1,om 1 147]
def wW:=[om 148 0,om 149 5,om 150 1,ft 151 18 148 149,aL 152 3 151,aL 153 11 152,aL 154 2 153,bg 1 154 150]
def wX:=[om 155 1,fL 156 155 1,om 1 156]
def wY:=[om 157 0,om 158 5,om 159 1,ft 160 18 157 158,aL 161 3 160,aL 162 11 161,aL 163 3 162,bg 1 163 159]
def wZ:=[om 164 1,fL 165 164 1,om 1 165]
def w4:=[om 10 5,fL 11 10 1,om 5 11]
def vJ:C:=(ss (sr zn [0,1,5,9] (sc 9 .skip (.exit 0))) (ss (.block 1 (sr zo [0,1,5] (sr zp [0,1,5] (sr zq [0,1,5] (sr zr [0,1,5] (sr zt [0,1,5] (sr zu [0,1,5] (sr zv [0,1,5] (sr wx [0,1,5] (sr wy [0,1,5] (sr wz [0,1,5] (sr wA [0,1,5] (sr wB [0,1,5] (sr wC [0,1,5] (sr wD [0,1,5] (sr wE [0,1,5] (sr wF [0,1,5] (sr wG [0,1,5] (sr wH [0,1,5] (sr wI [0,1,5] (sr wJ [0,1,5] (sr wK [0,1,5] (sr wL [0,1,5] (sr wM [0,1,5] (sr wN [0,1,5] (sr wO [0,1,5] (sr wP [0,1,5] (sr wQ [0,1,5] (sr wR [0,1,5] (sr wS [0,1,5] (sr wT [0,1,5] (sr wU [0,1,5] (sr wV [0,1,5] (sr wW [0,1,5] (sr wX [0,1,5] (sr wY [0,1,5] (.reg wZ [0,1,5]))))))))))))))))))))))))))))))))))))) (.reg w4 [0,1,5])))
def w5:=[om 166 1,om 4 166]
def En:C:=(sr zl [0,1] (ss (sr zm [0,1,5] (.block 0 (.loop vJ))) (sr w5 [4] .ret)))
def TK:Nat->List Nat
 | 0=>[0,1]
 | 1=>[0,1,5]
 | 2=>[0,1,5,9]
 | 4=>[0,1,5]
 | 5=>[0,1,5]
 | 6=>[0,1,5]
 | 7=>[0,1,5]
 | 8=>[0,1,5]
 | 9=>[0,1,5]
 | 10=>[0,1,5]
 | 11=>[0,1,5]
 | 12=>[0,1,5]
 | 13=>[0,1,5]
 | 14=>[0,1,5]
 | 15=>[0,1,5]
 | 16=>[0,1,5]
 | 17=>[0,1,5]
 | 18=>[0,1,5]
 | 19=>[0,1,5]
 | 20=>[0,1,5]
 | 21=>[0,1,5]
 | 22=>[0,1,5]
 | 23=>[0,1,5]
 | 24=>[0,1,5]
 | 25=>[0,1,5]
 | 26=>[0,1,5]
 | 27=>[0,1,5]
 | 28=>[0,1,5]
 | 29=>[0,1,5]
 | 30=>[0,1,5]
 | 31=>[0,1,5]
 | 32=>[0,1,5]
 | 33=>[0,1,5]
 | 34=>[0,1,5]
 | 35=>[0,1,5]
 | 36=>[0,1,5]
 | 37=>[0,1,5]
 | 38=>[0,1,5]
 | 39=>[0,1,5]
 | 3=>[0,1,5]
 | 40=>[4]
 | _=>[]
theorem Ps:cE uC En [(.tmp 4)] 167 :=
 ⟨Tryz.f113,_,TK,func113,rfl,by kernel_rfl,by kernel_rfl,by kernel_rfl,rfl⟩
def E3:=[ok 2 (vS [])]
def E4:=[om 4 0,cn 5 .leq 4 0]
def E5:=[ok 2 (vS [109,48])]
def E6:=[ok 3 (vS [])]
def E7:=[om 6 0,cn 7 .gtr 6 0]
def E8:=[om 8 0,cn 9 .rem 8 10,oo 10 (.bin .add .none (xI 48) (.t 9)),oo 11 (.conv (.int .u8) (.t 10)),oo 12 (.bslice 1 (.v (.int .u8 (0))) 1 [(0,(.t 11))]),oo 13 (.conv .bytesStr (.t 12)),om 14 3,cI 15 .add 13 14,om 3 15]
def E9:=[om 16 0,cn 17 .quo 16 10,om 0 17]
def Ew:C:=(ss (sr E7 [0,3,7] (sc 7 .skip (.exit 0))) (.block 1 (sr E8 [0,3] (.reg E9 [0,3]))))
def Fa:=[om 18 3,oo 19 (.bin .add .none (.k (vS [109])) (.t 18)),om 2 19]
def Jj:C:=(sr E3 [0] (ss (sr E4 [0,5] (sc 5 (sr E5 [2] .ret) .skip)) (sr E6 [0,3] (ss (.block 0 (.loop Ew)) (sr Fa [2] .ret)))))
theorem Y6:cE pV Jj [(.tmp 2)] 20:=dE func80 rfl
def P9:=[ok 4 (vB false)]
def Qa:=[om 6 0,oo 7 (.len false (.t 6)),om 8 1,oo 9 (.len false (.t 8)),cI 10 .neq 7 9]
def Qb:=[ok 4 (vB false)]
def agW:=[ok 5 (vI 0)]
def agX:=[om 11 5,om 12 0,oo 13 (.len false (.t 12)),cI 14 .lss 11 13]
def agY:=[om 17 0,om 18 5,ft 19 1 17 18,bl 20 1 19,om 21 1,om 22 5,ft 23 1 21 22,bl 24 1 23,cI 25 .neq 20 24]
def aeW:List (List Nat):=[[],[],[0,1],[0,1,2],[],[],[4,5],[4,5,6],[0,1,2,3,4,5,6,7]]
def agZ:=[ok 4 (vB false)]
def ag0:=[om 15 5,fL 16 15 1,om 5 16]
def aeP:C:=(ss (sr agX [0,1,5,14] (sc 14 .skip (.exit 0))) (ss (.block 1 (ss (.regD agY aeW [0,1,5,25]) (sc 25 (sr agZ [4] .ret) .skip))) (.reg ag0 [0,1,5])))
def Qc:=[ok 4 (vB true)]
def YY:C:=(sr P9 [0,1] (ss (sr Qa [0,1,10] (sc 10 (sr Qb [4] .ret) .skip)) (ss (sr agW [0,1,5] (.block 0 (.loop aeP))) (sr Qc [4] .ret))))
def aEM:Nat->List Nat
 | 0=>[0,1]
 | 1=>[0,1,10]
 | 2=>[4]
 | 3=>[0,1,5]
 | 4=>[0,1,5,14]
 | 6=>[0,1,5,25]
 | 7=>[4]
 | 5=>[0,1,5]
 | 8=>[4]
 | _=>[]
theorem aCQ:cE GM YY [(.tmp 4)] 26 :=
 ⟨Tryz.f36,_,aEM,func36,rfl,by kernel_rfl,by kernel_rfl,by kernel_rfl,rfl⟩
def YI:=[ok 4 (vI 0)]
def YJ:=[ok 5 (vI 0)]
def YK:=[om 6 5,om 7 0,oo 8 (.len false (.t 7)),cI 9 .lss 6 8]
def YL:=[om 12 0,om 13 5,om 14 1,cg 15 pV 14,ft 16 1 12 13,bg 1 16 15]
def YM:=[om 17 1,fL 18 17 1,om 1 18]
def YN:=[om 10 5,fL 11 10 1,om 5 11]
def Wn:C:=(ss (sr YK [0,1,5,9] (sc 9 .skip (.exit 0))) (ss (.block 1 (sr YL [0,1,5] (.reg YM [0,1,5]))) (.reg YN [0,1,5])))
def YO:=[om 19 1,om 4 19]
def aeC:C:=(sr YI [0,1] (ss (sr YJ [0,1,5] (.block 0 (.loop Wn))) (sr YO [4] .ret)))
def aBc:Nat->List Nat
 | 0=>[0,1]
 | 1=>[0,1,5]
 | 2=>[0,1,5,9]
 | 4=>[0,1,5]
 | 5=>[0,1,5]
 | 3=>[0,1,5]
 | 6=>[4]
 | _=>[]
theorem ayb:cE PG aeC [(.tmp 4)] 20 :=
 ⟨Tryz.f37,_,aBc,func37,rfl,by kernel_rfl,by kernel_rfl,by kernel_rfl,rfl⟩
def YB:=[ok 4 (vI 0)]
def YC:=[ok 5 (vI 0)]
def YD:=[om 6 5,om 7 0,oo 8 (.len false (.t 7)),cI 9 .lss 6 8]
def YE:=[om 12 0,om 13 5,ft 14 1 12 13,bl 15 1 14,om 16 1,cg 17 pV 16,cI 18 .neq 15 17]
def WB:List (List Nat):=[[],[],[0,1],[0,1,2],[],[4],[0,1,2,3,4,5]]
def axf:=[ok 4 (vI (-1))]
def YF:=[om 19 1,fL 20 19 1,om 1 20]
def YG:=[om 10 5,fL 11 10 1,om 5 11]
def Wm:C:=(ss (sr YD [0,1,5,9] (sc 9 .skip (.exit 0))) (ss (.block 1 (ss (ss (.regD YE WB [0,1,5,18]) (sc 18 (sr axf [4] .ret) .skip)) (.reg YF [0,1,5]))) (.reg YG [0,1,5])))
def YH:=[om 21 1,om 4 21]
def aeB:C:=(sr YB [0,1] (ss (sr YC [0,1,5] (.block 0 (.loop Wm))) (sr YH [4] .ret)))
def aBb:Nat->List Nat
 | 0=>[0,1]
 | 1=>[0,1,5]
 | 2=>[0,1,5,9]
 | 4=>[0,1,5,18]
 | 5=>[4]
 | 6=>[0,1,5]
 | 3=>[0,1,5]
 | 7=>[4]
 | _=>[]
theorem aya:cE HD aeB [(.tmp 4)] 22 :=
 ⟨Tryz.f38,_,aBb,func38,rfl,by kernel_rfl,by kernel_rfl,by kernel_rfl,rfl⟩
def aeR (k:Nat):List UInt8:=109::fw k
theorem aQN {n:Int} (h1:0<=n) (h2:n<=255):IntKind.u8.wrap n=n:=by
 simp[IntKind.wrap,IntKind.signed,IntKind.bits];omega
theorem Np (k:Nat) (hk:k<=100000000):di pV [I k] (S (aeR k)):=by
 refine aa.of Y6 (by simp) ?_;simp[Jj,E3,E4];refine⟨fun h=>?_,fun h=>?_⟩
 ·have:k=0:=by omega
  subst this;simp[E5,aeR,nW]
 ·simp[E6,Ew];refine dl (fun p:Nat×List UInt8=>⟨[(0,I p.1),(3,S p.2)],[],[]⟩) (fun p=>p.1) (fun p=>p.1<=k/\p.2.length<=2 * (k - p.1)/\(0 < p.1->fw k=fw p.1++p.2)/\(p.1=0->fw k=p.2)) (k,[]) Wk.li ⟨by simp,by simp,by simp,fun h'=>by dsimp only at h';omega⟩ ?_;rintro ⟨j,suf⟩ ⟨hj,hl,h1,h2⟩ K hN hR hE;dsimp only at hj hl h1 h2;simp[E7];refine⟨fun hlt=>?_,fun hge=>?_⟩
  ·obtain ⟨m,hm,hmj⟩:∃ m,m < 10/\j % 10=m:=⟨j % 10,by omega,rfl⟩;have e2:(j:Int).tmod 10=(m:Int):=by rw[Int.tmod_eq_emod_of_nonneg (by omega)];omega
   have hd:=h1 (by omega);simp[E8];rw[e2,aD (by omega),aQN (by omega) (by omega)];rw[show (48+(m:Int)).toNat=48+m by omega];refine⟨by omega,?_⟩;simp[E9];rw[aD (by omega)];refine hN (j / 10,UInt8.ofNat (48+m)::suf) _ (by dsimp only;omega) ⟨by dsimp only;omega,by simp only[List.length_cons];omega,fun h'=>?_,fun h'=>?_⟩ Wk.li
   ·dsimp only at h' ⊢;rw[hd,Er (n:=j) (by omega),hmj];simp
   ·dsimp only at h' ⊢;rw[hd,nW (n:=j) (by omega),<- hmj,show j % 10=j by omega];simp
  ·refine hE _ _ ?_;have:j=0:=by omega
   subst this;have:=h2 rfl;simp only[cv];simp[Fa,aeR,<- this];have:=ME k;omega
theorem amH (a b:List (List UInt8)):di GM [.ro 1 (a.map S),.ro 1 (b.map S)] (B (decide (a=b))):=by
 refine aa.ofL aCQ (by simp) fun hl=>?_;simp at hl;by_cases hl:a.length=b.length
 ·simp[YY,P9,Qa,Qb,agW,Qc,hl];refine dl (fun i:Nat=>⟨[(0,.ro 1 (a.map S)),(1,.ro 1 (b.map S)),(5,I i)],[],[]⟩) (fun i=>a.length - i) (fun i=>i<=a.length/\∀ j,j < i->a[j]?=b[j]?) 0 Wk.li ⟨by simp,by simp⟩ ?_;rintro i ⟨hi,hj⟩ K hN hR hE;simp[aeP,agX];refine⟨fun hlt=>?_,fun hge=>?_⟩
  ·have hlb:i < b.length:=by omega
   simp[agY,aeW,hlt,hlb];refine⟨⟨rfl,rfl⟩,fun hne=>?_,fun he=>?_⟩
   ·simp[agZ];refine hR _ ?_;simp;rintro rfl;exact hne rfl
   ·simp[ag0];rw[aD (by omega)];refine hN (i+1) _ (by omega) ⟨by omega,fun j hj'=>?_⟩ Wk.li;by_cases e:j=i
    ·subst e;simp[hlt,hlb,he]
    ·exact hj j (by omega)
  ·refine hE _ _ ?_
   have:a=b:=by
    apply List.ext_getElem?;intro j;by_cases h:j < i
    ·exact hj j h
    ·rw[List.getElem?_eq_none (by omega),List.getElem?_eq_none (by omega)]
   simp only[cv];simp[Qc,this]
 ·simp[YY,P9,Qa,Qb,hl];exact⟨fun _ e=>hl (by rw[e]),fun e=>absurd e (by omega)⟩
def HU (k n:Nat):List (List UInt8):=(List.range n).map fun i=>aeR (k+i)
theorem MQ (k n:Nat):(HU k n).length=n:=by simp[HU]
theorem aJg (k:Nat) (n:Nat):HU k (n+1)=HU k n++[aeR (k+n)]:=by simp only[HU,List.range_succ,List.map_append,List.map_cons,List.map_nil]
theorem aK3 {k m i:Nat} (h:i < (HU k m).length):(HU k m)[i]=aeR (k+i):=by simp[HU]
theorem aEW (l:List (List UInt8)) (k:Nat) (hl:l.length<=1000000) (hk:k<=1000000) :
  ie PG [⟨1,l.map S⟩] [.sl (mG 0) 0 l.length,I k] (I ((k+l.length:Nat):Int)) [some ⟨1,(HU k l.length).map S⟩]:=by
 refine ac.of ayb (by simp) rfl (by simp) ?_;simp[aeC,YI,YJ,Wn]
 refine dl (fun i:Nat=>⟨[(0,.sl 1000000 0 l.length),(1,I ((k+i:Nat):Int)),(5,I i)],[(1000000,⟨1,(HU k i++l.drop i).map S⟩)],[1000000]⟩) (fun i=>l.length - i)
  (fun i=>i<=l.length) 0 (Wk.list rfl (by simp) (by simp[HU])) (by simp) ?_
 intro i hi K hN hR hE;simp[YK];have hml:(List.map S (HU k i)).length=i:=by rw[List.length_map,MQ]
 refine⟨fun hlt=>?_,fun hge=>?_⟩
 ·have hd:(l.map S).drop i=S l[i]::(l.map S).drop (i+1):=by rw[yf (l:=l.map S) (by simpa using hlt)];simp
  simp only[hd];simp[YL];refine al (aa.ag (Np (k+i) (by omega))) ?_;simp[hlt,fJ hml,fK hml];simp[YM];rw[aD (by omega)];simp[YN];rw[aD (by omega)];refine hN (i+1) _ (by omega) (by omega) (Wk.list rfl ?_ ?_)
  ·simp;omega
  ·simp[aJg,fK hml]
 ·refine hE _ _ ?_;obtain rfl:i=l.length:=by omega
  simp[YO,MQ]
theorem Si (k m:Nat) (hm:m<=1000000) (hk:k<=1000000):di HD [.ro 1 ((HU k m).map S),I k] (I ((k+m:Nat):Int)):=by
 refine aa.of aya (by simp) ?_;simp[aeB,YB,YC,Wm];refine dl (fun i:Nat=>⟨[(0,.ro 1 ((HU k m).map S)),(1,I ((k+i:Nat):Int)),(5,I i)],[],[]⟩) (fun i=>m - i) (fun i=>i<=m) 0 Wk.li (by simp) ?_;intro i hi K hN hR hE;simp[YD,MQ];refine⟨fun hlt=>?_,fun hge=>?_⟩
 ·have hg:i < (HU k m).length:=by rw[MQ];exact hlt
  have hx:=aK3 hg;simp[YE,WB,hlt,hg,hx];refine cF (aa.ag (Np (k+i) (by omega))) ?_;simp;refine⟨a7 (by first | kernel_rfl | simp) (by first | kernel_rfl | simp),?_⟩;simp[YF];rw[aD (by omega)];simp[YG];rw[aD (by omega)];refine hN (i+1) _ (by omega) (by omega) (Wk.list rfl ?_ ?_)
  ·simp;omega
  ·simp
 ·refine hE _ _ ?_;obtain rfl:i=m:=by omega
  simp[YH]
def lU (k:Nat):Grant:=⟨((k:Nat):Int),aeR (k+1),((k+2:Nat):Int),⟨⟨((k+3:Nat):Int),((k+4:Nat):Int),((k+5:Nat):Int),((k+6:Nat):Int)⟩,((k+7:Nat):Int),((k+8:Nat):Int),((k+9:Nat):Int),⟨((k+10:Nat):Int),((k+11:Nat):Int),((k+12:Nat):Int),((k+13:Nat):Int)⟩,⟨((k+14:Nat):Int),((k+15:Nat):Int),((k+16:Nat):Int),((k+17:Nat):Int)⟩⟩⟩
def ey (k:Nat) (n:Nat):List Grant:=(List.range n).map fun i:Nat=>lU (k+18 * i)
theorem oa (k n:Nat):(ey k n).length=n:=by simp[ey]
theorem Py (k:Nat) (n:Nat):ey k (n+1)=ey k n++[lU (k+18 * n)]:=by simp only[ey,List.range_succ,List.map_append,List.map_cons,List.map_nil]
set_option maxHeartbeats 4000000 in
theorem aeg (l:List Grant) (k:Nat) (hl:l.length<=1048576) (hk:k<=1000000) :
  ie uC [⟨18,l.map bd⟩] [.sl (mG 0) 0 l.length,I k] (I ((k+18 * l.length:Nat):Int)) [some ⟨18,(ey k l.length).map bd⟩]:=by
 refine ac.of Ps (by simp) rfl (by simp) ?_;simp[En,zl,zm,vJ]
 refine dl (fun i:Nat=>⟨[(0,.sl 1000000 0 l.length),(1,I ((k+18 * i:Nat):Int)),(5,I i)],[(1000000,⟨18,(ey k i++l.drop i).map bd⟩)],[1000000]⟩) (fun i=>l.length - i)
  (fun i=>i<=l.length) 0 (Wk.list rfl (by simp) (by simp[ey])) (by simp) ?_
 intro i hi K hN hR hE;simp[zn];have hml:(List.map bd (ey k i)).length=i:=by rw[List.length_map,oa]
 refine⟨fun hlt=>?_,fun hge=>?_⟩
 ·have hd:(l.map bd).drop i=bd l[i]::(l.map bd).drop (i+1):=by rw[yf (l:=l.map bd) (by simpa using hlt)];simp
  simp only[hd];simp[zo,zp,hlt,fJ hml,fK hml];rw[aD (by omega)];simp[zq];refine al (aa.ag (Np (k+18 * i+1) (by omega))) ?_;simp[zr,hlt,fJ hml,fK hml];rw[aD (by omega)];simp[zt,zu,hlt,fJ hml,fK hml];rw[aD (by omega)];simp[zv,wx,hlt,fJ hml,fK hml];rw[aD (by omega)];simp[wy,wz,hlt,fJ hml,fK hml];rw[aD (by omega)];simp[wA,wB,hlt,fJ hml,fK hml];rw[aD (by omega)];simp[wC,wD,hlt,fJ hml,fK hml];rw[aD (by omega)];simp[wE,wF,hlt,fJ hml,fK hml];rw[aD (by omega)];simp[wG,wH,hlt,fJ hml,fK hml];rw[aD (by omega)];simp[wI,wJ,hlt,fJ hml,fK hml];rw[aD (by omega)];simp[wK,wL,hlt,fJ hml,fK hml];rw[aD (by omega)];simp[wM,wN,hlt,fJ hml,fK hml];rw[aD (by omega)];simp[wO,wP,hlt,fJ hml,fK hml];rw[aD (by omega)];simp[wQ,wR,hlt,fJ hml,fK hml];rw[aD (by omega)];simp[wS,wT,hlt,fJ hml,fK hml];rw[aD (by omega)];simp[wU,wV,hlt,fJ hml,fK hml];rw[aD (by omega)];simp[wW,wX,hlt,fJ hml,fK hml];rw[aD (by omega)];simp[wY,wZ,hlt,fJ hml,fK hml];rw[aD (by omega)];simp[w4];rw[aD (by omega)];refine hN (i+1) _ (by omega) (by omega) (Wk.list rfl ?_ ?_)
  ·simp;omega
  ·simp[Py,lU,fK hml];omega
 ·refine hE _ _ ?_;obtain rfl:i=l.length:=by omega
  simp[w5,oa]
def Pa:=[eF 2 3 0,eF 3 3 1,ok 4 (vB false)]
def Pb:=[aL 5 0 2,bl 6 1 5,aL 7 0 3,bl 8 1 7,cI 9 .neq 6 8]
def amf:=[ok 4 (vB false)]
def Pc:=[aL 10 1 2,bl 11 1 10,aL 12 1 3,bl 13 1 12,cI 14 .neq 11 13]
def amg:=[ok 4 (vB false)]
def Pd:=[aL 15 2 2,bl 16 1 15,aL 17 2 3,bl 18 1 17,cI 19 .neq 16 18]
def amh:=[ok 4 (vB false)]
def Pe:=[ok 4 (vB true)]
def aai:C:=(sr Pa [2,3] (ss (sr Pb [2,3,9] (sc 9 (sr amf [4] .ret) .skip)) (ss (sr Pc [2,3,14] (sc 14 (sr amg [4] .ret) .skip)) (ss (sr Pd [19] (sc 19 (sr amh [4] .ret) .skip)) (sr Pe [4] .ret)))))
theorem ar4:cE MY aai [(.tmp 4)] 20:=dE func53 rfl
theorem aHA (p:Log):di MY [.agg [S p.durable,S p.pending,I p.count],.agg [S p.durable,S p.pending,I p.count]] (B true):=by
 refine aa.of ar4 (by simp) ?_;simp[aai,Pa,Pb,Pc,Pd,Pe]
theorem I9 (c:Console):di nP [co c,co c] (B true):=by
 refine aa.of Ty (by simp) ?_;simp[Gs,Cv,Cw];refine al (aa.ag (LS c.grants c.grants)) ?_;simp[Cx];refine al (aa.ag (aHA c.log)) ?_;simp[Cy]
theorem Vy (l:aT) (k:Nat) (hl:l.length<=1048576) (hk:k<=1000000) :
  ie pI [⟨18,l.map bd⟩] [.agg [.sl (mG 0) 0 l.length],I k] (I ((k+18 * l.length:Nat):Int)) [some ⟨18,(ey k l.length).map bd⟩]:=by
 refine ac.of Jt (by simp) rfl (by simp) ?_;simp[yb,uN,uO];refine So [1000000] (ac.ag (aeg l k hl hk)) ?_;simp[uP]
theorem NG (c:Console) (k:Nat) (hl:c.grants.length<=1048576) (hk:k<=1000000) :
  ie pb [⟨18,c.grants.map bd⟩] [.agg [.sl (mG 0) 0 c.grants.length,S c.log.durable,S c.log.pending,I c.log.count],I k] (I ((k+18 * c.grants.length:Nat):Int)) [some ⟨18,(ey k c.grants.length).map bd⟩]:=by
 refine ac.of MK (by simp) rfl (by simp) ?_;simp[AX,wu,wv];refine So [1000000] (ac.ag (Vy c.grants k hl hk)) ?_;simp[ww]
def zO:=[eF 2 3 0,ok 4 (vI 0)]
def zP:=[om 5 1,aL 6 0 2,bl 7 1 6,oo 8 (.len true (.t 7)),cI 9 .sub 5 8,om 1 9]
def zQ:=[om 10 1,cn 11 .lss 10 0]
def zR:=[ok 4 (vI (-1))]
def zS:=[om 12 1,aL 13 1 2,bl 14 1 13,oo 15 (.len true (.t 14)),cI 16 .sub 12 15,om 1 16]
def zT:=[om 17 1,cn 18 .lss 17 0]
def zU:=[ok 4 (vI (-1))]
def zV:=[om 19 1,om 4 19]
def Im:C:=(sr zO [1,2] (sr zP [1,2] (ss (sr zQ [1,2,11] (sc 11 (sr zR [4] .ret) .skip)) (sr zS [1] (ss (sr zT [1,18] (sc 18 (sr zU [4] .ret) .skip)) (sr zV [4] .ret))))))
theorem TA:cE yt Im [(.tmp 4)] 20:=dE func32 rfl
def zW:=[eF 1 3 0,dD 2 3 (.agg [vS [],vS [],vI 0])]
def zX:=[dD 3 3 (.agg [vS [],vS [],vI 0])]
def zY:=[aL 4 0 1,bl 5 1 4,aL 6 0 3,bg 1 6 5]
def zZ:=[aL 7 1 1,bl 8 1 7,aL 9 1 3,bg 1 9 8]
def z6:=[aL 10 2 1,bl 11 1 10,aL 12 2 3,bg 1 12 11]
def z7:=[bu 13 3 3,bg 3 2 13]
def Io:C:=(sr zW [1,2] (sr zX [1,2,3] (sr zY [1,2,3] (sr zZ [1,2,3] (sr z6 [2,3] (sr z7 [2] .ret))))))
theorem TC:cE vj Io [(.cell 2 true 3)] 14:=dE func34 rfl
theorem axD (l:Log) (left:Int) (h0:0<=left) (h1:left<=1048576):di yt [rA l,I left] (I (rest left (l.durable.length+l.pending.length))):=by
 refine aa.ofL TA (by simp) fun hl=>?_;simp at hl;obtain ⟨hc,hr⟩:=hl;simp[Im,zO,zP];rw[aD (by omega)];simp[zQ];refine⟨fun h=>?_,fun h=>?_⟩
 ·simp[zR,rest];omega
 ·simp[zS];rw[aD (by omega)];simp[zT,zU,zV,rest];constructor<;>intros<;>omega
theorem anj (l:Log):di vj [rA l] (rA l):=by
 refine aa.of TC (by simp) ?_;simp[Io,zW,zX,zY,zZ,z6,z7]
theorem xn (c:Console) (hl:c.grants.length<=1048576):di jH [co c] (GN c):=by
 refine aa.of TB (by simp) ?_;simp[Gu,CH,CI,CJ];refine aZ (aa.ag (AQ c.grants hl)) ?_;simp[CL];refine aZ (aa.ag (anj c.log)) ?_;simp[CM]
def szC (c:Console):Nat:=szG c.grants+(c.log.durable.length+c.log.pending.length)
theorem amJ (c:Console) (left:Int) (h0:0<=left) (h1:left<=1048576):di xw [co c,I left] (I (rest left (szC c))):=by
 refine aa.of Tz (by simp) ?_;simp[Gt,Cz,CA];refine al (aa.ag (LU c.grants left h0 h1)) ?_;simp[CB];refine⟨fun hneg=>?_,fun hge=>?_⟩
 ·simp[CC];unfold rest szC at *;split at hneg<;>split<;>omega
 ·have hs:=tW (left:=left) (n:=szG c.grants) (by omega);have he:rest left (szG c.grants)=left - szG c.grants:=by unfold rest;rw[if_neg (by omega)]
  rw[he];simp[CD];refine al (aa.ag (axD c.log (left - szG c.grants) (by omega) (by omega))) ?_;simp[CE,CF,CG];unfold rest szC;constructor
  ·intro h;split at h<;>split<;>omega
  ·intro h;split at h<;>split<;>omega
def eD (c:Console) (L:List (List UInt8)) (k:Nat):Console:=(L.take k).foldl (fun d s=>(gN d s).1) c
def r9 (c:Console) (L:List (List UInt8)) (k:Nat):List (List UInt8):=(List.range k).map fun i=>(gN (eD c L i) (L.getD i [])).2
theorem kh (c:Console) (L:List (List UInt8)):eD c L 0=c:=by simp[eD]
theorem rz {c:Console} {L:List (List UInt8)} {k:Nat} (h:k < L.length):eD c L (k+1)=(gN (eD c L k) L[k]).1:=by
 unfold eD;rw[dP h,List.foldl_append];rfl
theorem yu (c:Console) (L:List (List UInt8)) (k:Nat):(r9 c L k).length=k:=by simp[r9]
theorem T4 {c:Console} {L:List (List UInt8)} {k:Nat} (h:k < L.length):r9 c L (k+1)=r9 c L k++[(gN (eD c L k) L[k]).2]:=by
 simp only[r9,List.range_succ,List.map_append,List.map_cons,List.map_nil];rw[List.getD_eq_getElem?_getD,List.getElem?_eq_getElem h];rfl
theorem ry {c:Console} (L:List (List UInt8)) (hf:iw c.log) (hl:c.grants.length<=1048576):∀ k,iw (eD c L k).log/\(eD c L k).grants.length<=1048576:=by
 intro k;unfold eD;generalize L.take k=M
 induction M generalizing c with
 | nil=>exact⟨hf,hl⟩
 | cons s M ih =>
   have:=vg s hf hl;exact ih this.1 this.2
@[simp] theorem ar6 (i:Nat) (blk:Blk) (l:List (List UInt8)):Jy i blk (l.map S)=l.map S:=nY fun _=>rfl
theorem AP {o:List (List UInt8)} {i:Nat} (h:o.length=i):List.take i (List.map S o)=List.map S o:=List.take_of_length_le (by simp[h])
def eK (c:Console) (t:List UInt8):Bool:=dC c&&(decide (t.length<=4000)&&decide ((parts 10 t).length<=30))
def py (c:Console) (t:List UInt8):List (List UInt8):=if eK c t=true then r9 c (parts 10 t) (parts 10 t).length else []
theorem V8 (c:Console) (t:List UInt8) (hf:iw c.log) (hl:c.grants.length<=1048576) (ht:t.length<=1048576):di pU [co c,S t] (.tup [.own 1 ((py c t).map S),B (eK c t)]):=by
 have hE:py c t=if eK c t=true then r9 c (parts 10 t) (parts 10 t).length else []:=rfl
 have hO:eK c t=(dC c&&(decide (t.length<=4000)&&decide ((parts 10 t).length<=30))):=rfl;have hsp:=Hq t 10 ht;generalize parts 10 t=L at hE hO hsp;refine aa.ofN Tt (by simp) ?_;simp[Gn,Bk,Bl];refine aZ (aa.ag hsp) ?_;simp[Bm];refine al (aa.ag (uc c hf)) ?_;cases hc:dC c with
 | false =>
   have hO:eK c t=false:=by rw[hO,hc];rfl
   rw[if_neg (by simp[hO])] at hE;simp[mK,hE,hO]
 | true =>
   by_cases h4:t.length<=4000
   ·by_cases h3:L.length<=30
    ·have hO:eK c t=true:=by rw[hO,hc];simp[h4,h3]
     rw[if_pos hO] at hE;have n4:¬(4000 < (t.length:Int)):=by omega
     have n3:¬(30 < (L.length:Int)):=by omega
     simp[n4,n3,Bn,Bo,yo];have hcf:=ry L hf hl;refine dl (fun i:Nat=>⟨[(2,.ref 2 0 0),(7,.sl 27 0 i),(28,.sl 13 0 L.length),(29,I L.length),(30,I i)],[(2,⟨4,[co (eD c L i)]⟩),(13,⟨1,L.map S⟩),(27,⟨1,(r9 c L i).map S⟩)],[]⟩) (fun i=>L.length - i) (fun i=>i<=L.length) 0 (Wk.list rfl (by simp) (by simp[kh,r9])) (by simp) ?_;intro i hi K hN hR hE';have hoe:=yu c L i;simp[Bp,yK];refine⟨fun hlt=>?_,fun hge=>?_⟩
     ·have hcs:=rz (c:=c) hlt;have hos:=T4 (c:=c) hlt;have hI:=pH (eD c L i) L[i] (hcf i).1 (hcf i).2;have hk:=(vg L[i] (hcf i).1 (hcf i).2).2;have hg:L[i]?=some L[i]:=List.getElem?_eq_getElem hlt;obtain ⟨p,hp⟩:∃ p,gN (eD c L i) L[i]=p:=⟨_,rfl⟩;rw[hp] at hcs hos hI hk;obtain ⟨d,r⟩:=p;dsimp only at hcs hos hI hk;generalize L[i]=x at hI hg hp;generalize eD c L i=e at hI hp ⊢;generalize r9 c L i=o at hos hoe ⊢;simp[Bq,hg];refine⟨hlt,?_⟩;simp[Br];refine aZ (aa.ag hI) ?_;simp[Bs,yJ];refine⟨by unfold bR;omega,?_⟩;rw[aD (by omega)];refine hN (i+1) _ (by omega) (by omega) (Wk.trans (Wk.frz 37 ⟨18,d.grants.map bd⟩ (by simp) (by simp) (by simp)) (Wk.trans (Wk.ren 44 27 (by decide) (by simp[AP hoe])) (Wk.list rfl ?_ ?_)))
      ·simp[hos,hoe]
      ·simp[hos,hcs,List.take_of_length_le,AP hoe]
     ·obtain rfl:i=L.length:=by omega
      refine hE' _ _ ?_;simp[yL,hO,hE,yu]
    ·have hO:eK c t=false:=by rw[hO];simp[h3]
     rw[if_neg (by simp[hO])] at hE;have n4:¬(4000 < (t.length:Int)):=by omega
     have n3:30 < (L.length:Int):=by omega
     simp[n4,n3,mK,hE,hO]
   ·have hO:eK c t=false:=by rw[hO];simp[h4]
    rw[if_neg (by simp[hO])] at hE;have n4:4000 < (t.length:Int):=by omega
    simp[n4,mK,hE,hO]
theorem amn (c:Console) (t:List UInt8) (hf:iw c.log) (hl:c.grants.length<=1048576) (ht:t.length<=1048576):di xv [co c,S t] (.tup [.own 1 ((py c t).map S),B (eK c t)]):=by
 have hE:py c t=if eK c t=true then r9 c (parts 10 t) (parts 10 t).length else []:=rfl
 have hO:eK c t=(dC c&&(decide (t.length<=4000)&&decide ((parts 10 t).length<=30))):=rfl;have hsp:=Ni t 10 (by omega);generalize parts 10 t=L at hE hO hsp;refine aa.ofN Tv (by simp) ?_;simp[Gr,BT,BU,BV];refine aZ (aa.ag hsp) ?_;simp[BW];refine al (aa.ag (acp c hf)) ?_;cases hc:dC c with
 | false =>
   have hO:eK c t=false:=by rw[hO,hc];rfl
   rw[if_neg (by simp[hO])] at hE;simp[mL,hE,hO]
 | true =>
   by_cases h4:t.length<=4000
   ·by_cases h3:L.length<=30
    ·have hO:eK c t=true:=by rw[hO,hc];simp[h4,h3]
     rw[if_pos hO] at hE;have n4:¬(4000 < (t.length:Int)):=by omega
     have n3:¬(30 < (L.length:Int)):=by omega
     simp[n4,n3,BX,BZ,yq];have hcf:=ry L hf hl;refine dl (fun i:Nat=>⟨[(2,.ref 2 0 0),(6,.sl 10 0 i),(7,.sl 12 0 L.length),(9,I i)],[(2,⟨4,[co (eD c L i)]⟩),(12,⟨1,L.map S⟩),(10,⟨1,(r9 c L i).map S⟩)],[]⟩) (fun i=>L.length - i) (fun i=>i<=L.length) 0 (Wk.list rfl (by simp) (by simp[kh,r9])) (by simp) ?_;intro i hi K hN hR hE';have hoe:=yu c L i;simp[B0,yY];refine⟨fun hlt=>?_,fun hge=>?_⟩
     ·have hcs:=rz (c:=c) hlt;have hos:=T4 (c:=c) hlt;have hI:=jJ (eD c L i) L[i] (hcf i).1 (hcf i).2;have hk:=(vg L[i] (hcf i).1 (hcf i).2).2;have hg:L[i]?=some L[i]:=List.getElem?_eq_getElem hlt;obtain ⟨p,hp⟩:∃ p,gN (eD c L i) L[i]=p:=⟨_,rfl⟩;rw[hp] at hcs hos hI hk;obtain ⟨d,r⟩:=p;dsimp only at hcs hos hI hk;obtain ⟨x,hx⟩:∃ x,L[i]=x:=⟨_,rfl⟩;have hgE:∀ h,L[i]'h=x:=fun _=>hx;rw[hx] at hI hg hp;generalize eD c L i=e at hI hp ⊢;generalize r9 c L i=o at hos hoe ⊢;simp[B1,rK,hg,hlt,hgE];refine Hv (aa.ag hI) ?_;simp;refine⟨a7 (by simp[rK]) (by simp),?_⟩;simp[B2];refine⟨by unfold bR;omega,?_⟩;rw[aD (by omega)];refine hN (i+1) _ (by omega) (by omega) (Wk.trans (Wk.ren 45 10 (by decide) (by simp[AP hoe])) (Wk.list rfl ?_ ?_))
      ·simp[hos,hoe]
      ·simp[hos,hcs,AP hoe]
     ·obtain rfl:i=L.length:=by omega
      refine hE' _ _ ?_;simp[yZ,hO,hE,yu]
    ·have hO:eK c t=false:=by rw[hO];simp[h3]
     rw[if_neg (by simp[hO])] at hE;have n4:¬(4000 < (t.length:Int)):=by omega
     have n3:30 < (L.length:Int):=by omega
     simp[n4,n3,mL,hE,hO]
   ·have hO:eK c t=false:=by rw[hO];simp[h4]
    rw[if_neg (by simp[hO])] at hE;have n4:4000 < (t.length:Int):=by omega
    simp[n4,mL,hE,hO]
theorem aJP (c:Console) (t:List UInt8):(py c t).length<=30:=by
 unfold py;split
 ·rename_i h;unfold eK at h;simp at h;rw[yu];exact h.2.2
 ·simp
set_option maxHeartbeats 1000000 in
theorem aLR (c:Console) (s:List UInt8):di N7 [co c,S s] (B true):=by
 refine aa.of ahg (by simp) ?_;simp[NN,Lw,Lx];refine⟨fun _=>by simp[Ly],fun hsl=>?_⟩;simp[Lz,LA];refine al (aa.ag (amJ c 1048576 (by omega) (by omega))) ?_;simp[LB];refine⟨fun _=>by simp[LC],fun hge=>?_⟩;have hs:=tW (left:=1048576) (n:=szC c) (by omega);have hl:c.grants.length<=1048576:=by unfold szC szG at hs;omega
 have hf:iw c.log:=by unfold szC at hs;unfold iw;omega
 have hI:=V8 c s hf hl (by omega);have hS:=amn c s hf hl (by omega);have hk:=aJP c s;generalize py c s=L at hI hS hk;generalize eK c s=b at hI hS;simp[LD];refine aZ (aa.ag (xn c hl)) ?_;simp;refine aZ (aa.at hS) ?_;simp[LF];refine aZ (aa.ag (xn c hl)) ?_;simp[LG];refine aZ (aa.at hI) ?_;simp[IK];refine al (aa.at (amH L L)) ?_;simp;simp[IL,yz];refine gm (aa.ag (xn c hl)) ?_;simp;refine cF (aa.at (I9 c)) ?_;simp;refine⟨a7 (by simp[yz]) (by simp),?_⟩;simp[IM,IP];refine So [32] (ac.ag (NG c 1 (by omega) (by omega))) ?_;have hk1:¬(1+18 * (c.grants.length:Int) < 0):=by omega
 simp[IQ,hk1];refine al (aa.at (amH L L)) ?_;simp;simp[IU,IV];refine So [36] (ac.ag (aEW L 1 (by omega) (by omega))) ?_;have hk2:¬(1+(L.length:Int) < 0):=by omega
 simp[IW,IX,hk2];refine al (aa.arg (Si 1 L.length (by omega) (by omega)) (by simp[MQ,List.take_of_length_le])) ?_;simp[IY,IZ,hk2];simp[I0];refine aZ (aa.ag (xn c hl)) ?_;simp;refine aZ (aa.at hI) ?_;simp[I1];refine al (aa.at (amH L L)) ?_;simp;simp[I2,I3];refine al (aa.arg (Si 1 L.length (by omega) (by omega)) (by simp[MQ,List.take_of_length_le])) ?_;simp[I4,I5,I6,hk2]
end Go.Proofs.YtnjjimhkbpdpgaaGreatDoor
