/- Parts of the proof, part 1. -/
import Derived.Test.YtnjjimhkbpdpgaaGreatDoorProg
import Derived.KernelRfl
import Derived.Lib.ItoaNum
import Derived.Lib.LaidTab
import Derived.Sort.Grow
import Derived.Deep.Draws
import Derived.Below
import Derived.Test.YtnjjimhkbpdpgaaGreatDoorQ7
set_option linter.unusedVariables false
set_option linter.unusedSimpArgs false
namespace Go.Proofs.YtnjjimhkbpdpgaaGreatDoor
def N6:Nat:=6
def pT:Nat:=24
def xu:Nat:=25
def qo:Nat:=26
def ff:Nat:=27
def kH:Nat:=31
def yt:Nat:=32
def iB:Nat:=33
def vj:Nat:=34
def kG:Nat:=35
def kD:Nat:=42
def uw:Nat:=69
def oh:Nat:=77
def oi:Nat:=78
def og:Nat:=79
def qw:Nat:=137
def qy:Nat:=138
def qv:Nat:=139
def uD:Nat:=204
def uB:Nat:=205
def qx:Nat:=259
def lX:Nat:=260
def qu:Nat:=261
def lW:Nat:=262
open Abs
end Go.Proofs.YtnjjimhkbpdpgaaGreatDoor
namespace Go.Proofs.YtnjjimhkbpdpgaaGreatDoor
open Go.Abs
set_option maxRecDepth 100000
open Tryz
def Lm:=[eF 2 1 0,eF 3 3 1,ok 4 (vB false)]
def Ln:=[ok 5 (vI 1048576)]
def Lo:=[bu 11 1 2,om 12 5,dK 13 kH 11 12,om 5 13]
def Lp:=[om 14 5,cn 15 .lss 14 0]
def Lq:=[ok 4 (vB true)]
def Lr:=[bu 16 3 3,om 17 5,dK 18 yt 16 17,om 5 18]
def Ls:=[om 19 5,cn 20 .lss 19 0]
def Lt:=[ok 4 (vB true)]
def Lu:=[bu 22 1 2,cg 23 iB 22,bu 24 3 3,cg 25 vj 24,dK 26 xu 23 25,om 21 26,cJ 27 21 0,cJ 28 21 1,om 6 27,om 7 28]
def Ar:List (List Nat):=[[],[0],[],[0,1,2],[0,1,2,3],[0,1,2,3,4],[0,1,2,3,4,5],[0,1,2,3,4,5],[0,1,2,3,4,5,6],[0,1,2,3,4,5,6,7,8]]
def Lv:=[bu 29 1 2,cg 30 iB 29,dD 8 1 (.agg [vN]),bg 1 8 30]
def IG:=[bu 32 1 8,bu 33 3 3,cg 34 vj 33,dK 35 pT 32 34,om 31 35,cJ 36 31 0,cJ 37 31 1,om 9 36,om 10 37]
def yv:List (List Nat):=[[],[],[1],[0,1,2],[0,1,2,3],[0,1,2,3,4],[0,1,2,3,4],[0,1,2,3,4,5],[0,1,2,3,4,5,6,7]]
def IH:=[om 38 9,om 39 6,cI 40 .neq 38 39,om 41 40,oF 41 42 (.mv (.t 10)),oF 41 43 (.mv (.t 7)),oF 41 44 (.bin .neq .bool (.t 42) (.t 43)),oo 45 (.pick (.t 41) (xB true) (.t 44))]
def ab5:=[ok 4 (vB false)]
def II:=[bu 46 1 8,bu 47 1 2,cg 48 iB 47,dK 49 kG 46 48,oo 50 (.un .not (.t 49))]
def yw:List (List Nat):=[[],[],[1],[0,1,2],[0,1,2,3]]
def ab6:=[ok 4 (vB false)]
def IJ:=[ok 4 (vB true)]
def NM:C:=(sr Lm [2,3] (sr Ln [2,3,5] (sr Lo [2,3,5] (ss (sr Lp [2,3,5,15] (sc 15 (sr Lq [4] .ret) .skip)) (sr Lr [2,3,5] (ss (sr Ls [2,3,20] (sc 20 (sr Lt [4] .ret) .skip)) (ss (.regD Lu Ar [2,3,6,7]) (sr Lv [2,3,6,7,8] (ss (.regD IG yv [2,6,7,8,9,10]) (ss (sr IH [2,8,45] (sc 45 (sr ab5 [4] .ret) .skip)) (ss (ss (.regD II yw [50]) (sc 50 (sr ab6 [4] .ret) .skip)) (sr IJ [4] .ret))))))))))))
theorem ahf:cE N6 NM [(.tmp 4)] 51:=dE func6 rfl
def Bb:=[eF 2 1 0,eF 3 3 1,ok 4 (vI 0),ok 5 (vB false)]
def Bc:=[bu 15 1 2,cg 16 qo 15,om 14 16,cJ 17 14 0,cJ 18 14 1,dD 6 4 (.agg [vN,vS [],vS [],vI 0]),bg 4 6 17,om 7 18]
def Bd:=[bu 20 3 3,cg 21 kD 20,om 19 21,cJ 22 19 0,cJ 23 19 1,om 8 22,om 9 23]
def Be:=[om 24 7,oo 25 (.un .not (.t 24)),om 26 25,oF 26 27 (.mv (.t 9)),oF 26 28 (.un .not (.t 27)),oo 29 (.pick (.t 26) (xB true) (.t 28))]
def rN:=[ok 4 (vI 0),ok 5 (vB false)]
def Bf:=[om 30 8,oo 31 (.len false (.t 30)),ok 32 (vI 0)]
def Bg:=[cI 33 .lss 32 31]
def Bh:=[om 34 32,ft 35 2 30 32,bu 36 2 35,dD 11 2 (.agg [vS [],vS []]),om 10 34,bg 2 11 36]
def Bi:=[bu 38 4 6,aL 39 0 11,bl 40 1 39,dK 41 ia 38 40,om 37 41,cJ 42 37 0,cJ 43 37 1,dD 12 4 (.agg [vN,vS [],vS [],vI 0]),bg 4 12 42,om 13 43]
def Bj:=[om 44 13,aL 45 1 11,bl 46 1 45,cI 47 .neq 44 46]
def yF:=[om 48 10,om 4 48,ok 5 (vB true)]
def yG:=[bu 49 4 12,bg 4 6 49]
def yH:=[fL 50 32 1,om 32 50]
def yn:C:=(sr Bg [6,8,30,31,32,33] (ss (sc 33 .skip (.exit 0)) (ss (.block 1 (sr Bh [6,8,10,11,30,31,32] (sr Bi [6,8,10,11,12,13,30,31,32] (ss (sr Bj [6,8,10,12,30,31,32,47] (sc 47 (sr yF [4,5] .ret) .skip)) (.reg yG [6,8,30,31,32]))))) (.reg yH [6,8,30,31,32]))))
def yI:=[om 51 8,oo 52 (.len false (.t 51)),om 4 52,ok 5 (vB true)]
def Gm:C:=(sr Bb [2,3] (sr Bc [3,6,7] (sr Bd [6,7,8,9] (ss (sr Be [6,8,29] (sc 29 (sr rN [4,5] .ret) .skip)) (ss (sr Bf [6,8,30,31,32] (.block 0 (.loop yn))) (sr yI [4,5] .ret))))))
theorem Ts:cE pT Gm [(.tmp 4),(.tmp 5)] 53:=dE func24 rfl
def BK:=[eF 2 1 0,eF 3 3 1,ok 4 (vI 0),ok 5 (vB false)]
def BL:=[bu 13 1 2,cg 14 ff 13,om 12 14,cJ 15 12 0,cJ 16 12 1,dD 6 4 (.agg [vN,vS [],vS [],vI 0]),bg 4 6 15,om 7 16]
def BM:=[om 17 7,oo 18 (.un .not (.t 17)),om 19 18,oF 19 20 (.ld true 3 (.t 3)),oF 19 21 (.call ux [.t 20]),oF 19 22 (.un .not (.t 21)),oo 23 (.pick (.t 19) (xB true) (.t 22))]
def rP:=[ok 4 (vI 0),ok 5 (vB false)]
def BN:=[bu 25 3 3,cg 26 uw 25,om 24 26,cJ 27 24 0,cJ 28 24 1,om 8 27,om 9 28]
def BO:=[ok 10 (vS [])]
def BP:=[ok 11 (vI 0)]
def BQ:=[om 29 11,om 30 8,oo 31 (.len false (.t 30)),cI 32 .lss 29 31]
def BR:=[bu 36 4 6,om 37 8,om 38 11,ft 39 2 37 38,aL 40 0 39,bl 41 1 40,dK 42 fT 36 41,om 35 42,cJ 43 35 0,cJ 44 35 1,bg 4 6 43,om 10 44]
def rJ:List (List Nat):=[[],[],[],[1,2],[1,2,3],[1,2,3,4],[0,1,2,3,4,5],[0,1,2,3,4,5,6],[0,1,2,3,4,5,6,7],[0,1,2,3,4,5,6,7],[0,1,2,3,4,5,6,7,8],[0,1,2,3,4,5,6,7,8,9,10]]
def BS:=[om 45 10,om 46 8,om 47 11,ft 48 2 46 47,aL 49 1 48,bl 50 1 49,cI 51 .neq 45 50]
def yV:=[om 52 11,om 4 52,ok 5 (vB true)]
def yW:=[om 33 11,fL 34 33 1,om 11 34]
def yp:C:=(ss (sr BQ [6,8,11,32] (sc 32 .skip (.exit 0))) (ss (.block 1 (ss (.regD BR rJ [6,8,10,11]) (sr BS [6,8,11,51] (sc 51 (sr yV [4,5] .ret) .skip)))) (.reg yW [6,8,11])))
def yX:=[om 53 8,oo 54 (.len false (.t 53)),om 4 54,ok 5 (vB true)]
def Gq:C:=(sr BK [2,3] (sr BL [3,6,7] (ss (sr BM [3,6,23] (sc 23 (sr rP [4,5] .ret) .skip)) (sr BN [6,8] (sr BO [6,8] (ss (sr BP [6,8,11] (.block 0 (.loop yp))) (sr yX [4,5] .ret)))))))
def Zc:Nat->List Nat
 | 0=>[2,3]
 | 1=>[3,6,7]
 | 2=>[3,6,23]
 | 3=>[4,5]
 | 4=>[6,8]
 | 5=>[6,8]
 | 6=>[6,8,11]
 | 7=>[6,8,11,32]
 | 9=>[6,8,10,11]
 | 10=>[6,8,11,51]
 | 11=>[4,5]
 | 8=>[6,8,11]
 | 12=>[4,5]
 | _=>[]
theorem Tu:cE xu Gq [(.tmp 4),(.tmp 5)] 55 :=
 ⟨Tryz.f25,_,Zc,func25,rfl,by kernel_rfl,by kernel_rfl,by kernel_rfl,rfl⟩
def tB:=[eF 1 4 0,dD 2 4 xR]
def tC:=[dD 3 4 xR]
def tD:=[aL 4 0 1,bl 5 1 4,aL 6 0 3,bg 1 6 5]
def tE:=[aL 7 1 1,bl 8 1 7,aL 9 1 3,bg 1 9 8]
def tF:=[aL 10 2 1,bl 11 1 10,aL 12 2 3,bg 1 12 11]
def tG:=[aL 13 3 1,bl 14 1 13,aL 15 3 3,bg 1 15 14]
def tH:=[bu 16 4 3,bg 4 2 16]
def zJ:C:=(sr tB [1,2] (sr tC [1,2,3] (sr tD [1,2,3] (sr tE [1,2,3] (sr tF [1,2,3] (sr tG [2,3] (sr tH [2] .ret)))))))
theorem Jv:cE qx zJ [(.cell 2 true 4)] 17:=dE func259 rfl
def tP:=[eF 1 4 0,dD 2 4 xR]
def tQ:=[dD 3 4 xR]
def tR:=[aL 4 0 1,bl 5 1 4,aL 6 0 3,bg 1 6 5]
def tS:=[aL 7 1 1,bl 8 1 7,aL 9 1 3,bg 1 9 8]
def tT:=[aL 10 2 1,bl 11 1 10,aL 12 2 3,bg 1 12 11]
def tU:=[aL 13 3 1,bl 14 1 13,aL 15 3 3,bg 1 15 14]
def tV:=[bu 16 4 3,bg 4 2 16]
def zL:C:=(sr tP [1,2] (sr tQ [1,2,3] (sr tR [1,2,3] (sr tS [1,2,3] (sr tT [1,2,3] (sr tU [2,3] (sr tV [2] .ret)))))))
theorem Jx:cE lX zL [(.cell 2 true 4)] 17:=dE func260 rfl
def w6:=[eF 1 15 0,dD 2 15 lm]
def w7:=[dD 3 15 lm]
def w8:=[aL 4 0 1,bu 5 4 4,cg 6 qx 5,aL 7 0 3,bg 4 7 6]
def w9:=[aL 8 4 1,bl 9 1 8,aL 10 4 3,bg 1 10 9]
def xb:=[aL 11 5 1,bl 12 1 11,aL 13 5 3,bg 1 13 12]
def xd:=[aL 14 6 1,bl 15 1 14,aL 16 6 3,bg 1 16 15]
def xe:=[aL 17 7 1,bu 18 4 17,cg 19 lX 18,aL 20 7 3,bg 4 20 19]
def xf:=[aL 21 11 1,bu 22 4 21,cg 23 lX 22,aL 24 11 3,bg 4 24 23]
def xg:=[bu 25 15 3,bg 15 2 25]
def Eo:C:=(sr w6 [1,2] (sr w7 [1,2,3] (sr w8 [1,2,3] (sr w9 [1,2,3] (sr xb [1,2,3] (sr xd [1,2,3] (sr xe [1,2,3] (sr xf [2,3] (sr xg [2] .ret)))))))))
theorem NU:cE uD Eo [(.cell 2 true 15)] 26:=dE func204 rfl
end Go.Proofs.YtnjjimhkbpdpgaaGreatDoor
namespace Go.Abs
variable [GI]
omit [GI] in
theorem nY {α:Type} {i:Nat} {blk:Blk} {f:α->V}:∀ {l:List α},(∀ x,Abs.frz i blk (f x)=f x)->Jy i blk (l.map f)=l.map f
 | [],_=>rfl
 | x::l,h=>by simp[h x,nY (l:=l) h]
end Go.Abs
namespace Go.Abs
section
variable [GI] {P : Program} {f d i : Nat} {args args' vs : List V} {res : V} {x : Value} {s : AS} {K : AS → Prop} {c : CO} {next : It → AS → Prop} {H0 : List Blk} {H1 : List (Option Blk)}
theorem Hv (h:aa P f (vs.map (cz (fy s.hp) 6)) res) (h3:next ⟨c,Ik d res,i,zB c s⟩ (s.took d res)) (h0:fW res=true:=by rfl) (hr:bN vs=true/\cO vs=true:=by simp) (h1:cO vs=true:=by simp)
  (h2:(fu vs).all (fun id=>match fy s.hp id with | some b=>mf b.es | none=>true)=true:=by simp):Dw P f vs s d c i next:=Gw h h0 (.inr hr) h1 h2 h3
end
end Go.Abs
namespace Go.Proofs.YtnjjimhkbpdpgaaGreatDoor
open Go.Abs
open Tryz
theorem Hr {α:Type} (l:List (List α)) (i:Nat):kg (l.take i)<=kg l:=by
 have:kg l=kg (l.take i)+kg (l.drop i):=by rw[<- FF,List.take_append_drop]
 omega
theorem tW {left:Int} {n:Nat} (h:¬rest left n < 0):(n:Int)<=left:=by
 unfold rest at h;split at h<;>omega
theorem acE (f:Field):di qx [jC f] (jC f):=by
 refine aa.of Jv (by simp) ?_;simp[zJ,tB,tC,tD,tE,tF,tG,tH]
theorem Jb (g:Group):di lX [ib g] (ib g):=by
 refine aa.of Jx (by simp) ?_;simp[zL,tP,tQ,tR,tS,tT,tU,tV]
theorem amK (a:Arms):di uD [dj a] (dj a):=by
 refine aa.of NU (by simp) ?_;simp[Eo,w6,w7,w8];refine aZ (aa.ag (acE a.field)) ?_;simp[w9,xb,xd,xe];refine aZ (aa.ag (Jb a.on)) ?_;simp[xf];refine aZ (aa.ag (Jb a.around)) ?_;simp[xg]
set_option maxRecDepth 100000
def sV:=[eF 2 4 0,eF 3 4 1,ok 4 (vB false)]
def ms:=[aL 5 0 2,bl 6 1 5,aL 7 0 3,bl 8 1 7,cI 9 .neq 6 8]
def sW:=[ok 4 (vB false)]
def mu:=[aL 10 1 2,bl 11 1 10,aL 12 1 3,bl 13 1 12,cI 14 .neq 11 13]
def sX:=[ok 4 (vB false)]
def mw:=[aL 15 2 2,bl 16 1 15,aL 17 2 3,bl 18 1 17,cI 19 .neq 16 18]
def sY:=[ok 4 (vB false)]
def my:=[aL 20 3 2,bl 21 1 20,aL 22 3 3,bl 23 1 22,cI 24 .neq 21 23]
def sZ:=[ok 4 (vB false)]
def tc:=[ok 4 (vB true)]
def zF:C:=(sr sV [2,3] (ss (sr ms [2,3,9] (sc 9 (sr sW [4] .ret) .skip)) (ss (sr mu [2,3,14] (sc 14 (sr sX [4] .ret) .skip)) (ss (sr mw [2,3,19] (sc 19 (sr sY [4] .ret) .skip)) (ss (sr my [24] (sc 24 (sr sZ [4] .ret) .skip)) (sr tc [4] .ret))))))
theorem Jq:cE qu zF [(.tmp 4)] 25:=dE func261 rfl
def tl:=[eF 2 4 0,eF 3 4 1,ok 4 (vB false)]
def mC:=[aL 5 0 2,bl 6 1 5,aL 7 0 3,bl 8 1 7,cI 9 .neq 6 8]
def tm:=[ok 4 (vB false)]
def mD:=[aL 10 1 2,bl 11 1 10,aL 12 1 3,bl 13 1 12,cI 14 .neq 11 13]
def tn:=[ok 4 (vB false)]
def mE:=[aL 15 2 2,bl 16 1 15,aL 17 2 3,bl 18 1 17,cI 19 .neq 16 18]
def tp:=[ok 4 (vB false)]
def mF:=[aL 20 3 2,bl 21 1 20,aL 22 3 3,bl 23 1 22,cI 24 .neq 21 23]
def tq:=[ok 4 (vB false)]
def tt:=[ok 4 (vB true)]
def zH:C:=(sr tl [2,3] (ss (sr mC [2,3,9] (sc 9 (sr tm [4] .ret) .skip)) (ss (sr mD [2,3,14] (sc 14 (sr tn [4] .ret) .skip)) (ss (sr mE [2,3,19] (sc 19 (sr tp [4] .ret) .skip)) (ss (sr mF [24] (sc 24 (sr tq [4] .ret) .skip)) (sr tt [4] .ret))))))
theorem Js:cE lW zH [(.tmp 4)] 25:=dE func262 rfl
def wj:=[eF 2 15 0,eF 3 15 1,ok 4 (vB false)]
def wl:=[aL 5 0 2,bu 6 4 5,aL 7 0 3,bu 8 4 7,dK 9 qu 6 8,oo 10 (.un .not (.t 9))]
def wm:=[ok 4 (vB false)]
def oQ:=[aL 11 4 2,bl 12 1 11,aL 13 4 3,bl 14 1 13,cI 15 .neq 12 14]
def wn:=[ok 4 (vB false)]
def oR:=[aL 16 5 2,bl 17 1 16,aL 18 5 3,bl 19 1 18,cI 20 .neq 17 19]
def wo:=[ok 4 (vB false)]
def oU:=[aL 21 6 2,bl 22 1 21,aL 23 6 3,bl 24 1 23,cI 25 .neq 22 24]
def wq:=[ok 4 (vB false)]
def wt:=[aL 26 7 2,bu 27 4 26,aL 28 7 3,bu 29 4 28,dK 30 lW 27 29,oo 31 (.un .not (.t 30))]
def sR:=[ok 4 (vB false)]
def sS:=[aL 32 11 2,bu 33 4 32,aL 34 11 3,bu 35 4 34,dK 36 lW 33 35,oo 37 (.un .not (.t 36))]
def sT:=[ok 4 (vB false)]
def sU:=[ok 4 (vB true)]
def Em:C:=(sr wj [2,3] (ss (sr wl [2,3,10] (sc 10 (sr wm [4] .ret) .skip)) (ss (sr oQ [2,3,15] (sc 15 (sr wn [4] .ret) .skip)) (ss (sr oR [2,3,20] (sc 20 (sr wo [4] .ret) .skip)) (ss (sr oU [2,3,25] (sc 25 (sr wq [4] .ret) .skip)) (ss (sr wt [2,3,31] (sc 31 (sr sR [4] .ret) .skip)) (ss (sr sS [37] (sc 37 (sr sT [4] .ret) .skip)) (sr sU [4] .ret))))))))
theorem NT:cE uB Em [(.tmp 4)] 38:=dE func205 rfl
def td:=[eF 2 18 0,eF 3 18 1,ok 4 (vB false)]
def mz:=[aL 5 0 2,bl 6 1 5,aL 7 0 3,bl 8 1 7,cI 9 .neq 6 8]
def tf:=[ok 4 (vB false)]
def mA:=[aL 10 1 2,bl 11 1 10,aL 12 1 3,bl 13 1 12,cI 14 .neq 11 13]
def tg:=[ok 4 (vB false)]
def mB:=[aL 15 2 2,bl 16 1 15,aL 17 2 3,bl 18 1 17,cI 19 .neq 16 18]
def th:=[ok 4 (vB false)]
def ti:=[aL 20 3 2,bu 21 15 20,aL 22 3 3,bu 23 15 22,dK 24 uB 21 23,oo 25 (.un .not (.t 24))]
def tj:=[ok 4 (vB false)]
def tk:=[ok 4 (vB true)]
def zG:C:=(sr td [2,3] (ss (sr mz [2,3,9] (sc 9 (sr tf [4] .ret) .skip)) (ss (sr mA [2,3,14] (sc 14 (sr tg [4] .ret) .skip)) (ss (sr mB [2,3,19] (sc 19 (sr th [4] .ret) .skip)) (ss (sr ti [25] (sc 25 (sr tj [4] .ret) .skip)) (sr tk [4] .ret))))))
theorem Jr:cE qv zG [(.tmp 4)] 26:=dE func139 rfl
def lg:=[ok 4 (vB false)]
def lh:=[om 6 0,oo 7 (.len false (.t 6)),om 8 1,oo 9 (.len false (.t 8)),cI 10 .neq 7 9]
def lj:=[ok 4 (vB false)]
def qI:=[ok 5 (vI 0)]
def qJ:=[om 11 5,om 12 0,oo 13 (.len false (.t 12)),cI 14 .lss 11 13]
def qK:=[om 17 0,om 18 5,ft 19 18 17 18,bu 20 18 19,om 21 1,om 22 5,ft 23 18 21 22,bu 24 18 23,dK 25 qv 20 24,oo 26 (.un .not (.t 25))]
def qA:List (List Nat):=[[],[],[0,1],[0,1,2],[],[],[4,5],[4,5,6],[0,1,2,3,4,5,6,7],[0,1,2,3,4,5,6,7,8]]
def qL:=[ok 4 (vB false)]
def qM:=[om 15 5,fL 16 15 1,om 5 16]
def ql:C:=(ss (sr qJ [0,1,5,14] (sc 14 .skip (.exit 0))) (ss (.block 1 (ss (.regD qK qA [0,1,5,26]) (sc 26 (sr qL [4] .ret) .skip))) (.reg qM [0,1,5])))
def qN:=[ok 4 (vB true)]
def nU:C:=(sr lg [0,1] (ss (sr lh [0,1,10] (sc 10 (sr lj [4] .ret) .skip)) (ss (sr qI [0,1,5] (.block 0 (.loop ql))) (sr qN [4] .ret))))
def JG:Nat->List Nat
 | 0=>[0,1]
 | 1=>[0,1,10]
 | 2=>[4]
 | 3=>[0,1,5]
 | 4=>[0,1,5,14]
 | 6=>[0,1,5,26]
 | 7=>[4]
 | 5=>[0,1,5]
 | 8=>[4]
 | _=>[]
theorem Gy:cE og nU [(.tmp 4)] 27 :=
 ⟨Tryz.f79,_,JG,func79,rfl,by kernel_rfl,by kernel_rfl,by kernel_rfl,rfl⟩
def nt:=[eF 2 1 0,eF 3 1 1,ok 4 (vB false)]
def nv:=[aL 5 0 2,bl 6 1 5,aL 7 0 3,bl 8 1 7,dK 9 og 6 8,oo 10 (.un .not (.t 9))]
def ny:=[ok 4 (vB false)]
def nz:=[ok 4 (vB true)]
def qe:C:=(sr nt [2,3] (ss (sr nv [10] (sc 10 (sr ny [4] .ret) .skip)) (sr nz [4] .ret)))
theorem A0:cE kG qe [(.tmp 4)] 11:=dE func35 rfl
def tI:=[eF 1 18 0,dD 2 18 zC]
def tJ:=[dD 3 18 zC]
def tK:=[aL 4 0 1,bl 5 1 4,aL 6 0 3,bg 1 6 5]
def tL:=[aL 7 1 1,bl 8 1 7,aL 9 1 3,bg 1 9 8]
def tM:=[aL 10 2 1,bl 11 1 10,aL 12 2 3,bg 1 12 11]
def tN:=[aL 13 3 1,bu 14 15 13,cg 15 uD 14,aL 16 3 3,bg 15 16 15]
def tO:=[bu 17 18 3,bg 18 2 17]
def zK:C:=(sr tI [1,2] (sr tJ [1,2,3] (sr tK [1,2,3] (sr tL [1,2,3] (sr tM [1,2,3] (sr tN [2,3] (sr tO [2] .ret)))))))
theorem Jw:cE qy zK [(.cell 2 true 18)] 18:=dE func138 rfl
def tu:=[eF 2 18 0,ok 4 (vI 0)]
def tv:=[om 5 1,aL 6 1 2,bl 7 1 6,oo 8 (.len true (.t 7)),cI 9 .sub 5 8,om 1 9]
def tw:=[om 10 1,cn 11 .lss 10 0]
def tz:=[ok 4 (vI (-1))]
def tA:=[om 12 1,om 4 12]
def zI:C:=(sr tu [1,2] (sr tv [1] (ss (sr tw [1,11] (sc 11 (sr tz [4] .ret) .skip)) (sr tA [4] .ret))))
theorem Ju:cE qw zI [(.tmp 4)] 13:=dE func137 rfl
def qO:=[ok 4 (vI 0)]
def qP:=[om 6 1,om 7 0,oo 8 (.len false (.t 7)),cI 9 .sub 6 8,om 1 9]
def qQ:=[om 10 1,cn 11 .lss 10 0]
def qR:=[ok 4 (vI (-1))]
def qS:=[ok 5 (vI 0)]
def qT:=[om 12 5,om 13 0,oo 14 (.len false (.t 13)),cI 15 .lss 12 14]
def qU:=[om 18 0,om 19 5,ft 20 18 18 19,bu 21 18 20,om 22 1,dK 23 qw 21 22,om 1 23]
def qV:=[om 24 1,cn 25 .lss 24 0]
def qW:=[ok 4 (vI (-1))]
def qX:=[om 16 5,fL 17 16 1,om 5 17]
def o8:C:=(ss (sr qT [0,1,5,15] (sc 15 .skip (.exit 0))) (ss (.block 1 (sr qU [0,1,5] (sr qV [0,1,5,25] (sc 25 (sr qW [4] .ret) .skip)))) (.reg qX [0,1,5])))
def pr:=[om 26 1,om 4 26]
def vu:C:=(sr qO [0,1] (sr qP [0,1] (ss (sr qQ [0,1,11] (sc 11 (sr qR [4] .ret) .skip)) (ss (sr qS [0,1,5] (.block 0 (.loop o8))) (sr pr [4] .ret)))))
def JH:Nat->List Nat
 | 0=>[0,1]
 | 1=>[0,1]
 | 2=>[0,1,11]
 | 3=>[4]
 | 4=>[0,1,5]
 | 5=>[0,1,5,15]
 | 7=>[0,1,5]
 | 8=>[0,1,5,25]
 | 9=>[4]
 | 6=>[0,1,5]
 | 10=>[4]
 | _=>[]
theorem Gz:cE oh vu [(.tmp 4)] 27 :=
 ⟨Tryz.f77,_,JH,func77,rfl,by kernel_rfl,by kernel_rfl,by kernel_rfl,rfl⟩
def nA:=[eF 2 1 0,ok 4 (vI 0)]
def nB:=[aL 5 0 2,bl 6 1 5,om 7 1,dK 8 oh 6 7,om 1 8]
def nC:=[om 9 1,cn 10 .lss 9 0]
def nD:=[ok 4 (vI (-1))]
def nE:=[om 11 1,om 4 11]
def qf:C:=(sr nA [1,2] (sr nB [1] (ss (sr nC [1,10] (sc 10 (sr nD [4] .ret) .skip)) (sr nE [4] .ret))))
theorem A1:cE kH qf [(.tmp 4)] 12:=dE func31 rfl
def qY:=[ok 2 vN]
def qZ:=[om 5 0,oo 6 (.len false (.t 5)),oo 7 (.mks 18 zC 152 (.t 6) (.t 6)),om 3 7]
def q0:=[ok 4 (vI 0)]
def q7:=[om 8 4,om 9 0,oo 10 (.len false (.t 9)),cI 11 .lss 8 10]
def q8:=[om 14 3,om 15 4,om 16 0,om 17 4,ft 18 18 16 17,bu 19 18 18,cg 20 qy 19,ft 21 18 14 15,bg 18 21 20]
def q9:=[om 12 4,fL 13 12 1,om 4 13]
def qm:C:=(ss (sr q7 [0,3,4,11] (sc 11 .skip (.exit 0))) (ss (.block 1 (.reg q8 [0,3,4])) (.reg q9 [0,3,4])))
def ra:=[om 22 3,om 2 22]
def vv:C:=(sr qY [0] (sr qZ [0,3] (ss (sr q0 [0,3,4] (.block 0 (.loop qm))) (sr ra [2] .ret))))
def JI:Nat->List Nat
 | 0=>[0]
 | 1=>[0,3]
 | 2=>[0,3,4]
 | 3=>[0,3,4,11]
 | 5=>[0,3,4]
 | 4=>[0,3,4]
 | 6=>[2]
 | _=>[]
theorem GA:cE oi vv [(.tmp 2)] 23 :=
 ⟨Tryz.f78,_,JI,func78,rfl,by kernel_rfl,by kernel_rfl,by kernel_rfl,rfl⟩
def nF:=[eF 1 1 0,dD 2 1 (.agg [vN])]
def nG:=[dD 3 1 (.agg [vN])]
def nH:=[aL 4 0 1,bl 5 1 4,cg 6 oi 5,aL 7 0 3,bg 1 7 6]
def nI:=[bu 8 1 3,bg 1 2 8]
def qg:C:=(sr nF [1,2] (sr nG [1,2,3] (sr nH [2,3] (sr nI [2] .ret))))
theorem A2:cE iB qg [(.cell 2 true 1)] 9:=dE func33 rfl
theorem acB (p q:Field):di qu [jC p,jC q] (B (decide (p=q))):=by
 refine aa.of Jq (by simp) ?_;simp[zF,sV];by_cases h0:p.division=q.division;rotate_left
 ·simp[ms,sW,h0,Field.eq_iff]
 simp[ms,h0];by_cases h1:p.line=q.line;rotate_left
 ·simp[mu,sX,h1,h0,Field.eq_iff]
 simp[mu,h1];by_cases h2:p.first=q.first
 rotate_left
 ·simp[mw,sY,h2,h0,h1,Field.eq_iff]
 simp[mw,h2];by_cases h3:p.second=q.second;rotate_left
 ·simp[my,sZ,h3,h0,h1,h2,Field.eq_iff]
 simp[my,h3];simp[tc,Field.eq_iff,h0,h1,h2,h3]
theorem Ja (p q:Group):di lW [ib p,ib q] (B (decide (p=q))):=by
 refine aa.of Js (by simp) ?_;simp[zH,tl];by_cases h0:p.count=q.count;rotate_left
 ·simp[mC,tm,h0,Group.eq_iff]
 simp[mC,h0];by_cases h1:p.kind=q.kind;rotate_left
 ·simp[mD,tn,h1,h0,Group.eq_iff]
 simp[mD,h1];by_cases h2:p.attitude=q.attitude;rotate_left
 ·simp[mE,tp,h2,h0,h1,Group.eq_iff]
 simp[mE,h2];by_cases h3:p.tincture=q.tincture;rotate_left
 ·simp[mF,tq,h3,h0,h1,h2,Group.eq_iff]
 simp[mF,h3];simp[tt,Group.eq_iff,h0,h1,h2,h3]
theorem amG (p q:Arms):di uB [dj p,dj q] (B (decide (p=q))):=by
 refine aa.of NT (by simp) ?_;simp[Em,wj];simp[wl];refine al (aa.ag (acB p.field q.field)) ?_;by_cases h0:p.field=q.field;rotate_left
 ·simp[wm,h0,Arms.eq_iff]
 simp[h0];by_cases h1:p.ordinary=q.ordinary;rotate_left
 ·simp[oQ,wn,h1,h0,Arms.eq_iff]
 simp[oQ,h1];by_cases h2:p.line=q.line;rotate_left
 ·simp[oR,wo,h2,h0,h1,Arms.eq_iff]
 simp[oR,h2];by_cases h3:p.tincture=q.tincture;rotate_left
 ·simp[oU,wq,h3,h0,h1,h2,Arms.eq_iff]
 simp[oU,h3];simp[wt];refine al (aa.ag (Ja p.on q.on)) ?_;by_cases h4:p.on=q.on;rotate_left
 ·simp[sR,h4,h0,h1,h2,h3,Arms.eq_iff]
 simp[h4];simp[sS];refine al (aa.ag (Ja p.around q.around)) ?_;by_cases h5:p.around=q.around;rotate_left
 ·simp[sT,h5,h0,h1,h2,h3,h4,Arms.eq_iff]
 simp[h5];simp[sU,Arms.eq_iff,h0,h1,h2,h3,h4,h5]
theorem acC (p q:Grant):di qv [bd p,bd q] (B (decide (p=q))):=by
 refine aa.of Jr (by simp) ?_;simp[zG,td];by_cases h0:p.number=q.number;rotate_left
 ·simp[mz,tf,h0,Grant.eq_iff]
 simp[mz,h0];by_cases h1:p.name=q.name;rotate_left
 ·simp[mA,tg,h1,h0,Grant.eq_iff]
 simp[mA,h1];by_cases h2:p.year=q.year;rotate_left
 ·simp[mB,th,h2,h0,h1,Grant.eq_iff]
 simp[mB,h2];simp[ti];refine al (aa.ag (amG p.arms q.arms)) ?_;by_cases h3:p.arms=q.arms;rotate_left
 ·simp[tj,h3,h0,h1,h2,Grant.eq_iff]
 simp[h3];simp[tk,Grant.eq_iff,h0,h1,h2,h3]
theorem Vx (a b:List Grant):di og [.ro 18 (a.map bd),.ro 18 (b.map bd)] (B (decide (a=b))):=by
 refine aa.ofL Gy (by simp) fun hl=>?_;simp at hl;by_cases hl:a.length=b.length
 ·simp[nU,lg,lh,lj,qI,qN,hl];refine dl (fun i:Nat=>⟨[(0,.ro 18 (a.map bd)),(1,.ro 18 (b.map bd)),(5,I i)],[],[]⟩) (fun i=>a.length - i) (fun i=>i<=a.length/\a.take i=b.take i) 0 Wk.li (by simp) ?_;rintro i ⟨hi,hj⟩ K hN hR hE;simp[ql,qJ];refine⟨fun hlt=>?_,fun hge=>?_⟩
  ·have hlb:i < b.length:=by omega
   simp[qK,qA,hlt,hlb];refine iV (acC a[i] b[i]) ?_ ?_ ?_
   ·simp
   ·simp
   simp;refine⟨a7 (by first | kernel_rfl | simp) (by first | kernel_rfl | simp),fun hne=>?_,fun he=>?_⟩
   ·simp[qL];refine hR _ ?_;simp;rintro rfl;exact hne rfl
   ·simp[qM];rw[aD (by omega)];refine hN (i+1) _ (by omega) ⟨by omega,?_⟩ Wk.li;rw[dP hlt,dP hlb,hj,he]
  ·refine hE _ _ ?_;rw[List.take_of_length_le (by omega),List.take_of_length_le (by omega)] at hj;simp[hj]
 ·simp[nU,lg,lh,lj,hl];refine⟨fun _ e=>hl (by rw[e]),fun e=>absurd (by omega) hl⟩
theorem LS (a b:aT):di kG [bn a,bn b] (B (decide (a=b))):=by
 refine aa.of A0 (by simp) ?_;simp[qe,nt,nv];refine al (aa.ag (Vx a b)) ?_;by_cases h:a=b
 ·simp[nz,h]
 ·simp[ny,h]
theorem acF (g:Grant):di qy [bd g] (bd g):=by
 refine aa.of Jw (by simp) ?_;simp[zK,tI,tJ,tK,tL,tM,tN];refine aZ (aa.ag (amK g.arms)) ?_;simp[tO]
theorem acD (g:Grant) (left:Int) (h0:0<=left) (h1:left<=1048576):di qw [bd g,I left] (I (rest left g.name.length)):=by
 refine aa.ofL Ju (by simp) fun hl=>?_;simp[TQ,aBe] at hl;simp[zI,tu,tv];rw[aD (by omega)];simp[tw,tz,tA,rest];constructor<;>intros<;>omega
def szG (l:List Grant):Nat:=l.length+kg (l.map Grant.name)
theorem Vz (l:List Grant) (left:Int) (h0:0<=left) (h1:left<=1048576):di oh [.ro 18 (l.map bd),I left] (I (rest left (szG l))):=by
 refine aa.ofL Gz (by simp) fun hl=>?_;simp at hl;simp[qO,qP,vu];rw[aD (by omega)];simp[qQ];refine⟨fun hneg=>?_,fun hge=>?_⟩
 ·simp[qR,rest,szG];omega
 simp[qS,pr];refine GJ (fun i:Nat=>⟨[(0,.ro 18 (l.map bd)),(1,I (left - l.length - kg ((l.map Grant.name).take i))),(5,I i)],[],[]⟩) (fun i=>l.length - i) (fun i=>i<=l.length/\l.length+kg ((l.map Grant.name).take i)<=left) 0 Wk.li ⟨by simp,by simp;omega⟩ ?_;rintro i ⟨hi,hb⟩;simp[o8,qT];refine⟨fun hlt=>?_,fun hge=>?_⟩
 ·simp[qU,hlt];refine al (acD l[i] (left - l.length - kg ((l.map Grant.name).take i)) (by omega) (by omega)) ?_;have e:kg ((l.map Grant.name).take (i+1))=kg ((l.map Grant.name).take i)+l[i].name.length:=by rw[dP (by simpa using hlt),FF,asK,ayY];simp
  have hle:kg ((l.map Grant.name).take (i+1))<=kg (l.map Grant.name):=Hr _ _;simp[qV];refine⟨fun hneg=>?_,fun hpos=>?_⟩
  ·simp[qW];unfold rest at hneg ⊢;unfold szG;split at hneg<;>split<;>omega
  ·simp[qX];have:=tW (by omega:¬rest (left - l.length - kg ((l.map Grant.name).take i)) l[i].name.length < 0);rw[aD (by omega)];refine FD (i+1) (by omega) ⟨by omega,by omega⟩ (Wk.list rfl ?_ (by simp));simp only[rest,e];rw[if_neg (by omega)];simp;omega
 ·obtain rfl:i=l.length:=by omega
  rw[List.take_of_length_le (by simp)] at hb ⊢;unfold rest szG;rw[if_neg (by omega)];omega
theorem LU (l:aT) (left:Int) (h0:0<=left) (h1:left<=1048576):di kH [bn l,I left] (I (rest left (szG l))):=by
 refine aa.of A1 (by simp) ?_;simp[qf,nA,nB];refine al (aa.ag (Vz l left h0 h1)) ?_;simp[nC,nD,nE];intro h;unfold rest at h ⊢;split at h
 ·rename_i h';rw[if_pos h']
 ·rename_i h';rw[if_neg h'];omega
theorem VA (l:List Grant) (hl:l.length<=1048576):di oi [.ro 18 (l.map bd)] (.own 18 (l.map bd)):=by
 refine aa.of GA (by simp) ?_;simp[vv,qY,qZ,q0,bR];refine⟨by omega,?_⟩;simp[ra];refine dl (fun i:Nat=>⟨[(0,.ro 18 (l.map bd)),(3,.sl 7 0 l.length),(4,I i)],[(7,⟨18,(l.map bd).take i++List.replicate (l.length - i) (.agg [I 0,S [],I 0,I 0,I 0,I 0,I 0,I 0,I 0,I 0,I 0,I 0,I 0,I 0,I 0,I 0,I 0,I 0])⟩)],[]⟩) (fun i=>l.length - i) (fun i=>i<=l.length) 0 Wk.li (by simp) ?_;intro i hi K hN hR hE;have hlen:((l.map bd).take i).length=i:=by simp;omega
 simp[qm,q7];refine⟨fun hlt=>?_,fun hge=>?_⟩
 ·simp[q8,hlt];refine bB (acF l[i]) rfl (.inl (by simp)) (by simp) ?_;simp[vD hlen hlt,hlt];simp[q9];rw[aD (by omega)];refine hN (i+1) _ (by omega) (by omega) (Wk.list rfl (by simp) ?_);simp[rV hlen hlt,dP,hlt]
 ·refine hE _ _ ?_;obtain rfl:i=l.length:=by omega
  simp
theorem AQ (l:aT) (hl:l.length<=1048576):di iB [bn l] (ly l):=by
 refine aa.of A2 (by simp) ?_;simp[qg,nF,nG,nH];refine aZ (aa.ag (VA l hl)) ?_;simp[nI]
def zO:=[eF 2 3 0,ok 4 (vI 0)]
def zP:=[om 5 1,aL 6 0 2,bl 7 1 6,oo 8 (.len true (.t 7)),cI 9 .sub 5 8,om 1 9]
def zQ:=[om 10 1,cn 11 .lss 10 0]
def zR:=[ok 4 (vI (-1))]
def zS:=[om 12 1,aL 13 1 2,bl 14 1 13,oo 15 (.len true (.t 14)),cI 16 .sub 12 15,om 1 16]
def zT:=[om 17 1,cn 18 .lss 17 0]
def zU:=[ok 4 (vI (-1))]
def zV:=[om 19 1,om 4 19]
def Im:C:=(sr zO [1,2] (sr zP [1,2] (ss (sr zQ [1,2,11] (sc 11 (sr zR [4] .ret) .skip)) (sr zS [1] (ss (sr zT [1,18] (sc 18 (sr zU [4] .ret) .skip)) (sr zV [4] .ret))))))
theorem TA:cE yt Im [(.tmp 4)] 20:=dE func32 rfl
def zW:=[eF 1 3 0,dD 2 3 (.agg [vS [],vS [],vI 0])]
def zX:=[dD 3 3 (.agg [vS [],vS [],vI 0])]
def zY:=[aL 4 0 1,bl 5 1 4,aL 6 0 3,bg 1 6 5]
def zZ:=[aL 7 1 1,bl 8 1 7,aL 9 1 3,bg 1 9 8]
def z6:=[aL 10 2 1,bl 11 1 10,aL 12 2 3,bg 1 12 11]
def z7:=[bu 13 3 3,bg 3 2 13]
def Io:C:=(sr zW [1,2] (sr zX [1,2,3] (sr zY [1,2,3] (sr zZ [1,2,3] (sr z6 [2,3] (sr z7 [2] .ret))))))
theorem TC:cE vj Io [(.cell 2 true 3)] 14:=dE func34 rfl
def yQ:=[eF 1 3 0,ok 2 vN,ok 3 (vB false)]
def yR:=[bu 6 3 1,cg 7 ux 6,oo 8 (.un .not (.t 7))]
def yS:=[oo 9 (.bslice 2 (.agg [vS [],vS []]) 0 []),om 2 9,ok 3 (vB false)]
def yT:=[aL 11 0 1,bl 12 1 11,aL 13 1 1,bl 14 1 13,cI 15 .add 12 14,cg 16 Ix 15,om 10 16,cJ 17 10 0,cJ 18 10 1,om 4 17,om 5 18]
def yU:=[om 19 4,om 2 19,ok 3 (vB true)]
def Ek:C:=(sr yQ [1] (ss (sr yR [1,8] (sc 8 (sr yS [2,3] .ret) .skip)) (sr yT [4] (sr yU [2,3] .ret))))
theorem Pr:cE uw Ek [(.tmp 2),(.tmp 3)] 20:=dE func69 rfl
def m7:=[eF 1 3 0,ok 2 vN,ok 3 (vB false)]
def m8:=[bu 6 3 1,cg 7 qn 6,oo 8 (.un .not (.t 7))]
def m9:=[ok 2 vN,ok 3 (vB false)]
def na:=[aL 10 0 1,bl 11 1 10,aL 12 1 1,bl 13 1 12,cI 14 .add 11 13,cg 15 rE 14,om 9 15,cJ 16 9 0,cJ 17 9 1,om 4 16,om 5 17]
def nb:=[om 18 4,om 2 18,ok 3 (vB true)]
def qb:C:=(sr m7 [1] (ss (sr m8 [1,8] (sc 8 (sr m9 [2,3] .ret) .skip)) (sr na [4] (sr nb [2,3] .ret))))
theorem AY:cE kD qb [(.tmp 2),(.tmp 3)] 19:=dE func42 rfl
theorem oV (l:Log):(df l).length<=60:=by
 unfold df;split
 ·exact Fg 60 0 _
 ·simp
theorem ad6 (l:Log) (hf:iw l):di uw [rA l] (.tup [.own 2 ((df l).map dc),B (fx l)]):=by
 have hf':=hf;unfold iw at hf';refine aa.ofN Pr (by simp) ?_;simp[Ek,yQ,yR];refine al (aa.ag (LM l hf)) ?_;cases h:fx l with
 | false=>simp[yS,df,h]
 | true =>
   simp[yT];refine⟨by omega,?_⟩;refine aZ (aa.ag (ane (l.durable++l.pending) (by rw[List.length_append];omega))) ?_;simp[yU,df,h]
theorem JC (l:Log) (hf:iw l):di kD [rA l] (.tup [.own 2 ((df l).map dc),B (fx l)]):=by
 have hf':=hf;unfold iw at hf';refine aa.ofN AY (by simp) ?_;simp[qb,m7,m8];refine al (aa.ag (Fq l hf)) ?_;cases h:fx l with
 | false=>simp[m9,df,h]
 | true =>
   simp[na];refine⟨by omega,?_⟩;refine aZ (aa.ag (GD (l.durable++l.pending) (by rw[List.length_append];omega))) ?_;simp[nb,df,h]
theorem axD (l:Log) (left:Int) (h0:0<=left) (h1:left<=1048576):di yt [rA l,I left] (I (rest left (l.durable.length+l.pending.length))):=by
 refine aa.ofL TA (by simp) fun hl=>?_;simp at hl;obtain ⟨hc,hr⟩:=hl;simp[Im,zO,zP];rw[aD (by omega)];simp[zQ];refine⟨fun h=>?_,fun h=>?_⟩
 ·simp[zR,rest];omega
 ·simp[zS];rw[aD (by omega)];simp[zT,zU,zV,rest];constructor<;>intros<;>omega
theorem anj (l:Log):di vj [rA l] (rA l):=by
 refine aa.of TC (by simp) ?_;simp[Io,zW,zX,zY,zZ,z6,z7]
def eD (c:Console) (L:List (List UInt8)) (k:Nat):Console:=(L.take k).foldl (fun d s=>(gN d s).1) c
theorem kh (c:Console) (L:List (List UInt8)):eD c L 0=c:=by simp[eD]
theorem rz {c:Console} {L:List (List UInt8)} {k:Nat} (h:k < L.length):eD c L (k+1)=(gN (eD c L k) L[k]).1:=by
 unfold eD;rw[dP h,List.foldl_append];rfl
theorem ry {c:Console} (L:List (List UInt8)) (hf:iw c.log) (hl:c.grants.length<=1048576):∀ k,iw (eD c L k).log/\(eD c L k).grants.length<=1048576:=by
 intro k;unfold eD;generalize L.take k=M
 induction M generalizing c with
 | nil=>exact⟨hf,hl⟩
 | cons s M ih =>
   have:=vg s hf hl;exact ih this.1 this.2
def kp (c:Console):List LogRecord->Nat
 | []=>0
 | e::l=>if (gN c e.command).2=e.reply then kp (gN c e.command).1 l+1 else 0
def yB:=[eF 1 1 0,dD 2 4 (.agg [vN,vS [],vS [],vI 0]),ok 3 (vB false)]
def yC:=[bu 4 1 1,cg 5 eU 4,oo 6 (.un .not (.t 5))]
def yD:=[oo 7 (.build (.agg [vN,vS [],vS [],vI 0]) []),bg 4 2 7,ok 3 (vB false)]
def yE:=[bu 8 1 1,cg 9 lV 8,oo 10 (.build (.agg [vN,vS [],vS [],vI 0]) [(0,(1,(.t 9)))]),bg 4 2 10,ok 3 (vB true)]
def Eh:C:=(sr yB [1,2] (ss (sr yC [1,2,6] (sc 6 (sr yD [2,3] .ret) .skip)) (sr yE [2,3] .ret)))
theorem Pq:cE qo Eh [(.cell 2 true 4),(.tmp 3)] 11:=dE func26 rfl
def iE:=[eF 1 1 0,dD 2 4 (.agg [vN,vS [],vS [],vI 0]),ok 3 (vB false)]
def iF:=[bu 4 1 1,cg 5 mZ 4,oo 6 (.un .not (.t 5))]
def iG:=[oo 7 (.build (.agg [vN,vS [],vS [],vI 0]) []),bg 4 2 7,ok 3 (vB false)]
def iH:=[bu 8 1 1,cg 9 Ai 8,oo 10 (.build (.agg [vN,vS [],vS [],vI 0]) [(0,(1,(.t 9)))]),bg 4 2 10,ok 3 (vB true)]
def kr:C:=(sr iE [1,2] (ss (sr iF [1,2,6] (sc 6 (sr iG [2,3] .ret) .skip)) (sr iH [2,3] .ret)))
theorem rC:cE ff kr [(.cell 2 true 4),(.tmp 3)] 11:=dE func27 rfl
def oj (r:aT):Console:=if bx r then ⟨r,⟨[],[],0⟩⟩ else ⟨[],⟨[],[],0⟩⟩
theorem aDd (r:aT):(oj r).grants.length<=12:=by
 unfold oj;split
 ·rename_i h;exact eo h
 ·simp
theorem Sv (r:aT) (hl:r.length<=1048576):di qo [bn r] (.tup [GN (oj r),B (bx r)]):=by
 refine aa.ofN Pq (by simp) ?_;simp[Eh,yB,yC];refine al (aa.ag (gR r)) ?_;cases h:bx r with
 | false=>simp[yD,oj,h]
 | true =>
   simp[yE];refine aZ (aa.ag (vh r hl)) ?_;simp[oj,h]
theorem p8 (r:aT) (hl:r.length<=1048576):di ff [bn r] (.tup [GN (oj r),B (bx r)]):=by
 refine aa.ofN rC (by simp) ?_;simp[kr,iE,iF];refine al (aa.ag (zx r)) ?_;cases h:bx r with
 | false=>simp[iG,oj,h]
 | true =>
   simp[iH];refine aZ (aa.ag (Vl r hl)) ?_;simp[oj,h]
@[simp] theorem ar6 (i:Nat) (blk:Blk) (l:List (List UInt8)):Jy i blk (l.map S)=l.map S:=nY fun _=>rfl
@[simp] theorem aFn (i:Nat) (blk:Blk) (l:List LogRecord):Jy i blk (l.map dc)=l.map dc:=nY fun _=>rfl
def fH (r:aT) (l:Log):Bool:=bx r&&fx l
def AM (r:aT) (l:Log):Nat:=if fH r l=true then kp (oj r) (df l) else 0
def vb (l:List LogRecord):List (List UInt8):=l.map (·.command)
theorem Pf {c:Console} {l:List LogRecord} {i:Nat} {e:LogRecord} (h:l[i]?=some e) :
  kp c (l.drop i)=if (gN c e.command).2=e.reply then kp (gN c e.command).1 (l.drop (i+1))+1 else 0:=by
 obtain ⟨hi,rfl⟩:=List.getElem?_eq_some_iff.1 h;rw[List.drop_eq_getElem_cons hi];rfl
theorem S6 (r:aT):iw (oj r).log/\(oj r).grants.length<=1048576:=by
 have:=aDd r;refine⟨?_,by omega⟩;unfold oj iw;split<;>simp
theorem NV (r:aT) (l:Log) (hf:iw l) (hl:r.length<=1048576):di pT [bn r,rA l] (.tup [I (AM r l),B (fH r l)]):=by
 have hE:AM r l=if fH r l=true then kp (oj r) (df l) else 0:=rfl
 have hO:fH r l=(bx r&&fx l):=rfl;have hrl:=oV l;have hrec:=JC l hf;refine aa.of Ts (by simp) ?_;simp[Gm,Bb,Bc];refine aZ (aa.ag (Sv r hl)) ?_;simp[Bd];refine aZ (aa.ag hrec) ?_;generalize df l=L at hE hrl hrec;simp[Be];cases hr:bx r with
 | false =>
   have hO:fH r l=false:=by rw[hO,hr];rfl
   rw[if_neg (by simp[hO])] at hE;simp[rN,hE,hO]
 | true =>
   cases hg:fx l with
   | false =>
     have hO:fH r l=false:=by rw[hO,hg,Bool.and_false]
     rw[if_neg (by simp[hO])] at hE;simp[rN,hE,hO]
   | true =>
     have hO:fH r l=true:=by rw[hO,hg,hr];rfl
     rw[if_pos hO] at hE;obtain ⟨hcf,hcl⟩:=S6 r;have hfs:=ry (vb L) hcf hcl;generalize oj r=c0 at hE hcf hcl hfs;simp[Bf,yn]
     refine dl (fun i:Nat=>⟨[(6,.ref 6 0 0),(8,.sl 21 0 L.length),(30,.sl 21 0 L.length),(31,I L.length),(32,I i)],[(6,⟨4,[co (eD c0 (vb L) i)]⟩),(21,⟨2,L.map dc⟩)],[]⟩) (fun i=>L.length - i)
      (fun i=>i<=L.length/\kp c0 L=i+kp (eD c0 (vb L) i) (L.drop i)) 0 (Wk.trans (Wk.frz 16 ⟨18,c0.grants.map bd⟩ (by simp) (by simp) (by simp)) (Wk.list rfl (by simp) (by simp[kh,List.take_of_length_le]))) (by simp[kh]) ?_
     rintro i ⟨hi,hj⟩ K hN hR hE';simp[Bg,yH];refine⟨fun hlt=>?_,fun hge=>?_⟩
     ·have hcs:=rz (c:=c0) (L:=vb L) (k:=i) (by simpa [vb] using hlt);have hcm:(vb L)[i]'(by simpa [vb] using hlt)=L[i].command:=by simp[vb]
      rw[hcm] at hcs;have hg:L[i]?=some L[i]:=List.getElem?_eq_getElem hlt;rw[Pf hg] at hj;have hI:=pH (eD c0 (vb L) i) L[i].command (hfs i).1 (hfs i).2;have hk:=(vg L[i].command (hfs i).1 (hfs i).2).2;generalize L[i]=e at hcs hg hj hI hk;obtain ⟨p,hp⟩:∃ p,gN (eD c0 (vb L) i) e.command=p:=⟨_,rfl⟩;rw[hp] at hcs hI hk hj;obtain ⟨d,t⟩:=p;dsimp only at hcs hI hk hj;generalize eD c0 (vb L) i=ci at hI hp ⊢;simp[Bh,hg];refine⟨hlt,?_⟩;simp[Bi];refine aZ (aa.ag hI) ?_;simp[Bj];refine⟨fun hne=>?_,fun heq=>?_⟩
      ·rw[if_neg hne] at hj;simp[yF];refine hR _ ?_;simp[hO,hE,hj]
      ·rw[if_pos heq] at hj;simp[yG];rw[aD (by omega)];refine hN (i+1) _ (by omega) ⟨by omega,by rw[hcs,hj];omega⟩ (Wk.trans (Wk.frz 41 ⟨18,d.grants.map bd⟩ (by simp) (by simp) (by simp)) (Wk.list rfl ?_ ?_))
       ·simp
       ·simp[hcs,List.take_of_length_le]
     ·obtain rfl:i=L.length:=by omega
      rw[List.drop_of_length_le (Nat.le_refl _)] at hj;refine hE' _ _ ?_;simp[yI,hO,hE,hj,kp]
theorem amm (r:aT) (l:Log) (hf:iw l) (hl:r.length<=1048576):di xu [bn r,rA l] (.tup [I (AM r l),B (fH r l)]):=by
 have hE:AM r l=if fH r l=true then kp (oj r) (df l) else 0:=rfl
 have hO:fH r l=(bx r&&fx l):=rfl;have hrl:=oV l;have hrec:=ad6 l hf;refine aa.of Tu (by simp) ?_;simp[Gq,BK,BL];refine aZ (aa.ag (p8 r hl)) ?_;simp[BM];cases hr:bx r with
 | false =>
   have hO:fH r l=false:=by rw[hO,hr];rfl
   rw[if_neg (by simp[hO])] at hE;simp[rP,hE,hO]
 | true =>
   simp;refine al (aa.ag (LM l hf)) ?_;cases hg:fx l with
   | false =>
     have hO:fH r l=false:=by rw[hO,hg,Bool.and_false]
     rw[if_neg (by simp[hO])] at hE;simp[rP,hE,hO]
   | true =>
     have hO:fH r l=true:=by rw[hO,hg,hr];rfl
     rw[if_pos hO] at hE;obtain ⟨hcf,hcl⟩:=S6 r;simp[BN];refine aZ (aa.ag hrec) ?_;generalize df l=L at hE hrl hrec;have hfs:=ry (vb L) hcf hcl;generalize oj r=c0 at hE hcf hcl hfs;simp[BO,BP,yp]
     refine dl (fun i:Nat=>⟨[(6,.ref 6 0 0),(8,.sl 26 0 L.length),(11,I i)],[(6,⟨4,[co (eD c0 (vb L) i)]⟩),(26,⟨2,L.map dc⟩)],[]⟩) (fun i=>L.length - i)
      (fun i=>i<=L.length/\kp c0 L=i+kp (eD c0 (vb L) i) (L.drop i)) 0 (Wk.trans (Wk.frz 14 ⟨18,c0.grants.map bd⟩ (by simp) (by simp) (by simp)) (Wk.list rfl (by simp) (by simp[kh,List.take_of_length_le]))) (by simp[kh]) ?_
     rintro i ⟨hi,hj⟩ K hN hR hE';simp[BQ,yW];refine⟨fun hlt=>?_,fun hge=>?_⟩
     ·have hcs:=rz (c:=c0) (L:=vb L) (k:=i) (by simpa [vb] using hlt);have hcm:(vb L)[i]'(by simpa [vb] using hlt)=L[i].command:=by simp[vb]
      rw[hcm] at hcs;have hg:L[i]?=some L[i]:=List.getElem?_eq_getElem hlt;rw[Pf hg] at hj;have hI:=jJ (eD c0 (vb L) i) L[i].command (hfs i).1 (hfs i).2;obtain ⟨e,he⟩:∃ e,L[i]=e:=⟨_,rfl⟩;have hgE:∀ h,L[i]'h=e:=fun _=>he;rw[he] at hcs hg hj hI;obtain ⟨p,hp⟩:∃ p,gN (eD c0 (vb L) i) e.command=p:=⟨_,rfl⟩;rw[hp] at hcs hI hj;obtain ⟨d,t⟩:=p;dsimp only at hcs hI hj;generalize eD c0 (vb L) i=ci at hI hp ⊢;simp[BR,rJ,hg,hlt,hgE];refine Hv (aa.ag hI) ?_;simp;refine⟨a7 (by simp[rJ]) (by simp),?_⟩;simp[BS,hg,hlt,hgE];refine⟨fun hne=>?_,fun heq=>?_⟩
      ·rw[if_neg hne] at hj;simp[yV];refine hR _ ?_;simp[hO,hE,hj]
      ·rw[if_pos heq] at hj;rw[aD (by omega)];refine hN (i+1) _ (by omega) ⟨by omega,by rw[hcs,hj];omega⟩ (Wk.list rfl ?_ ?_)
       ·first | rfl | simp
       ·simp[hcs]
     ·obtain rfl:i=L.length:=by omega
      rw[List.drop_of_length_le (Nat.le_refl _)] at hj;refine hE' _ _ ?_;simp[yX,hO,hE,hj,kp]
theorem aLQ (r:aT) (l:Log):di N6 [bn r,rA l] (B true):=by
 refine aa.of ahf (by simp) ?_;simp[NM,Lm,Ln,Lo];refine al (aa.ag (LU r 1048576 (by omega) (by omega))) ?_;simp[Lp];refine⟨fun _=>by simp[Lq],fun hge=>?_⟩;have hs:=tW (left:=1048576) (n:=szG r) (by omega);have hl:r.length<=1048576:=by unfold szG at hs;omega
 have he:rest 1048576 (szG r)=1048576 - szG r:=by unfold rest;rw[if_neg (by omega)]
 rw[he];simp[Lr];refine al (aa.ag (axD l (1048576 - szG r) (by omega) (by omega))) ?_;simp[Ls];refine⟨fun _=>by simp[Lt],fun hge2=>?_⟩
 have hf:iw l:=by
  unfold rest at hge2;unfold iw;split at hge2<;>omega
 have hI:=NV r l hf hl;have hS:=amm r l hf hl;generalize AM r l=n at hI hS;generalize fH r l=b at hI hS;simp[Lu,Ar];refine gm (aa.ag (AQ r hl)) ?_;simp;refine gm (aa.ag (anj l)) ?_;simp;refine gm (aa.at hS) ?_;simp;refine⟨a7 (by simp[Ar]) (by simp),?_⟩;simp[Lv];refine aZ (aa.ag (AQ r hl)) ?_;simp[IG,yv];refine gm (aa.ag (anj l)) ?_;simp;refine gm (aa.at hI) ?_;simp;refine⟨a7 (by simp[yv]) (by simp),?_⟩;simp[IH];simp[II,yw];refine gm (aa.ag (AQ r hl)) ?_;simp;refine cF (aa.at (LS r r)) ?_;simp;refine⟨a7 (by simp[yw]) (by simp),?_⟩;simp[IJ]
end Go.Proofs.YtnjjimhkbpdpgaaGreatDoor
