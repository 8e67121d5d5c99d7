/- Parts of the proof, part 1. -/
import Derived.Test.YtnjjimhkbpdpgaaGreatDoorProg
import Derived.KernelRfl
import Derived.Lib.ItoaNum
import Derived.Lib.LaidTab
import Derived.Sort.Grow
import Derived.Deep.Draws
import Derived.Below
import Derived.Test.YtnjjimhkbpdpgaaGreatDoorQ7
set_option linter.unusedVariables false
set_option linter.unusedSimpArgs false
namespace Go.Proofs.YtnjjimhkbpdpgaaGreatDoor
def FK:Nat:=3
def xw:Nat:=9
def jH:Nat:=11
def nP:Nat:=13
def pb:Nat:=14
def HC:Nat:=15
def kH:Nat:=31
def yt:Nat:=32
def iB:Nat:=33
def vj:Nat:=34
def kG:Nat:=35
def MY:Nat:=53
def pI:Nat:=54
def MZ:Nat:=55
def oh:Nat:=77
def oi:Nat:=78
def og:Nat:=79
def pV:Nat:=80
def uC:Nat:=113
def T0:Nat:=114
def qw:Nat:=137
def qy:Nat:=138
def qv:Nat:=139
def uD:Nat:=204
def uB:Nat:=205
def qx:Nat:=259
def lX:Nat:=260
def qu:Nat:=261
def lW:Nat:=262
open Abs
end Go.Proofs.YtnjjimhkbpdpgaaGreatDoor
namespace Go.Proofs.YtnjjimhkbpdpgaaGreatDoor
open Go.Abs
set_option maxRecDepth 100000
open Tryz
def DT:=[eF 2 4 0,ok 4 (vB false)]
def DU:=[om 16 1,oo 17 (.len true (.t 16)),cn 18 .gtr 17 1048576]
def DV:=[ok 4 (vB true)]
def DW:=[ok 5 (vI 1048576)]
def DX:=[bu 19 4 2,om 20 5,dK 21 xw 19 20,om 5 21]
def DY:=[om 22 5,cn 23 .lss 22 0]
def DZ:=[ok 4 (vB true)]
def D1:=[bu 25 4 2,cg 26 jH 25,om 27 1,dK 28 fT 26 27,om 24 28,cJ 29 24 0,cJ 30 24 1,dD 6 4 (.agg [vN,vS [],vS [],vI 0]),bg 4 6 29,om 7 30]
def D4:=[bu 31 4 2,cg 32 jH 31,dD 8 4 (.agg [vN,vS [],vS [],vI 0]),bg 4 8 32]
def D5:=[bu 34 4 8,om 35 1,dK 36 ia 34 35,om 33 36,cJ 37 33 0,cJ 38 33 1,dD 9 4 (.agg [vN,vS [],vS [],vI 0]),bg 4 9 37,om 10 38]
def Cd:=[bu 39 4 9,bu 40 4 6,dK 41 nP 39 40,oo 42 (.un .not (.t 41)),om 43 42,oF 43 44 (.mv (.t 10)),oF 43 45 (.mv (.t 7)),oF 43 46 (.bin .neq .none (.t 44) (.t 45)),oo 47 (.pick (.t 43) (xB true) (.t 46))]
def PX:=[ok 4 (vB false)]
def Ce:=[bu 48 4 8,bu 49 4 2,cg 50 jH 49,dK 51 nP 48 50,oo 52 (.un .not (.t 51))]
def rL:List (List Nat):=[[],[],[1],[0,1,2],[0,1,2,3]]
def PY:=[ok 4 (vB false)]
def Cf:=[ok 11 (vI 1)]
def Cg:=[bu 53 4 8,om 54 11,dK 55 pb 53 54,om 11 55]
def Ch:=[om 56 11,cn 57 .lss 56 0,om 58 57,oF 58 59 (.ld true 4 (.t 9)),oF 58 60 (.ld true 4 (.t 6)),oF 58 61 (.call nP [.t 59,.t 60]),oF 58 62 (.un .not (.t 61)),oo 63 (.pick (.t 58) (xB true) (.t 62)),om 64 63,oF 64 65 (.mv (.t 10)),oF 64 66 (.mv (.t 7)),oF 64 67 (.bin .neq .none (.t 65) (.t 66)),oo 68 (.pick (.t 64) (xB true) (.t 67))]
def PZ:=[ok 4 (vB false)]
def Ci:=[ok 12 (vI 1)]
def Cj:=[bu 69 4 9,om 70 12,dK 71 pb 69 70,om 12 71]
def Ck:=[ok 13 (vI 1)]
def Cl:=[bu 72 4 9,om 73 13,dK 74 HC 72 73,om 13 74]
def Cm:=[om 75 13,cn 76 .lss 75 0]
def P0:=[ok 4 (vB false)]
def Cn:=[om 77 13,om 78 12,cI 79 .neq 77 78]
def P1:=[ok 4 (vB false)]
def Co:=[bu 81 4 2,cg 82 jH 81,om 83 1,dK 84 ia 82 83,om 80 84,cJ 85 80 0,cJ 86 80 1,dD 14 4 (.agg [vN,vS [],vS [],vI 0]),bg 4 14 85,om 15 86]
def Cp:=[bu 87 4 14,bu 88 4 6,dK 89 nP 87 88,oo 90 (.un .not (.t 89)),om 91 90,oF 91 92 (.mv (.t 15)),oF 91 93 (.mv (.t 7)),oF 91 94 (.bin .neq .none (.t 92) (.t 93)),oo 95 (.pick (.t 91) (xB true) (.t 94))]
def P2:=[ok 4 (vB false)]
def Cq:=[ok 13 (vI 1)]
def Cr:=[bu 96 4 9,om 97 13,dK 98 HC 96 97,om 13 98]
def Cs:=[om 99 13,cn 100 .lss 99 0]
def P3:=[ok 4 (vB false)]
def Ct:=[om 101 13,om 102 12,cI 103 .neq 101 102]
def P4:=[ok 4 (vB false)]
def Cu:=[ok 4 (vB true)]
def FH:C:=(sr DT [1,2] (ss (sr DU [1,2,18] (sc 18 (sr DV [4] .ret) .skip)) (sr DW [1,2,5] (sr DX [1,2,5] (ss (sr DY [1,2,23] (sc 23 (sr DZ [4] .ret) .skip)) (sr D1 [1,2,6,7] (sr D4 [1,2,6,7,8] (sr D5 [1,2,6,7,8,9,10] (ss (sr Cd [1,2,6,7,8,9,10,47] (sc 47 (sr PX [4] .ret) .skip)) (ss (ss (.regD Ce rL [1,2,6,7,8,9,10,52]) (sc 52 (sr PY [4] .ret) .skip)) (sr Cf [1,2,6,7,8,9,10,11] (sr Cg [1,2,6,7,9,10,11] (ss (sr Ch [1,2,6,7,9,68] (sc 68 (sr PZ [4] .ret) .skip)) (sr Ci [1,2,6,7,9,12] (sr Cj [1,2,6,7,9,12] (sr Ck [1,2,6,7,9,12,13] (sr Cl [1,2,6,7,9,12,13] (ss (sr Cm [1,2,6,7,9,12,13,76] (sc 76 (sr P0 [4] .ret) .skip)) (ss (sr Cn [1,2,6,7,9,12,79] (sc 79 (sr P1 [4] .ret) .skip)) (sr Co [6,7,9,12,14,15] (ss (sr Cp [9,12,95] (sc 95 (sr P2 [4] .ret) .skip)) (sr Cq [9,12,13] (sr Cr [12,13] (ss (sr Cs [12,13,100] (sc 100 (sr P3 [4] .ret) .skip)) (ss (sr Ct [103] (sc 103 (sr P4 [4] .ret) .skip)) (sr Cu [4] .ret))))))))))))))))))))))))))
theorem Tx:cE FK FH [(.tmp 4)] 104:=dE func3 rfl
def tB:=[eF 1 4 0,dD 2 4 xR]
def tC:=[dD 3 4 xR]
def tD:=[aL 4 0 1,bl 5 1 4,aL 6 0 3,bg 1 6 5]
def tE:=[aL 7 1 1,bl 8 1 7,aL 9 1 3,bg 1 9 8]
def tF:=[aL 10 2 1,bl 11 1 10,aL 12 2 3,bg 1 12 11]
def tG:=[aL 13 3 1,bl 14 1 13,aL 15 3 3,bg 1 15 14]
def tH:=[bu 16 4 3,bg 4 2 16]
def zJ:C:=(sr tB [1,2] (sr tC [1,2,3] (sr tD [1,2,3] (sr tE [1,2,3] (sr tF [1,2,3] (sr tG [2,3] (sr tH [2] .ret)))))))
theorem Jv:cE qx zJ [(.cell 2 true 4)] 17:=dE func259 rfl
def tP:=[eF 1 4 0,dD 2 4 xR]
def tQ:=[dD 3 4 xR]
def tR:=[aL 4 0 1,bl 5 1 4,aL 6 0 3,bg 1 6 5]
def tS:=[aL 7 1 1,bl 8 1 7,aL 9 1 3,bg 1 9 8]
def tT:=[aL 10 2 1,bl 11 1 10,aL 12 2 3,bg 1 12 11]
def tU:=[aL 13 3 1,bl 14 1 13,aL 15 3 3,bg 1 15 14]
def tV:=[bu 16 4 3,bg 4 2 16]
def zL:C:=(sr tP [1,2] (sr tQ [1,2,3] (sr tR [1,2,3] (sr tS [1,2,3] (sr tT [1,2,3] (sr tU [2,3] (sr tV [2] .ret)))))))
theorem Jx:cE lX zL [(.cell 2 true 4)] 17:=dE func260 rfl
def w6:=[eF 1 15 0,dD 2 15 lm]
def w7:=[dD 3 15 lm]
def w8:=[aL 4 0 1,bu 5 4 4,cg 6 qx 5,aL 7 0 3,bg 4 7 6]
def w9:=[aL 8 4 1,bl 9 1 8,aL 10 4 3,bg 1 10 9]
def xb:=[aL 11 5 1,bl 12 1 11,aL 13 5 3,bg 1 13 12]
def xd:=[aL 14 6 1,bl 15 1 14,aL 16 6 3,bg 1 16 15]
def xe:=[aL 17 7 1,bu 18 4 17,cg 19 lX 18,aL 20 7 3,bg 4 20 19]
def xf:=[aL 21 11 1,bu 22 4 21,cg 23 lX 22,aL 24 11 3,bg 4 24 23]
def xg:=[bu 25 15 3,bg 15 2 25]
def Eo:C:=(sr w6 [1,2] (sr w7 [1,2,3] (sr w8 [1,2,3] (sr w9 [1,2,3] (sr xb [1,2,3] (sr xd [1,2,3] (sr xe [1,2,3] (sr xf [2,3] (sr xg [2] .ret)))))))))
theorem NU:cE uD Eo [(.cell 2 true 15)] 26:=dE func204 rfl
end Go.Proofs.YtnjjimhkbpdpgaaGreatDoor
namespace Go.Abs
variable [gI : GI]
theorem aF5 {P:Program} {f:Nat} {vs:List V} {s:AS} {d:Nat} {K:AS->Prop} {x:Value} (M:List Nat) {H0:List Blk} {H1:List (Option Blk)} (h:ac P f H0 (vs.map (vc M (fy s.hp) 6)) (.v x) H1)
  (h1:M.Nodup) (h2:M.map (fy s.hp)=H0.map some) (h3:∀ blk ∈ H0,bN blk.es=true) (h4:WA H1=true) (h5:K ((s.wrote M H1).put (some d) (.v x))):vw P f vs s d K :=
 .inr <| .inl ⟨M,H0,.v x,H1,h,h1,h2,h3,h4,rfl,rfl,by simp[ix],by rw[aHt];exact h5⟩
end Go.Abs
namespace Go.Abs
variable [GI]
theorem jA.ofPCall {P:Program} {f:Nat} {args:List V} {res:V} (h:aa P f args res) (ha:∀ id,da id args=false) (hr:∀ id,gj id res=false) (ho:g9 res=true):jA P f [] args (fun r k nw=>r=res/\k=[]/\nw=none):=by
 refine⟨h.1,fun w D xs p0 F0 hD hg _ _ _ hx=>?_⟩;have hx':iU w D args (fun _=>none) xs []:=aho (fun _ h=>h) _ _ _ _ _ (fun _ _=>rfl) (fun id hm=>by rw[ha id] at hm;cases hm) hx;refine(h.2 w D xs hD hg hx').mono ?_;rintro e w' ⟨y,D',fp,rfl,hgr,hcv,hnd,hfp⟩;have hf:fp=[]:=Gj _ _ _ _ ho hcv;subst hf;exact⟨res,[],none,⟨rfl,rfl,rfl⟩,rfl,y,D',p0,[],[],rfl,by simpa using hgr,fun k hk=>by simp at hk,pS (fun _ h=>h) _ _ _ _ _ (fun _ _=>rfl) (fun id hm=>by rw[hr id] at hm;cases hm) hcv,rfl,fun k blk g hk=>by simp at hk,rfl,by simp,fun b hb=>by simp at hb⟩
end Go.Abs
namespace Go.Abs
section
variable [GI] {P : Program} {f d i : Nat} {args args' vs : List V} {res : V} {x : Value} {s : AS} {K : AS → Prop} {c : CO} {next : It → AS → Prop} {H0 : List Blk} {H1 : List (Option Blk)}
theorem So (M:List Nat) (h:ac P f H0 (vs.map (vc M (fy s.hp) 6)) (.v x) H1) (h5:K ((s.wrote M H1).put (some d) (.v x)))
  (h1:M.Nodup:=by simp) (h2:M.map (fy s.hp)=H0.map some:=by simp) (h3:∀ blk ∈ H0,bN blk.es=true:=by simp) (h4:WA H1=true:=by simp):vw P f vs s d K:=aF5 M h h1 h2 h3 h4 h5
end
end Go.Abs
namespace Go.Proofs.YtnjjimhkbpdpgaaGreatDoor
open Go.Abs
open Tryz
theorem Hr {α:Type} (l:List (List α)) (i:Nat):kg (l.take i)<=kg l:=by
 have:kg l=kg (l.take i)+kg (l.drop i):=by rw[<- FF,List.take_append_drop]
 omega
theorem tW {left:Int} {n:Nat} (h:¬rest left n < 0):(n:Int)<=left:=by
 unfold rest at h;split at h<;>omega
theorem acE (f:Field):di qx [jC f] (jC f):=by
 refine aa.of Jv (by simp) ?_;simp[zJ,tB,tC,tD,tE,tF,tG,tH]
theorem Jb (g:Group):di lX [ib g] (ib g):=by
 refine aa.of Jx (by simp) ?_;simp[zL,tP,tQ,tR,tS,tT,tU,tV]
theorem amK (a:Arms):di uD [dj a] (dj a):=by
 refine aa.of NU (by simp) ?_;simp[Eo,w6,w7,w8];refine aZ (aa.ag (acE a.field)) ?_;simp[w9,xb,xd,xe];refine aZ (aa.ag (Jb a.on)) ?_;simp[xf];refine aZ (aa.ag (Jb a.around)) ?_;simp[xg]
set_option maxRecDepth 100000
def sV:=[eF 2 4 0,eF 3 4 1,ok 4 (vB false)]
def ms:=[aL 5 0 2,bl 6 1 5,aL 7 0 3,bl 8 1 7,cI 9 .neq 6 8]
def sW:=[ok 4 (vB false)]
def mu:=[aL 10 1 2,bl 11 1 10,aL 12 1 3,bl 13 1 12,cI 14 .neq 11 13]
def sX:=[ok 4 (vB false)]
def mw:=[aL 15 2 2,bl 16 1 15,aL 17 2 3,bl 18 1 17,cI 19 .neq 16 18]
def sY:=[ok 4 (vB false)]
def my:=[aL 20 3 2,bl 21 1 20,aL 22 3 3,bl 23 1 22,cI 24 .neq 21 23]
def sZ:=[ok 4 (vB false)]
def tc:=[ok 4 (vB true)]
def zF:C:=(sr sV [2,3] (ss (sr ms [2,3,9] (sc 9 (sr sW [4] .ret) .skip)) (ss (sr mu [2,3,14] (sc 14 (sr sX [4] .ret) .skip)) (ss (sr mw [2,3,19] (sc 19 (sr sY [4] .ret) .skip)) (ss (sr my [24] (sc 24 (sr sZ [4] .ret) .skip)) (sr tc [4] .ret))))))
theorem Jq:cE qu zF [(.tmp 4)] 25:=dE func261 rfl
def tl:=[eF 2 4 0,eF 3 4 1,ok 4 (vB false)]
def mC:=[aL 5 0 2,bl 6 1 5,aL 7 0 3,bl 8 1 7,cI 9 .neq 6 8]
def tm:=[ok 4 (vB false)]
def mD:=[aL 10 1 2,bl 11 1 10,aL 12 1 3,bl 13 1 12,cI 14 .neq 11 13]
def tn:=[ok 4 (vB false)]
def mE:=[aL 15 2 2,bl 16 1 15,aL 17 2 3,bl 18 1 17,cI 19 .neq 16 18]
def tp:=[ok 4 (vB false)]
def mF:=[aL 20 3 2,bl 21 1 20,aL 22 3 3,bl 23 1 22,cI 24 .neq 21 23]
def tq:=[ok 4 (vB false)]
def tt:=[ok 4 (vB true)]
def zH:C:=(sr tl [2,3] (ss (sr mC [2,3,9] (sc 9 (sr tm [4] .ret) .skip)) (ss (sr mD [2,3,14] (sc 14 (sr tn [4] .ret) .skip)) (ss (sr mE [2,3,19] (sc 19 (sr tp [4] .ret) .skip)) (ss (sr mF [24] (sc 24 (sr tq [4] .ret) .skip)) (sr tt [4] .ret))))))
theorem Js:cE lW zH [(.tmp 4)] 25:=dE func262 rfl
def wj:=[eF 2 15 0,eF 3 15 1,ok 4 (vB false)]
def wl:=[aL 5 0 2,bu 6 4 5,aL 7 0 3,bu 8 4 7,dK 9 qu 6 8,oo 10 (.un .not (.t 9))]
def wm:=[ok 4 (vB false)]
def oQ:=[aL 11 4 2,bl 12 1 11,aL 13 4 3,bl 14 1 13,cI 15 .neq 12 14]
def wn:=[ok 4 (vB false)]
def oR:=[aL 16 5 2,bl 17 1 16,aL 18 5 3,bl 19 1 18,cI 20 .neq 17 19]
def wo:=[ok 4 (vB false)]
def oU:=[aL 21 6 2,bl 22 1 21,aL 23 6 3,bl 24 1 23,cI 25 .neq 22 24]
def wq:=[ok 4 (vB false)]
def wt:=[aL 26 7 2,bu 27 4 26,aL 28 7 3,bu 29 4 28,dK 30 lW 27 29,oo 31 (.un .not (.t 30))]
def sR:=[ok 4 (vB false)]
def sS:=[aL 32 11 2,bu 33 4 32,aL 34 11 3,bu 35 4 34,dK 36 lW 33 35,oo 37 (.un .not (.t 36))]
def sT:=[ok 4 (vB false)]
def sU:=[ok 4 (vB true)]
def Em:C:=(sr wj [2,3] (ss (sr wl [2,3,10] (sc 10 (sr wm [4] .ret) .skip)) (ss (sr oQ [2,3,15] (sc 15 (sr wn [4] .ret) .skip)) (ss (sr oR [2,3,20] (sc 20 (sr wo [4] .ret) .skip)) (ss (sr oU [2,3,25] (sc 25 (sr wq [4] .ret) .skip)) (ss (sr wt [2,3,31] (sc 31 (sr sR [4] .ret) .skip)) (ss (sr sS [37] (sc 37 (sr sT [4] .ret) .skip)) (sr sU [4] .ret))))))))
theorem NT:cE uB Em [(.tmp 4)] 38:=dE func205 rfl
def td:=[eF 2 18 0,eF 3 18 1,ok 4 (vB false)]
def mz:=[aL 5 0 2,bl 6 1 5,aL 7 0 3,bl 8 1 7,cI 9 .neq 6 8]
def tf:=[ok 4 (vB false)]
def mA:=[aL 10 1 2,bl 11 1 10,aL 12 1 3,bl 13 1 12,cI 14 .neq 11 13]
def tg:=[ok 4 (vB false)]
def mB:=[aL 15 2 2,bl 16 1 15,aL 17 2 3,bl 18 1 17,cI 19 .neq 16 18]
def th:=[ok 4 (vB false)]
def ti:=[aL 20 3 2,bu 21 15 20,aL 22 3 3,bu 23 15 22,dK 24 uB 21 23,oo 25 (.un .not (.t 24))]
def tj:=[ok 4 (vB false)]
def tk:=[ok 4 (vB true)]
def zG:C:=(sr td [2,3] (ss (sr mz [2,3,9] (sc 9 (sr tf [4] .ret) .skip)) (ss (sr mA [2,3,14] (sc 14 (sr tg [4] .ret) .skip)) (ss (sr mB [2,3,19] (sc 19 (sr th [4] .ret) .skip)) (ss (sr ti [25] (sc 25 (sr tj [4] .ret) .skip)) (sr tk [4] .ret))))))
theorem Jr:cE qv zG [(.tmp 4)] 26:=dE func139 rfl
def lg:=[ok 4 (vB false)]
def lh:=[om 6 0,oo 7 (.len false (.t 6)),om 8 1,oo 9 (.len false (.t 8)),cI 10 .neq 7 9]
def lj:=[ok 4 (vB false)]
def qI:=[ok 5 (vI 0)]
def qJ:=[om 11 5,om 12 0,oo 13 (.len false (.t 12)),cI 14 .lss 11 13]
def qK:=[om 17 0,om 18 5,ft 19 18 17 18,bu 20 18 19,om 21 1,om 22 5,ft 23 18 21 22,bu 24 18 23,dK 25 qv 20 24,oo 26 (.un .not (.t 25))]
def qA:List (List Nat):=[[],[],[0,1],[0,1,2],[],[],[4,5],[4,5,6],[0,1,2,3,4,5,6,7],[0,1,2,3,4,5,6,7,8]]
def qL:=[ok 4 (vB false)]
def qM:=[om 15 5,fL 16 15 1,om 5 16]
def ql:C:=(ss (sr qJ [0,1,5,14] (sc 14 .skip (.exit 0))) (ss (.block 1 (ss (.regD qK qA [0,1,5,26]) (sc 26 (sr qL [4] .ret) .skip))) (.reg qM [0,1,5])))
def qN:=[ok 4 (vB true)]
def nU:C:=(sr lg [0,1] (ss (sr lh [0,1,10] (sc 10 (sr lj [4] .ret) .skip)) (ss (sr qI [0,1,5] (.block 0 (.loop ql))) (sr qN [4] .ret))))
def JG:Nat->List Nat
 | 0=>[0,1]
 | 1=>[0,1,10]
 | 2=>[4]
 | 3=>[0,1,5]
 | 4=>[0,1,5,14]
 | 6=>[0,1,5,26]
 | 7=>[4]
 | 5=>[0,1,5]
 | 8=>[4]
 | _=>[]
theorem Gy:cE og nU [(.tmp 4)] 27 :=
 ⟨Tryz.f79,_,JG,func79,rfl,by kernel_rfl,by kernel_rfl,by kernel_rfl,rfl⟩
def nt:=[eF 2 1 0,eF 3 1 1,ok 4 (vB false)]
def nv:=[aL 5 0 2,bl 6 1 5,aL 7 0 3,bl 8 1 7,dK 9 og 6 8,oo 10 (.un .not (.t 9))]
def ny:=[ok 4 (vB false)]
def nz:=[ok 4 (vB true)]
def qe:C:=(sr nt [2,3] (ss (sr nv [10] (sc 10 (sr ny [4] .ret) .skip)) (sr nz [4] .ret)))
theorem A0:cE kG qe [(.tmp 4)] 11:=dE func35 rfl
def tI:=[eF 1 18 0,dD 2 18 zC]
def tJ:=[dD 3 18 zC]
def tK:=[aL 4 0 1,bl 5 1 4,aL 6 0 3,bg 1 6 5]
def tL:=[aL 7 1 1,bl 8 1 7,aL 9 1 3,bg 1 9 8]
def tM:=[aL 10 2 1,bl 11 1 10,aL 12 2 3,bg 1 12 11]
def tN:=[aL 13 3 1,bu 14 15 13,cg 15 uD 14,aL 16 3 3,bg 15 16 15]
def tO:=[bu 17 18 3,bg 18 2 17]
def zK:C:=(sr tI [1,2] (sr tJ [1,2,3] (sr tK [1,2,3] (sr tL [1,2,3] (sr tM [1,2,3] (sr tN [2,3] (sr tO [2] .ret)))))))
theorem Jw:cE qy zK [(.cell 2 true 18)] 18:=dE func138 rfl
def tu:=[eF 2 18 0,ok 4 (vI 0)]
def tv:=[om 5 1,aL 6 1 2,bl 7 1 6,oo 8 (.len true (.t 7)),cI 9 .sub 5 8,om 1 9]
def tw:=[om 10 1,cn 11 .lss 10 0]
def tz:=[ok 4 (vI (-1))]
def tA:=[om 12 1,om 4 12]
def zI:C:=(sr tu [1,2] (sr tv [1] (ss (sr tw [1,11] (sc 11 (sr tz [4] .ret) .skip)) (sr tA [4] .ret))))
theorem Ju:cE qw zI [(.tmp 4)] 13:=dE func137 rfl
def qO:=[ok 4 (vI 0)]
def qP:=[om 6 1,om 7 0,oo 8 (.len false (.t 7)),cI 9 .sub 6 8,om 1 9]
def qQ:=[om 10 1,cn 11 .lss 10 0]
def qR:=[ok 4 (vI (-1))]
def qS:=[ok 5 (vI 0)]
def qT:=[om 12 5,om 13 0,oo 14 (.len false (.t 13)),cI 15 .lss 12 14]
def qU:=[om 18 0,om 19 5,ft 20 18 18 19,bu 21 18 20,om 22 1,dK 23 qw 21 22,om 1 23]
def qV:=[om 24 1,cn 25 .lss 24 0]
def qW:=[ok 4 (vI (-1))]
def qX:=[om 16 5,fL 17 16 1,om 5 17]
def o8:C:=(ss (sr qT [0,1,5,15] (sc 15 .skip (.exit 0))) (ss (.block 1 (sr qU [0,1,5] (sr qV [0,1,5,25] (sc 25 (sr qW [4] .ret) .skip)))) (.reg qX [0,1,5])))
def pr:=[om 26 1,om 4 26]
def vu:C:=(sr qO [0,1] (sr qP [0,1] (ss (sr qQ [0,1,11] (sc 11 (sr qR [4] .ret) .skip)) (ss (sr qS [0,1,5] (.block 0 (.loop o8))) (sr pr [4] .ret)))))
def JH:Nat->List Nat
 | 0=>[0,1]
 | 1=>[0,1]
 | 2=>[0,1,11]
 | 3=>[4]
 | 4=>[0,1,5]
 | 5=>[0,1,5,15]
 | 7=>[0,1,5]
 | 8=>[0,1,5,25]
 | 9=>[4]
 | 6=>[0,1,5]
 | 10=>[4]
 | _=>[]
theorem Gz:cE oh vu [(.tmp 4)] 27 :=
 ⟨Tryz.f77,_,JH,func77,rfl,by kernel_rfl,by kernel_rfl,by kernel_rfl,rfl⟩
def nA:=[eF 2 1 0,ok 4 (vI 0)]
def nB:=[aL 5 0 2,bl 6 1 5,om 7 1,dK 8 oh 6 7,om 1 8]
def nC:=[om 9 1,cn 10 .lss 9 0]
def nD:=[ok 4 (vI (-1))]
def nE:=[om 11 1,om 4 11]
def qf:C:=(sr nA [1,2] (sr nB [1] (ss (sr nC [1,10] (sc 10 (sr nD [4] .ret) .skip)) (sr nE [4] .ret))))
theorem A1:cE kH qf [(.tmp 4)] 12:=dE func31 rfl
def qY:=[ok 2 vN]
def qZ:=[om 5 0,oo 6 (.len false (.t 5)),oo 7 (.mks 18 zC 152 (.t 6) (.t 6)),om 3 7]
def q0:=[ok 4 (vI 0)]
def q7:=[om 8 4,om 9 0,oo 10 (.len false (.t 9)),cI 11 .lss 8 10]
def q8:=[om 14 3,om 15 4,om 16 0,om 17 4,ft 18 18 16 17,bu 19 18 18,cg 20 qy 19,ft 21 18 14 15,bg 18 21 20]
def q9:=[om 12 4,fL 13 12 1,om 4 13]
def qm:C:=(ss (sr q7 [0,3,4,11] (sc 11 .skip (.exit 0))) (ss (.block 1 (.reg q8 [0,3,4])) (.reg q9 [0,3,4])))
def ra:=[om 22 3,om 2 22]
def vv:C:=(sr qY [0] (sr qZ [0,3] (ss (sr q0 [0,3,4] (.block 0 (.loop qm))) (sr ra [2] .ret))))
def JI:Nat->List Nat
 | 0=>[0]
 | 1=>[0,3]
 | 2=>[0,3,4]
 | 3=>[0,3,4,11]
 | 5=>[0,3,4]
 | 4=>[0,3,4]
 | 6=>[2]
 | _=>[]
theorem GA:cE oi vv [(.tmp 2)] 23 :=
 ⟨Tryz.f78,_,JI,func78,rfl,by kernel_rfl,by kernel_rfl,by kernel_rfl,rfl⟩
def nF:=[eF 1 1 0,dD 2 1 (.agg [vN])]
def nG:=[dD 3 1 (.agg [vN])]
def nH:=[aL 4 0 1,bl 5 1 4,cg 6 oi 5,aL 7 0 3,bg 1 7 6]
def nI:=[bu 8 1 3,bg 1 2 8]
def qg:C:=(sr nF [1,2] (sr nG [1,2,3] (sr nH [2,3] (sr nI [2] .ret))))
theorem A2:cE iB qg [(.cell 2 true 1)] 9:=dE func33 rfl
theorem acB (p q:Field):di qu [jC p,jC q] (B (decide (p=q))):=by
 refine aa.of Jq (by simp) ?_;simp[zF,sV];by_cases h0:p.division=q.division;rotate_left
 ·simp[ms,sW,h0,Field.eq_iff]
 simp[ms,h0];by_cases h1:p.line=q.line;rotate_left
 ·simp[mu,sX,h1,h0,Field.eq_iff]
 simp[mu,h1];by_cases h2:p.first=q.first
 rotate_left
 ·simp[mw,sY,h2,h0,h1,Field.eq_iff]
 simp[mw,h2];by_cases h3:p.second=q.second;rotate_left
 ·simp[my,sZ,h3,h0,h1,h2,Field.eq_iff]
 simp[my,h3];simp[tc,Field.eq_iff,h0,h1,h2,h3]
theorem Ja (p q:Group):di lW [ib p,ib q] (B (decide (p=q))):=by
 refine aa.of Js (by simp) ?_;simp[zH,tl];by_cases h0:p.count=q.count;rotate_left
 ·simp[mC,tm,h0,Group.eq_iff]
 simp[mC,h0];by_cases h1:p.kind=q.kind;rotate_left
 ·simp[mD,tn,h1,h0,Group.eq_iff]
 simp[mD,h1];by_cases h2:p.attitude=q.attitude;rotate_left
 ·simp[mE,tp,h2,h0,h1,Group.eq_iff]
 simp[mE,h2];by_cases h3:p.tincture=q.tincture;rotate_left
 ·simp[mF,tq,h3,h0,h1,h2,Group.eq_iff]
 simp[mF,h3];simp[tt,Group.eq_iff,h0,h1,h2,h3]
theorem amG (p q:Arms):di uB [dj p,dj q] (B (decide (p=q))):=by
 refine aa.of NT (by simp) ?_;simp[Em,wj];simp[wl];refine al (aa.ag (acB p.field q.field)) ?_;by_cases h0:p.field=q.field;rotate_left
 ·simp[wm,h0,Arms.eq_iff]
 simp[h0];by_cases h1:p.ordinary=q.ordinary;rotate_left
 ·simp[oQ,wn,h1,h0,Arms.eq_iff]
 simp[oQ,h1];by_cases h2:p.line=q.line;rotate_left
 ·simp[oR,wo,h2,h0,h1,Arms.eq_iff]
 simp[oR,h2];by_cases h3:p.tincture=q.tincture;rotate_left
 ·simp[oU,wq,h3,h0,h1,h2,Arms.eq_iff]
 simp[oU,h3];simp[wt];refine al (aa.ag (Ja p.on q.on)) ?_;by_cases h4:p.on=q.on;rotate_left
 ·simp[sR,h4,h0,h1,h2,h3,Arms.eq_iff]
 simp[h4];simp[sS];refine al (aa.ag (Ja p.around q.around)) ?_;by_cases h5:p.around=q.around;rotate_left
 ·simp[sT,h5,h0,h1,h2,h3,h4,Arms.eq_iff]
 simp[h5];simp[sU,Arms.eq_iff,h0,h1,h2,h3,h4,h5]
theorem acC (p q:Grant):di qv [bd p,bd q] (B (decide (p=q))):=by
 refine aa.of Jr (by simp) ?_;simp[zG,td];by_cases h0:p.number=q.number;rotate_left
 ·simp[mz,tf,h0,Grant.eq_iff]
 simp[mz,h0];by_cases h1:p.name=q.name;rotate_left
 ·simp[mA,tg,h1,h0,Grant.eq_iff]
 simp[mA,h1];by_cases h2:p.year=q.year;rotate_left
 ·simp[mB,th,h2,h0,h1,Grant.eq_iff]
 simp[mB,h2];simp[ti];refine al (aa.ag (amG p.arms q.arms)) ?_;by_cases h3:p.arms=q.arms;rotate_left
 ·simp[tj,h3,h0,h1,h2,Grant.eq_iff]
 simp[h3];simp[tk,Grant.eq_iff,h0,h1,h2,h3]
theorem Vx (a b:List Grant):di og [.ro 18 (a.map bd),.ro 18 (b.map bd)] (B (decide (a=b))):=by
 refine aa.ofL Gy (by simp) fun hl=>?_;simp at hl;by_cases hl:a.length=b.length
 ·simp[nU,lg,lh,lj,qI,qN,hl];refine dl (fun i:Nat=>⟨[(0,.ro 18 (a.map bd)),(1,.ro 18 (b.map bd)),(5,I i)],[],[]⟩) (fun i=>a.length - i) (fun i=>i<=a.length/\a.take i=b.take i) 0 Wk.li (by simp) ?_;rintro i ⟨hi,hj⟩ K hN hR hE;simp[ql,qJ];refine⟨fun hlt=>?_,fun hge=>?_⟩
  ·have hlb:i < b.length:=by omega
   simp[qK,qA,hlt,hlb];refine iV (acC a[i] b[i]) ?_ ?_ ?_
   ·simp
   ·simp
   simp;refine⟨a7 (by first | kernel_rfl | simp) (by first | kernel_rfl | simp),fun hne=>?_,fun he=>?_⟩
   ·simp[qL];refine hR _ ?_;simp;rintro rfl;exact hne rfl
   ·simp[qM];rw[aD (by omega)];refine hN (i+1) _ (by omega) ⟨by omega,?_⟩ Wk.li;rw[dP hlt,dP hlb,hj,he]
  ·refine hE _ _ ?_;rw[List.take_of_length_le (by omega),List.take_of_length_le (by omega)] at hj;simp[hj]
 ·simp[nU,lg,lh,lj,hl];refine⟨fun _ e=>hl (by rw[e]),fun e=>absurd (by omega) hl⟩
theorem LS (a b:aT):di kG [bn a,bn b] (B (decide (a=b))):=by
 refine aa.of A0 (by simp) ?_;simp[qe,nt,nv];refine al (aa.ag (Vx a b)) ?_;by_cases h:a=b
 ·simp[nz,h]
 ·simp[ny,h]
theorem acF (g:Grant):di qy [bd g] (bd g):=by
 refine aa.of Jw (by simp) ?_;simp[zK,tI,tJ,tK,tL,tM,tN];refine aZ (aa.ag (amK g.arms)) ?_;simp[tO]
theorem acD (g:Grant) (left:Int) (h0:0<=left) (h1:left<=1048576):di qw [bd g,I left] (I (rest left g.name.length)):=by
 refine aa.ofL Ju (by simp) fun hl=>?_;simp[TQ,aBe] at hl;simp[zI,tu,tv];rw[aD (by omega)];simp[tw,tz,tA,rest];constructor<;>intros<;>omega
def szG (l:List Grant):Nat:=l.length+kg (l.map Grant.name)
theorem Vz (l:List Grant) (left:Int) (h0:0<=left) (h1:left<=1048576):di oh [.ro 18 (l.map bd),I left] (I (rest left (szG l))):=by
 refine aa.ofL Gz (by simp) fun hl=>?_;simp at hl;simp[qO,qP,vu];rw[aD (by omega)];simp[qQ];refine⟨fun hneg=>?_,fun hge=>?_⟩
 ·simp[qR,rest,szG];omega
 simp[qS,pr];refine GJ (fun i:Nat=>⟨[(0,.ro 18 (l.map bd)),(1,I (left - l.length - kg ((l.map Grant.name).take i))),(5,I i)],[],[]⟩) (fun i=>l.length - i) (fun i=>i<=l.length/\l.length+kg ((l.map Grant.name).take i)<=left) 0 Wk.li ⟨by simp,by simp;omega⟩ ?_;rintro i ⟨hi,hb⟩;simp[o8,qT];refine⟨fun hlt=>?_,fun hge=>?_⟩
 ·simp[qU,hlt];refine al (acD l[i] (left - l.length - kg ((l.map Grant.name).take i)) (by omega) (by omega)) ?_;have e:kg ((l.map Grant.name).take (i+1))=kg ((l.map Grant.name).take i)+l[i].name.length:=by rw[dP (by simpa using hlt),FF,asK,ayY];simp
  have hle:kg ((l.map Grant.name).take (i+1))<=kg (l.map Grant.name):=Hr _ _;simp[qV];refine⟨fun hneg=>?_,fun hpos=>?_⟩
  ·simp[qW];unfold rest at hneg ⊢;unfold szG;split at hneg<;>split<;>omega
  ·simp[qX];have:=tW (by omega:¬rest (left - l.length - kg ((l.map Grant.name).take i)) l[i].name.length < 0);rw[aD (by omega)];refine FD (i+1) (by omega) ⟨by omega,by omega⟩ (Wk.list rfl ?_ (by simp));simp only[rest,e];rw[if_neg (by omega)];simp;omega
 ·obtain rfl:i=l.length:=by omega
  rw[List.take_of_length_le (by simp)] at hb ⊢;unfold rest szG;rw[if_neg (by omega)];omega
theorem LU (l:aT) (left:Int) (h0:0<=left) (h1:left<=1048576):di kH [bn l,I left] (I (rest left (szG l))):=by
 refine aa.of A1 (by simp) ?_;simp[qf,nA,nB];refine al (aa.ag (Vz l left h0 h1)) ?_;simp[nC,nD,nE];intro h;unfold rest at h ⊢;split at h
 ·rename_i h';rw[if_pos h']
 ·rename_i h';rw[if_neg h'];omega
theorem VA (l:List Grant) (hl:l.length<=1048576):di oi [.ro 18 (l.map bd)] (.own 18 (l.map bd)):=by
 refine aa.of GA (by simp) ?_;simp[vv,qY,qZ,q0,bR];refine⟨by omega,?_⟩;simp[ra];refine dl (fun i:Nat=>⟨[(0,.ro 18 (l.map bd)),(3,.sl 7 0 l.length),(4,I i)],[(7,⟨18,(l.map bd).take i++List.replicate (l.length - i) (.agg [I 0,S [],I 0,I 0,I 0,I 0,I 0,I 0,I 0,I 0,I 0,I 0,I 0,I 0,I 0,I 0,I 0,I 0])⟩)],[]⟩) (fun i=>l.length - i) (fun i=>i<=l.length) 0 Wk.li (by simp) ?_;intro i hi K hN hR hE;have hlen:((l.map bd).take i).length=i:=by simp;omega
 simp[qm,q7];refine⟨fun hlt=>?_,fun hge=>?_⟩
 ·simp[q8,hlt];refine bB (acF l[i]) rfl (.inl (by simp)) (by simp) ?_;simp[vD hlen hlt,hlt];simp[q9];rw[aD (by omega)];refine hN (i+1) _ (by omega) (by omega) (Wk.list rfl (by simp) ?_);simp[rV hlen hlt,dP,hlt]
 ·refine hE _ _ ?_;obtain rfl:i=l.length:=by omega
  simp
theorem AQ (l:aT) (hl:l.length<=1048576):di iB [bn l] (ly l):=by
 refine aa.of A2 (by simp) ?_;simp[qg,nF,nG,nH];refine aZ (aa.ag (VA l hl)) ?_;simp[nI]
def CH:=[eF 1 4 0,dD 2 4 (.agg [vN,vS [],vS [],vI 0])]
def CI:=[dD 3 4 (.agg [vN,vS [],vS [],vI 0])]
def CJ:=[aL 4 0 1,bu 5 1 4,cg 6 iB 5,aL 7 0 3,bg 1 7 6]
def CL:=[aL 8 1 1,bu 9 3 8,cg 10 vj 9,aL 11 1 3,bg 3 11 10]
def CM:=[bu 12 4 3,bg 4 2 12]
def Gu:C:=(sr CH [1,2] (sr CI [1,2,3] (sr CJ [1,2,3] (sr CL [2,3] (sr CM [2] .ret)))))
theorem TB:cE jH Gu [(.cell 2 true 4)] 13:=dE func11 rfl
def Cz:=[eF 2 4 0,ok 4 (vI 0)]
def CA:=[aL 5 0 2,bu 6 1 5,om 7 1,dK 8 kH 6 7,om 1 8]
def CB:=[om 9 1,cn 10 .lss 9 0]
def CC:=[ok 4 (vI (-1))]
def CD:=[aL 11 1 2,bu 12 3 11,om 13 1,dK 14 yt 12 13,om 1 14]
def CE:=[om 15 1,cn 16 .lss 15 0]
def CF:=[ok 4 (vI (-1))]
def CG:=[om 17 1,om 4 17]
def Gt:C:=(sr Cz [1,2] (sr CA [1,2] (ss (sr CB [1,2,10] (sc 10 (sr CC [4] .ret) .skip)) (sr CD [1] (ss (sr CE [1,16] (sc 16 (sr CF [4] .ret) .skip)) (sr CG [4] .ret))))))
theorem Tz:cE xw Gt [(.tmp 4)] 18:=dE func9 rfl
def Cv:=[eF 2 4 0,eF 3 4 1,ok 4 (vB false)]
def Cw:=[aL 5 0 2,bu 6 1 5,aL 7 0 3,bu 8 1 7,dK 9 kG 6 8,oo 10 (.un .not (.t 9))]
def P7:=[ok 4 (vB false)]
def Cx:=[aL 11 1 2,bu 12 3 11,aL 13 1 3,bu 14 3 13,dK 15 MY 12 14,oo 16 (.un .not (.t 15))]
def P8:=[ok 4 (vB false)]
def Cy:=[ok 4 (vB true)]
def Gs:C:=(sr Cv [2,3] (ss (sr Cw [2,3,10] (sc 10 (sr P7 [4] .ret) .skip)) (ss (sr Cx [16] (sc 16 (sr P8 [4] .ret) .skip)) (sr Cy [4] .ret))))
theorem Ty:cE nP Gs [(.tmp 4)] 17:=dE func13 rfl
def uN:=[eF 2 1 0,ok 4 (vI 0)]
def uO:=[aL 5 0 2,bl 6 1 5,om 7 1,dK 8 uC 6 7,om 1 8]
def uP:=[om 9 1,om 4 9]
def yb:C:=(sr uN [1,2] (sr uO [1] (sr uP [4] .ret)))
theorem Jt:cE pI yb [(.tmp 4)] 10:=dE func54 rfl
def wu:=[eF 2 4 0,ok 4 (vI 0)]
def wv:=[aL 5 0 2,bu 6 1 5,om 7 1,dK 8 pI 6 7,om 1 8]
def ww:=[om 9 1,om 4 9]
def AX:C:=(sr wu [1,2] (sr wv [1] (sr ww [4] .ret)))
theorem MK:cE pb AX [(.tmp 4)] 10:=dE func14 rfl
def Ve:=[eF 2 1 0,ok 4 (vI 0)]
def Vf:=[aL 5 0 2,bl 6 1 5,om 7 1,dK 8 T0 6 7,om 1 8]
def Vg:=[om 9 1,cn 10 .lss 9 0]
def Vh:=[ok 4 (vI (-1))]
def Vi:=[om 11 1,om 4 11]
def aaj:C:=(sr Ve [1,2] (sr Vf [1] (ss (sr Vg [1,10] (sc 10 (sr Vh [4] .ret) .skip)) (sr Vi [4] .ret))))
theorem atL:cE MZ aaj [(.tmp 4)] 12:=dE func55 rfl
def XW:=[eF 2 4 0,ok 4 (vI 0)]
def XX:=[aL 5 0 2,bu 6 1 5,om 7 1,dK 8 MZ 6 7,om 1 8]
def XY:=[om 9 1,cn 10 .lss 9 0]
def XZ:=[ok 4 (vI (-1))]
def X0:=[om 11 1,om 4 11]
def aeA:C:=(sr XW [1,2] (sr XX [1] (ss (sr XY [1,10] (sc 10 (sr XZ [4] .ret) .skip)) (sr X0 [4] .ret))))
theorem ax9:cE HC aeA [(.tmp 4)] 12:=dE func15 rfl
def zl:=[ok 4 (vI 0)]
def zm:=[ok 5 (vI 0)]
def zn:=[om 6 5,om 7 0,oo 8 (.len false (.t 7)),cI 9 .lss 6 8]
def zo:=[om 12 0,om 13 5,om 14 1,ft 15 18 12 13,aL 16 0 15,bg 1 16 14]
def zp:=[om 17 1,fL 18 17 1,om 1 18]
def zq:=[om 19 0,om 20 5,om 21 1,cg 22 pV 21,ft 23 18 19 20,aL 24 1 23,bg 1 24 22]
def zr:=[om 25 1,fL 26 25 1,om 1 26]
def zt:=[om 27 0,om 28 5,om 29 1,ft 30 18 27 28,aL 31 2 30,bg 1 31 29]
def zu:=[om 32 1,fL 33 32 1,om 1 33]
def zv:=[om 34 0,om 35 5,om 36 1,ft 37 18 34 35,aL 38 3 37,aL 39 0 38,aL 40 0 39,bg 1 40 36]
def wx:=[om 41 1,fL 42 41 1,om 1 42]
def wy:=[om 43 0,om 44 5,om 45 1,ft 46 18 43 44,aL 47 3 46,aL 48 0 47,aL 49 1 48,bg 1 49 45]
def wz:=[om 50 1,fL 51 50 1,om 1 51]
def wA:=[om 52 0,om 53 5,om 54 1,ft 55 18 52 53,aL 56 3 55,aL 57 0 56,aL 58 2 57,bg 1 58 54]
def wB:=[om 59 1,fL 60 59 1,om 1 60]
def wC:=[om 61 0,om 62 5,om 63 1,ft 64 18 61 62,aL 65 3 64,aL 66 0 65,aL 67 3 66,bg 1 67 63]
def wD:=[om 68 1,fL 69 68 1,om 1 69]
def wE:=[om 70 0,om 71 5,om 72 1,ft 73 18 70 71,aL 74 3 73,aL 75 4 74,bg 1 75 72]
def wF:=[om 76 1,fL 77 76 1,om 1 77]
def wG:=[om 78 0,om 79 5,om 80 1,ft 81 18 78 79,aL 82 3 81,aL 83 5 82,bg 1 83 80]
def wH:=[om 84 1,fL 85 84 1,om 1 85]
def wI:=[om 86 0,om 87 5,om 88 1,ft 89 18 86 87,aL 90 3 89,aL 91 6 90,bg 1 91 88]
def wJ:=[om 92 1,fL 93 92 1,om 1 93]
def wK:=[om 94 0,om 95 5,om 96 1,ft 97 18 94 95,aL 98 3 97,aL 99 7 98,aL 100 0 99,bg 1 100 96]
def wL:=[om 101 1,fL 102 101 1,om 1 102]
def wM:=[om 103 0,om 104 5,om 105 1,ft 106 18 103 104,aL 107 3 106,aL 108 7 107,aL 109 1 108,bg 1 109 105]
def wN:=[om 110 1,fL 111 110 1,om 1 111]
def wO:=[om 112 0,om 113 5,om 114 1,ft 115 18 112 113,aL 116 3 115,aL 117 7 116,aL 118 2 117,bg 1 118 114]
def wP:=[om 119 1,fL 120 119 1,om 1 120]
def wQ:=[om 121 0,om 122 5,om 123 1,ft 124 18 121 122,aL 125 3 124,aL 126 7 125,aL 127 3 126,bg 1 127 123]
def wR:=[om 128 1,fL 129 128 1,om 1 129]
def wS:=[om 130 0,om 131 5,om 132 1,ft 133 18 130 131,aL 134 3 133,aL 135 11 134,aL 136 0 135,bg 1 136 132]
def wT:=[om 137 1,fL 138 137 1,om 1 138]
def wU:=[om 139 0,om 140 5,om 141 1,ft 142 18 139 140,aL 143 3 142,aL 144 11 143,aL 145 1 144,bg 1 145 141]
def wV:=[om 146 1,fL 147 146 1,om 1 147]
def wW:=[om 148 0,om 149 5,om 150 1,ft 151 18 148 149,aL 152 3 151,aL 153 11 152,aL 154 2 153,bg 1 154 150]
def wX:=[om 155 1,fL 156 155 1,om 1 156]
def wY:=[om 157 0,om 158 5,om 159 1,ft 160 18 157 158,aL 161 3 160,aL 162 11 161,aL 163 3 162,bg 1 163 159]
def wZ:=[om 164 1,fL 165 164 1,om 1 165]
def w4:=[om 10 5,fL 11 10 1,om 5 11]
def vJ:C:=(ss (sr zn [0,1,5,9] (sc 9 .skip (.exit 0))) (ss (.block 1 (sr zo [0,1,5] (sr zp [0,1,5] (sr zq [0,1,5] (sr zr [0,1,5] (sr zt [0,1,5] (sr zu [0,1,5] (sr zv [0,1,5] (sr wx [0,1,5] (sr wy [0,1,5] (sr wz [0,1,5] (sr wA [0,1,5] (sr wB [0,1,5] (sr wC [0,1,5] (sr wD [0,1,5] (sr wE [0,1,5] (sr wF [0,1,5] (sr wG [0,1,5] (sr wH [0,1,5] (sr wI [0,1,5] (sr wJ [0,1,5] (sr wK [0,1,5] (sr wL [0,1,5] (sr wM [0,1,5] (sr wN [0,1,5] (sr wO [0,1,5] (sr wP [0,1,5] (sr wQ [0,1,5] (sr wR [0,1,5] (sr wS [0,1,5] (sr wT [0,1,5] (sr wU [0,1,5] (sr wV [0,1,5] (sr wW [0,1,5] (sr wX [0,1,5] (sr wY [0,1,5] (.reg wZ [0,1,5]))))))))))))))))))))))))))))))))))))) (.reg w4 [0,1,5])))
def w5:=[om 166 1,om 4 166]
def En:C:=(sr zl [0,1] (ss (sr zm [0,1,5] (.block 0 (.loop vJ))) (sr w5 [4] .ret)))
def TK:Nat->List Nat
 | 0=>[0,1]
 | 1=>[0,1,5]
 | 2=>[0,1,5,9]
 | 4=>[0,1,5]
 | 5=>[0,1,5]
 | 6=>[0,1,5]
 | 7=>[0,1,5]
 | 8=>[0,1,5]
 | 9=>[0,1,5]
 | 10=>[0,1,5]
 | 11=>[0,1,5]
 | 12=>[0,1,5]
 | 13=>[0,1,5]
 | 14=>[0,1,5]
 | 15=>[0,1,5]
 | 16=>[0,1,5]
 | 17=>[0,1,5]
 | 18=>[0,1,5]
 | 19=>[0,1,5]
 | 20=>[0,1,5]
 | 21=>[0,1,5]
 | 22=>[0,1,5]
 | 23=>[0,1,5]
 | 24=>[0,1,5]
 | 25=>[0,1,5]
 | 26=>[0,1,5]
 | 27=>[0,1,5]
 | 28=>[0,1,5]
 | 29=>[0,1,5]
 | 30=>[0,1,5]
 | 31=>[0,1,5]
 | 32=>[0,1,5]
 | 33=>[0,1,5]
 | 34=>[0,1,5]
 | 35=>[0,1,5]
 | 36=>[0,1,5]
 | 37=>[0,1,5]
 | 38=>[0,1,5]
 | 39=>[0,1,5]
 | 3=>[0,1,5]
 | 40=>[4]
 | _=>[]
theorem Ps:cE uC En [(.tmp 4)] 167 :=
 ⟨Tryz.f113,_,TK,func113,rfl,by kernel_rfl,by kernel_rfl,by kernel_rfl,rfl⟩
def acg:=[ok 4 (vI 0)]
def ach:=[ok 5 (vI 0)]
def aci:=[om 6 5,om 7 0,oo 8 (.len false (.t 7)),cI 9 .lss 6 8]
def acj:=[om 12 0,om 13 5,ft 14 18 12 13,aL 15 0 14,bl 16 1 15,om 17 1,cI 18 .neq 16 17]
def ayH:=[ok 4 (vI (-1))]
def ack:=[om 19 1,fL 20 19 1,om 1 20]
def acl:=[om 21 0,om 22 5,ft 23 18 21 22,aL 24 1 23,bl 25 1 24,om 26 1,cg 27 pV 26,cI 28 .neq 25 27]
def aaD:List (List Nat):=[[],[],[0,1],[0,1,2],[0,1,2,3],[],[5],[0,1,2,3,4,5,6]]
def ayI:=[ok 4 (vI (-1))]
def acm:=[om 29 1,fL 30 29 1,om 1 30]
def acn:=[om 31 0,om 32 5,ft 33 18 31 32,aL 34 2 33,bl 35 1 34,om 36 1,cI 37 .neq 35 36]
def awZ:=[ok 4 (vI (-1))]
def X4:=[om 38 1,fL 39 38 1,om 1 39]
def X5:=[om 40 0,om 41 5,ft 42 18 40 41,aL 43 3 42,aL 44 0 43,aL 45 0 44,bl 46 1 45,om 47 1,cI 48 .neq 46 47]
def aw0:=[ok 4 (vI (-1))]
def X6:=[om 49 1,fL 50 49 1,om 1 50]
def X7:=[om 51 0,om 52 5,ft 53 18 51 52,aL 54 3 53,aL 55 0 54,aL 56 1 55,bl 57 1 56,om 58 1,cI 59 .neq 57 58]
def aw1:=[ok 4 (vI (-1))]
def X8:=[om 60 1,fL 61 60 1,om 1 61]
def X9:=[om 62 0,om 63 5,ft 64 18 62 63,aL 65 3 64,aL 66 0 65,aL 67 2 66,bl 68 1 67,om 69 1,cI 70 .neq 68 69]
def aw2:=[ok 4 (vI (-1))]
def Ya:=[om 71 1,fL 72 71 1,om 1 72]
def Yb:=[om 73 0,om 74 5,ft 75 18 73 74,aL 76 3 75,aL 77 0 76,aL 78 3 77,bl 79 1 78,om 80 1,cI 81 .neq 79 80]
def aw3:=[ok 4 (vI (-1))]
def Yc:=[om 82 1,fL 83 82 1,om 1 83]
def Yd:=[om 84 0,om 85 5,ft 86 18 84 85,aL 87 3 86,aL 88 4 87,bl 89 1 88,om 90 1,cI 91 .neq 89 90]
def aw4:=[ok 4 (vI (-1))]
def Ye:=[om 92 1,fL 93 92 1,om 1 93]
def Yf:=[om 94 0,om 95 5,ft 96 18 94 95,aL 97 3 96,aL 98 5 97,bl 99 1 98,om 100 1,cI 101 .neq 99 100]
def aw5:=[ok 4 (vI (-1))]
def Yg:=[om 102 1,fL 103 102 1,om 1 103]
def Yh:=[om 104 0,om 105 5,ft 106 18 104 105,aL 107 3 106,aL 108 6 107,bl 109 1 108,om 110 1,cI 111 .neq 109 110]
def aw6:=[ok 4 (vI (-1))]
def Yi:=[om 112 1,fL 113 112 1,om 1 113]
def Yj:=[om 114 0,om 115 5,ft 116 18 114 115,aL 117 3 116,aL 118 7 117,aL 119 0 118,bl 120 1 119,om 121 1,cI 122 .neq 120 121]
def aw7:=[ok 4 (vI (-1))]
def Yk:=[om 123 1,fL 124 123 1,om 1 124]
def Yl:=[om 125 0,om 126 5,ft 127 18 125 126,aL 128 3 127,aL 129 7 128,aL 130 1 129,bl 131 1 130,om 132 1,cI 133 .neq 131 132]
def aw8:=[ok 4 (vI (-1))]
def Ym:=[om 134 1,fL 135 134 1,om 1 135]
def Yn:=[om 136 0,om 137 5,ft 138 18 136 137,aL 139 3 138,aL 140 7 139,aL 141 2 140,bl 142 1 141,om 143 1,cI 144 .neq 142 143]
def aw9:=[ok 4 (vI (-1))]
def Yo:=[om 145 1,fL 146 145 1,om 1 146]
def Yp:=[om 147 0,om 148 5,ft 149 18 147 148,aL 150 3 149,aL 151 7 150,aL 152 3 151,bl 153 1 152,om 154 1,cI 155 .neq 153 154]
def axa:=[ok 4 (vI (-1))]
def Yq:=[om 156 1,fL 157 156 1,om 1 157]
def Yr:=[om 158 0,om 159 5,ft 160 18 158 159,aL 161 3 160,aL 162 11 161,aL 163 0 162,bl 164 1 163,om 165 1,cI 166 .neq 164 165]
def axb:=[ok 4 (vI (-1))]
def Ys:=[om 167 1,fL 168 167 1,om 1 168]
def Yt:=[om 169 0,om 170 5,ft 171 18 169 170,aL 172 3 171,aL 173 11 172,aL 174 1 173,bl 175 1 174,om 176 1,cI 177 .neq 175 176]
def axc:=[ok 4 (vI (-1))]
def Yu:=[om 178 1,fL 179 178 1,om 1 179]
def Yv:=[om 180 0,om 181 5,ft 182 18 180 181,aL 183 3 182,aL 184 11 183,aL 185 2 184,bl 186 1 185,om 187 1,cI 188 .neq 186 187]
def axd:=[ok 4 (vI (-1))]
def Yw:=[om 189 1,fL 190 189 1,om 1 190]
def Yx:=[om 191 0,om 192 5,ft 193 18 191 192,aL 194 3 193,aL 195 11 194,aL 196 3 195,bl 197 1 196,om 198 1,cI 199 .neq 197 198]
def axe:=[ok 4 (vI (-1))]
def Yy:=[om 200 1,fL 201 200 1,om 1 201]
def Yz:=[om 10 5,fL 11 10 1,om 5 11]
def Wl:C:=(ss (sr aci [0,1,5,9] (sc 9 .skip (.exit 0))) (ss (.block 1 (ss (sr acj [0,1,5,18] (sc 18 (sr ayH [4] .ret) .skip)) (sr ack [0,1,5] (ss (ss (.regD acl aaD [0,1,5,28]) (sc 28 (sr ayI [4] .ret) .skip)) (sr acm [0,1,5] (ss (sr acn [0,1,5,37] (sc 37 (sr awZ [4] .ret) .skip)) (sr X4 [0,1,5] (ss (sr X5 [0,1,5,48] (sc 48 (sr aw0 [4] .ret) .skip)) (sr X6 [0,1,5] (ss (sr X7 [0,1,5,59] (sc 59 (sr aw1 [4] .ret) .skip)) (sr X8 [0,1,5] (ss (sr X9 [0,1,5,70] (sc 70 (sr aw2 [4] .ret) .skip)) (sr Ya [0,1,5] (ss (sr Yb [0,1,5,81] (sc 81 (sr aw3 [4] .ret) .skip)) (sr Yc [0,1,5] (ss (sr Yd [0,1,5,91] (sc 91 (sr aw4 [4] .ret) .skip)) (sr Ye [0,1,5] (ss (sr Yf [0,1,5,101] (sc 101 (sr aw5 [4] .ret) .skip)) (sr Yg [0,1,5] (ss (sr Yh [0,1,5,111] (sc 111 (sr aw6 [4] .ret) .skip)) (sr Yi [0,1,5] (ss (sr Yj [0,1,5,122] (sc 122 (sr aw7 [4] .ret) .skip)) (sr Yk [0,1,5] (ss (sr Yl [0,1,5,133] (sc 133 (sr aw8 [4] .ret) .skip)) (sr Ym [0,1,5] (ss (sr Yn [0,1,5,144] (sc 144 (sr aw9 [4] .ret) .skip)) (sr Yo [0,1,5] (ss (sr Yp [0,1,5,155] (sc 155 (sr axa [4] .ret) .skip)) (sr Yq [0,1,5] (ss (sr Yr [0,1,5,166] (sc 166 (sr axb [4] .ret) .skip)) (sr Ys [0,1,5] (ss (sr Yt [0,1,5,177] (sc 177 (sr axc [4] .ret) .skip)) (sr Yu [0,1,5] (ss (sr Yv [0,1,5,188] (sc 188 (sr axd [4] .ret) .skip)) (sr Yw [0,1,5] (ss (sr Yx [0,1,5,199] (sc 199 (sr axe [4] .ret) .skip)) (.reg Yy [0,1,5]))))))))))))))))))))))))))))))))))))) (.reg Yz [0,1,5])))
def YA:=[om 202 1,om 4 202]
def ahL:C:=(sr acg [0,1] (ss (sr ach [0,1,5] (.block 0 (.loop Wl))) (sr YA [4] .ret)))
def aC5:Nat->List Nat
 | 0=>[0,1]
 | 1=>[0,1,5]
 | 2=>[0,1,5,9]
 | 4=>[0,1,5,18]
 | 5=>[4]
 | 6=>[0,1,5]
 | 7=>[0,1,5,28]
 | 8=>[4]
 | 9=>[0,1,5]
 | 10=>[0,1,5,37]
 | 11=>[4]
 | 12=>[0,1,5]
 | 13=>[0,1,5,48]
 | 14=>[4]
 | 15=>[0,1,5]
 | 16=>[0,1,5,59]
 | 17=>[4]
 | 18=>[0,1,5]
 | 19=>[0,1,5,70]
 | 20=>[4]
 | 21=>[0,1,5]
 | 22=>[0,1,5,81]
 | 23=>[4]
 | 24=>[0,1,5]
 | 25=>[0,1,5,91]
 | 26=>[4]
 | 27=>[0,1,5]
 | 28=>[0,1,5,101]
 | 29=>[4]
 | 30=>[0,1,5]
 | 31=>[0,1,5,111]
 | 32=>[4]
 | 33=>[0,1,5]
 | 34=>[0,1,5,122]
 | 35=>[4]
 | 36=>[0,1,5]
 | 37=>[0,1,5,133]
 | 38=>[4]
 | 39=>[0,1,5]
 | 40=>[0,1,5,144]
 | 41=>[4]
 | 42=>[0,1,5]
 | 43=>[0,1,5,155]
 | 44=>[4]
 | 45=>[0,1,5]
 | 46=>[0,1,5,166]
 | 47=>[4]
 | 48=>[0,1,5]
 | 49=>[0,1,5,177]
 | 50=>[4]
 | 51=>[0,1,5]
 | 52=>[0,1,5,188]
 | 53=>[4]
 | 54=>[0,1,5]
 | 55=>[0,1,5,199]
 | 56=>[4]
 | 57=>[0,1,5]
 | 3=>[0,1,5]
 | 58=>[4]
 | _=>[]
theorem aA4:cE T0 ahL [(.tmp 4)] 203 :=
 ⟨Tryz.f114,_,aC5,func114,rfl,by kernel_rfl,by kernel_rfl,by kernel_rfl,rfl⟩
def E3:=[ok 2 (vS [])]
def E4:=[om 4 0,cn 5 .leq 4 0]
def E5:=[ok 2 (vS [109,48])]
def E6:=[ok 3 (vS [])]
def E7:=[om 6 0,cn 7 .gtr 6 0]
def E8:=[om 8 0,cn 9 .rem 8 10,oo 10 (.bin .add .none (xI 48) (.t 9)),oo 11 (.conv (.int .u8) (.t 10)),oo 12 (.bslice 1 (.v (.int .u8 (0))) 1 [(0,(.t 11))]),oo 13 (.conv .bytesStr (.t 12)),om 14 3,cI 15 .add 13 14,om 3 15]
def E9:=[om 16 0,cn 17 .quo 16 10,om 0 17]
def Ew:C:=(ss (sr E7 [0,3,7] (sc 7 .skip (.exit 0))) (.block 1 (sr E8 [0,3] (.reg E9 [0,3]))))
def Fa:=[om 18 3,oo 19 (.bin .add .none (.k (vS [109])) (.t 18)),om 2 19]
def Jj:C:=(sr E3 [0] (ss (sr E4 [0,5] (sc 5 (sr E5 [2] .ret) .skip)) (sr E6 [0,3] (ss (.block 0 (.loop Ew)) (sr Fa [2] .ret)))))
theorem Y6:cE pV Jj [(.tmp 2)] 20:=dE func80 rfl
def aeR (k:Nat):List UInt8:=109::fw k
theorem aQN {n:Int} (h1:0<=n) (h2:n<=255):IntKind.u8.wrap n=n:=by
 simp[IntKind.wrap,IntKind.signed,IntKind.bits];omega
theorem Np (k:Nat) (hk:k<=100000000):di pV [I k] (S (aeR k)):=by
 refine aa.of Y6 (by simp) ?_;simp[Jj,E3,E4];refine⟨fun h=>?_,fun h=>?_⟩
 ·have:k=0:=by omega
  subst this;simp[E5,aeR,nW]
 ·simp[E6,Ew];refine dl (fun p:Nat×List UInt8=>⟨[(0,I p.1),(3,S p.2)],[],[]⟩) (fun p=>p.1) (fun p=>p.1<=k/\p.2.length<=2 * (k - p.1)/\(0 < p.1->fw k=fw p.1++p.2)/\(p.1=0->fw k=p.2)) (k,[]) Wk.li ⟨by simp,by simp,by simp,fun h'=>by dsimp only at h';omega⟩ ?_;rintro ⟨j,suf⟩ ⟨hj,hl,h1,h2⟩ K hN hR hE;dsimp only at hj hl h1 h2;simp[E7];refine⟨fun hlt=>?_,fun hge=>?_⟩
  ·obtain ⟨m,hm,hmj⟩:∃ m,m < 10/\j % 10=m:=⟨j % 10,by omega,rfl⟩;have e2:(j:Int).tmod 10=(m:Int):=by rw[Int.tmod_eq_emod_of_nonneg (by omega)];omega
   have hd:=h1 (by omega);simp[E8];rw[e2,aD (by omega),aQN (by omega) (by omega)];rw[show (48+(m:Int)).toNat=48+m by omega];refine⟨by omega,?_⟩;simp[E9];rw[aD (by omega)];refine hN (j / 10,UInt8.ofNat (48+m)::suf) _ (by dsimp only;omega) ⟨by dsimp only;omega,by simp only[List.length_cons];omega,fun h'=>?_,fun h'=>?_⟩ Wk.li
   ·dsimp only at h' ⊢;rw[hd,Er (n:=j) (by omega),hmj];simp
   ·dsimp only at h' ⊢;rw[hd,nW (n:=j) (by omega),<- hmj,show j % 10=j by omega];simp
  ·refine hE _ _ ?_;have:j=0:=by omega
   subst this;have:=h2 rfl;simp only[cv];simp[Fa,aeR,<- this];have:=ME k;omega
def lU (k:Nat):Grant:=⟨((k:Nat):Int),aeR (k+1),((k+2:Nat):Int),⟨⟨((k+3:Nat):Int),((k+4:Nat):Int),((k+5:Nat):Int),((k+6:Nat):Int)⟩,((k+7:Nat):Int),((k+8:Nat):Int),((k+9:Nat):Int),⟨((k+10:Nat):Int),((k+11:Nat):Int),((k+12:Nat):Int),((k+13:Nat):Int)⟩,⟨((k+14:Nat):Int),((k+15:Nat):Int),((k+16:Nat):Int),((k+17:Nat):Int)⟩⟩⟩
def ey (k:Nat) (n:Nat):List Grant:=(List.range n).map fun i:Nat=>lU (k+18 * i)
theorem oa (k n:Nat):(ey k n).length=n:=by simp[ey]
theorem Py (k:Nat) (n:Nat):ey k (n+1)=ey k n++[lU (k+18 * n)]:=by simp only[ey,List.range_succ,List.map_append,List.map_cons,List.map_nil]
theorem aDc {k m i:Nat} (h:i < (ey k m).length):(ey k m)[i]=lU (k+18 * i):=by simp[ey]
set_option maxHeartbeats 4000000 in
theorem aeg (l:List Grant) (k:Nat) (hl:l.length<=1048576) (hk:k<=1000000) :
  ie uC [⟨18,l.map bd⟩] [.sl (mG 0) 0 l.length,I k] (I ((k+18 * l.length:Nat):Int)) [some ⟨18,(ey k l.length).map bd⟩]:=by
 refine ac.of Ps (by simp) rfl (by simp) ?_;simp[En,zl,zm,vJ]
 refine dl (fun i:Nat=>⟨[(0,.sl 1000000 0 l.length),(1,I ((k+18 * i:Nat):Int)),(5,I i)],[(1000000,⟨18,(ey k i++l.drop i).map bd⟩)],[1000000]⟩) (fun i=>l.length - i)
  (fun i=>i<=l.length) 0 (Wk.list rfl (by simp) (by simp[ey])) (by simp) ?_
 intro i hi K hN hR hE;simp[zn];have hml:(List.map bd (ey k i)).length=i:=by rw[List.length_map,oa]
 refine⟨fun hlt=>?_,fun hge=>?_⟩
 ·have hd:(l.map bd).drop i=bd l[i]::(l.map bd).drop (i+1):=by rw[yf (l:=l.map bd) (by simpa using hlt)];simp
  simp only[hd];simp[zo,zp,hlt,fJ hml,fK hml];rw[aD (by omega)];simp[zq];refine al (aa.ag (Np (k+18 * i+1) (by omega))) ?_;simp[zr,hlt,fJ hml,fK hml];rw[aD (by omega)];simp[zt,zu,hlt,fJ hml,fK hml];rw[aD (by omega)];simp[zv,wx,hlt,fJ hml,fK hml];rw[aD (by omega)];simp[wy,wz,hlt,fJ hml,fK hml];rw[aD (by omega)];simp[wA,wB,hlt,fJ hml,fK hml];rw[aD (by omega)];simp[wC,wD,hlt,fJ hml,fK hml];rw[aD (by omega)];simp[wE,wF,hlt,fJ hml,fK hml];rw[aD (by omega)];simp[wG,wH,hlt,fJ hml,fK hml];rw[aD (by omega)];simp[wI,wJ,hlt,fJ hml,fK hml];rw[aD (by omega)];simp[wK,wL,hlt,fJ hml,fK hml];rw[aD (by omega)];simp[wM,wN,hlt,fJ hml,fK hml];rw[aD (by omega)];simp[wO,wP,hlt,fJ hml,fK hml];rw[aD (by omega)];simp[wQ,wR,hlt,fJ hml,fK hml];rw[aD (by omega)];simp[wS,wT,hlt,fJ hml,fK hml];rw[aD (by omega)];simp[wU,wV,hlt,fJ hml,fK hml];rw[aD (by omega)];simp[wW,wX,hlt,fJ hml,fK hml];rw[aD (by omega)];simp[wY,wZ,hlt,fJ hml,fK hml];rw[aD (by omega)];simp[w4];rw[aD (by omega)];refine hN (i+1) _ (by omega) (by omega) (Wk.list rfl ?_ ?_)
  ·simp;omega
  ·simp[Py,lU,fK hml];omega
 ·refine hE _ _ ?_;obtain rfl:i=l.length:=by omega
  simp[w5,oa]
set_option maxHeartbeats 4000000 in
theorem asL (k m:Nat) (hm:m<=1048576) (hk:k<=1000000):di T0 [.ro 18 ((ey k m).map bd),I k] (I ((k+18 * m:Nat):Int)):=by
 refine aa.of aA4 (by simp) ?_;simp[ahL,acg,ach,Wl];refine dl (fun i:Nat=>⟨[(0,.ro 18 ((ey k m).map bd)),(1,I ((k+18 * i:Nat):Int)),(5,I i)],[],[]⟩) (fun i=>m - i) (fun i=>i<=m) 0 Wk.li (by simp) ?_;intro i hi K hN hR hE;simp[aci,oa];refine⟨fun hlt=>?_,fun hge=>?_⟩
 ·have hg:i < (ey k m).length:=by rw[oa];exact hlt
  have hx:=aDc hg;simp[acj,ack,hlt,hg,hx,lU,Int.add_assoc];rw[aD (by omega)];simp[acl,aaD,hlt,hg,hx,lU];refine iV (aa.arg (Np (k+18 * i+1) (by omega)) (by simp[Int.add_assoc])) ?_ ?_ ?_
  ·simp
  ·simp
  simp;refine⟨a7 (by first | kernel_rfl | simp) (by first | kernel_rfl | simp),?_⟩;simp[acm];rw[aD (by omega)];simp[acn,X4,hlt,hg,hx,lU,Int.add_assoc];rw[aD (by omega)];simp[X5,X6,hlt,hg,hx,lU,Int.add_assoc];rw[aD (by omega)];simp[X7,X8,hlt,hg,hx,lU,Int.add_assoc];rw[aD (by omega)];simp[X9,Ya,hlt,hg,hx,lU,Int.add_assoc];rw[aD (by omega)];simp[Yb,Yc,hlt,hg,hx,lU,Int.add_assoc];rw[aD (by omega)];simp[Yd,Ye,hlt,hg,hx,lU,Int.add_assoc];rw[aD (by omega)];simp[Yf,Yg,hlt,hg,hx,lU,Int.add_assoc];rw[aD (by omega)];simp[Yh,Yi,hlt,hg,hx,lU,Int.add_assoc];rw[aD (by omega)];simp[Yj,Yk,hlt,hg,hx,lU,Int.add_assoc];rw[aD (by omega)];simp[Yl,Ym,hlt,hg,hx,lU,Int.add_assoc];rw[aD (by omega)];simp[Yn,Yo,hlt,hg,hx,lU,Int.add_assoc];rw[aD (by omega)];simp[Yp,Yq,hlt,hg,hx,lU,Int.add_assoc];rw[aD (by omega)];simp[Yr,Ys,hlt,hg,hx,lU,Int.add_assoc];rw[aD (by omega)];simp[Yt,Yu,hlt,hg,hx,lU,Int.add_assoc];rw[aD (by omega)];simp[Yv,Yw,hlt,hg,hx,lU,Int.add_assoc];rw[aD (by omega)];simp[Yx,Yy,hlt,hg,hx,lU,Int.add_assoc];rw[aD (by omega)];simp[Yz];rw[aD (by omega)];refine hN (i+1) _ (by omega) (by omega) (Wk.list rfl ?_ ?_)
  ·simp;omega
  ·simp
 ·refine hE _ _ ?_;obtain rfl:i=m:=by omega
  simp[YA]
def Pa:=[eF 2 3 0,eF 3 3 1,ok 4 (vB false)]
def Pb:=[aL 5 0 2,bl 6 1 5,aL 7 0 3,bl 8 1 7,cI 9 .neq 6 8]
def amf:=[ok 4 (vB false)]
def Pc:=[aL 10 1 2,bl 11 1 10,aL 12 1 3,bl 13 1 12,cI 14 .neq 11 13]
def amg:=[ok 4 (vB false)]
def Pd:=[aL 15 2 2,bl 16 1 15,aL 17 2 3,bl 18 1 17,cI 19 .neq 16 18]
def amh:=[ok 4 (vB false)]
def Pe:=[ok 4 (vB true)]
def aai:C:=(sr Pa [2,3] (ss (sr Pb [2,3,9] (sc 9 (sr amf [4] .ret) .skip)) (ss (sr Pc [2,3,14] (sc 14 (sr amg [4] .ret) .skip)) (ss (sr Pd [19] (sc 19 (sr amh [4] .ret) .skip)) (sr Pe [4] .ret)))))
theorem ar4:cE MY aai [(.tmp 4)] 20:=dE func53 rfl
theorem aHA (p:Log):di MY [.agg [S p.durable,S p.pending,I p.count],.agg [S p.durable,S p.pending,I p.count]] (B true):=by
 refine aa.of ar4 (by simp) ?_;simp[aai,Pa,Pb,Pc,Pd,Pe]
theorem I9 (c:Console):di nP [co c,co c] (B true):=by
 refine aa.of Ty (by simp) ?_;simp[Gs,Cv,Cw];refine al (aa.ag (LS c.grants c.grants)) ?_;simp[Cx];refine al (aa.ag (aHA c.log)) ?_;simp[Cy]
theorem Vy (l:aT) (k:Nat) (hl:l.length<=1048576) (hk:k<=1000000) :
  ie pI [⟨18,l.map bd⟩] [.agg [.sl (mG 0) 0 l.length],I k] (I ((k+18 * l.length:Nat):Int)) [some ⟨18,(ey k l.length).map bd⟩]:=by
 refine ac.of Jt (by simp) rfl (by simp) ?_;simp[yb,uN,uO];refine So [1000000] (ac.ag (aeg l k hl hk)) ?_;simp[uP]
theorem NG (c:Console) (k:Nat) (hl:c.grants.length<=1048576) (hk:k<=1000000) :
  ie pb [⟨18,c.grants.map bd⟩] [.agg [.sl (mG 0) 0 c.grants.length,S c.log.durable,S c.log.pending,I c.log.count],I k] (I ((k+18 * c.grants.length:Nat):Int)) [some ⟨18,(ey k c.grants.length).map bd⟩]:=by
 refine ac.of MK (by simp) rfl (by simp) ?_;simp[AX,wu,wv];refine So [1000000] (ac.ag (Vy c.grants k hl hk)) ?_;simp[ww]
theorem amI (k m:Nat) (hm:m<=1048576) (hk:k<=1000000):di MZ [bn (ey k m),I k] (I ((k+18 * m:Nat):Int)):=by
 refine aa.of atL (by simp) ?_;simp[aaj,Ve,Vf];refine al (aa.ag (asL k m hm hk)) ?_;simp[Vg,Vh,Vi];omega
theorem Sh (k m:Nat) (g:Log) (hm:m<=1048576) (hk:k<=1000000):di HC [co ⟨ey k m,g⟩,I k] (I ((k+18 * m:Nat):Int)):=by
 refine aa.of ax9 (by simp) ?_;simp[aeA,XW,XX];refine al (aa.ag (amI k m hm hk)) ?_;simp[XY,XZ,X0];omega
def zO:=[eF 2 3 0,ok 4 (vI 0)]
def zP:=[om 5 1,aL 6 0 2,bl 7 1 6,oo 8 (.len true (.t 7)),cI 9 .sub 5 8,om 1 9]
def zQ:=[om 10 1,cn 11 .lss 10 0]
def zR:=[ok 4 (vI (-1))]
def zS:=[om 12 1,aL 13 1 2,bl 14 1 13,oo 15 (.len true (.t 14)),cI 16 .sub 12 15,om 1 16]
def zT:=[om 17 1,cn 18 .lss 17 0]
def zU:=[ok 4 (vI (-1))]
def zV:=[om 19 1,om 4 19]
def Im:C:=(sr zO [1,2] (sr zP [1,2] (ss (sr zQ [1,2,11] (sc 11 (sr zR [4] .ret) .skip)) (sr zS [1] (ss (sr zT [1,18] (sc 18 (sr zU [4] .ret) .skip)) (sr zV [4] .ret))))))
theorem TA:cE yt Im [(.tmp 4)] 20:=dE func32 rfl
def zW:=[eF 1 3 0,dD 2 3 (.agg [vS [],vS [],vI 0])]
def zX:=[dD 3 3 (.agg [vS [],vS [],vI 0])]
def zY:=[aL 4 0 1,bl 5 1 4,aL 6 0 3,bg 1 6 5]
def zZ:=[aL 7 1 1,bl 8 1 7,aL 9 1 3,bg 1 9 8]
def z6:=[aL 10 2 1,bl 11 1 10,aL 12 2 3,bg 1 12 11]
def z7:=[bu 13 3 3,bg 3 2 13]
def Io:C:=(sr zW [1,2] (sr zX [1,2,3] (sr zY [1,2,3] (sr zZ [1,2,3] (sr z6 [2,3] (sr z7 [2] .ret))))))
theorem TC:cE vj Io [(.cell 2 true 3)] 14:=dE func34 rfl
theorem axD (l:Log) (left:Int) (h0:0<=left) (h1:left<=1048576):di yt [rA l,I left] (I (rest left (l.durable.length+l.pending.length))):=by
 refine aa.ofL TA (by simp) fun hl=>?_;simp at hl;obtain ⟨hc,hr⟩:=hl;simp[Im,zO,zP];rw[aD (by omega)];simp[zQ];refine⟨fun h=>?_,fun h=>?_⟩
 ·simp[zR,rest];omega
 ·simp[zS];rw[aD (by omega)];simp[zT,zU,zV,rest];constructor<;>intros<;>omega
theorem anj (l:Log):di vj [rA l] (rA l):=by
 refine aa.of TC (by simp) ?_;simp[Io,zW,zX,zY,zZ,z6,z7]
theorem xn (c:Console) (hl:c.grants.length<=1048576):di jH [co c] (GN c):=by
 refine aa.of TB (by simp) ?_;simp[Gu,CH,CI,CJ];refine aZ (aa.ag (AQ c.grants hl)) ?_;simp[CL];refine aZ (aa.ag (anj c.log)) ?_;simp[CM]
def szC (c:Console):Nat:=szG c.grants+(c.log.durable.length+c.log.pending.length)
theorem amJ (c:Console) (left:Int) (h0:0<=left) (h1:left<=1048576):di xw [co c,I left] (I (rest left (szC c))):=by
 refine aa.of Tz (by simp) ?_;simp[Gt,Cz,CA];refine al (aa.ag (LU c.grants left h0 h1)) ?_;simp[CB];refine⟨fun hneg=>?_,fun hge=>?_⟩
 ·simp[CC];unfold rest szC at *;split at hneg<;>split<;>omega
 ·have hs:=tW (left:=left) (n:=szG c.grants) (by omega);have he:rest left (szG c.grants)=left - szG c.grants:=by unfold rest;rw[if_neg (by omega)]
  rw[he];simp[CD];refine al (aa.ag (axD c.log (left - szG c.grants) (by omega) (by omega))) ?_;simp[CE,CF,CG];unfold rest szC;constructor
  ·intro h;split at h<;>split<;>omega
  ·intro h;split at h<;>split<;>omega
set_option maxHeartbeats 1000000 in
theorem aFV (c:Console) (s:List UInt8):di FK [co c,S s] (B true):=by
 refine aa.of Tx (by simp) ?_;simp[FH,DT,DU];refine⟨fun _=>by simp[DV],fun _=>?_⟩;simp[DW,DX];refine al (aa.ag (amJ c 1048576 (by omega) (by omega))) ?_;simp[DY];refine⟨fun _=>by simp[DZ],fun hge=>?_⟩;have hs:=tW (left:=1048576) (n:=szC c) (by omega);have hl:c.grants.length<=1048576:=by unfold szC szG at hs;omega
 have hf:iw c.log:=by unfold szC at hs;unfold iw;omega
 have hk:=(vg s hf hl).2;have hI:=pH c s hf hl;have hS:=jJ c s hf hl;obtain ⟨p,hp⟩:∃ p,gN c s=p:=⟨_,rfl⟩;rw[hp] at hk hI hS;obtain ⟨d,t⟩:=p;dsimp only at hk hI hS;simp[D1];refine aZ (aa.ag (xn c hl)) ?_;simp;refine ahM [] [26] (jA.arg (jA.ofPCall hS (by simp) (by simp) (by simp)) (by simp)) (by simp) (by simp) (by simp) (by simp) (by simp) (by simp) ?_;simp[D4];refine aZ (aa.ag (xn c hl)) ?_;simp[D5];refine aZ (aa.at hI) ?_;simp[Cd];refine al (aa.at (I9 d)) ?_;simp;simp[Ce,rL];refine gm (aa.ag (xn c hl)) ?_;simp;refine cF (aa.at (I9 c)) ?_;simp;refine⟨a7 (by simp[rL]) (by simp),?_⟩;simp[Cf,Cg];refine So [32] (ac.ag (NG c 1 (by omega) (by omega))) ?_;have hk1:¬(1+18 * (c.grants.length:Int) < 0):=by omega
 simp[Ch,hk1];refine al (aa.at (I9 d)) ?_;simp;simp[Ci,Cj];refine So [36] (ac.ag (NG d 1 (by omega) (by omega))) ?_;have hk2:¬(1+18 * (d.grants.length:Int) < 0):=by omega
 simp[Ck,Cl,hk2];refine al (aa.arg (Sh 1 d.grants.length d.log (by omega) (by omega)) (by simp[oa,List.take_of_length_le])) ?_;simp[Cm,Cn,hk2];simp[Co];refine aZ (aa.ag (xn c hl)) ?_;simp;refine aZ (aa.at hI) ?_;simp[Cp];refine al (aa.at (I9 d)) ?_;simp;simp[Cq,Cr];refine al (aa.arg (Sh 1 d.grants.length d.log (by omega) (by omega)) (by simp[oa,List.take_of_length_le])) ?_;simp[Cs,Ct,Cu,hk2]
end Go.Proofs.YtnjjimhkbpdpgaaGreatDoor
