/- Parts of the proof that several claims share, part 4. -/
import Derived.Test.YtjkogbgbienloaaGreatDoorProg
import Derived.KernelRfl
import Derived.Lib.ItoaNum
import Derived.Lib.LaidTab
import Derived.Sort.Grow
import Derived.Deep.Draws
import Derived.Below
import Derived.Test.YtjkogbgbienloaaGreatDoorQ3
set_option linter.unusedVariables false
set_option linter.unusedSimpArgs false
namespace Go.Proofs.YtjkogbgbienloaaGreatDoor
def pB:Nat:=6
def ku:Nat:=9
def rS:Nat:=25
def Bn:Nat:=26
def HJ:Nat:=27
def iV:Nat:=28
def yN:Nat:=30
def fL:Nat:=31
def jl:Nat:=32
def Km:Nat:=33
def gW:Nat:=34
def E2:Nat:=35
def gO:Nat:=47
def cP:Nat:=48
def HI:Nat:=49
def ve:Nat:=50
def eJ:Nat:=51
def mK:Nat:=52
def E1:Nat:=54
def Bp:Nat:=55
def qz:Nat:=57
def bK:Nat:=58
def eW:Nat:=59
def mN:Nat:=60
def eX:Nat:=61
def kr:Nat:=62
def fD:Nat:=65
def Ko:Nat:=82
def qy:Nat:=83
def cL:Nat:=84
def dE:Nat:=85
def Bh:Nat:=86
def EY:Nat:=87
def Bm:Nat:=88
def lc:Nat:=89
def E0:Nat:=90
def tn:Nat:=91
def Oq:Nat:=92
def Bo:Nat:=93
def dJ:Nat:=95
def qx:Nat:=97
def mE:Nat:=98
def il:Nat:=110
def gA:Nat:=122
def gV:Nat:=123
def vd:Nat:=124
def tk:Nat:=125
def dc:Nat:=126
def qA:Nat:=127
def qC:Nat:=128
def EZ:Nat:=129
def Kv:Nat:=130
def Bl:Nat:=131
def Kr:Nat:=132
def tm:Nat:=133
def lu:Nat:=134
def Br:Nat:=135
def Kw:Nat:=136
def xt:Nat:=137
def bW:Nat:=140
def fN:Nat:=141
def tj:Nat:=143
def mC:Nat:=144
def ii:Nat:=145
def mA:Nat:=146
def vf:Nat:=161
def Bi:Nat:=162
def gU:Nat:=163
def oL:Nat:=164
def jA:Nat:=165
def fM:Nat:=166
def gy:Nat:=167
def lv:Nat:=168
def Kq:Nat:=169
def vg:Nat:=170
def Bq:Nat:=171
def oP:Nat:=172
def mL:Nat:=173
def jk:Nat:=174
def mM:Nat:=175
def Ks:Nat:=176
def rR:Nat:=178
def mB:Nat:=179
def mD:Nat:=180
def mF:Nat:=181
def xo:Nat:=182
def Bj:Nat:=183
def pA:Nat:=184
def Kn:Nat:=190
def ik:Nat:=191
def gN:Nat:=192
def LB:Nat:=193
def CG:Nat:=194
def CH:Nat:=195
def Kt:Nat:=196
def Kp:Nat:=197
def lf:Nat:=198
def Ku:Nat:=199
def qB:Nat:=200
def xq:Nat:=202
def xp:Nat:=203
theorem aiZ:Tryz.prog.globalNamed "internal/strconv.uint64pow10"=some 1:=by kernel_rfl
instance:Abs.GI where
 holds w D:=Lib.TabIs Tryz.prog w "internal/strconv.uint64pow10" .u64 Lib.pow10Tab/\D 1
 mono:=by
  rintro w w' D D' ⟨h1,h2⟩ hD hh;refine⟨?_,hD _ h2⟩;unfold Lib.TabIs World.var? at h1 ⊢;rw[aiZ] at h1 ⊢;simp only[Option.bind_some] at h1 ⊢;rw[hh _ h2];exact h1
open Abs
abbrev om (d t:Nat):CO:=⟨none,some d,.mv (.t t)⟩
abbrev ok (d:Nat) (v:V):CO:=⟨none,some d,.mv (.k v)⟩
abbrev oo (d:Nat) (x:O):CO:=⟨none,some d,x⟩
abbrev ou (x:O):CO:=⟨none,none,x⟩
abbrev oT (g d:Nat) (x:O):CO:=⟨some (g,true),some d,x⟩
abbrev oF (g d:Nat) (x:O):CO:=⟨some (g,false),some d,x⟩
abbrev aJ (d k t:Nat):CO:=⟨none,some d,.faddr k (.t t)⟩
abbrev bd (d n t:Nat):CO:=⟨none,some d,.ld false n (.t t)⟩
abbrev cm (d n t:Nat):CO:=⟨none,some d,.ld true n (.t t)⟩
abbrev cy (n a x:Nat):CO:=⟨none,none,.st n (.t a) (.t x)⟩
abbrev sE (d t i:Nat):CO:=⟨none,some d,.ext (.t t) i⟩
abbrev ep (d s t i:Nat):CO:=⟨none,some d,.iaddr s (.t t) (.t i)⟩
abbrev fc (d n t:Nat):CO:=⟨none,some d,.box n (.t t)⟩
abbrev qo (d n:Nat) (v:V):CO:=⟨none,some d,.box n (.k v)⟩
abbrev di (d f t:Nat):CO:=⟨none,some d,.call f [.t t]⟩
abbrev eo (d f t u:Nat):CO:=⟨none,some d,.call f [.t t,.t u]⟩
abbrev fv (d t:Nat) (n:Int):CO:=⟨none,some d,.bin .add .none (.t t) (.k (.v (.int .i64 n)))⟩
abbrev bM (d:Nat) (b:BinOp) (t u:Nat):CO:=⟨none,some d,.bin b .none (.t t) (.t u)⟩
abbrev cD (d:Nat) (b:BinOp) (t:Nat) (n:Int):CO:=⟨none,some d,.bin b .none (.t t) (.k (.v (.int .i64 n)))⟩
abbrev xI (n:Int):X:=.k (.v (.int .i64 n))
abbrev xB (b:Bool):X:=.k (.v (.bool b))
abbrev vI (n:Int):V:=.v (.int .i64 n)
abbrev vB (b:Bool):V:=.v (.bool b)
abbrev vS (l:List UInt8):V:=.v (.string (bs l))
abbrev vN:V:=.v (.slice none 0 0)
abbrev QF:V:=.agg [vI 0,vI 0,vI 0,vI 0]
abbrev Qt:V:=.agg [vI 0,vI 0,vI 0,vI 0,vI 0,vI 0,vI 0,vI 0,vI 0,vI 0,vI 0,vI 0,vI 0,vI 0,vI 0]
abbrev Cd:V:=.agg [vI 0,vS [],vI 0,vI 0,vI 0,vI 0,vI 0,vI 0,vI 0,vI 0,vI 0,vI 0,vI 0,vI 0,vI 0,vI 0,vI 0,vI 0]
abbrev sr (r:List CO) (k:List Nat) (c:C):C:=.seq (.reg r k) c
abbrev ss (a b:C):C:=.seq a b
abbrev sc (t:Nat) (a b:C):C:=.cond (.t t) a b
def EO:C->List (List Nat)
 | .reg _ k=>[k]
 | .regD _ _ k=>[k]
 | .wk c=>match EO c with
   | k::r=>(999999::k)::r
   | []=>[]
 | .seq a b=>EO a++EO b
 | .cond _ a b=>EO a++EO b
 | .block _ c=>EO c
 | .loop c=>EO c
 | _=>[]
def ag9 (c:C) (i:Nat):List Nat:=(EO c).getD i []
theorem dK {α:Type} {a:Option α} {b c:α} (h:a=some b) (e:b=c:=by kernel_rfl):a=some c:=by rw[h,e]
theorem dh {P:Program} {f n:Nat} {c:C} {rs:List RV} {fn:Func} {code:Code} (h:P.funcs[f]?=some fn) (hb:fn.body=some code)
  (e:(fn.name != "runtime.NumGoroutine",rM P fn.ntmps (ag9 c) code,ZP P fn.results.toList,fn.ntmps)=(true,c,some rs,n):=by kernel_rfl):FnC P f c rs n:=by
 simp only[Prod.mk.injEq] at e;exact⟨fn,code,ag9 c,h,hb,e.1,e.2.1,e.2.2.1,e.2.2.2⟩
abbrev cJ (f:Nat) (a:List V) (r:V):Prop:=aa Tryz.prog f a r
abbrev x4 (f:Nat) (h:List Blk) (a:List V) (r:V) (g:List (Option Blk)):Prop:=ac Tryz.prog f h a r g
abbrev cz (f:Nat) (c:C) (r:List RV) (n:Nat):Prop:=FnC Tryz.prog f c r n
end Go.Proofs.YtjkogbgbienloaaGreatDoor
namespace Go.Proofs.YtjkogbgbienloaaGreatDoor
open Go.Abs
set_option maxRecDepth 100000
def CP:=[fc 2 1 0,fc 3 3 1,ok 4 vN,ok 5 (vB false)]
def CQ:=[cm 22 1 2,cm 23 3 3,eo 24 yN 22 23,om 21 24,sE 25 21 0,sE 26 21 1,sE 27 21 2,om 6 25,om 7 26,om 8 27]
def qG:=[om 28 8,oo 29 (.un .not (.t 28))]
def CS:=[ok 4 vN,ok 5 (vB false)]
def CT:=[oo 30 .mkmap,oo 31 (.bslice 1 (vS []) 0 []),om 9 30,om 10 31]
def CU:=[cm 32 1 2,aJ 33 0 3,bd 34 1 33,eo 35 fL 32 34,oo 36 (.len false (.t 35)),ok 37 (vI 0)]
def CW:=[bM 38 .lss 37 36]
def CX:=[om 39 37,ep 40 18 35 37,cm 41 18 40,qo 12 18 Cd,om 11 39,cy 18 12 41]
def CY:=[om 43 9,aJ 44 1 12,bd 45 1 44,oo 46 (.look true (.t 43) (.t 45)),om 42 46,sE 47 42 0,sE 48 42 1,om 13 47,om 14 48]
def qH:=[om 49 14,oo 50 (.un .not (.t 49))]
def zh:=[om 51 10,aJ 52 1 12,bd 53 1 52,oo 54 (.bslice 1 (vS []) 1 [(0,(.t 53))]),oo 55 (.app 1 16 (.t 51) (.t 54)),om 10 55]
def pb:=[om 56 9,aJ 57 1 12,bd 58 1 57,om 59 9,aJ 60 1 12,bd 61 1 60,oo 62 (.look false (.t 59) (.t 61)),om 63 7,om 64 11,ep 65 1 63 64,bd 66 1 65,oo 67 (.bslice 1 (vI 0) 1 [(0,(.t 66))]),oo 68 (.app 1 8 (.t 62) (.t 67)),ou (.mupd (.t 56) (.t 58) (.t 68))]
def gY:List (List Nat):=[[],[],[1],[],[],[4],[3,4,5],[],[],[7,8],[7,8,9],[7,8,9,10],[3,4,5,6,7,8,9,10,11],[0,1,2,3,4,5,6,7,8,9,10,11,12]]
def pc:=[fv 69 37 1,om 37 69]
def yz:C:=(sr CW [7,9,10,35,36,37,38] (ss (sc 38 .skip (.exit 0)) (ss (.block 1 (sr CX [7,9,10,11,12,35,36,37] (ss (sr CY [7,9,10,11,12,14,35,36,37] (sr qH [7,9,10,11,12,35,36,37,50] (sc 50 (.reg zh [7,9,10,11,12,35,36,37]) .skip))) (.wk (.regD pb gY [7,9,10,35,36,37]))))) (.reg pc [7,9,10,35,36,37]))))
def zi:=[om 70 10,di 71 jl 70]
def zj:=[oo 72 (.bslice 1 (vS []) 0 []),om 15 72]
def zk:=[om 73 10,oo 74 (.len false (.t 73)),ok 75 (vI 0)]
def zl:=[bM 76 .lss 75 74]
def zm:=[ep 77 1 73 75,bd 78 1 77,om 17 78]
def zn:=[oo 79 (.bslice 1 (vS []) 0 []),om 18 79]
def zo:=[om 80 9,om 81 17,oo 82 (.look false (.t 80) (.t 81)),di 83 Km 82,oo 84 (.len false (.t 83)),ok 85 (vI 0)]
def zp:=[bM 86 .lss 85 84]
def zq:=[ep 87 1 83 85,bd 88 1 87,om 20 88]
def zr:=[om 89 18,om 90 20,di 91 gW 90,oo 92 (.bslice 1 (vS []) 1 [(0,(.t 91))]),oo 93 (.app 1 16 (.t 89) (.t 92)),om 18 93]
def zt:=[fv 94 85 1,om 85 94]
def yA:C:=(sr zp [9,15,17,18,73,74,75,83,84,85,86] (ss (sc 86 .skip (.exit 4)) (ss (.block 5 (sr zq [9,15,17,18,20,73,74,75,83,84,85] (.reg zr [9,15,17,18,73,74,75,83,84,85]))) (.reg zt [9,15,17,18,73,74,75,83,84,85]))))
def zu:=[om 95 15,om 96 17,oo 97 (.bin .add .none (.t 96) (.k (vS [32]))),om 98 18,oo 99 (.call E2 [.t 98,(.k (vS [44,32]))]),bM 100 .add 97 99,oo 101 (.bslice 1 (vS []) 1 [(0,(.t 100))]),oo 102 (.app 1 16 (.t 95) (.t 101)),om 15 102]
def zv:=[fv 103 75 1,om 75 103]
def yB:C:=(sr zl [9,15,73,74,75,76] (ss (sc 76 .skip (.exit 2)) (ss (.block 3 (sr zm [9,15,17,73,74,75] (sr zn [9,15,17,18,73,74,75] (ss (sr zo [9,15,17,18,73,74,75,83,84,85] (.block 4 (.loop yA))) (.reg zu [9,15,73,74,75]))))) (.reg zv [9,15,73,74,75]))))
def zw:=[om 104 15,om 4 104,ok 5 (vB true)]
def HY:C:=(sr CP [2,3] (sr CQ [2,3,7,8] (ss (sr qG [2,3,7,29] (sc 29 (sr CS [4,5] .ret) .skip)) (sr CT [2,3,7,9,10] (ss (sr CU [7,9,10,35,36,37] (.block 0 (.loop yz))) (sr zi [9,10] (sr zj [9,10,15] (ss (sr zk [9,15,73,74,75] (.block 2 (.loop yB))) (sr zw [4,5] .ret)))))))))
theorem Rl:cz ku HY [(.tmp 4),(.tmp 5)] 105:=dh Tryz.func9 rfl
def LS:=[ok 6 (vB false)]
def LU:=[om 7 0,om 8 1,bM 9 .geq 7 8,om 10 9,oT 10 11 (.mv (.t 0)),oT 10 12 (.mv (.t 2)),oT 10 13 (.bin .leq .none (.t 11) (.t 12)),oo 14 (.pick (.t 10) (.t 13) (xB false)),om 6 14]
def QR:C:=(sr LS [0,1,2] (sr LU [6] .ret))
theorem V1:cz cP QR [(.tmp 6)] 15:=dh Tryz.func48 rfl
def R7:=[ok 6 (vB false)]
def R8:=[om 7 0,om 8 1,bM 9 .geq 7 8,om 10 9,oT 10 11 (.mv (.t 0)),oT 10 12 (.mv (.t 2)),oT 10 13 (.bin .leq .none (.t 11) (.t 12)),oo 14 (.pick (.t 10) (.t 13) (xB false)),om 6 14]
def VM:C:=(sr R7 [0,1,2] (sr R8 [6] .ret))
theorem Z0:cz eJ VM [(.tmp 6)] 15:=dh Tryz.func51 rfl
end Go.Proofs.YtjkogbgbienloaaGreatDoor
namespace Go.Abs
abbrev I (n:Int):V:=.v (.int .i64 n)
abbrev B (b:Bool):V:=.v (.bool b)
attribute [simp] acJ AS.mark XM AS.ev AS.init lk bB HO AS.keep AS.app AS.put AS.wrt AS.del AS.new bl cQ Vt vun veq aeb X2 XT EqK.veq EqK.nil? jJ gk gp Ct XL XN a7 List.range_succ vld Yo vst acX uH uF Qs XQ PV ZK RM XK Vv NJ Cc DW pF T7 vmm NP px DX O4 Tx bb aC aP d8 He b9 takes AS.took
@[simp] theorem aem:fA (.undef)=true:=by simp only[fA]
@[simp] theorem ah1 (x:Value):fA (.v x)=true:=by simp only[fA]
@[simp] theorem afX (id i j:Nat):fA (.ref id i j)=false:=by simp only[fA]
@[simp] theorem agV (id i n:Nat):fA (.sl id i n)=false:=by simp only[fA]
@[simp] theorem agU (s:Nat) (es:List V) (i j:Nat):fA (.rp s es i j)=true:=by simp only[fA]
@[simp] theorem agT (s:Nat) (es:List V):fA (.ro s es)=true:=by simp only[fA]
@[simp] theorem afW (s:Nat) (es:List V):fA (.own s es)=dB es:=by simp only[fA]
@[simp] theorem afU (cs:List V):fA (.agg cs)=dB cs:=by simp only[fA]
@[simp] theorem afY (cs:List V):fA (.tup cs)=dB cs:=by simp only[fA]
@[simp] theorem afV (f:Nat) (cs:List V):fA (.clo f cs)=dB cs:=by simp only[fA]
@[simp] theorem aev:bO (.undef)=true:=by simp only[bO]
@[simp] theorem ail (x:Value):bO (.v x)=true:=by simp only[bO]
@[simp] theorem agk (id i j:Nat):bO (.ref id i j)=true:=by simp only[bO]
@[simp] theorem aho (id i n:Nat):bO (.sl id i n)=true:=by simp only[bO]
@[simp] theorem ahn (s:Nat) (es:List V) (i j:Nat):bO (.rp s es i j)=true:=by simp only[bO]
@[simp] theorem ahm (s:Nat) (es:List V):bO (.ro s es)=true:=by simp only[bO]
@[simp] theorem agj (s:Nat) (es:List V):bO (.own s es)=false:=by simp only[bO]
@[simp] theorem agh (cs:List V):bO (.agg cs)=bb cs:=by simp only[bO]
@[simp] theorem agl (cs:List V):bO (.tup cs)=bb cs:=by simp only[bO]
@[simp] theorem agi (f:Nat) (cs:List V):bO (.clo f cs)=bb cs:=by simp only[bO]
@[simp] theorem aes:bR (.undef)=true:=by simp only[bR]
@[simp] theorem aik (x:Value):bR (.v x)=true:=by simp only[bR]
@[simp] theorem age (id i j:Nat):bR (.ref id i j)=false:=by simp only[bR]
@[simp] theorem ahl (id i n:Nat):bR (.sl id i n)=false:=by simp only[bR]
@[simp] theorem ahk (s:Nat) (es:List V) (i j:Nat):bR (.rp s es i j)=true:=by simp only[bR]
@[simp] theorem ahj (s:Nat) (es:List V):bR (.ro s es)=true:=by simp only[bR]
@[simp] theorem agd (s:Nat) (es:List V):bR (.own s es)=true:=by simp only[bR]
@[simp] theorem agb (cs:List V):bR (.agg cs)=aC cs:=by simp only[bR]
@[simp] theorem agf (cs:List V):bR (.tup cs)=aC cs:=by simp only[bR]
@[simp] theorem agc (f:Nat) (cs:List V):bR (.clo f cs)=aC cs:=by simp only[bR]
@[simp] theorem afp:fx (.undef)=true:=by simp only[fx]
@[simp] theorem ai5 (x:Value):fx (.v x)=true:=by simp only[fx]
@[simp] theorem ahs (id i j:Nat):fx (.ref id i j)=true:=by simp only[fx]
@[simp] theorem aio (id i n:Nat):fx (.sl id i n)=true:=by simp only[fx]
@[simp] theorem ain (s:Nat) (es:List V) (i j:Nat):fx (.rp s es i j)=false:=by simp only[fx]
@[simp] theorem aim (s:Nat) (es:List V):fx (.ro s es)=es.isEmpty:=by simp only[fx]
@[simp] theorem ahr (s:Nat) (es:List V):fx (.own s es)=d8 es:=by simp only[fx]
@[simp] theorem ahp (cs:List V):fx (.agg cs)=d8 cs:=by simp only[fx]
@[simp] theorem aht (cs:List V):fx (.tup cs)=d8 cs:=by simp only[fx]
@[simp] theorem ahq (f:Nat) (cs:List V):fx (.clo f cs)=d8 cs:=by simp only[fx]
@[simp] theorem aeB:cn (.undef)=true:=by simp only[cn]
@[simp] theorem aiQ (x:Value):cn (.v x)=true:=by simp only[cn]
@[simp] theorem agx (id i j:Nat):cn (.ref id i j)=false:=by simp only[cn]
@[simp] theorem ahR (id i n:Nat):cn (.sl id i n)=false:=by simp only[cn]
@[simp] theorem ahQ (s:Nat) (es:List V) (i j:Nat):cn (.rp s es i j)=true:=by simp only[cn]
@[simp] theorem ahP (s:Nat) (es:List V):cn (.ro s es)=true:=by simp only[cn]
@[simp] theorem agw (s:Nat) (es:List V):cn (.own s es)=true:=by simp only[cn]
@[simp] theorem agu (cs:List V):cn (.agg cs)=He cs:=by simp only[cn]
@[simp] theorem agy (cs:List V):cn (.tup cs)=He cs:=by simp only[cn]
@[simp] theorem agv (f:Nat) (cs:List V):cn (.clo f cs)=false:=by simp only[cn]
@[simp] theorem adN:cC (.undef)=false:=by simp only[cC]
@[simp] theorem ag8 (x:Value):cC (.v x)=false:=by simp only[cC]
@[simp] theorem aff (id i j:Nat):cC (.ref id i j)=false:=by simp only[cC]
@[simp] theorem af5 (id i n:Nat):cC (.sl id i n)=false:=by simp only[cC]
@[simp] theorem af4 (s:Nat) (es:List V) (i j:Nat):cC (.rp s es i j)=false:=by simp only[cC]
@[simp] theorem af3 (s:Nat) (es:List V):cC (.ro s es)=false:=by simp only[cC]
@[simp] theorem afe (s:Nat) (es:List V):cC (.own s es)=false:=by simp only[cC]
@[simp] theorem afc (cs:List V):cC (.agg cs)=true:=by simp only[cC]
@[simp] theorem afg (cs:List V):cC (.tup cs)=false:=by simp only[cC]
@[simp] theorem afd (f:Nat) (cs:List V):cC (.clo f cs)=false:=by simp only[cC]
@[simp] theorem aeF:hU (.undef)=false:=by simp only[hU]
@[simp] theorem aiS (x:Value):hU (.v x)=true:=by simp only[hU]
@[simp] theorem agC (id i j:Nat):hU (.ref id i j)=true:=by simp only[hU]
@[simp] theorem ahV (id i n:Nat):hU (.sl id i n)=true:=by simp only[hU]
@[simp] theorem ahU (s:Nat) (es:List V) (i j:Nat):hU (.rp s es i j)=true:=by simp only[hU]
@[simp] theorem ahT (s:Nat) (es:List V):hU (.ro s es)=true:=by simp only[hU]
@[simp] theorem agB (s:Nat) (es:List V):hU (.own s es)=true:=by simp only[hU]
@[simp] theorem agz (cs:List V):hU (.agg cs)=false:=by simp only[hU]
@[simp] theorem agD (cs:List V):hU (.tup cs)=false:=by simp only[hU]
@[simp] theorem agA (f:Nat) (cs:List V):hU (.clo f cs)=true:=by simp only[hU]
@[simp] theorem adD:bx (.undef)=none:=by simp only[bx]
@[simp] theorem agS (x:Value):bx (.v x)=some [.v x]:=by simp only[bx]
@[simp] theorem ae1 (id i j:Nat):bx (.ref id i j)=some [.ref id i j]:=by simp only[bx]
@[simp] theorem afT (id i n:Nat):bx (.sl id i n)=some [.sl id i n]:=by simp only[bx]
@[simp] theorem afS (s:Nat) (es:List V) (i j:Nat):bx (.rp s es i j)=some [.rp s es i j]:=by simp only[bx]
@[simp] theorem afR (s:Nat) (es:List V):bx (.ro s es)=some [.ro s es]:=by simp only[bx]
@[simp] theorem ae0 (s:Nat) (es:List V):bx (.own s es)=some [.own s es]:=by simp only[bx]
@[simp] theorem aeY (cs:List V):bx (.agg cs)=some cs:=by simp only[bx]
@[simp] theorem ae2 (cs:List V):bx (.tup cs)=none:=by simp only[bx]
@[simp] theorem aeZ (f:Nat) (cs:List V):bx (.clo f cs)=some [.clo f cs]:=by simp only[bx]
@[simp] theorem afj (k:Nat):bI k (.undef)=false:=by simp only[bI]
@[simp] theorem ai3 (k:Nat) (x:Value):bI k (.v x)=false:=by simp only[bI]
@[simp] theorem ahg (k:Nat) (id i j:Nat):bI k (.ref id i j)=(id==k):=by simp only[bI]
@[simp] theorem aij (k:Nat) (id i n:Nat):bI k (.sl id i n)=(id==k):=by simp only[bI]
@[simp] theorem aii (k:Nat) (s:Nat) (es:List V) (i j:Nat):bI k (.rp s es i j)=false:=by simp only[bI]
@[simp] theorem aih (k:Nat) (s:Nat) (es:List V):bI k (.ro s es)=false:=by simp only[bI]
@[simp] theorem ahf (k:Nat) (s:Nat) (es:List V):bI k (.own s es)=false:=by simp only[bI]
@[simp] theorem ahd (k:Nat) (cs:List V):bI k (.agg cs)=a7 k cs:=by simp only[bI]
@[simp] theorem ahh (k:Nat) (cs:List V):bI k (.tup cs)=a7 k cs:=by simp only[bI]
@[simp] theorem ahe (k:Nat) (f:Nat) (cs:List V):bI k (.clo f cs)=a7 k cs:=by simp only[bI]
@[simp] theorem afa:cN (.undef)=[]:=by simp only[cN]
@[simp] theorem ai0 (x:Value):cN (.v x)=[]:=by simp only[cN]
@[simp] theorem ag6 (id i j:Nat):cN (.ref id i j)=[id]:=by simp only[cN]
@[simp] theorem ah8 (id i n:Nat):cN (.sl id i n)=[id]:=by simp only[cN]
@[simp] theorem ah7 (s:Nat) (es:List V) (i j:Nat):cN (.rp s es i j)=[]:=by simp only[cN]
@[simp] theorem ah6 (s:Nat) (es:List V):cN (.ro s es)=[]:=by simp only[cN]
@[simp] theorem ag5 (s:Nat) (es:List V):cN (.own s es)=[]:=by simp only[cN]
@[simp] theorem ag3 (cs:List V):cN (.agg cs)=cc cs:=by simp only[cN]
@[simp] theorem ag7 (cs:List V):cN (.tup cs)=cc cs:=by simp only[cN]
@[simp] theorem ag4 (f:Nat) (cs:List V):cN (.clo f cs)=cc cs:=by simp only[cN]
def frS (d:Nat):List (Nat×V)->Bool
 | []=>true
 | p::l=>!bI d p.2&&frS d l
def frH (d:Nat):List (Nat×Blk)->Bool
 | []=>true
 | p::l=>p.1 != d&&!a7 d p.2.es&&frH d l
@[simp] theorem ah4 {d:Nat}:frS d []=true:=by simp only[frS]
@[simp] theorem ag1 {d k:Nat} {v:V} {l:List (Nat×V)}:frS d ((k,v)::l)=(!bI d v&&frS d l):=by simp only[frS]
@[simp] theorem ah3 {d:Nat}:frH d []=true:=by simp only[frH]
@[simp] theorem agX {d k s:Nat} {es:List V} {l:List (Nat×Blk)}:frH d ((k,⟨s,es⟩)::l)=(k != d&&!a7 d es&&frH d l):=by simp only[frH]
theorem Zn (d:Nat):∀ l:List (Nat×V),l.all (fun p=>!bI d p.2)=frS d l
 | []=>rfl
 | p::l=>by simp only[List.all_cons,frS,Zn d l]
theorem Zm (d:Nat):∀ l:List (Nat×Blk),l.all (fun p=>p.1 != d&&!a7 d p.2.es)=frH d l
 | []=>rfl
 | p::l=>by simp only[List.all_cons,frH,Zm d l]
@[simp] theorem AS.fresh_mk {sl:List (Nat×V)} {hp:List (Nat×Blk)} {pin:List Nat} {d:Nat}:AS.fresh ⟨sl,hp,pin⟩ d=(frS d sl&&frH d hp&&!pin.contains d):=by
 simp only[AS.fresh,Zn,Zm]
variable [gI : GI]
section
variable {P : Program} {K : AS → Prop} {Q : Exit → AS → Prop} {s : AS}
def sW (P:Program) (c:CO) (K:AS->Prop) (s:AS) (t:Nat) (b:Bool):V->Prop
 | .v (.bool v)=>(v=b->en P c K (s.mark t (.v (.bool b))))/\(v=!b->K ((s.mark t (.v (.bool !b))).put c.d (.tup [])))
 | .tup []=>K (s.put c.d (.tup []))
 | _=>False
theorem Z7 {c:CO} {t:Nat}:sW P c K s t true (.v (.bool true))↔en P c K (s.mark t (.v (.bool true))):=by simp[sW]
theorem Z4 {c:CO} {t:Nat}:sW P c K s t false (.v (.bool false))↔en P c K (s.mark t (.v (.bool false))):=by simp[sW]
theorem Z6 {c:CO} {t:Nat}:sW P c K s t true (.v (.bool false))↔K ((s.mark t (.v (.bool false))).put c.d (.tup [])):=by simp[sW]
theorem Z5 {c:CO} {t:Nat}:sW P c K s t false (.v (.bool true))↔K ((s.mark t (.v (.bool true))).put c.d (.tup [])):=by simp[sW]
def wpG (P:Program) (c:CO) (K:AS->Prop) (s:AS):Prop:=match c.g with
 | none=>en P c K s
 | some (t,b)=>sW P c K s t b (lk s.sl t)
theorem adk {c:CO} {cs:List CO}:Ub P (c::cs) K s=wpG P c (Ub P cs K) s:=by
 unfold wpG sW;rw[Ub];rfl
section
variable {c : CO} {i : Nat} {acc : List It} {f : Nat → List It → AS → Prop} {t : Nat}
end
def ae8 (pl:List (List Nat)) (s0:AS) (acc:List It):Prop:=O9 pl acc=true/\(acc.all fun e=>e.tr.news.all s0.fresh)=true
theorem aed {pl:List (List Nat)} {s0:AS} {i:Nat} {acc:List It}:SD P pl s0 K [] i acc s=(O9 pl acc=true/\(acc.all fun e=>e.tr.news.all s0.fresh)=true/\K s):=rfl
theorem aec {pl:List (List Nat)} {s0:AS} {i:Nat} {acc:List It}:SD P pl s0 K [] i acc s↔(ae8 pl s0 acc/\K s):=by rw[aed,ae8,and_assoc]
theorem dY {b:C} (s':AS) (h:Wk s s') (h':A0 P b Q s'):A0 P (.wk b) Q s:=⟨s',h,h'⟩
def Rd (K K':AS->Prop) (s:AS):V->Prop
 | .v (.bool t)=>(t=true->K s)/\(t=false->K' s)
 | _=>False
omit gI in
theorem adG {K K':AS->Prop} {s:AS}:Rd K K' s (.v (.bool true))↔K s:=by simp[Rd]
omit gI in
theorem adE {K K':AS->Prop} {s:AS}:Rd K K' s (.v (.bool false))↔K' s:=by simp[Rd]
omit gI in
theorem adF {K K':AS->Prop} {s:AS} {t:Bool}:Rd K K' s (.v (.bool t))↔(t=true->K s)/\(t=false->K' s):=Iff.rfl
theorem adj {x:X} {a b:C}:A0 P (.cond x a b) Q s↔Rd (A0 P a Q) (A0 P b Q) s (s.ev x):=Iff.rfl
omit gI in
theorem aL {id i:Nat}:El id Q (.exit i)=if i=id then Q .normal else Q (.exit i):=rfl
@[simp] theorem afG {I:Nat->AS->Prop} {n:Nat}:Ve I n Q .ret=Q .ret:=rfl
@[simp] theorem aeE {I:Nat->AS->Prop} {n i:Nat}:Ve I n Q (.exit i)=Q (.exit i):=rfl
@[simp] theorem adn {I:Nat->AS->Prop} {n:Nat} {s:AS}:Ve I n Q .normal s↔∃ m s',m < n/\Wk s s'/\I m s':=Iff.rfl
end
def Xg (c a b:V):Option (Prop×Dl):=match c with | .v (.bool t)=>bl (bif t then a else b) | _=>none
def adb (n:Nat) (v:V) (d:Nat):Option (Prop×Dl):=if DX v=some n/\bO v/\O4 v then some (True,{ v:=.ref d 0 0,new:=some ⟨n,[v]⟩ }) else none
def adf (sz:Option Nat) (look:Nat->Option Blk) (x:V) (lo hi:Option V):Option (Prop×Dl):=match sz with | none=>XQ x lo hi | some s=>PV s look x lo hi
def Sy (off:Nat) (x:V):Option (Prop×Dl):=match x with | .ref id i j=>bl (.ref id i (j+off)) | .rp s es i j=>bl (.rp s es i (j+off)) | _=>none
def adc (i:Nat) (x:V):Option (Prop×Dl):=match x with | .tup vs=>(match vs[i]? with | some v=>bl v | none=>none) | _=>none
def ade (b:Bool) (x:V):Option (Prop×Dl):=if b then XN x else XM x
attribute [simp] Xg adb adf Sy adc ade
def frK (s:AS) (d:Nat):Option Blk->Prop
 | none=>True
 | some _=>s.fresh d=true
omit gI in
@[simp] theorem agZ {s:AS} {d:Nat}:frK s d none↔True:=Iff.rfl
omit gI in
@[simp] theorem ag0 {s:AS} {d:Nat} {b:Blk}:frK s d (some b)↔s.fresh d=true:=Iff.rfl
def qr (d:Option Nat) (K:AS->Prop) (s:AS):Option (Prop×Dl)->Prop
 | some (p,δ)=>p/\(δ.new.isSome=true->s.fresh (d.getD 0)=true)/\K (s.app d δ)
 | none=>False
omit gI in
theorem ZS {d:Option Nat} {K:AS->Prop} {s:AS} {p:Prop} {δ:Dl}:qr d K s (some (p,δ))↔p/\frK s (d.getD 0) δ.new/\K (s.app d δ):=by
 have h:(δ.new.isSome=true->s.fresh (d.getD 0)=true)↔frK s (d.getD 0) δ.new:=by
  cases δ.new with
  | none=>exact⟨fun _=>trivial,fun _ h=>by cases h⟩
  | some b=>exact⟨fun h=>h rfl,fun h _=>h⟩
 show (p/\(δ.new.isSome=true->s.fresh (d.getD 0)=true)/\K (s.app d δ))↔_;rw[h]
omit gI in
theorem abI {d:Option Nat} {K:AS->Prop} {s:AS} {p:Prop} [Decidable p] {x:Option (Prop×Dl)}:qr d K s (if p then x else none)↔p/\qr d K s x:=by
 by_cases h:p<;>simp only[h,if_true,if_false,true_and,false_and]<;>exact Iff.rfl
def uK (c:CO) (i:Nat) (s:AS) (next:It->AS->Prop):Option (Prop×Dl)->Prop
 | some (p,δ)=>p/\(δ.new.isSome=true->c.d.isSome=true)/\next ⟨c,Vr δ c.d,i,iS c s⟩ (s.app c.d δ)
 | none=>False
section
variable {P : Program} {K : AS → Prop} {s : AS} {g : Option (Nat × Bool)} {d : Option Nat} {j : Nat} {next : It → AS → Prop}
theorem ac5 {x:X}:en P ⟨g,d,.mv x⟩ K s↔qr d K s (bl (s.ev x)):=by
 exact Iff.rfl
theorem ac0 {x:X}:ez P ⟨g,d,.mv x⟩ j s next↔uK ⟨g,d,.mv x⟩ j s next (bl (s.ev x)):=by
 exact Iff.rfl
theorem YV {c a b:X}:en P ⟨g,d,.pick c a b⟩ K s↔qr d K s (Xg (s.ev c) (s.ev a) (s.ev b)):=by
 exact Iff.rfl
theorem YT {c a b:X}:ez P ⟨g,d,.pick c a b⟩ j s next↔uK ⟨g,d,.pick c a b⟩ j s next (Xg (s.ev c) (s.ev a) (s.ev b)):=by
 exact Iff.rfl
theorem aa2 {n:Nat} {x:X}:en P ⟨g,d,.box n x⟩ K s↔qr d K s (adb n (s.ev x) (d.getD 0)):=by
 exact Iff.rfl
theorem aaS {n:Nat} {x:X}:ez P ⟨g,d,.box n x⟩ j s next↔uK ⟨g,d,.box n x⟩ j s next (adb n (s.ev x) (d.getD 0)):=by
 exact Iff.rfl
theorem Xz {z:V} {ps:List (Nat×Nat×X)}:en P ⟨g,d,.build z ps⟩ K s↔qr d K s (Cc s.ev z ps):=by
 exact Iff.rfl
theorem Xv {z:V} {ps:List (Nat×Nat×X)}:ez P ⟨g,d,.build z ps⟩ j s next↔uK ⟨g,d,.build z ps⟩ j s next (Cc s.ev z ps):=by
 exact Iff.rfl
theorem Vn {sz:Nat} {z:V} {n:Nat} {ps:List (Nat×X)}:en P ⟨g,d,.bslice sz z n ps⟩ K s↔qr d K s (pF s.ev sz z n (d.getD 0) ps):=by
 exact Iff.rfl
theorem Vm {sz:Nat} {z:V} {n:Nat} {ps:List (Nat×X)}:ez P ⟨g,d,.bslice sz z n ps⟩ j s next↔uK ⟨g,d,.bslice sz z n ps⟩ j s next (pF s.ev sz z n (d.getD 0) ps):=by
 exact Iff.rfl
theorem ac3 {b:Bool} {n:Nat} {x:X}:en P ⟨g,d,.ld b n x⟩ K s↔qr d K s (vld b n (bB s.hp) (s.ev x)):=by
 exact Iff.rfl
theorem acY {b:Bool} {n:Nat} {x:X}:ez P ⟨g,d,.ld b n x⟩ j s next↔uK ⟨g,d,.ld b n x⟩ j s next (vld b n (bB s.hp) (s.ev x)):=by
 exact Iff.rfl
theorem ac7 {n:Nat} {a x:X}:en P ⟨g,d,.st n a x⟩ K s↔qr d K s (vst n (bB s.hp) (s.ev x) (s.ev a)):=by
 exact Iff.rfl
theorem ac1 {n:Nat} {a x:X}:ez P ⟨g,d,.st n a x⟩ j s next↔uK ⟨g,d,.st n a x⟩ j s next (vst n (bB s.hp) (s.ev x) (s.ev a)):=by
 exact Iff.rfl
theorem aa1 {op:BinOp} {k:EqK} {x y:X}:en P ⟨g,d,.bin op k x y⟩ K s↔qr d K s (Vt op k (s.ev x) (s.ev y)):=by
 exact Iff.rfl
theorem aaR {op:BinOp} {k:EqK} {x y:X}:ez P ⟨g,d,.bin op k x y⟩ j s next↔uK ⟨g,d,.bin op k x y⟩ j s next (Vt op k (s.ev x) (s.ev y)):=by
 exact Iff.rfl
theorem ac8 {op:UnOp} {x:X}:en P ⟨g,d,.un op x⟩ K s↔qr d K s (vun op (s.ev x)):=by
 exact Iff.rfl
theorem ac2 {op:UnOp} {x:X}:ez P ⟨g,d,.un op x⟩ j s next↔uK ⟨g,d,.un op x⟩ j s next (vun op (s.ev x)):=by
 exact Iff.rfl
theorem YU {c:CK} {x:X}:en P ⟨g,d,.conv c x⟩ K s↔qr d K s (NP c (bB s.hp) (d.getD 0) (s.ev x)):=by
 exact Iff.rfl
theorem YS {c:CK} {x:X}:ez P ⟨g,d,.conv c x⟩ j s next↔uK ⟨g,d,.conv c x⟩ j s next (NP c (bB s.hp) (d.getD 0) (s.ev x)):=by
 exact Iff.rfl
theorem aa3 {f:Nat} {cs:List X}:en P ⟨g,d,.clo f cs⟩ K s↔qr d K s (bl (.clo f (cs.map s.ev))):=by
 exact Iff.rfl
theorem aaT {f:Nat} {cs:List X}:ez P ⟨g,d,.clo f cs⟩ j s next↔uK ⟨g,d,.clo f cs⟩ j s next (bl (.clo f (cs.map s.ev))):=by
 exact Iff.rfl
theorem aa8 {sz:Nat} {z:V} {bytes:Nat} {l c:X}:en P ⟨g,d,.mks sz z bytes l c⟩ K s↔qr d K s (Vv sz bytes z (d.getD 0) (s.ev l) (s.ev c)):=by
 exact Iff.rfl
theorem aaY {sz:Nat} {z:V} {bytes:Nat} {l c:X}:ez P ⟨g,d,.mks sz z bytes l c⟩ j s next↔uK ⟨g,d,.mks sz z bytes l c⟩ j s next (Vv sz bytes z (d.getD 0) (s.ev l) (s.ev c)):=by
 exact Iff.rfl
theorem aa9 {sz:Option Nat} {x:X} {lo hi:Option X}:en P ⟨g,d,.slc sz x lo hi⟩ K s↔qr d K s (adf sz (bB s.hp) (s.ev x) (lo.map s.ev) (hi.map s.ev)):=by
 cases sz<;>exact Iff.rfl
theorem aaZ {sz:Option Nat} {x:X} {lo hi:Option X}:ez P ⟨g,d,.slc sz x lo hi⟩ j s next↔uK ⟨g,d,.slc sz x lo hi⟩ j s next (adf sz (bB s.hp) (s.ev x) (lo.map s.ev) (hi.map s.ev)):=by
 cases sz<;>exact Iff.rfl
theorem XB {off:Nat} {x:X}:en P ⟨g,d,.faddr off x⟩ K s↔qr d K s (Sy off (s.ev x)):=by
 exact Iff.rfl
theorem Xx {off:Nat} {x:X}:ez P ⟨g,d,.faddr off x⟩ j s next↔uK ⟨g,d,.faddr off x⟩ j s next (Sy off (s.ev x)):=by
 exact Iff.rfl
theorem aa5 {b:Bool} {off n:Nat} {x:X}:en P ⟨g,d,.fld b off n x⟩ K s↔qr d K s (XK b off n (s.ev x)):=by
 exact Iff.rfl
theorem aaV {b:Bool} {off n:Nat} {x:X}:ez P ⟨g,d,.fld b off n x⟩ j s next↔uK ⟨g,d,.fld b off n x⟩ j s next (XK b off n (s.ev x)):=by
 exact Iff.rfl
theorem XC {sz:Nat} {x i:X}:en P ⟨g,d,.iaddr sz x i⟩ K s↔qr d K s (uH sz (bB s.hp) (s.ev x) (s.ev i)):=by
 exact Iff.rfl
theorem Xy {sz:Nat} {x i:X}:ez P ⟨g,d,.iaddr sz x i⟩ j s next↔uK ⟨g,d,.iaddr sz x i⟩ j s next (uH sz (bB s.hp) (s.ev x) (s.ev i)):=by
 exact Iff.rfl
theorem aa6 {x i:X}:en P ⟨g,d,.idx x i⟩ K s↔qr d K s (XL (s.ev x) (s.ev i)):=by
 exact Iff.rfl
theorem aaW {x i:X}:ez P ⟨g,d,.idx x i⟩ j s next↔uK ⟨g,d,.idx x i⟩ j s next (XL (s.ev x) (s.ev i)):=by
 exact Iff.rfl
theorem aa4 {x:X} {i:Nat}:en P ⟨g,d,.ext x i⟩ K s↔qr d K s (adc i (s.ev x)):=by
 exact Iff.rfl
theorem aaU {x:X} {i:Nat}:ez P ⟨g,d,.ext x i⟩ j s next↔uK ⟨g,d,.ext x i⟩ j s next (adc i (s.ev x)):=by
 exact Iff.rfl
theorem aa7 {b:Bool} {x:X}:en P ⟨g,d,.len b x⟩ K s↔qr d K s (ade b (s.ev x)):=by
 exact Iff.rfl
theorem aaX {b:Bool} {x:X}:ez P ⟨g,d,.len b x⟩ j s next↔uK ⟨g,d,.len b x⟩ j s next (ade b (s.ev x)):=by
 exact Iff.rfl
theorem aa0 {sz bytes:Nat} {x y:X}:en P ⟨g,d,.app sz bytes x y⟩ K s↔qr d K s (Qs sz bytes (bB s.hp) (d.getD 0) (s.ev y) (s.ev x)):=by
 exact Iff.rfl
theorem aaQ {sz bytes:Nat} {x y:X}:ez P ⟨g,d,.app sz bytes x y⟩ j s next↔uK ⟨g,d,.app sz bytes x y⟩ j s next (Qs sz bytes (bB s.hp) (d.getD 0) (s.ev y) (s.ev x)):=by
 exact Iff.rfl
theorem ac4 {b:Bool} {xs:List X}:en P ⟨g,d,.mm b xs⟩ K s↔qr d K s (vmm b (xs.map s.ev)):=by
 exact Iff.rfl
theorem acZ {b:Bool} {xs:List X}:ez P ⟨g,d,.mm b xs⟩ j s next↔uK ⟨g,d,.mm b xs⟩ j s next (vmm b (xs.map s.ev)):=by
 exact Iff.rfl
def X4 (P:Program) (d:Nat) (vs:List V) (K:AS->Prop) (s:AS):V->Prop
 | .clo f caps=>nT P f (vs++caps) s d K
 | _=>False
@[simp] theorem aeW {d:Nat} {vs caps:List V} {f:Nat}:X4 P d vs K s (.clo f caps)↔nT P f (vs++caps) s d K:=Iff.rfl
theorem XA {x:X} {xs:List X}:en P ⟨g,d,.callv x xs⟩ K s↔X4 P (d.getD 0) (xs.map s.ev) K s (s.ev x):=Iff.rfl
end
class Hd (α:Type) where
 v:α
def oO (P:Program) (cs:List CO) (s:AS) [k:Hd (AS->Prop)]:Prop:=Ub P cs k.v s
def oG (P:Program) (c:CO) (s:AS) [k:Hd (AS->Prop)]:Prop:=wpG P c k.v s
def oK (P:Program) (c:CO) (t:Nat) (b:Bool) (s:AS) (v:V) [k:Hd (AS->Prop)]:Prop:=sW P c k.v s t b v
def oS (P:Program) (c:CO) (s:AS) [k:Hd (AS->Prop)]:Prop:=en P c k.v s
def oE (d:Option Nat) (s:AS) (o:Option (Prop×Dl)) [k:Hd (AS->Prop)]:Prop:=qr d k.v s o
def oC (P:Program) (b:C) (s:AS) [q:Hd (Exit->AS->Prop)]:Prop:=A0 P b q.v s
def oI (P:Program) (a b:C) (s:AS) (v:V) [q:Hd (Exit->AS->Prop)]:Prop:=Rd (A0 P a q.v) (A0 P b q.v) s v
def ahD [h:Hd ((List (List Nat)×AS)×List It)]:Prop:=ae8 h.v.1.1 h.v.1.2 h.v.2
def oD (P:Program) (cs:List CO) (i:Nat) (s:AS) [z:Hd (List (List Nat)×AS)] [k:Hd (AS->Prop)] [acc:Hd (List It)]:Prop:=SD P z.v.1 z.v.2 k.v cs i acc.v s
def nxD (P:Program) (cs:List CO) (i:Nat) (it:It) (s:AS) [z:Hd (List (List Nat)×AS)] [k:Hd (AS->Prop)] [acc:Hd (List It)]:Prop:=SD P z.v.1 z.v.2 k.v cs i (acc.v++[it]) s
def oDG (P:Program) (c:CO) (i:Nat) (s:AS) [n:Hd (It->AS->Prop)]:Prop:=match c.g with
 | none=>ez P c i s n.v
 | some (t,b)=>match lk s.sl t with
   | .v (.bool v)=>(v=b->ez P c i (s.mark t (.v (.bool b))) n.v)/\(v=!b->n.v ⟨c,⟨.tup [],[],[]⟩,i,iS c s⟩ ((s.mark t (.v (.bool !b))).put c.d (.tup [])))
   | .tup []=>n.v ⟨c,⟨.tup [],[],[]⟩,i,iS c s⟩ (s.put c.d (.tup []))
   | _=>False
def oDK (P:Program) (c:CO) (i t:Nat) (b:Bool) (s:AS) (v:V) [n:Hd (It->AS->Prop)]:Prop:=match v with
  | .v (.bool v)=>(v=b->ez P c i (s.mark t (.v (.bool b))) n.v)/\(v=!b->n.v ⟨c,⟨.tup [],[],[]⟩,i,iS c s⟩ ((s.mark t (.v (.bool !b))).put c.d (.tup [])))
  | .tup []=>n.v ⟨c,⟨.tup [],[],[]⟩,i,iS c s⟩ (s.put c.d (.tup []))
  | _=>False
def Kz (P:Program) (c:CO) (i:Nat) (s:AS) [n:Hd (It->AS->Prop)]:Prop:=ez P c i s n.v
def QE (c:CO) (i:Nat) (s:AS) (o:Option (Prop×Dl)) [n:Hd (It->AS->Prop)]:Prop:=uK c i s n.v o
omit gI in
theorem aO {pl:List (List Nat)} {s0:AS} {acc:List It} (h1:O9 pl acc=true) (h2:(acc.all fun e=>e.tr.news.all s0.fresh)=true):@ahD ⟨((pl,s0),acc)⟩:=⟨h1,h2⟩
section
variable {P : Program} {K K' : AS → Prop} {Q : Exit → AS → Prop} {s : AS} {cs : List CO} {c : CO} {t i j id : Nat} {g : Option (Nat × Bool)} {d : Option Nat} {o : O} {nx : It → AS → Prop} {pl : List (List Nat)} {s0 : AS} {acc : List It} {it : It} {a b : C} {ks : List Nat}
@[simp ↓] theorem ajT:A0 P b Q s↔@oC gI P b s ⟨Q⟩:=Iff.rfl
@[simp] theorem ait:@oC gI P .skip s ⟨Q⟩↔Q .normal s:=Iff.rfl
@[simp] theorem ai7:@oC gI P (.reg cs ks) s ⟨Q⟩↔@oO gI P cs s ⟨fun s=>Q .normal (s.keep ks)⟩:=Iff.rfl
@[simp] theorem ais:@oC gI P (.regD cs pl ks) s ⟨Q⟩↔@oD gI P cs 0 s ⟨(pl,s)⟩ ⟨fun s=>Q .normal (s.keep ks)⟩ ⟨[]⟩:=Iff.rfl
@[simp] theorem ai9:@oC gI P (.seq a b) s ⟨Q⟩↔@oC gI P a s ⟨acW (A0 P b Q) Q⟩:=Iff.rfl
@[simp] theorem ahu:@oC gI P (.block id b) s ⟨Q⟩↔@oC gI P b s ⟨El id Q⟩:=Iff.rfl
@[simp] theorem air:@oC gI P (.loop b) s ⟨Q⟩↔ZB (A0 P b) Q s:=Iff.rfl
@[simp] theorem aiq:@oC gI P (.exit id) s ⟨Q⟩↔Q (.exit id) s:=Iff.rfl
@[simp] theorem ai8:@oC gI P .ret s ⟨Q⟩↔Q .ret s:=Iff.rfl
@[simp] theorem ai6:@oC gI P .bad s ⟨Q⟩↔False:=Iff.rfl
@[simp] theorem aip {x:X}:@oC gI P (.cond x a b) s ⟨Q⟩↔@oI gI P a b s (s.ev x) ⟨Q⟩:=adj
@[simp] theorem ajY:@oI gI P a b s (.v (.bool true)) ⟨Q⟩↔@oC gI P a s ⟨Q⟩:=adG
@[simp] theorem ajW:@oI gI P a b s (.v (.bool false)) ⟨Q⟩↔@oC gI P b s ⟨Q⟩:=adE
@[simp low] theorem ajX {q:Bool}:@oI gI P a b s (.v (.bool q)) ⟨Q⟩↔(q=true->@oC gI P a s ⟨Q⟩)/\(q=false->@oC gI P b s ⟨Q⟩):=adF
omit gI in
@[simp ↓] theorem ajz:acW K Q .normal s↔K s:=Iff.rfl
omit gI in
@[simp ↓] theorem ajA:acW K Q .ret s↔Q .ret s:=Iff.rfl
omit gI in
@[simp ↓] theorem ajy:acW K Q (.exit i) s↔Q (.exit i) s:=Iff.rfl
omit gI in
@[simp ↓] theorem agL:El id Q .normal s↔Q .normal s:=Iff.rfl
omit gI in
@[simp ↓] theorem agM:El id Q .ret s↔Q .ret s:=Iff.rfl
omit gI in
@[simp ↓] theorem agK:El id Q (.exit i) s↔if i=id then Q .normal s else Q (.exit i) s:=by
 rw[aL];split<;>rfl
omit gI in
@[simp ↓] theorem aic:ab4 ks Q s↔Q .normal (s.keep ks):=Iff.rfl
@[simp] theorem ajl:@oO gI P [] s ⟨K⟩↔K s:=Iff.rfl
@[simp] theorem aiK:@oO gI P (c::cs) s ⟨K⟩↔@oG gI P c s ⟨fun s=>@oO gI P cs s ⟨K⟩⟩:=by
 unfold oO oG;rw[adk];rfl
@[simp ↓] theorem ajV:Ub P cs K s↔@oO gI P cs s ⟨K⟩:=Iff.rfl
@[simp] theorem aiI:@oG gI P ⟨none,d,o⟩ s ⟨K⟩↔@oS gI P ⟨none,d,o⟩ s ⟨K⟩:=Iff.rfl
@[simp] theorem aiJ {q:Bool}:@oG gI P ⟨some (t,q),d,o⟩ s ⟨K⟩↔@oK gI P ⟨some (t,q),d,o⟩ t q s (lk s.sl t) ⟨K⟩:=Iff.rfl
@[simp] theorem ajL:@oK gI P c t true s (.v (.bool true)) ⟨K⟩↔@oS gI P c (s.mark t (.v (.bool true))) ⟨K⟩:=Z7
@[simp] theorem ajI:@oK gI P c t false s (.v (.bool false)) ⟨K⟩↔@oS gI P c (s.mark t (.v (.bool false))) ⟨K⟩:=Z4
@[simp] theorem ajK:@oK gI P c t true s (.v (.bool false)) ⟨K⟩↔K ((s.mark t (.v (.bool false))).put c.d (.tup [])):=Z6
@[simp] theorem ajJ:@oK gI P c t false s (.v (.bool true)) ⟨K⟩↔K ((s.mark t (.v (.bool true))).put c.d (.tup [])):=Z5
@[simp] theorem aj0 {q:Bool}:@oK gI P c t q s (.tup []) ⟨K⟩↔K (s.put c.d (.tup [])):=Iff.rfl
@[simp low] theorem ajZ {q v:Bool}:@oK gI P c t q s (.v (.bool v)) ⟨K⟩↔(v=q->@oS gI P c (s.mark t (.v (.bool q))) ⟨K⟩)/\(v=!q->K ((s.mark t (.v (.bool !q))).put c.d (.tup []))):=Iff.rfl
omit [GI] in
@[simp] theorem aiH {p:Prop} {δ:Dl}:@oE d s (some (p,δ)) ⟨K⟩↔p/\frK s (d.getD 0) δ.new/\K (s.app d δ):=ZS
omit [GI] in
@[simp] theorem ajk {p:Prop} [Decidable p] {x:Option (Prop×Dl)}:@oE d s (if p then x else none) ⟨K⟩↔p/\@oE d s x ⟨K⟩:=abI
@[simp] theorem aiL {f:Nat} {xs:List X}:@oS gI P ⟨g,d,.call f xs⟩ s ⟨K⟩↔nT P f (xs.map s.ev) s (d.getD 0) K:=Iff.rfl
@[simp] theorem ahI:@oS gI P ⟨g,d,.mkmap⟩ s ⟨K⟩↔ack s (d.getD 0) K:=Iff.rfl
@[simp] theorem aiN {ok:Bool} {x y:X}:@oS gI P ⟨g,d,.look ok x y⟩ s ⟨K⟩↔ZA ok (s.ev x) (s.ev y) s (d.getD 0) K:=Iff.rfl
@[simp] theorem aiO {x y z:X}:@oS gI P ⟨g,d,.mupd x y z⟩ s ⟨K⟩↔aer (s.ev x) (s.ev y) (s.ev z) s K:=Iff.rfl
@[simp] theorem ahF {x:X} {xs:List X}:@oS gI P ⟨g,d,.callv x xs⟩ s ⟨K⟩↔X4 P (d.getD 0) (xs.map s.ev) K s (s.ev x):=XA
@[simp ↓] theorem ajU:SD P pl s0 K cs i acc s↔@oD gI P cs i s ⟨(pl,s0)⟩ ⟨K⟩ ⟨acc⟩:=Iff.rfl
@[simp] theorem ajj:@oD gI P [] i s ⟨(pl,s0)⟩ ⟨K⟩ ⟨acc⟩↔(@ahD ⟨((pl,s0),acc)⟩/\K s):=aec
@[simp] theorem aiG:@oD gI P (c::cs) i s ⟨(pl,s0)⟩ ⟨K⟩ ⟨acc⟩↔@oDG gI P c i s ⟨fun it s=>@nxD gI P cs (i+1) it s ⟨(pl,s0)⟩ ⟨K⟩ ⟨acc⟩⟩:=by
 unfold oD oDG;rw[SD];rfl
@[simp] theorem ajF:@nxD gI P cs i it s ⟨(pl,s0)⟩ ⟨K⟩ ⟨acc⟩↔@oD gI P cs i s ⟨(pl,s0)⟩ ⟨K⟩ ⟨acc++[it]⟩:=Iff.rfl
@[simp] theorem ahw:@oDG gI P ⟨none,d,o⟩ i s ⟨nx⟩↔@Kz gI P ⟨none,d,o⟩ i s ⟨nx⟩:=Iff.rfl
@[simp] theorem ahx {q:Bool}:@oDG gI P ⟨some (t,q),d,o⟩ i s ⟨nx⟩↔@oDK gI P ⟨some (t,q),d,o⟩ i t q s (lk s.sl t) ⟨nx⟩:=Iff.rfl
@[simp] theorem ajd:@oDK gI P c i t true s (.v (.bool true)) ⟨nx⟩↔@Kz gI P c i (s.mark t (.v (.bool true))) ⟨nx⟩:=by simp[oDK,Kz]
@[simp] theorem aja:@oDK gI P c i t false s (.v (.bool false)) ⟨nx⟩↔@Kz gI P c i (s.mark t (.v (.bool false))) ⟨nx⟩:=by simp[oDK,Kz]
@[simp] theorem ajc:@oDK gI P c i t true s (.v (.bool false)) ⟨nx⟩↔nx ⟨c,⟨.tup [],[],[]⟩,i,iS c s⟩ ((s.mark t (.v (.bool false))).put c.d (.tup [])):=by simp[oDK]
@[simp] theorem ajb:@oDK gI P c i t false s (.v (.bool true)) ⟨nx⟩↔nx ⟨c,⟨.tup [],[],[]⟩,i,iS c s⟩ ((s.mark t (.v (.bool true))).put c.d (.tup [])):=by simp[oDK]
@[simp] theorem ajH {q:Bool}:@oDK gI P c i t q s (.tup []) ⟨nx⟩↔nx ⟨c,⟨.tup [],[],[]⟩,i,iS c s⟩ (s.put c.d (.tup [])):=Iff.rfl
@[simp low] theorem ajG {q v:Bool}:@oDK gI P c i t q s (.v (.bool v)) ⟨nx⟩↔(v=q->@Kz gI P c i (s.mark t (.v (.bool q))) ⟨nx⟩)/\(v=!q->nx ⟨c,⟨.tup [],[],[]⟩,i,iS c s⟩ ((s.mark t (.v (.bool !q))).put c.d (.tup []))):=Iff.rfl
omit [GI] in
@[simp] theorem ahv {p:Prop} {δ:Dl}:@QE c i s (some (p,δ)) ⟨nx⟩↔p/\(δ.new.isSome=true->c.d.isSome=true)/\nx ⟨c,Vr δ c.d,i,iS c s⟩ (s.app c.d δ):=Iff.rfl
omit [GI] in
@[simp] theorem aiu {p:Prop} [Decidable p] {x:Option (Prop×Dl)}:@QE c i s (if p then x else none) ⟨nx⟩↔p/\@QE c i s x ⟨nx⟩:=by
 by_cases h:p<;>simp only[h,if_true,if_false,true_and,false_and]<;>exact Iff.rfl
@[simp] theorem ahy {f:Nat} {xs:List X}:@Kz gI P ⟨g,d,.call f xs⟩ j s ⟨nx⟩↔∃ d',d=some d'/\uX P f (xs.map s.ev) s d' ⟨g,d,.call f xs⟩ j nx:=Iff.rfl
def Uk (P:Program) (d:Option Nat) (vs:List V) (c:CO) (i:Nat) (nx:It->AS->Prop) (s:AS):V->Prop
 | .clo f caps=>∃ d',d=some d'/\uX P f (vs++caps) s d' c i nx
 | _=>False
@[simp] theorem aeV {vs caps:List V} {f:Nat}:Uk P d vs c i nx s (.clo f caps)↔∃ d',d=some d'/\uX P f (vs++caps) s d' c i nx:=Iff.rfl
theorem Xw {x:X} {xs:List X}:ez P ⟨g,d,.callv x xs⟩ j s nx↔Uk P d (xs.map s.ev) ⟨g,d,.callv x xs⟩ j nx s (s.ev x):=by
 unfold ez Uk;simp only;cases s.ev x<;>simp
@[simp] theorem ahA {ok:Bool} {x y:X}:@Kz gI P ⟨g,d,.look ok x y⟩ j s ⟨nx⟩↔∃ d',d=some d'/\Zz ok (s.ev x) (s.ev y) s d' ⟨g,d,.look ok x y⟩ j nx:=Iff.rfl
@[simp] theorem ahB {x y z:X}:@Kz gI P ⟨g,d,.mupd x y z⟩ j s ⟨nx⟩↔d=none/\acl (s.ev x) (s.ev y) (s.ev z) s ⟨g,d,.mupd x y z⟩ j nx:=Iff.rfl
@[simp] theorem ago {x:X} {xs:List X}:@Kz gI P ⟨g,d,.callv x xs⟩ j s ⟨nx⟩↔Uk P d (xs.map s.ev) ⟨g,d,.callv x xs⟩ j nx s (s.ev x):=Xw
@[simp] theorem ajO {x:X}:@oS gI P ⟨g,d,.mv x⟩ s ⟨K⟩↔@oE d s (bl (s.ev x)) ⟨K⟩:=ac5
@[simp] theorem ajg {x:X}:@Kz gI P ⟨g,d,.mv x⟩ j s ⟨nx⟩↔@QE ⟨g,d,.mv x⟩ j s (bl (s.ev x)) ⟨nx⟩:=ac0
@[simp] theorem aiP {c a b:X}:@oS gI P ⟨g,d,.pick c a b⟩ s ⟨K⟩↔@oE d s (Xg (s.ev c) (s.ev a) (s.ev b)) ⟨K⟩:=YV
@[simp] theorem ahC {c a b:X}:@Kz gI P ⟨g,d,.pick c a b⟩ j s ⟨nx⟩↔@QE ⟨g,d,.pick c a b⟩ j s (Xg (s.ev c) (s.ev a) (s.ev b)) ⟨nx⟩:=YT
@[simp] theorem ajo {n:Nat} {x:X}:@oS gI P ⟨g,d,.box n x⟩ s ⟨K⟩↔@oE d s (adb n (s.ev x) (d.getD 0)) ⟨K⟩:=aa2
@[simp] theorem aiy {n:Nat} {x:X}:@Kz gI P ⟨g,d,.box n x⟩ j s ⟨nx⟩↔@QE ⟨g,d,.box n x⟩ j s (adb n (s.ev x) (d.getD 0)) ⟨nx⟩:=aaS
@[simp] theorem ahE {z:V} {ps:List (Nat×Nat×X)}:@oS gI P ⟨g,d,.build z ps⟩ s ⟨K⟩↔@oE d s (Cc s.ev z ps) ⟨K⟩:=Xz
@[simp] theorem agn {z:V} {ps:List (Nat×Nat×X)}:@Kz gI P ⟨g,d,.build z ps⟩ j s ⟨nx⟩↔@QE ⟨g,d,.build z ps⟩ j s (Cc s.ev z ps) ⟨nx⟩:=Xv
@[simp] theorem agr {sz:Nat} {z:V} {n:Nat} {ps:List (Nat×X)}:@oS gI P ⟨g,d,.bslice sz z n ps⟩ s ⟨K⟩↔@oE d s (pF s.ev sz z n (d.getD 0) ps) ⟨K⟩:=Vn
@[simp] theorem afu {sz:Nat} {z:V} {n:Nat} {ps:List (Nat×X)}:@Kz gI P ⟨g,d,.bslice sz z n ps⟩ j s ⟨nx⟩↔@QE ⟨g,d,.bslice sz z n ps⟩ j s (pF s.ev sz z n (d.getD 0) ps) ⟨nx⟩:=Vm
@[simp] theorem ajM {b:Bool} {n:Nat} {x:X}:@oS gI P ⟨g,d,.ld b n x⟩ s ⟨K⟩↔@oE d s (vld b n (bB s.hp) (s.ev x)) ⟨K⟩:=ac3
@[simp] theorem aje {b:Bool} {n:Nat} {x:X}:@Kz gI P ⟨g,d,.ld b n x⟩ j s ⟨nx⟩↔@QE ⟨g,d,.ld b n x⟩ j s (vld b n (bB s.hp) (s.ev x)) ⟨nx⟩:=acY
@[simp] theorem ajP {n:Nat} {a x:X}:@oS gI P ⟨g,d,.st n a x⟩ s ⟨K⟩↔@oE d s (vst n (bB s.hp) (s.ev x) (s.ev a)) ⟨K⟩:=ac7
@[simp] theorem ajh {n:Nat} {a x:X}:@Kz gI P ⟨g,d,.st n a x⟩ j s ⟨nx⟩↔@QE ⟨g,d,.st n a x⟩ j s (vst n (bB s.hp) (s.ev x) (s.ev a)) ⟨nx⟩:=ac1
@[simp] theorem ajn {op:BinOp} {k:EqK} {x y:X}:@oS gI P ⟨g,d,.bin op k x y⟩ s ⟨K⟩↔@oE d s (Vt op k (s.ev x) (s.ev y)) ⟨K⟩:=aa1
@[simp] theorem aix {op:BinOp} {k:EqK} {x y:X}:@Kz gI P ⟨g,d,.bin op k x y⟩ j s ⟨nx⟩↔@QE ⟨g,d,.bin op k x y⟩ j s (Vt op k (s.ev x) (s.ev y)) ⟨nx⟩:=aaR
@[simp] theorem ajQ {op:UnOp} {x:X}:@oS gI P ⟨g,d,.un op x⟩ s ⟨K⟩↔@oE d s (vun op (s.ev x)) ⟨K⟩:=ac8
@[simp] theorem aji {op:UnOp} {x:X}:@Kz gI P ⟨g,d,.un op x⟩ j s ⟨nx⟩↔@QE ⟨g,d,.un op x⟩ j s (vun op (s.ev x)) ⟨nx⟩:=ac2
@[simp] theorem aiM {c:CK} {x:X}:@oS gI P ⟨g,d,.conv c x⟩ s ⟨K⟩↔@oE d s (NP c (bB s.hp) (d.getD 0) (s.ev x)) ⟨K⟩:=YU
@[simp] theorem ahz {c:CK} {x:X}:@Kz gI P ⟨g,d,.conv c x⟩ j s ⟨nx⟩↔@QE ⟨g,d,.conv c x⟩ j s (NP c (bB s.hp) (d.getD 0) (s.ev x)) ⟨nx⟩:=YS
@[simp] theorem ajp {f:Nat} {cs:List X}:@oS gI P ⟨g,d,.clo f cs⟩ s ⟨K⟩↔@oE d s (bl (.clo f (cs.map s.ev))) ⟨K⟩:=aa3
@[simp] theorem aiz {f:Nat} {cs:List X}:@Kz gI P ⟨g,d,.clo f cs⟩ j s ⟨nx⟩↔@QE ⟨g,d,.clo f cs⟩ j s (bl (.clo f (cs.map s.ev))) ⟨nx⟩:=aaT
@[simp] theorem aju {sz:Nat} {z:V} {bytes:Nat} {l c:X}:@oS gI P ⟨g,d,.mks sz z bytes l c⟩ s ⟨K⟩↔@oE d s (Vv sz bytes z (d.getD 0) (s.ev l) (s.ev c)) ⟨K⟩:=aa8
@[simp] theorem aiE {sz:Nat} {z:V} {bytes:Nat} {l c:X}:@Kz gI P ⟨g,d,.mks sz z bytes l c⟩ j s ⟨nx⟩↔@QE ⟨g,d,.mks sz z bytes l c⟩ j s (Vv sz bytes z (d.getD 0) (s.ev l) (s.ev c)) ⟨nx⟩:=aaY
@[simp] theorem ajv {sz:Option Nat} {x:X} {lo hi:Option X}:@oS gI P ⟨g,d,.slc sz x lo hi⟩ s ⟨K⟩↔@oE d s (adf sz (bB s.hp) (s.ev x) (lo.map s.ev) (hi.map s.ev)) ⟨K⟩:=aa9
@[simp] theorem aiF {sz:Option Nat} {x:X} {lo hi:Option X}:@Kz gI P ⟨g,d,.slc sz x lo hi⟩ j s ⟨nx⟩↔@QE ⟨g,d,.slc sz x lo hi⟩ j s (adf sz (bB s.hp) (s.ev x) (lo.map s.ev) (hi.map s.ev)) ⟨nx⟩:=aaZ
@[simp] theorem ahG {off:Nat} {x:X}:@oS gI P ⟨g,d,.faddr off x⟩ s ⟨K⟩↔@oE d s (Sy off (s.ev x)) ⟨K⟩:=XB
@[simp] theorem agp {off:Nat} {x:X}:@Kz gI P ⟨g,d,.faddr off x⟩ j s ⟨nx⟩↔@QE ⟨g,d,.faddr off x⟩ j s (Sy off (s.ev x)) ⟨nx⟩:=Xx
@[simp] theorem ajr {b:Bool} {off n:Nat} {x:X}:@oS gI P ⟨g,d,.fld b off n x⟩ s ⟨K⟩↔@oE d s (XK b off n (s.ev x)) ⟨K⟩:=aa5
@[simp] theorem aiB {b:Bool} {off n:Nat} {x:X}:@Kz gI P ⟨g,d,.fld b off n x⟩ j s ⟨nx⟩↔@QE ⟨g,d,.fld b off n x⟩ j s (XK b off n (s.ev x)) ⟨nx⟩:=aaV
@[simp] theorem ahH {sz:Nat} {x i:X}:@oS gI P ⟨g,d,.iaddr sz x i⟩ s ⟨K⟩↔@oE d s (uH sz (bB s.hp) (s.ev x) (s.ev i)) ⟨K⟩:=XC
@[simp] theorem agq {sz:Nat} {x i:X}:@Kz gI P ⟨g,d,.iaddr sz x i⟩ j s ⟨nx⟩↔@QE ⟨g,d,.iaddr sz x i⟩ j s (uH sz (bB s.hp) (s.ev x) (s.ev i)) ⟨nx⟩:=Xy
@[simp] theorem ajs {x i:X}:@oS gI P ⟨g,d,.idx x i⟩ s ⟨K⟩↔@oE d s (XL (s.ev x) (s.ev i)) ⟨K⟩:=aa6
@[simp] theorem aiC {x i:X}:@Kz gI P ⟨g,d,.idx x i⟩ j s ⟨nx⟩↔@QE ⟨g,d,.idx x i⟩ j s (XL (s.ev x) (s.ev i)) ⟨nx⟩:=aaW
@[simp] theorem ajq {x:X} {i:Nat}:@oS gI P ⟨g,d,.ext x i⟩ s ⟨K⟩↔@oE d s (adc i (s.ev x)) ⟨K⟩:=aa4
@[simp] theorem aiA {x:X} {i:Nat}:@Kz gI P ⟨g,d,.ext x i⟩ j s ⟨nx⟩↔@QE ⟨g,d,.ext x i⟩ j s (adc i (s.ev x)) ⟨nx⟩:=aaU
@[simp] theorem ajt {b:Bool} {x:X}:@oS gI P ⟨g,d,.len b x⟩ s ⟨K⟩↔@oE d s (ade b (s.ev x)) ⟨K⟩:=aa7
@[simp] theorem aiD {b:Bool} {x:X}:@Kz gI P ⟨g,d,.len b x⟩ j s ⟨nx⟩↔@QE ⟨g,d,.len b x⟩ j s (ade b (s.ev x)) ⟨nx⟩:=aaX
@[simp] theorem ajm {sz bytes:Nat} {x y:X}:@oS gI P ⟨g,d,.app sz bytes x y⟩ s ⟨K⟩↔@oE d s (Qs sz bytes (bB s.hp) (d.getD 0) (s.ev y) (s.ev x)) ⟨K⟩:=aa0
@[simp] theorem aiw {sz bytes:Nat} {x y:X}:@Kz gI P ⟨g,d,.app sz bytes x y⟩ j s ⟨nx⟩↔@QE ⟨g,d,.app sz bytes x y⟩ j s (Qs sz bytes (bB s.hp) (d.getD 0) (s.ev y) (s.ev x)) ⟨nx⟩:=aaQ
@[simp] theorem ajN {b:Bool} {xs:List X}:@oS gI P ⟨g,d,.mm b xs⟩ s ⟨K⟩↔@oE d s (vmm b (xs.map s.ev)) ⟨K⟩:=ac4
@[simp] theorem ajf {b:Bool} {xs:List X}:@Kz gI P ⟨g,d,.mm b xs⟩ j s ⟨nx⟩↔@QE ⟨g,d,.mm b xs⟩ j s (vmm b (xs.map s.ev)) ⟨nx⟩:=acZ
end
theorem km {P:Program} {f:Nat} {vs:List V} {s:AS} {d:Nat} {K:AS->Prop} {res:V} (h:aa P f (vs.map (aP (bB s.hp) 6)) res)
  (h1:cn res=true) (h2:fx res=true\/(aC vs=true/\bb vs=true)) (h3:(List.range (b9 d 0 res).2.2).all (fun i=>s.fresh (d+1000 * i))=true) (h4:K (s.took d res)):nT P f vs s d K:=.inl ⟨res,h,h1,h2,h3,h4⟩
omit [GI] in
theorem YY (s:AS) (d:Nat) (x:Value):s.took d (.v x)=s.put (some d) (.v x):=by simp[AS.took,b9,AS.put]
theorem af {P:Program} {f:Nat} {vs:List V} {s:AS} {d:Nat} {K:AS->Prop} {x:Value} (h:aa P f (vs.map (aP (bB s.hp) 6)) (.v x)) (h4:K (s.put (some d) (.v x))):nT P f vs s d K :=
 km h rfl (.inl rfl) (by simp[b9]) (by rw[YY];exact h4)
theorem aa.arg {P:Program} {f:Nat} {args args':List V} {res:V} (h:aa P f args res) (e:args'=args):aa P f args' res:=by rw[e];exact h
theorem ac.arg {P:Program} {f:Nat} {args args':List V} {res:V} {H0:List Blk} {H1:List (Option Blk)} (h:ac P f H0 args res H1) (e:args'=args):ac P f H0 args' res H1:=by rw[e];exact h
theorem mr {P:Program} {f:Nat} {vs:List V} {s:AS} {d i:Nat} {c:CO} {next:It->AS->Prop} {x:Value} (h:aa P f (vs.map (aP (bB s.hp) 6)) (.v x)) (h1:bb vs=true)
  (h2:(cc vs).all (fun id=>match bB s.hp id with | some b=>dB b.es | none=>true)=true) (h3:next ⟨c,xZ d (.v x),i,iS c s⟩ (s.put (some d) (.v x))):uX P f vs s d c i next :=
 .inl ⟨.v x,h,rfl,.inl rfl,h1,h2,by rw[YY];exact h3⟩
theorem abE {P:Program} {f:Nat} {vs:List V} {s:AS} {d i:Nat} {c:CO} {next:It->AS->Prop} {res:V} (h:aa P f (vs.map (aP (bB s.hp) 6)) res) (h0:cn res=true) (hr:fx res=true\/(aC vs=true/\bb vs=true)) (h1:bb vs=true)
  (h2:(cc vs).all (fun id=>match bB s.hp id with | some b=>dB b.es | none=>true)=true) (h3:next ⟨c,xZ d res,i,iS c s⟩ (s.took d res)):uX P f vs s d c i next :=
 .inl ⟨res,h,h0,hr,h1,h2,h3⟩
attribute [simp] trM
attribute [simp] bm dB O9 ind E9 Tr.free Vr xZ iS xsT SA cc rdS
theorem Qy {P:Program} {f:Nat} {vs:List V} {s:AS} {d:Nat} {K:AS->Prop} {res:V} (M:List Nat) {H0:List Blk} {H1:List (Option Blk)} (h:ac P f H0 (vs.map (my M (bB s.hp) 6)) res H1)
  (h1:M.Nodup) (h2:M.map (bB s.hp)=H0.map some) (h3:∀ blk ∈ H0,aC blk.es=true) (h4:CJ H1=true) (h5:cn res=true) (h6:fx res=true)
  (h7:(List.range (b9 d 0 res).2.2).all (fun i=>(s.wrote M H1).fresh (d+1000 * i))=true) (h8:K ((s.wrote M H1).took d res)):nT P f vs s d K :=
 .inr <| .inl ⟨M,H0,res,H1,h,h1,h2,h3,h4,h5,h6,h7,h8⟩
attribute [simp] gL hpM AS.minit dX my RG iG Qo AS.wrote OH CJ Ca
def ZE (res:V):Option (Prop×V×List Nat)->Prop
 | some (p,r,ids)=>p/\r=res/\ids.Nodup
 | none=>False
def TW (look:Nat->Option Blk) (res:V):Option (List V)->Prop
 | some vs=>ZE res (gp look (gk vs))
 | none=>False
attribute [simp] ZE TW
omit [GI] in
theorem abv {rs:List RV} {res:V} {s:AS}:(∃ vs p ids,jJ s rs=some vs/\gp (bB s.hp) (gk vs)=some (p,res,ids)/\p/\ids.Nodup)↔TW (bB s.hp) res (jJ s rs):=by
 cases h:jJ s rs with
 | none=>simp[TW]
 | some vs =>
   simp only[TW,Option.some.injEq];cases h2:gp (bB s.hp) (gk vs) with
   | none =>
     simp only[ZE,iff_false];rintro ⟨vs',p,ids,rfl,h3,_⟩;rw[h2] at h3;cases h3
   | some y =>
     obtain ⟨p,r,ids⟩:=y;simp only[ZE];constructor
     ·rintro ⟨vs',p',ids',rfl,h3,h4,h5⟩;rw[h2] at h3;cases h3;exact⟨h4,rfl,h5⟩
     ·rintro ⟨h4,rfl,h5⟩;exact⟨vs,p,ids,rfl,h2,h4,h5⟩
omit [GI] in
theorem adu {rs:List RV} {res:V} {s:AS}:Ret rs res .ret s↔TW (bB s.hp) res (jJ s rs):=by rw[<- abv];simp[Ret]
omit [GI] in
theorem X1 {rs:List RV} {res:V} {s:AS}:Ret rs res .normal s↔TW (bB s.hp) res (jJ s rs):=by rw[<- abv];simp[Ret]
omit [GI] in
theorem abw {rs:List RV} {res:V} {s:AS} {i:Nat}:Ret rs res (.exit i) s↔False:=by simp[Ret]
attribute [simp] adu X1 abw
def U2 (look:Nat->Option Blk) (res:V) (H1:List (Option Blk)):Option (Prop×V×List Nat)->Prop
 | some (p,r,ids)=>p/\r=res/\(ids++(dX H1 0).map gL).Nodup/\Ca look H1 0
 | none=>False
def Oo (look:Nat->Option Blk) (res:V) (H1:List (Option Blk)):Option (List V)->Prop
 | some vs=>U2 look res H1 (gp look (gk vs))
 | none=>False
attribute [simp] U2 Oo
omit [GI] in
theorem Zd {rs:List RV} {res:V} {s:AS} {H1:List (Option Blk)}:(∃ vs p ids,jJ s rs=some vs/\gp (bB s.hp) (gk vs)=some (p,res,ids)/\p/\(ids++(dX H1 0).map gL).Nodup/\Ca (bB s.hp) H1 0)↔Oo (bB s.hp) res H1 (jJ s rs):=by
 cases h:jJ s rs with
 | none=>simp only[Oo,iff_false];rintro ⟨vs,p,ids,e,_⟩;cases e
 | some vs =>
   simp only[Oo,Option.some.injEq];cases h2:gp (bB s.hp) (gk vs) with
   | none =>
     simp only[U2,iff_false];rintro ⟨vs',p,ids,rfl,h3,_⟩;rw[h2] at h3;cases h3
   | some y =>
     obtain ⟨p,r,ids⟩:=y;simp only[U2];constructor
     ·rintro ⟨vs',p',ids',rfl,h3,h4,h5⟩;rw[h2] at h3;cases h3;exact⟨h4,rfl,h5⟩
     ·rintro ⟨h4,rfl,h5⟩;exact⟨vs,p,ids,rfl,h2,h4,h5⟩
omit [GI] in
@[simp] theorem agG {rs:List RV} {res:V} {H1:List (Option Blk)} {s:AS}:VD rs res H1 .ret s↔Oo (bB s.hp) res H1 (jJ s rs):=by rw[<- Zd];simp[VD]
omit [GI] in
@[simp] theorem aeg {rs:List RV} {res:V} {H1:List (Option Blk)} {s:AS}:VD rs res H1 .normal s↔Oo (bB s.hp) res H1 (jJ s rs):=by rw[<- Zd];simp[VD]
omit [GI] in
@[simp] theorem afM {rs:List RV} {res:V} {H1:List (Option Blk)} {s:AS} {i:Nat}:VD rs res H1 (.exit i) s↔False:=by simp[VD]
def ab3 (J:AS->Prop) (Q:Exit->AS->Prop):Exit->AS->Prop
 | .normal=>J
 | e=>Q e
omit [GI] in
@[simp ↓] theorem aia {J:AS->Prop} {Q:Exit->AS->Prop} {s:AS}:ab3 J Q .normal s↔J s:=Iff.rfl
omit [GI] in
@[simp ↓] theorem aib {J:AS->Prop} {Q:Exit->AS->Prop} {s:AS}:ab3 J Q .ret s↔Q .ret s:=Iff.rfl
omit [GI] in
@[simp ↓] theorem ah9 {J:AS->Prop} {Q:Exit->AS->Prop} {i:Nat} {s:AS}:ab3 J Q (.exit i) s↔Q (.exit i) s:=Iff.rfl
section
omit [GI]
@[simp] theorem aig (as_ bs:List V):KK (.tup as_) (.tup bs)↔pN as_ bs:=by simp[KK]
@[simp] theorem aid (as_ bs:List V):KK (.agg as_) (.agg bs)↔pN as_ bs:=by simp[KK]
@[simp] theorem aie (x:Value) (n:Nat) (es:List V):KK (.v x) (.own n es)↔x=.slice none 0 0/\es=[]:=by simp[KK]
@[simp] theorem af7 (x:Value) (n:Nat) (es:List V):KK (.v x) (.ro n es)↔x=.slice none 0 0/\es=[]:=by simp[KK]
@[simp] theorem ai2 (n m:Nat) (as_ bs:List V):KK (.ro n as_) (.ro m bs)↔n=m/\as_=bs:=by simp[KK]
@[simp] theorem aep (n:Nat) (es:List V):KK (.ro n es) .undef↔True:=by simp[KK]
@[simp] theorem ajD (x y:Value):KK (.v x) (.v y)↔x=y:=by simp[KK]
@[simp] theorem aif (n m:Nat) (as_ bs:List V):KK (.own n as_) (.own m bs)↔n=m/\as_=bs:=by simp[KK]
@[simp] theorem aha:pN [] []↔True:=by simp[pN]
@[simp] theorem af8 (a b:V) (as_ bs:List V):pN (a::as_) (b::bs)↔KK a b/\pN as_ bs:=by simp[pN]
end
def Vc (res:V):Option (Prop×V×List Nat)->Prop
 | some (p,r,ids)=>p/\KK r res/\ids.Nodup
 | none=>False
def Ou (look:Nat->Option Blk) (res:V):Option (List V)->Prop
 | some vs=>Vc res (gp look (gk vs))
 | none=>False
attribute [simp] Vc Ou
omit [GI] in
theorem Zg {rs:List RV} {res:V} {s:AS}:(∃ vs p r ids,jJ s rs=some vs/\gp (bB s.hp) (gk vs)=some (p,r,ids)/\p/\ids.Nodup/\KK r res)↔Ou (bB s.hp) res (jJ s rs):=by
 cases h:jJ s rs with
 | none=>simp[Ou]
 | some vs =>
   simp only[Ou,Option.some.injEq];cases h2:gp (bB s.hp) (gk vs) with
   | none =>
     simp only[Vc,iff_false];rintro ⟨vs',p,r,ids,rfl,h3,_⟩;rw[h2] at h3;cases h3
   | some y =>
     obtain ⟨p,r,ids⟩:=y;simp only[Vc];constructor
     ·rintro ⟨vs',p',r',ids',rfl,h3,h4,h5,h6⟩;rw[h2] at h3;cases h3;exact⟨h4,h6,h5⟩
     ·rintro ⟨h4,h6,h5⟩;exact⟨vs,p,r,ids,rfl,h2,h4,h5,h6⟩
omit [GI] in
@[simp] theorem agJ {rs:List RV} {res:V} {s:AS}:VG rs res .ret s↔Ou (bB s.hp) res (jJ s rs):=by rw[<- Zg];simp[VG]
omit [GI] in
@[simp] theorem aej {rs:List RV} {res:V} {s:AS}:VG rs res .normal s↔Ou (bB s.hp) res (jJ s rs):=by rw[<- Zg];simp[VG]
omit [GI] in
@[simp] theorem afO {rs:List RV} {res:V} {s:AS} {i:Nat}:VG rs res (.exit i) s↔False:=by simp[VG]
def U3 (R:V->List Blk->Prop) (N:Nat):Option (Prop×V×List Nat)->Option (List Blk)->Prop
 | some (p,r,ids),some l=>p/\(ids++(List.range N).map gL).Nodup/\(l.all fun b=>aC b.es)=true/\R r l
 | _,_=>False
def HH (look:Nat->Option Blk) (R:V->List Blk->Prop) (N:Nat):Option (List V)->Prop
 | some vs=>U3 R N (gp look (gk vs)) (CE look 0 N)
 | none=>False
attribute [simp] U3 HH CE
omit [GI] in
theorem VE {rs:List RV} {R:V->List Blk->Prop} {N:Nat} {s:AS}:(∃ vs p res ids l,jJ s rs=some vs/\gp (bB s.hp) (gk vs)=some (p,res,ids)/\p/\(ids++(List.range N).map gL).Nodup/\CE (bB s.hp) 0 N=some l/\(l.all fun b=>aC b.es)=true/\R res l)↔HH (bB s.hp) R N (jJ s rs):=by
 cases h:jJ s rs with
 | none=>simp only[HH,iff_false];rintro ⟨vs,p,r,ids,l,e,_⟩;cases e
 | some vs =>
   simp only[HH];constructor
   ·rintro ⟨vs',p,r,ids,l,e,h1,h2,h3,h4,h5,h6⟩;cases e;rw[h1,h4];exact⟨h2,h3,h5,h6⟩
   ·intro hm;unfold U3 at hm;split at hm
    ·rename_i p r ids l h1 h2;exact⟨vs,p,r,ids,l,rfl,h1,hm.1,hm.2.1,h2,hm.2.2.1,hm.2.2.2⟩
    ·exact hm.elim
omit [GI] in
@[simp] theorem afL {rs:List RV} {R:V->List Blk->Prop} {N:Nat} {s:AS}:OJ rs R N .ret s↔HH (bB s.hp) R N (jJ s rs):=by rw[<- VE];simp[OJ]
omit [GI] in
@[simp] theorem ads {rs:List RV} {R:V->List Blk->Prop} {N:Nat} {s:AS}:OJ rs R N .normal s↔HH (bB s.hp) R N (jJ s rs):=by rw[<- VE];simp[OJ]
omit [GI] in
@[simp] theorem aeK {rs:List RV} {R:V->List Blk->Prop} {N:Nat} {s:AS} {i:Nat}:OJ rs R N (.exit i) s↔False:=by simp[OJ]
theorem VO {P:Program} {f:Nat} {vs:List V} {s:AS} {d:Nat} {K:AS->Prop} {res:V} (M Z:List Nat) {H0:List Blk} {H1:List (Option Blk)} (h:ac P f H0 (vs.map (my M (jm Z (bB s.hp)) 6)) res H1)
  (h1:M.Nodup) (hz:(Z.all fun z=>!M.contains z)=true) (h2:M.map (bB s.hp)=H0.map some) (h3:∀ blk ∈ H0,aC blk.es=true) (h4:jG H1=true) (h5:cn res=true)
  (h7:(List.range (b9 d 0 res).2.2).all (fun i=>((s.sunk Z).wrote M H1).fresh (d+1000 * i))=true) (h8:K (((s.sunk Z).wrote M H1).took d res)):nT P f vs s d K :=
 .inr <| .inr <| .inr <| .inl ⟨M,Z,H0,res,H1,h,h1,hz,h2,h3,h4,h5,h7,h8⟩
attribute [simp] jG jm AS.sunk Sb
theorem qp.arg {P:Program} {f:Nat} {args args':List V} {H0:List Blk} {R:V->List Blk->Prop} (h:qp P f H0 args R) (e:args'=args):qp P f H0 args' R:=by rw[e];exact h
omit [GI] in
theorem Zw:∀ (l:List (Nat×V)) (t:Nat),lk l t=.undef\/(t,lk l t) ∈ l
 | [],t=>.inl rfl
 | (k,v)::l,t=>by
   simp only[lk];split
   ·rename_i e;subst e;exact .inr (by simp)
   ·rcases Zw l t with h | h
    ·exact .inl h
    ·exact .inr (List.mem_cons_of_mem _ h)
theorem Wk.list {s s':AS} (hp:s'.pin=s.pin) (h1:∀ p ∈ s'.sl,lk s.sl p.1=p.2) (h2:∀ p ∈ s'.hp,bB s.hp p.1=some p.2):Wk s s':=by
 refine Wk.of_lk hp (fun t=>?_) fun i=>?_
 ·rcases Zw s'.sl t with h | h
  ·exact .inr h
  ·exact .inl (h1 _ h).symm
 ·cases hb:bB s'.hp i with
  | none=>exact .inr rfl
  | some b=>exact .inl (h2 _ (QC _ _ _ hb)).symm
def Vd {α:Type} (St:α->AS) (m:α->Nat) (ok:α->Prop) (a:α) (Q:Exit->AS->Prop):Exit->AS->Prop
 | .normal=>fun s=>∃ a',m a' < m a/\ok a'/\Wk s (St a')
 | e=>Q e
theorem Ly {P:Program} {b:C} {Q:Exit->AS->Prop} {s:AS} {α:Type} (St:α->AS) (m:α->Nat) (ok:α->Prop) (a0:α) (h0:Wk s (St a0)) (h1:ok a0)
  (step:∀ a,ok a->A0 P b (Vd St m ok a Q) (St a)):ZB (A0 P b) Q s:=by
 refine⟨fun n s=>∃ a,ok a/\m a=n/\s=St a,m a0,St a0,h0,⟨a0,h1,rfl,rfl⟩,?_⟩;rintro n s ⟨a,ha,rfl,rfl⟩;refine nP b (St a) (fun e s hq=>?_) (step a ha);cases e with
 | normal =>
   obtain ⟨a',h2,h3,h4⟩:=hq;exact⟨m a',St a',h2,h4,a',h3,rfl,rfl⟩
 | _=>exact hq
theorem ci {P:Program} {b:C} {Q:Exit->AS->Prop} {s:AS} {α:Type} (St:α->AS) (m:α->Nat) (ok:α->Prop) (a0:α) (h0:Wk s (St a0)) (h1:ok a0)
  (step:∀ a,ok a->∀ K:Exit->AS->Prop,(∀ a' s,m a' < m a->ok a'->Wk s (St a')->K .normal s)->(∀ s,Q .ret s->K .ret s)->(∀ i s,Q (.exit i) s->K (.exit i) s)->A0 P b K (St a)):ZB (A0 P b) Q s :=
 Ly St m ok a0 h0 h1 fun a ha=>step a ha _ (fun a' _ h2 h3 h4=>⟨a',h2,h3,h4⟩) (fun _ h=>h) (fun _ _ h=>h)
section
variable {α : Type} {St : α → AS} {m : α → Nat} {ok : α → Prop} {a : α} {Q : Exit → AS → Prop}
@[simp] theorem afF:Vd St m ok a Q .ret=Q .ret:=rfl
@[simp] theorem aeD {i:Nat}:Vd St m ok a Q (.exit i)=Q (.exit i):=rfl
theorem Ov {s:AS} (a':α) (h1:m a' < m a) (h2:ok a') (h3:Wk s (St a')):Vd St m ok a Q .normal s:=⟨a',h1,h2,h3⟩
end
omit [GI] in
theorem afK {n:Int} (h1 : -9223372036854775808<=n) (h2:n<=9223372036854775807):IntKind.i64.wrap n=n:=by
 simp[IntKind.wrap,IntKind.signed,IntKind.bits];omega
abbrev gu (l:List Int):List V:=l.map I
omit [GI] in
@[simp] theorem ae5 (l:List Int):dB (l.map I)=true:=by induction l<;>simp_all [dB]
omit [GI] in
@[simp] theorem aew (l:List Int):bb (l.map I)=true:=by induction l<;>simp_all
omit [GI] in
@[simp] theorem aet (l:List Int):aC (l.map I)=true:=by induction l<;>simp_all
omit [GI] in
@[simp] theorem afr (l:List Int):d8 (l.map I)=true:=by induction l<;>simp_all
omit [GI] in
@[simp] theorem afl (d:Nat) (l:List Int):a7 d (l.map I)=false:=by induction l<;>simp_all
omit [GI] in
@[simp] theorem aek (hp:Nat->Option Blk) (k:Nat) (l:List Int):(l.map I).map (aP hp (k+1))=l.map I:=by simp[Function.comp_def]
omit [GI] in
@[simp] theorem adQ (hp:Nat->Option Blk) (k:Nat) (l:List Int):List.map (aP hp (k+1)∘I) l=l.map I:=by simp[Function.comp_def]
omit [GI] in
@[simp] theorem aea {α:Type} (f:α->V) (l:List α):List.take l.length (l.map f)=l.map f:=List.take_of_length_le (by simp)
omit [GI] in
@[simp] theorem aam (d:Nat):∀ a b:List V,a7 d (a++b)=(a7 d a||a7 d b)
 | [],b=>by simp
 | x::a,b=>by simp[aam d a b,Bool.or_assoc]
omit [GI] in
@[simp] theorem Yz:∀ a b:List V,bb (a++b)=(bb a&&bb b)
 | [],b=>by simp
 | x::a,b=>by simp[Yz a b,Bool.and_assoc]
omit [GI] in
@[simp] theorem ZQ:∀ a b:List V,dB (a++b)=(dB a&&dB b)
 | [],b=>by simp[dB]
 | x::a,b=>by simp[dB,ZQ a b,Bool.and_assoc]
omit [GI] in
@[simp] theorem ZR {α:Type} (f:α->V) (h:∀ x,fA (f x)=true):∀ l:List α,dB (l.map f)=true
 | []=>by simp[dB]
 | x::l=>by simp[dB,h,ZR f h l]
omit [GI] in
@[simp] theorem Yy:∀ a b:List V,aC (a++b)=(aC a&&aC b)
 | [],b=>by simp
 | x::a,b=>by simp[Yy a b,Bool.and_assoc]
omit [GI] in
@[simp] theorem aas:∀ a b:List V,d8 (a++b)=(d8 a&&d8 b)
 | [],b=>by simp
 | x::a,b=>by simp[aas a b,Bool.and_assoc]
omit [GI] in
@[simp] theorem TJ {α:Type} (d:Nat) (f:α->V) (h:∀ x,bI d (f x)=false):∀ l:List α,a7 d (l.map f)=false
 | []=>by simp
 | x::l=>by simp[h,TJ d f h l]
omit [GI] in
@[simp] theorem YA {α:Type} (f:α->V) (h:∀ x,bO (f x)=true):∀ l:List α,bb (l.map f)=true
 | []=>by simp
 | x::l=>by simp[h,YA f h l]
omit [GI] in
@[simp] theorem W3 {α:Type} (f:α->V) (h:∀ x,bR (f x)=true):∀ l:List α,aC (l.map f)=true
 | []=>by simp
 | x::l=>by simp[h,W3 f h l]
omit [GI] in
@[simp] theorem aat {α:Type} (f:α->V) (h:∀ x,fx (f x)=true):∀ l:List α,d8 (l.map f)=true
 | []=>by simp
 | x::l=>by simp[h,aat f h l]
omit [GI] in
theorem lB {d:Nat}:∀ {es:List V},a7 d es=false↔∀ e ∈ es,bI d e=false
 | []=>by simp
 | e::es=>by simp[lB (es:=es)]
omit [GI] in
@[simp] theorem RP {d:Nat} {es:List V} {k:Nat} (h:a7 d es=false):a7 d (es.take k)=false:=lB.2 fun e he=>lB.1 h e (List.mem_of_mem_take he)
omit [GI] in
@[simp] theorem afk {d:Nat} {es:List V} {k:Nat} (h:a7 d es=false):a7 d (es.drop k)=false:=lB.2 fun e he=>lB.1 h e (List.mem_of_mem_drop he)
omit [GI] in
@[simp] theorem afm {d:Nat} {es:List V} {k:Nat} {v:V} (h:a7 d es=false) (hv:bI d v=false):a7 d (es.set k v)=false:=lB.2 fun e he=>by
 rcases List.mem_or_eq_of_mem_set he with h' | rfl
 ·exact lB.1 h e h'
 ·exact hv
omit [GI] in
@[simp] theorem aga {d:Nat} {v:V} {k:Nat} (hv:bI d v=false):a7 d (List.replicate k v)=false:=lB.2 fun e he=>by rw[(List.mem_replicate.1 he).2];exact hv
omit [GI] in
theorem jF:∀ {es:List V},bb es=true↔∀ e ∈ es,bO e=true
 | []=>by simp
 | e::es=>by simp[jF (es:=es)]
omit [GI] in
@[simp] theorem W6 {es:List V} {k:Nat} (h:bb es=true):bb (es.take k)=true:=jF.2 fun e he=>jF.1 h e (List.mem_of_mem_take he)
omit [GI] in
@[simp] theorem W5 {es:List V} {k:Nat} (h:bb es=true):bb (es.drop k)=true:=jF.2 fun e he=>jF.1 h e (List.mem_of_mem_drop he)
omit [GI] in
@[simp] theorem aex {es:List V} {k:Nat} {v:V} (h:bb es=true) (hv:bO v=true):bb (es.set k v)=true:=jF.2 fun e he=>by
 rcases List.mem_or_eq_of_mem_set he with h' | rfl
 ·exact jF.1 h e h'
 ·exact hv
omit [GI] in
@[simp] theorem afo {v:V} {k:Nat} (hv:bO v=true):bb (List.replicate k v)=true:=jF.2 fun e he=>by rw[(List.mem_replicate.1 he).2];exact hv
omit [GI] in
theorem jD:∀ {es:List V},aC es=true↔∀ e ∈ es,bR e=true
 | []=>by simp
 | e::es=>by simp[jD (es:=es)]
omit [GI] in
@[simp] theorem W4 {es:List V} {k:Nat} (h:aC es=true):aC (es.take k)=true:=jD.2 fun e he=>jD.1 h e (List.mem_of_mem_take he)
omit [GI] in
@[simp] theorem W2 {es:List V} {k:Nat} (h:aC es=true):aC (es.drop k)=true:=jD.2 fun e he=>jD.1 h e (List.mem_of_mem_drop he)
omit [GI] in
@[simp] theorem aeu {es:List V} {k:Nat} {v:V} (h:aC es=true) (hv:bR v=true):aC (es.set k v)=true:=jD.2 fun e he=>by
 rcases List.mem_or_eq_of_mem_set he with h' | rfl
 ·exact jD.1 h e h'
 ·exact hv
omit [GI] in
@[simp] theorem afn {v:V} {k:Nat} (hv:bR v=true):aC (List.replicate k v)=true:=jD.2 fun e he=>by rw[(List.mem_replicate.1 he).2];exact hv
omit [GI] in
theorem lD:∀ {es:List V},d8 es=true↔∀ e ∈ es,fx e=true
 | []=>by simp
 | e::es=>by simp[lD (es:=es)]
omit [GI] in
@[simp] theorem aft {es:List V} {k:Nat} (h:d8 es=true):d8 (es.take k)=true:=lD.2 fun e he=>lD.1 h e (List.mem_of_mem_take he)
omit [GI] in
@[simp] theorem afq {es:List V} {k:Nat} (h:d8 es=true):d8 (es.drop k)=true:=lD.2 fun e he=>lD.1 h e (List.mem_of_mem_drop he)
omit [GI] in
@[simp] theorem afs {es:List V} {k:Nat} {v:V} (h:d8 es=true) (hv:fx v=true):d8 (es.set k v)=true:=lD.2 fun e he=>by
 rcases List.mem_or_eq_of_mem_set he with h' | rfl
 ·exact lD.1 h e h'
 ·exact hv
omit [GI] in
@[simp] theorem agm {v:V} {k:Nat} (hv:fx v=true):d8 (List.replicate k v)=true:=lD.2 fun e he=>by rw[(List.mem_replicate.1 he).2];exact hv
omit [GI] in
theorem yj:∀ {es:List V},dB es=true↔∀ e ∈ es,fA e=true
 | []=>by simp
 | e::es=>by simp[yj (es:=es)]
omit [GI] in
@[simp] theorem ae6 {es:List V} {k:Nat} (h:dB es=true):dB (es.take k)=true:=yj.2 fun e he=>yj.1 h e (List.mem_of_mem_take he)
omit [GI] in
@[simp] theorem ae4 {es:List V} {k:Nat} (h:dB es=true):dB (es.drop k)=true:=yj.2 fun e he=>yj.1 h e (List.mem_of_mem_drop he)
abbrev roI (l:List Int):V:=.ro 1 (gu l)
abbrev ajw (l:List Int):V:=.own 1 (gu l)
omit [GI] in
@[simp] theorem abo (hp:Nat->Option Blk) (k:Nat) (l:List (List Int)):List.map (aP hp (k+2)∘ajw) l=l.map roI:=by simp[Function.comp_def]
omit [GI] in
@[simp] theorem ach (hp:Nat->Option Blk) (k:Nat) (l:List (List Int)):List.map (aP hp (k+1)∘roI) l=l.map roI:=by simp[Function.comp_def]
end Go.Abs
namespace Go.Abs
variable [GI]
def aan (n id:Nat):Bool:=decide (1000000<=id)&&decide (id < 1000000+n)
omit [GI] in
theorem yM {n id:Nat}:aan n id=true↔1000000<=id/\id < 1000000+n:=by simp[aan]
omit [GI] in
theorem aao {n:Nat} {v:V}:WW n v↔(cN v).all (aan n)=true:=by
 rw[List.all_eq_true];exact⟨fun h id hi=>yM.2 (h id (Wz id v hi)),fun h id hi=>yM.1 (h id (WV id v hi))⟩
omit [GI] in
theorem Yu {n:Nat} {vs:List V}:Kj n vs↔(cc vs).all (aan n)=true:=by
 rw[List.all_eq_true];exact⟨fun h id hi=>yM.2 (h id (sB id vs hi)),fun h id hi=>yM.1 (h id (yL id vs hi))⟩
def okB (q:Option Nat) (n id:Nat):Bool:=aan n id||some id==q
omit [GI] in
theorem aav {q:Option Nat} {n:Nat} {vs:List V}:Fa q n vs↔(cc vs).all (okB q n)=true:=by
 rw[List.all_eq_true];constructor
 ·intro h id hi;rcases h id (sB id vs hi) with h | h
  ·simp[okB,yM.2 h]
  ·simp[okB,h]
 ·intro h id hi;have:=h id (yL id vs hi);simp only[okB,Bool.or_eq_true,beq_iff_eq,yM] at this;exact this
attribute [simp] aao Yu aav cc aan okB
attribute [simp] rL
theorem Cf.arg {P:Program} {f:Nat} {args args':List V} {H0:List Blk} {R:V->List Blk->Option Blk->Prop} (h:Cf P f H0 args R) (e:args'=args):Cf P f H0 args' R:=by rw[e];exact h
attribute [simp] upI SF AS.back S6
def U5 (look:Nat->Option Blk) (R:V->List Blk->Option Blk->Prop) (N:Nat):Option (List V)->Option (List Blk)->Prop
 | some vs,some l=>(Fa none N vs/\(∀ b ∈ l,Fa none N b.es)/\R (gk vs) l none) \/
  ∃ q blk,look q=some blk/\q < 1000000/\Fa (some q) N vs/\(∀ b ∈ l,Fa (some q) N b.es)/\Fa none N blk.es/\R (Ki (S6 q N) (gk vs)) (l.map (xj (S6 q N))) (some (xj (S6 q N) blk))
 | _,_=>False
omit [GI] in
theorem Ze {rs:List RV} {R:V->List Blk->Option Blk->Prop} {N:Nat} {e:Exit} {s:AS} (he:match e with | .normal=>True | .ret=>True | _=>False):X0 rs R N e s↔U5 (bB s.hp) R N (jJ s rs) (CE (bB s.hp) 0 N):=by
 unfold X0 U5;constructor
 ·rintro ⟨_,vs,l,h1,h2,h3⟩;rw[h1,h2];exact h3
 ·intro h;refine⟨he,?_⟩;split at h
  ·rename_i vs l h1 h2;exact⟨vs,l,h1,h2,h⟩
  ·exact h.elim
omit [GI] in
@[simp] theorem agH {rs:List RV} {R:V->List Blk->Option Blk->Prop} {N:Nat} {s:AS}:X0 rs R N .ret s↔U5 (bB s.hp) R N (jJ s rs) (CE (bB s.hp) 0 N):=Ze trivial
omit [GI] in
@[simp] theorem aeh {rs:List RV} {R:V->List Blk->Option Blk->Prop} {N:Nat} {s:AS}:X0 rs R N .normal s↔U5 (bB s.hp) R N (jJ s rs) (CE (bB s.hp) 0 N):=Ze trivial
omit [GI] in
@[simp] theorem afN {rs:List RV} {R:V->List Blk->Option Blk->Prop} {N:Nat} {s:AS} {i:Nat}:X0 rs R N (.exit i) s↔False:=⟨fun h=>h.1,False.elim⟩
attribute [simp] trN
end Go.Abs
namespace Go.Abs
abbrev S (l:List UInt8):V:=.v (.string (bs l))
abbrev Y (b:UInt8):V:=.v (.int .u8 b.toNat)
@[simp] theorem adz (l:List UInt8):(bs l).size=l.length:=by simp[bs,ByteArray.size]
@[simp] theorem afP (a b:List UInt8):bs a++bs b=bs (a++b):=by apply ByteArray.ext;simp[bs]
@[simp] theorem aeL (l:List UInt8) (i j:Nat):(bs l).extract i j=bs ((l.drop i).take (j - i)):=by apply ByteArray.ext;simp[bs]
@[simp] theorem aeM (l:List UInt8) (i:Nat):(bs l)[i]?=l[i]?:=by
 unfold bs;show (if h:i < (ByteArray.mk l.toArray).size then some ((ByteArray.mk l.toArray)[i]) else none)=_;have:(ByteArray.mk l.toArray).size=l.length:=rfl;by_cases h:i < l.length
 ·rw[dif_pos (by rw[this];exact h),List.getElem?_eq_getElem h];rfl
 ·rw[dif_neg (by rw[this];exact h),List.getElem?_eq_none (by omega)]
@[simp] theorem ah0 (l:List UInt8) (i:Nat) (h:i < (bs l).size):(bs l)[i]'h=l[i]'(by simpa [bs,ByteArray.size] using h):=by
 have h1:(bs l)[i]?=some ((bs l)[i]'h):=by rw[getElem?_pos]
 rw[aeM,List.getElem?_eq_getElem (by simpa [bs,ByteArray.size] using h)] at h1;exact(Option.some.inj h1).symm
theorem ady (l:List UInt8):∀ (k i:Nat) (r:List UInt8),l.length - i=k->ByteArray.toList.loop (bs l) i r=r.reverse++l.drop i:=by
 intro k
 induction k with
 | zero =>
   intro i r h;rw[ByteArray.toList.loop,if_neg (by show ¬i < l.length;omega),List.drop_of_length_le (by omega)];simp
 | succ k ih =>
   intro i r h;rw[ByteArray.toList.loop,if_pos (by show i < l.length;omega),ih (i+1) _ (by omega)];have hi:i < l.length:=by omega
   rw[List.drop_eq_getElem_cons hi]
   have:(bs l).get! i=l[i]:=by
    show (bs l).data[i]! = _;simp[bs,hi]
   rw[this];simp
@[simp] theorem Tk (l:List UInt8):(bs l).toList=l:=by
 show ByteArray.toList.loop (bs l) 0 []=l;rw[ady l _ 0 [] rfl];simp
theorem adx (b:ByteArray):b=bs b.data.toList:=by apply ByteArray.ext;simp[bs]
@[simp] theorem aiW {a b:List UInt8}:bs a=bs b↔a=b:=⟨fun h=>by rw[<- Tk a,h,Tk],fun h=>by rw[h]⟩
@[simp] theorem abB {a b:UInt8}:((a.toNat:Int)=(b.toNat:Int))↔a=b:=⟨fun h=>UInt8.toNat.inj (by omega),fun h=>by rw[h]⟩
abbrev ajR (l:List (List UInt8)):List V:=l.map S
@[simp] theorem adX (l:List (List UInt8)):bb (l.map S)=true:=by induction l<;>simp_all
@[simp] theorem adW (l:List (List UInt8)):aC (l.map S)=true:=by induction l<;>simp_all
@[simp] theorem aey (l:List (List UInt8)):d8 (l.map S)=true:=by induction l<;>simp_all
@[simp] theorem aeq (d:Nat) (l:List (List UInt8)):a7 d (l.map S)=false:=by induction l<;>simp_all
@[simp] theorem adR (hp:Nat->Option Blk) (k:Nat) (l:List (List UInt8)):List.map (aP hp (k+1)∘S) l=l.map S:=by simp[Function.comp_def]
theorem aiR {α:Type} {f:α->V} {s:Nat} {b:Bool} {Q:V->Prop} (hQ:∀ v,Q v->∃ x,v=f x) {v:V} (h:∃ es,v=.ro s es/\(∀ e ∈ es,Q e/\cC e=b)/\es.length<=maxLen):∃ l:List α,v=.ro s (l.map f):=by
 obtain ⟨es,rfl,h,hlen⟩:=h;clear hlen
 induction es with
 | nil=>exact⟨[],rfl⟩
 | cons e es ih =>
   obtain ⟨x,hx⟩:=hQ e (h e List.mem_cons_self).1;obtain ⟨l,hl⟩:=ih (fun e he=>h e (List.mem_cons_of_mem _ he));cases hl;exact⟨x::l,by rw[hx];rfl⟩
@[simp] theorem aiT (l:List UInt8):Vo (bs l)=l.map Y:=by simp[Vo,bs]
@[simp] theorem ZN:∀ l:List UInt8,px (l.map Y)=some l
 | []=>rfl
 | x::l=>by
   have ih:=ZN l;simp only[List.map_cons,px] at ih ⊢;rw[ih];simp
end Go.Abs
namespace Go.Abs
variable [GI]
def B7 (i j k:Nat):Nat:=if k=i then j else k
mutual
def B8 (i j:Nat):V->V
 | .ref k a b=>.ref (B7 i j k) a b
 | .sl k a n=>.sl (B7 i j k) a n
 | .agg cs=>.agg (xW i j cs)
 | .tup cs=>.tup (xW i j cs)
 | .clo f cs=>.clo f (xW i j cs)
 | .undef=>.undef
 | .v x=>.v x
 | .rp s es a b=>.rp s es a b
 | .ro s es=>.ro s es
 | .own s es=>.own s es
def xW (i j:Nat):List V->List V
 | []=>[]
 | c::cs=>B8 i j c::xW i j cs
end
attribute [simp] B7 B8 xW
section
variable {w : World} {D : Nat → Prop} {φ φ' : Nat → Option Pl} {i j : Nat}
omit [GI] in
theorem acE (hj:φ' j=φ i) (ho:∀ k,k≠j->φ' k=φ k) {k:Nat} (h:k≠j):φ' (B7 i j k)=φ k:=by
 unfold B7;split
 ·rename_i e;rw[hj,e]
 ·exact ho k h
omit [GI] in
mutual
theorem XW (hj:φ' j=φ i) (ho:∀ k,k≠j->φ' k=φ k):∀ (v:V) (x:Value) (fp:List Nat),bI j v=false->CV w D v φ x fp->CV w D (B8 i j v) φ' x fp
 | .undef,x,fp,_,h=>by simpa [CV] using h
 | .v y,x,fp,_,h=>by simpa [CV] using h
 | .rp _ _ _ _,x,fp,_,h=>by simpa [CV] using h
 | .ro _ _,x,fp,_,h=>by simpa [CV] using h
 | .own _ _,x,fp,_,h=>by simpa [CV] using h
 | .ref k a b,x,fp,hm,h=>by
   have hk:k≠j:=by simpa [bI] using hm
   simp only[B8,CV] at h ⊢;rw[acE hj ho hk];exact h
 | .sl k a n,x,fp,hm,h=>by
   have hk:k≠j:=by simpa [bI] using hm
   simp only[B8,CV] at h ⊢;rw[acE hj ho hk];exact h
 | .agg cs,x,fp,hm,h=>by
   simp only[B8,CV] at h ⊢;obtain ⟨xs,rfl,h⟩:=h;exact⟨xs,rfl,Qx hj ho cs _ _ (by simpa [bI] using hm) h⟩
 | .tup cs,x,fp,hm,h=>by
   simp only[B8,CV] at h ⊢;obtain ⟨xs,rfl,h⟩:=h;exact⟨xs,rfl,Qx hj ho cs _ _ (by simpa [bI] using hm) h⟩
 | .clo f cs,x,fp,hm,h=>by
   simp only[B8,CV] at h ⊢;obtain ⟨xs,rfl,h⟩:=h;exact⟨xs,rfl,Qx hj ho cs _ _ (by simpa [bI] using hm) h⟩
theorem Qx (hj:φ' j=φ i) (ho:∀ k,k≠j->φ' k=φ k):∀ (cs:List V) (xs:List Value) (fp:List Nat),a7 j cs=false->cg w D cs φ xs fp->cg w D (xW i j cs) φ' xs fp
 | [],xs,fp,_,h=>by simpa [cg] using h
 | c::cs,xs,fp,hm,h=>by
   simp only[a7,Bool.or_eq_false_iff] at hm;simp only[xW,cg] at h ⊢;obtain ⟨x,xs',f1,f2,rfl,rfl,h1,h2⟩:=h;exact⟨x,xs',f1,f2,rfl,rfl,XW hj ho c _ _ hm.1 h1,Qx hj ho cs _ _ hm.2 h2⟩
end
omit [GI] in
theorem abt (hj:φ' j=φ i) (ho:∀ k,k≠j->φ' k=φ k) {s:Nat}:∀ (cs:List V) (xs:List Value) (fp:List Nat),a7 j cs=false->CR w D s cs φ xs fp->CR w D s (xW i j cs) φ' xs fp
 | [],xs,fp,_,h=>by simpa [CR] using h
 | c::cs,xs,fp,hm,h=>by
   simp only[a7,Bool.or_eq_false_iff] at hm;simp only[xW,CR] at h ⊢;obtain ⟨x,rest,f1,f2,rfl,hs,rfl,h1,h2⟩:=h;exact⟨x,rest,f1,f2,rfl,hs,rfl,XW hj ho c _ _ hm.1 h1,abt hj ho cs _ _ hm.2 h2⟩
def su (i j:Nat) (b:Blk):Blk:=⟨b.s,xW i j b.es⟩
attribute [simp] su
theorem RelD.ren {X:Ctx} {s s':St} {a:Act} {F:Nat->List Nat} {G:List Nat} (h:RelD X s a w D φ F G) (hij:i≠j) (hf:Fresh s j) (hp:j ∉ X.pin) (hsl:∀ t,s'.sl t=Abs.B8 i j (s.sl t))
  (hhp:∀ k,s'.hp k=if k=j then (s.hp i).map (su i j) else if k=i then none else (s.hp k).map (su i j)) :
  RelD X s' a w D (fun k=>if k=j then φ i else φ k) (fun k=>if k=j then F i else if k=i then [] else F k) G:=by
 have hj:(fun k=>if k=j then φ i else φ k) j=φ i:=by simp
 have ho:∀ k,k≠j->(fun k=>if k=j then φ i else φ k) k=φ k:=fun k hk=>by simp[hk]
 have blk:∀ k blk,s.hp k=some blk->∀ id,(if id=j then φ i else φ id)=φ k->cM w D (fun k=>if k=j then φ i else φ k) id (su i j blk) (F k):=fun k blk hb id hid=>by
  rcases h.blks k blk hb with ⟨h1,⟨h2,h3⟩ | ⟨b,m,rfl,h3⟩⟩ | ⟨p,arr,ty,f',h1,h2,h3,h4,h5,h6⟩
  ·exact .inl ⟨hid.trans h1,.inl ⟨by simp[h2],h3⟩⟩
  ·exact .inl ⟨hid.trans h1,.inr ⟨b,m,by simp[bo,Qj],h3⟩⟩
  ·exact .inr ⟨p,arr,ty,f',hid.trans h1,h2,h3,h4,h5,abt hj ho _ _ _ (hf.hp k blk hb) h6⟩
 have part:∀ k b,b ∈ (if k=j then F i else if k=i then [] else F k)->∃ k',b ∈ F k'/\((k=j/\k'=i)\/(k≠j/\k≠i/\k'=k)):=fun k b hb=>by
  split at hb
  ·rename_i e;exact⟨i,hb,.inl ⟨e,rfl⟩⟩
  ·split at hb
   ·cases hb
   ·rename_i e1 e2;exact⟨k,hb,.inr ⟨e1,e2,rfl⟩⟩
 refine { h with slots:=fun t=>?_,blks:=fun id b hb=>?_,nob:=fun id hid=>?_,nodup:=fun id=>?_,sep:=fun k k' hkk b hb hb'=>?_,notD:=fun id b hb=>?_,pins:=fun id hid=>?_,gsep:=fun k b hb=>?_ }
 ·rw[hsl];exact XW hj ho _ _ _ (hf.sl t) (h.slots t)
 ·rw[hhp] at hb;by_cases e:id=j
  ·rw[if_pos e] at hb ⊢;simp only[Option.map_eq_some_iff] at hb;obtain ⟨b0,hb0,rfl⟩:=hb;exact blk i b0 hb0 id (by rw[if_pos e])
  ·rw[if_neg e] at hb ⊢;by_cases e2:id=i
   ·rw[if_pos e2] at hb;cases hb
   ·rw[if_neg e2] at hb ⊢;simp only[Option.map_eq_some_iff] at hb;obtain ⟨b0,hb0,rfl⟩:=hb;exact blk id b0 hb0 id (by rw[if_neg e])
 ·rw[hhp] at hid;by_cases e:id=j
  ·rw[if_pos e] at hid ⊢;exact h.nob i (by simpa using hid)
  ·rw[if_neg e] at hid ⊢;by_cases e2:id=i
   ·rw[if_pos e2]
   ·rw[if_neg e2] at hid ⊢;exact h.nob id (by simpa using hid)
 ·split
  ·exact h.nodup i
  ·split
   ·exact List.nodup_nil
   ·exact h.nodup id
 ·obtain ⟨m,h1,h2⟩:=part k b hb;obtain ⟨m',h1',h2'⟩:=part k' b hb';refine h.sep m m' ?_ b h1 h1';rcases h2 with ⟨a1,a2⟩ | ⟨a1,a2,a3⟩<;>rcases h2' with ⟨b1,b2⟩ | ⟨b1,b2,b3⟩<;>omega
 ·obtain ⟨m,h1,_⟩:=part id b hb;exact h.notD m b h1
 ·have hne:id≠j:=fun e=>hp (by rw[<- e];exact hid);rw[if_neg hne];exact h.pins id hid
 ·obtain ⟨m,h1,_⟩:=part k b hb;exact h.gsep m b h1
end
def AS.ren (i j:Nat) (s:AS):AS:={ s with sl:=s.sl.map fun p=>(p.1,Abs.B8 i j p.2),hp:=s.hp.map fun p=>(B7 i j p.1,su i j p.2) }
attribute [simp] AS.ren
omit [GI] in
theorem acf (i j:Nat):∀ (l:List (Nat×V)) (t:Nat),lk (l.map fun p=>(p.1,B8 i j p.2)) t=B8 i j (lk l t)
 | [],t=>by simp[lk]
 | (k,v)::l,t=>by
   simp only[List.map_cons,lk];split
   ·rfl
   ·exact acf i j l t
omit [GI] in
theorem Zy {i j:Nat} (hij:i≠j):∀ (l:List (Nat×Blk)),(∀ p ∈ l,p.1≠j)->∀ k,bB (l.map fun p=>(B7 i j p.1,su i j p.2)) k=if k=j then (bB l i).map (su i j) else if k=i then none else (bB l k).map (su i j)
 | [],_,k=>by simp[bB]
 | (m,b)::l,h,k=>by
   have ih:=Zy hij l (fun p hp=>h p (List.mem_cons_of_mem _ hp)) k;have hm:m≠j:=h _ List.mem_cons_self;simp only[List.map_cons,bB];rw[ih];simp only[B7];by_cases e1:m=i
   ·subst e1;by_cases e2:k=j
    ·subst e2;simp
    ·by_cases e3:k=m
     ·subst e3;simp[e2]
     ·simp[e2,e3]
   ·by_cases e2:k=j
    ·subst e2;have:¬k=m:=fun e=>hm e.symm;have e1':¬i=m:=fun e=>e1 e.symm;simp[e1,e1',this]
    ·by_cases e3:k=i
     ·subst e3;have:¬k=m:=fun e=>e1 e.symm;simp[e1,e2,this]
     ·by_cases e4:k=m
      ·subst e4;simp[e1,e2]
      ·simp[e1,e2,e3,e4]
theorem Wk.ren {s:AS} (i j:Nat) (hij:i≠j) (hf:s.fresh j=true):Wk s (s.ren i j):=by
 refine⟨rfl,fun X a w hpin ⟨D,φ,F,h⟩=>?_⟩;obtain ⟨h1,h2⟩:=AS.fresh_ok hf;simp only[AS.fresh,Bool.and_eq_true,List.all_eq_true,bne_iff_ne,ne_eq] at hf;exact⟨D,_,_,h.ren hij h1 (by rw[hpin];exact h2) (fun t=>acf i j s.sl t) (fun k=>Zy hij s.hp (fun p hp=>(hf.1.2 p hp).1) k)⟩
omit [GI] in
@[simp] theorem TV (i j:Nat) (l:List Int):xW i j (l.map I)=l.map I:=by induction l<;>simp_all
omit [GI] in
@[simp] theorem acF (i j:Nat):∀ a b:List V,xW i j (a++b)=xW i j a++xW i j b
 | [],b=>by simp
 | x::a,b=>by simp[acF i j a b]
omit [GI] in
@[simp] theorem acI (i j k:Nat) (l:List Int):xW i j (List.take k (l.map I))=List.take k (l.map I):=by rw[<- List.map_take];exact TV i j _
omit [GI] in
@[simp] theorem acG (i j k:Nat) (l:List Int):xW i j (List.drop k (l.map I))=List.drop k (l.map I):=by rw[<- List.map_drop];exact TV i j _
theorem aa.res {P:Program} {f:Nat} {args:List V} {res res':V} (h:aa P f args res) (hr:∀ w D x fp,CV w D res (fun _=>none) x fp->CV w D res' (fun _=>none) x fp):aa P f args res':=by
 refine⟨h.1,fun w D xs hD hg hxs=>(h.2 w D xs hD hg hxs).mono ?_⟩;rintro e w' ⟨y,D',fp,h1,h2,h3,h4⟩;exact⟨y,D',fp,h1,h2,hr _ _ _ _ h3,h4⟩
def Le (v v':V):Prop:=∀ w D x fp,CV w D v (fun _=>none) x fp->CV w D v' (fun _=>none) x fp
omit [GI] in
theorem Le.refl (v:V):Le v v:=fun _ _ _ _ h=>h
omit [GI] in
theorem Le.nil (s:Nat):Le (.v (.slice none 0 0)) (.own s []):=fun w D x fp h=>by
 simp only[CV] at h ⊢;exact .inl ⟨trivial,h.1,h.2.2⟩
def Les:List V->List V->Prop
 | [],[]=>True
 | v::vs,u::us=>Le v u/\Les vs us
 | _,_=>False
omit [GI] in
theorem XY {w:World} {D:Nat->Prop}:∀ (vs us:List V) (xs:List Value) (fp:List Nat),Les vs us->cg w D vs (fun _=>none) xs fp->cg w D us (fun _=>none) xs fp
 | [],[],xs,fp,_,h=>h
 | v::vs,u::us,xs,fp,hl,h=>by
   simp only[cg] at h ⊢;obtain ⟨x,xs',f1,f2,rfl,rfl,h1,h2⟩:=h;exact⟨x,xs',f1,f2,rfl,rfl,hl.1 _ _ _ _ h1,XY vs us _ _ hl.2 h2⟩
 | [],_::_,_,_,hl,_=>hl.elim
 | _::_,[],_,_,hl,_=>hl.elim
omit [GI] in
theorem Le.tup {vs us:List V} (h:Les vs us):Le (.tup vs) (.tup us):=fun w D x fp hv=>by
 simp only[CV] at hv ⊢;obtain ⟨xs,rfl,hv⟩:=hv;exact⟨xs,rfl,XY vs us _ _ h hv⟩
omit [GI] in
theorem Le.agg {vs us:List V} (h:Les vs us):Le (.agg vs) (.agg us):=fun w D x fp hv=>by
 simp only[CV] at hv ⊢;obtain ⟨xs,rfl,hv⟩:=hv;exact⟨xs,rfl,XY vs us _ _ h hv⟩
omit [GI] in
mutual
theorem afE {i j:Nat}:∀ (v:V),bI i v=false->Abs.B8 i j v=v
 | .undef,_ | .v _,_ | .rp _ _ _ _,_ | .ro _ _,_ | .own _ _,_=>by simp only[Abs.B8]
 | .ref id a b,h=>by
   have:id≠i:=by simpa [bI] using h
   simp only[Abs.B8,B7,if_neg this]
 | .sl id a b,h=>by
   have:id≠i:=by simpa [bI] using h
   simp only[Abs.B8,B7,if_neg this]
 | .agg cs,h=>by simp only[Abs.B8];rw[NB cs (by simpa [bI] using h)]
 | .tup cs,h=>by simp only[Abs.B8];rw[NB cs (by simpa [bI] using h)]
 | .clo f cs,h=>by simp only[Abs.B8];rw[NB cs (by simpa [bI] using h)]
theorem NB {i j:Nat}:∀ (cs:List V),a7 i cs=false->xW i j cs=cs
 | [],_=>by simp only[xW]
 | c::cs,h=>by
   simp only[a7,Bool.or_eq_false_iff] at h;simp only[xW];rw[afE c h.1,NB cs h.2]
end
omit [GI] in
theorem acH {α:Type} {i j:Nat} {f:α->V} {l:List α} (h:∀ x,bI i (f x)=false):xW i j (l.map f)=l.map f:=NB _ (TJ i f h l)
attribute [simp] acH
end Go.Abs
namespace Go.Abs
variable [GI]
mutual
def Z3 (i:Nat) (blk:Blk):V->V
 | .ref k a b=>if k=i then .rp blk.s blk.es a b else .ref k a b
 | .sl k a n=>if k=i then (if a+n<=blk.es.length then .ro blk.s ((blk.es.drop a).take n) else .undef) else .sl k a n
 | .agg cs=>.agg (yu i blk cs)
 | .tup cs=>.tup (yu i blk cs)
 | .clo f cs=>.clo f (yu i blk cs)
 | .undef=>.undef
 | .v x=>.v x
 | .rp s es a b=>.rp s es a b
 | .ro s es=>.ro s es
 | .own s es=>.own s es
def yu (i:Nat) (blk:Blk):List V->List V
 | []=>[]
 | c::cs=>Z3 i blk c::yu i blk cs
end
attribute [simp] Z3 yu
section
variable {w : World} {D : Nat → Prop} {φ : Nat → Option Pl} {i : Nat} {blk : Blk} {f : List Nat}
omit [GI] in
mutual
theorem XV (hb:cM w D φ i blk f) (hi:aC blk.es=true) (ho:bb blk.es=true):∀ (v:V) (x:Value) (fp:List Nat),CV w D v φ x fp->CV w (fun b=>D b\/b ∈ f) (Z3 i blk v) φ x fp
 | .undef,x,fp,h=>by simpa [CV] using h
 | .v y,x,fp,h=>by simpa [CV] using h
 | .rp s es a b,x,fp,h=>c8 (fun _ h=>.inl h) (.rp s es a b) φ φ x fp (fun _ _=>rfl) (fun _ _=>rfl) h
 | .ro s es,x,fp,h=>c8 (fun _ h=>.inl h) (.ro s es) φ φ x fp (fun _ _=>rfl) (fun _ _=>rfl) h
 | .own s es,x,fp,h=>c8 (fun _ h=>.inl h) (.own s es) φ φ x fp (fun _ _=>rfl) (fun _ _=>rfl) h
 | .ref k a b,x,fp,h=>by
   by_cases e:k=i
   ·subst e;simp only[Z3,if_true];simp only[CV] at h ⊢;obtain ⟨rfl,p,hp,rfl⟩:=h;rcases hb with ⟨h1,_⟩ | ⟨q,arr,ty,f',h1,h2,h3,h4,h5,h6⟩
    ·rw[h1] at hp;cases hp
    ·rw[hp] at h1;cases h1;have hf:=x6 _ _ _ _ ho h6;subst hf;exact⟨rfl,p.b,p.o,arr,by rw[h2],.inr (by rw[h5];exact List.mem_cons_self),h4.blk,cr (fun _ h=>.inl h) _ _ _ _ _ _ (fun _ _=>rfl) (fun id hm=>by rw[cS id _ hi] at hm;cases hm) h6,hi⟩
   ·simp only[Z3,if_neg e];exact c8 (fun _ h=>.inl h) (.ref k a b) φ φ x fp (fun _ _=>rfl) (fun _ _=>rfl) h
 | .sl k a n,x,fp,h=>by
   by_cases e:k=i
   ·subst e;simp only[Z3,if_true];by_cases hle:a+n<=blk.es.length
    ·rw[if_pos hle];have hlen:((blk.es.drop a).take n).length=n:=by rw[List.length_take,List.length_drop];omega
     simp only[CV] at h ⊢;obtain ⟨rfl,⟨h1,rfl,rfl,rfl⟩ | ⟨p,o,cap,hp,rfl,hnc,hcm,hcap⟩⟩:=h
     ·exact⟨rfl,.inl ⟨by simp,none,0,rfl,Nat.zero_le _⟩⟩
     ·refine⟨rfl,?_⟩;by_cases hn:n=0
      ·subst hn;exact .inl ⟨by simp,_,cap,rfl,hcm⟩
      ·rcases hb with ⟨h1,_⟩ | ⟨q,arr,ty,f',h1,h2,h3,h4,h5,h6⟩
       ·rw[h1] at hp;cases hp
       ·rw[hp] at h1;cases h1;have hf:=x6 _ _ _ _ ho h6;subst hf;obtain ⟨ho',_⟩:=hcap.resolve_left (by omega);have hm:=cr (w:=w) (w':=w) (D:=D) (D':=fun b=>D b\/b ∈ f) (fun _ h=>.inl h) blk.s blk.es φ (fun _=>none) _ _ (fun _ _=>rfl) (fun id hm=>by rw[cS id _ hi] at hm;cases hm) h6;have h3':=A1 n (KL a hm);rw[List.drop_drop] at h3';refine .inr ⟨p.b,o,cap,arr,by rw[hlen],by rw[hlen];exact hnc,hcm,.inr (by rw[h5];exact List.mem_cons_self),h4.blk,?_,?_⟩
        ·rw[ho',h2];exact h3'
        ·exact W4 (W2 hi)
    ·rw[if_neg hle];simp only[CV] at h ⊢;exact h.1
   ·simp only[Z3,if_neg e];exact c8 (fun _ h=>.inl h) (.sl k a n) φ φ x fp (fun _ _=>rfl) (fun _ _=>rfl) h
 | .agg cs,x,fp,h=>by
   simp only[Z3,CV] at h ⊢;obtain ⟨xs,rfl,h⟩:=h;exact⟨xs,rfl,Qw hb hi ho cs _ _ h⟩
 | .tup cs,x,fp,h=>by
   simp only[Z3,CV] at h ⊢;obtain ⟨xs,rfl,h⟩:=h;exact⟨xs,rfl,Qw hb hi ho cs _ _ h⟩
 | .clo g cs,x,fp,h=>by
   simp only[Z3,CV] at h ⊢;obtain ⟨xs,rfl,h⟩:=h;exact⟨xs,rfl,Qw hb hi ho cs _ _ h⟩
theorem Qw (hb:cM w D φ i blk f) (hi:aC blk.es=true) (ho:bb blk.es=true):∀ (cs:List V) (xs:List Value) (fp:List Nat),cg w D cs φ xs fp->cg w (fun b=>D b\/b ∈ f) (yu i blk cs) φ xs fp
 | [],xs,fp,h=>by simpa [cg] using h
 | c::cs,xs,fp,h=>by
   simp only[yu,cg] at h ⊢;obtain ⟨x,xs',f1,f2,rfl,rfl,h1,h2⟩:=h;exact⟨x,xs',f1,f2,rfl,rfl,XV hb hi ho c _ _ h1,Qw hb hi ho cs _ _ h2⟩
end
omit [GI] in
theorem abs (hb:cM w D φ i blk f) (hi:aC blk.es=true) (ho:bb blk.es=true) {s:Nat}:∀ (cs:List V) (xs:List Value) (fp:List Nat),CR w D s cs φ xs fp->CR w (fun b=>D b\/b ∈ f) s (yu i blk cs) φ xs fp
 | [],xs,fp,h=>by simpa [CR] using h
 | c::cs,xs,fp,h=>by
   simp only[yu,CR] at h ⊢;obtain ⟨x,rest,f1,f2,rfl,hs,rfl,h1,h2⟩:=h;exact⟨x,rest,f1,f2,rfl,hs,rfl,XV hb hi ho c _ _ h1,abs hb hi ho cs _ _ h2⟩
def Yg (i:Nat) (blk:Blk) (b:Blk):Blk:=⟨b.s,yu i blk b.es⟩
attribute [simp] Yg
theorem RelD.frz {X:Ctx} {s s':St} {a:Act} {F:Nat->List Nat} {G:List Nat} (h:RelD X s a w D φ F G) (hbl:s.hp i=some blk) (hi:aC blk.es=true) (ho:bb blk.es=true) (hsl:∀ t,s'.sl t=Abs.Z3 i blk (s.sl t))
  (hhp:∀ k,s'.hp k=if k=i then none else (s.hp k).map (Yg i blk)):RelD X s' a w (fun b=>D b\/b ∈ F i) φ (fun k=>if k=i then [] else F k) G:=by
 have hb:=h.blks i blk hbl
 have sub:∀ k b,b ∈ (if k=i then [] else F k)->k≠i/\b ∈ F k:=fun k b hb=>by
  split at hb
  ·cases hb
  ·rename_i e;exact⟨e,hb⟩
 refine { h with Dup:=fun b hb=>.inl (h.Dup b hb),Ddn:=fun b hb=>?_,Dlt:=fun b hb=>?_,slots:=fun t=>?_,blks:=fun id b hb'=>?_,nob:=fun id hid=>?_,nodup:=fun id=>?_,sep:=fun k k' hkk b hb1 hb2=>?_,notD:=fun id b hb1=>?_,gsep:=fun k b hb1=>?_,gnotD:=fun b hb1=>?_,gi:=GI.mono h.gi (fun _ h=>.inl h) fun _ _=>rfl }
 ·rcases hb with hb | hb
  ·exact h.Ddn b hb
  ·exact .inr (h.notD i b hb).2.2
 ·rcases hb with hb | hb
  ·exact h.Dlt b hb
  ·exact(h.notD i b hb).2.1
 ·rw[hsl];exact XV hb hi ho _ _ _ (h.slots t)
 ·rw[hhp] at hb';by_cases e:id=i
  ·rw[if_pos e] at hb';cases hb'
  ·rw[if_neg e] at hb' ⊢;simp only[Option.map_eq_some_iff] at hb';obtain ⟨b0,hb0,rfl⟩:=hb';rcases h.blks id b0 hb0 with ⟨h1,⟨h2,h3⟩ | ⟨b,m,rfl,h3⟩⟩ | ⟨p,arr,ty,f',h1,h2,h3,h4,h5,h6⟩
   ·exact .inl ⟨h1,.inl ⟨by simp[h2],h3⟩⟩
   ·exact .inl ⟨h1,.inr ⟨b,m,rfl,h3⟩⟩
   ·exact .inr ⟨p,arr,ty,f',h1,h2,h3,h4,h5,abs hb hi ho _ _ _ h6⟩
 ·rw[hhp] at hid;by_cases e:id=i
  ·rw[if_pos e]
  ·rw[if_neg e] at hid ⊢;exact h.nob id (by simpa using hid)
 ·split
  ·exact List.nodup_nil
  ·exact h.nodup id
 ·obtain ⟨_,g1⟩:=sub k b hb1;obtain ⟨_,g2⟩:=sub k' b hb2;exact h.sep k k' hkk b g1 g2
 ·obtain ⟨g0,g1⟩:=sub id b hb1;have:=h.notD id b g1;exact⟨fun hd=>hd.elim this.1 (h.sep id i g0 b g1),this.2⟩
 ·obtain ⟨_,g1⟩:=sub k b hb1;exact h.gsep k b g1
 ·have:=h.gnotD b hb1;exact⟨fun hd=>hd.elim this.1 (fun hf=>h.gsep i b hf hb1),this.2⟩
end
def AS.frz (i:Nat) (blk:Blk) (s:AS):AS:={ s with sl:=s.sl.map fun p=>(p.1,Abs.Z3 i blk p.2),hp:=(HO i s.hp).map fun p=>(p.1,Yg i blk p.2) }
attribute [simp] AS.frz
omit [GI] in
theorem acd (i:Nat) (blk:Blk):∀ (l:List (Nat×V)) (t:Nat),lk (l.map fun p=>(p.1,Z3 i blk p.2)) t=Z3 i blk (lk l t)
 | [],t=>by simp[lk]
 | (k,v)::l,t=>by
   simp only[List.map_cons,lk];split
   ·rfl
   ·exact acd i blk l t
omit [GI] in
theorem Zx (i:Nat) (blk:Blk):∀ (l:List (Nat×Blk)) (k:Nat),bB (l.map fun p=>(p.1,Yg i blk p.2)) k=(bB l k).map (Yg i blk)
 | [],k=>by simp[bB]
 | (m,b)::l,k=>by
   simp only[List.map_cons,bB];split
   ·rfl
   ·exact Zx i blk l k
theorem Wk.frz {s:AS} (i:Nat) (blk:Blk) (hb:bB s.hp i=some blk) (hi:aC blk.es=true) (ho:bb blk.es=true):Wk s (s.frz i blk):=by
 refine⟨rfl,fun X a w hpin ⟨D,φ,F,h⟩=>?_⟩;refine⟨_,_,_,h.frz (i:=i) (blk:=blk) hb hi ho (fun t=>acd i blk s.sl t) (fun k=>?_)⟩;show bB ((HO i s.hp).map fun p=>(p.1,Yg i blk p.2)) k=_;rw[Zx,jW];unfold ca;split
 ·rfl
 ·rfl
omit [GI] in
@[simp] theorem afZ (i:Nat) (blk:Blk) (l:List Int):yu i blk (l.map I)=l.map I:=by induction l<;>simp_all
omit [GI] in
@[simp] theorem abS (i:Nat) (blk:Blk):∀ a b:List V,yu i blk (a++b)=yu i blk a++yu i blk b
 | [],b=>by simp
 | x::a,b=>by simp[abS i blk a b]
omit [GI] in
theorem Rw {α:Type} {i:Nat} {blk:Blk} {f:α->V}:∀ {l:List α},(∀ x,Abs.Z3 i blk (f x)=f x)->yu i blk (l.map f)=l.map f
 | [],_=>rfl
 | x::l,h=>by simp[h x,Rw (l:=l) h]
section
variable {w : World} {D : Nat → Prop} {φ : Nat → Option Pl} {i : Nat} {blk : Blk}
theorem RelD.roes {X:Ctx} {s s':St} {a:Act} {F:Nat->List Nat} {G:List Nat} (k:Nat) (hk:2<=k) (h:RelD X s a w D φ F G) (hbl:s.hp i=some blk) (hi:aC blk.es=true) (hsl:s'.sl=s.sl)
  (hhp:s'.hp=ca s.hp i (some ⟨blk.s,blk.es.map (aP (fun _=>none) k)⟩)):∃ D' F',RelD X s' a w D' φ F' G:=by
 rcases h.blks i blk hbl with ⟨h1,hE⟩ | ⟨p,arr,ty,f',h1,h2,h3,h4,h5,h6⟩
 ·have h2:blk.es.map (aP (fun _=>none) k)=blk.es:=by
   rcases hE with ⟨h2,_⟩ | ⟨b,m,rfl,_⟩
   ·rw[h2];rfl
   ·obtain ⟨k,rfl⟩:=Nat.exists_eq_add_of_le' hk;simp[bo,Qj,aP]
  have e:s'=s:=by
   cases s;cases s';simp only at hsl hhp hbl;subst hsl;congr 1;rw[hhp];funext j;by_cases ej:j=i
   ·subst ej;rw[bQ,hbl,h2]
   ·rw[bC _ _ ej]
  rw[e];exact⟨D,F,h⟩
 have hnd:=h.nodup i;rw[h5] at hnd;obtain ⟨hpf,hf'⟩:=List.nodup_cons.1 hnd;have hin:∀ b,b ∈ f'->b ∈ F i:=fun b hb=>by rw[h5];exact List.mem_cons_of_mem _ hb
 refine⟨fun b=>D b\/b ∈ f',fun j=>if j=i then [p.b] else F j,?_⟩
 have sub:∀ j b,b ∈ (if j=i then [p.b] else F j)->b ∈ F j/\b ∉ f':=fun j b hb=>by
  split at hb
  ·rename_i e;subst e;simp at hb;subst hb;exact⟨by rw[h5];exact List.mem_cons_self,hpf⟩
  ·rename_i e;exact⟨hb,fun hm=>h.sep j i e b hb (hin b hm)⟩
 have mono:∀ (v:V) (x:Value) (fp:List Nat),CV w D v φ x fp->CV w (fun b=>D b\/b ∈ f') v φ x fp:=fun v x fp hv=>c8 (fun _ h=>.inl h) v φ φ x fp (fun _ _=>rfl) (fun _ _=>rfl) hv;refine { h with Dup:=fun b hb=>.inl (h.Dup b hb),Ddn:=fun b hb=>?_,Dlt:=fun b hb=>?_,slots:=fun t=>by rw[hsl];exact mono _ _ _ (h.slots t),blks:=fun id b hb'=>?_,nob:=fun id hid=>?_,nodup:=fun id=>?_,sep:=fun j j' hjj b hb1 hb2=>?_,notD:=fun id b hb1=>?_,gsep:=fun j b hb1=>?_,gnotD:=fun b hb1=>?_,gi:=GI.mono h.gi (fun _ h=>.inl h) fun _ _=>rfl }
 ·rcases hb with hb | hb
  ·exact h.Ddn b hb
  ·exact .inr (h.notD i b (hin b hb)).2.2
 ·rcases hb with hb | hb
  ·exact h.Dlt b hb
  ·exact(h.notD i b (hin b hb)).2.1
 ·rw[hhp] at hb';by_cases e:id=i
  ·subst e;rw[bQ] at hb';simp only[Option.some.injEq] at hb';subst hb';rw[if_pos rfl];refine .inr ⟨p,arr,ty,[],h1,h2,h3,h4,rfl,?_⟩;have hm:=QG (w:=w) (D:=D) (φ:=φ) (D':=fun b=>D b\/b ∈ f') (ψ:=fun _=>none) (f:=aP (fun _=>none) k) (s:=blk.s) (fun v x fp hfp hv=>x9 (F:=fun _=>[]) (hp:=fun _=>none) (fun _ h=>.inl h) (by simp) (by simp) k φ (.inl rfl) v x fp hfp hv) blk.es _ f' (fun b hb=>.inr hb) h6;exact cr (fun _ h=>h) _ _ _ _ _ _ (fun _ _=>rfl) (fun id' hm'=>by rw[cS id' _ (jE (fH _ k) _)] at hm';cases hm') hm
  ·rw[bC _ _ e] at hb';rw[if_neg e];rcases h.blks id b hb' with h0 | ⟨p',arr',ty',f2,g1,g2,g3,g4,g5,g6⟩
   ·exact .inl h0
   ·exact .inr ⟨p',arr',ty',f2,g1,g2,g3,g4,g5,cr (fun _ h=>.inl h) _ _ _ _ _ _ (fun _ _=>rfl) (fun _ _=>rfl) g6⟩
 ·rw[hhp] at hid;by_cases e:id=i
  ·subst e;rw[bQ] at hid;cases hid
  ·rw[bC _ _ e] at hid;rw[if_neg e];exact h.nob id hid
 ·split
  ·exact List.nodup_cons.2 ⟨by simp,List.nodup_nil⟩
  ·exact h.nodup id
 ·exact h.sep j j' hjj b (sub j b hb1).1 (sub j' b hb2).1
 ·obtain ⟨g1,g2⟩:=sub id b hb1;have:=h.notD id b g1;exact⟨fun hd=>hd.elim this.1 g2,this.2⟩
 ·exact h.gsep j b (sub j b hb1).1
 ·have:=h.gnotD b hb1;exact⟨fun hd=>hd.elim this.1 (fun hm=>h.gsep i b (hin b hm) hb1),this.2⟩
theorem RelD.cut {X:Ctx} {s s':St} {a:Act} {F:Nat->List Nat} {G:List Nat} (n:Nat) (h:RelD X s a w D φ F G) (hbl:s.hp i=some blk) (ho:bb blk.es=true) (hsl:s'.sl=s.sl)
  (hhp:s'.hp=ca s.hp i (some ⟨blk.s,blk.es.take n⟩)):∃ F',RelD X s' a w D φ F' G:=by
 have hE:(∃ b m,blk=bo b m/\n=0/\φ i=none)\/∀ (f:List Nat),φ i=none->SE w blk f->SE w ⟨blk.s,blk.es.take n⟩ f:=by
  by_cases hx:∃ b m,blk=bo b m/\n=0/\φ i=none
  ·exact .inl hx
  ·refine .inr fun f hφ hf=>?_;rcases hf with ⟨h2,h3⟩ | ⟨b,m,rfl,h3⟩
   ·exact .inl ⟨by simp[h2],h3⟩
   ·cases n with
    | zero=>exact absurd ⟨b,m,rfl,rfl,hφ⟩ hx
    | succ n=>exact .inr ⟨b,m,by simp[bo],h3⟩
 rcases hE with ⟨b,m,rfl,rfl,hφ⟩ | hE
 ·have h1:=(h.release i).gsub (List.sublist_append_right (F i) G);have h2:=(show RelD X _ a w D φ _ ([]++G) from h1).settle_back i (by simp) ⟨WU b m,[]⟩ (.inl ⟨hφ,.inl ⟨rfl,rfl⟩⟩);refine⟨ca (ca F i []) i [],?_⟩
  have e:s'={ s with hp:=ca (ca s.hp i none) i (some ⟨WU b m,[]⟩) }:=by
   cases s;cases s';simp only at hsl hhp;subst hsl;congr 1;rw[hhp];funext j;unfold ca;split<;>simp_all [bo]
  rw[e];exact h2
 refine⟨F,?_⟩;refine { h with slots:=fun t=>by rw[hsl];exact h.slots t,blks:=fun id b hb'=>?_,nob:=fun id hid=>?_ }
 ·rw[hhp] at hb';by_cases e:id=i
  ·subst e;rw[bQ] at hb';simp only[Option.some.injEq] at hb';subst hb';rcases h.blks id blk hbl with ⟨h1,h2⟩ | ⟨p,arr,ty,f',h1,h2,h3,h4,h5,h6⟩
   ·exact .inl ⟨h1,hE _ h1 h2⟩
   ·have hf:=x6 _ _ _ _ ho h6;subst hf;exact .inr ⟨p,arr,ty,[],h1,h2,h3,h4,h5,A1 n h6⟩
  ·rw[bC _ _ e] at hb';exact h.blks id b hb'
 ·rw[hhp] at hid;by_cases e:id=i
  ·subst e;rw[bQ] at hid;cases hid
  ·rw[bC _ _ e] at hid;exact h.nob id hid
end
theorem Wk.roes {s:AS} (i k:Nat) {blk:Blk} (hb:bB s.hp i=some blk) (hi:aC blk.es=true) (hk:2<=k:=by decide):Wk s { s with hp:=(i,⟨blk.s,blk.es.map (aP (fun _=>none) k)⟩)::s.hp }:=by
 refine⟨rfl,fun X a w hpin ⟨D,φ,F,h⟩=>?_⟩;obtain ⟨D',F',h'⟩:=h.roes (s':=(AS.den { s with hp:=(i,⟨blk.s,blk.es.map (aP (fun _=>none) k)⟩)::s.hp })) k hk hb hi rfl (iH _ _ _);exact⟨D',φ,F',h'⟩
theorem Wk.cut {s:AS} (i n:Nat) {blk:Blk} (hb:bB s.hp i=some blk) (ho:bb blk.es=true):Wk s { s with hp:=(i,⟨blk.s,blk.es.take n⟩)::s.hp }:=by
 refine⟨rfl,fun X a w hpin ⟨D,φ,F,h⟩=>?_⟩;obtain ⟨F',h'⟩:=(h.cut (s':=(AS.den { s with hp:=(i,⟨blk.s,blk.es.take n⟩)::s.hp })) n hb ho rfl (iH _ _ _));exact⟨D,φ,F',h'⟩
end Go.Abs
namespace Go.Abs
variable [GI]
section
variable {w : World} {D : Nat → Prop} {φ : Nat → Option Pl} {F : Nat → List Nat}
omit [GI] in
mutual
theorem Ry {hp:Nat->Option Blk}:∀ (v:V) (p:Prop) (v':V) (ids:List Nat),gp hp v=some (p,v',ids)->bO v=true
 | .undef,p,v',ids,hg | .ref _ _ _,p,v',ids,hg | .own _ _,p,v',ids,hg | .clo _ _,p,v',ids,hg=>by simp[gp] at hg
 | .v _,p,v',ids,hg | .ro _ _,p,v',ids,hg | .rp _ _ _ _,p,v',ids,hg | .sl _ _ _,p,v',ids,hg=>by simp[bO]
 | .agg cs,p,v',ids,hg=>by
   simp only[gp] at hg;split at hg<;>simp only[Option.some.injEq,Prod.mk.injEq,reduceCtorEq] at hg;rename_i q vs ids' e;simp only[bO];exact EI cs _ _ _ e
 | .tup cs,p,v',ids,hg=>by
   simp only[gp] at hg;split at hg<;>simp only[Option.some.injEq,Prod.mk.injEq,reduceCtorEq] at hg;rename_i q vs ids' e;simp only[bO];exact EI cs _ _ _ e
theorem EI {hp:Nat->Option Blk}:∀ (cs:List V) (p:Prop) (vs:List V) (ids:List Nat),Ct hp cs=some (p,vs,ids)->bb cs=true
 | [],p,vs,ids,hg=>rfl
 | c::cs,p,vs,ids,hg=>by
   simp only[Ct] at hg;split at hg<;>simp only[Option.some.injEq,Prod.mk.injEq,reduceCtorEq] at hg;rename_i p1 v ids1 q vs' ids' e1 e2;simp only[bb,Bool.and_eq_true];exact⟨Ry c _ _ _ e1,EI cs _ _ _ e2⟩
end
omit [GI] in
mutual
theorem Rx {hp:Nat->Option Blk}:∀ (v:V) (p:Prop) (v':V) (ids:List Nat),gp hp v=some (p,v',ids)->bR v'=true
 | .undef,p,v',ids,hg | .ref _ _ _,p,v',ids,hg | .own _ _,p,v',ids,hg | .clo _ _,p,v',ids,hg=>by simp[gp] at hg
 | .v _,p,v',ids,hg | .ro _ _,p,v',ids,hg | .rp _ _ _ _,p,v',ids,hg=>by
   simp only[gp,Option.some.injEq,Prod.mk.injEq] at hg;obtain ⟨_,rfl,_⟩:=hg;rfl
 | .sl id i n,p,v',ids,hg=>by
   simp only[gp] at hg;split at hg
   ·split at hg
    ·simp only[Option.some.injEq,Prod.mk.injEq] at hg;obtain ⟨_,rfl,_⟩:=hg;rfl
    ·cases hg
   ·cases hg
 | .agg cs,p,v',ids,hg=>by
   simp only[gp] at hg;split at hg<;>simp only[Option.some.injEq,Prod.mk.injEq,reduceCtorEq] at hg;rename_i q vs ids' e;obtain ⟨_,rfl,_⟩:=hg;simp only[bR];exact EH cs _ _ _ e
 | .tup cs,p,v',ids,hg=>by
   simp only[gp] at hg;split at hg<;>simp only[Option.some.injEq,Prod.mk.injEq,reduceCtorEq] at hg;rename_i q vs ids' e;obtain ⟨_,rfl,_⟩:=hg;simp only[bR];exact EH cs _ _ _ e
theorem EH {hp:Nat->Option Blk}:∀ (cs:List V) (p:Prop) (vs:List V) (ids:List Nat),Ct hp cs=some (p,vs,ids)->aC vs=true
 | [],p,vs,ids,hg=>by
   simp only[Ct,Option.some.injEq,Prod.mk.injEq] at hg;obtain ⟨_,rfl,_⟩:=hg;rfl
 | c::cs,p,vs,ids,hg=>by
   simp only[Ct] at hg;split at hg<;>simp only[Option.some.injEq,Prod.mk.injEq,reduceCtorEq] at hg;rename_i p1 v ids1 q vs' ids' e1 e2;obtain ⟨_,rfl,_⟩:=hg;simp only[aC,Bool.and_eq_true];exact⟨Rx c _ _ _ e1,EH cs _ _ _ e2⟩
end
omit [GI] in
theorem abr {s:Nat}:∀ {es:List V} {xs:List Value} {f:List Nat} {i:Nat} {e:V},CR w D s es φ xs f->es[i]?=some e ->
  ∃ x f1 fi f2,f=f1++fi++f2/\CV w D e φ x fi/\∀ e' fe φ',(∀ id,a7 id (es.set i .undef)=true->φ' id=φ id)->CV w D e' φ' x fe->CR w D s (es.set i e') φ' xs (f1++fe++f2)
 | [],xs,f,i,e,h,he=>by simp at he
 | c::cs,xs,f,i,e,h,he=>by
   simp only[CR] at h;obtain ⟨x,rest,g1,g2,rfl,⟨hs,ho⟩,rfl,h1,h⟩:=h;cases i with
   | zero =>
     simp at he;subst he;refine⟨x,[],g1,g2,by simp,h1,fun e' fe φ' hφ he'=>?_⟩;simp only[List.set_cons_zero,CR];exact⟨x,rest,fe,g2,rfl,⟨hs,ho⟩,by simp,he',cr (fun _ hb=>hb) _ _ _ _ _ _ (fun _ _=>rfl) (fun id hm=>hφ id (by simp[a7,hm])) h⟩
   | succ i =>
     obtain ⟨y,f1,fi,f2,rfl,k2,k3⟩:=abr h (by simpa using he);refine⟨y,g1++f1,fi,f2,by simp,k2,fun e' fe φ' hφ he'=>?_⟩;simp only[List.set_cons_succ,CR];exact⟨x,rest,g1,f1++fe++f2,rfl,⟨hs,ho⟩,by simp,c8 (fun _ hb=>hb) _ _ _ _ _ (fun _ _=>rfl) (fun id hm=>hφ id (by simp[a7,hm])) h1,k3 e' fe φ' (fun id hm=>hφ id (by simp[a7,hm])) he'⟩
omit [GI] in
mutual
theorem XF (d:Nat):∀ (v:V) (k:Nat) (q:Nat×Blk),q ∈ (b9 d k v).2.1->∃ j,(k<=j/\j < (b9 d k v).2.2)/\q.1=d+1000 * j
 | .own s es,k,q,h=>by
   simp only[b9,List.mem_singleton] at h;exact⟨k,⟨Nat.le_refl _,by simp[b9]⟩,by rw[h]⟩
 | .agg cs,k,q,h=>by
   simp only[b9] at h ⊢;exact OD d cs k q h
 | .tup cs,k,q,h=>by
   simp only[b9] at h ⊢;exact OD d cs k q h
 | .undef,k,q,h | .v _,k,q,h | .ref _ _ _,k,q,h | .sl _ _ _,k,q,h | .rp _ _ _ _,k,q,h | .ro _ _,k,q,h | .clo _ _,k,q,h=>by simp[b9] at h
theorem OD (d:Nat):∀ (cs:List V) (k:Nat) (q:Nat×Blk),q ∈ (takes d k cs).2.1->∃ j,(k<=j/\j < (takes d k cs).2.2)/\q.1=d+1000 * j
 | [],k,q,h=>by simp[takes] at h
 | c::cs,k,q,h=>by
   simp only[takes,List.mem_append] at h ⊢;have hle1:=Vq d c k;have hle2:=Hq d cs (b9 d k c).2.2;rcases h with h | h
   ·obtain ⟨j,hj,e⟩:=XF d c k q h;exact⟨j,⟨hj.1,by omega⟩,e⟩
   ·obtain ⟨j,hj,e⟩:=OD d cs _ q h;exact⟨j,⟨by omega,hj.2⟩,e⟩
end
variable {X : Ctx} {s : St} {a : Act}
theorem RelD.fold (h:RelD X s a w D φ F []) {host i:Nat} {bh:Blk} (hb:s.hp host=some bh) {v:V} (hv:bh.es[i]?=some v) {p:Prop} {v':V} {ids:List Nat} (hg:gp s.hp v=some (p,v',ids)) (hp:p)
  (hnd:ids.Nodup) (hh:host ∉ ids) :
  ∃ F',RelD X { s with hp:=fun k=>if k ∈ ids then none else if k=host then some ⟨bh.s,bh.es.set i v'⟩ else s.hp k } a w D φ F' []:=by
 rcases h.blks host bh hb with ⟨_,e⟩ | ⟨p0,arr,ty,f',q1,q2,q3,q4,q5,q6⟩
 ·rw[e.get hv] at hg;simp[Qj,gp] at hg
 obtain ⟨x,f1,fi,f2,rfl,hx,hset⟩:=abr q6 hv;have hfi:fi=[]:=kh _ _ _ _ (Ry v p v' ids hg) hx;subst hfi;have hcv:=HD (F:=F) h.blks v x p v' ids hg hp hx;have hcv':CV w D v' φ x (ids.flatMap F):=c8 (fun _ hb=>hb) _ _ _ _ _ (fun _ _=>rfl) (fun id hm=>by rw[gx id v' (Rx v p v' ids hg)] at hm;cases hm) hcv;have hcr:=hset v' _ φ (fun _ _=>rfl) hcv'
 let F':Nat->List Nat:=fun k=>if k ∈ ids then [] else if k=host then p0.b::(f1++ids.flatMap F++f2) else F k
 have hF:∀ k b,b ∈ F' k->k ∉ ids/\∃ j,b ∈ F j/\(j=k\/(k=host/\j ∈ ids)):=by
  intro k b hbk;simp only[F'] at hbk;split at hbk
  ·simp at hbk
  ·rename_i hk;refine⟨hk,?_⟩;split at hbk
   ·rename_i e;subst e;rcases List.mem_cons.1 hbk with e | hm
    ·exact⟨k,by rw[q5,e];exact List.mem_cons_self,.inl rfl⟩
    ·rcases List.mem_append.1 hm with hm | hm
     ·rcases List.mem_append.1 hm with hm | hm
      ·exact⟨k,by rw[q5];simp[hm],.inl rfl⟩
      ·obtain ⟨j,hj,hbj⟩:=List.mem_flatMap.1 hm;exact⟨j,hbj,.inr ⟨rfl,hj⟩⟩
     ·exact⟨k,by rw[q5];simp[hm],.inl rfl⟩
   ·exact⟨k,hbk,.inl rfl⟩
 refine⟨F',{ h with blks:=fun k blk hbk=>?_,nob:=fun k hn=>?_,nodup:=fun k=>?_,sep:=fun k j hkj b hbk hbj=>?_,notD:=fun k b hbk=>?_,gsep:=fun k b hbk hm=>absurd hm List.not_mem_nil }⟩
 ·simp only[F'] at hbk ⊢;split at hbk
  ·cases hbk
  ·rename_i hk;rw[if_neg hk];split at hbk
   ·rename_i e;subst e;cases hbk;rw[if_pos rfl];exact .inr ⟨p0,arr,ty,_,q1,q2,q3,q4,rfl,hcr⟩
   ·rename_i e;rw[if_neg e];exact h.blks k blk hbk
 ·simp only[F'] at hn ⊢;split at hn
  ·rename_i hk;rw[if_pos hk]
  ·rename_i hk;rw[if_neg hk];split at hn
   ·cases hn
   ·rename_i e;rw[if_neg e];exact h.nob k hn
 ·simp only[F'];split
  ·exact List.nodup_nil
  ·split
   ·have hperm:(p0.b::(f1++ids.flatMap F++f2)).Perm (F host++ids.flatMap F):=by
     rw[q5];simp only[List.append_nil,List.cons_append];refine List.Perm.cons _ ?_;rw[List.append_assoc,List.append_assoc];exact List.Perm.append_left f1 List.perm_append_comm
    refine hperm.nodup_iff.2 (List.nodup_append.2 ⟨h.nodup host,cG h ids hnd,fun b hb1 c hc e=>?_⟩);subst e;obtain ⟨j,hj,hbj⟩:=List.mem_flatMap.1 hc;exact h.sep host j (fun e=>hh (e▸hj)) b hb1 hbj
   ·exact h.nodup k
 ·obtain ⟨hk,k',hk1,hk2⟩:=hF k b hbk;obtain ⟨hj,j',hj1,hj2⟩:=hF j b hbj
  have hne:k'≠j':=by
   intro e;subst e;rcases hk2 with rfl | ⟨rfl,hk2⟩
   ·rcases hj2 with rfl | ⟨rfl,hj2⟩
    ·exact hkj rfl
    ·exact hk hj2
   ·rcases hj2 with rfl | ⟨rfl,hj2⟩
    ·exact hj hk2
    ·exact hkj rfl
  exact h.sep k' j' hne b hk1 hj1
 ·obtain ⟨_,k',hk1,_⟩:=hF k b hbk;exact h.notD k' b hk1
theorem RelD.unfold (h:RelD X s a w D φ F []) {host i d:Nat} {bh:Blk} (hb:s.hp host=some bh) {v:V} (hv:bh.es[i]?=some v) (hni:bR v=true) (hro:cn v=true)
  (hf:∀ k,k < (b9 d 0 v).2.2->Fresh s (d+1000 * k)/\d+1000 * k ∉ X.pin) :
  ∃ φ' F',RelD X { s with hp:=ca (qV (ca s.hp host (some ⟨bh.s,bh.es.set i .undef⟩)) (b9 d 0 v).2.1) host (some ⟨bh.s,bh.es.set i (b9 d 0 v).1⟩) } a w D φ' F' []:=by
 rcases h.blks host bh hb with ⟨_,e⟩ | ⟨p0,arr,ty,f',q1,q2,q3,q4,q5,q6⟩
 ·rw[e.get hv] at hro;cases hro
 obtain ⟨x,f1,fi,f2,rfl,hx,hset⟩:=abr q6 hv;have hx':CV w D v (fun _=>none) x fi:=c8 (fun _ hb=>hb) _ _ _ _ _ (fun _ _=>rfl) (fun id hm=>by rw[gx id v hni] at hm;cases hm) hx;have hnodup:=h.nodup host;rw[q5] at hnodup
 have hperm:(p0.b::(f1++fi++f2)).Perm ((p0.b::(f1++f2))++fi):=by
  simp only[List.cons_append];refine List.Perm.cons _ ?_;rw[List.append_assoc,List.append_assoc];exact List.Perm.append_left f1 List.perm_append_comm
 have hnd2:=hperm.nodup_iff.1 hnodup;have hin:∀ b,b ∈ fi->b ∈ F host:=fun b hb=>by rw[q5];simp[hb]
 have hin2:∀ b,b ∈ p0.b::(f1++f2)->b ∈ F host:=fun b hb=>by
  rw[q5];simp only[List.mem_cons,List.mem_append] at hb ⊢;rcases hb with hb | hb | hb<;>simp[hb]
 have h1:RelD X { s with hp:=ca s.hp host (some ⟨bh.s,bh.es.set i .undef⟩) } a w D φ (ca F host (p0.b::(f1++f2))) (fi++[]):=by
  refine { h with blks:=fun k blk hbk=>?_,nob:=fun k hn=>?_,nodup:=fun k=>?_,sep:=fun k j hkj b hbk hbj=>?_,notD:=fun k b hbk=>?_,gnodup:=?_,gsep:=fun k b hbk hm=>?_,gnotD:=fun b hm=>?_ }
  ·by_cases e:k=host
   ·subst e;simp at hbk;subst hbk;rw[bQ];exact .inr ⟨p0,arr,ty,f1++f2,q1,q2,q3,q4,rfl,by simpa using hset .undef [] φ (fun _ _=>rfl) (by simp[CV])⟩
   ·rw[bC _ _ e];simp only[ca,e,if_false] at hbk;exact h.blks k blk hbk
  ·by_cases e:k=host
   ·subst e;simp at hn
   ·rw[bC _ _ e];simp only[ca,e,if_false] at hn;exact h.nob k hn
  ·by_cases e:k=host
   ·subst e;rw[bQ];exact(List.nodup_append.1 hnd2).1
   ·rw[bC _ _ e];exact h.nodup k
  ·have g1:b ∈ F k:=by
    by_cases e:k=host
    ·subst e;rw[bQ] at hbk;exact hin2 b hbk
    ·rw[bC _ _ e] at hbk;exact hbk
   have g2:b ∈ F j:=by
    by_cases e:j=host
    ·subst e;rw[bQ] at hbj;exact hin2 b hbj
    ·rw[bC _ _ e] at hbj;exact hbj
   exact h.sep k j hkj b g1 g2
  ·by_cases e:k=host
   ·subst e;rw[bQ] at hbk;exact h.notD k b (hin2 b hbk)
   ·rw[bC _ _ e] at hbk;exact h.notD k b hbk
  ·simpa using (List.nodup_append.1 hnd2).2.1
  ·simp only[List.append_nil] at hm;by_cases e:k=host
   ·subst e;rw[bQ] at hbk;exact(List.nodup_append.1 hnd2).2.2 b hbk b hm rfl
   ·rw[bC _ _ e] at hbk;exact h.sep k host e b hbk (hin b hm)
  ·simp only[List.append_nil] at hm;exact h.notD host b (hin b hm)
 have hset_ments:∀ k,a7 k bh.es=false->a7 k (bh.es.set i .undef)=false:=fun k hk=>Ol (by simp[bI]) hk;have hne:∀ k,Fresh s k->k≠host:=fun k hk e=>by rw[<- e,hk.no] at hb;cases hb
 obtain ⟨φ',F',t1,t2,t3⟩:=xd (d:=d) v 0 _ φ _ x fi [] hro h1 hx' (fun k _ hk=>by
  obtain ⟨g1,g2⟩:=hf k hk;refine⟨⟨g1.sl,fun id blk hbk=>?_,?_⟩,g2⟩
  ·by_cases e:id=host
   ·subst e;simp at hbk;subst hbk;exact hset_ments _ (g1.hp id bh hb)
   ·simp only[ca,e,if_false] at hbk;exact g1.hp id blk hbk
  ·simp only[ca,hne _ g1,if_false];exact g1.no)
 have h2:=t1.rel
 have hhost:qV (ca s.hp host (some ⟨bh.s,bh.es.set i .undef⟩)) (b9 d 0 v).2.1 host=some ⟨bh.s,bh.es.set i .undef⟩:=by
  have hall:∀ q ∈ (b9 d 0 v).2.1,q.1≠host:=by
   intro q hq;obtain ⟨k,hk,e⟩:=XF d v 0 q hq;rw[e];exact hne _ (hf k hk.2).1
  generalize (b9 d 0 v).2.1=l at hall
  have:∀ (l:List (Nat×Blk)) (f:Nat->Option Blk),(∀ q ∈ l,q.1≠host)->qV f l host=f host:=by
   intro l
   induction l with
   | nil=>intro f _;rfl
   | cons q l ih =>
     intro f hl;obtain ⟨j,b⟩:=q;simp only[qV];rw[ih _ (fun q hq=>hl q (List.mem_cons_of_mem _ hq)),bC _ _ (Ne.symm (hl (j,b) List.mem_cons_self))]
  rw[this l _ hall,bQ]
 have hφ:φ' host=φ host:=t1.same host fun k _ hk e=>hne _ (hf k hk).1 e.symm
 have hsetid:∀ id,a7 id (bh.es.set i .undef)=true->φ' id=φ id:=fun id hm=>t1.same id fun k _ hk e=>by
  subst e;rw[hset_ments _ ((hf k hk).1.hp host bh hb)] at hm;cases hm
 rcases h2.blks host _ hhost with ⟨e,_⟩ | ⟨p1,arr1,ty1,f3,r1,r2,r3,r4,r5,r6⟩
 ·rw[hφ,q1] at e;cases e
 ·rw[hφ,q1] at r1;cases r1;have q40:=q4;have r40:=r4;obtain ⟨_,_,q4'⟩:=q40;obtain ⟨_,_,r4'⟩:=r40;rw[r4'] at q4';cases q4';have hlt:i < bh.es.length:=(List.getElem?_eq_some_iff.1 hv).1;have hFh:F' host=p0.b::(f1++f2):=by rw[t1.sameF host fun k _ hk e=>hne _ (hf k hk).1 e.symm,bQ]
  refine⟨φ',F',{ h2 with blks:=fun k blk hbk=>?_,nob:=fun k hn=>?_ }⟩
  ·by_cases e:k=host
   ·subst e;simp at hbk;subst hbk;exact .inr ⟨p0,arr,ty,f1++f2,by rw[hφ];exact q1,q2,q3,q4,hFh,by simpa using hset (b9 d 0 v).1 [] φ' hsetid t2⟩
   ·simp only[ca,e,if_false] at hbk;exact h2.blks k blk hbk
  ·by_cases e:k=host
   ·subst e;simp at hn
   ·simp only[ca,e,if_false] at hn;exact h2.nob k hn
end
theorem Wk.fold {s:AS} (host i:Nat) {bh:Blk} {v:V} {p:Prop} {v':V} {ids:List Nat} (hb:bB s.hp host=some bh) (hv:bh.es[i]?=some v) (hg:gp (bB s.hp) v=some (p,v',ids)) (hp:p) (hnd:ids.Nodup) (hh:host ∉ ids) :
  Wk s { s with hp:=(host,⟨bh.s,bh.es.set i v'⟩)::Sb ids (HO host s.hp) }:=by
 refine⟨rfl,fun X a w _ ⟨D,φ,F,h⟩=>?_⟩;obtain ⟨F',h'⟩:=RelD.fold h (s:=s.den) hb hv hg hp hnd hh;refine⟨D,φ,F',?_⟩
 have e:({ s with hp:=(host,⟨bh.s,bh.es.set i v'⟩)::Sb ids (HO host s.hp) }:AS).den={ s.den with hp:=fun k=>if k ∈ ids then none else if k=host then some ⟨bh.s,bh.es.set i v'⟩ else s.den.hp k }:=by
  simp only[AS.den];congr 1;funext k;simp only[bB,Lx,jW,ca];by_cases e:k=host
  ·subst e;simp[hh]
  ·simp[e]
 rw[e];exact h'
theorem Wk.fold1 {s:AS} (host i id:Nat) {bh b:Blk} {n:Nat} (hb:bB s.hp host=some bh) (hi:bB s.hp id=some b) (hv:bh.es[i]?=some (.sl id 0 n)) (hn:n=b.es.length) (hni:aC b.es=true) (hh:host≠id) :
  Wk s { s with hp:=(host,⟨bh.s,bh.es.set i (.own b.s b.es)⟩)::Sb [id] (HO host s.hp) } :=
 Wk.fold host i (v':=.own b.s b.es) (ids:=[id]) (p:=0=0/\n=b.es.length) hb hv (by simp[gp,hi,hni]) ⟨rfl,hn⟩ (by simp) (by simpa using hh)
theorem Wk.unfold1 {s:AS} (host i d:Nat) {bh:Blk} {sz:Nat} {es:List V} (hb:bB s.hp host=some bh) (hv:bh.es[i]?=some (.own sz es)) (hf:s.fresh d=true) :
  Wk s { s with hp:=(host,⟨bh.s,bh.es.set i (.sl d 0 es.length)⟩)::(d,⟨sz,es⟩)::HO host s.hp }:=by
 refine⟨rfl,fun X a w hpin ⟨D,φ,F,h⟩=>?_⟩;obtain ⟨f1,f2⟩:=AS.fresh_ok hf
 obtain ⟨φ',F',h'⟩:=RelD.unfold (d:=d) h (s:=s.den) hb hv rfl rfl (fun k hk=>by
  simp only[b9,Nat.zero_add,Nat.lt_one_iff] at hk;subst hk;exact⟨f1,by rw[hpin];exact f2⟩)
 refine⟨D,φ',F',?_⟩
 have e:({ s with hp:=(host,⟨bh.s,bh.es.set i (.sl d 0 es.length)⟩)::(d,⟨sz,es⟩)::HO host s.hp }:AS).den =
   { s.den with hp:=ca (qV (ca s.den.hp host (some ⟨bh.s,bh.es.set i .undef⟩)) (b9 d 0 (.own sz es)).2.1) host (some ⟨bh.s,bh.es.set i (b9 d 0 (.own sz es)).1⟩) }:=by
  simp only[AS.den,b9,qV,Nat.mul_zero,Nat.add_zero];congr 1;funext k;simp only[bB,jW,ca];by_cases e:k=host
  ·simp[e]
  ·simp[e]
 rw[e];exact h'
omit [GI] in
theorem aef {w:World} {D:Nat->Prop} {φ:Nat->Option Pl} {s:Nat}:∀ (as_ bs:List V) (xs:List Value) (f:List Nat),pN as_ bs->CR w D s as_ φ xs f->CR w D s bs φ xs f
 | [],[],xs,f,_,h=>h
 | a::as_,b::bs,xs,f,h,hx=>by
   simp only[pN] at h;simp only[CR] at hx ⊢;obtain ⟨x,rest,f1,f2,h1,h2,h3,h4,h5⟩:=hx;exact⟨x,rest,f1,f2,h1,h2,h3,Yp a b x f1 h.1 h4,aef as_ bs rest f2 h.2 h5⟩
 | [],b::bs,xs,f,h,_=>by simp[pN] at h
 | a::as_,[],xs,f,h,_=>by simp[pN] at h
theorem Wk.le {s:AS} (host:Nat) {bh:Blk} (es':List V) (hb:bB s.hp host=some bh) (hle:pN bh.es es') :
  Wk s { s with hp:=(host,⟨bh.s,es'⟩)::HO host s.hp }:=by
 refine⟨rfl,fun X a w _ ⟨D,φ,F,h⟩=>⟨D,φ,F,?_⟩⟩
 have e:∀ k,bB ((host,⟨bh.s,es'⟩)::HO host s.hp) k=if k=host then some ⟨bh.s,es'⟩ else bB s.hp k:=fun k=>by
  simp only[bB,jW,ca];by_cases e:k=host
  ·subst e;simp
  ·simp[e]
 refine { h with blks:=fun k blk hk=>?_,nob:=fun k hk=>?_ }
 ·have hk':bB ((host,⟨bh.s,es'⟩)::HO host s.hp) k=some blk:=hk;rw[e] at hk';split at hk'
  ·rename_i ek;subst ek;cases hk';rcases h.blks k bh hb with ⟨g1,g2⟩ | ⟨p0,arr,ty,f',q1,q2,q3,q4,q5,q6⟩
   ·refine .inl ⟨g1,?_⟩;rcases g2 with ⟨g2,g3⟩ | ⟨b,m,rfl,g3⟩
    ·rw[g2] at hle;cases es' with
     | nil=>exact .inl ⟨rfl,g3⟩
     | cons x l=>simp[pN] at hle
    ·cases es' with
     | nil=>simp[pN,bo] at hle
     | cons x l =>
       cases l with
       | nil =>
         simp only[pN,bo,KK] at hle;rw[<- hle.1];exact .inr ⟨b,m,rfl,g3⟩
       | cons y l=>simp[pN,bo] at hle
   ·exact .inr ⟨p0,arr,ty,f',q1,q2,q3,q4,q5,aef _ _ _ _ hle q6⟩
  ·exact h.blks k blk hk'
 ·have hk':bB ((host,⟨bh.s,es'⟩)::HO host s.hp) k=none:=hk;rw[e] at hk';split at hk'
  ·cases hk'
  ·exact h.nob k hk'
end Go.Abs
namespace Go.Abs
variable [GI]
mutual
def S5:V->Prop
 | .ro _ es=>es.length<=9223372036854775807/\yJ es
 | .rp _ es _ _=>yJ es
 | .agg cs=>yJ cs
 | .v (.string b)=>b.size<=9223372036854775807
 | _=>True
def yJ:List V->Prop
 | []=>True
 | c::cs=>S5 c/\yJ cs
end
section
variable {w : World} {D : Nat → Prop}
omit [GI] in
mutual
theorem Y9:∀ (v:V) (φ:Nat->Option Pl) (x:Value) (fp:List Nat),CV w D v φ x fp->S5 v
 | .ro s es,φ,x,fp,h=>by
   simp only[CV] at h;obtain ⟨_,⟨rfl,_⟩ | ⟨b,o,cap,arr,_,h1,h2,_,_,h3,_⟩⟩:=h
   ·simp[S5,yJ]
   ·simp only[S5];exact⟨by unfold maxLen at h2;omega,Ud s es _ _ _ h3⟩
 | .rp s es i j,φ,x,fp,h=>by
   simp only[CV] at h;obtain ⟨_,b,o,arr,_,_,_,h3,_⟩:=h;simp only[S5];exact Ud s es _ _ _ h3
 | .agg cs,φ,x,fp,h=>by
   simp only[CV] at h;obtain ⟨xs,_,h⟩:=h;simp only[S5];exact QJ cs _ _ _ h
 | .v y,φ,x,fp,h=>by
   simp only[CV] at h;cases y<;>simp only[S5];have:=h.2.1;simpa [one] using this
 | .undef,φ,x,fp,h | .ref _ _ _,φ,x,fp,h | .sl _ _ _,φ,x,fp,h | .own _ _,φ,x,fp,h | .tup _,φ,x,fp,h | .clo _ _,φ,x,fp,h=>by simp[S5]
theorem QJ:∀ (cs:List V) (φ:Nat->Option Pl) (xs:List Value) (fp:List Nat),cg w D cs φ xs fp->yJ cs
 | [],φ,xs,fp,h=>trivial
 | c::cs,φ,xs,fp,h=>by
   simp only[cg] at h;obtain ⟨x,xs',f1,f2,_,_,h1,h2⟩:=h;exact⟨Y9 c _ _ _ h1,QJ cs _ _ _ h2⟩
theorem Ud (s:Nat):∀ (cs:List V) (φ:Nat->Option Pl) (xs:List Value) (fp:List Nat),CR w D s cs φ xs fp->yJ cs
 | [],φ,xs,fp,h=>trivial
 | c::cs,φ,xs,fp,h=>by
   simp only[CR] at h;obtain ⟨x,rest,f1,f2,_,_,_,h1,h2⟩:=h;exact⟨Y9 c _ _ _ h1,Ud s cs _ _ _ h2⟩
end
end
attribute [simp] S5 yJ
omit [GI] in
@[simp] theorem afi (l:List Int):yJ (l.map I):=by induction l<;>simp_all
omit [GI] in
theorem FnC.callable {P:Program} {f:Nat} {c:C} {rs:List RV} {n:Nat} (h:FnC P f c rs n):Abs.dk P f=true:=by
 obtain ⟨fn,code,ks,h1,h2,h3,_⟩:=h;simp[Abs.dk,h1,h2,h3]
theorem aa.lens {P:Program} {f:Nat} {args:List V} {res:V} (hc:dk P f=true) (h:yJ args->aa P f args res):aa P f args res :=
 ⟨hc,fun w D xs hD hg hxs=>(h (QJ _ _ _ _ hxs)).2 w D xs hD hg hxs⟩
theorem aa.ofL {P:Program} {f:Nat} {c:C} {rs:List RV} {n:Nat} {args:List V} {res:V} (hf:FnC P f c rs n) (hlen:args.length<=n) (h:yJ args->A0 P c (Ret rs res) (AS.init args)):aa P f args res :=
 aa.lens hf.callable fun hl=>aa.of hf hlen (h hl)
theorem aa.len {P:Program} {f:Nat} {c:C} {rs:List RV} {n:Nat} {args:List V} {res:V} (hf:FnC P f c rs n) (h:yJ args->aa P f args res):aa P f args res :=
 aa.lens hf.callable h
end Go.Abs
namespace Go.Abs
open Go.RowKit
variable [GI]
omit [GI] in
theorem Grow.same (w:World) (D:Nat->Prop) (hD:∀ b,D b->b < w.heap.size):Grow w D [] w D :=
 ⟨rfl,rfl,rfl,Nat.le_refl _,fun _ _ _=>rfl,fun _ h=>h,fun _ h=>.inl h,hD⟩
omit [GI] in
theorem x8 {w:World} {D:Nat->Prop}:∀ {vs xs:List Value},cg w D (vs.map .v) (fun _=>none) xs []->xs=vs
 | [],xs,h=>by simp only[List.map_nil,cg] at h;exact h.1
 | v::vs,xs,h=>by
   simp only[List.map_cons,cg] at h;obtain ⟨x,xs',f1,f2,rfl,hf,h1,h2⟩:=h;have hf:=List.append_eq_nil_iff.1 hf.symm;obtain ⟨rfl,rfl⟩:=hf;simp only[CV] at h1;rw[h1.1,x8 h2]
theorem aa.same {P:Program} {f:Nat} {vs:List Value} {res:V} {y:Value} (hc:dk P f=true) (hr:∀ w D,CV w D res (fun _=>none) y [])
  (h:∀ (w:World) (D:Nat->Prop),GI.holds w D->Calls P f vs.toArray w fun e w'=>e=.returned y/\w'=w):aa P f (vs.map .v) res:=by
 refine⟨hc,fun w D xs hD hg hxs=>?_⟩;obtain rfl:=x8 hxs;refine(h w D hg).mono ?_;rintro e w' ⟨rfl,rfl⟩;exact⟨y,D,[],rfl,Grow.same _ _ hD,hr _ _,List.nodup_nil,by simp⟩
theorem aa.drawn {P:Program} {f:Nat} {vs:List Value} {res:V} {y:Value} (hc:dk P f=true) (hr:∀ w D,CV w D res (fun _=>none) y [])
  (h:∀ (w:World) (D:Nat->Prop),GI.holds w D->Calls P f vs.toArray w fun e w'=>e=.returned y/\w'.os=w.os/\w'.tape=w.tape/\w'.output=w.output/\w'.heap=w.heap):aa P f (vs.map .v) res:=by
 refine⟨hc,fun w D xs hD hg hxs=>?_⟩;obtain rfl:=x8 hxs;refine(h w D hg).mono ?_;rintro e w' ⟨rfl,h1,h2,h3,h4⟩;exact⟨y,D,[],rfl,⟨h1,h2,h3,by rw[h4];exact Nat.le_refl _,fun _ _ _=>by rw[h4],fun _ h=>h,fun _ h=>.inl h,by rw[h4];exact hD⟩,hr _ _,List.nodup_nil,by simp⟩
theorem aa.grown {P:Program} {f:Nat} {vs:List Value} {res:V} {y:Value} (hc:dk P f=true) (hr:∀ w D,CV w D res (fun _=>none) y [])
  (h:∀ (w:World) (D:Nat->Prop),GI.holds w D->Calls P f vs.toArray w fun e w'=>e=.returned y/\∃ k os,w'=Sort.grow (w.drewN k) os):aa P f (vs.map .v) res:=by
 refine⟨hc,fun w D xs hD hg hxs=>?_⟩;obtain rfl:=x8 hxs;refine(h w D hg).mono ?_;rintro e w' ⟨rfl,k,os,rfl⟩
 have hb:∀ b,b < w.heap.size->(Sort.grow (w.drewN k) os).heap[b]?=w.heap[b]?:=fun b hb=>by
  show (w.heap++os)[b]?=_;rw[Array.getElem?_append_left hb]
 refine⟨y,D,[],rfl,⟨rfl,rfl,rfl,?_,fun b hb' _=>hb b hb',fun _ h=>h,fun _ h=>.inl h,fun b hb'=>?_⟩,hr _ _,List.nodup_nil,by simp⟩
 ·show w.heap.size<=(w.heap++os).size;simp
 ·show b < (w.heap++os).size;have:=hD b hb';simp;omega
omit [GI] in
theorem Grow.of_below {w w':World} {D:Nat->Prop} (hD:∀ b,D b->b < w.heap.size) (h:Below w.heap.size w w'):Grow w D [] w' D :=
 ⟨h.os,h.tape,h.output,h.size,fun b hb _=>h.block b hb,fun _ h=>h,fun _ h=>.inl h,fun b hb=>Nat.lt_of_lt_of_le (hD b hb) h.size⟩
theorem aa.below {P:Program} {f:Nat} {vs:List Value} {res:V} {y:Value} (hc:dk P f=true) (hr:∀ w D,CV w D res (fun _=>none) y [])
  (h:∀ (w:World) (D:Nat->Prop),GI.holds w D->Calls P f vs.toArray w fun e w'=>e=.returned y/\Below w.heap.size w w'):aa P f (vs.map .v) res:=by
 refine⟨hc,fun w D xs hD hg hxs=>?_⟩;obtain rfl:=x8 hxs;refine(h w D hg).mono ?_;rintro e w' ⟨rfl,hb⟩;exact⟨y,D,[],rfl,Grow.of_below hD hb,hr _ _,List.nodup_nil,by simp⟩
omit [GI] in
theorem QH {w:World} {D:Nat->Prop} {φ:Nat->Option Pl}:∀ (l:List (List UInt8)) (xs:List Value) (f:List Nat),CR w D 1 (l.map S) φ xs f->∀ (j:Nat) (x:List UInt8),l[j]?=some x->xs[j]?=some (.string (bs x))
 | [],xs,f,_,j,x,hj=>by simp at hj
 | a::l,xs,f,h,j,x,hj=>by
   simp only[List.map_cons,CR] at h;obtain ⟨v,rest,f1,f2,rfl,_,_,h1,h2⟩:=h;have hv:v=.string (bs a):=by simp only[CV] at h1;exact h1.1
   subst hv;have hc:(Value.string (bs a)).cells.toList=[Value.string (bs a)]:=rfl;rw[hc];cases j with
   | zero=>simp at hj;subst hj;simp
   | succ j=>simpa using QH l rest f2 h2 j x (by simpa using hj)
theorem aa.belowRow {P:Program} {f:Nat} {l:List (List UInt8)} {vs:List Value} {res:V} {y:Value} (hc:dk P f=true) (hr:∀ w D,CV w D res (fun _=>none) y [])
  (h0:l=[]->∀ (w:World) (D:Nat->Prop) (a:Option Addr) (c:Nat),GI.holds w D->Calls P f (.slice a 0 c::vs).toArray w fun e w'=>e=.returned y/\Below w.heap.size w w')
  (h:∀ (w:World) (D:Nat->Prop) (b o c:Nat),GI.holds w D->(∀ (j:Nat) x,l[j]?=some x->w.cell? ⟨b,o+j,none⟩=some (.string (bs x)))->b < w.heap.size->l.length<=c ->
   Calls P f (.slice (some ⟨b,o,none⟩) l.length c::vs).toArray w fun e w'=>e=.returned y/\Below w.heap.size w w'):aa P f (.ro 1 (l.map S)::vs.map .v) res:=by
 refine⟨hc,fun w D xs hD hg hxs=>?_⟩;simp only[cg] at hxs;obtain ⟨x,xs',f1,f2,rfl,hf,hx,hv⟩:=hxs;obtain ⟨rfl,rfl⟩:=List.append_eq_nil_iff.1 hf.symm;obtain rfl:=x8 hv
 have SC:∀ (e:Ending) (w':World),(e=.returned y/\Below w.heap.size w w')->∃ y D' fp,e=.returned y/\Grow w D [] w' D'/\CV w' D' res (fun _=>none) y fp/\fp.Nodup/\∀ b,b ∈ fp->w.heap.size<=b/\b < w'.heap.size/\¬D' b:=by
  rintro e w' ⟨rfl,hb⟩;exact⟨y,D,[],rfl,Grow.of_below hD hb,hr _ _,List.nodup_nil,by simp⟩
 simp only[CV] at hx;obtain ⟨_,⟨h1,a,c,rfl,_⟩ | ⟨b,o,c,arr,rfl,h2,_,h4,h5,h6,_⟩⟩:=hx
 ·exact(h0 (by simpa using h1) w D a c hg).mono SC
 ·rw[List.length_map] at h2 ⊢;refine(h w D b o c hg (fun j x hj=>?_) (hD b h4) h2).mono SC;have:=QH l _ _ h6 j x hj;rw[List.getElem?_drop] at this;rw[jR h5];simpa using this
end Go.Abs
namespace Go.Abs
section
variable [GI] {P : Program} {f d i : Nat} {args args' vs : List V} {res : V} {x : Value} {s : AS} {K : AS → Prop} {c : CO} {next : It → AS → Prop} {H0 : List Blk} {H1 : List (Option Blk)}
theorem aa.ag (h:aa P f args res) (e:args'=args:=by simp):aa P f args' res:=aa.arg h e
theorem aa.at (h:aa P f args res) (e:args'=args:=by simp[List.take_of_length_le]):aa P f args' res:=aa.arg h e
theorem ac.ag (h:ac P f H0 args res H1) (e:args'=args:=by simp):ac P f H0 args' res H1:=ac.arg h e
theorem bN (h:aa P f (vs.map (aP (bB s.hp) 6)) res) (h4:K (s.took d res)) (h1:cn res=true:=by rfl) (h2:fx res=true:=by simp)
  (h3:(List.range (b9 d 0 res).2.2).all (fun i=>s.fresh (d+1000 * i))=true:=by simp):nT P f vs s d K:=km h h1 (.inl h2) h3 h4
theorem Lg (h:aa P f (vs.map (aP (bB s.hp) 6)) res) (h4:K (s.took d res)) (h1:cn res=true:=by rfl) (h2:aC vs=true/\bb vs=true:=by simp)
  (h3:(List.range (b9 d 0 res).2.2).all (fun i=>s.fresh (d+1000 * i))=true:=by simp):nT P f vs s d K:=km h h1 (.inr h2) h3 h4
theorem bJ (M Z:List Nat) (h:ac P f H0 (vs.map (my M (jm Z (bB s.hp)) 6)) res H1) (h8:K (((s.sunk Z).wrote M H1).took d res))
  (h1:M.Nodup:=by simp) (hz:(Z.all fun z=>!M.contains z)=true:=by simp) (h2:M.map (bB s.hp)=H0.map some:=by simp) (h3:∀ blk ∈ H0,aC blk.es=true:=by simp) (h4:jG H1=true:=by simp) (h5:cn res=true:=by first | rfl | simp)
  (h7:(List.range (b9 d 0 res).2.2).all (fun i=>((s.sunk Z).wrote M H1).fresh (d+1000 * i))=true:=by simp):nT P f vs s d K:=VO M Z h h1 hz h2 h3 h4 h5 h7 h8
theorem bu (h:aa P f (vs.map (aP (bB s.hp) 6)) (.v x)) (h3:next ⟨c,xZ d (.v x),i,iS c s⟩ (s.put (some d) (.v x))) (h1:bb vs=true:=by simp)
  (h2:(cc vs).all (fun id=>match bB s.hp id with | some b=>dB b.es | none=>true)=true:=by simp):uX P f vs s d c i next:=mr h h1 h2 h3
theorem ft (h:aa P f (vs.map (aP (bB s.hp) 6)) res) (h3:next ⟨c,xZ d res,i,iS c s⟩ (s.took d res)) (h0:cn res=true:=by rfl) (hr:fx res=true:=by simp) (h1:bb vs=true:=by simp)
  (h2:(cc vs).all (fun id=>match bB s.hp id with | some b=>dB b.es | none=>true)=true:=by simp):uX P f vs s d c i next:=abE h h0 (.inl hr) h1 h2 h3
omit [GI] in
theorem am {n:Int} (h : -9223372036854775808<=n/\n<=9223372036854775807):IntKind.i64.wrap n=n:=afK h.1 h.2
theorem Wk.li {s s':AS} (hp:s'.pin=s.pin:=by rfl) (h1:∀ p ∈ s'.sl,lk s.sl p.1=p.2:=by simp) (h2:∀ p ∈ s'.hp,bB s.hp p.1=some p.2:=by simp):Wk s s':=Wk.list hp h1 h2
end
end Go.Abs
namespace Go.Proofs.YtjkogbgbienloaaGreatDoor
open Go.Abs
open Tryz
def fu (n lo hi:Int):Bool:=decide (lo<=n)&&decide (n<=hi)
theorem bH {n lo hi:Int}:fu n lo hi=true↔lo<=n/\n<=hi:=by simp[fu]
theorem Zr {n lo hi:Int}:fu n lo hi=false↔n < lo\/hi < n:=by
 rw[<- Bool.not_eq_true,bH];omega
theorem fJ (n lo hi:Int):cJ cP [I n,I lo,I hi] (B (fu n lo hi)):=by
 refine aa.of V1 (by simp) ?_;simp[QR,LS,LU,fu];omega
theorem nM (n lo hi:Int):cJ eJ [I n,I lo,I hi] (B (fu n lo hi)):=by
 refine aa.of Z0 (by simp) ?_;simp[VM,R7,R8,fu];omega
theorem br {α:Type} {l:List α} {i:Nat} (h:i < l.length):l.take (i+1)=l.take i++[l[i]]:=by simp
theorem RA {β:Type} {xs:List β} {z:β} {n i:Nat} (hx:xs.length=i) (h:i < n):(xs++List.replicate (n - i) z)[i]?=some z:=by
 rw[List.getElem?_append_right (by omega),hx,Nat.sub_self,List.getElem?_replicate,if_pos (by omega)]
theorem Lp {β:Type} {xs:List β} {z v:β} {n i:Nat} (hx:xs.length=i) (h:i < n):(xs++List.replicate (n - i) z).set i v=(xs++[v])++List.replicate (n - (i+1)) z:=by
 rw[List.set_append_right _ _ (by omega),hx,Nat.sub_self];obtain ⟨m,e⟩:∃ m,n - i=m+1:=⟨n - i - 1,by omega⟩;rw[e,List.replicate_succ,List.set_cons_zero,show n - (i+1)=m from by omega];simp
theorem bV {β:Type} {xs ys:List β} {v w:β} {i:Nat} (hx:xs.length=i):(xs++v::ys).set i w=xs++w::ys:=by subst hx;simp
theorem bU {β:Type} {xs ys:List β} {v:β} {i:Nat} (hx:xs.length=i):(xs++v::ys)[i]?=some v:=by subst hx;simp
theorem HV {α:Type} {p:α->Bool} {l:List α} {i:Nat} (h:i < l.length):(l.take (i+1)).all p=((l.take i).all p&&p l[i]):=by
 rw[br h,List.all_append];simp only[List.all_cons,List.all_nil,Bool.and_true]
theorem Th {α:Type} {p:α->Bool} {l:List α} {i:Nat} (h:i < l.length) (hp:p l[i]=false):l.all p=false:=by
 rw[<- Bool.not_eq_true,List.all_eq_true];intro h';rw[h' _ (List.getElem_mem h)] at hp;cases hp
def gJ {α:Type} (l:List (List α)):Nat:=(l.map List.length).sum
@[simp] theorem T5 {α:Type}:gJ ([]:List (List α))=0:=rfl
@[simp] theorem KI {α:Type} (r:List α) (l:List (List α)):gJ (r::l)=r.length+gJ l:=by simp[gJ]
@[simp] theorem Cb {α:Type} (a b:List (List α)):gJ (a++b)=gJ a+gJ b:=by simp[gJ]
theorem JS {α:Type} (l:List (List α)) (i:Nat):gJ (l.take i)<=gJ l:=by
 have:gJ l=gJ (l.take i)+gJ (l.drop i):=by rw[<- Cb,List.take_append_drop]
 omega
def rest (left:Int) (n:Nat):Int:=if left - n < 0 then -1 else left - n
theorem oz (q:Nat->Bool) (i:Nat):(List.range (i+1)).all q=((List.range i).all q&&q i):=by
 simp only[List.range_succ,List.all_append,List.all_cons,List.all_nil,Bool.and_true]
theorem Eg {q:Nat->Bool} {n i:Nat} (h:i < n) (hq:q i=false):(List.range n).all q=false:=by
 rw[<- Bool.not_eq_true,List.all_eq_true];intro h';rw[h' i (List.mem_range.2 h)] at hq;cases hq
def D8 {α:Type} (p:α->Bool) (x:α) (l:List α):List α:=l.take (l.length - (l.reverse.takeWhile p).length)++x::l.drop (l.length - (l.reverse.takeWhile p).length)
theorem QA {α:Type} {p:α->Bool} {x:α} {l:List α} {j:Nat} (hj:j<=l.length) (h1:∀ q (h:q < l.length),j<=q->p l[q]=true) (h2:∀ h:0 < j,p (l[j - 1]'(by omega))=false) :
  D8 p x l=l.take j++x::l.drop j:=by
 have e:(l.reverse.takeWhile p).length=l.length - j:=by
  have h0:l.reverse=(l.drop j).reverse++(l.take j).reverse:=by rw[<- List.reverse_append,List.take_append_drop]
  have h3:∀ a ∈ (l.drop j).reverse,p a=true:=by
   intro a ha;rw[List.mem_reverse] at ha;obtain ⟨q,hq,rfl⟩:=List.getElem_of_mem ha;rw[List.getElem_drop];exact h1 _ _ (by omega)
  have h4:(l.take j).reverse.takeWhile p=[]:=by
   cases j with
   | zero=>simp
   | succ j =>
     have:=h2 (by omega);rw[List.take_succ_eq_append_getElem (by omega),List.reverse_append];simp only[Nat.add_sub_cancel] at this;simp[this]
  rw[h0,List.takeWhile_append_of_pos h3,h4];simp
 unfold D8;rw[e,show l.length - (l.length - j)=j by omega]
theorem ab0 {α:Type} (p:α->Bool) (x:α) (l:List α):(D8 p x l).length=l.length+1:=by
 unfold D8;generalize l.length - (l.reverse.takeWhile p).length=k;rw[List.length_append,List.length_cons,List.length_take,List.length_drop];omega
theorem ab2 {α:Type} {p:α->Bool} {x y:α} {l:List α}:y ∈ D8 p x l↔y=x\/y ∈ l:=by
 unfold D8;generalize l.length - (l.reverse.takeWhile p).length=k;rw[List.mem_append,List.mem_cons]
 conv=>rhs;rw[<- List.take_append_drop k l,List.mem_append]
 constructor
 ·rintro (h | h | h)
  ·exact .inr (.inl h)
  ·exact .inl h
  ·exact .inr (.inr h)
 ·rintro (h | h | h)
  ·exact .inr (.inl h)
  ·exact .inl h
  ·exact .inr (.inr h)
theorem DZ {α:Type} {p q:α->Bool}:∀ {l:List α},(∀ y ∈ l,p y=q y)->l.takeWhile p=l.takeWhile q
 | [],_=>rfl
 | x::l,h=>by
   rw[List.takeWhile_cons,List.takeWhile_cons,h x (by simp),DZ fun y hy=>h y (by simp[hy])]
theorem Yk {α:Type} {p q:α->Bool} {x:α} {l:List α} (h:∀ y ∈ l,p y=q y):D8 p x l=D8 q x l:=by
 unfold D8;rw[DZ (q:=q) fun y hy=>h y (List.mem_reverse.1 hy)]
theorem ab1 {α β:Type} (f:β->α) (p:α->Bool) (x:β) (l:List β):D8 p (f x) (l.map f)=(D8 (fun y=>p (f y)) x l).map f:=by
 have e:((l.map f).reverse.takeWhile p).length=(l.reverse.takeWhile fun y=>p (f y)).length:=by
  rw[<- List.map_reverse,List.takeWhile_map,List.length_map];rfl
 unfold D8;rw[e,List.length_map,List.map_append,List.map_cons,List.map_take,List.map_drop]
def js {α:Type} (lt:α->α->Bool) (l:List α):List α:=l.foldl (fun acc x=>D8 (lt x) x acc) []
theorem iD {α:Type} (lt:α->α->Bool) (l:List α) (x:α):js lt (l++[x])=D8 (lt x) x (js lt l):=by
 unfold js;rw[List.foldl_append];rfl
theorem kY {α:Type} {P:List α->Prop} (h0:P []) (h1:∀ l x,P l->P (l++[x])) (l:List α):P l:=by
 have:∀ n (l:List α),l.length=n->P l:=by
  intro n
  induction n with
  | zero=>intro l h;rw[List.length_eq_zero_iff.1 h];exact h0
  | succ n ih =>
    intro l h;have hne:l≠[]:=by rintro rfl;simp at h
    rw[<- List.dropLast_concat_getLast hne];exact h1 _ _ (ih _ (by rw[List.length_dropLast];omega))
 exact this _ l rfl
theorem sH {α:Type} (lt:α->α->Bool) (l:List α):(js lt l).length=l.length:=by
 induction l using kY with
 | h0=>rfl
 | h1 l x ih=>rw[iD,ab0,ih,List.length_append];rfl
theorem AY {α:Type} {lt:α->α->Bool} {l:List α} {y:α}:y ∈ js lt l↔y ∈ l:=by
 induction l using kY with
 | h0=>rfl
 | h1 l x ih =>
   rw[iD,ab2,ih,List.mem_append,List.mem_singleton];exact Or.comm
theorem aaO {α β:Type} (f:β->α) (lt:α->α->Bool) (l:List β):js lt (l.map f)=(js (fun a b=>lt (f a) (f b)) l).map f:=by
 induction l using kY with
 | h0=>rfl
 | h1 l x ih=>rw[List.map_append,List.map_cons,List.map_nil,iD,ih,ab1,iD]
theorem YQ {α:Type} {lt:α->α->Bool} (h:∀ x y,lt x y=false) (l:List α):js lt l=l:=by
 induction l using kY with
 | h0=>rfl
 | h1 l x ih =>
   rw[iD,ih,QA (Nat.le_refl _) (fun q h1 h2=>by omega) (fun _=>h _ _)];simp
def gj {α:Type} (sz:α->Nat) (p:List α):Nat:=(p.map sz).sum
theorem Sn {α:Type} (sz:α->Nat) (p:List α) (x:α):gj sz (p++[x])=gj sz p+sz x:=by simp[gj]
def eF {α:Type} (sz:α->Nat) (h:Nat):List (List α)->List α->List α->Option (List (List α))
 | done,cur,[]=>some (if cur.isEmpty then done else done++[cur])
 | done,cur,x::xs=>if h < sz x then none else if cur.isEmpty then eF sz h done [x] xs else if h < gj sz cur+sz x then eF sz h (done++[cur]) [x] xs else eF sz h done (cur++[x]) xs
def pQ {α:Type} (sz:α->Nat) (h:Nat) (l:List α):Option (List (List α)):=eF sz h [] [] l
theorem BC {α β:Type} (f:β->α) (sz:α->Nat) (h:Nat):∀ (l:List β) (done:List (List β)) (cur:List β),eF sz h (done.map (·.map f)) (cur.map f) (l.map f)=(eF (fun b=>sz (f b)) h done cur l).map (·.map (·.map f))
 | [],done,cur=>by
   cases cur<;>simp[eF]
 | x::xs,done,cur=>by
   have e:gj sz (cur.map f)=gj (fun b=>sz (f b)) cur:=by simp[gj,Function.comp_def]
   have e0:(cur.map f).isEmpty=cur.isEmpty:=by cases cur<;>rfl
   rw[List.map_cons,eF,eF,e,e0];have h1:=BC f sz h xs done [x];have h2:=BC f sz h xs (done++[cur]) [x];have h3:=BC f sz h xs done (cur++[x]);simp only[List.map_append,List.map_cons,List.map_nil] at h1 h2 h3;split
   ·rfl
   split
   ·exact h1
   split
   ·exact h2
   ·exact h3
theorem aaB {α β:Type} (f:β->α) (sz:α->Nat) (h:Nat) (l:List β):pQ sz h (l.map f)=(pQ (fun b=>sz (f b)) h l).map (·.map (·.map f)):=BC f sz h l [] []
theorem vo {α:Type} {sz:α->Nat} {h:Nat}:∀ (l:List α) (done:List (List α)) (cur:List α) (ps:List (List α)),eF sz h done cur l=some ps->ps.flatten=done.flatten++cur++l
 | [],done,cur,ps,e=>by
   rw[eF] at e;cases cur with
   | nil=>simp at e;simp[<- e]
   | cons a t=>simp at e;simp[<- e]
 | x::xs,done,cur,ps,e=>by
   rw[eF] at e;split at e
   ·cases e
   split at e
   ·rename_i hc;rw[vo xs _ _ ps e];rw[List.isEmpty_iff.1 hc];simp
   split at e
   ·rw[vo xs _ _ ps e];simp
   ·rw[vo xs _ _ ps e];simp
theorem R2 {α:Type} {sz:α->Nat} {h:Nat} {l:List α} {ps:List (List α)} (e:pQ sz h l=some ps):ps.flatten=l:=by
 have:=vo _ _ _ _ e;simpa using this
theorem HM {α:Type} {sz:α->Nat} {h:Nat}:∀ (l:List α) (done:List (List α)) (cur:List α) (ps:List (List α)),(∀ p ∈ done,p≠[]/\gj sz p<=h)->gj sz cur<=h->eF sz h done cur l=some ps->∀ p ∈ ps,p≠[]/\gj sz p<=h
 | [],done,cur,ps,hd,hc,e=>by
   rw[eF] at e;cases cur with
   | nil=>simp at e;rw[<- e];exact hd
   | cons a t =>
     simp at e;rw[<- e];intro p hp;rw[List.mem_append,List.mem_singleton] at hp;rcases hp with hp | rfl
     ·exact hd p hp
     ·exact⟨by simp,hc⟩
 | x::xs,done,cur,ps,hd,hc,e=>by
   rw[eF] at e;split at e
   ·cases e
   split at e
   ·exact HM xs _ _ ps hd (by simp[gj];omega) e
   split at e
   ·rename_i hx hce _;refine HM xs _ _ ps (fun p hp=>?_) (by simp[gj];omega) e;rw[List.mem_append,List.mem_singleton] at hp;rcases hp with hp | rfl
    ·exact hd p hp
    ·exact⟨by rintro rfl;exact hce rfl,hc⟩
   ·exact HM xs _ _ ps hd (by rw[Sn];omega) e
theorem acB {α:Type} {sz:α->Nat} {h:Nat} {l:List α} {ps:List (List α)} (e:pQ sz h l=some ps):∀ p ∈ ps,p≠[]/\gj sz p<=h :=
 HM l [] [] ps (by simp) (by simp[gj]) e
def Bw {α:Type}:Nat->List (List α)->List Nat
 | _,[]=>[]
 | k,p::ps=>List.replicate p.length (k+1)++Bw (k+1) ps
theorem vl {α:Type}:∀ (k:Nat) (ps qs:List (List α)),Bw k (ps++qs)=Bw k ps++Bw (k+ps.length) qs
 | k,[],qs=>by simp[Bw]
 | k,p::ps,qs=>by rw[List.cons_append,Bw,Bw,vl (k+1) ps qs,List.append_assoc,List.length_cons,show k+1+ps.length=k+(ps.length+1) by omega]
theorem W7 {α:Type}:∀ (k:Nat) (ps:List (List α)),(Bw k ps).length=ps.flatten.length
 | _,[]=>rfl
 | k,p::ps=>by rw[Bw,List.length_append,List.length_replicate,W7 (k+1) ps,List.flatten_cons,List.length_append]
def gM {α:Type} (sz:α->Nat) (h:Nat) (L:List α) (k:Nat) (P:List (List α)):Prop :=
 (k=0/\P=[])\/∃ done cur,P=done++[cur]/\cur≠[]/\pQ sz h L=eF sz h done cur (L.drop k)
section
variable {α : Type} {sz : α → Nat} {h : Nat} {L : List α} {k : Nat} {P : List (List α)}
theorem gM.fail (hp:gM sz h L k P) (hk:k < L.length) (hs:h < sz L[k]):pQ sz h L=none:=by
 rcases hp with ⟨rfl,rfl⟩ | ⟨done,cur,rfl,hc,e⟩
 ·cases L with
  | nil=>simp at hk
  | cons x L =>
    simp at hs;rw[pQ,eF,if_pos hs]
 ·rw[e,List.drop_eq_getElem_cons hk,eF,if_pos hs]
theorem gM.new (hp:gM sz h L k P) (hk:k < L.length) (hs:¬h < sz L[k]) (hn:P=[]\/∃ done cur,P=done++[cur]/\h < gj sz cur+sz L[k]):gM sz h L (k+1) (P++[[L[k]]]):=by
 refine .inr ⟨P,[L[k]],rfl,by simp,?_⟩;rcases hp with ⟨rfl,rfl⟩ | ⟨done,cur,rfl,hc,e⟩
 ·cases L with
  | nil=>simp at hk
  | cons x L =>
    simp at hs;rw[pQ,eF,if_neg (by omega)];simp
 ·have hc':cur.isEmpty=false:=by cases cur<;>simp_all
  rcases hn with hn | ⟨done',cur',e2,hn⟩
  ·simp at hn
  ·have e3:=List.append_inj' e2 rfl;simp only[List.cons.injEq,and_true] at e3;obtain ⟨rfl,rfl⟩:=e3;rw[e,List.drop_eq_getElem_cons hk,eF,if_neg hs,hc',if_neg (by simp),if_pos hn]
theorem gM.add {done:List (List α)} {cur:List α} (hp:gM sz h L k (done++[cur])) (hk:k < L.length) (hs:¬h < sz L[k]) (hn:¬h < gj sz cur+sz L[k]):gM sz h L (k+1) (done++[cur++[L[k]]]):=by
 rcases hp with ⟨_,e⟩ | ⟨done',cur',e2,hc,e⟩
 ·simp at e
 ·have e3:=List.append_inj' e2 rfl;simp only[List.cons.injEq,and_true] at e3;obtain ⟨rfl,rfl⟩:=e3;have hc':cur.isEmpty=false:=by cases cur<;>simp_all
  exact .inr ⟨done,cur++[L[k]],rfl,by simp,by rw[e,List.drop_eq_getElem_cons hk,eF,if_neg hs,hc',if_neg (by simp),if_neg hn]⟩
theorem gM.done (hp:gM sz h L L.length P):pQ sz h L=some P:=by
 rcases hp with ⟨h0,rfl⟩ | ⟨done,cur,rfl,hc,e⟩
 ·have:L=[]:=List.length_eq_zero_iff.1 h0;subst this;rfl
 ·have hc':cur.isEmpty=false:=by cases cur<;>simp_all
  rw[e,List.drop_length,eF,hc'];rfl
end
set_option maxRecDepth 100000
def o7:=[fc 1 4 0,ok 2 (vS [])]
def o8:=[aJ 3 0 1,bd 4 1 3,cD 5 .eql 4 0]
def y9:=[aJ 6 2 1,bd 7 1 6,di 8 ii 7,om 2 8]
def za:=[oo 9 (.call mB []),aJ 10 0 1,bd 11 1 10,cD 12 .sub 11 1,ep 13 1 9 12,bd 14 1 13,aJ 15 1 1,bd 16 1 15,eo 17 rR 14 16,oo 18 (.bin .add .none (.t 17) (.k (vS [32]))),aJ 19 2 1,bd 20 1 19,di 21 ii 20,bM 22 .add 18 21,oo 23 (.bin .add .none (.t 22) (.k (vS [32,97,110,100,32]))),aJ 24 3 1,bd 25 1 24,di 26 ii 25,bM 27 .add 23 26,om 2 27]
def oV:List (List Nat):=[[],[],[1],[1,2],[0,1,2,3],[0,1,2,3,4],[],[6],[0,1,2,3,4,5,6,7],[0,1,2,3,4,5,6,7,8],[],[10],[0,1,2,3,4,5,6,7,8,10,11],[0,1,2,3,4,5,6,7,8,9,10,11,12],[0,1,2,3,4,5,6,7,8,9,10,11,12,13],[],[15],[0,1,2,3,4,5,6,7,8,10,11,12,15,16],[0,1,2,3,4,5,6,7,8,9,10,11,12,13,14,15,16,17],[0,1,2,3,4,5,6,7,8,9,10,11,12,13,14,15,16,17,18]]
def sM:C:=(sr o7 [1] (ss (sr o8 [1,5] (sc 5 (sr y9 [2] .ret) .skip)) (ss (.regD za oV [2]) .ret)))
theorem P2:cz tj sM [(.tmp 2)] 28:=dh func143 rfl
def zb:=[fc 1 4 0,ok 2 (vS [])]
def zc:=[aJ 4 0 1,bd 5 1 4,aJ 6 1 1,bd 7 1 6,eo 8 xo 5 7,oo 9 (.bin .add .none (.t 8) (.k (vS [32]))),aJ 10 1 1,bd 11 1 10,aJ 12 0 1,bd 13 1 12,eo 14 Bj 11 13,bM 15 .add 9 14,om 3 15]
def oW:List (List Nat):=[[],[0],[],[2],[0,1,2,3],[0,1,2,3,4],[],[6],[],[8],[0,1,2,3,4,6,7,8,9],[0,1,2,3,4,5,6,7,8,9,10],[0,1,2,3,4,5,6,7,8,9,10,11]]
def zd:=[aJ 16 2 1,bd 17 1 16,cD 18 .gtr 17 0]
def ze:=[om 19 3,aJ 20 1 1,bd 21 1 20,di 22 pA 21,aJ 23 2 1,bd 24 1 23,cD 25 .sub 24 1,ep 26 1 22 25,bd 27 1 26,oo 28 (.bin .add .none (.k (vS [32])) (.t 27)),bM 29 .add 19 28,om 3 29]
def oX:List (List Nat):=[[],[],[1],[1,2],[],[4],[4,5],[1,2,3,4,5,6],[1,2,3,4,5,6,7],[1,2,3,4,5,6,7,8],[0,1,2,3,4,5,6,7,8,9],[0,1,2,3,4,5,6,7,8,9,10]]
def o9:=[om 30 3,oo 31 (.bin .add .none (.t 30) (.k (vS [32]))),aJ 32 3 1,bd 33 1 32,di 34 ii 33,bM 35 .add 31 34,om 2 35]
def Er:C:=(sr zb [1] (ss (.regD zc oW [1,3]) (ss (sr zd [1,3,18] (sc 18 (.regD ze oX [1,3]) .skip)) (sr o9 [2] .ret))))
theorem P3:cz mA Er [(.tmp 2)] 36:=dh func146 rfl
def MW:=[fc 1 15 0,ok 2 (vS [])]
def MX:=[aJ 4 0 1,cm 5 4 4,di 6 Kr 5,om 3 6]
def MY:=[aJ 7 4 1,bd 8 1 7,cD 9 .gtr 8 0]
def MZ:=[om 10 3,oo 11 (.bin .add .none (.t 10) (.k (vS [44,32]))),aJ 12 4 1,bd 13 1 12,aJ 14 5 1,bd 15 1 14,eo 16 tm 13 15,bM 17 .add 11 16,oo 18 (.bin .add .none (.t 17) (.k (vS [32]))),aJ 19 6 1,bd 20 1 19,di 21 lu 20,bM 22 .add 18 21,om 3 22]
def BA:List (List Nat):=[[],[0],[],[2],[],[4],[2,3,4,5],[0,1,2,3,4,5,6],[0,1,2,3,4,5,6,7],[],[9],[2,3,4,5,6,9,10],[0,1,2,3,4,5,6,7,8,9,10,11],[0,1,2,3,4,5,6,7,8,9,10,11,12]]
def M0:=[aJ 23 7 1,cm 24 4 23,di 25 gA 24,oo 26 (.un .not (.t 25))]
def M1:=[om 27 3,oo 28 (.bin .add .none (.t 27) (.k (vS [32,99,104,97,114,103,101,100,32,119,105,116,104,32]))),aJ 29 7 1,cm 30 4 29,di 31 Br 30,bM 32 .add 28 31,om 3 32]
def M2:=[aJ 33 11 1,cm 34 4 33,di 35 gA 34,oo 36 (.un .not (.t 35))]
def M3:=[om 37 3,aJ 38 4 1,bd 39 1 38,di 40 Kw 39,bM 41 .add 37 40,aJ 42 11 1,cm 43 4 42,di 44 Br 43,bM 45 .add 41 44,om 3 45]
def BB:List (List Nat):=[[],[],[1],[1,2],[0,1,2,3],[],[5],[1,2,3,5,6],[0,1,2,3,4,5,6,7],[0,1,2,3,4,5,6,7,8]]
def BX:=[om 46 3,om 2 46]
def Q6:C:=(sr MW [1] (sr MX [1,3] (ss (sr MY [1,3,9] (sc 9 (.regD MZ BA [1,3]) .skip)) (ss (ss (.wk (.reg M0 [1,3,26])) (sc 26 (.reg M1 [1,3]) .skip)) (ss (ss (.wk (.reg M2 [1,3,36])) (sc 36 (.regD M3 BB [3]) .skip)) (ss (.wk (.reg BX [2])) .ret))))))
theorem Wj:cz tn Q6 [(.tmp 2)] 47:=dh func91 rfl
def Mt:=[ok 2 (vS [])]
def Mu:=[oo 3 (.bslice 1 (vS []) 9 [(0,(.k (vS [103,111,108,100]))),(1,(.k (vS [115,105,108,118,101,114]))),(2,(.k (vS [114,101,100]))),(3,(.k (vS [98,108,117,101]))),(4,(.k (vS [98,108,97,99,107]))),(5,(.k (vS [103,114,101,101,110]))),(6,(.k (vS [112,117,114,112,108,101]))),(7,(.k (vS [101,114,109,105,110,101]))),(8,(.k (vS [118,97,105,114])))]),om 4 0,cD 5 .sub 4 1,ep 6 1 3 5,bd 7 1 6,om 2 7]
def QX:C:=(sr Mt [0] (sr Mu [2] .ret))
theorem V8:cz lu QX [(.tmp 2)] 8:=dh func134 rfl
def Ak:=[ok 2 (vS [])]
def Al:=[oo 3 (.bslice 1 (vS []) 5 [(0,(.k (vS []))),(1,(.k (vS [101,110,103,114,97,105,108,101,100]))),(2,(.k (vS [119,97,118,121]))),(3,(.k (vS [101,109,98,97,116,116,108,101,100]))),(4,(.k (vS [105,110,100,101,110,116,101,100])))]),om 4 0,ep 5 1 3 4,bd 6 1 5,om 2 6]
def Ex:C:=(sr Ak [0] (sr Al [2] .ret))
theorem P8:cz mM Ex [(.tmp 2)] 7:=dh func175 rfl
def BR:=[fc 1 4 0,ok 2 (vS [])]
def BS:=[aJ 4 0 1,bd 5 1 4,cD 6 .eql 5 0]
def MB:=[aJ 7 2 1,bd 8 1 7,di 9 lu 8,om 2 9]
def MC:=[oo 10 (.bslice 1 (vS []) 8 [(0,(.k (vS []))),(1,(.k (vS [112,101,114,32,112,97,108,101]))),(2,(.k (vS [112,101,114,32,102,101,115,115]))),(3,(.k (vS [112,101,114,32,98,101,110,100]))),(4,(.k (vS [113,117,97,114,116,101,114,108,121]))),(5,(.k (vS [112,101,114,32,115,97,108,116,105,114,101]))),(6,(.k (vS [112,97,108,121]))),(7,(.k (vS [98,97,114,114,121])))]),aJ 11 0 1,bd 12 1 11,ep 13 1 10 12,bd 14 1 13,om 3 14]
def MD:=[aJ 15 1 1,bd 16 1 15,cD 17 .gtr 16 0]
def ME:=[om 18 3,oo 19 (.bin .add .none (.t 18) (.k (vS [32]))),aJ 20 1 1,bd 21 1 20,di 22 mM 21,bM 23 .add 19 22,om 3 23]
def BT:=[om 24 3,oo 25 (.bin .add .none (.t 24) (.k (vS [32]))),aJ 26 2 1,bd 27 1 26,di 28 lu 27,bM 29 .add 25 28,oo 30 (.bin .add .none (.t 29) (.k (vS [32,97,110,100,32]))),aJ 31 3 1,bd 32 1 31,di 33 lu 32,bM 34 .add 30 33,om 2 34]
def mW:List (List Nat):=[[],[0],[],[2],[2,3],[0,1,2,3,4],[0,1,2,3,4,5],[],[7],[2,3,4,7,8],[0,1,2,3,4,5,6,7,8,9],[0,1,2,3,4,5,6,7,8,9,10]]
def JY:C:=(sr BR [1] (ss (sr BS [1,6] (sc 6 (sr MB [2] .ret) .skip)) (sr MC [1,3] (ss (sr MD [1,3,17] (sc 17 (.reg ME [1,3]) .skip)) (ss (.regD BT mW [2]) .ret)))))
theorem Wb:cz Kr JY [(.tmp 2)] 35:=dh func132 rfl
def Am:=[ok 4 (vS [])]
def An:=[oo 6 (.bslice 1 (vS []) 8 [(0,(.k (vS []))),(1,(.k (vS [112,97,108,101]))),(2,(.k (vS [102,101,115,115]))),(3,(.k (vS [98,101,110,100]))),(4,(.k (vS [99,104,101,118,114,111,110]))),(5,(.k (vS [99,114,111,115,115]))),(6,(.k (vS [115,97,108,116,105,114,101]))),(7,(.k (vS [99,104,105,101,102])))]),om 7 0,ep 8 1 6 7,bd 9 1 8,oo 10 (.bin .add .none (.k (vS [97,32])) (.t 9)),om 5 10]
def Ao:=[om 11 1,cD 12 .gtr 11 0]
def Ap:=[om 13 5,oo 14 (.bin .add .none (.t 13) (.k (vS [32]))),om 15 1,di 16 mM 15,bM 17 .add 14 16,om 5 17]
def pw:=[om 18 5,om 4 18]
def Ey:C:=(sr Am [0,1] (sr An [1,5] (ss (sr Ao [1,5,12] (sc 12 (.reg Ap [5]) .skip)) (sr pw [4] .ret))))
theorem P9:cz tm Ey [(.tmp 4)] 19:=dh func133 rfl
def sg:=[ok 2 (vS [])]
def si:=[om 3 0]
def sj:=[cD 5 .eql 3 0,om 4 5]
def sk:=[ok 2 (vS [44,32])]
def sn:=[cD 7 .eql 3 7,om 6 7]
def so:=[ok 2 (vS [32,97,98,111,118,101,32])]
def sq:=[ok 2 (vS [32,98,101,116,119,101,101,110,32])]
def A7:C:=(sr sg [0] (ss (sr si [3] (.block 0 (sr sj [3,4] (sc 4 (sr sk [2] .ret) (sr sn [6] (sc 6 (sr so [2] .ret) .skip)))))) (sr sq [2] .ret)))
theorem Wi:cz Kw A7 [(.tmp 2)] 8:=dh func136 rfl
def fV:=[ok 2 vN]
def fW:=[om 3 0]
def fX:=[cD 5 .eql 3 1,om 4 5]
def fY:=[oo 6 (.bslice 1 (vS []) 2 [(0,(.k (vS [114,97,109,112,97,110,116]))),(1,(.k (vS [112,97,115,115,97,110,116])))]),om 2 6]
def fZ:=[cD 8 .eql 3 2,om 7 8]
def f8:=[oo 9 (.bslice 1 (vS []) 2 [(0,(.k (vS [100,105,115,112,108,97,121,101,100]))),(1,(.k (vS [114,105,115,105,110,103])))]),om 2 9]
def f9:=[cD 11 .eql 3 3,om 10 11]
def ga:=[oo 12 (.bslice 1 (vS []) 2 [(0,(.k (vS [115,119,105,109,109,105,110,103]))),(1,(.k (vS [117,112,114,105,103,104,116])))]),om 2 12]
def gb:=[oo 13 (.bslice 1 (vS []) 0 []),om 2 13]
def iF:C:=(sr fV [0] (ss (sr fW [3] (.block 0 (sr fX [3,4] (sc 4 (sr fY [2] .ret) (sr fZ [3,7] (sc 7 (sr f8 [2] .ret) (sr f9 [10] (sc 10 (sr ga [2] .ret) .skip)))))))) (sr gb [2] .ret)))
theorem N8:cz qB iF [(.tmp 2)] 14:=dh func200 rfl
def MR:=[ok 4 (vS [])]
def MS:=[oo 6 (.bslice 1 (vS []) 8 [(0,(.k (vS [108,105,111,110]))),(1,(.k (vS [101,97,103,108,101]))),(2,(.k (vS [102,105,115,104]))),(3,(.k (vS [114,111,115,101]))),(4,(.k (vS [115,116,97,114]))),(5,(.k (vS [116,111,119,101,114]))),(6,(.k (vS [107,101,121]))),(7,(.k (vS [115,119,111,114,100])))]),om 7 0,cD 8 .sub 7 1,ep 9 1 6 8,bd 10 1 9,om 5 10]
def r7:=[om 11 1,cD 12 .gtr 11 1,om 13 12,oT 13 14 (.mv (.t 0)),oT 13 15 (.bin .neq .none (.t 14) (xI 3)),oo 16 (.pick (.t 13) (.t 15) (xB false))]
def MT:=[om 17 5,oo 18 (.bin .add .none (.t 17) (.k (vS [115]))),om 5 18]
def r8:=[om 19 5,om 4 19]
def Q4:C:=(sr MR [0,1] (sr MS [0,1,5] (ss (sr r7 [5,16] (sc 16 (.reg MT [5]) .skip)) (sr r8 [4] .ret))))
theorem Wg:cz Ku Q4 [(.tmp 4)] 20:=dh func199 rfl
def MF:=[fc 1 4 0,ok 2 (vS [])]
def MG:=[oo 4 (.bslice 1 (vS []) 6 [(0,(.k (vS [97]))),(1,(.k (vS [116,119,111]))),(2,(.k (vS [116,104,114,101,101]))),(3,(.k (vS [102,111,117,114]))),(4,(.k (vS [102,105,118,101]))),(5,(.k (vS [115,105,120])))]),aJ 5 0 1,bd 6 1 5,cD 7 .sub 6 1,ep 8 1 4 7,bd 9 1 8,om 3 9]
def rZ:=[aJ 10 0 1,bd 11 1 10,cD 12 .eql 11 1,om 13 12,oT 13 14 (.faddr 1 (.t 1)),oT 13 15 (.ld false 1 (.t 14)),oT 13 16 (.bin .eql .none (.t 15) (xI 2)),oo 17 (.pick (.t 13) (.t 16) (xB false))]
def MH:=[ok 3 (vS [97,110])]
def MI:=[om 18 3,oo 19 (.bin .add .none (.t 18) (.k (vS [32]))),aJ 20 1 1,bd 21 1 20,aJ 22 0 1,bd 23 1 22,eo 24 Ku 21 23,bM 25 .add 19 24,om 3 25]
def MJ:=[aJ 26 2 1,bd 27 1 26,cD 28 .gtr 27 0]
def MK:=[om 29 3,oo 30 (.bin .add .none (.t 29) (.k (vS [32]))),aJ 31 1 1,bd 32 1 31,di 33 qB 32,aJ 34 2 1,bd 35 1 34,cD 36 .sub 35 1,ep 37 1 33 36,bd 38 1 37,bM 39 .add 30 38,om 3 39]
def Bx:List (List Nat):=[[],[0],[],[2],[2,3],[],[5],[5,6],[2,3,4,5,6,7],[2,3,4,5,6,7,8],[0,1,2,3,4,5,6,7,8,9],[0,1,2,3,4,5,6,7,8,9,10]]
def BU:=[om 40 3,om 2 40]
def Q0:C:=(sr MF [1] (sr MG [1,3] (ss (sr rZ [1,3,17] (sc 17 (.reg MH [1,3]) .skip)) (ss (.wk (.reg MI [1,3])) (ss (sr MJ [1,3,28] (sc 28 (.regD MK Bx [3]) .skip)) (sr BU [2] .ret))))))
theorem Wc:cz Ks Q0 [(.tmp 2)] 41:=dh func176 rfl
def MP:=[fc 1 4 0,ok 2 (vS [])]
def MQ:=[cm 3 4 1,di 4 Ks 3,oo 5 (.bin .add .none (.t 4) (.k (vS [32]))),aJ 6 3 1,bd 7 1 6,di 8 lu 7,bM 9 .add 5 8,om 2 9]
def Bz:List (List Nat):=[[],[0],[0,1],[],[3],[0,1,3,4],[0,1,2,3,4,5],[0,1,2,3,4,5,6]]
def Q3:C:=(sr MP [1] (ss (.regD MQ Bz [2]) .ret))
theorem Wf:cz Br Q3 [(.tmp 2)] 10:=dh func135 rfl
def rh:=[ok 0 vN]
def ri:=[oo 1 (.bslice 1 (vS []) 9 [(0,(.k (vS [103,111,108,100]))),(1,(.k (vS [115,105,108,118,101,114]))),(2,(.k (vS [114,101,100]))),(3,(.k (vS [98,108,117,101]))),(4,(.k (vS [98,108,97,99,107]))),(5,(.k (vS [103,114,101,101,110]))),(6,(.k (vS [112,117,114,112,108,101]))),(7,(.k (vS [101,114,109,105,110,101]))),(8,(.k (vS [118,97,105,114])))]),om 0 1]
def uT:C:=(sr rh [] (sr ri [0] .ret))
theorem Kb:cz mF uT [(.tmp 0)] 2:=dh func181 rfl
def C8:=[ok 0 vN]
def C9:=[oo 1 (.bslice 1 (vS []) 4 [(0,(.k (vS [101,110,103,114,97,105,108,101,100]))),(1,(.k (vS [119,97,118,121]))),(2,(.k (vS [101,109,98,97,116,116,108,101,100]))),(3,(.k (vS [105,110,100,101,110,116,101,100])))]),om 0 1]
def H2:C:=(sr C8 [] (sr C9 [0] .ret))
theorem Rp:cz xq H2 [(.tmp 0)] 2:=dh func202 rfl
def qZ:=[ok 0 vN]
def q0:=[oo 1 (.bslice 1 (vS []) 7 [(0,(.k (vS [112,101,114,32,112,97,108,101]))),(1,(.k (vS [112,101,114,32,102,101,115,115]))),(2,(.k (vS [112,101,114,32,98,101,110,100]))),(3,(.k (vS [113,117,97,114,116,101,114,108,121]))),(4,(.k (vS [112,101,114,32,115,97,108,116,105,114,101]))),(5,(.k (vS [112,97,108,121]))),(6,(.k (vS [98,97,114,114,121])))]),om 0 1]
def uQ:C:=(sr qZ [] (sr q0 [0] .ret))
theorem J7:cz mB uQ [(.tmp 0)] 2:=dh func179 rfl
def q9:=[ok 0 vN]
def ra:=[oo 1 (.bslice 1 (vS []) 7 [(0,(.k (vS [112,97,108,101]))),(1,(.k (vS [102,101,115,115]))),(2,(.k (vS [98,101,110,100]))),(3,(.k (vS [99,104,101,118,114,111,110]))),(4,(.k (vS [99,114,111,115,115]))),(5,(.k (vS [115,97,108,116,105,114,101]))),(6,(.k (vS [99,104,105,101,102])))]),om 0 1]
def uS:C:=(sr q9 [] (sr ra [0] .ret))
theorem J9:cz mD uS [(.tmp 0)] 2:=dh func180 rfl
def C6:=[ok 0 vN]
def C7:=[oo 1 (.bslice 1 (vS []) 8 [(0,(.k (vS [108,105,111,110]))),(1,(.k (vS [101,97,103,108,101]))),(2,(.k (vS [102,105,115,104]))),(3,(.k (vS [114,111,115,101]))),(4,(.k (vS [115,116,97,114]))),(5,(.k (vS [116,111,119,101,114]))),(6,(.k (vS [107,101,121]))),(7,(.k (vS [115,119,111,114,100])))]),om 0 1]
def HZ:C:=(sr C6 [] (sr C7 [0] .ret))
theorem Ro:cz xp HZ [(.tmp 0)] 2:=dh func203 rfl
def Fy:=[ok 2 (vS [])]
def Fz:=[oo 3 (.call mF []),om 4 0,cD 5 .sub 4 1,ep 6 1 3 5,bd 7 1 6,om 2 7]
def K0:C:=(sr Fy [0] (sr Fz [2] .ret))
theorem SJ:cz ii K0 [(.tmp 2)] 8:=dh func145 rfl
def tO:=[ok 4 (vS [])]
def tP:=[om 5 1,cD 6 .eql 5 0]
def FA:=[om 7 0,om 4 7]
def FB:=[om 8 0,oo 9 (.bin .add .none (.t 8) (.k (vS [32]))),oo 10 (.call xq []),om 11 1,cD 12 .sub 11 1,ep 13 1 10 12,bd 14 1 13,bM 15 .add 9 14,om 4 15]
def A6:C:=(sr tO [0,1] (ss (sr tP [0,1,6] (sc 6 (sr FA [4] .ret) .skip)) (sr FB [4] .ret)))
theorem SK:cz rR A6 [(.tmp 4)] 16:=dh func178 rfl
def q7:=[ok 4 (vS [])]
def q8:=[oo 5 (.call mD []),om 6 0,cD 7 .sub 6 1,ep 8 1 5 7,bd 9 1 8,oo 10 (.bin .add .none (.k (vS [97,32])) (.t 9)),om 11 1,eo 12 rR 10 11,om 4 12]
def uR:C:=(sr q7 [0,1] (sr q8 [4] .ret))
theorem J8:cz mC uR [(.tmp 4)] 13:=dh func144 rfl
def lh:=[ok 4 (vS [])]
def lj:=[om 5 0,cD 6 .eql 5 1,om 7 6,oT 7 8 (.mv (.t 1)),oT 7 9 (.bin .eql .none (.t 8) (xI 2)),oo 10 (.pick (.t 7) (.t 9) (xB false))]
def C5:=[ok 4 (vS [97,110])]
def qI:=[oo 11 (.bslice 1 (vS []) 6 [(0,(.k (vS [97]))),(1,(.k (vS [116,119,111]))),(2,(.k (vS [116,104,114,101,101]))),(3,(.k (vS [102,111,117,114]))),(4,(.k (vS [102,105,118,101]))),(5,(.k (vS [115,105,120])))]),om 12 0,cD 13 .sub 12 1,ep 14 1 11 13,bd 15 1 14,om 4 15]
def py:C:=(sr lh [0,1] (ss (sr lj [0,10] (sc 10 (sr C5 [4] .ret) .skip)) (sr qI [4] .ret)))
theorem Rn:cz xo py [(.tmp 4)] 16:=dh func182 rfl
def Fu:=[ok 4 (vS [])]
def Fv:=[oo 6 (.call xp []),om 7 0,cD 8 .sub 7 1,ep 9 1 6 8,bd 10 1 9,om 5 10]
def nn:=[om 11 1,cD 12 .gtr 11 1,om 13 12,oT 13 14 (.mv (.t 0)),oT 13 15 (.bin .neq .none (.t 14) (xI 3)),oo 16 (.pick (.t 13) (.t 15) (xB false))]
def Fw:=[om 17 5,oo 18 (.bin .add .none (.t 17) (.k (vS [115]))),om 5 18]
def np:=[om 19 5,om 4 19]
def KZ:C:=(sr Fu [0,1] (sr Fv [0,1,5] (ss (sr nn [5,16] (sc 16 (.reg Fw [5]) .skip)) (sr np [4] .ret))))
theorem SI:cz Bj KZ [(.tmp 4)] 20:=dh func183 rfl
def LX:=[ok 2 (vB false)]
def LY:=[om 3 0,oo 4 (.call cP [.t 3,xI 0,xI 4]),om 2 4]
def QT:C:=(sr LX [0] (sr LY [2] .ret))
theorem V3:cz Bi QT [(.tmp 2)] 5:=dh func162 rfl
def LV:=[ok 2 (vB false)]
def LW:=[om 3 0,oo 4 (.call cP [.t 3,xI 1,xI 8]),om 2 4]
def QS:C:=(sr LV [0] (sr LW [2] .ret))
theorem V2:cz Kn QS [(.tmp 2)] 5:=dh func190 rfl
def Mz:=[ok 2 (vB false)]
def MA:=[om 3 0,oo 4 (.call eJ [.t 3,xI 0,xI 4]),om 2 4]
def QZ:C:=(sr Mz [0] (sr MA [2] .ret))
theorem Wa:cz Bq QZ [(.tmp 2)] 5:=dh func171 rfl
def ML:=[ok 2 (vB false)]
def MM:=[om 3 0,oo 4 (.call eJ [.t 3,xI 1,xI 8]),om 2 4]
def Q1:C:=(sr ML [0] (sr MM [2] .ret))
theorem Wd:cz Kt Q1 [(.tmp 2)] 5:=dh func196 rfl
def IQ:=[ok 2 (vB false)]
def IU:=[om 3 0,cD 4 .leq 3 3,om 2 4]
def OR:C:=(sr IQ [0] (sr IU [2] .ret))
theorem Uz:cz vf OR [(.tmp 2)] 5:=dh func161 rfl
def MN:=[fc 1 4 0,ok 2 (vB false)]
def MO:=[cm 3 4 1,oo 4 (.build QF []),oo 5 (.bin .eql (.struct [EK.int,EK.int,EK.int,EK.int]) (.t 3) (.t 4)),om 2 5]
def Q2:C:=(sr MN [1] (sr MO [2] .ret))
theorem We:cz gA Q2 [(.tmp 2)] 6:=dh func122 rfl
def Ma:=[ok 2 (vI 0)]
def Mb:=[om 3 0]
def Mc:=[ok 2 (vI 1)]
def Md:=[ok 2 (vI 0)]
def QV:C:=(sr Ma [0] (ss (sr Mb [3] (sc 3 (sr Mc [2] .ret) .skip)) (sr Md [2] .ret)))
theorem V5:cz gy QV [(.tmp 2)] 4:=dh func167 rfl
def iI:=[ok 2 vN]
def iJ:=[om 3 0]
def iK:=[cD 5 .eql 3 1,om 4 5]
def iL:=[oo 6 (.bslice 1 (vS []) 2 [(0,(.k (vS [114,97,109,112,97,110,116]))),(1,(.k (vS [112,97,115,115,97,110,116])))]),om 2 6]
def iM:=[cD 8 .eql 3 2,om 7 8]
def iN:=[oo 9 (.bslice 1 (vS []) 2 [(0,(.k (vS [100,105,115,112,108,97,121,101,100]))),(1,(.k (vS [114,105,115,105,110,103])))]),om 2 9]
def iO:=[cD 11 .eql 3 3,om 10 11]
def iP:=[oo 12 (.bslice 1 (vS []) 2 [(0,(.k (vS [115,119,105,109,109,105,110,103]))),(1,(.k (vS [117,112,114,105,103,104,116])))]),om 2 12]
def iQ:=[oo 13 (.bslice 1 (vS []) 0 []),om 2 13]
def kk:C:=(sr iI [0] (ss (sr iJ [3] (.block 0 (sr iK [3,4] (sc 4 (sr iL [2] .ret) (sr iM [3,7] (sc 7 (sr iN [2] .ret) (sr iO [10] (sc 10 (sr iP [2] .ret) .skip)))))))) (sr iQ [2] .ret)))
theorem Rm:cz pA kk [(.tmp 2)] 14:=dh func184 rfl
def Mv:=[fc 1 4 0,ok 2 (vB false)]
def Mw:=[aJ 3 0 1,bd 4 1 3,oo 5 (.call eJ [.t 4,xI 0,xI 7]),oo 6 (.un .not (.t 5)),om 7 6,oF 7 8 (.faddr 1 (.t 1)),oF 7 9 (.ld false 1 (.t 8)),oF 7 10 (.call Bq [.t 9]),oF 7 11 (.un .not (.t 10)),oo 12 (.pick (.t 7) (xB true) (.t 11)),om 13 12,oF 13 14 (.faddr 2 (.t 1)),oF 13 15 (.ld false 1 (.t 14)),oF 13 16 (.call oP [.t 15]),oF 13 17 (.un .not (.t 16)),oo 18 (.pick (.t 13) (xB true) (.t 17))]
def rY:=[ok 2 (vB false)]
def Mx:=[aJ 19 0 1,bd 20 1 19,cD 21 .eql 20 0]
def BQ:=[aJ 22 1 1,bd 23 1 22,cD 24 .eql 23 0,om 25 24,oT 25 26 (.faddr 3 (.t 1)),oT 25 27 (.ld false 1 (.t 26)),oT 25 28 (.bin .eql .none (.t 27) (xI 0)),oo 29 (.pick (.t 25) (.t 28) (xB false)),om 2 29]
def My:=[aJ 30 3 1,bd 31 1 30,di 32 oP 31,om 33 32,oT 33 34 (.faddr 3 (.t 1)),oT 33 35 (.ld false 1 (.t 34)),oT 33 36 (.faddr 2 (.t 1)),oT 33 37 (.ld false 1 (.t 36)),oT 33 38 (.bin .neq .none (.t 35) (.t 37)),oo 39 (.pick (.t 33) (.t 38) (xB false)),om 2 39]
def QY:C:=(sr Mv [1] (ss (sr Mw [1,18] (sc 18 (sr rY [2] .ret) .skip)) (ss (sr Mx [1,21] (sc 21 (sr BQ [2] .ret) .skip)) (sr My [2] .ret))))
theorem V9:cz Kq QY [(.tmp 2)] 40:=dh func169 rfl
def tE:=[fc 1 4 0,ok 2 (vB false)]
def tF:=[aJ 3 0 1,bd 4 1 3,oo 5 (.call cP [.t 4,xI 0,xI 7]),oo 6 (.un .not (.t 5)),om 7 6,oF 7 8 (.faddr 1 (.t 1)),oF 7 9 (.ld false 1 (.t 8)),oF 7 10 (.call Bi [.t 9]),oF 7 11 (.un .not (.t 10)),oo 12 (.pick (.t 7) (xB true) (.t 11)),om 13 12,oF 13 14 (.faddr 2 (.t 1)),oF 13 15 (.ld false 1 (.t 14)),oF 13 16 (.call gU [.t 15]),oF 13 17 (.un .not (.t 16)),oo 18 (.pick (.t 13) (xB true) (.t 17))]
def iu:=[ok 2 (vB false)]
def tG:=[aJ 19 0 1,bd 20 1 19,cD 21 .eql 20 0]
def lw:=[aJ 22 1 1,bd 23 1 22,cD 24 .eql 23 0,om 25 24,oT 25 26 (.faddr 3 (.t 1)),oT 25 27 (.ld false 1 (.t 26)),oT 25 28 (.bin .eql .none (.t 27) (xI 0)),oo 29 (.pick (.t 25) (.t 28) (xB false)),om 2 29]
def tH:=[aJ 30 3 1,bd 31 1 30,di 32 gU 31,om 33 32,oT 33 34 (.faddr 3 (.t 1)),oT 33 35 (.ld false 1 (.t 34)),oT 33 36 (.faddr 2 (.t 1)),oT 33 37 (.ld false 1 (.t 36)),oT 33 38 (.bin .neq .none (.t 35) (.t 37)),oo 39 (.pick (.t 33) (.t 38) (xB false)),om 2 39]
def yb:C:=(sr tE [1] (ss (sr tF [1,18] (sc 18 (sr iu [2] .ret) .skip)) (ss (sr tG [1,21] (sc 21 (sr lw [2] .ret) .skip)) (sr tH [2] .ret))))
theorem Li:cz gV yb [(.tmp 2)] 40:=dh func123 rfl
def IV:=[fc 1 4 0,ok 2 (vB false)]
def IW:=[aJ 3 0 1,bd 4 1 3,oo 5 (.call eJ [.t 4,xI 1,xI 6]),oo 6 (.un .not (.t 5)),om 7 6,oF 7 8 (.faddr 1 (.t 1)),oF 7 9 (.ld false 1 (.t 8)),oF 7 10 (.call Kt [.t 9]),oF 7 11 (.un .not (.t 10)),oo 12 (.pick (.t 7) (xB true) (.t 11)),om 13 12,oF 13 14 (.faddr 3 (.t 1)),oF 13 15 (.ld false 1 (.t 14)),oF 13 16 (.call oP [.t 15]),oF 13 17 (.un .not (.t 16)),oo 18 (.pick (.t 13) (xB true) (.t 17))]
def pE:=[ok 2 (vB false)]
def IX:=[aJ 19 1 1,bd 20 1 19,di 21 vf 20]
def IY:=[aJ 22 2 1,bd 23 1 22,oo 24 (.call eJ [.t 23,xI 1,xI 2]),om 2 24]
def IZ:=[aJ 25 2 1,bd 26 1 25,cD 27 .eql 26 0,om 2 27]
def OS:C:=(sr IV [1] (ss (sr IW [1,18] (sc 18 (sr pE [2] .ret) .skip)) (ss (sr IX [1,21] (sc 21 (sr IY [2] .ret) .skip)) (sr IZ [2] .ret))))
theorem UA:cz vg OS [(.tmp 2)] 28:=dh func170 rfl
def tI:=[fc 1 4 0,ok 2 (vB false)]
def tJ:=[aJ 4 0 1,bd 5 1 4,oo 6 (.call cP [.t 5,xI 1,xI 6]),oo 7 (.un .not (.t 6)),om 8 7,oF 8 9 (.faddr 1 (.t 1)),oF 8 10 (.ld false 1 (.t 9)),oF 8 11 (.call Kn [.t 10]),oF 8 12 (.un .not (.t 11)),oo 13 (.pick (.t 8) (xB true) (.t 12)),om 14 13,oF 14 15 (.faddr 3 (.t 1)),oF 14 16 (.ld false 1 (.t 15)),oF 14 17 (.call gU [.t 16]),oF 14 18 (.un .not (.t 17)),oo 19 (.pick (.t 14) (xB true) (.t 18))]
def iv:=[ok 2 (vB false)]
def tK:=[aJ 20 1 1,bd 21 1 20,di 22 pA 21,oo 23 (.len false (.t 22)),om 3 23]
def lx:=[om 24 3,cD 25 .gtr 24 0]
def tL:=[aJ 26 2 1,bd 27 1 26,om 28 3,oo 29 (.call cP [.t 27,xI 1,.t 28]),om 2 29]
def tM:=[aJ 30 2 1,bd 31 1 30,cD 32 .eql 31 0,om 2 32]
def yd:C:=(sr tI [1] (ss (sr tJ [1,19] (sc 19 (sr iv [2] .ret) .skip)) (ss (sr tK [1,3] (sr lx [1,3,25] (sc 25 (sr tL [2] .ret) .skip))) (sr tM [2] .ret))))
theorem Lj:cz oL yd [(.tmp 2)] 33:=dh func164 rfl
def xA:=[fc 1 4 0,ok 2 (vB false)]
def xC:=[cm 3 4 1,oo 4 (.build QF []),oo 5 (.bin .eql (.struct [EK.int,EK.int,EK.int,EK.int]) (.t 3) (.t 4)),om 6 5,oF 6 7 (.ld true 4 (.t 1)),oF 6 8 (.call oL [.t 7]),oo 9 (.pick (.t 6) (xB true) (.t 8)),om 2 9]
def Et:C:=(sr xA [1] (sr xC [2] .ret))
theorem Ut:cz vd Et [(.tmp 2)] 10:=dh func124 rfl
def zx:=[ok 6 (vB false)]
def zy:=[om 7 0,oo 8 (.call cP [.t 7,xI 1,xI 7]),om 9 8,oT 9 10 (.mv (.t 1)),oT 9 11 (.call Bi [.t 10]),oo 12 (.pick (.t 9) (.t 11) (xB false)),om 13 12,oT 13 14 (.mv (.t 2)),oT 13 15 (.call gU [.t 14]),oo 16 (.pick (.t 13) (.t 15) (xB false)),om 6 16]
def Eu:C:=(sr zx [0,1,2] (sr zy [6] .ret))
theorem P5:cz tk Eu [(.tmp 6)] 17:=dh func125 rfl
def vA:=[fc 1 15 0,ok 2 (vB false)]
def vC:=[aJ 3 0 1,cm 4 4 3,di 5 gV 4,oo 6 (.un .not (.t 5)),om 7 6,oF 7 8 (.faddr 11 (.t 1)),oF 7 9 (.ld true 4 (.t 8)),oF 7 10 (.call vd [.t 9]),oF 7 11 (.un .not (.t 10)),oo 12 (.pick (.t 7) (xB true) (.t 11))]
def m9:=[ok 2 (vB false)]
def vD:=[aJ 13 4 1,bd 14 1 13,cD 15 .eql 14 0]
def jn:=[aJ 16 5 1,bd 17 1 16,cD 18 .eql 17 0,om 19 18,oT 19 20 (.faddr 6 (.t 1)),oT 19 21 (.ld false 1 (.t 20)),oT 19 22 (.bin .eql .none (.t 21) (xI 0)),oo 23 (.pick (.t 19) (.t 22) (xB false)),om 24 23,oT 24 25 (.faddr 7 (.t 1)),oT 24 26 (.ld true 4 (.t 25)),oT 24 27 (.build QF []),oT 24 28 (.bin .eql (.struct [EK.int,EK.int,EK.int,EK.int]) (.t 26) (.t 27)),oo 29 (.pick (.t 24) (.t 28) (xB false)),om 2 29]
def vE:=[aJ 30 4 1,bd 31 1 30,aJ 32 5 1,bd 33 1 32,aJ 34 6 1,bd 35 1 34,oo 36 (.call tk [.t 31,.t 33,.t 35]),om 37 36,oT 37 38 (.faddr 7 (.t 1)),oT 37 39 (.ld true 4 (.t 38)),oT 37 40 (.call vd [.t 39]),oo 41 (.pick (.t 37) (.t 40) (xB false)),om 2 41]
def Cj:C:=(sr vA [1] (ss (sr vC [1,12] (sc 12 (sr m9 [2] .ret) .skip)) (ss (sr vD [1,15] (sc 15 (sr jn [2] .ret) .skip)) (sr vE [2] .ret))))
theorem N2:cz qy Cj [(.tmp 2)] 42:=dh func83 rfl
def MU:=[fc 1 15 0,ok 2 (vB false)]
def MV:=[aJ 3 0 1,cm 4 4 3,di 5 Kq 4,oo 6 (.un .not (.t 5)),om 7 6,oF 7 8 (.faddr 4 (.t 1)),oF 7 9 (.ld false 1 (.t 8)),oF 7 10 (.call eJ [.t 9,xI 0,xI 7]),oF 7 11 (.un .not (.t 10)),oo 12 (.pick (.t 7) (xB true) (.t 11)),om 13 12,oF 13 14 (.faddr 11 (.t 1)),oF 13 15 (.ld true 4 (.t 14)),oF 13 16 (.call gA [.t 15]),oF 13 17 (.un .not (.t 16)),oF 13 18 (.mv (.t 17)),oT 18 19 (.faddr 11 (.t 1)),oT 18 20 (.ld true 4 (.t 19)),oT 18 21 (.call vg [.t 20]),oT 18 22 (.un .not (.t 21)),oF 13 23 (.pick (.t 18) (.t 22) (xB false)),oo 24 (.pick (.t 13) (xB true) (.t 23))]
def r9:=[ok 2 (vB false)]
def BV:=[aJ 25 4 1,bd 26 1 25,cD 27 .eql 26 0]
def iB:=[aJ 28 5 1,bd 29 1 28,cD 30 .eql 29 0,om 31 30,oT 31 32 (.faddr 6 (.t 1)),oT 31 33 (.ld false 1 (.t 32)),oT 31 34 (.bin .eql .none (.t 33) (xI 0)),oo 35 (.pick (.t 31) (.t 34) (xB false)),om 36 35,oT 36 37 (.faddr 7 (.t 1)),oT 36 38 (.ld true 4 (.t 37)),oT 36 39 (.call gA [.t 38]),oo 40 (.pick (.t 36) (.t 39) (xB false)),om 2 40]
def BW:=[aJ 41 5 1,bd 42 1 41,di 43 Bq 42,om 44 43,oT 44 45 (.faddr 6 (.t 1)),oT 44 46 (.ld false 1 (.t 45)),oT 44 47 (.call oP [.t 46]),oo 48 (.pick (.t 44) (.t 47) (xB false)),om 49 48,oT 49 50 (.faddr 7 (.t 1)),oT 49 51 (.ld true 4 (.t 50)),oT 49 52 (.call gA [.t 51]),oT 49 53 (.mv (.t 52)),oF 53 54 (.faddr 7 (.t 1)),oF 53 55 (.ld true 4 (.t 54)),oF 53 56 (.call vg [.t 55]),oT 49 57 (.pick (.t 53) (xB true) (.t 56)),oo 58 (.pick (.t 49) (.t 57) (xB false)),om 2 58]
def Q5:C:=(sr MU [1] (ss (sr MV [1,24] (sc 24 (sr r9 [2] .ret) .skip)) (ss (sr BV [1,27] (sc 27 (sr iB [2] .ret) .skip)) (sr BW [2] .ret))))
theorem Wh:cz Kv Q5 [(.tmp 2)] 59:=dh func130 rfl
def Mr:=[ok 2 (vB false)]
def Ms:=[om 3 0,oo 4 (.call eJ [.t 3,xI 1,xI 9]),om 2 4]
def QW:C:=(sr Mr [0] (sr Ms [2] .ret))
theorem V7:cz oP QW [(.tmp 2)] 5:=dh func172 rfl
def zf:=[ok 2 (vB false)]
def zg:=[om 3 0,oo 4 (.call cP [.t 3,xI 1,xI 9]),om 2 4]
def Es:C:=(sr zf [0] (sr zg [2] .ret))
theorem P4:cz gU Es [(.tmp 2)] 5:=dh func163 rfl
def kP:=[ok 4 (vI 0)]
def kQ:=[om 6 0,oo 7 (.len false (.t 6)),ok 8 (vI 0)]
def kR:=[bM 9 .lss 8 7]
def kS:=[om 10 8,om 5 10]
def kT:=[om 11 1,om 12 0,om 13 5,ep 14 1 12 13,bd 15 1 14,bM 16 .eql 11 15]
def kU:=[om 17 5,om 4 17]
def kV:=[fv 18 8 1,om 8 18]
def kq:C:=(sr kR [0,1,7,8,9] (ss (sc 9 .skip (.exit 0)) (ss (.block 1 (sr kS [0,1,5,7,8] (sr kT [0,1,5,7,8,16] (sc 16 (sr kU [4] .ret) .skip)))) (.reg kV [0,1,7,8]))))
def kW:=[ok 4 (vI (-1))]
def mq:C:=(sr kP [0,1] (ss (sr kQ [0,1,7,8] (.block 0 (.loop kq))) (sr kW [4] .ret)))
theorem yt:cz il mq [(.tmp 4)] 19:=dh func110 rfl
def idx {α:Type} (p:α->Bool) (l:List α):Int:=if l.findIdx p < l.length then (l.findIdx p:Nat) else -1
theorem abY {α:Type} {p:α->Bool} {l:List α} {i:Nat} (hi:i < l.length) (h:∀ j (_:j < i),p (l[j]'(by omega))=false) (hp:p l[i]=true):idx p l=i:=by
 have e:l.findIdx p=i:=(List.findIdx_eq hi).2 ⟨hp,h⟩;simp[idx,e,hi]
theorem WA {α:Type} {p:α->Bool} {l:List α} (h:∀ j (_:j < l.length),p l[j]=false):idx p l = -1:=by
 have e:l.findIdx p=l.length:=by
  rw[List.findIdx_eq_length];intro x hx;obtain ⟨j,hj,rfl⟩:=List.getElem_of_mem hx;exact h j hj
 simp[idx,e]
theorem Zq {α:Type} {p:α->Bool} {l:List α}:decide (0<=idx p l)=l.any p:=by
 rw[Bool.eq_iff_iff,decide_eq_true_iff,List.any_eq_true];unfold idx;constructor
 ·intro h;split at h
  ·rename_i hlt;exact⟨_,List.getElem_mem hlt,List.findIdx_getElem⟩
  ·omega
 ·rintro ⟨x,hx,hp⟩;rw[if_pos (List.findIdx_lt_length_of_exists ⟨x,hx,hp⟩)];omega
theorem Hl (l:List Int) (x:Int):cJ il [.ro 1 (gu l),I x] (I (idx (fun y=>decide (y=x)) l)):=by
 refine aa.ofL yt (by simp) fun hl=>?_;simp at hl;simp[mq,kP,kQ,kW];refine Ly (fun i:Nat=>⟨[(0,.ro 1 (gu l)),(1,I x),(7,I l.length),(8,I i)],[],[]⟩) (fun i=>l.length - i) (fun i=>i<=l.length/\∀ j (_:j < i) (hj:j < l.length),decide (l[j]=x)=false) 0 Wk.li (by simp) ?_;rintro i ⟨hi,hj⟩;simp[kR,kq];refine⟨fun hlt=>?_,fun hge=>?_⟩
 ·simp[kS,kT,hlt];refine⟨fun ht=>?_,fun hf=>?_⟩
  ·simp[kU];exact(abY hlt (fun j h=>hj j h (by omega)) (by simpa using ht.symm)).symm
  ·simp[kV];rw[am (by omega)];refine Ov (i+1) (by omega) ⟨by omega,fun j h h'=>?_⟩ Wk.li;by_cases e:j=i
   ·subst e;simpa using fun h=>hf h.symm
   ·simpa using hj j (by omega) h'
 ·have:idx (fun y=>decide (y=x)) l = -1:=WA fun j h=>hj j (by omega) h;simp[this]
theorem Hh (x:Int):cJ oP [I x] (B (fu x 1 9)):=by
 refine aa.of V7 (by simp) ?_;simp[QW,Mr,Ms];exact af (nM ..) (by simp)
theorem rN (x:Int):cJ gU [I x] (B (fu x 1 9)):=by
 refine aa.of P4 (by simp) ?_;simp[Es,zf,zg];exact af (fJ ..) (by simp)
def ahS (n:Nat) (r:List Int):Bool:=decide (r.length=n)&&r.all fun x=>fu x 1 9
def ahX (b:List (List Int)):Nat:=(b.headD []).length
def aiV (b:List (List Int)):Bool:=fu b.length 1 60&&fu (ahX b) 1 60&&b.all (ahS (ahX b))
structure Field where
 division:Int
 line:Int
 first:Int
 second:Int
 deriving DecidableEq
structure Group where
 count:Int
 kind:Int
 attitude:Int
 tincture:Int
 deriving DecidableEq
structure Arms where
 field:Field
 ordinary:Int
 line:Int
 tincture:Int
 on:Group
 around:Group
 deriving DecidableEq
abbrev jw (f:Field):V:=.agg [I f.division,I f.line,I f.first,I f.second]
abbrev gl (g:Group):V:=.agg [I g.count,I g.kind,I g.attitude,I g.tincture]
abbrev dM (a:Arms):V:=.agg [I a.field.division,I a.field.line,I a.field.first,I a.field.second,I a.ordinary,I a.line,I a.tincture,
 I a.on.count,I a.on.kind,I a.on.attitude,I a.on.tincture,I a.around.count,I a.around.kind,I a.around.attitude,I a.around.tincture]
def bz (f:Field):Bool:=fu f.division 0 7&&fu f.line 0 4&&fu f.first 1 9&&(if f.division=0 then f.line==0&&f.second==0 else fu f.second 1 9&&f.second != f.first)
def bw (g:Group):Bool:=fu g.count 1 6&&fu g.kind 1 8&&fu g.tincture 1 9&&(if g.kind<=3 then fu g.attitude 1 2 else g.attitude==0)
def g0 (g:Group):Bool:=g.count==0&&(g.kind==0&&(g.attitude==0&&g.tincture==0))
def arms (a:Arms):Bool:=bz a.field&&(g0 a.around||bw a.around)&&(if a.ordinary=0 then a.line==0&&a.tincture==0&&g0 a.on else fu a.ordinary 1 7&&fu a.line 0 4&&fu a.tincture 1 9&&(g0 a.on||bw a.on))
def NV (b:Bool):Int:=if b then 1 else 0
def ai1 (a:Arms):Int:=1+NV (a.ordinary != 0)+NV (!g0 a.on)+NV (!g0 a.around)
theorem Ww (x:Int):cJ Bi [I x] (B (fu x 0 4)):=by
 refine aa.of V3 (by simp) ?_;simp[QT,LX,LY];exact af (fJ ..) (by simp)
theorem abW (x:Int):cJ Kn [I x] (B (fu x 1 8)):=by
 refine aa.of V2 (by simp) ?_;simp[QS,LV,LW];exact af (fJ ..) (by simp)
theorem Sl (x:Int):cJ Bq [I x] (B (fu x 0 4)):=by
 refine aa.of Wa (by simp) ?_;simp[QZ,Mz,MA];exact af (nM ..) (by simp)
theorem acS (x:Int):cJ Kt [I x] (B (fu x 1 8)):=by
 refine aa.of Wd (by simp) ?_;simp[Q1,ML,MM];exact af (nM ..) (by simp)
theorem Oz (x:Int):cJ vf [I x] (B (decide (x<=3))):=by
 refine aa.of Uz (by simp) ?_;simp[OR,IQ,IU]
theorem jM (g:Group):cJ gA [gl g] (B (g0 g)):=by
 refine aa.of We (by simp) ?_;simp[Q2,MN,MO,g0]
theorem pL (b:Bool):cJ gy [B b] (I (NV b)):=by
 refine aa.of V5 (by simp) ?_;cases b<;>simp[QV,Ma,Mb,Mc,Md,NV]
def bA (k:Int):List (List UInt8):=if k=1 then [[114,97,109,112,97,110,116],[112,97,115,115,97,110,116]] else if k=2 then [[100,105,115,112,108,97,121,101,100],[114,105,115,105,110,103]] else if k=3 then [[115,119,105,109,109,105,110,103],[117,112,114,105,103,104,116]] else []
theorem HW (k:Int):((bA k).length:Int)=if 1<=k/\k<=3 then 2 else 0:=by
 unfold bA;split
 ·rw[if_pos (by omega)];rfl
 ·split
  ·rw[if_pos (by omega)];rfl
  ·split
   ·rw[if_pos (by omega)];rfl
   ·rw[if_neg (by omega)];rfl
theorem O8 (k:Int):cJ pA [I k] (.own 1 ((bA k).map S)):=by
 refine aa.of Rm (by simp) ?_;by_cases h1:k=1
 ·simp[kk,iI,iJ,iK,iL,iM,iN,iO,iP,iQ,h1,bA]
 by_cases h2:k=2
 ·simp[kk,iI,iJ,iK,iL,iM,iN,iO,iP,iQ,h2,bA]
 by_cases h3:k=3
 ·simp[kk,iI,iJ,iK,iL,iM,iN,iO,iP,iQ,h3,bA]
 simp[kk,iI,iJ,iK,iL,iM,iN,iO,iP,iQ,h1,h2,h3,bA]
theorem acP (f:Field):cJ Kq [jw f] (B (bz f)):=by
 refine aa.of V9 (by simp) ?_;simp[QY,Mv,Mw];refine af (nM ..) ?_;cases h1:fu f.division 0 7 with
 | false=>simp[rY,bz,h1]
 | true =>
 simp;refine af (Sl ..) ?_;cases h2:fu f.line 0 4 with
 | false=>simp[rY,bz,h2]
 | true =>
 simp;refine af (Hh ..) ?_;cases h3:fu f.first 1 9 with
 | false=>simp[rY,bz,h3]
 | true =>
 simp[Mx];refine⟨fun h4=>?_,fun h4=>?_⟩
 ·by_cases h5:f.line=0
  ·simp[BQ,bz,h1,h2,h3,h4,h5,show fu 0 0 7=true from rfl,show fu 0 0 4=true from rfl]
  ·simp[BQ,bz,h1,h2,h3,h4,h5]
 ·simp[My];refine af (Hh ..) ?_;cases h5:fu f.second 1 9 with
  | false=>simp[bz,h1,h2,h3,h4,h5]
  | true =>
    simp[bz,h1,h2,h3,h4,h5]
theorem sX (f:Field):cJ gV [jw f] (B (bz f)):=by
 refine aa.of Li (by simp) ?_;simp[yb,tE,tF];refine af (fJ ..) ?_;cases h1:fu f.division 0 7 with
 | false=>simp[iu,bz,h1]
 | true =>
 simp;refine af (Ww ..) ?_;cases h2:fu f.line 0 4 with
 | false=>simp[iu,bz,h2]
 | true =>
 simp;refine af (rN ..) ?_;cases h3:fu f.first 1 9 with
 | false=>simp[iu,bz,h3]
 | true =>
 simp[tG];refine⟨fun h4=>?_,fun h4=>?_⟩
 ·by_cases h5:f.line=0
  ·simp[lw,bz,h1,h2,h3,h4,h5,show fu 0 0 7=true from rfl,show fu 0 0 4=true from rfl]
  ·simp[lw,bz,h1,h2,h3,h4,h5]
 ·simp[tH];refine af (rN ..) ?_;cases h5:fu f.second 1 9 with
  | false=>simp[bz,h1,h2,h3,h4,h5]
  | true =>
    simp[bz,h1,h2,h3,h4,h5]
theorem OA (g:Group):cJ vg [gl g] (B (bw g)):=by
 refine aa.of UA (by simp) ?_;simp[OS,IV,IW];refine af (nM ..) ?_;cases h1:fu g.count 1 6 with
 | false=>simp[pE,bw,h1]
 | true =>
 simp;refine af (acS ..) ?_;cases h2:fu g.kind 1 8 with
 | false=>simp[pE,bw,h2]
 | true =>
 simp;refine af (Hh ..) ?_;cases h3:fu g.tincture 1 9 with
 | false=>simp[pE,bw,h3]
 | true =>
 simp[IX];refine af (Oz ..) ?_;simp;refine⟨fun h4=>?_,fun h4=>?_⟩
 ·simp[IY];refine af (nM ..) ?_;simp[bw,h1,h2,h3,h4]
 ·have h4':¬g.kind<=3:=by omega
  simp[IZ,bw,h1,h2,h3,h4']
theorem RB (g:Group):cJ oL [gl g] (B (bw g)):=by
 refine aa.of Lj (by simp) ?_;simp[yd,tI,tJ];refine af (fJ ..) ?_;cases h1:fu g.count 1 6 with
 | false=>simp[iv,bw,h1]
 | true =>
 simp;refine af (abW ..) ?_;cases h2:fu g.kind 1 8 with
 | false=>simp[iv,bw,h2]
 | true =>
 have h2':=bH.1 h2;simp;refine af (rN ..) ?_;cases h3:fu g.tincture 1 9 with
 | false=>simp[iv,bw,h3]
 | true =>
 simp[tK];have hl:=HW g.kind;have hc:=O8 g.kind;generalize bA g.kind=l at hl hc;refine bN (aa.ag hc) ?_;simp[hl];by_cases h4:g.kind<=3
 ·simp[lx,tL,hl,h2',h4];refine af (fJ ..) ?_;simp[bw,h1,h2,h3,h4]
 ·simp[lx,hl,h2',h4];simp[tM,bw,h1,h2,h3,h4]
theorem TB (g:Group):cJ vd [gl g] (B (g0 g||bw g)):=by
 refine aa.of Ut (by simp) ?_;cases h:g0 g with
 | true =>
   have e:(g.count==0&&(g.kind==0&&(g.attitude==0&&g.tincture==0)))=true:=h;simp only[Bool.and_eq_true,beq_iff_eq] at e;obtain ⟨e1,e2,e3,e4⟩:=e;simp[Et,xA,xC,e1,e2,e3,e4]
 | false =>
   have e:(g.count==0&&(g.kind==0&&(g.attitude==0&&g.tincture==0)))=false:=h;simp[Et,xA,xC,e];exact af (aa.ag (RB g)) (by simp)
theorem UN (x l t:Int):cJ tk [I x,I l,I t] (B (fu x 1 7&&fu l 0 4&&fu t 1 9)):=by
 refine aa.of P5 (by simp) ?_;simp[Eu,zx,zy];refine af (fJ ..) ?_;cases h1:fu x 1 7 with
 | false=>simp
 | true =>
 simp;refine af (Ww ..) ?_;cases h2:fu l 0 4 with
 | false=>simp
 | true =>
 simp;exact af (rN ..) (by simp)
theorem SZ (a:Arms):cJ qy [dM a] (B (arms a)):=by
 refine aa.of N2 (by simp) ?_;simp[Cj,vA,vC];refine af (aa.ag (sX a.field)) ?_;cases h1:bz a.field with
 | false=>simp[m9,arms,h1]
 | true =>
 simp;refine af (aa.ag (TB a.around)) ?_;cases h2:(g0 a.around||bw a.around) with
 | false=>simp[m9,arms,h2]
 | true =>
 simp[vD];refine⟨fun h3=>?_,fun h3=>?_⟩
 ·have e:(a.on.count==0&&(a.on.kind==0&&(a.on.attitude==0&&a.on.tincture==0)))=g0 a.on:=rfl;by_cases h4:a.line=0
  ·by_cases h5:a.tincture=0
   ·simp[jn,h4,h5,e];simp[arms,h1,h2,h3,h4,h5]
   ·simp[jn,h4,h5,arms,h3]
  ·simp[jn,h4,arms,h3]
 ·simp[vE];refine af (UN ..) ?_;cases h4:(fu a.ordinary 1 7&&fu a.line 0 4&&fu a.tincture 1 9) with
  | false =>
    have:arms a=false:=by simp only[arms,h3,if_false,h4,Bool.false_and,Bool.and_false]
    simp[this]
  | true =>
    simp;refine af (aa.ag (TB a.on)) ?_;have:arms a=(g0 a.on||bw a.on):=by simp only[arms,h1,h2,h3,if_false,h4,Bool.true_and]
    simp[this]
theorem acU (a:Arms):cJ Kv [dM a] (B (arms a)):=by
 refine aa.of Wh (by simp) ?_;simp[Q5,MU,MV];refine af (aa.ag (acP a.field)) ?_;cases h1:bz a.field with
 | false=>simp[r9,arms,h1]
 | true =>
 simp;refine af (nM ..) ?_;cases h0:fu a.ordinary 0 7 with
 | false =>
   have h0':=Zr.1 h0;have h3:¬a.ordinary=0:=by omega
   have h4:fu a.ordinary 1 7=false:=Zr.2 (by omega);simp[r9,arms,h3,h4]
 | true =>
 have h0':=bH.1 h0;simp;refine af (aa.ag (jM a.around)) ?_;cases hN:g0 a.around with
 | true =>
   have hA:(g0 a.around||bw a.around)=true:=by rw[hN];rfl
   simp[BV];refine⟨fun h3=>?_,fun h3=>?_⟩
   ·by_cases h4:a.line=0
    ·by_cases h5:a.tincture=0
     ·simp[iB,h4,h5];refine af (aa.ag (jM a.on)) ?_;simp[arms,h1,hA,h3,h4,h5]
     ·simp[iB,h4,h5,arms,h3]
    ·simp[iB,h4,arms,h3]
   ·have h0:fu a.ordinary 1 7=true:=bH.2 (by omega);simp[BW];refine af (Sl ..) ?_;cases h4:fu a.line 0 4 with
    | false=>simp[arms,h3,h4]
    | true =>
    simp;refine af (Hh ..) ?_;cases h5:fu a.tincture 1 9 with
    | false=>simp[arms,h3,h5]
    | true =>
    simp;refine af (aa.ag (jM a.on)) ?_;cases h6:g0 a.on with
    | true=>simp[arms,h0,h1,hA,h3,h4,h5,h6]
    | false =>
    simp;refine af (aa.ag (OA a.on)) ?_;simp[arms,h0,h1,hA,h3,h4,h5,h6]
 | false =>
   simp;refine af (aa.ag (OA a.around)) ?_;cases hG:bw a.around with
   | false=>simp[r9,arms,hN,hG]
   | true =>
     have hA:(g0 a.around||bw a.around)=true:=by rw[hN,hG];rfl
     simp[BV];refine⟨fun h3=>?_,fun h3=>?_⟩
     ·by_cases h4:a.line=0
      ·by_cases h5:a.tincture=0
       ·simp[iB,h4,h5];refine af (aa.ag (jM a.on)) ?_;simp[arms,h1,hA,h3,h4,h5]
       ·simp[iB,h4,h5,arms,h3]
      ·simp[iB,h4,arms,h3]
     ·have h0:fu a.ordinary 1 7=true:=bH.2 (by omega);simp[BW];refine af (Sl ..) ?_;cases h4:fu a.line 0 4 with
      | false=>simp[arms,h3,h4]
      | true =>
      simp;refine af (Hh ..) ?_;cases h5:fu a.tincture 1 9 with
      | false=>simp[arms,h3,h5]
      | true =>
      simp;refine af (aa.ag (jM a.on)) ?_;cases h6:g0 a.on with
      | true=>simp[arms,h0,h1,hA,h3,h4,h5,h6]
      | false =>
      simp;refine af (aa.ag (OA a.on)) ?_;simp[arms,h0,h1,hA,h3,h4,h5,h6]
def XH:List (List UInt8):=[[103,111,108,100],[115,105,108,118,101,114],[114,101,100],[98,108,117,101],[98,108,97,99,107],[103,114,101,101,110],[112,117,114,112,108,101],[101,114,109,105,110,101],[118,97,105,114]]
def WM:List (List UInt8):=[[101,110,103,114,97,105,108,101,100],[119,97,118,121],[101,109,98,97,116,116,108,101,100],[105,110,100,101,110,116,101,100]]
def abH:List (List UInt8):=[[112,101,114,32,112,97,108,101],[112,101,114,32,102,101,115,115],[112,101,114,32,98,101,110,100],[113,117,97,114,116,101,114,108,121],[112,101,114,32,115,97,108,116,105,114,101],[112,97,108,121],[98,97,114,114,121]]
def yv:List (List UInt8):=[[108,105,111,110],[101,97,103,108,101],[102,105,115,104],[114,111,115,101],[115,116,97,114],[116,111,119,101,114],[107,101,121],[115,119,111,114,100]]
def NZ:List (List UInt8):=[[97],[116,119,111],[116,104,114,101,101],[102,111,117,114],[102,105,118,101],[115,105,120]]
def aaA:List (List UInt8):=[[112,97,108,101],[102,101,115,115],[98,101,110,100],[99,104,101,118,114,111,110],[99,114,111,115,115],[115,97,108,116,105,114,101],[99,104,105,101,102]]
def ox (x:Int):List UInt8:=XH.getD (x - 1).toNat []
def WN (x:Int):List UInt8:=WM.getD (x - 1).toNat []
def VR (x:Int):List UInt8:=abH.getD (x - 1).toNat []
def pM (k c:Int):List UInt8:=yv.getD (k - 1).toNat []++(if 1 < c/\k≠3 then [115] else [])
def ia (c k:Int):List UInt8:=if c=1/\k=2 then [97,110] else NZ.getD (c - 1).toNat []
def Xc (x:Int):List UInt8:=aaA.getD (x - 1).toNat []
def uI (t:List UInt8) (x:Int):List UInt8:=if x=0 then t else t++32::WN x
def d7 (f:Field):List UInt8:=if f.division=0 then ox f.first else uI (VR f.division) f.line++32::(ox f.first++[32,97,110,100,32]++ox f.second)
def fC (g:Group):List UInt8:=ia g.count g.kind++32::(pM g.kind g.count++(if 0 < g.attitude then 32::(bA g.kind).getD (g.attitude - 1).toNat [] else [])++32::ox g.tincture)
def LC (o l:Int):List UInt8:=uI ([97,32]++Xc o) l
def H9 (o:Int):List UInt8:=if o=0 then [44,32] else if o=7 then [32,97,98,111,118,101,32] else [32,98,101,116,119,101,101,110,32]
def cI (a:Arms):List UInt8:=d7 a.field++(if a.ordinary=0 then [] else [44,32]++LC a.ordinary a.line++32::ox a.tincture)++(if g0 a.on then [] else [32,99,104,97,114,103,101,100,32,119,105,116,104,32]++fC a.on)++(if g0 a.around then [] else H9 a.ordinary++fC a.around)
theorem mu {l:List (List UInt8)} {m:Nat} (h:∀ x ∈ l,x.length<=m) (i:Nat):(l.getD i []).length<=m:=by
 rw[List.getD_eq_getElem?_getD];cases hi:l[i]? with
 | none=>simp
 | some x=>exact h x (List.mem_of_getElem? hi)
theorem fG (x:Int):(ox x).length<=12:=mu (by decide) _
theorem HF (x:Int):(WN x).length<=12:=mu (by decide) _
theorem Rf (x:Int):(VR x).length<=12:=mu (by decide) _
theorem R1 (x:Int):(Xc x).length<=12:=mu (by decide) _
theorem HE (k c:Int):(pM k c).length<=13:=by
 have:=mu (l:=yv) (m:=12) (by decide) (k - 1).toNat;unfold pM;rw[List.length_append];split<;>simp only[List.length_singleton,List.length_nil]<;>omega
theorem J2 (c k:Int):(ia c k).length<=12:=by
 unfold ia;split
 ·decide
 ·exact mu (by decide) _
theorem QL (k:Int) (i:Nat):((bA k).getD i []).length<=12:=mu (by
 unfold bA;split
 ·decide
 ·split
  ·decide
  ·split
   ·decide
   ·simp) _
theorem OG (t:List UInt8) (x:Int):(uI t x).length<=t.length+13:=by
 have:=HF x;unfold uI;split<;>simp<;>omega
theorem A9 (f:Field):(d7 f).length<=60:=by
 have h1:=fG f.first
 have h2:=fG f.second;have h3:=Rf f.division;have h4:=OG (VR f.division) f.line;unfold d7;split
 ·omega
 ·simp;omega
theorem ic (g:Group):(fC g).length<=60:=by
 have h1:=J2 g.count g.kind;have h2:=HE g.kind g.count;have h3:=QL g.kind (g.attitude - 1).toNat;have h4:=fG g.tincture;unfold fC;split<;>simp only[List.length_append,List.length_cons,List.length_nil]<;>omega
theorem LD (o l:Int):(LC o l).length<=30:=by
 have h1:=R1 o;have h2:=OG ([97,32]++Xc o) l;unfold LC;simp at h2 ⊢;omega
theorem TC (o:Int):(H9 o).length<=10:=by unfold H9;split<;>(try split)<;>decide
theorem Hy (a:Arms):(cI a).length<=300:=by
 have h1:=A9 a.field;have h2:=LD a.ordinary a.line;have h3:=fG a.tincture;have h4:=ic a.on;have h5:=ic a.around;have h6:=TC a.ordinary;unfold cI;split<;>split<;>split<;>simp<;>omega
theorem acb {d:Int} (h:1<=d/\d<=9):([S [103,111,108,100],S [115,105,108,118,101,114],S [114,101,100],S [98,108,117,101],S [98,108,97,99,107],S [103,114,101,101,110],S [112,117,114,112,108,101],S [101,114,109,105,110,101],S [118,97,105,114]]:List V)[(d - 1).toNat]?=some (S (ox d)):=by
 obtain rfl | rfl | rfl | rfl | rfl | rfl | rfl | rfl | rfl:d=1\/d=2\/d=3\/d=4\/d=5\/d=6\/d=7\/d=8\/d=9:=by omega
 all_goals rfl
theorem aaf {d:Int} (h:1<=d/\d<=4):([S [],S [101,110,103,114,97,105,108,101,100],S [119,97,118,121],S [101,109,98,97,116,116,108,101,100],S [105,110,100,101,110,116,101,100]]:List V)[d.toNat]?=some (S (WN d)):=by
 obtain rfl | rfl | rfl | rfl:d=1\/d=2\/d=3\/d=4:=by omega
 all_goals rfl
theorem ab8 {d:Int} (h:1<=d/\d<=7):([S [],S [112,101,114,32,112,97,108,101],S [112,101,114,32,102,101,115,115],S [112,101,114,32,98,101,110,100],S [113,117,97,114,116,101,114,108,121],S [112,101,114,32,115,97,108,116,105,114,101],S [112,97,108,121],S [98,97,114,114,121]]:List V)[d.toNat]?=some (S (VR d)):=by
 obtain rfl | rfl | rfl | rfl | rfl | rfl | rfl:d=1\/d=2\/d=3\/d=4\/d=5\/d=6\/d=7:=by omega
 all_goals rfl
theorem aca {d:Int} (h:1<=d/\d<=7):([S [],S [112,97,108,101],S [102,101,115,115],S [98,101,110,100],S [99,104,101,118,114,111,110],S [99,114,111,115,115],S [115,97,108,116,105,114,101],S [99,104,105,101,102]]:List V)[d.toNat]?=some (S (Xc d)):=by
 obtain rfl | rfl | rfl | rfl | rfl | rfl | rfl:d=1\/d=2\/d=3\/d=4\/d=5\/d=6\/d=7:=by omega
 all_goals rfl
theorem ab9 {d:Int} (h:1<=d/\d<=8):([S [108,105,111,110],S [101,97,103,108,101],S [102,105,115,104],S [114,111,115,101],S [115,116,97,114],S [116,111,119,101,114],S [107,101,121],S [115,119,111,114,100]]:List V)[(d - 1).toNat]?=some (S (yv.getD (d - 1).toNat [])):=by
 obtain rfl | rfl | rfl | rfl | rfl | rfl | rfl | rfl:d=1\/d=2\/d=3\/d=4\/d=5\/d=6\/d=7\/d=8:=by omega
 all_goals rfl
theorem TG {d:Int} (h:1<=d/\d<=6):([S [97],S [116,119,111],S [116,104,114,101,101],S [102,111,117,114],S [102,105,118,101],S [115,105,120]]:List V)[(d - 1).toNat]?=some (S (NZ.getD (d - 1).toNat [])):=by
 obtain rfl | rfl | rfl | rfl | rfl | rfl:d=1\/d=2\/d=3\/d=4\/d=5\/d=6:=by omega
 all_goals rfl
theorem uE (x:Int) (h:fu x 1 9=true):cJ lu [I x] (S (ox x)):=by
 have h':=bH.1 h;refine aa.of V8 (by simp) ?_;simp[QX,Mt,Mu];rw[am (n:=x - 1) (by omega),acb h'];exact⟨by omega,by simp⟩
theorem NI (x:Int) (h:1<=x/\x<=4):cJ mM [I x] (S (WN x)):=by
 refine aa.of P8 (by simp) ?_;simp[Ex,Ak,Al];rw[aaf h];exact⟨by omega,by simp⟩
set_option maxHeartbeats 1000000 in
theorem acQ (f:Field) (h:bz f=true):cJ Kr [jw f] (S (d7 f)):=by
 simp only[bz,Bool.and_eq_true,bH] at h;obtain ⟨⟨⟨h1,h2⟩,h3⟩,h4⟩:=h;have b1:=fG f.first
 have b2:=fG f.second;have b3:=Rf f.division;have b4:=HF f.line;refine aa.of Wb (by simp) ?_;by_cases h0:f.division=0
 ·simp[JY,BR,BS,MB,h0];exact af (aa.ag (uE f.first (bH.2 h3))) (by simp[d7,h0])
 ·rw[if_neg h0] at h4;simp only[Bool.and_eq_true,bH] at h4;simp[JY,BR,BS,MC,h0];rw[ab8 (d:=f.division) (by omega)];refine⟨by omega,?_⟩;simp[MD];by_cases hl:f.line=0
  ·refine⟨fun h=>by omega,fun _=>?_⟩;simp[BT,mW]
   repeat (refine⟨by omega,?_⟩)
   refine bu (aa.ag (uE f.first (bH.2 h3))) ?_;simp
   repeat (refine⟨by omega,?_⟩)
   refine bu (aa.ag (uE f.second (bH.2 h4.1))) ?_;simp
   repeat (refine⟨by omega,?_⟩)
   refine⟨aO (by simp[mW]) (by simp),?_⟩;simp[d7,uI,h0,hl]
  ·refine⟨fun _=>?_,fun h=>by omega⟩;simp[ME]
   repeat (refine⟨by omega,?_⟩)
   refine af (aa.ag (NI f.line (by omega))) ?_;simp
   repeat (refine⟨by omega,?_⟩)
   simp[BT,mW]
   repeat (refine⟨by omega,?_⟩)
   refine bu (aa.ag (uE f.first (bH.2 h3))) ?_;simp
   repeat (refine⟨by omega,?_⟩)
   refine bu (aa.ag (uE f.second (bH.2 h4.1))) ?_;simp
   repeat (refine⟨by omega,?_⟩)
   refine⟨aO (by simp[mW]) (by simp),?_⟩;simp[d7,uI,h0,hl]
theorem Vk (o l:Int) (ho:1<=o/\o<=7) (hl:0<=l/\l<=4):cJ tm [I o,I l] (S (LC o l)):=by
 have b1:=R1 o;have b2:=HF l;refine aa.of P9 (by simp) ?_;simp[Ey,Am,An];rw[aca ho]
 repeat (refine⟨by omega,?_⟩)
 simp
 repeat (refine⟨by omega,?_⟩)
 simp[Ao];by_cases h0:l=0
 ·refine⟨fun h=>by omega,fun _=>?_⟩;simp[pw,LC,uI,h0]
 ·refine⟨fun _=>?_,fun h=>by omega⟩;simp[Ap]
  repeat (refine⟨by omega,?_⟩)
  refine af (aa.ag (NI l (by omega))) ?_;simp
  repeat (refine⟨by omega,?_⟩)
  simp[pw,LC,uI,h0]
theorem acV (o:Int):cJ Kw [I o] (S (H9 o)):=by
 refine aa.of Wi (by simp) ?_;by_cases h0:o=0
 ·simp[A7,sg,si,sj,sk,sn,so,sq,h0,H9]
 ·by_cases h7:o=7
  ·simp[A7,sg,si,sj,sk,sn,so,sq,h7,H9]
  ·simp[A7,sg,si,sj,sk,sn,so,sq,h0,h7,H9]
theorem S9 (k:Int):cJ qB [I k] (.own 1 ((bA k).map S)):=by
 refine aa.of N8 (by simp) ?_;by_cases h1:k=1
 ·simp[iF,fV,fW,fX,fY,fZ,f8,f9,ga,gb,h1,bA]
 by_cases h2:k=2
 ·simp[iF,fV,fW,fX,fY,fZ,f8,f9,ga,gb,h2,bA]
 by_cases h3:k=3
 ·simp[iF,fV,fW,fX,fY,fZ,f8,f9,ga,gb,h3,bA]
 simp[iF,fV,fW,fX,fY,fZ,f8,f9,ga,gb,h1,h2,h3,bA]
theorem acT (k c:Int) (hk:1<=k/\k<=8):cJ Ku [I k,I c] (S (pM k c)):=by
 have b:=HE k c;have b0:=mu (l:=yv) (m:=12) (by decide) (k - 1).toNat;refine aa.of Wg (by simp) ?_;simp[Q4,MR,MS];rw[am (n:=k - 1) (by omega),ab9 hk]
 repeat (refine⟨by omega,?_⟩)
 obtain ⟨w,hw⟩:∃ w,yv.getD (k - 1).toNat []=w:=⟨_,rfl⟩;have e:pM k c=w++(if 1 < c/\k≠3 then [115] else []):=by rw[pM,hw]
 rw[hw] at b0 ⊢;rw[e];simp;by_cases h1:1 < c
 ·by_cases h3:k=3
  ·simp[r7,r8,h1,h3]
  ·simp[r7,MT,r8,h1,h3];omega
 ·simp[r7,r8,h1]
theorem uJ {l:List (List UInt8)} {i:Nat} (h:i < l.length):l[i]?=some (l.getD i []):=by
 rw[List.getElem?_eq_getElem h,List.getD_eq_getElem?_getD,List.getElem?_eq_getElem h];rfl
theorem Ug {g:Group} (hg:bw g=true) (ha:0 < g.attitude):(g.attitude - 1).toNat < (bA g.kind).length/\((bA g.kind).map S)[(g.attitude - 1).toNat]?=some (S ((bA g.kind).getD (g.attitude - 1).toNat [])):=by
 have hl:=HW g.kind
 have h:(g.attitude - 1).toNat < (bA g.kind).length:=by
  simp only[bw,Bool.and_eq_true,bH] at hg;obtain ⟨⟨⟨h1,h2⟩,h3⟩,h4⟩:=hg;by_cases hk:g.kind<=3
  ·rw[if_pos hk] at h4;rw[if_pos (by omega)] at hl;have:=bH.1 h4;omega
  ·rw[if_neg hk] at h4;have:g.attitude=0:=by simpa using h4
   omega
 refine⟨h,?_⟩;rw[List.getElem?_map,List.getElem?_eq_getElem h,List.getD_eq_getElem?_getD,List.getElem?_eq_getElem h];rfl
def QM (g:Group):List UInt8:=ia g.count g.kind++32::(pM g.kind g.count++(if 0 < g.attitude then 32::(bA g.kind).getD (g.attitude - 1).toNat [] else []))
theorem O6 (g:Group):fC g=QM g++32::ox g.tincture:=by simp[fC,QM]
theorem uZ {g:Group} (h:bw g=true):(1<=g.count/\g.count<=6)/\(1<=g.kind/\g.kind<=8)/\fu g.tincture 1 9=true/\0<=g.attitude/\g.attitude<=2:=by
 simp only[bw,Bool.and_eq_true,bH] at h;obtain ⟨⟨⟨h1,h2⟩,h3⟩,h4⟩:=h;refine⟨h1,h2,bH.2 h3,?_⟩;split at h4
 ·have:=bH.1 h4;omega
 ·have:g.attitude=0:=by simpa using h4
  omega
set_option maxHeartbeats 1000000 in
theorem acR (g:Group) (h:bw g=true):cJ Ks [gl g] (S (QM g)):=by
 obtain ⟨h1,h2,h3,h4⟩:=uZ h;have b1:=J2 g.count g.kind;have b2:=HE g.kind g.count;have b3:=QL g.kind (g.attitude - 1).toNat;refine aa.of Wc (by simp) ?_;simp[Q0,MF,MG];rw[am (n:=g.count - 1) (by omega),TG h1]
 repeat (refine⟨by omega,?_⟩)
 obtain ⟨w,hw⟩:∃ w,NZ.getD (g.count - 1).toNat []=w:=⟨_,rfl⟩;have e:ia g.count g.kind=if g.count=1/\g.kind=2 then [97,110] else w:=by rw[ia,hw]
 rw[hw];obtain ⟨cw,hcw⟩:∃ cw,ia g.count g.kind=cw:=⟨_,rfl⟩;have hB:QM g=cw++32::(pM g.kind g.count++(if 0 < g.attitude then 32::(bA g.kind).getD (g.attitude - 1).toNat [] else [])):=by rw[QM,hcw]
 rw[hcw] at b1 e;rw[hB];simp;rcases Classical.em (g.count=1/\g.kind=2) with hc | hc
 case' inl =>
  rw[if_pos hc] at e;simp[rZ,MH,hc.1,hc.2];refine dY ⟨[(1,.ref 1 0 0),(3,S cw)],[(1,⟨4,[gl g]⟩)],[]⟩ (Wk.list rfl (by simp[e]) (by simp)) ?_
 case' inr =>
  rw[if_neg hc] at e;have hc':g.count=1->¬g.kind=2:=fun a b=>hc ⟨a,b⟩;rcases Classical.em (g.count=1) with hc1 | hc1
  case' inl =>
   simp[rZ,hc1,hc' hc1];refine dY ⟨[(1,.ref 1 0 0),(3,S cw)],[(1,⟨4,[gl g]⟩)],[]⟩ (Wk.list rfl (by simp[e]) (by simp)) ?_
  case' inr =>
   simp[rZ,hc1];refine dY ⟨[(1,.ref 1 0 0),(3,S cw)],[(1,⟨4,[gl g]⟩)],[]⟩ (Wk.list rfl (by simp[e]) (by simp)) ?_
 all_goals
  simp[MI]
  repeat (refine⟨by omega,?_⟩)
  refine af (aa.ag (acT g.kind g.count h2)) ?_;simp
  repeat (refine⟨by omega,?_⟩)
  simp[MJ];by_cases ha:0 < g.attitude
  ·obtain ⟨g1,g2⟩:=Ug h ha;refine⟨fun _=>?_,fun h=>by omega⟩;simp[MK,Bx]
   repeat (refine⟨by omega,?_⟩)
   refine ft (aa.ag (S9 g.kind)) ?_;simp;rw[am (n:=g.attitude - 1) (by omega),uJ g1]
   repeat (refine⟨by omega,?_⟩)
   obtain ⟨aw,haw⟩:∃ aw,(bA g.kind).getD (g.attitude - 1).toNat []=aw:=⟨_,rfl⟩;rw[haw] at b3 ⊢;simp[ha]
   repeat (refine⟨by omega,?_⟩)
   refine⟨aO (by simp[Bx]) (by simp),?_⟩;simp[BU,ha]
  ·refine⟨fun h=>by omega,fun _=>?_⟩;simp[BU,ha]
theorem Xt (g:Group) (h:bw g=true):cJ Br [gl g] (S (fC g)):=by
 obtain ⟨h1,h2,h3,h4⟩:=uZ h;have b0:=ic g;rw[O6] at b0 ⊢;simp only[List.length_append,List.length_cons] at b0;refine aa.of Wf (by simp) ?_;simp[Q3,MP,MQ,Bz];refine bu (aa.ag (acR g h)) ?_;simp
 repeat (refine⟨by omega,?_⟩)
 refine bu (aa.ag (uE g.tincture h3)) ?_;simp
 repeat (refine⟨by omega,?_⟩)
 exact aO (by simp[Bz]) (by simp)
theorem Qi:cJ mF [] (.own 1 (XH.map S)):=by
 refine aa.of Kb (by simp) ?_;simp[uT,rh,ri,XH]
theorem Wy:cJ xq [] (.own 1 (WM.map S)):=by
 refine aa.of Rp (by simp) ?_;simp[H2,C8,C9,WM]
theorem Qe:cJ mB [] (.own 1 (abH.map S)):=by
 refine aa.of J7 (by simp) ?_;simp[uQ,qZ,q0,abH]
theorem Qg:cJ mD [] (.own 1 (aaA.map S)):=by
 refine aa.of J9 (by simp) ?_;simp[uS,q9,ra,aaA]
theorem Wx:cJ xp [] (.own 1 (yv.map S)):=by
 refine aa.of Ro (by simp) ?_;simp[HZ,C6,C7,yv]
theorem oB (x:Int) (h:fu x 1 9=true):cJ ii [I x] (S (ox x)):=by
 have h':=bH.1 h;have hl:XH.length=9:=rfl;have hw:XH[(x - 1).toNat]?=some (ox x):=uJ (by omega);refine aa.of SJ (by simp) ?_;simp[K0,Fy,Fz];refine km Qi rfl (.inl (by simp)) (by simp) ?_;simp;rw[am (n:=x - 1) (by omega),hw];exact⟨by omega,by simp⟩
theorem RC (t:List UInt8) (x:Int) (h:0<=x/\x<=4) (ht:t.length<=1000):cJ rR [S t,I x] (S (uI t x)):=by
 have hl:WM.length=4:=rfl;have b:=HF x;refine aa.of SK (by simp) ?_;by_cases h0:x=0
 ·simp[A6,tO,tP,FA,h0,uI]
 ·have hw:WM[(x - 1).toNat]?=some (WN x):=uJ (by omega);simp[A6,tO,tP,FB,h0]
  repeat (refine⟨by omega,?_⟩)
  refine km Wy rfl (.inl (by simp)) (by simp) ?_;simp
  repeat (refine⟨by omega,?_⟩)
  rw[am (n:=x - 1) (by omega),hw]
  repeat (refine⟨by omega,?_⟩)
  simp[uI,h0]
  try omega
theorem Qf (o l:Int) (ho:1<=o/\o<=7) (hl:0<=l/\l<=4):cJ mC [I o,I l] (S (LC o l)):=by
 have hL:aaA.length=7:=rfl;have b:=R1 o;have hw:aaA[(o - 1).toNat]?=some (Xc o):=uJ (by omega);refine aa.of J8 (by simp) ?_;simp[uR,q7,q8];refine km Qg rfl (.inl (by simp)) (by simp) ?_;simp;rw[am (n:=o - 1) (by omega),hw]
 repeat (refine⟨by omega,?_⟩)
 simp
 repeat (refine⟨by omega,?_⟩)
 refine af (aa.ag (RC ([97,32]++Xc o) l hl (by simp;omega))) ?_;simp[LC]
theorem Wv (c k:Int) (hc:1<=c/\c<=6):cJ xo [I c,I k] (S (ia c k)):=by
 refine aa.of Rn (by simp) ?_;by_cases h1:c=1
 ·by_cases h2:k=2
  ·simp[py,lh,lj,C5,h1,h2,ia]
  ·simp[py,lh,lj,qI,h1,h2,ia,NZ];rw[show IntKind.i64.wrap 0=0 from rfl];simp[h1,h2,ia,NZ]
 ·have e:ia c k=NZ.getD (c - 1).toNat []:=by rw[ia,if_neg (fun h=>h1 h.1)]
  rw[e];simp[py,lh,lj,qI,h1];rw[am (n:=c - 1) (by omega),TG hc]
  repeat (refine⟨by omega,?_⟩)
  simp
theorem Yj (k c:Int) (hk:1<=k/\k<=8):cJ Bj [I k,I c] (S (pM k c)):=by
 have hL:yv.length=8:=rfl;have b0:=mu (l:=yv) (m:=12) (by decide) (k - 1).toNat;have hk':yv[(k - 1).toNat]?=some (yv.getD (k - 1).toNat []):=uJ (by omega);obtain ⟨w,hw⟩:∃ w,yv.getD (k - 1).toNat []=w:=⟨_,rfl⟩;have e:pM k c=w++(if 1 < c/\k≠3 then [115] else []):=by rw[pM,hw]
 rw[hw] at b0 hk';rw[e];refine aa.of SI (by simp) ?_;simp[KZ,Fu,Fv];refine km Wx rfl (.inl (by simp)) (by simp) ?_;simp;rw[am (n:=k - 1) (by omega),hk']
 repeat (refine⟨by omega,?_⟩)
 simp;by_cases h1:1 < c
 ·by_cases h3:k=3
  ·simp[nn,np,h1,h3]
  ·simp[nn,Fw,np,h1,h3];omega
 ·simp[nn,np,h1]
end Go.Proofs.YtjkogbgbienloaaGreatDoor
