/- Parts of the proof that several claims share, part 5. -/
import Derived.Lib.ItoaNum
import Derived.Shelf.Strings.Builder1
import Derived.Shelf.Strings.Builder2
import Derived.Shelf.Strings.OnBuilder
import Derived.Shelf.Small.Bits
import Derived.Shelf.Small.Strs
import Derived.Shelf.Strings.BuilderF
import Derived.Shelf.Utf8.RuneCount
import Derived.Shelf.Strconv.Itoa0
import Derived.Shelf.Strconv.Itoa1
import Derived.Shelf.LaysM
import Derived.Shelf.Strconv.Itoa2
import Derived.Shelf.Strconv.Itoa3
import Derived.Shelf.Strings.Search1
import Derived.Shelf.Strings.Search2
import Derived.Shelf.Strings.Search3
import Derived.Shelf.Strings.Count
import Derived.Shelf.Strings.Shaped
import Derived.Shelf.Sort.Plain
import Derived.Shelf.Strings.Prefix
import Derived.Shelf.Strings.Split
import Derived.Shelf.Strings.SplitShaped
import Derived.Shelf.Unicode.Decode
import Derived.Shelf.Strings.RuneCount
import Derived.Shelf.Strings.Explode
import Derived.Shelf.Bits.Mul64
import Derived.Shelf.Strings.Repeat
import Derived.Shelf.Unicode.DecodeSlow
import Derived.Shelf.Unicode.DecodeAny
import Derived.Shelf.Slices.Turned
import Derived.Shelf.Slices.Equal
import Derived.Shelf.Slices.In.SortNone
import Derived.Test.YtjkogbgbienloaaGreatDoorProg
import Derived.Test.YtjkogbgbienloaaGreatDoorQ4
set_option linter.unusedVariables false
set_option linter.unusedSimpArgs false
namespace Go.Proofs.YtjkogbgbienloaaGreatDoor
open Go.Abs
set_option maxHeartbeats 1000000 in
theorem UM (f:Field) (h:bz f=true):cJ tj [jw f] (S (d7 f)):=by
 simp only[bz,Bool.and_eq_true,bH] at h;obtain ⟨⟨⟨h1,h2⟩,h3⟩,h4⟩:=h;have b1:=fG f.first
 have b2:=fG f.second;have b3:=Rf f.division;have b4:=OG (VR f.division) f.line;refine aa.of P2 (by simp) ?_;by_cases h0:f.division=0
 ·simp[sM,o7,o8,y9,h0];exact af (aa.ag (oB f.first (bH.2 h3))) (by simp[d7,h0])
 ·rw[if_neg h0] at h4;simp only[Bool.and_eq_true,bH] at h4;have hL:abH.length=7:=rfl;have hw:abH[(f.division - 1).toNat]?=some (VR f.division):=uJ (by omega);simp[sM,o7,o8,za,oV,h0];refine ft (aa.ag (Qe)) ?_;simp;rw[am (n:=f.division - 1) (by omega),hw]
  repeat (refine⟨by omega,?_⟩)
  simp;refine bu (aa.ag (RC (VR f.division) f.line (by omega) (by omega))) ?_;simp
  repeat (refine⟨by omega,?_⟩)
  refine bu (aa.ag (oB f.first (bH.2 h3))) ?_;simp
  repeat (refine⟨by omega,?_⟩)
  refine bu (aa.ag (oB f.second (bH.2 h4.1))) ?_;simp
  repeat (refine⟨by omega,?_⟩)
  refine⟨aO (by simp[oV]) (by simp),?_⟩;simp[d7,h0]
set_option maxHeartbeats 1000000 in
theorem Lq (g:Group) (h:bw g=true):cJ mA [gl g] (S (fC g)):=by
 obtain ⟨h1,h2,h3,h4⟩:=uZ h;have b0:=ic g;have b1:=J2 g.count g.kind;have b2:=HE g.kind g.count;have b3:=QL g.kind (g.attitude - 1).toNat;have b4:=fG g.tincture;refine aa.of P3 (by simp) ?_;simp[Er,zb,zc,oW];refine bu (aa.ag (Wv g.count g.kind h1)) ?_;simp
 repeat (refine⟨by omega,?_⟩)
 refine bu (aa.ag (Yj g.kind g.count h2)) ?_;simp
 repeat (refine⟨by omega,?_⟩)
 refine⟨aO (by simp[oW]) (by simp),?_⟩;simp[zd];by_cases ha:0 < g.attitude
 ·obtain ⟨g1,g2⟩:=Ug h ha;refine⟨fun _=>?_,fun h=>by omega⟩;simp[ze,oX];refine ft (aa.ag (O8 g.kind)) ?_;simp;rw[am (n:=g.attitude - 1) (by omega),uJ g1]
  repeat (refine⟨by omega,?_⟩)
  obtain ⟨aw,haw⟩:∃ aw,(bA g.kind).getD (g.attitude - 1).toNat []=aw:=⟨_,rfl⟩;have hG:fC g=ia g.count g.kind++32::(pM g.kind g.count++(32::aw)++32::ox g.tincture):=by rw[fC,haw,if_pos ha]
  rw[haw] at b3 ⊢;rw[hG];simp
  repeat (refine⟨by omega,?_⟩)
  refine⟨aO (by simp[oX]) (by simp),?_⟩;simp[o9]
  repeat (refine⟨by omega,?_⟩)
  refine af (aa.ag (oB g.tincture h3)) ?_;simp;omega
 ·have hG:fC g=ia g.count g.kind++32::(pM g.kind g.count++[]++32::ox g.tincture):=by rw[fC,if_neg ha]
  rw[hG];refine⟨fun h=>by omega,fun _=>?_⟩;simp[o9]
  repeat (refine⟨by omega,?_⟩)
  refine af (aa.ag (oB g.tincture h3)) ?_;simp;omega
theorem A3 {a:Arms} (h:arms a=true):(0<=a.ordinary/\a.ordinary<=7/\(a.ordinary=0->g0 a.on=true)/\(a.ordinary≠0->(0<=a.line/\a.line<=4)/\fu a.tincture 1 9=true))/\(g0 a.on=false->bw a.on=true)/\(g0 a.around=false->bw a.around=true):=by
 simp only[arms,Bool.and_eq_true,Bool.or_eq_true] at h;obtain ⟨⟨hf,har⟩,ho⟩:=h;have hr:g0 a.around=false->bw a.around=true:=fun e=>har.resolve_left (by rw[e];simp);by_cases h0:a.ordinary=0
 ·rw[if_pos h0] at ho;simp only[Bool.and_eq_true] at ho;exact⟨⟨by omega,by omega,fun _=>ho.2,fun h=>absurd h0 h⟩,fun e=>(by rw[ho.2] at e;cases e),hr⟩
 ·rw[if_neg h0] at ho;simp only[Bool.and_eq_true,Bool.or_eq_true] at ho;obtain ⟨⟨⟨o1,o2⟩,o3⟩,o4⟩:=ho;have o1:=bH.1 o1;have o2:=bH.1 o2;exact⟨⟨by omega,by omega,fun h=>absurd h h0,fun _=>⟨o2,o3⟩⟩,fun e=>o4.resolve_left (by rw[e];simp),hr⟩
set_option maxHeartbeats 2000000 in
theorem Sm (a:Arms) (h:arms a=true):cJ tn [dM a] (S (cI a)):=by
 have h':=h;simp only[arms,Bool.and_eq_true] at h';obtain ⟨⟨hf,har⟩,ho⟩:=h';obtain ⟨hord,hon⟩:=A3 h;have c1:=A9 a.field;have c2:=LD a.ordinary a.line;have c3:=fG a.tincture;have c4:=ic a.on;have c5:=ic a.around;have c6:=TC a.ordinary;obtain ⟨t1,ht1⟩:∃ t1,d7 a.field++(if a.ordinary=0 then [] else [44,32]++LC a.ordinary a.line++32::ox a.tincture)=t1:=⟨_,rfl⟩;obtain ⟨t2,ht2⟩:∃ t2,t1++(if g0 a.on then [] else [32,99,104,97,114,103,101,100,32,119,105,116,104,32]++fC a.on)=t2:=⟨_,rfl⟩;have hT:cI a=t2++(if g0 a.around then [] else H9 a.ordinary++fC a.around):=by rw[cI,ht1,ht2]
 have d1:t1.length<=120:=by rw[<- ht1];split<;>simp<;>omega
 have d2:t2.length<=200:=by rw[<- ht2];split<;>simp<;>omega
 rw[hT];refine aa.of Wj (by simp) ?_;simp[Q6,MW,MX];refine af (aa.ag (acQ a.field hf)) ?_;simp[MY];rcases Classical.em (a.ordinary=0) with h0 | h0
 case' inl =>
  simp[h0];refine dY ⟨[(1,.ref 1 0 0),(3,S t1)],[(1,⟨15,[dM a]⟩)],[]⟩ (Wk.list rfl (by simp[<- ht1,h0]) (by simp)) ?_
 case' inr =>
  obtain ⟨hl,ht⟩:=hord.2.2.2 h0;refine⟨fun _=>?a,fun h=>absurd h (by omega)⟩
  case' a =>
   simp[MZ,BA]
   repeat (refine⟨by omega,?_⟩)
   refine bu (aa.ag (Vk a.ordinary a.line (by omega) hl)) ?_;simp
   repeat (refine⟨by omega,?_⟩)
   refine bu (aa.ag (uE a.tincture ht)) ?_;simp
   repeat (refine⟨by omega,?_⟩)
   refine⟨aO (by simp[BA]) (by simp),?_⟩;refine dY ⟨[(1,.ref 1 0 0),(3,S t1)],[(1,⟨15,[dM a]⟩)],[]⟩ (Wk.list rfl (by simp[<- ht1,h0]) (by simp)) ?_
 all_goals
  simp[M0];refine af (aa.ag (jM a.on)) ?_;rcases hg:g0 a.on with _ | _
  case' false =>
   simp[M1]
   repeat (refine⟨by omega,?_⟩)
   refine af (aa.ag (Xt a.on (hon.1 hg))) ?_;simp
   repeat (refine⟨by omega,?_⟩)
   refine dY ⟨[(1,.ref 1 0 0),(3,S t2)],[(1,⟨15,[dM a]⟩)],[]⟩ (Wk.list rfl (by simp[<- ht2,hg]) (by simp)) ?_
  case' true =>
   simp;refine dY ⟨[(1,.ref 1 0 0),(3,S t2)],[(1,⟨15,[dM a]⟩)],[]⟩ (Wk.list rfl (by simp[<- ht2,hg]) (by simp)) ?_
  all_goals
   simp[M2];refine af (aa.ag (jM a.around)) ?_;cases hr:g0 a.around with
   | true =>
     simp;refine dY _ (Wk.refl _) ?_;simp[BX]
   | false =>
     simp[M3,BB];refine bu (aa.ag (acV a.ordinary)) ?_;simp
     repeat (refine⟨by omega,?_⟩)
     refine bu (aa.ag (Xt a.around (hon.2 hr))) ?_;simp
     repeat (refine⟨by omega,?_⟩)
     refine⟨aO (by simp[BB]) (by simp),?_⟩;refine dY _ (Wk.refl _) ?_;simp[BX]
set_option maxRecDepth 100000
def Ih:=[ok 4 vN]
def Ii:=[oo 9 (.bslice 1 (vS []) 0 []),om 5 9]
def Ij:=[om 10 0,oo 11 (.call qC [.t 10,(.k (vS [32]))]),oo 12 (.len false (.t 11)),ok 13 (vI 0)]
def Ik:=[bM 14 .lss 13 12]
def Il:=[ep 15 1 11 13,bd 16 1 15,om 7 16]
def Im:=[om 17 5,oo 18 (.len false (.t 17)),om 8 18]
def xD:=[om 19 8,cD 20 .gtr 19 0,om 21 20,oT 21 22 (.mv (.t 5)),oT 21 23 (.mv (.t 8)),oT 21 24 (.bin .sub .none (.t 23) (xI 1)),oT 21 25 (.iaddr 1 (.t 22) (.t 24)),oT 21 26 (.ld false 1 (.t 25)),oT 21 27 (.len true (.t 26)),oT 21 28 (.bin .add .none (.t 27) (xI 1)),oT 21 29 (.mv (.t 7)),oT 21 30 (.len true (.t 29)),oT 21 31 (.bin .add .none (.t 28) (.t 30)),oT 21 32 (.mv (.t 1)),oT 21 33 (.bin .leq .none (.t 31) (.t 32)),oo 34 (.pick (.t 21) (.t 33) (xB false))]
def Io:=[om 35 5,om 36 8,cD 37 .sub 36 1,ep 38 1 35 37,bd 39 1 38,om 40 7,oo 41 (.bin .add .none (.k (vS [32])) (.t 40)),bM 42 .add 39 41,ep 43 1 35 37,cy 1 43 42]
def xE:=[om 44 5,om 45 7,oo 46 (.bslice 1 (vS []) 1 [(0,(.t 45))]),oo 47 (.app 1 16 (.t 44) (.t 46)),om 5 47]
def pC:=[fv 48 13 1,om 13 48]
def EP:C:=(sr Ik [1,5,11,12,13,14] (ss (sc 14 .skip (.exit 0)) (ss (.block 1 (sr Il [1,5,7,11,12,13] (sr Im [1,5,7,8,11,12,13] (sr xD [1,5,7,8,11,12,13,34] (sc 34 (.reg Io [1,5,11,12,13]) (.reg xE [1,5,11,12,13])))))) (.reg pC [1,5,11,12,13]))))
def tQ:=[om 49 5,om 4 49]
def OM:C:=(sr Ih [0,1] (sr Ii [0,1,5] (ss (sr Ij [1,5,11,12,13] (.block 0 (.loop EP))) (sr tQ [4] .ret))))
theorem Uu:cz EY OM [(.tmp 4)] 50:=dh Tryz.func87 rfl
def qe:=[ok 8 vN]
def qf:=[om 12 3,cD 13 .eql 12 0]
def GD:=[ok 8 vN]
def qg:=[om 14 1,oo 15 (.bin .eql .none (.t 14) (.k (vS [])))]
def GF:=[om 16 0,om 17 3,eo 18 LB 16 17,om 8 18]
def qh:=[om 19 3,cD 20 .lss 19 0]
def qi:=[om 21 0,om 22 1,eo 23 CG 21 22,fv 24 23 1,om 3 24]
def qj:=[om 25 3,om 26 0,oo 27 (.len true (.t 26)),fv 28 27 1,oo 29 (.mm false [.t 25,.t 28]),om 3 29]
def qk:=[om 30 3,oo 31 (.mks 1 (vS []) 16 (.t 30) (.t 30)),om 9 31]
def ql:=[om 32 3,cD 33 .sub 32 1,om 3 33]
def oh:=[ok 10 (vI 0)]
def oi:=[om 34 10,om 35 3,bM 36 .lss 34 35]
def oj:=[om 37 0,om 38 1,eo 39 CH 37 38,om 11 39]
def ol:=[om 40 11,cD 41 .lss 40 0]
def oq:=[om 42 9,om 43 10,om 44 0,om 45 11,om 46 2,bM 47 .add 45 46,oo 48 (.slc none (.t 44) none (some (.t 47))),ep 49 1 42 43,cy 1 49 48]
def ot:=[om 50 0,om 51 11,om 52 1,oo 53 (.len true (.t 52)),bM 54 .add 51 53,oo 55 (.slc none (.t 50) (some (.t 54)) none),om 0 55]
def ov:=[om 56 10,fv 57 56 1,om 10 57]
def nV:C:=(ss (sr oi [0,1,2,3,9,10,36] (sc 36 .skip (.exit 0))) (.block 1 (sr oj [0,1,2,3,9,10,11] (ss (sr ol [0,1,2,3,9,10,11,41] (sc 41 (.exit 0) .skip)) (sr oq [0,1,2,3,9,10,11] (sr ot [0,1,2,3,9,10] (.reg ov [0,1,2,3,9,10])))))))
def je:=[om 58 9,om 59 10,om 60 0,ep 61 1 58 59,cy 1 61 60]
def ow:=[om 62 9,om 63 10,fv 64 63 1,oo 65 (.slc (some 1) (.t 62) none (some (.t 64))),om 8 65]
def sQ:C:=(sr qe [0,1,2,3] (ss (sr qf [0,1,2,3,13] (sc 13 (sr GD [8] .ret) .skip)) (ss (sr qg [0,1,2,3,15] (sc 15 (sr GF [8] .ret) .skip)) (ss (sr qh [0,1,2,3,20] (sc 20 (.reg qi [0,1,2,3]) .skip)) (sr qj [0,1,2,3] (sr qk [0,1,2,3,9] (sr ql [0,1,2,3,9] (sr oh [0,1,2,3,9,10] (ss (.block 0 (.loop nV)) (sr je [9,10] (ss (.wk (.reg ow [8])) .ret)))))))))))
theorem HT:cz lv sQ [(.tmp 8)] 66:=dh Tryz.func168 rfl
def vY:=[ok 4 vN]
def vZ:=[om 5 0,om 6 1,oo 7 (.call lv [.t 5,.t 6,xI 0,(xI (-1))]),om 4 7]
def Co:C:=(sr vY [0,1] (sr vZ [4] .ret))
theorem N9:cz qC Co [(.tmp 4)] 8:=dh Tryz.func128 rfl
def sS (c:UInt8) (s:List UInt8):List UInt8:=s.takeWhile (· != c)
def Lh (c:UInt8) (s:List UInt8):List UInt8:=(s.dropWhile (· != c)).drop 1
theorem oA {c:UInt8}:∀ {s:List UInt8},c ∈ s->s=sS c s++c::Lh c s/\c ∉ sS c s
 | [],h=>by simp at h
 | x::s,h=>by
   by_cases e:x=c
   ·subst e;simp[sS,Lh]
   ·have hs:c ∈ s:=by
     rcases List.mem_cons.1 h with h | h
     ·exact absurd h.symm e
     ·exact h
    obtain ⟨h1,h2⟩:=oA hs;have hx:(x != c)=true:=by simpa using e
    have e0:sS c (x::s)=x::sS c s:=by simp[sS,hx]
    have e1:Lh c (x::s)=Lh c s:=by simp[Lh,hx]
    rw[e0,e1];refine⟨by rw[List.cons_append,<- h1],?_⟩;rw[List.mem_cons,not_or];exact⟨fun h=>e h.symm,h2⟩
def parts (c:UInt8):List UInt8->List (List UInt8)
 | []=>[[]]
 | x::s=>if x=c then []::parts c s else match parts c s with
   | p::ps=>(x::p)::ps
   | []=>[[x]]
theorem tD {c:UInt8}:∀ {s:List UInt8},c ∉ s->parts c s=[s]
 | [],_=>rfl
 | x::s,h=>by
   rw[List.mem_cons,not_or] at h;rw[parts,if_neg (fun e=>h.1 e.symm),tD h.2]
theorem Ff {c:UInt8}:∀ {a b:List UInt8},c ∉ a->parts c (a++c::b)=a::parts c b
 | [],b,_=>by rw[List.nil_append,parts,if_pos rfl]
 | x::a,b,h=>by
   rw[List.mem_cons,not_or] at h;rw[List.cons_append,parts,if_neg (fun e=>h.1 e.symm),Ff h.2]
theorem Fg {c:UInt8} (s:List UInt8):parts c s≠[]:=by
 by_cases h:c ∈ s
 ·obtain ⟨h1,h2⟩:=oA h;rw[h1,Ff h2];simp
 ·rw[tD h];simp
theorem TT {c:UInt8} (s:List UInt8):2<=(parts c s).length↔c ∈ s:=by
 by_cases h:c ∈ s
 ·obtain ⟨h1,h2⟩:=oA h;rw[h1,Ff h2];have:=List.length_pos_iff.2 (Fg (c:=c) (Lh c s));simp only[List.length_cons];constructor
  ·intro _;simp
  ·intro _;omega
 ·rw[tD h];simp[h]
def cW (n:Nat):List UInt8:=Lib.decDigits n
theorem ib {n:Nat} (h:n < 10):cW n=[UInt8.ofNat (48+n)]:=by unfold cW;rw[Lib.decDigits,dif_pos h]
theorem sT {n:Nat} (h:¬n < 10):cW n=cW (n / 10)++[UInt8.ofNat (48+n % 10)]:=by
 unfold cW
 conv=>lhs;rw[Lib.decDigits,dif_neg h]
theorem eC:∀ (k n:Nat),n < 10 ^ (k+1)->(cW n).length<=k+1
 | 0,n,h=>by rw[ib (by omega)];simp
 | k+1,n,h=>by
   by_cases h':n < 10
   ·rw[ib h'];simp
   ·rw[sT h',List.length_append,List.length_singleton];have:=eC k (n / 10) (by rw[Nat.pow_succ] at h;omega);omega
theorem Ts {i:Nat} (h:i < 10):(([48,49,50,51,52,53,54,55,56,57]:List UInt8).drop i).take 1=[UInt8.ofNat (48+i)]:=by
 have:∀ j:Fin 10,(([48,49,50,51,52,53,54,55,56,57]:List UInt8).drop j.1).take 1=[UInt8.ofNat (48+j.1)]:=by decide
 exact this ⟨i,h⟩
theorem N0 (n:Nat):(cW n).length<=n+1:=by
 induction n using Nat.strongRecOn with
 | _ n ih =>
   by_cases h:n < 10
   ·rw[ib h];simp
   ·rw[sT h,List.length_append,List.length_singleton];have:=ih (n / 10) (by omega);omega
end Go.Proofs.YtjkogbgbienloaaGreatDoor
namespace Go.Proofs
open Tryz
theorem dK {α:Type} {a:Option α} {b c:α} (h:a=some b) (e:b=c:=by kernel_rfl):a=some c:=by rw[h,e]
open Go.Shelf
def Tryz.lays156_ren:Go.Shelf.Ren:=⟨fun | 156=>35 | 165=>67 | 166=>68 | 169=>69 | 240=>112 | 241=>113 | 276=>157 | 277=>158 | n=>n,fun | 31=>28 | 9=>9 | 3=>3 | 4=>4 | 0=>0 | 20=>20 | 72=>115 | 76=>119 | 70=>113 | 37=>42 | 75=>118 | 127=>158 | 164=>187 | 5=>5 | 80=>108 | n=>n,fun | n=>n⟩
theorem Tryz.lays156:Go.Proofs.Lays.n156 Tryz.prog Tryz.lays156_ren:={
 mixed:=by kernel_rfl
 f156:=(dK func35)
 f165:=(dK func67)
 f166:=(dK func68)
 f169:=(dK func69)
 f240:=(dK func112)
 f241:=(dK func113)
 f276:=(dK func157)
 f277:=(dK func158)
 t0:=underlying0
 a0:=isAgg0
 z0:=sizeOf0
 v0:=zeroValue0
 t3:=underlying3
 a3:=isAgg3
 z3:=sizeOf3
 v3:=zeroValue3
 t4:=underlying4
 a4:=isAgg4
 z4:=sizeOf4
 v4:=zeroValue4
 t9:=underlying9
 a9:=isAgg9
 z9:=sizeOf9
 v9:=zeroValue9
 t20:=underlying20
 a20:=isAgg20
 z20:=sizeOf20
 v20:=zeroValue20
 t31:=underlying28
 a31:=isAgg28
 z31:=sizeOf28
 v31:=zeroValue28
 t37:=underlying42
 a37:=isAgg42
 z37:=sizeOf42
 v37:=zeroValue42
 t70:=underlying113
 a70:=isAgg113
 z70:=sizeOf113
 v70:=zeroValue113
 t72:=underlying115
 a72:=isAgg115
 z72:=sizeOf115
 v72:=zeroValue115
 t75:=underlying118
 a75:=isAgg118
 z75:=sizeOf118
 v75:=zeroValue118
 t76:=underlying119
 a76:=isAgg119
 z76:=sizeOf119
 v76:=zeroValue119
 t127:=underlying158
 a127:=isAgg158
 z127:=sizeOf158
 v127:=zeroValue158
 t164:=underlying187
 a164:=isAgg187
 z164:=sizeOf187
 v164:=zeroValue187 }
theorem Tryz.Builder_Extra_156:Builder.Extra Tryz.prog Tryz.lays156_ren:={
 sizeBuilder:=by kernel_rfl
 liesBuilder:=by kernel_rfl
 t5:=underlying5
 a5:=isAgg5
 z5:=sizeOf5
 v5:=zeroValue5
 infoByte:=by kernel_rfl
 cellsByte:=by kernel_rfl
 sizeByte:=by kernel_rfl
 neB5:=by decide }
open Go.RowKit in
theorem Tryz.strings_Join_none (a:Option Addr) (c:Nat) (sep:ByteArray) (w:World) :
  Calls Tryz.prog 35 #[.slice a 0 c,.string sep] w fun e w'=>e=.returned (.string ⟨#[]⟩)/\w'=w:=Any.strings_Join_none Tryz.lays156 Tryz.Builder_Extra_156 a c sep w
open Go.RowKit in
theorem Tryz.strings_Join (bk o c:Nat) (xs:List ByteArray) (sep:ByteArray) (w:World) (hcells:∀ (j:Nat) x,xs[j]?=some x->w.cell? ⟨bk,o+j,none⟩=some (.string x)) (hbk:bk < w.heap.size) (hN:xs.length<=140737488355328) (hcap:xs.length<=c) (hlen:(Lib.join (xs.map (·.data.toList)) sep.data.toList).length<=140737488355328) :
  Calls Tryz.prog 35 #[.slice (some ⟨bk,o,none⟩) xs.length c,.string sep] w fun e w'=>e=.returned (.string ⟨(Lib.join (xs.map (·.data.toList)) sep.data.toList).toArray⟩)/\Below w.heap.size w w':=Any.strings_Join Tryz.lays156 Tryz.Builder_Extra_156 bk o c xs sep w hcells hbk hN hcap hlen
def Tryz.lays106_ren:Go.Shelf.Ren:=⟨fun | 106=>60 | 213=>96 | 265=>142 | n=>n,fun | 9=>9 | 3=>3 | n=>n,fun | n=>n⟩
theorem Tryz.lays106:Go.Proofs.Lays.n106 Tryz.prog Tryz.lays106_ren:={
 mixed:=by kernel_rfl
 f106:=(dK func60)
 f213:=(dK func96)
 f265:=(dK func142)
 t3:=underlying3
 a3:=isAgg3
 z3:=sizeOf3
 v3:=zeroValue3
 t9:=underlying9
 a9:=isAgg9
 z9:=sizeOf9
 v9:=zeroValue9 }
open Go.RowKit in
theorem Tryz.strings_Compare (a b:ByteArray) (w:World) :
  Calls Tryz.prog 60 #[.string a,.string b] w fun e w'=>e=.returned (.int .i64 (Lib.compareBytes a.data.toList b.data.toList))/\w'=w:=Any.strings_Compare Tryz.lays106 a b w
def Tryz.laysM171_ren:Go.Shelf.Ren:=⟨fun | 171=>34 | 243=>66 | 246=>111 | 283=>153 | 284=>154 | 285=>155 | 286=>156 | 129=>109 | 317=>186 | 318=>187 | 319=>188 | 320=>189 | 337=>204 | 338=>205 | n=>n,fun | 3=>3 | 9=>9 | 2=>2 | 4=>4 | 171=>183 | 0=>0 | 53=>85 | 37=>42 | 5=>5 | 173=>185 | 212=>202 | 51=>154 | 20=>20 | 213=>203 | 46=>111 | 232=>211 | 233=>212 | n=>n,fun | 17=>1 | 18=>2 | 19=>3 | n=>n⟩
theorem Tryz.laysM171:Go.Proofs.LaysM.n171 Tryz.prog Tryz.laysM171_ren:={
 mixed:=by kernel_rfl
 f129:=(dK func109)
 f171:=(dK func34)
 f243:=(dK func66)
 f246:=(dK func111)
 f283:=(dK func153)
 f284:=(dK func154)
 f285:=(dK func155)
 f286:=(dK func156)
 f317:=(dK func186)
 f318:=(dK func187)
 f319:=(dK func188)
 f320:=(dK func189)
 f337:=(dK func204)
 f338:=(dK func205)
 t0:=underlying0
 a0:=isAgg0
 z0:=sizeOf0
 v0:=zeroValue0
 t2:=underlying2
 a2:=isAgg2
 z2:=sizeOf2
 v2:=zeroValue2
 t3:=underlying3
 a3:=isAgg3
 z3:=sizeOf3
 v3:=zeroValue3
 t4:=underlying4
 a4:=isAgg4
 z4:=sizeOf4
 v4:=zeroValue4
 t5:=underlying5
 a5:=isAgg5
 z5:=sizeOf5
 v5:=zeroValue5
 t9:=underlying9
 a9:=isAgg9
 z9:=sizeOf9
 v9:=zeroValue9
 t20:=underlying20
 a20:=isAgg20
 z20:=sizeOf20
 v20:=zeroValue20
 t37:=underlying42
 a37:=isAgg42
 z37:=sizeOf42
 v37:=zeroValue42
 t46:=underlying111
 a46:=isAgg111
 z46:=sizeOf111
 v46:=zeroValue111
 t51:=underlying154
 a51:=isAgg154
 z51:=sizeOf154
 v51:=zeroValue154
 t53:=underlying85
 a53:=isAgg85
 z53:=sizeOf85
 v53:=zeroValue85
 t171:=underlying183
 a171:=isAgg183
 z171:=sizeOf183
 v171:=zeroValue183
 t173:=underlying185
 a173:=isAgg185
 z173:=sizeOf185
 v173:=zeroValue185
 t212:=underlying202
 a212:=isAgg202
 z212:=sizeOf202
 v212:=zeroValue202
 t213:=underlying203
 a213:=isAgg203
 z213:=sizeOf203
 t232:=underlying211
 a232:=isAgg211
 z232:=sizeOf211
 v232:=zeroValue211
 t233:=underlying212
 a233:=isAgg212
 z233:=sizeOf212
 v233:=zeroValue212
 g17:=by kernel_rfl
 g18:=by kernel_rfl
 g19:=by kernel_rfl
 i0:=by kernel_rfl
 i2:=by kernel_rfl
 i3:=by kernel_rfl
 i4:=by kernel_rfl
 i5:=by kernel_rfl
 i9:=by kernel_rfl
 i20:=by kernel_rfl
 i37:=by kernel_rfl
 i46:=by kernel_rfl
 i51:=by kernel_rfl
 i53:=by kernel_rfl
 i171:=by kernel_rfl
 i173:=by kernel_rfl
 i212:=by kernel_rfl
 i232:=by kernel_rfl
 i233:=by kernel_rfl
 m17:=by kernel_rfl
 m18:=by kernel_rfl
 m19:=by kernel_rfl }
open Go.RowKit Go.Sort Go.Lib in
theorem Tryz.strconv_Itoa (n:Int) (h0 : -9223372036854775808<=n) (h1:n<=9223372036854775807) (w:World) (htab:Lib.TabIs Tryz.prog w "internal/strconv.uint64pow10" .u64 Lib.pow10Tab) :
  Calls Tryz.prog 34 #[.int .i64 n] w fun e w'=>e=.returned (.string ⟨(Lib.itoa n).toArray⟩)/\∃ k os,w'=grow (w.drewN k) os:=Any.strconv_Itoa Tryz.laysM171 n h0 h1 w htab
def Tryz.lays143_ren:Go.Shelf.Ren:=⟨fun | 143=>195 | 219=>209 | 217=>211 | 225=>212 | 224=>213 | 267=>214 | 266=>215 | 314=>216 | n=>n,fun | 9=>9 | 3=>3 | 4=>4 | 5=>5 | 46=>111 | 146=>159 | 51=>154 | n=>n,fun | 1=>0 | n=>n⟩
theorem Tryz.lays143:Go.Proofs.Lays.n143 Tryz.prog Tryz.lays143_ren:={
 mixed:=by kernel_rfl
 f143:=(dK func195)
 f217:=(dK func211)
 f219:=(dK func209)
 f224:=(dK func213)
 f225:=(dK func212)
 f266:=(dK func215)
 f267:=(dK func214)
 f314:=(dK func216)
 t3:=underlying3
 a3:=isAgg3
 z3:=sizeOf3
 v3:=zeroValue3
 t4:=underlying4
 a4:=isAgg4
 z4:=sizeOf4
 v4:=zeroValue4
 t5:=underlying5
 a5:=isAgg5
 z5:=sizeOf5
 v5:=zeroValue5
 t9:=underlying9
 a9:=isAgg9
 z9:=sizeOf9
 v9:=zeroValue9
 t46:=underlying111
 a46:=isAgg111
 z46:=sizeOf111
 v46:=zeroValue111
 t51:=underlying154
 a51:=isAgg154
 z51:=sizeOf154
 v51:=zeroValue154
 t146:=underlying159
 a146:=isAgg159
 z146:=sizeOf159
 v146:=zeroValue159
 g1:=by kernel_rfl }
open Go.RowKit Go.Lib in
theorem Tryz.strings_Index_one (s:ByteArray) (c:UInt8) (w:World) :
  Calls Tryz.prog 195 #[.string s,.string ⟨#[c]⟩] w fun e w'=>e=.returned (.int .i64 (Lib.indexByte s.data.toList c))/\w'=w:=Any.strings_Index_one Tryz.lays143 s c w
open Go.RowKit Go.Lib in
theorem Tryz.strings_Index (s sub:ByteArray) (m:Int) (w:World) (hs:s.size < 4294967281) (hm:w.cell? ⟨0,0,none⟩=some (.int .i64 m)) :
  Calls Tryz.prog 195 #[.string s,.string sub] w fun e w'=>e=.returned (.int .i64 (Lib.index s.data.toList sub.data.toList))/\w'=w:=Any.strings_Index Tryz.lays143 s sub m w hs hm
def Tryz.lays138_ren:Go.Shelf.Ren:=⟨fun | 138=>194 | 195=>206 | 218=>208 | 143=>195 | 219=>209 | 217=>211 | 225=>212 | 224=>213 | 267=>214 | 266=>215 | 314=>216 | n=>n,fun | 9=>9 | 3=>3 | 4=>4 | 5=>5 | 0=>0 | 46=>111 | 146=>159 | 51=>154 | n=>n,fun | 1=>0 | n=>n⟩
theorem Tryz.lays138:Go.Proofs.Lays.n138 Tryz.prog Tryz.lays138_ren:={
 mixed:=by kernel_rfl
 f138:=(dK func194)
 f143:=(dK func195)
 f195:=(dK func206)
 f217:=(dK func211)
 f218:=(dK func208)
 f219:=(dK func209)
 f224:=(dK func213)
 f225:=(dK func212)
 f266:=(dK func215)
 f267:=(dK func214)
 f314:=(dK func216)
 t0:=underlying0
 a0:=isAgg0
 z0:=sizeOf0
 v0:=zeroValue0
 t3:=underlying3
 a3:=isAgg3
 z3:=sizeOf3
 v3:=zeroValue3
 t4:=underlying4
 a4:=isAgg4
 z4:=sizeOf4
 v4:=zeroValue4
 t5:=underlying5
 a5:=isAgg5
 z5:=sizeOf5
 v5:=zeroValue5
 t9:=underlying9
 a9:=isAgg9
 z9:=sizeOf9
 v9:=zeroValue9
 t46:=underlying111
 a46:=isAgg111
 z46:=sizeOf111
 v46:=zeroValue111
 t51:=underlying154
 a51:=isAgg154
 z51:=sizeOf154
 v51:=zeroValue154
 t146:=underlying159
 a146:=isAgg159
 z146:=sizeOf159
 v146:=zeroValue159
 g1:=by kernel_rfl }
open Go.RowKit Go.Lib in
theorem Tryz.strings_Count_one (s:ByteArray) (c:UInt8) (w:World) :
  Calls Tryz.prog 194 #[.string s,.string ⟨#[c]⟩] w fun e w'=>e=.returned (.int .i64 (Lib.countByte s.data.toList c))/\w'=w:=Any.strings_Count_one Tryz.lays138 s c w
open Go.RowKit Go.Lib in
theorem Tryz.strings_Count (s sub:ByteArray) (m:Int) (w:World) (hs:s.size < 4294967281) (hm:w.cell? ⟨0,0,none⟩=some (.int .i64 m)) (h2:2<=sub.size) :
  Calls Tryz.prog 194 #[.string s,.string sub] w fun e w'=>e=.returned (.int .i64 (Lib.countB s sub))/\w'=w:=Any.strings_Count Tryz.lays138 s sub m w hs hm h2
def Tryz.lays190_ren:Go.Shelf.Ren:=⟨fun | 190=>32 | 125=>64 | 258=>63 | 128=>108 | 129=>109 | 302=>99 | 303=>100 | 304=>101 | 305=>102 | 306=>103 | 307=>104 | 308=>105 | 309=>106 | 310=>107 | 333=>147 | 329=>148 | 330=>149 | 334=>150 | 335=>151 | 336=>152 | 344=>185 | n=>n,fun | 31=>28 | 9=>9 | 3=>3 | 46=>111 | 0=>0 | 51=>154 | 53=>85 | 4=>4 | 183=>147 | 182=>146 | 131=>151 | 5=>5 | 218=>177 | 222=>181 | 228=>199 | 229=>200 | n=>n,fun | n=>n⟩
theorem Tryz.lays190:Go.Proofs.Lays.n190 Tryz.prog Tryz.lays190_ren:={
 mixed:=by kernel_rfl
 f125:=(dK func64)
 f128:=(dK func108)
 f129:=(dK func109)
 f190:=(dK func32)
 f258:=(dK func63)
 f302:=(dK func99)
 f303:=(dK func100)
 f304:=(dK func101)
 f305:=(dK func102)
 f306:=(dK func103)
 f307:=(dK func104)
 f308:=(dK func105)
 f309:=(dK func106)
 f310:=(dK func107)
 f329:=(dK func148)
 f330:=(dK func149)
 f333:=(dK func147)
 f334:=(dK func150)
 f335:=(dK func151)
 f336:=(dK func152)
 f344:=(dK func185)
 t0:=underlying0
 a0:=isAgg0
 z0:=sizeOf0
 v0:=zeroValue0
 t3:=underlying3
 a3:=isAgg3
 z3:=sizeOf3
 v3:=zeroValue3
 t4:=underlying4
 a4:=isAgg4
 z4:=sizeOf4
 v4:=zeroValue4
 t5:=underlying5
 a5:=isAgg5
 z5:=sizeOf5
 v5:=zeroValue5
 t9:=underlying9
 a9:=isAgg9
 z9:=sizeOf9
 v9:=zeroValue9
 t31:=underlying28
 a31:=isAgg28
 z31:=sizeOf28
 v31:=zeroValue28
 t46:=underlying111
 a46:=isAgg111
 z46:=sizeOf111
 v46:=zeroValue111
 t51:=underlying154
 a51:=isAgg154
 z51:=sizeOf154
 v51:=zeroValue154
 t53:=underlying85
 a53:=isAgg85
 z53:=sizeOf85
 v53:=zeroValue85
 t131:=underlying151
 a131:=isAgg151
 z131:=sizeOf151
 v131:=zeroValue151
 t182:=underlying146
 a182:=isAgg146
 z182:=sizeOf146
 v182:=zeroValue146
 t183:=underlying147
 a183:=isAgg147
 z183:=sizeOf147
 v183:=zeroValue147
 t218:=underlying177
 a218:=isAgg177
 z218:=sizeOf177
 v218:=zeroValue177
 t222:=underlying181
 a222:=isAgg181
 z222:=sizeOf181
 v222:=zeroValue181
 t228:=underlying199
 a228:=isAgg199
 z228:=sizeOf199
 v228:=zeroValue199
 t229:=underlying200
 a229:=isAgg200
 z229:=sizeOf200
 v229:=zeroValue200 }
open Go.Sort Go.RowKit in
theorem Tryz.slices_Sort_string (blk off cap:Nat) (ss:List (List UInt8)) (w:World) (hH:Holds encStr w blk off ss.toArray) (hblk:blk < w.heap.size) (hsz:ss.length < 4611686018427387904) :
  Calls Tryz.prog 32 #[.slice (some ⟨blk,off,none⟩) ss.length cap] w fun e w' =>
   e=.returned (.tuple #[])/\∃ n os,w'=grow (putRow encStr (Sort.ahead w n) blk off (ss.mergeSort fun x y=>decide (x<=y)).toArray) os:=Any.slices_Sort_string Tryz.lays190 blk off cap ss w hH hblk hsz
def Tryz.lays221_ren:Go.Shelf.Ren:=⟨fun | 221=>168 | 268=>193 | 138=>194 | 143=>195 | 195=>206 | 197=>207 | 218=>208 | 219=>209 | 260=>210 | 217=>211 | 225=>212 | 224=>213 | 267=>214 | 266=>215 | 314=>216 | n=>n,fun | 9=>9 | 3=>3 | 31=>28 | 4=>4 | 0=>0 | 105=>208 | 21=>21 | 5=>5 | 46=>111 | 119=>213 | 139=>216 | 138=>215 | 146=>159 | 51=>154 | n=>n,fun | 1=>0 | 3=>4 | 4=>5 | n=>n⟩
theorem Tryz.lays221:Go.Proofs.Lays.n221 Tryz.prog Tryz.lays221_ren:={
 mixed:=by kernel_rfl
 f138:=(dK func194)
 f143:=(dK func195)
 f195:=(dK func206)
 f197:=(dK func207)
 f217:=(dK func211)
 f218:=(dK func208)
 f219:=(dK func209)
 f221:=(dK func168)
 f224:=(dK func213)
 f225:=(dK func212)
 f260:=(dK func210)
 f266:=(dK func215)
 f267:=(dK func214)
 f268:=(dK func193)
 f314:=(dK func216)
 t0:=underlying0
 a0:=isAgg0
 z0:=sizeOf0
 v0:=zeroValue0
 t3:=underlying3
 a3:=isAgg3
 z3:=sizeOf3
 v3:=zeroValue3
 t4:=underlying4
 a4:=isAgg4
 z4:=sizeOf4
 v4:=zeroValue4
 t5:=underlying5
 a5:=isAgg5
 z5:=sizeOf5
 v5:=zeroValue5
 t9:=underlying9
 a9:=isAgg9
 z9:=sizeOf9
 v9:=zeroValue9
 t21:=underlying21
 a21:=isAgg21
 z21:=sizeOf21
 v21:=zeroValue21
 t31:=underlying28
 a31:=isAgg28
 z31:=sizeOf28
 v31:=zeroValue28
 t46:=underlying111
 a46:=isAgg111
 z46:=sizeOf111
 v46:=zeroValue111
 t51:=underlying154
 a51:=isAgg154
 z51:=sizeOf154
 v51:=zeroValue154
 t105:=underlying208
 a105:=isAgg208
 z105:=sizeOf208
 v105:=zeroValue208
 t119:=underlying213
 a119:=isAgg213
 z119:=sizeOf213
 t138:=underlying215
 a138:=isAgg215
 z138:=sizeOf215
 v138:=zeroValue215
 t139:=underlying216
 a139:=isAgg216
 z139:=sizeOf216
 v139:=zeroValue216
 t146:=underlying159
 a146:=isAgg159
 z146:=sizeOf159
 v146:=zeroValue159
 g1:=by kernel_rfl
 g3:=by kernel_rfl
 g4:=by kernel_rfl }
open Go.RowKit Go.Lib in
theorem Tryz.strings_genSplit (s sep:ByteArray) (sv:Nat) (n:Int) (N:Nat) (m:Int) (w:World) (hs:s.size < 4294967281) (hm:w.cell? ⟨0,0,none⟩=some (.int .i64 m)) (h1:1<=sep.size) (hsv:sv<=sep.size) (hn0:n≠0) (hn63:n<=9223372036854775807) (hN:(N:Int)=min (if n < 0 then (Lib.countB s sep:Int)+1 else n) ((s.size:Int)+1)) :
  Calls Tryz.prog 168 #[.string s,.string sep,.int .i64 sv,.int .i64 n] w fun e w' =>
   e=.returned (.slice (some ⟨w.heap.size,0,none⟩) (Lib.splitB sep sv (N - 1) s).length N)/\w'=w.alloc (.cells (Lib.cellsOf (Lib.splitB sep sv (N - 1) s) N) 9):=Any.strings_genSplit Tryz.lays221 (by kernel_rfl) s sep sv n N m w hs hm h1 hsv hn0 hn63 hN
def Tryz.lays146_ren:Go.Shelf.Ren:=⟨fun | 146=>128 | 221=>168 | 268=>193 | 138=>194 | 143=>195 | 195=>206 | 197=>207 | 218=>208 | 219=>209 | 260=>210 | 217=>211 | 225=>212 | 224=>213 | 267=>214 | 266=>215 | 314=>216 | n=>n,fun | 9=>9 | 31=>28 | 3=>3 | 4=>4 | 0=>0 | 105=>208 | 21=>21 | 5=>5 | 46=>111 | 119=>213 | 139=>216 | 138=>215 | 146=>159 | 51=>154 | n=>n,fun | 1=>0 | 3=>4 | 4=>5 | n=>n⟩
theorem Tryz.lays146:Go.Proofs.Lays.n146 Tryz.prog Tryz.lays146_ren:={
 mixed:=by kernel_rfl
 f138:=(dK func194)
 f143:=(dK func195)
 f146:=(dK func128)
 f195:=(dK func206)
 f197:=(dK func207)
 f217:=(dK func211)
 f218:=(dK func208)
 f219:=(dK func209)
 f221:=(dK func168)
 f224:=(dK func213)
 f225:=(dK func212)
 f260:=(dK func210)
 f266:=(dK func215)
 f267:=(dK func214)
 f268:=(dK func193)
 f314:=(dK func216)
 t0:=underlying0
 a0:=isAgg0
 z0:=sizeOf0
 v0:=zeroValue0
 t3:=underlying3
 a3:=isAgg3
 z3:=sizeOf3
 v3:=zeroValue3
 t4:=underlying4
 a4:=isAgg4
 z4:=sizeOf4
 v4:=zeroValue4
 t5:=underlying5
 a5:=isAgg5
 z5:=sizeOf5
 v5:=zeroValue5
 t9:=underlying9
 a9:=isAgg9
 z9:=sizeOf9
 v9:=zeroValue9
 t21:=underlying21
 a21:=isAgg21
 z21:=sizeOf21
 v21:=zeroValue21
 t31:=underlying28
 a31:=isAgg28
 z31:=sizeOf28
 v31:=zeroValue28
 t46:=underlying111
 a46:=isAgg111
 z46:=sizeOf111
 v46:=zeroValue111
 t51:=underlying154
 a51:=isAgg154
 z51:=sizeOf154
 v51:=zeroValue154
 t105:=underlying208
 a105:=isAgg208
 z105:=sizeOf208
 v105:=zeroValue208
 t119:=underlying213
 a119:=isAgg213
 z119:=sizeOf213
 t138:=underlying215
 a138:=isAgg215
 z138:=sizeOf215
 v138:=zeroValue215
 t139:=underlying216
 a139:=isAgg216
 z139:=sizeOf216
 v139:=zeroValue216
 t146:=underlying159
 a146:=isAgg159
 z146:=sizeOf159
 v146:=zeroValue159
 g1:=by kernel_rfl
 g3:=by kernel_rfl
 g4:=by kernel_rfl }
open Go.RowKit Go.Lib in
theorem Tryz.strings_Split (s sep:ByteArray) (m:Int) (w:World) (hs:s.size < 4294967281) (hm:w.cell? ⟨0,0,none⟩=some (.int .i64 m)) (h1:1<=sep.size) :
  Calls Tryz.prog 128 #[.string s,.string sep] w fun e w' =>
   e=.returned (.slice (some ⟨w.heap.size,0,none⟩) (Lib.countB s sep+1) (Lib.countB s sep+1))/\w'=w.alloc (.cells ((Lib.splitB sep 0 (Lib.countB s sep) s).map Value.string).toArray 9):=Any.strings_Split Tryz.lays146 (by kernel_rfl) s sep m w hs hm h1
open Go.RowKit Go.Sort in
theorem Tryz.slices_Sort_string_none (p:Option Addr) (cap:Nat) (w:World) :
  Calls Tryz.prog 32 #[.slice p 0 cap] w fun e w'=>e=.returned (.tuple #[])/\w'=w:=Any.slices_Sort_string_none Tryz.lays190 p cap w
end Go.Proofs
namespace Go.Proofs.YtjkogbgbienloaaGreatDoor
open Go.Abs
open Tryz
theorem aaG {c x:UInt8} {s:List UInt8}:∃ p ps,parts c s=p::ps/\parts c (x::s)=if x=c then []::p::ps else (x::p)::ps:=by
 cases h:parts c s with
 | nil=>exact absurd h (Fg s)
 | cons p ps =>
   refine⟨p,ps,rfl,?_⟩;rw[parts,h]
theorem vp (c:UInt8):∀ s:List UInt8,(parts c s).length=Lib.countByte s c+1
 | []=>rfl
 | x::s=>by
   obtain ⟨p,ps,h1,h2⟩:=aaG (c:=c) (x:=x) (s:=s);have ih:=vp c s;rw[h1] at ih;unfold Lib.countByte at ih ⊢;rw[h2,List.count_cons];by_cases e:x=c
   ·simp[e] at ih ⊢;omega
   ·simp[e] at ih ⊢;omega
theorem Re (c:UInt8) (s:List UInt8):Lib.countByte s c<=s.length:=List.count_le_length
theorem H8 {c:UInt8}:∀ {s:List UInt8},c ∈ s->Lib.indexByte s c=(sS c s).length
 | [],h=>by simp at h
 | x::s,h=>by
   rw[Lib.indexByte];by_cases e:x=c
   ·subst e;simp[sS]
   ·have e':(x==c)=false:=by simpa using e
    have hs:c ∈ s:=by
     rcases List.mem_cons.1 h with h | h
     ·exact absurd h.symm e
     ·exact h
    have ih:=H8 hs;have hn:(Lib.indexByte s c == -1)=false:=by rw[ih];simp
    rw[e',hn,ih];simp[sS,e]
theorem aaF {c:UInt8} {s:List UInt8} (h:c ∈ s):parts c s=sS c s::parts c (Lh c s):=by
 obtain ⟨h1,h2⟩:=oA h;have:=Ff (b:=Lh c s) h2
 rwa [<- h1] at this
theorem adH {c:UInt8} {s:List UInt8} (h:c ∈ s):(sS c s).length+1+(Lh c s).length=s.length:=by
 have h1:=(oA h).1;have:=congrArg List.length h1;simp at this;omega
theorem abG {c:UInt8} {s:List UInt8} (h:c ∈ s):s.take (sS c s).length=sS c s:=by
 have h1:=(oA h).1;generalize sS c s=a at h1;generalize Lh c s=b at h1;subst h1;simp
theorem abF {c:UInt8} {s:List UInt8} (h:c ∈ s):s.drop ((sS c s).length+1)=Lh c s:=by
 have h1:=(oA h).1;generalize sS c s=a at h1;generalize Lh c s=b at h1;subst h1;rw[show a++c::b=(a++[c])++b by simp,show a.length+1=(a++[c]).length by simp,List.drop_left]
theorem Ta (s:List UInt8) (c:UInt8):cJ CG [S s,S [c]] (I (Lib.countByte s c)) :=
 aa.same (vs:=[.string (bs s),.string (bs [c])]) (y:=.int .i64 (Lib.countByte s c)) (by kernel_rfl) (fun _ _=>iX rfl) (fun w _ _=>Tryz.strings_Count_one (bs s) c w)
theorem Tb (s:List UInt8) (c:UInt8):cJ CH [S s,S [c]] (I (Lib.indexByte s c)) :=
 aa.same (vs:=[.string (bs s),.string (bs [c])]) (y:=.int .i64 (Lib.indexByte s c)) (by kernel_rfl) (fun _ _=>iX rfl) (fun w _ _=>Tryz.strings_Index_one (bs s) c w)
theorem OC (s:List UInt8) (c:UInt8) (hs:s.length<=1048576):cJ lv [S s,S [c],I 0,I (-1)] (.own 1 ((parts c s).map S)):=by
 refine aa.of HT (by simp) ?_;have hc:=vp c s;have hl:=Re c s;simp[sQ,qe,qf];simp[qg];simp[qh];simp[qi];refine af (Ta s c) ?_;simp;rw[am (by omega)];simp[qj];rw[am (by omega)];simp[qk];rw[if_neg (by omega)];have hn:((Lib.countByte s c:Int)+1).toNat=Lib.countByte s c+1:=by omega
 rw[hn];refine⟨⟨by omega,by simp[ba];omega⟩,?_⟩;simp[ql];rw[am (by omega)];simp[oh,je];generalize hN:Lib.countByte s c=N at hc hl hn ⊢
 refine ci (fun x:List (List UInt8)×List UInt8=>⟨[(0,S x.2),(1,S [c]),(2,I 0),(3,I N),(9,.sl 31 0 (N+1)),(10,I x.1.length)],[(31,⟨1,x.1.map S++List.replicate (N+1 - x.1.length) (S [])⟩)],[]⟩) (fun x=>N+1 - x.1.length)
  (fun x=>x.1.length<=N/\x.2.length<=s.length/\parts c s=x.1++parts c x.2) ([],s) Wk.li (by simp) ?_
 rintro ⟨ps,r⟩ ⟨h1,h2,h3⟩ K hN hR hE;dsimp only at h1 h2 h3 ⊢;have hlen:(ps.map S).length=ps.length:=List.length_map ..;have h4:=congrArg List.length h3;rw[hc,List.length_append] at h4;simp[oi,nV];refine⟨fun hlt=>?_,fun hge=>?_⟩
 ·have hm:c ∈ r:=(TT r).1 (by omega);have hcl:=adH hm;have hpm:=aaF hm;have hi:=H8 hm;simp[oj];refine af (Tb r c) ?_;rw[hi];simp[ol];refine⟨fun h=>absurd h (by omega),?_⟩;simp[oq];rw[am (by omega)];have ht:r.take (sS c r).length=sS c r:=abG hm;have hd:r.drop ((sS c r).length+1)=Lh c r:=abF hm;have hlt':ps.length < N+1:=by omega
  simp[hlt',RA hlen hlt',Lp hlen hlt',ht];refine⟨by omega,by omega,?_⟩;simp[ot];rw[am (by omega)];refine⟨⟨by omega,by omega⟩,?_⟩;have e1:((sS c r).length+1:Int).toNat=(sS c r).length+1:=by omega
  rw[e1,hd,List.take_of_length_le (by omega)];simp[ov];rw[am (by omega)];refine hN (ps++[sS c r],Lh c r) _ (by simp;omega) ⟨by simp;omega,by simp;omega,by rw[h3,hpm];simp⟩ (Wk.list rfl (by simp) ?_);simp;have:=Lp (v:=S (sS c r)) (z:=S []) hlen hlt';rw[List.set_append_right _ _ (by omega)] at this;simpa using this
 ·refine hE _ _ ?_;have hnm:c ∉ r:=fun hm=>by have:=(TT r).2 hm;omega
  have hlt':ps.length < N+1:=by omega
  obtain rfl:ps.length=N:=by omega
  rw[tD hnm] at h3;simp only[aL];simp[je,RA hlen hlt',Lp hlen hlt'];refine⟨by omega,?_⟩;refine dY _ (Wk.refl _) ?_;simp[ow];rw[am (by omega)];simp[h3];omega
theorem Tc (s:List UInt8) (c:UInt8) (hs:s.length<=1048576):cJ qC [S s,S [c]] (.own 1 ((parts c s).map S)):=by
 refine aa.of N9 (by simp) ?_;simp[Co,vY,vZ];refine km (OC s c hs) rfl (.inl (by simp)) (by simp) ?_;simp
set_option maxRecDepth 100000
def IE:=[ok 4 vN]
def IF:=[oo 8 (.bslice 1 (vS []) 0 []),om 5 8]
def IG:=[ok 6 (vI 0)]
def IH:=[ok 7 (vI 0)]
def II:=[om 9 7,om 10 0,oo 11 (.len true (.t 10)),bM 12 .lss 9 11]
def IJ:=[om 15 0,om 16 7,oo 17 (.idx (.t 15) (.t 16)),om 18 1,bM 19 .eql 17 18]
def IK:=[om 20 5,om 21 0,om 22 6,om 23 7,oo 24 (.slc none (.t 21) (some (.t 22)) (some (.t 23))),oo 25 (.bslice 1 (vS []) 1 [(0,(.t 24))]),oo 26 (.app 1 16 (.t 20) (.t 25)),om 5 26]
def IL:=[om 27 7,fv 28 27 1,om 6 28]
def xK:=[om 13 7,fv 14 13 1,om 7 14]
def Ib:C:=(ss (sr II [0,1,5,6,7,12] (sc 12 .skip (.exit 0))) (ss (.block 1 (sr IJ [0,1,5,6,7,19] (sc 19 (sr IK [0,1,5,7] (.reg IL [0,1,5,6,7])) .skip))) (.reg xK [0,1,5,6,7])))
def F7:=[om 29 5,om 30 0,om 31 6,oo 32 (.slc none (.t 30) (some (.t 31)) none),oo 33 (.bslice 1 (vS []) 1 [(0,(.t 32))]),oo 34 (.app 1 16 (.t 29) (.t 33)),om 4 34]
def OP:C:=(sr IE [0,1] (sr IF [0,1,5] (sr IG [0,1,5,6] (ss (sr IH [0,1,5,6,7] (.block 0 (.loop Ib))) (sr F7 [4] .ret)))))
def WI:Nat->List Nat
 | 0=>[0,1]
 | 1=>[0,1,5]
 | 2=>[0,1,5,6]
 | 3=>[0,1,5,6,7]
 | 4=>[0,1,5,6,7,12]
 | 6=>[0,1,5,6,7,19]
 | 7=>[0,1,5,7]
 | 8=>[0,1,5,6,7]
 | 5=>[0,1,5,6,7]
 | 9=>[4]
 | _=>[]
theorem Ux:cz E0 OP [(.tmp 4)] 35 :=
 ⟨Tryz.f90,_,WI,func90,rfl,by kernel_rfl,by kernel_rfl,by kernel_rfl,rfl⟩
theorem aaM (s:List UInt8) (c:UInt8) (hs:s.length<=4000000):cJ E0 [S s,Y c] (.own 1 ((parts c s).map S)):=by
 refine aa.of Ux (by simp) ?_;simp[OP,IE,IF,IG,IH,Ib]
 refine ci (fun p:List (List UInt8)×Nat×Nat=>⟨[(0,S s),(1,Y c),(5,.sl 8 0 p.1.length),(6,I p.2.1),(7,I p.2.2)],[(8,⟨1,p.1.map S⟩)],[]⟩) (fun p=>s.length - p.2.2)
  (fun p=>(p.2.1<=p.2.2/\p.2.2<=s.length/\p.1.length<=p.2.2)/\parts c s=p.1++parts c (s.drop p.2.1)/\c ∉ (s.drop p.2.1).take (p.2.2 - p.2.1)) ([],0,0) Wk.li (by simp) ?_
 rintro ⟨done,j,i⟩ ⟨⟨hji,hi,hd⟩,hp,hc⟩ K hN hR hE;dsimp only at hji hi hd hp hc;simp[II];refine⟨fun hlt=>?_,fun hge=>?_⟩
 ·have hdr:(s.drop j).drop (i - j)=s[i]::s.drop (i+1):=by rw[List.drop_drop,show j+(i - j)=i by omega,List.drop_eq_getElem_cons hlt]
  simp[IJ,hlt];refine⟨fun h=>?_,fun h=>?_⟩
  ·have hsplit:parts c (s.drop j)=(s.drop j).take (i - j)::parts c (s.drop (i+1)):=by
    conv=>lhs;rw[<- List.take_append_drop (i - j) (s.drop j),hdr,h]
    exact Ff hc
   simp[IK];refine⟨by omega,by unfold ba;omega,?_⟩;simp[IL];rw[am (by omega)];simp[xK];rw[am (by omega)];refine hN (done++[(s.drop j).take (i - j)],i+1,i+1) _ (by dsimp only;omega) ⟨⟨by dsimp only;omega,by dsimp only;omega,by simp;omega⟩,?_,by simp⟩ (Wk.trans (Wk.ren 26 8 (by decide) (by simp)) (Wk.list rfl ?_ ?_))
   ·rw[hp,hsplit];simp
   ·simp[AS.ren,B8,B7]
   ·simp[AS.ren,B8,B7,su]
  ·simp[xK];rw[am (by omega)];refine hN (done,j,i+1) _ (by dsimp only;omega) ⟨⟨by dsimp only;omega,by dsimp only;omega,by dsimp only;omega⟩,hp,?_⟩ Wk.li;dsimp only;have hl:i - j < (s.drop j).length:=by rw[List.length_drop];omega
   rw[show i+1 - j=i - j+1 by omega,<- List.take_append_getElem hl,List.mem_append,List.mem_singleton];rintro (h' | h')
   ·exact hc h'
   ·refine h ?_;rw[h',List.getElem_drop];congr 1;omega
 ·refine hE _ _ ?_;obtain rfl:i=s.length:=by omega
  have hn:c ∉ s.drop j:=by
   rw[List.take_of_length_le (by rw[List.length_drop];omega)] at hc;exact hc
  rw[tD hn] at hp;simp only[aL];simp[F7];rw[List.take_of_length_le (by rw[List.length_drop];omega),hp];exact⟨by omega,by unfold ba;omega,by simp⟩
theorem R5 (c:UInt8) (x:UInt8) (s:List UInt8):∃ p ps,parts c s=p::ps/\parts c (x::s)=if x=c then []::p::ps else (x::p)::ps:=by
 cases h:parts c s with
 | nil=>exact absurd h (Fg s)
 | cons p ps =>
   refine⟨p,ps,rfl,?_⟩;rw[parts,h]
def gn (w:Int):List UInt8->List (List UInt8)->List (List UInt8)
 | cur,[]=>[cur]
 | cur,x::xs=>if (cur.length:Int)+1+x.length<=w then gn w (cur++32::x) xs else cur::gn w x xs
def fill (w:Int):List (List UInt8)->List (List UInt8)
 | []=>[]
 | x::xs=>gn w x xs
theorem BD {c:UInt8}:∀ {s w:List UInt8},w ∈ parts c s->w.length<=s.length
 | [],w,h=>by
   rw[parts] at h;simp at h;subst h;simp
 | x::s,w,h=>by
   obtain ⟨p,ps,h1,h2⟩:=R5 c x s;rw[h2] at h;have ih:∀ v ∈ p::ps,v.length<=s.length:=fun v hv=>BD (by rw[h1];exact hv);have hp:=ih p (by simp);split at h
   ·rcases List.mem_cons.1 h with rfl | h
    ·simp
    ·have:=ih w h;simp;omega
   ·rcases List.mem_cons.1 h with rfl | h
    ·simp;omega
    ·have:=ih w (by simp[h]);simp;omega
theorem ED (w:Int) (m:Nat) (hw:w<=m):∀ (r:List (List UInt8)) (cur:List UInt8),cur.length<=m->(∀ x ∈ r,x.length<=m)->∀ x ∈ gn w cur r,x.length<=m
 | [],cur,hc,_=>by simpa [gn] using hc
 | y::r,cur,hc,hr=>by
   rw[gn];split
   ·exact ED w m hw r _ (by simp;omega) fun x hx=>hr x (by simp[hx])
   ·intro x hx;rcases List.mem_cons.1 hx with rfl | hx
    ·exact hc
    ·exact ED w m hw r _ (hr y (by simp)) (fun x hx=>hr x (by simp[hx])) x hx
theorem Ba (w:Int):∀ (r:List (List UInt8)) (cur:List UInt8),(gn w cur r).length<=r.length+1
 | [],cur=>by simp[gn]
 | x::r,cur=>by
   rw[gn];split
   ·have:=Ba w r (cur++32::x);simp;omega
   ·have:=Ba w r x;simp;omega
def uP (w:Int) (L out:List (List UInt8)) (i:Nat):Prop :=
 (i=0/\out=[])\/∃ done cur,out=done++[cur]/\cur.length<=1000/\fill w L=done++gn w cur (L.drop i)
theorem uP.done {w:Int} {L out:List (List UInt8)} (h:uP w L out L.length):fill w L=out:=by
 rcases h with ⟨h0,rfl⟩ | ⟨done,cur,rfl,_,h⟩
 ·have:L=[]:=List.length_eq_zero_iff.1 h0;subst this;rfl
 ·rw[h,List.drop_length,gn]
theorem Z9 (s:List UInt8) (w:Int) (hs:s.length<=1000) (hw:w<=1000):cJ EY [S s,I w] (.own 1 ((fill w (parts 32 s)).map S)):=by
 refine aa.of Uu (by simp) ?_;have hle:(parts 32 s).length<=1001:=by have:=vp 32 s;have:=Re 32 s;omega
 have hsh:∀ x ∈ parts 32 s,x.length<=1000:=fun x hx=>by have:=BD hx;omega
 have hsp:=Tc s 32 (by omega);generalize parts 32 s=L at hle hsp hsh ⊢;simp[OM,Ih,Ii];simp[Ij];refine km hsp rfl (.inl (by simp)) (by simp) ?_;simp[tQ]
 refine ci (fun p:List (List UInt8)×Nat=>⟨[(1,I w),(5,.sl 9 0 p.1.length),(11,.sl 11 0 L.length),(12,I L.length),(13,I p.2)],[(9,⟨1,p.1.map S⟩),(11,⟨1,L.map S⟩)],[]⟩) (fun p=>L.length - p.2)
  (fun p=>p.2<=L.length/\p.1.length<=p.2/\uP w L p.1 p.2) ([],0) Wk.li (by simp[uP]) ?_
 rintro ⟨out,i⟩ ⟨hi,ho,hf⟩ K hN hR hE;dsimp only at hi ho hf ⊢;simp[Ik,EP];refine⟨fun hlt=>?_,fun hge=>?_⟩
 ·have hd:L.drop i=L[i]::L.drop (i+1):=List.drop_eq_getElem_cons hlt;have hx:=hsh L[i] (List.getElem_mem _);simp[Il,hlt];simp[Im];have hadd:∀ done:List (List UInt8),fill w L=done++gn w L[i] (L.drop (i+1))->done=out->uP w L (out++[L[i]]) (i+1):=fun done h e=>.inr ⟨out,L[i],rfl,hx,by rw[h,e]⟩;rcases hf with ⟨rfl,rfl⟩ | ⟨done,cur,rfl,hc,hf⟩
  ·have hF:uP w L ([]++[L[0]]) (0+1):=by
    refine hadd [] ?_ rfl;cases L with
    | nil=>simp at hlt
    | cons x xs=>rfl
   simp[xD];simp[xE];refine⟨by unfold ba;omega,?_⟩;simp[pC];rw[am (n:=1) (by omega)];refine hN ([]++[L[0]],0+1) _ (by dsimp only;omega) ⟨by dsimp only;omega,by simp,hF⟩ (Wk.trans (Wk.ren 47 9 (by decide) (by simp)) (Wk.list rfl ?_ ?_))
   ·simp[AS.ren,B8,B7]
   ·simp[AS.ren,B8,B7,su]
  ·have hml:(done.map S).length=done.length:=List.length_map ..;have hol:done.length+1<=i:=by simpa using ho
   simp[xD];rw[am (by omega)];have e1:(done.length:Int).toNat=done.length:=by omega
   rw[e1,bU hml];refine⟨⟨by omega,by omega⟩,?_⟩;simp;rw[am (n:=(cur.length:Int)+1) (by omega),am (by omega)];refine⟨fun hfit=>?_,fun hfit=>?_⟩
   ·simp[Io];rw[am (by omega),e1,bU hml];refine⟨⟨by omega,by omega⟩,?_⟩;simp;refine⟨by omega,by omega,by omega,?_⟩;simp[pC];rw[am (by omega)];have hF:uP w L (done++[cur++32::L[i]]) (i+1):=.inr ⟨done,cur++32::L[i],rfl,by simp;omega,by rw[hf,hd,gn,if_pos hfit]⟩;refine hN (done++[cur++32::L[i]],i+1) _ (by dsimp only;omega) ⟨by dsimp only;omega,by simp;omega,hF⟩ Wk.li
   ·have hF:uP w L (done++[cur]++[L[i]]) (i+1):=.inr ⟨done++[cur],L[i],rfl,hx,by rw[hf,hd,gn,if_neg (by omega)];simp⟩;have ht:(done.map S++[S cur]).take (done.length+1)=done.map S++[S cur]:=List.take_of_length_le (by simp);simp[xE];rw[ht];refine⟨by unfold ba;omega,?_⟩;simp[pC];rw[am (by omega)];refine hN (done++[cur]++[L[i]],i+1) _ (by dsimp only;omega) ⟨by dsimp only;omega,by simp;omega,hF⟩ (Wk.trans (Wk.ren 47 9 (by decide) (by simp)) (Wk.list rfl ?_ ?_))
    ·simp[AS.ren,B8,B7]
    ·simp[AS.ren,B8,B7,su]
 ·obtain rfl:i=L.length:=by omega
  refine hE _ _ ?_;simp only[aL];simp[tQ,hf.done]
def LZ:=[ok 2 (vB false)]
def L3:=[om 4 0,oo 5 (.len true (.t 4)),ok 6 (vI 0)]
def L4:=[bM 7 .lss 6 5]
def L5:=[om 8 6,om 3 8]
def L6:=[om 9 3,cD 10 .eql 9 0,om 11 10,oT 11 12 (.mv (.t 0)),oT 11 13 (.mv (.t 3)),oT 11 14 (.idx (.t 12) (.t 13)),oT 11 15 (.bin .lss .none (.t 14) (.k (.v (.int .u8 (65))))),oT 11 16 (.mv (.t 15)),oF 16 17 (.mv (.t 0)),oF 16 18 (.mv (.t 3)),oF 16 19 (.idx (.t 17) (.t 18)),oF 16 20 (.bin .gtr .none (.t 19) (.k (.v (.int .u8 (90))))),oT 11 21 (.pick (.t 16) (xB true) (.t 20)),oo 22 (.pick (.t 11) (.t 21) (xB false)),om 23 22,oF 23 24 (.mv (.t 3)),oF 23 25 (.bin .gtr .none (.t 24) (xI 0)),oF 23 26 (.mv (.t 25)),oT 26 27 (.mv (.t 0)),oT 26 28 (.mv (.t 3)),oT 26 29 (.idx (.t 27) (.t 28)),oT 26 30 (.bin .lss .none (.t 29) (.k (.v (.int .u8 (97))))),oT 26 31 (.mv (.t 30)),oF 31 32 (.mv (.t 0)),oF 31 33 (.mv (.t 3)),oF 31 34 (.idx (.t 32) (.t 33)),oF 31 35 (.bin .gtr .none (.t 34) (.k (.v (.int .u8 (122))))),oT 26 36 (.pick (.t 31) (xB true) (.t 35)),oF 23 37 (.pick (.t 26) (.t 36) (xB false)),oo 38 (.pick (.t 23) (xB true) (.t 37))]
def L7:=[ok 2 (vB false)]
def L8:=[fv 39 6 1,om 6 39]
def Lt:C:=(sr L4 [0,5,6,7] (ss (sc 7 .skip (.exit 0)) (ss (.block 1 (sr L5 [0,3,5,6] (sr L6 [0,5,6,38] (sc 38 (sr L7 [2] .ret) .skip)))) (.reg L8 [0,5,6]))))
def L9:=[om 40 0,oo 41 (.len true (.t 40)),oo 42 (.call cP [.t 41,xI 1,xI 12]),om 2 42]
def QU:C:=(sr LZ [0] (ss (sr L3 [0,5,6] (.block 0 (.loop Lt))) (sr L9 [2] .ret)))
theorem V4:cz Ko QU [(.tmp 2)] 43:=dh func82 rfl
def Iw:=[ok 2 (vB false)]
def Ix:=[om 4 0,oo 5 (.len true (.t 4)),oo 6 (.call eJ [.t 5,xI 1,xI 12]),oo 7 (.un .not (.t 6)),om 8 7,oF 8 9 (.mv (.t 0)),oF 8 10 (.idx (.t 9) (xI 0)),oF 8 11 (.bin .lss .none (.t 10) (.k (.v (.int .u8 (65))))),oo 12 (.pick (.t 8) (xB true) (.t 11)),om 13 12,oF 13 14 (.mv (.t 0)),oF 13 15 (.idx (.t 14) (xI 0)),oF 13 16 (.bin .gtr .none (.t 15) (.k (.v (.int .u8 (90))))),oo 17 (.pick (.t 13) (xB true) (.t 16))]
def pD:=[ok 2 (vB false)]
def Iy:=[ok 3 (vI 1)]
def Iz:=[om 18 3,om 19 0,oo 20 (.len true (.t 19)),bM 21 .lss 18 20]
def IA:=[om 24 0,om 25 3,oo 26 (.idx (.t 24) (.t 25)),oo 27 (.bin .lss .none (.t 26) (.k (.v (.int .u8 (97))))),om 28 27,oF 28 29 (.mv (.t 0)),oF 28 30 (.mv (.t 3)),oF 28 31 (.idx (.t 29) (.t 30)),oF 28 32 (.bin .gtr .none (.t 31) (.k (.v (.int .u8 (122))))),oo 33 (.pick (.t 28) (xB true) (.t 32))]
def IB:=[ok 2 (vB false)]
def IC:=[om 22 3,fv 23 22 1,om 3 23]
def Ia:C:=(ss (sr Iz [0,3,21] (sc 21 .skip (.exit 0))) (ss (.block 1 (sr IA [0,3,33] (sc 33 (sr IB [2] .ret) .skip))) (.reg IC [0,3])))
def ID:=[ok 2 (vB true)]
def OO:C:=(sr Iw [0] (ss (sr Ix [0,17] (sc 17 (sr pD [2] .ret) .skip)) (ss (sr Iy [0,3] (.block 0 (.loop Ia))) (sr ID [2] .ret))))
def WH:Nat->List Nat
 | 0=>[0]
 | 1=>[0,17]
 | 2=>[2]
 | 3=>[0,3]
 | 4=>[0,3,21]
 | 6=>[0,3,33]
 | 7=>[2]
 | 5=>[0,3]
 | 8=>[2]
 | _=>[]
theorem Uw:cz EZ OO [(.tmp 2)] 34 :=
 ⟨Tryz.f129,_,WH,func129,rfl,by kernel_rfl,by kernel_rfl,by kernel_rfl,rfl⟩
def FU:=[fc 1 18 0,ok 2 (vB false)]
def FV:=[aJ 3 0 1,bd 4 1 3,oo 5 (.call eJ [.t 4,xI 1,xI 999]),om 6 5,oT 6 7 (.faddr 1 (.t 1)),oT 6 8 (.ld false 1 (.t 7)),oT 6 9 (.call EZ [.t 8]),oo 10 (.pick (.t 6) (.t 9) (xB false)),om 11 10,oT 11 12 (.faddr 2 (.t 1)),oT 11 13 (.ld false 1 (.t 12)),oT 11 14 (.call eJ [.t 13,xI 1000,xI 2999]),oo 15 (.pick (.t 11) (.t 14) (xB false)),om 16 15,oT 16 17 (.faddr 3 (.t 1)),oT 16 18 (.ld true 15 (.t 17)),oT 16 19 (.call Kv [.t 18]),oo 20 (.pick (.t 16) (.t 19) (xB false)),om 2 20]
def K6:C:=(sr FU [1] (sr FV [2] .ret))
theorem SN:cz Bm K6 [(.tmp 2)] 21:=dh func88 rfl
def Ip:=[fc 1 1 0,ok 2 (vB false)]
def Iq:=[aJ 5 0 1,bd 6 1 5,oo 7 (.len false (.t 6)),cD 8 .gtr 7 12]
def Ir:=[ok 2 (vB false)]
def Is:=[ok 3 (vI 0)]
def Iu:=[om 9 3,aJ 10 0 1,bd 11 1 10,oo 12 (.len false (.t 11)),bM 13 .lss 9 12]
def Iv:=[aJ 16 0 1,bd 17 1 16,om 18 3,ep 19 18 17 18,cm 20 18 19,di 21 Bm 20,oo 22 (.un .not (.t 21)),om 23 22,oF 23 24 (.mv (.t 3)),oF 23 25 (.bin .gtr .none (.t 24) (xI 0)),oF 23 26 (.mv (.t 25)),oT 26 27 (.faddr 0 (.t 1)),oT 26 28 (.ld false 1 (.t 27)),oT 26 29 (.mv (.t 3)),oT 26 30 (.bin .sub .none (.t 29) (xI 1)),oT 26 31 (.iaddr 18 (.t 28) (.t 30)),oT 26 32 (.faddr 0 (.t 31)),oT 26 33 (.ld false 1 (.t 32)),oT 26 34 (.faddr 0 (.t 1)),oT 26 35 (.ld false 1 (.t 34)),oT 26 36 (.mv (.t 3)),oT 26 37 (.iaddr 18 (.t 35) (.t 36)),oT 26 38 (.faddr 0 (.t 37)),oT 26 39 (.ld false 1 (.t 38)),oT 26 40 (.bin .geq .none (.t 33) (.t 39)),oT 26 41 (.mv (.t 40)),oF 41 42 (.faddr 0 (.t 1)),oF 41 43 (.ld false 1 (.t 42)),oF 41 44 (.mv (.t 3)),oF 41 45 (.bin .sub .none (.t 44) (xI 1)),oF 41 46 (.iaddr 18 (.t 43) (.t 45)),oF 41 47 (.faddr 2 (.t 46)),oF 41 48 (.ld false 1 (.t 47)),oF 41 49 (.faddr 0 (.t 1)),oF 41 50 (.ld false 1 (.t 49)),oF 41 51 (.mv (.t 3)),oF 41 52 (.iaddr 18 (.t 50) (.t 51)),oF 41 53 (.faddr 2 (.t 52)),oF 41 54 (.ld false 1 (.t 53)),oF 41 55 (.bin .gtr .none (.t 48) (.t 54)),oT 26 56 (.pick (.t 41) (xB true) (.t 55)),oF 23 57 (.pick (.t 26) (.t 56) (xB false)),oo 58 (.pick (.t 23) (xB true) (.t 57))]
def Ig:List (List Nat):=[[],[0],[],[0,1,2],[0,1,2,3],[0,1,2,3,4],[0,1,2,3,4,5],[0,1,2,3,4,5,6],[0,1,2,3,4,5,6,7],[0,1,2,3,4,5,6,7,8],[0,1,2,3,4,5,6,7,8,9],[0,1,2,3,4,5,6,7,8,9,10],[0,1,2,3,4,5,6,7,8,9,10,11],[0,1,2,3,4,5,6,7,8,9,10],[0,1,2,3,4,5,6,7,8,9,10,13],[0,1,2,3,4,5,6,7,8,9,10,11,12,13,14],[0,1,2,3,4,5,6,7,8,9,10,11,12,13,14,15],[0,1,2,3,4,5,6,7,8,9,10,11,12,13,14,15,16],[0,1,2,3,4,5,6,7,8,9,10],[0,1,2,3,4,5,6,7,8,9,10,18],[0,1,2,3,4,5,6,7,8,9,10],[0,1,2,3,4,5,6,7,8,9,10,18,19,20],[0,1,2,3,4,5,6,7,8,9,10,18,19,20,21],[0,1,2,3,4,5,6,7,8,9,10,18,19,20,21,22],[0,1,2,3,4,5,6,7,8,9,10,11,12,13,14,15,16,17,18,19,20,21,22,23],[0,1,2,3,4,5,6,7,8,9,10,11,12,13,14,15,16,17,18,19,20,21,22,23,24],[0,1,2,3,4,5,6,7,8,9,10,11,12,13,14,15,16,17,18,19,20,21,22,23,24,25],[0,1,2,3,4,5,6,7,8,9,10,11,12,13,14,15,16,17,18,19,20,21,22,23,24,25,26],[0,1,2,3,4,5,6,7,8,9,10,11,12,13,14,15,16,17,18,19,20,21,22,23,24,25],[0,1,2,3,4,5,6,7,8,9,10,11,12,13,14,15,16,17,18,19,20,21,22,23,24,25,28],[0,1,2,3,4,5,6,7,8,9,10,11,12,13,14,15,16,17,18,19,20,21,22,23,24,25,26,27,28,29],[0,1,2,3,4,5,6,7,8,9,10,11,12,13,14,15,16,17,18,19,20,21,22,23,24,25,26,27,28,29,30],[0,1,2,3,4,5,6,7,8,9,10,11,12,13,14,15,16,17,18,19,20,21,22,23,24,25,26,27,28,29,30,31],[0,1,2,3,4,5,6,7,8,9,10,11,12,13,14,15,16,17,18,19,20,21,22,23,24,25],[0,1,2,3,4,5,6,7,8,9,10,11,12,13,14,15,16,17,18,19,20,21,22,23,24,25,33],[0,1,2,3,4,5,6,7,8,9,10,11,12,13,14,15,16,17,18,19,20,21,22,23,24,25],[0,1,2,3,4,5,6,7,8,9,10,11,12,13,14,15,16,17,18,19,20,21,22,23,24,25,33,34,35],[0,1,2,3,4,5,6,7,8,9,10,11,12,13,14,15,16,17,18,19,20,21,22,23,24,25,33,34,35,36],[0,1,2,3,4,5,6,7,8,9,10,11,12,13,14,15,16,17,18,19,20,21,22,23,24,25,33,34,35,36,37],[0,1,2,3,4,5,6,7,8,9,10,11,12,13,14,15,16,17,18,19,20,21,22,23,24,25,26,27,28,29,30,31,32,33,34,35,36,37,38],[0,1,2,3,4,5,6,7,8,9,10,11,12,13,14,15,16,17,18,19,20,21,22,23,24,25,26,27,28,29,30,31,32,33,34,35,36,37,38,39],[0,1,2,3,4,5,6,7,8,9,10,11,12,13,14,15,16,17,18,19,20,21,22,23,24,25,26,27,28,29,30,31,32,33,34,35,36,37,38,39,40],[0,1,2,3,4,5,6,7,8,9,10,11,12,13,14,15,16,17,18,19,20,21,22,23,24,25,26,27,28,29,30,31,32,33,34,35,36,37,38,39,40,41]]
def xF:=[ok 2 (vB false)]
def xG:=[ok 4 (vI 0)]
def xH:=[om 59 4,om 60 3,bM 61 .lss 59 60]
def xJ:=[aJ 64 0 1,bd 65 1 64,om 66 4,ep 67 18 65 66,aJ 68 3 67,cm 69 15 68,aJ 70 0 1,bd 71 1 70,om 72 3,ep 73 18 71 72,aJ 74 3 73,cm 75 15 74,eo 76 lc 69 75]
def xw:List (List Nat):=[[],[0],[],[0,1,2],[0,1,2,3],[0,1,2,3,4],[],[6],[],[6,7,8],[6,7,8,9],[6,7,8,9,10],[0,1,2,3,4,5,6,7,8,9,10,11]]
def t8:=[ok 2 (vB false)]
def ua:=[om 62 4,fv 63 62 1,om 4 63]
def td:C:=(ss (sr xH [1,3,4,61] (sc 61 .skip (.exit 2))) (ss (.block 3 (ss (.regD xJ xw [1,3,4,76]) (sc 76 (sr t8 [2] .ret) .skip))) (.reg ua [1,3,4])))
def ub:=[om 14 3,fv 15 14 1,om 3 15]
def EQ:C:=(ss (sr Iu [1,3,13] (sc 13 .skip (.exit 0))) (ss (.block 1 (ss (ss (.regD Iv Ig [1,3,58]) (sc 58 (sr xF [2] .ret) .skip)) (sr xG [1,3,4] (.block 2 (.loop td))))) (.reg ub [1,3])))
def FT:=[ok 2 (vB true)]
def ON:C:=(sr Ip [1] (ss (sr Iq [1,8] (sc 8 (sr Ir [2] .ret) .skip)) (ss (sr Is [1,3] (.block 0 (.loop EQ))) (sr FT [2] .ret))))
def WG:Nat->List Nat
 | 0=>[1]
 | 1=>[1,8]
 | 2=>[2]
 | 3=>[1,3]
 | 4=>[1,3,13]
 | 6=>[1,3,58]
 | 7=>[2]
 | 8=>[1,3,4]
 | 9=>[1,3,4,61]
 | 11=>[1,3,4,76]
 | 12=>[2]
 | 10=>[1,3,4]
 | 5=>[1,3]
 | 13=>[2]
 | _=>[]
theorem Uv:cz ve ON [(.tmp 2)] 77 :=
 ⟨Tryz.f50,_,WG,func50,rfl,by kernel_rfl,by kernel_rfl,by kernel_rfl,rfl⟩
def eN:=[ok 4 (vI 0)]
def eO:=[om 6 0,oo 7 (.len false (.t 6)),ok 8 (vI 0)]
def eP:=[bM 9 .lss 8 7]
def eQ:=[om 10 8,om 5 10]
def eR:=[om 11 1,om 12 0,om 13 5,ep 14 18 12 13,cm 15 18 14,oo 16 (.callv (.t 11) [.t 15])]
def eS:=[om 17 5,om 4 17]
def eT:=[fv 18 8 1,om 8 18]
def eI:C:=(sr eP [0,1,7,8,9] (ss (sc 9 .skip (.exit 0)) (ss (.block 1 (sr eQ [0,1,5,7,8] (sr eR [0,1,5,7,8,16] (sc 16 (sr eS [4] .ret) .skip)))) (.reg eT [0,1,7,8]))))
def eU:=[ok 4 (vI (-1))]
def fg:C:=(sr eN [0,1] (ss (sr eO [0,1,7,8] (.block 0 (.loop eI))) (sr eU [4] .ret)))
theorem kn:cz dc fg [(.tmp 4)] 19:=dh func126 rfl
def dP:=[ok 4 (vB false)]
def dQ:=[om 5 0,om 6 1,eo 7 dc 5 6,cD 8 .geq 7 0,om 4 8]
def er:C:=(sr dP [0,1] (sr dQ [4] .ret))
theorem jx:cz cL er [(.tmp 4)] 9:=dh func84 rfl
def lE:=[fc 2 18 0,ok 3 (vB false)]
def lF:=[aJ 4 3 2,cm 5 15 4,aJ 6 3 1,cm 7 15 6,eo 8 Bh 5 7,om 3 8]
def nR:C:=(sr lE [1,2] (sr lF [3] .ret))
theorem Bd:cz dE nR [(.tmp 3)] 9:=dh func85 rfl
def nY:=[fc 1 1 0,ok 2 (vB false)]
def nZ:=[aJ 5 0 1,bd 6 1 5,oo 7 (.len false (.t 6)),ok 8 (vI 0)]
def n6:=[bM 9 .lss 8 7]
def n7:=[om 10 8,ep 11 18 6 8,cm 12 18 11,qo 4 18 Cd,om 3 10,cy 18 4 12]
def n8:=[aJ 13 0 4,bd 14 1 13,oo 15 (.call cP [.t 14,xI 1,xI 999]),oo 16 (.un .not (.t 15)),om 17 16,oF 17 18 (.faddr 1 (.t 4)),oF 17 19 (.ld false 1 (.t 18)),oF 17 20 (.call Ko [.t 19]),oF 17 21 (.un .not (.t 20)),oo 22 (.pick (.t 17) (xB true) (.t 21)),om 23 22,oF 23 24 (.faddr 2 (.t 4)),oF 23 25 (.ld false 1 (.t 24)),oF 23 26 (.call cP [.t 25,xI 1000,xI 2999]),oF 23 27 (.un .not (.t 26)),oo 28 (.pick (.t 23) (xB true) (.t 27)),om 29 28,oF 29 30 (.faddr 3 (.t 4)),oF 29 31 (.ld true 15 (.t 30)),oF 29 32 (.call qy [.t 31]),oF 29 33 (.un .not (.t 32)),oo 34 (.pick (.t 29) (xB true) (.t 33))]
def dF:=[ok 2 (vB false)]
def n9:=[om 35 3,cD 36 .gtr 35 0,om 37 36,oT 37 38 (.faddr 0 (.t 1)),oT 37 39 (.ld false 1 (.t 38)),oT 37 40 (.mv (.t 3)),oT 37 41 (.bin .sub .none (.t 40) (xI 1)),oT 37 42 (.iaddr 18 (.t 39) (.t 41)),oT 37 43 (.faddr 0 (.t 42)),oT 37 44 (.ld false 1 (.t 43)),oT 37 45 (.faddr 0 (.t 4)),oT 37 46 (.ld false 1 (.t 45)),oT 37 47 (.bin .geq .none (.t 44) (.t 46)),oT 37 48 (.mv (.t 47)),oF 48 49 (.faddr 0 (.t 1)),oF 48 50 (.ld false 1 (.t 49)),oF 48 51 (.mv (.t 3)),oF 48 52 (.bin .sub .none (.t 51) (xI 1)),oF 48 53 (.iaddr 18 (.t 50) (.t 52)),oF 48 54 (.faddr 2 (.t 53)),oF 48 55 (.ld false 1 (.t 54)),oF 48 56 (.faddr 2 (.t 4)),oF 48 57 (.ld false 1 (.t 56)),oF 48 58 (.bin .gtr .none (.t 55) (.t 57)),oT 37 59 (.pick (.t 48) (xB true) (.t 58)),oo 60 (.pick (.t 37) (.t 59) (xB false))]
def nX:List (List Nat):=[[],[0],[0,1],[0,1,2],[0,1,2,3],[0,1,2],[0,1,2,5],[0,1,2,3,4,5,6],[0,1,2,3,4,5,6,7],[0,1,2,3,4,5,6,7,8],[0,1,2],[0,1,2,10],[0,1,2,3,4,5,6,7,8,9,10,11],[0,1,2,3,4,5,6,7,8,9,10,11,12],[0,1,2,3,4,5,6,7,8,9,10,11,12,13],[0,1,2,3,4,5,6,7,8,9,10,11,12,13,14],[0,1,2,3,4,5,6,7,8,9,10,11,12,13],[0,1,2,3,4,5,6,7,8,9,10,11,12,13,16],[0,1,2,3,4,5,6,7,8,9,10,11,12,13,14,15,16,17],[0,1,2,3,4,5,6,7,8,9,10,11,12,13,14,15,16,17,18],[0,1,2,3,4,5,6,7,8,9,10,11,12,13,14,15,16,17,18,19],[0,1,2,3,4,5,6,7,8,9,10,11,12,13],[0,1,2,3,4,5,6,7,8,9,10,11,12,13,21],[0,1,2,3,4,5,6,7,8,9,10,11,12,13,14,15,16,17,18,19,20,21,22],[0,1,2,3,4,5,6,7,8,9,10,11,12,13,14,15,16,17,18,19,20,21,22,23],[0,1,2,3,4,5,6,7,8,9,10,11,12,13,14,15,16,17,18,19,20,21,22,23,24]]
def oa:=[ok 2 (vB false)]
def jb:=[aJ 61 0 1,bd 62 1 61,om 63 3,oo 64 (.slc (some 18) (.t 62) none (some (.t 63))),oo 65 (.clo dE [.t 4]),eo 66 cL 64 65]
def jc:=[ok 2 (vB false)]
def iw:=[fv 67 8 1,om 8 67]
def mw:C:=(sr n6 [1,6,7,8,9] (ss (sc 9 .skip (.exit 0)) (ss (.block 1 (sr n7 [1,3,4,6,7,8] (ss (sr n8 [1,3,4,6,7,8,34] (sc 34 (sr dF [2] .ret) .skip)) (ss (ss (.regD n9 nX [1,3,4,6,7,8,60]) (sc 60 (sr oa [2] .ret) .skip)) (sr jb [1,6,7,8,66] (sc 66 (sr jc [2] .ret) .skip)))))) (.reg iw [1,6,7,8]))))
def na:=[aJ 68 0 1,bd 69 1 68,oo 70 (.len false (.t 69)),cD 71 .leq 70 12,om 2 71]
def qW:C:=(sr nY [1] (ss (sr nZ [1,6,7,8] (.block 0 (.loop mw))) (sr na [2] .ret)))
theorem EG:cz gO qW [(.tmp 2)] 72:=dh func47 rfl
def i6:=[fc 1 4 0,ok 2 vN]
def i7:=[aJ 3 0 1,bd 4 1 3,cD 5 .eql 4 0]
def i8:=[aJ 6 2 1,bd 7 1 6,oo 8 (.bslice 1 (vI 0) 1 [(0,(.t 7))]),om 2 8]
def ja:=[aJ 9 2 1,bd 10 1 9,aJ 11 3 1,bd 12 1 11,oo 13 (.bslice 1 (vI 0) 2 [(0,(.t 10)),(1,(.t 12))]),om 2 13]
def j4:C:=(sr i6 [1] (ss (sr i7 [1,5] (sc 5 (sr i8 [2] .ret) .skip)) (sr ja [2] .ret)))
theorem EF:cz gN j4 [(.tmp 2)] 14:=dh func192 rfl
def nt:=[fc 1 4 0,ok 2 vN]
def nu:=[aJ 3 0 1,bd 4 1 3,cD 5 .eql 4 0]
def nv:=[aJ 6 2 1,bd 7 1 6,oo 8 (.bslice 1 (vI 0) 1 [(0,(.t 7))]),om 2 8]
def ny:=[aJ 9 2 1,bd 10 1 9,aJ 11 3 1,bd 12 1 11,oo 13 (.bslice 1 (vI 0) 2 [(0,(.t 10)),(1,(.t 12))]),om 2 13]
def qq:C:=(sr nt [1] (ss (sr nu [1,5] (sc 5 (sr nv [2] .ret) .skip)) (sr ny [2] .ret)))
theorem N7:cz lf qq [(.tmp 2)] 14:=dh func198 rfl
def BN:=[ok 4 (vB false)]
def BO:=[om 6 0,oo 7 (.len false (.t 6)),om 8 1,oo 9 (.len false (.t 8)),bM 10 .neq 7 9]
def BP:=[ok 4 (vB false)]
def Ml:=[ok 5 (vI 0)]
def Mm:=[om 11 5,om 12 0,oo 13 (.len false (.t 12)),bM 14 .lss 11 13]
def Mn:=[om 17 0,om 18 5,ep 19 1 17 18,bd 20 1 19,om 21 1,om 22 5,ep 23 1 21 22,bd 24 1 23,bM 25 .neq 20 24]
def LG:List (List Nat):=[[],[],[0,1],[0,1,2],[],[],[4,5],[4,5,6],[0,1,2,3,4,5,6,7]]
def Mo:=[ok 4 (vB false)]
def Mp:=[om 15 5,fv 16 15 1,om 5 16]
def Lv:C:=(ss (sr Mm [0,1,5,14] (sc 14 .skip (.exit 0))) (ss (.block 1 (ss (.regD Mn LG [0,1,5,25]) (sc 25 (sr Mo [4] .ret) .skip))) (.reg Mp [0,1,5])))
def Mq:=[ok 4 (vB true)]
def JX:C:=(sr BN [0,1] (ss (sr BO [0,1,10] (sc 10 (sr BP [4] .ret) .skip)) (ss (sr Ml [0,1,5] (.block 0 (.loop Lv))) (sr Mq [4] .ret))))
def Ym:Nat->List Nat
 | 0=>[0,1]
 | 1=>[0,1,10]
 | 2=>[4]
 | 3=>[0,1,5]
 | 4=>[0,1,5,14]
 | 6=>[0,1,5,25]
 | 7=>[4]
 | 5=>[0,1,5]
 | 8=>[4]
 | _=>[]
theorem V6:cz Kp JX [(.tmp 4)] 26 :=
 ⟨Tryz.f197,_,Ym,func197,rfl,by kernel_rfl,by kernel_rfl,by kernel_rfl,rfl⟩
def gE:=[ok 4 (vB false)]
def gF:=[om 6 0,oo 7 (.len false (.t 6)),om 8 1,oo 9 (.len false (.t 8)),bM 10 .neq 7 9]
def gG:=[ok 4 (vB false)]
def kJ:=[om 11 0,oo 12 (.len false (.t 11)),ok 13 (vI 0)]
def kK:=[bM 14 .lss 13 12]
def kL:=[om 15 13,om 5 15]
def kM:=[om 16 0,om 17 5,ep 18 1 16 17,bd 19 1 18,om 20 1,om 21 5,ep 22 1 20 21,bd 23 1 22,bM 24 .neq 19 23]
def kw:List (List Nat):=[[],[],[0,1],[0,1,2],[],[],[4,5],[4,5,6],[0,1,2,3,4,5,6,7]]
def kN:=[ok 4 (vB false)]
def kO:=[fv 25 13 1,om 13 25]
def kp:C:=(sr kK [0,1,12,13,14] (ss (sc 14 .skip (.exit 0)) (ss (.block 1 (sr kL [0,1,5,12,13] (ss (.regD kM kw [0,1,12,13,24]) (sc 24 (sr kN [4] .ret) .skip)))) (.reg kO [0,1,12,13]))))
def j3:=[ok 4 (vB true)]
def hY:C:=(sr gE [0,1] (ss (sr gF [0,1,10] (sc 10 (sr gG [4] .ret) .skip)) (ss (sr kJ [0,1,12,13] (.block 0 (.loop kp))) (sr j3 [4] .ret))))
theorem yr:cz ik hY [(.tmp 4)] 26:=dh func191 rfl
def m6:=[fc 2 4 0,fc 3 4 1,ok 4 (vI 0),ok 5 (vB false)]
def m7:=[cm 6 4 2,di 7 gV 6,oo 8 (.un .not (.t 7)),om 9 8,oF 9 10 (.ld true 4 (.t 3)),oF 9 11 (.call gV [.t 10]),oF 9 12 (.un .not (.t 11)),oo 13 (.pick (.t 9) (xB true) (.t 12))]
def BG:=[ok 4 (vI 0),ok 5 (vB false)]
def m8:=[aJ 14 0 2,bd 15 1 14,aJ 16 0 3,bd 17 1 16,bM 18 .neq 15 17,di 19 gy 18,aJ 20 1 2,bd 21 1 20,aJ 22 1 3,bd 23 1 22,bM 24 .neq 21 23,di 25 gy 24,bM 26 .add 19 25,cm 27 4 2,di 28 gN 27,cm 29 4 3,di 30 gN 29,eo 31 ik 28 30,oo 32 (.un .not (.t 31)),di 33 gy 32,bM 34 .add 26 33,om 4 34,ok 5 (vB true)]
def im:List (List Nat):=[[],[0],[],[2],[0,1,2,3],[0,1,2,3,4],[],[6],[],[8],[6,7,8,9],[0,1,2,3,4,5,6,7,8,9,10],[0,1,2,3,4,5,6,7,8,9,10,11],[],[0,1,2,3,4,5,6,7,8,9,10,11,13],[],[0,1,2,3,4,5,6,7,8,9,10,11,13,14,15],[0,1,2,3,4,5,6,7,8,9,10,11,13,14,15,16],[0,1,2,3,4,5,6,7,8,9,10,11,13,14,15,16,17],[0,1,2,3,4,5,6,7,8,9,10,11,13,14,15,16,17,18],[0,1,2,3,4,5,6,7,8,9,10,11,12,13,14,15,16,17,18,19],[0,1,2,3,4,5,6,7,8,9,10,11,12,13,14,15,16,17,18,19,20],[0,1,2,3,4,5,6,7,8,9,10,11,12,13,14,15,16,17,18,19,20,21]]
def pH:C:=(sr m6 [2,3] (ss (sr m7 [2,3,13] (sc 13 (sr BG [4,5] .ret) .skip)) (ss (.regD m8 im [4,5]) .ret)))
theorem D4:cz jA pH [(.tmp 4),(.tmp 5)] 35:=dh func165 rfl
def rn:=[fc 2 4 0,fc 3 4 1,ok 4 (vI 0)]
def rq:=[ok 5 (vI 0)]
def rr:=[aJ 6 0 2,bd 7 1 6,aJ 8 0 3,bd 9 1 8,bM 10 .neq 7 9]
def rt:=[om 11 5,fv 12 11 1,om 5 12]
def ru:=[aJ 13 1 2,bd 14 1 13,aJ 15 1 3,bd 16 1 15,bM 17 .neq 14 16]
def rv:=[om 18 5,fv 19 18 1,om 5 19]
def rx:=[cm 20 4 2,di 21 lf 20,cm 22 4 3,di 23 lf 22,eo 24 Kp 21 23,oo 25 (.un .not (.t 24))]
def j7:List (List Nat):=[[],[0],[],[0,1,2],[0,1,2,3],[0,1,2,3,4]]
def ry:=[om 26 5,fv 27 26 1,om 5 27]
def kg:=[om 28 5,om 4 28]
def uV:C:=(sr rn [2,3] (sr rq [2,3,5] (ss (sr rr [2,3,5,10] (sc 10 (.reg rt [2,3,5]) .skip)) (ss (sr ru [2,3,5,17] (sc 17 (.reg rv [2,3,5]) .skip)) (ss (ss (.regD rx j7 [5,25]) (sc 25 (.reg ry [5]) .skip)) (sr kg [4] .ret))))))
theorem Kd:cz mL uV [(.tmp 4)] 29:=dh func173 rfl
def iy:=[fc 2 4 0,fc 3 4 1,ok 4 (vI 0)]
def iz:=[cm 6 4 2,cm 7 4 3,oo 8 (.bin .eql (.struct [EK.int,EK.int,EK.int,EK.int]) (.t 6) (.t 7))]
def ni:=[ok 4 (vI 0)]
def e8:=[cm 9 4 2,oo 10 (.build QF []),oo 11 (.bin .eql (.struct [EK.int,EK.int,EK.int,EK.int]) (.t 9) (.t 10)),om 12 11,oF 12 13 (.ld true 4 (.t 3)),oF 12 14 (.build QF []),oF 12 15 (.bin .eql (.struct [EK.int,EK.int,EK.int,EK.int]) (.t 13) (.t 14)),oo 16 (.pick (.t 12) (xB true) (.t 15))]
def iA:=[ok 4 (vI 2)]
def nj:=[aJ 17 0 2,bd 18 1 17,aJ 19 0 3,bd 20 1 19,bM 21 .neq 18 20,di 22 gy 21,aJ 23 3 2,bd 24 1 23,aJ 25 3 3,bd 26 1 25,bM 27 .neq 24 26,di 28 gy 27,bM 29 .add 22 28,om 5 29]
def io:List (List Nat):=[[],[0],[],[2],[0,1,2,3],[0,1,2,3,4],[],[6],[],[8],[6,7,8,9],[0,1,2,3,4,5,6,7,8,9,10],[0,1,2,3,4,5,6,7,8,9,10,11],[0,1,2,3,4,5,6,7,8,9,10,11,12]]
def nk:=[aJ 30 1 2,bd 31 1 30,aJ 32 1 3,bd 33 1 32,bM 34 .neq 31 33]
def nl:=[om 35 5,fv 36 35 2,om 4 36]
def nm:=[om 37 5,aJ 38 2 2,bd 39 1 38,aJ 40 2 3,bd 41 1 40,bM 42 .neq 39 41,di 43 gy 42,bM 44 .add 37 43,om 4 44]
def jv:C:=(sr iy [2,3] (ss (sr iz [2,3,8] (sc 8 (sr ni [4] .ret) .skip)) (ss (sr e8 [2,3,16] (sc 16 (sr iA [4] .ret) .skip)) (ss (.regD nj io [2,3,5]) (ss (sr nk [2,3,5,34] (sc 34 (sr nl [4] .ret) .skip)) (sr nm [4] .ret))))))
theorem D6:cz fM jv [(.tmp 4)] 45:=dh func166 rfl
def rz:=[fc 2 4 0,fc 3 4 1,ok 4 (vI 0)]
def rA:=[cm 6 4 2,di 7 gA 6,cm 8 4 3,di 9 gA 8,oo 10 (.bin .neq .bool (.t 7) (.t 9))]
def j8:List (List Nat):=[[],[0],[],[0,1,2],[0,1,2,3]]
def rB:=[ok 4 (vI 2)]
def rC:=[ok 5 (vI 0)]
def rD:=[aJ 11 0 2,bd 12 1 11,aJ 13 0 3,bd 14 1 13,bM 15 .neq 12 14]
def rE:=[om 16 5,fv 17 16 1,om 5 17]
def rF:=[aJ 18 1 2,bd 19 1 18,aJ 20 1 3,bd 21 1 20,bM 22 .neq 19 21]
def rG:=[om 23 5,fv 24 23 2,om 5 24]
def rH:=[aJ 25 2 2,bd 26 1 25,aJ 27 2 3,bd 28 1 27,bM 29 .neq 26 28]
def rI:=[om 30 5,fv 31 30 1,om 5 31]
def qb:=[aJ 32 3 2,bd 33 1 32,aJ 34 3 3,bd 35 1 34,bM 36 .neq 33 35]
def qc:=[om 37 5,fv 38 37 1,om 5 38]
def qd:=[om 39 5,om 4 39]
def uW:C:=(sr rz [2,3] (ss (ss (.regD rA j8 [2,3,10]) (sc 10 (sr rB [4] .ret) .skip)) (sr rC [2,3,5] (ss (sr rD [2,3,5,15] (sc 15 (.reg rE [2,3,5]) .skip)) (ss (sr rF [2,3,5,22] (sc 22 (.reg rG [2,3,5]) (sr rH [2,3,5,29] (sc 29 (.reg rI [2,3,5]) .skip)))) (ss (sr qb [5,36] (sc 36 (.reg qc [5]) .skip)) (sr qd [4] .ret)))))))
theorem Ke:cz jk uW [(.tmp 4)] 40:=dh func174 rfl
def vH:=[fc 2 15 0,fc 3 15 1,ok 4 (vI 0)]
def vJ:=[aJ 8 0 2,cm 9 4 8,aJ 10 0 3,cm 11 4 10,eo 12 jA 9 11,om 7 12,sE 13 7 0,sE 14 7 1,om 5 13,om 6 14]
def vK:=[om 15 5,aJ 16 7 2,cm 17 4 16,aJ 18 7 3,cm 19 4 18,eo 20 fM 17 19,aJ 21 11 2,cm 22 4 21,aJ 23 11 3,cm 24 4 23,eo 25 fM 22 24,bM 26 .add 20 25,bM 27 .add 15 26,om 5 27]
def mS:List (List Nat):=[[],[],[1],[],[3],[1,2,3,4],[],[6],[],[8],[1,2,3,4,5,6,7,8,9],[1,2,3,4,5,6,7,8,9,10],[0,1,2,3,4,5,6,7,8,9,10,11],[0,1,2,3,4,5,6,7,8,9,10,11,12]]
def nh:=[aJ 28 4 2,bd 29 1 28,aJ 30 4 3,bd 31 1 30,bM 32 .neq 29 31]
def vL:=[om 33 5,fv 34 33 2,om 4 34]
def vM:=[om 35 5,aJ 36 5 2,bd 37 1 36,aJ 38 5 3,bd 39 1 38,bM 40 .neq 37 39,di 41 gy 40,bM 42 .add 35 41,aJ 43 6 2,bd 44 1 43,aJ 45 6 3,bd 46 1 45,bM 47 .neq 44 46,di 48 gy 47,bM 49 .add 42 48,om 4 49]
def mT:List (List Nat):=[[],[],[1],[],[3],[1,2,3,4],[1,2,3,4,5],[0,1,2,3,4,5,6],[],[8],[],[10],[8,9,10,11],[1,2,3,4,5,6,8,9,10,11,12],[0,1,2,3,4,5,6,7,8,9,10,11,12,13],[0,1,2,3,4,5,6,7,8,9,10,11,12,13,14]]
def Cl:C:=(sr vH [2,3] (sr vJ [2,3,5] (ss (.regD vK mS [2,3,5]) (ss (sr nh [2,3,5,32] (sc 32 (sr vL [4] .ret) .skip)) (ss (.regD vM mT [4]) .ret)))))
theorem N4:cz qA Cl [(.tmp 4)] 50:=dh func127 rfl
def Fr:=[fc 2 15 0,fc 3 15 1,ok 4 (vB false)]
def Ft:=[cm 5 15 2,cm 6 15 3,eo 7 qA 5 6,cD 8 .lss 7 2,om 4 8]
def KY:C:=(sr Fr [2,3] (sr Ft [4] .ret))
theorem SH:cz Bh KY [(.tmp 4)] 9:=dh func86 rfl
def FL:=[fc 2 15 0,fc 3 15 1,ok 4 (vI 0)]
def FM:=[aJ 6 0 2,cm 7 4 6,aJ 8 0 3,cm 9 4 8,eo 10 mL 7 9,aJ 11 7 2,cm 12 4 11,aJ 13 7 3,cm 14 4 13,eo 15 jk 12 14,bM 16 .add 10 15,aJ 17 11 2,cm 18 4 17,aJ 19 11 3,cm 20 4 19,eo 21 jk 18 20,bM 22 .add 16 21,om 5 22]
def tx:List (List Nat):=[[],[0],[],[2],[0,1,2,3],[],[5],[],[7],[0,1,2,3,4,5,6,7,8],[0,1,2,3,4,5,6,7,8,9],[],[11],[],[13],[0,1,2,3,4,5,6,7,8,9,11,12,13,14],[0,1,2,3,4,5,6,7,8,9,10,11,12,13,14,15],[0,1,2,3,4,5,6,7,8,9,10,11,12,13,14,15,16]]
def tU:=[aJ 23 4 2,bd 24 1 23,aJ 25 4 3,bd 26 1 25,bM 27 .neq 24 26]
def FN:=[om 28 5,fv 29 28 2,om 4 29]
def FO:=[aJ 30 5 2,bd 31 1 30,aJ 32 5 3,bd 33 1 32,bM 34 .neq 31 33]
def FP:=[om 35 5,fv 36 35 1,om 5 36]
def FQ:=[aJ 37 6 2,bd 38 1 37,aJ 39 6 3,bd 40 1 39,bM 41 .neq 38 40]
def FR:=[om 42 5,fv 43 42 1,om 5 43]
def FS:=[om 44 5,om 4 44]
def K5:C:=(sr FL [2,3] (ss (.regD FM tx [2,3,5]) (ss (sr tU [2,3,5,27] (sc 27 (sr FN [4] .ret) .skip)) (ss (sr FO [2,3,5,34] (sc 34 (.reg FP [2,3,5]) .skip)) (ss (sr FQ [5,41] (sc 41 (.reg FR [5]) .skip)) (sr FS [4] .ret))))))
theorem SM:cz Bl K5 [(.tmp 4)] 45:=dh func131 rfl
def vO:=[fc 2 15 0,fc 3 15 1,ok 4 (vB false)]
def vP:=[cm 5 15 2,cm 6 15 3,eo 7 Bl 5 6,cD 8 .lss 7 2,om 4 8]
def Cm:C:=(sr vO [2,3] (sr vP [4] .ret))
theorem N5:cz lc Cm [(.tmp 4)] 9:=dh func89 rfl
def hJ (f:Field):List Int:=if f.division=0 then [f.first] else [f.first,f.second]
def jS (a b:Field):Int:=NV (a.division != b.division)+NV (a.line != b.line)+NV (!decide (hJ a=hJ b))
def geq (a b:Group):Bool:=a.count==b.count&&(a.kind==b.kind&&(a.attitude==b.attitude&&a.tincture==b.tincture))
def de (a b:Group):Int:=if geq a b then 0 else if g0 a||g0 b then 2 else NV (a.count != b.count)+NV (a.tincture != b.tincture)+(if a.kind=b.kind then NV (a.attitude != b.attitude) else 2)
def jh (a b:Arms):Int:=jS a.field b.field+(de a.on b.on+de a.around b.around)+(if a.ordinary=b.ordinary then NV (a.line != b.line)+NV (a.tincture != b.tincture) else 2)
theorem dj (b:Bool):0<=NV b/\NV b<=1:=by unfold NV;split<;>omega
theorem ym (a b:Field):0<=jS a b/\jS a b<=3:=by
 unfold jS;have h1:=dj (a.division != b.division);have h2:=dj (a.line != b.line);have h3:=dj (!decide (hJ a=hJ b));omega
theorem jT (a b:Group):0<=de a b/\de a b<=4:=by
 unfold de;have h1:=dj (a.count != b.count);have h2:=dj (a.tincture != b.tincture);have h3:=dj (a.attitude != b.attitude);split
 ·omega
 ·split
  ·omega
  ·split<;>omega
theorem u0 (f:Field):cJ gN [jw f] (.own 1 ((hJ f).map I)):=by
 refine aa.of EF (by simp) ?_;by_cases h:f.division=0
 ·simp[j4,i6,i7,i8,ja,h,hJ]
 ·simp[j4,i6,i7,i8,ja,h,hJ]
theorem JQ (f:Field):cJ lf [jw f] (.own 1 ((hJ f).map I)):=by
 refine aa.of N7 (by simp) ?_;by_cases h:f.division=0
 ·simp[qq,nt,nu,nv,ny,h,hJ]
 ·simp[qq,nt,nu,nv,ny,h,hJ]
theorem acO (a b:List Int):cJ Kp [.ro 1 (a.map I),.ro 1 (b.map I)] (B (decide (a=b))):=by
 refine aa.ofL V6 (by simp) fun hl=>?_;simp at hl;by_cases hl:a.length=b.length
 ·simp[JX,BN,BO,BP,Ml,Mq,hl];refine ci (fun i:Nat=>⟨[(0,.ro 1 (a.map I)),(1,.ro 1 (b.map I)),(5,I i)],[],[]⟩) (fun i=>a.length - i) (fun i=>i<=a.length/\a.take i=b.take i) 0 Wk.li (by simp) ?_;rintro i ⟨hi,hj⟩ K hN hR hE;simp[Mm,Lv];refine⟨fun hlt=>?_,fun hge=>?_⟩
  ·have hlb:i < b.length:=by omega
   simp[Mn,LG,hlt,hlb];refine⟨aO (by first | kernel_rfl | simp) (by first | kernel_rfl | simp),fun hne=>?_,fun he=>?_⟩
   ·simp[Mo];refine hR _ ?_;simp;rintro rfl;exact hne rfl
   ·simp[Mp];rw[am (by omega)];refine hN (i+1) _ (by omega) ⟨by omega,?_⟩ Wk.li;rw[br hlt,br hlb,hj,he]
  ·refine hE _ _ ?_;rw[List.take_of_length_le (by omega),List.take_of_length_le (by omega)] at hj;simp[hj]
 ·simp[JX,BN,BO,BP,hl];refine⟨fun _ e=>hl (by rw[e]),fun e=>absurd (by omega) hl⟩
theorem Hk (a b:List Int):cJ ik [.ro 1 (a.map I),.ro 1 (b.map I)] (B (decide (a=b))):=by
 refine aa.ofL yr (by simp) fun hl=>?_;simp at hl;by_cases hl:a.length=b.length
 ·simp[hY,gE,gF,gG,kJ,j3,hl];refine ci (fun i:Nat=>⟨[(0,.ro 1 (a.map I)),(1,.ro 1 (b.map I)),(12,I b.length),(13,I i)],[],[]⟩) (fun i=>a.length - i) (fun i=>i<=a.length/\a.take i=b.take i) 0 Wk.li (by simp) ?_;rintro i ⟨hi,hj⟩ K hN hR hE;simp[kK,kp];refine⟨fun hlt=>?_,fun hge=>?_⟩
  ·have hla:i < a.length:=by omega
   simp[kL,kM,kw,hlt,hla];refine⟨aO (by first | kernel_rfl | simp) (by first | kernel_rfl | simp),fun hne=>?_,fun he=>?_⟩
   ·simp[kN];refine hR _ ?_;simp;rintro rfl;exact hne rfl
   ·simp[kO];rw[am (by omega)];refine hN (i+1) _ (by omega) ⟨by omega,?_⟩ Wk.li;rw[br hla,br hlt,hj,he]
  ·refine hE _ _ ?_;rw[List.take_of_length_le (by omega),List.take_of_length_le (by omega)] at hj;simp[hj]
 ·simp[hY,gE,gF,gG,hl];refine⟨fun _ e=>hl (by rw[e]),fun e=>absurd (by omega) hl⟩
theorem Kf (a b:Field) (ha:bz a=true) (hb:bz b=true):cJ jA [jw a,jw b] (.tup [I (jS a b),B true]):=by
 have h1:=dj (a.division != b.division);have h2:=dj (a.line != b.line);have h3:=dj (!decide (hJ a=hJ b));refine aa.of D4 (by simp) ?_;simp[pH,m6,m7];refine af (aa.ag (sX a)) ?_;simp[ha];refine af (aa.ag (sX b)) ?_;simp[hb];simp[m8,im];refine mr (pL (a.division != b.division)) ?_ ?_ ?_
 ·simp
 ·simp
 simp;refine mr (pL (a.line != b.line)) ?_ ?_ ?_
 ·simp
 ·simp
 simp;refine ft (aa.ag (u0 a)) ?_;simp;refine ft (aa.ag (u0 b)) ?_;simp;refine bu (aa.at (Hk (hJ a) (hJ b))) ?_;simp;refine mr (pL (!decide (hJ a=hJ b))) ?_ ?_ ?_
 ·simp
 ·simp
 simp;rw[am (n:=NV (a.division != b.division)+NV (a.line != b.line)) (by omega),am (by omega)];exact⟨aO (by simp[im]) (by simp),rfl⟩
theorem Qq (a b:Field):cJ mL [jw a,jw b] (I (jS a b)):=by
 refine aa.of Kd (by simp) ?_;unfold jS;by_cases h1:a.division=b.division<;>by_cases h2:a.line=b.line
 all_goals
  simp[uV,rn,rq,rr,h1];simp[rt,ru,h1,h2];simp[rv,rx,j7,h1,h2]
  try rw[show IntKind.i64.wrap 1=1 from rfl]
  try rw[show IntKind.i64.wrap (1+1)=2 from rfl]
  refine ft (aa.ag (JQ a)) ?_;simp;refine ft (aa.ag (JQ b)) ?_;simp;refine bu (aa.at (acO (hJ a) (hJ b))) ?_;simp;refine⟨aO (by simp[j7]) (by simp),?_⟩;by_cases h3:hJ a=hJ b
  ·simp[kg,h1,h2,h3,NV]
  ·simp[ry,h3];rw[am (by omega)];simp[kg,h1,h2,h3,NV]
theorem UI {a b:Group}:geq a b=true↔a=b:=by
 cases a;cases b;simp[geq]
theorem sZ (a b:Group):cJ fM [gl a,gl b] (I (de a b)):=by
 have h1:=dj (a.count != b.count);have h2:=dj (a.tincture != b.tincture);have h3:=dj (a.attitude != b.attitude);refine aa.of D6 (by simp) ?_;unfold de;cases h:geq a b with
 | true =>
   have e:=UI.1 h;subst e;simp[jv,iy,iz,ni]
 | false =>
 have e:(a.count==b.count&&(a.kind==b.kind&&(a.attitude==b.attitude&&a.tincture==b.tincture)))=false:=h;simp[jv,iy,iz,e]
 have z:∀ g:Group,g0 g=true->g.count=0/\g.kind=0/\g.attitude=0/\g.tincture=0:=fun g hg=>by
  simpa [g0] using hg
 cases hA:g0 a with
 | true =>
   obtain ⟨e1,e2,e3,e4⟩:=z a hA;simp[e8,iA,e1,e2,e3,e4]
 | false =>
 have eA:(a.count==0&&(a.kind==0&&(a.attitude==0&&a.tincture==0)))=false:=hA;cases hB:g0 b with
 | true =>
   obtain ⟨e1,e2,e3,e4⟩:=z b hB;simp[e8,iA,e1,e2,e3,e4,eA]
 | false =>
 have eB:(b.count==0&&(b.kind==0&&(b.attitude==0&&b.tincture==0)))=false:=hB;simp[e8,eA,eB];simp[nj,io];refine mr (pL (a.count != b.count)) ?_ ?_ ?_
 ·simp
 ·simp
 simp;refine mr (pL (a.tincture != b.tincture)) ?_ ?_ ?_
 ·simp
 ·simp
 simp;rw[am (by omega)];refine⟨aO (by simp[io]) (by simp),?_⟩;simp[nk];by_cases hk:a.kind=b.kind
 ·rw[if_pos hk];simp[nm,hk];refine af (pL (a.attitude != b.attitude)) ?_;simp;exact am (by omega)
 ·rw[if_neg hk];simp[nl,hk];exact am (by omega)
theorem DV (a b:Group):cJ jk [gl a,gl b] (I (de a b)):=by
 have z:∀ g:Group,g0 g=true->g.count=0/\g.kind=0/\g.attitude=0/\g.tincture=0:=fun g hg=>by
  simpa [g0] using hg
 refine aa.of Ke (by simp) ?_;simp[uW,rz,rA,j8];refine bu (aa.ag (jM a)) ?_;simp;refine bu (aa.ag (jM b)) ?_;simp;refine⟨aO (by simp[j8]) (by simp),fun hne=>?_,fun he=>?_⟩
 ·have h1:geq a b=false:=by
   cases h:geq a b with
   | false=>rfl
   | true=>exact absurd (by rw[UI.1 h]) hne
  have h2:(g0 a||g0 b)=true:=by cases hA:g0 a<;>cases hB:g0 b<;>simp_all
  simp[rB,de,h1,h2]
 simp[rC]
 have goal:de a b=NV (a.count != b.count)+(if a.kind=b.kind then NV (a.attitude != b.attitude) else 2)+NV (a.tincture != b.tincture):=by
  unfold de;cases h:geq a b with
  | true =>
    have:=UI.1 h;subst this;simp[NV]
  | false =>
    cases hA:g0 a with
    | true =>
      rw[hA] at he;obtain ⟨e1,e2,e3,e4⟩:=z a hA;obtain ⟨f1,f2,f3,f4⟩:=z b he.symm;exact absurd (show geq a b=true by simp[geq,e1,e2,e3,e4,f1,f2,f3,f4]) (by rw[h];simp)
    | false =>
      rw[hA] at he;simp[<- he];omega
 obtain ⟨r,hr⟩:∃ r,de a b=r:=⟨_,rfl⟩;rw[hr];by_cases h1:a.count=b.count<;>by_cases h2:a.kind=b.kind<;>by_cases h3:a.attitude=b.attitude<;>by_cases h4:a.tincture=b.tincture
 all_goals
  simp[rD,rE,rF,rG,rH,rI,h1,h2,h3];simp[qb,qc,qd,h4];rw[<- hr,goal];simp only[h1,h2,h3,h4,NV,if_true,if_false,bne_self_eq_false,bne_iff_ne,ne_eq,not_true,not_false_eq_true,Bool.false_eq_true]
  first | rfl | decide
theorem S1 (a b:Arms) (ha:bz a.field=true) (hb:bz b.field=true):cJ qA [dM a,dM b] (I (jh a b)):=by
 have h1:=ym a.field b.field;have h2:=jT a.on b.on;have h3:=jT a.around b.around;have h4:=dj (a.line != b.line);have h5:=dj (a.tincture != b.tincture);refine aa.of N4 (by simp) ?_;unfold jh;simp[Cl,vH,vJ];refine bN (aa.ag (Kf a.field b.field ha hb)) ?_;simp[vK,mS];refine bu (aa.ag (sZ a.on b.on)) ?_;simp;refine bu (aa.ag (sZ a.around b.around)) ?_;simp;rw[am (n:=de a.on b.on+de a.around b.around) (by omega),am (by omega)];refine⟨aO (by simp[mS]) (by simp),?_⟩;by_cases ho:a.ordinary=b.ordinary
 ·simp[nh,vM,mT,ho];refine mr (pL (a.line != b.line)) ?_ ?_ ?_
  ·simp
  ·simp
  simp;refine mr (pL (a.tincture != b.tincture)) ?_ ?_ ?_
  ·simp
  ·simp
  simp;rw[am (n:=_+NV (a.line != b.line)) (by omega),am (by omega)];refine⟨aO (by simp[mT]) (by simp),?_⟩;omega
 ·simp[nh,vL,ho];exact am (by omega)
theorem Yi (a b:Arms) (ha:bz a.field=true) (hb:bz b.field=true):cJ Bh [dM a,dM b] (B (decide (jh a b < 2))):=by
 refine aa.of SH (by simp) ?_;simp[KY,Fr,Ft];refine af (aa.ag (S1 a b ha hb)) ?_;simp
theorem YM (a b:Arms):cJ Bl [dM a,dM b] (I (jh a b)):=by
 have h1:=ym a.field b.field;have h2:=jT a.on b.on;have h3:=jT a.around b.around;refine aa.of SM (by simp) ?_;unfold jh;simp[K5,FL,FM,tx];refine bu (aa.ag (Qq a.field b.field)) ?_;simp;refine bu (aa.ag (DV a.on b.on)) ?_;simp;refine bu (aa.ag (DV a.around b.around)) ?_;simp;rw[am (n:=jS a.field b.field+de a.on b.on) (by omega),am (by omega)];refine⟨aO (by simp[tx]) (by simp),?_⟩;by_cases ho:a.ordinary=b.ordinary;rotate_left
 ·simp[tU,FN,ho];rw[am (by omega)];omega
 simp[tU,ho];by_cases hl:a.line=b.line<;>by_cases ht:a.tincture=b.tincture
 all_goals
  simp[FO,FP,FQ,FR,FS,hl,ht,NV]
  try omega
 ·rw[am (by omega)];omega
 ·rw[am (by omega)];omega
 ·rw[am (n:=jS a.field b.field+de a.on b.on+de a.around b.around+1) (by omega),am (by omega)];omega
theorem xY (a b:Arms):cJ lc [dM a,dM b] (B (decide (jh a b < 2))):=by
 refine aa.of N5 (by simp) ?_;simp[Cm,vO,vP];refine af (aa.ag (YM a b)) ?_;simp
structure Grant where
 number:Int
 name:List UInt8
 year:Int
 arms:Arms
 deriving DecidableEq
abbrev aY (g:Grant):V:=.agg [I g.number,S g.name,I g.year,I g.arms.field.division,I g.arms.field.line,I g.arms.field.first,I g.arms.field.second,I g.arms.ordinary,I g.arms.line,I g.arms.tincture,
 I g.arms.on.count,I g.arms.on.kind,I g.arms.on.attitude,I g.arms.on.tincture,I g.arms.around.count,I g.arms.around.kind,I g.arms.around.attitude,I g.arms.around.tincture]
abbrev aZ:=List Grant
abbrev be (r:aZ):V:=.agg [.ro 18 (r.map aY)]
abbrev oR (r:aZ):V:=.agg [.own 18 (r.map aY)]
def jz:Grant:=⟨0,[],0,⟨⟨0,0,0,0⟩,0,0,0,⟨0,0,0,0⟩,⟨0,0,0,0⟩⟩⟩
def upB (b:UInt8):Bool:=decide (65<=b.toNat)&&decide (b.toNat<=90)
def ahc (b:UInt8):Bool:=decide (97<=b.toNat)&&decide (b.toNat<=122)
def PX (s:List UInt8) (i:Nat):Bool:=if i=0 then upB (s.getD i 0) else ahc (s.getD i 0)
def jC (s:List UInt8):Bool:=fu s.length 1 12&&(List.range s.length).all (PX s)
def cb (g:Grant):Bool:=fu g.number 1 999&&(jC g.name&&(fu g.year 1000 2999&&arms g.arms))
def mX (p g:Grant):Bool:=decide (p.number < g.number)&&decide (p.year<=g.year)
def fj (l:List Grant) (i:Nat):Bool:=cb (l.getD i jz)&&((decide (i=0)||mX (l.getD (i - 1) jz) (l.getD i jz))&&(l.take i).all fun k=>!decide (jh k.arms (l.getD i jz).arms < 2))
def b8 (l:List Grant):Bool:=decide (l.length<=12)&&(List.range l.length).all (fj l)
theorem JV {a:Arms} (h:arms a=true):bz a.field=true:=by
 simp only[arms,Bool.and_eq_true] at h;exact h.1.1
theorem Rb {s:List UInt8} {i:Nat} (h:i < s.length):PX s i=true↔(i=0->65<=s[i].toNat/\s[i].toNat<=90)/\(i≠0->97<=s[i].toNat/\s[i].toNat<=122):=by
 have hg:s.getD i 0=s[i]:=by simp[h]
 unfold PX;rw[hg];split
 ·rename_i e;simp[upB,e]
 ·rename_i e;simp[ahc,e]
theorem abX (s:List UInt8):cJ Ko [S s] (B (jC s)):=by
 refine aa.ofL V4 (by simp) fun hl=>?_;simp at hl;simp[QU,LZ,L3,L9];refine ci (fun i:Nat=>⟨[(0,S s),(5,I s.length),(6,I i)],[],[]⟩) (fun i=>s.length - i) (fun i=>i<=s.length/\(List.range i).all (PX s)=true) 0 Wk.li (by simp) ?_;rintro i ⟨hi,hj⟩ K hN hR hE;simp[L4,Lt];refine⟨fun hlt=>?_,fun hge=>?_⟩
 ·have hc:=Rb hlt;simp[L5,L6,hlt];refine⟨fun e=>⟨fun a=>⟨fun b=>⟨fun c=>by omega,fun _=>?_⟩,fun b=>?_⟩,fun a=>?_⟩,fun e=>⟨fun c=>⟨fun a=>⟨fun b=>?_,fun b=>?_⟩,fun a=>?_⟩,fun e'=>absurd e' e⟩⟩
  all_goals first
   | (have h:PX s i=true:=by rw[hc];omega
      simp[L8];rw[am (by omega)];refine hN (i+1) _ (by omega) ⟨by omega,?_⟩ Wk.li;rw[oz,hj,h];rfl)
   | (have h:¬PX s i=true:=by rw[hc];omega
      simp[L7];refine hR _ ?_
      have:jC s=false:=by
       unfold jC;rw[Eg hlt (by simpa using h),Bool.and_false]
      simp[this])
 ·refine hE _ _ ?_;obtain rfl:i=s.length:=by omega
  simp;refine af (fJ ..) ?_;simp[jC,hj]
theorem aaL (s:List UInt8):cJ EZ [S s] (B (jC s)):=by
 refine aa.ofL Uw (by simp) fun hl=>?_;simp at hl;simp[OO,Iw,Ix];refine af (nM ..) ?_;cases h1:fu s.length 1 12 with
 | false=>simp[pD,jC,h1]
 | true =>
 have h1':=bH.1 h1;have h0:0 < s.length:=by omega
 have hc:=Rb h0
 have bad:∀ i,i < s.length->¬PX s i=true->jC s=false:=fun i hlt h=>by
  unfold jC;rw[Eg hlt (by simpa using h),Bool.and_false]
 simp[h0];refine⟨fun a=>⟨fun b=>?_,fun b=>?_⟩,fun a=>?_⟩
 ·have:=bad 0 h0 (by rw[hc];omega);simp[pD,this]
 rotate_left
 ·have:=bad 0 h0 (by rw[hc];omega);simp[pD,this]
 have hc0:PX s 0=true:=by rw[hc];omega
 simp[Iy,ID];refine ci (fun i:Nat=>⟨[(0,S s),(3,I i)],[],[]⟩) (fun i=>s.length - i) (fun i=>(1<=i/\i<=s.length)/\(List.range i).all (PX s)=true) 1 Wk.li ⟨by omega,by simp[hc0]⟩ ?_;rintro i ⟨⟨h1i,hi⟩,hj⟩ K hN hR hE;simp[Iz,Ia];refine⟨fun hlt=>?_,fun hge=>?_⟩
 ·have hc:=Rb hlt;simp[IA,hlt];refine⟨fun a=>⟨fun b=>?_,fun b=>?_⟩,fun a=>?_⟩
  all_goals first
   | (have h:PX s i=true:=by rw[hc];omega
      simp[IC];rw[am (by omega)];refine hN (i+1) _ (by omega) ⟨by omega,?_⟩ Wk.li;rw[oz,hj,h];rfl)
   | (have h:¬PX s i=true:=by rw[hc];omega
      simp[IB];refine hR _ ?_;simp[bad i hlt h])
 ·refine hE _ _ ?_;obtain rfl:i=s.length:=by omega
  simp[jC,h1,hj]
theorem YN (g:Grant):cJ Bm [aY g] (B (cb g)):=by
 refine aa.of SN (by simp) ?_;simp[K6,FU,FV];refine af (nM ..) ?_;cases h1:fu g.number 1 999 with
 | false=>simp[cb,h1]
 | true =>
 simp;refine af (aaL ..) ?_;cases h2:jC g.name with
 | false=>simp[cb,h2]
 | true =>
 simp;refine af (nM ..) ?_;cases h3:fu g.year 1000 2999 with
 | false=>simp[cb,h3]
 | true =>
 simp;refine af (aa.ag (acU g.arms)) ?_;simp[cb,h1,h2,h3]
theorem fk {l:List Grant} {i:Nat} (h:i < l.length) (hs:fj l i=false):b8 l=false:=by
 unfold b8;rw[Eg h hs,Bool.and_false]
theorem TZ (l:aZ):cJ ve [be l] (B (b8 l)):=by
 refine aa.of Uv (by simp) ?_;simp[ON,Ip,Iq];refine⟨fun h=>?_,fun h12=>?_⟩
 ·have:b8 l=false:=by simp[b8];omega
  simp[Ir,this]
 simp[Is,FT];refine ci (fun i:Nat=>⟨[(1,.ref 1 0 0),(3,I i)],[(1,⟨1,[be l]⟩)],[]⟩) (fun i=>l.length - i) (fun i=>i<=l.length/\(List.range i).all (fj l)=true) 0 Wk.li (by simp) ?_;rintro i ⟨hi,hj⟩ K hN hR hE;simp[Iu,EQ];refine⟨fun hlt=>?_,fun hge=>?_⟩
 ·have hg:l.getD i jz=l[i]:=by simp[hlt]
  simp[Iv,Ig,hlt];refine mr (YN l[i]) ?_ ?_ ?_
  ·simp
  ·simp
  cases h1:cb l[i] with
  | false =>
    simp;refine⟨aO (by first | kernel_rfl | simp) (by first | kernel_rfl | simp),?_⟩;simp[xF];refine hR _ ?_;have:fj l i=false:=by rw[fj,hg,h1];rfl
    simp[fk hlt this]
  | true =>
    simp;have hk:i≠0->IntKind.i64.wrap ((i:Int) - 1)=((i - 1:Nat):Int):=fun e=>by rw[am (by omega)];omega
    have hil:i - 1 < l.length:=by omega
    have hgl:l.getD (i - 1) jz=l[i - 1]:=by simp[hil]
    have hpr:(decide (i=0)||mX (l.getD (i - 1) jz) (l.getD i jz))=true↔i=0\/(l[i - 1].number < l[i].number/\l[i - 1].year<=l[i].year):=by
     rw[hg,hgl];simp[mX]
    have hst:fj l i=((decide (i=0)||mX (l.getD (i - 1) jz) (l.getD i jz))&&(l.take i).all fun k=>!decide (jh k.arms l[i].arms < 2)):=by
     rw[fj,hg,h1,Bool.true_and]
    refine⟨fun e=>?_,fun e=>?_⟩
    ·have e':i≠0:=by omega
     simp[hk e',hlt,hil];refine⟨fun a=>⟨aO (by first | kernel_rfl | simp) (by first | kernel_rfl | simp),fun b=>?_,fun b=>?_⟩,fun a=>⟨aO (by first | kernel_rfl | simp) (by first | kernel_rfl | simp),?_⟩⟩
     all_goals first
      | (have hp:(decide (i=0)||mX (l.getD (i - 1) jz) (l.getD i jz))=true:=hpr.2 (by omega)
         simp[xG,ub];refine ci (fun k:Nat=>⟨[(1,.ref 1 0 0),(3,I i),(4,I k)],[(1,⟨1,[be l]⟩)],[]⟩) (fun k=>i - k) (fun k=>k<=i/\((l.take k).all fun k=>!decide (jh k.arms l[i].arms < 2))=true) 0 Wk.li (by simp) ?_;rintro k ⟨hki,hkj⟩ K' hN' hR' hE';have hkl:k<=l.length:=by omega
         simp[xH,td];refine⟨fun hlk=>?_,fun hgk=>?_⟩
         ·have hkl':k < l.length:=by omega
          simp[xJ,xw,hlt,hkl'];refine bu (aa.ag (xY l[k].arms l[i].arms)) ?_;cases hd:decide (jh l[k].arms l[i].arms < 2) with
          | true =>
            simp;refine⟨aO (by first | kernel_rfl | simp) (by first | kernel_rfl | simp),?_⟩;simp[t8];refine hR' _ ?_;have hgk:k < (l.take i).length:=by rw[List.length_take];omega
            have:fj l i=false:=by
             rw[hst,hp,Bool.true_and];refine Th hgk ?_;rw[List.getElem_take,hd];rfl
            simp;refine hR _ ?_;simp[fk hlt this]
          | false =>
            simp;refine⟨aO (by first | kernel_rfl | simp) (by first | kernel_rfl | simp),?_⟩;simp[ua];rw[am (by omega)];refine hN' (k+1) _ (by omega) ⟨by omega,?_⟩ Wk.li;rw[HV hkl',hkj,hd];rfl
         ·obtain rfl:k=i:=by omega
          refine hE' _ _ ?_;simp;rw[am (by omega)];refine hN (k+1) _ (by omega) ⟨by omega,?_⟩ Wk.li;rw[oz,hj,hst,hp,hkj];rfl)
      | (have hp:¬(decide (i=0)||mX (l.getD (i - 1) jz) (l.getD i jz))=true:=by rw[hpr];omega
         simp[xF];refine hR _ ?_;have:fj l i=false:=by rw[hst,Bool.eq_false_iff.2 hp,Bool.false_and]
         simp[fk hlt this])
    ·have hp:(decide (i=0)||mX (l.getD (i - 1) jz) (l.getD i jz))=true:=hpr.2 (by omega);refine⟨aO (by first | kernel_rfl | simp) (by first | kernel_rfl | simp),?_⟩;simp[xG,ub];refine ci (fun k:Nat=>⟨[(1,.ref 1 0 0),(3,I i),(4,I k)],[(1,⟨1,[be l]⟩)],[]⟩) (fun k=>i - k) (fun k=>k<=i/\((l.take k).all fun k=>!decide (jh k.arms l[i].arms < 2))=true) 0 Wk.li (by simp) ?_;rintro k ⟨hki,hkj⟩ K' hN' hR' hE';have hkl:k<=l.length:=by omega
     simp[xH,td];refine⟨fun hlk=>?_,fun hgk=>?_⟩
     ·have hkl':k < l.length:=by omega
      simp[xJ,xw,hlt,hkl'];refine bu (aa.ag (xY l[k].arms l[i].arms)) ?_;cases hd:decide (jh l[k].arms l[i].arms < 2) with
      | true =>
        simp;refine⟨aO (by first | kernel_rfl | simp) (by first | kernel_rfl | simp),?_⟩;simp[t8];refine hR' _ ?_;have hgk:k < (l.take i).length:=by rw[List.length_take];omega
        have:fj l i=false:=by
         rw[hst,hp,Bool.true_and];refine Th hgk ?_;rw[List.getElem_take,hd];rfl
        simp;refine hR _ ?_;simp[fk hlt this]
      | false =>
        simp;refine⟨aO (by first | kernel_rfl | simp) (by first | kernel_rfl | simp),?_⟩;simp[ua];rw[am (by omega)];refine hN' (k+1) _ (by omega) ⟨by omega,?_⟩ Wk.li;rw[HV hkl',hkj,hd];rfl
     ·obtain rfl:k=i:=by omega
      refine hE' _ _ ?_;simp;rw[am (by omega)];refine hN (k+1) _ (by omega) ⟨by omega,?_⟩ Wk.li;rw[oz,hj,hst,hp,hkj];rfl
 ·refine hE _ _ ?_;obtain rfl:i=l.length:=by omega
  have:l.length<=12:=by omega
  simp[b8,this,hj]
theorem nN (l:List Grant) (p:Grant->Bool) (g:Nat) (caps:List V) (hc:∀ hp,caps.map (aP hp 6)=caps) (hp:∀ x ∈ l,cJ g (aY x::caps) (B (p x))) :
  cJ dc [.ro 18 (l.map aY),.clo g caps] (I (idx p l)):=by
 refine aa.ofL kn (by simp) fun hl=>?_;simp at hl;simp[fg,eN,eO,eU];refine Ly (fun i:Nat=>⟨[(0,.ro 18 (l.map aY)),(1,.clo g caps),(7,I l.length),(8,I i)],[],[]⟩) (fun i=>l.length - i) (fun i=>i<=l.length/\∀ j (_:j < i) (hj:j < l.length),p l[j]=false) 0 Wk.li (by simp) ?_;rintro i ⟨hi,hj⟩;simp[eP,eI];refine⟨fun hlt=>?_,fun hge=>?_⟩
 ·simp[eQ,eR,hlt];refine af (aa.arg (hp l[i] (List.getElem_mem _)) (by simp[hc])) ?_;simp;refine⟨fun ht=>?_,fun hf=>?_⟩
  ·simp[eS];exact(abY hlt (fun j h=>hj j h (by omega)) ht).symm
  ·simp[eT];rw[am (by omega)];refine Ov (i+1) (by omega) ⟨by omega,fun j h h'=>?_⟩ Wk.li;by_cases e:j=i
   ·subst e;exact hf
   ·exact hj j (by omega) h'
 ·have:idx p l = -1:=WA fun j h=>hj j (by omega) h;simp[this]
theorem fa (l:List Grant) (p:Grant->Bool) (g:Nat) (caps:List V) (hc:∀ hp,caps.map (aP hp 6)=caps) (hc5:∀ hp,caps.map (aP hp 5)=caps) (hp:∀ x ∈ l,cJ g (aY x::caps) (B (p x))) :
  cJ cL [.ro 18 (l.map aY),.clo g caps] (B (l.any p)):=by
 refine aa.of jx (by simp) ?_;simp[er,dP,dQ];refine af (aa.arg (nN l p g caps hc hp) (by simp[hc5])) ?_;simp[<- Zq]
theorem qY (g:Grant) (x:Grant) (hx:bz x.arms.field=true) (hg:bz g.arms.field=true):cJ dE [aY x,.rp 18 [aY g] 0 0] (B (decide (jh x.arms g.arms < 2))):=by
 refine aa.of Bd (by simp) ?_;simp[nR,lE,lF];refine af (aa.ag (Yi x.arms g.arms hx hg)) ?_;simp
theorem RY {g:Grant} (h:cb g=true):bz g.arms.field=true:=by
 simp only[cb,Bool.and_eq_true] at h;exact JV h.2.2.2
theorem Sp {l:List Grant} {i:Nat} (hi:i<=l.length) (hj:(List.range i).all (fj l)=true):∀ x ∈ l.take i,bz x.arms.field=true:=by
 intro x hx;obtain ⟨j,hjl,rfl⟩:=List.getElem_of_mem hx;rw[List.getElem_take];rw[List.length_take] at hjl;have:=List.all_eq_true.1 hj j (List.mem_range.2 (by omega))
 have hgj:l.getD j jz=l[j]:=by
  have:j < l.length:=by omega
  simp[this]
 rw[fj,hgj] at this;simp only[Bool.and_eq_true] at this;exact RY this.1
theorem u4 (l:aZ):cJ gO [be l] (B (b8 l)):=by
 refine aa.ofL EG (by simp) fun hl=>?_;simp at hl;simp[qW,nY,nZ,na];refine ci (fun i:Nat=>⟨[(1,.ref 1 0 0),(6,.ro 18 (l.map aY)),(7,I l.length),(8,I i)],[(1,⟨1,[be l]⟩)],[]⟩) (fun i=>l.length - i) (fun i=>i<=l.length/\(List.range i).all (fj l)=true) 0 Wk.li (by simp) ?_;rintro i ⟨hi,hj⟩ K hN hR hE;simp[n6,mw];refine⟨fun hlt=>?_,fun hge=>?_⟩
 ·have hg:l.getD i jz=l[i]:=by simp[hlt]
  simp[n7,hlt];simp[n8];have no:cb l[i]=false->fj l i=false:=fun h=>by rw[fj,hg,h];rfl
  refine af (fJ ..) ?_;cases h1:fu l[i].number 1 999 with
  | false =>
    simp[dF];refine hR _ ?_;simp[fk hlt (no (by simp[cb,h1]))]
  | true =>
  simp;refine af (abX ..) ?_;cases h2:jC l[i].name with
  | false =>
    simp[dF];refine hR _ ?_;simp[fk hlt (no (by simp[cb,h2]))]
  | true =>
  simp;refine af (fJ ..) ?_;cases h3:fu l[i].year 1000 2999 with
  | false =>
    simp[dF];refine hR _ ?_;simp[fk hlt (no (by simp[cb,h3]))]
  | true =>
  simp;refine af (aa.ag (SZ l[i].arms)) ?_;cases h4:arms l[i].arms with
  | false =>
    simp[dF];refine hR _ ?_;simp[fk hlt (no (by simp[cb,h4]))]
  | true =>
  have hok:cb l[i]=true:=by simp[cb,h1,h2,h3,h4]
  have hk:i≠0->IntKind.i64.wrap ((i:Int) - 1)=((i - 1:Nat):Int):=fun e=>by rw[am (by omega)];omega
  have hil:i - 1 < l.length:=by omega
  have hgl:l.getD (i - 1) jz=l[i - 1]:=by simp[hil]
  have hpr:(decide (i=0)||mX (l.getD (i - 1) jz) (l.getD i jz))=true↔i=0\/(l[i - 1].number < l[i].number/\l[i - 1].year<=l[i].year):=by
   rw[hg,hgl];simp[mX]
  have hst:fj l i=((decide (i=0)||mX (l.getD (i - 1) jz) (l.getD i jz))&&(l.take i).all fun k=>!decide (jh k.arms l[i].arms < 2)):=by
   rw[fj,hg,hok,Bool.true_and]
  have hany:((l.take i).any fun k=>decide (jh k.arms l[i].arms < 2))=!((l.take i).all fun k=>!decide (jh k.arms l[i].arms < 2)):=by
   rw[List.all_eq_not_any_not];simp
  simp[n9,nX];refine⟨fun e=>?_,fun e=>?_⟩
  ·have e':i≠0:=by omega
   simp[hk e',hlt,hil];refine⟨fun a=>⟨aO (by first | kernel_rfl | simp) (by first | kernel_rfl | simp),fun b=>?_,fun b=>?_⟩,fun a=>⟨aO (by first | kernel_rfl | simp) (by first | kernel_rfl | simp),?_⟩⟩
   all_goals first
    | (have hp:(decide (i=0)||mX (l.getD (i - 1) jz) (l.getD i jz))=true:=hpr.2 (by omega)
       have hi':i<=l.length:=by omega
       have hf:=Sp hi' hj;have hfi:=RY hok;simp[jb,hi'];refine af (aa.ag (fa (l.take i) (fun k=>decide (jh k.arms l[i].arms < 2)) dE [.rp 18 [aY l[i]] 0 0] (by simp) (by simp) (fun x hx=>qY l[i] x (hf x hx) hfi))) ?_;rw[hany];cases hd:(l.take i).all fun k=>!decide (jh k.arms l[i].arms < 2) with
       | false =>
         simp[jc];refine hR _ ?_;have:fj l i=false:=by rw[hst,hd,Bool.and_false]
         simp[fk hlt this]
       | true =>
         simp[iw];rw[am (by omega)];refine hN (i+1) _ (by omega) ⟨by omega,?_⟩ Wk.li;rw[oz,hj,hst,hp,hd];rfl)
    | (have hp:¬(decide (i=0)||mX (l.getD (i - 1) jz) (l.getD i jz))=true:=by rw[hpr];omega
       simp[oa];refine hR _ ?_;have:fj l i=false:=by rw[hst,Bool.eq_false_iff.2 hp,Bool.false_and]
       simp[fk hlt this])
  ·have hp:(decide (i=0)||mX (l.getD (i - 1) jz) (l.getD i jz))=true:=hpr.2 (by omega);refine⟨aO (by first | kernel_rfl | simp) (by first | kernel_rfl | simp),?_⟩;have hi':i<=l.length:=by omega
   have hf:=Sp hi' hj;have hfi:=RY hok;simp[jb,hi'];refine af (aa.ag (fa (l.take i) (fun k=>decide (jh k.arms l[i].arms < 2)) dE [.rp 18 [aY l[i]] 0 0] (by simp) (by simp) (fun x hx=>qY l[i] x (hf x hx) hfi))) ?_;rw[hany];cases hd:(l.take i).all fun k=>!decide (jh k.arms l[i].arms < 2) with
   | false =>
     simp[jc];refine hR _ ?_;have:fj l i=false:=by rw[hst,hd,Bool.and_false]
     simp[fk hlt this]
   | true =>
     simp[iw];rw[am (by omega)];refine hN (i+1) _ (by omega) ⟨by omega,?_⟩ Wk.li;rw[oz,hj,hst,hp,hd];rfl
 ·refine hE _ _ ?_;obtain rfl:i=l.length:=by omega
  simp[b8,hj];omega
theorem d5 {l:aZ} (h:b8 l=true):l.length<=12:=by
 simp only[b8,Bool.and_eq_true,decide_eq_true_iff] at h;exact h.1
def da:Bool->List UInt8->Bool
 | sp,[]=>!sp
 | sp,x::s=>if x=32 then !sp&&da true s else da false s
theorem RU:∀ (s p:List UInt8) (ps:List (List UInt8)),parts 32 s=p::ps->(da true s=((!p.isEmpty)&&ps.all fun x=>!x.isEmpty))/\(da false s=ps.all fun x=>!x.isEmpty)
 | [],p,ps,h=>by
   rw[parts] at h;simp only[List.cons.injEq] at h;obtain ⟨rfl,rfl⟩:=h;simp[da]
 | x::s,p,ps,h=>by
   obtain ⟨q,qs,h1,h2⟩:=R5 32 x s;rw[h2] at h;have ih:=RU s q qs h1;by_cases e:x=32
   ·rw[if_pos e] at h;simp only[List.cons.injEq] at h;obtain ⟨rfl,rfl⟩:=h;simp[da,e,ih.1]
   ·rw[if_neg e] at h;simp only[List.cons.injEq] at h;obtain ⟨rfl,rfl⟩:=h;simp[da,e,ih.2]
theorem adV {s:List UInt8} (h:da true s=true):∀ x ∈ parts 32 s,x≠[]:=by
 obtain ⟨p,ps,hp⟩:∃ p ps,parts 32 s=p::ps:=by
  cases hp:parts 32 s with
  | nil=>exact absurd hp (Fg s)
  | cons p ps=>exact⟨p,ps,rfl⟩
 have h1:=(RU s p ps hp).1;rw[h1,Bool.and_eq_true,List.all_eq_true] at h;rw[hp];intro x hx;rcases List.mem_cons.1 hx with rfl | hx
 ·rintro rfl;simp at h
 ·rintro rfl;have:=h.2 [] hx;simp at this
theorem U4:∀ (sp:Bool) (a b:List UInt8),da sp (a++32::b)=(da sp a&&da true b)
 | sp,[],b=>by simp[da]
 | sp,x::a,b=>by
   rw[List.cons_append,da,da];split
   ·rw[U4 true a b,Bool.and_assoc]
   ·rw[U4 false a b]
theorem HK {x:UInt8} (hx:x≠32):∀ (sp:Bool) (a:List UInt8),da sp a=true->da sp (a++[x])=true
 | sp,[],h=>by simp[da,hx]
 | sp,y::a,h=>by
   rw[da] at h;rw[List.cons_append,da];split
   ·rename_i e;rw[if_pos e,Bool.and_eq_true] at h;rw[Bool.and_eq_true];exact⟨h.1,HK hx true a h.2⟩
   ·rename_i e;rw[if_neg e] at h;exact HK hx false a h
theorem dm {a b:List UInt8} (h1:da true a=true) (h2:da true b=true):da true (a++32::b)=true:=by rw[U4,h1,h2];rfl
theorem RS {a b:List UInt8} (h1:da true a=true) (h2:da true b=true):da true (a++[44,32]++b)=true:=by
 have:=dm (HK (x:=44) (by decide) true a h1) h2;simpa using this
theorem tw {l:List (List UInt8)} {i:Nat} (hl:∀ w ∈ l,da true w=true) (h:i < l.length):da true (l.getD i [])=true:=by
 rw[List.getD_eq_getElem?_getD,List.getElem?_eq_getElem h];exact hl _ (List.getElem_mem h)
theorem sD {x:Int} (h:fu x 1 9=true):da true (ox x)=true:=by
 have h:=bH.1 h;exact tw (by decide) (by show _ < 9;omega)
theorem TO {t:List UInt8} {x:Int} (ht:da true t=true) (h:0<=x/\x<=4):da true (uI t x)=true:=by
 unfold uI;split
 ·exact ht
 ·exact dm ht (tw (by decide) (by show _ < 4;omega))
theorem Yx {f:Field} (h:bz f=true):da true (d7 f)=true:=by
 simp only[bz,Bool.and_eq_true,bH] at h;obtain ⟨⟨⟨h1,h2⟩,h3⟩,h4⟩:=h;unfold d7;split
 ·exact sD (bH.2 h3)
 ·rename_i h0;rw[if_neg h0] at h4;simp only[Bool.and_eq_true,bH] at h4;have hd:da true (VR f.division)=true:=tw (by decide) (by show _ < 7;omega);have ha:=dm (sD (bH.2 h3)) (dm (a:=[97,110,100]) (by decide) (sD (bH.2 h4.1)));have:=dm (TO hd h2) ha;simpa using this
theorem RT {g:Group} (h:bw g=true):da true (fC g)=true:=by
 obtain ⟨h1,h2,h3,h4⟩:=uZ h
 have hc:da true (ia g.count g.kind)=true:=by
  unfold ia;split
  ·decide
  ·exact tw (by decide) (by show _ < 6;omega)
 have hk:da true (pM g.kind g.count)=true:=by
  unfold pM;have:=tw (l:=yv) (i:=(g.kind - 1).toNat) (by decide) (by show _ < 8;omega);split
  ·exact HK (by decide) _ _ this
  ·simpa using this
 unfold fC;split
 ·rename_i ha
  have ha':da true ((bA g.kind).getD (g.attitude - 1).toNat [])=true:=by
   refine tw ?_ (Ug h ha).1;unfold bA;split
   ·decide
   ·split
    ·decide
    ·split
     ·decide
     ·simp
  have:=dm hc (dm hk (dm ha' (sD h3)));simpa using this
 ·have:=dm hc (dm hk (sD h3));simpa using this
theorem aar {a:Arms} (h:arms a=true):da true (cI a)=true:=by
 have h0:=Yx (JV h);obtain ⟨ho,hg,hr⟩:=A3 h;have hon:g0 a.on=false->da true (fC a.on)=true:=fun e=>RT (hg e);have har:g0 a.around=false->da true (fC a.around)=true:=fun e=>RT (hr e);unfold cI;obtain ⟨t1,ht1⟩:∃ t1,d7 a.field++(if a.ordinary=0 then [] else [44,32]++LC a.ordinary a.line++32::ox a.tincture)=t1:=⟨_,rfl⟩
 have n1:da true t1=true:=by
  rw[<- ht1];split
  ·simpa using h0
  ·rename_i e;obtain ⟨g2,g3⟩:=ho.2.2.2 e;have g1:=ho.1;have g4:=ho.2.1
   have hord:da true (LC a.ordinary a.line)=true:=by
    unfold LC;refine TO ?_ g2;have:=dm (a:=[97]) (by decide) (tw (l:=aaA) (i:=(a.ordinary - 1).toNat) (by decide) (by show _ < 7;omega));simpa [Xc] using this
   have:=RS h0 (dm hord (sD g3));simpa using this
 rw[ht1];obtain ⟨t2,ht2⟩:∃ t2,t1++(if g0 a.on then [] else [32,99,104,97,114,103,101,100,32,119,105,116,104,32]++fC a.on)=t2:=⟨_,rfl⟩
 have n2:da true t2=true:=by
  rw[<- ht2];split
  ·simpa using n1
  ·rename_i e;have:=dm n1 (dm (a:=[99,104,97,114,103,101,100]) (by decide) (dm (a:=[119,105,116,104]) (by decide) (hon (by simpa using e))));simpa using this
 rw[ht2];split
 ·simpa using n2
 ·rename_i e;have hr:=har (by simpa using e);unfold H9;split
  ·have:=RS n2 hr;simpa using this
  ·split
   ·have:=dm n2 (dm (a:=[97,98,111,118,101]) (by decide) hr);simpa using this
   ·have:=dm n2 (dm (a:=[98,101,116,119,101,101,110]) (by decide) hr);simpa using this
structure Roll where
 by_:Int
 width:Int
 height:Int
abbrev d6 (x:Roll):V:=.agg [I x.by_,I x.width,I x.height]
def jK (x:Roll):Bool:=fu x.by_ 1 3&&fu x.width 20 60&&fu x.height 4 20
def R0 (y:Int) (a b:Grant):Bool:=if y=2 then decide (a.name < b.name) else if y=3 then decide (cI a.arms < cI b.arms) else false
def jQ (y:Int) (a b:Grant):Bool:=if y=2 then decide (a.name < b.name)||(decide (a.name=b.name)&&decide (a.number < b.number)) else if y=3 then decide (cI a.arms < cI b.arms) else decide (a.number < b.number)
def ey (y:Int) (l:List Grant):List Grant:=js (R0 y) l
def xX (y:Int) (l:List Grant):List Nat:=js (fun i j=>jQ y (l.getD i jz) (l.getD j jz)) (List.range l.length)
theorem PS {lt lt':Nat->Nat->Bool}:∀ n,(∀ i j,j < i->i < n->lt i j=lt' i j)->js lt (List.range n)=js lt' (List.range n)
 | 0,_=>rfl
 | n+1,h=>by
   rw[List.range_succ,iD,iD,PS n fun i j h1 h2=>h i j h1 (by omega)];refine Yk fun y hy=>?_;have:=List.mem_range.1 (AY.1 hy);exact h n y this (by omega)
theorem YG {l:List Grant}:(List.range l.length).map (fun i=>l.getD i jz)=l:=by
 refine List.ext_getElem (by simp) fun i h1 h2=>?_;simp at h1;simp[h1]
theorem JN {l:List Grant} (h:b8 l=true) {i:Nat} (hi:i < l.length):fj l i=true:=by
 simp only[b8,Bool.and_eq_true,decide_eq_true_iff,List.all_eq_true] at h;exact h.2 i (List.mem_range.2 hi)
theorem NA {l:List Grant} (h:b8 l=true):∀ (i j:Nat),j < i->i < l.length->(l.getD j jz).number < (l.getD i jz).number
 | 0,j,h1,_=>by omega
 | i+1,j,h1,h2=>by
   have hs:=JN h h2;simp only[fj,Bool.and_eq_true,Bool.or_eq_true,decide_eq_true_iff,mX,Nat.add_sub_cancel] at hs;have hs:=hs.2.1.resolve_left (by omega);by_cases e:j=i
   ·subst e;exact hs.1
   ·have:=NA h i j (by omega) (by omega);omega
theorem dz {l:List Grant} (h:b8 l=true):∀ g ∈ l,cb g=true:=by
 intro g hg;obtain ⟨i,hi,rfl⟩:=List.getElem_of_mem hg;have hs:=JN h hi;simp only[fj,Bool.and_eq_true] at hs;have:=hs.1
 rwa [List.getD_eq_getElem?_getD,List.getElem?_eq_getElem hi] at this
theorem YI {y:Int} {l:List Grant} (h:b8 l=true):(xX y l).map (fun i=>l.getD i jz)=ey y l:=by
 have e:xX y l=js (fun i j=>R0 y (l.getD i jz) (l.getD j jz)) (List.range l.length):=by
  refine PS _ fun i j h1 h2=>?_;have ha:=NA h i j h1 h2;unfold jQ R0;have e1:decide ((l.getD i jz).number < (l.getD j jz).number)=false:=by simp only[decide_eq_false_iff_not];omega
  rw[e1];simp
 have h2:=aaO (fun i=>l.getD i jz) (R0 y) (List.range l.length);rw[YG] at h2;rw[e,ey,h2]
theorem TX {y:Int} {l:List Grant}:∀ i ∈ xX y l,i < l.length:=fun i hi=>List.mem_range.1 (AY.1 hi)
theorem Sc (y:Int) (l:List Grant):(xX y l).length=l.length:=by rw[xX,sH,List.length_range]
theorem jL (y:Int) (l:List Grant):(ey y l).length=l.length:=sH _ _
theorem qm {y:Int} {l:List Grant} {g:Grant}:g ∈ ey y l↔g ∈ l:=AY
def Cu (g:Grant):List UInt8:=cW g.number.toNat++[46,32]++g.name++[44,32]++cW g.year.toNat
def eV (w:Int) (g:Grant):List (List UInt8):=Cu g::(fill (w - 2) (parts 32 (cI g.arms))).map fun x=>[32,32]++x
theorem Eh (a:Arms):(parts 32 (cI a)).length<=301:=by
 have h1:=vp 32 (cI a);have h2:=Re 32 (cI a);have h3:=Hy a;omega
theorem VW (w:Int) (L:List (List UInt8)):(fill w L).length<=L.length:=by
 cases L with
 | nil=>simp[fill]
 | cons x L=>rw[fill];have:=Ba w L x;simpa using this
theorem J3 (w:Int) (g:Grant):(eV w g).length<=302:=by
 have h1:=VW (w - 2) (parts 32 (cI g.arms));have h2:=Eh g.arms;simp only[eV,List.length_cons,List.length_map];omega
theorem J4 (w:Int) (g:Grant):1<=(eV w g).length:=by simp[eV]
theorem tv {s:List UInt8} (h:jC s=true):1<=s.length/\s.length<=12:=by
 simp only[jC,Bool.and_eq_true,bH] at h;omega
theorem fI {g:Grant} (h:cb g=true):(1<=g.number/\g.number<=999)/\jC g.name=true/\(1000<=g.year/\g.year<=2999)/\arms g.arms=true:=by
 simp only[cb,Bool.and_eq_true,bH] at h;exact⟨h.1,h.2.1,h.2.2.1,h.2.2.2⟩
theorem Rj {w:Int} {a:Arms} (hw:w<=1000):∀ x ∈ fill w (parts 32 (cI a)),x.length<=1000:=by
 intro x hx;have hp:∀ y ∈ parts 32 (cI a),y.length<=1000:=fun y hy=>by have:=BD hy;have:=Hy a;omega
 cases hL:parts 32 (cI a) with
 | nil=>rw[hL] at hx;simp[fill] at hx
 | cons y L =>
   rw[hL] at hx hp;exact ED w 1000 hw L y (hp y (by simp)) (fun z hz=>hp z (by simp[hz])) x hx
def U9 (x:Roll) (l:List Grant):Option (List (List Grant)):=pQ (fun g=>(eV x.width g).length) x.height.toNat (ey x.by_ l)
def LI (x:Roll) (l:List Grant):Option (List (List Nat)):=pQ (fun i=>(eV x.width (l.getD i jz)).length) x.height.toNat (xX x.by_ l)
theorem Xe {x:Roll} {l:List Grant} (h:b8 l=true):U9 x l=(LI x l).map (·.map (·.map fun i=>l.getD i jz)):=by
 rw[U9,<- YI h,aaB];rfl
def mi (l:List Grant) (x:Roll):Bool:=b8 l&&jK x
def gH (l:List Grant) (x:Roll):Option (List (List Grant)):=if mi l x then U9 x l else none
def jf (l:List Grant) (x:Roll):Option (List (List Nat)):=if mi l x then LI x l else none
theorem HA (l:List Grant) (x:Roll):gH l x=(jf l x).map (·.map (·.map fun i=>l.getD i jz)):=by
 unfold gH jf;split
 ·rename_i h;simp only[mi,Bool.and_eq_true] at h;exact Xe h.1
 ·rfl
def cY (x:Roll) (p:List Grant):List (List UInt8):=p.flatMap (eV x.width)
def dn (l:List Grant) (x:Roll):List (List (List UInt8)):=((gH l x).getD []).map (cY x)
theorem RI (x:Roll) (p:List Grant):(cY x p).length=gj (fun g=>(eV x.width g).length) p:=by
 simp[cY,gj,List.length_flatMap]
theorem rT {α:Type} {sz:α->Nat} {h:Nat}:∀ (l:List α) (done:List (List α)) (cur:List α) (ps:List (List α)),eF sz h done cur l=some ps->ps.length<=done.length+(if cur.isEmpty then 0 else 1)+l.length
 | [],done,cur,ps,e=>by
   rw[eF] at e;simp only[Option.some.injEq] at e;subst e;split<;>simp
 | x::xs,done,cur,ps,e=>by
   rw[eF] at e;split at e
   ·cases e
   split at e
   ·rename_i hc;have:=rT xs _ _ ps e;simp at this ⊢;omega
   rename_i hc;split at e
   ·have:=rT xs _ _ ps e;simp[hc] at this ⊢;omega
   ·have:=rT xs _ _ ps e;simp[hc] at this ⊢;omega
theorem Pj {α:Type} {sz:α->Nat} {h:Nat} {l:List α} {ps:List (List α)} (e:pQ sz h l=some ps):ps.length<=l.length:=by
 have:=rT _ _ _ _ e;simpa using this
theorem jP {l:List Grant} {x:Roll} {ps:List (List Grant)} (h:gH l x=some ps):b8 l=true/\jK x=true/\U9 x l=some ps:=by
 unfold gH at h;split at h
 ·rename_i ha;simp only[mi,Bool.and_eq_true] at ha;exact⟨ha.1,ha.2,h⟩
 ·cases h
theorem iC {x:Roll} (h:jK x=true):(1<=x.by_/\x.by_<=3)/\(20<=x.width/\x.width<=60)/\4<=x.height/\x.height<=20:=by
 simp only[jK,Bool.and_eq_true,bH] at h;exact⟨h.1.1,h.1.2,h.2⟩
theorem sL {l:List Grant} {x:Roll} {ps:List (List Grant)} (h:gH l x=some ps):ps.flatten=ey x.by_ l:=R2 (jP h).2.2
theorem Ej {l:List Grant} {x:Roll} {ps:List (List Grant)} (h:gH l x=some ps):ps.length<=12:=by
 obtain ⟨h1,_,h3⟩:=jP h;have:=Pj h3;have:=d5 h1;rw[jL] at *;omega
theorem A4 {l:List Grant} {x:Roll} {ps:List (List Grant)} (h:gH l x=some ps):∀ p ∈ ps,p≠[]/\(cY x p).length<=20/\(cY x p).length<=x.height.toNat/\∀ g ∈ p,cb g=true:=by
 intro p hp;obtain ⟨h1,h2,h3⟩:=jP h;have hk:=iC h2;obtain ⟨h4,h5⟩:=acB h3 p hp;rw[RI];refine⟨h4,by omega,h5,fun g hg=>dz h1 g ?_⟩;rw[<- qm (y:=x.by_),<- sL h];exact List.mem_flatten_of_mem hp hg
def dd (l:List Grant) (x:Roll):Bool:=(gH l x).isSome
def gv (x:Roll) (l:aZ) (p:List Nat):List (List UInt8):=p.flatMap fun q=>eV x.width (List.getD l q jz)
theorem RJ (x:Roll) (l:aZ) (p:List Nat):cY x (p.map fun q=>List.getD l q jz)=gv x l p:=by
 simp only[cY,gv,List.flatMap_map]
theorem Ei {l:aZ} {x:Roll} {ps:List (List Nat)} (h:jf l x=some ps):b8 l=true/\jK x=true/\(∀ p ∈ ps,∀ q ∈ p,q < List.length l)/\ps.length<=12/\(∀ p ∈ ps,(gv x l p).length<=20)/\gH l x=some (ps.map (·.map fun q=>List.getD l q jz)):=by
 have h0:=h;unfold jf at h;split at h
 ·rename_i ha;simp only[mi,Bool.and_eq_true] at ha;have hf:=R2 h;have hc:=Pj h;have hm:gH l x=some (ps.map (·.map fun q=>List.getD l q jz)):=by rw[HA,h0];rfl
  refine⟨ha.1,ha.2,fun p hp q hq=>TX (y:=x.by_) q ?_,?_,fun p hp=>?_,hm⟩
  ·rw[<- hf];exact List.mem_flatten_of_mem hp hq
  ·rw[Sc] at hc;have:=d5 ha.1;omega
  ·have:=(A4 hm (p.map fun q=>List.getD l q jz) (List.mem_map_of_mem hp)).2.1
   rwa [RJ] at this
 ·cases h
theorem T4 (l:aZ) (x:Roll):dd l x=(jf l x).isSome:=by rw[dd,HA,Option.isSome_map]
def cK (l:List Int):List Int:=l.foldl (fun out x=>if out.contains x then out else out++[x]) []
theorem EE (l:List Int) (x:Int):cK (l++[x])=if (cK l).contains x then cK l else cK l++[x]:=by
 unfold cK;rw[List.foldl_append];rfl
theorem VZ (l:List Int) {i:Nat} (h:i < l.length):cK (l.take (i+1))=if (cK (l.take i)).contains l[i] then cK (l.take i) else cK (l.take i)++[l[i]]:=by
 rw[br h,EE]
theorem HC (l:List Int):(cK l).length<=l.length:=by
 unfold cK
 have:∀ (l out:List Int),(l.foldl (fun out x=>if out.contains x then out else out++[x]) out).length<=out.length+l.length:=fun l=>by
  induction l with
  | nil=>intro out;simp
  | cons x l ih =>
    intro out;rw[List.foldl_cons,List.length_cons];have h1:=ih (if out.contains x then out else out++[x]);have h2:(if out.contains x then out else out++[x]).length<=out.length+1:=by split<;>simp
    omega
 simpa using this l []
theorem Bb {l:List Int} {x:Int}:x ∈ cK l->x ∈ l:=by
 have:∀ (l out:List Int),x ∈ l.foldl (fun out x=>if out.contains x then out else out++[x]) out->x ∈ out\/x ∈ l:=fun l=>by
  induction l with
  | nil=>intro out h;exact .inl h
  | cons y l ih =>
    intro out h;rw[List.foldl_cons] at h;rcases ih _ h with h | h
    ·split at h
     ·exact .inl h
     ·rcases List.mem_append.1 h with h | h
      ·exact .inl h
      ·exact .inr (by simp at h;simp[h])
    ·exact .inr (by simp[h])
 intro h;rcases this l [] h with h | h
 ·simp at h
 ·exact h
def acD (n:Int) (l:List Int):List Int:=let k:=(l.takeWhile fun x=>decide (x < n)).length;if l[k]?=some n then l else l.take k++n::l.drop k
theorem Vb {n:Int} {l:List Int} {k:Nat} (hk:k<=l.length) (h1:∀ j (h:j < k),l[j]'(by omega) < n) (h2:∀ h:k < l.length,¬l[k] < n):(l.takeWhile fun x=>decide (x < n)).length=k:=by
 have e:l.takeWhile (fun x=>decide (x < n))=l.take k:=by
  conv=>lhs;rw[<- List.take_append_drop k l]
  rw[List.takeWhile_append_of_pos fun a ha=>?_]
  ·rw[show (l.drop k).takeWhile (fun x=>decide (x < n))=[] from ?_,List.append_nil];by_cases hl:k < l.length
   ·rw[List.drop_eq_getElem_cons hl,List.takeWhile_cons,if_neg (by simpa using h2 hl)]
   ·rw[List.drop_eq_nil_of_le (by omega)];rfl
  ·obtain ⟨j,hj,rfl⟩:=List.getElem_of_mem ha;rw[List.length_take] at hj;rw[List.getElem_take];simpa using h1 j (by omega)
 rw[e,List.length_take];omega
theorem aaH {n:Int} {l:List Int} (h:l.Pairwise (· < ·)) (hn:∀ x ∈ l,x<=n):acD n l=if l.contains n then l else l++[n]:=by
 by_cases hc:n ∈ l
 ·rw[if_pos (by simpa using hc)];obtain ⟨k,hk,rfl⟩:=List.getElem_of_mem hc;have e:=Vb (n:=l[k]) (l:=l) (k:=k) (by omega) (fun j hj=>List.pairwise_iff_getElem.1 h j k (by omega) hk hj) (fun _=>by omega);unfold acD;simp only[e,List.getElem?_eq_getElem hk,if_true]
 ·rw[if_neg (by simpa using hc)]
  have e:=Vb (n:=n) (l:=l) (k:=l.length) (Nat.le_refl _) (fun j hj=>by
   have h1:=hn l[j] (List.getElem_mem _);have h2:l[j]≠n:=fun e=>hc (e▸List.getElem_mem _);omega) (fun h=>absurd h (by omega))
  unfold acD;simp[e]
theorem VY {l:List Int} (h:l.Pairwise (·<=·)):(cK l).Pairwise (· < ·):=by
 induction l using kY with
 | h0=>simp[cK]
 | h1 l x ih =>
   rw[List.pairwise_append] at h;rw[EE];split
   ·exact ih h.1
   ·rename_i hc;rw[List.pairwise_append];refine⟨ih h.1,List.pairwise_singleton _ _,fun a ha b hb=>?_⟩;simp at hb;subst hb;have h1:=h.2.2 a (Bb ha) b (by simp);have h2:a≠b:=fun e=>hc (by subst e;simpa using ha);omega
theorem Xh {l:List Int} {n:Int} (h:(l++[n]).Pairwise (·<=·)):acD n (cK l)=cK (l++[n]):=by
 rw[List.pairwise_append] at h;rw[EE];exact aaH (VY h.1) fun x hx=>h.2.2 x (Bb hx) n (by simp)
theorem OI {w:World} {D:Nat->Prop} {φ:Nat->Option Pl}:∀ (l:List (List UInt8)) (xs:List Value),(∀ (j:Nat) (x:List UInt8),l[j]?=some x->xs[j]?=some (.string (bs x)))->(∀ x ∈ l,Abs.one (.string (bs x))=true)->CR w D 1 (l.map S) φ xs []
 | [],xs,_,_=>by simp[CR]
 | x::l,xs,h,ho=>by
   have h0:=h 0 x rfl;cases xs with
   | nil=>simp at h0
   | cons v rest =>
     simp at h0;subst h0;have ih:=OI (w:=w) (D:=D) (φ:=φ) l rest (fun j y hj=>by simpa using h (j+1) y (by simpa using hj)) fun y hy=>ho y (by simp[hy]);have h1:=ho x (by simp);simp only[List.map_cons,CR];refine⟨.string (bs x),rest,[],[],rfl,⟨rfl,?_⟩,rfl,⟨rfl,h1,rfl⟩,ih⟩;show (#[Value.string (bs x)].toList).all Abs.one=true;simp[h1]
theorem KM {w:World} {D:Nat->Prop} {φ:Nat->Option Pl}:∀ (l:List (List UInt8)) (xs:List Value) (f:List Nat),CR w D 1 (l.map S) φ xs f->(∀ x ∈ l,Abs.one (.string (bs x))=true)/\f=[]
 | [],xs,f,h=>by simp only[List.map_nil,CR] at h;exact⟨by simp,h⟩
 | x::l,xs,f,h=>by
   simp only[List.map_cons,CR,CV] at h;obtain ⟨v,rest,f1,f2,rfl,_,rfl,⟨_,h1,rfl⟩,h2⟩:=h;obtain ⟨g1,g2⟩:=KM l rest f2 h2;refine⟨fun y hy=>?_,by simpa using g2⟩;rcases List.mem_cons.1 hy with rfl | hy
   ·exact h1
   ·exact g1 y hy
theorem TU (w:World) (blk off:Nat) (d:Array (List UInt8)) (os:Array Obj) (n k:Nat) (hk:k < w.heap.size) :
  (Sort.grow (Sort.putRow encStr (Sort.ahead w n) blk off d) os).heap[k]?=if k=blk then (w.heap[k]?).map (Sort.onCells (Sort.putCells encStr off d)) else w.heap[k]?:=by
 show ((w.heap.modify blk _)++os)[k]?=_;rw[Array.getElem?_append_left (by simpa using hk),Array.getElem?_modify];by_cases e:blk=k
 ·subst e;simp
 ·rw[if_neg e,if_neg (fun h=>e h.symm)]
theorem YB {w:World} {b k:Nat} {arr:Array Value} {ty:TypeId} {fr:Nat×Nat} (hok:Od arr fr) (hb:w.heap[b]?=some (.cells arr ty fr)) (hk:k < arr.size):w.frozen? ⟨b,k,none⟩=false:=by
 have hz:¬(fr.1<=k/\k < fr.2):=by
  rcases hok with rfl | ⟨_,h⟩
  ·simp
  ·omega
 unfold World.frozen?;rw[hb];simpa using hz
theorem VP {w:World} {b off:Nat} {arr:Array Value} {ty:TypeId} {fr:Nat×Nat} {l':List (List UInt8)} (hb:w.heap[b]?=some (.cells arr ty fr)) (os:Array Obj) (n:Nat) (hlen:off+l'.length<=arr.size) (hm:∀ x ∈ l',Abs.one (.string (bs x))=true) (D:Nat->Prop) (φ:Nat->Option Pl) :
  ∃ arr',(Sort.grow (Sort.putRow encStr (Sort.ahead w n) b off l'.toArray) os).heap[b]?=some (.cells arr' ty fr)/\arr'.size=arr.size /\
   ∀ w':World,CR w' D 1 (l'.map S) φ (arr'.toList.drop off) []:=by
 have hbl:b < w.heap.size:=(Array.getElem?_eq_some_iff.1 hb).1;refine⟨Sort.putCells encStr off l'.toArray arr,?_,by simp[Sort.putCells],fun w'=>?_⟩
 ·rw[TU w b off l'.toArray os n b hbl,if_pos rfl,hb];rfl
 ·refine OI l' _ (fun j x hj=>?_) hm;have hjl:j < l'.length:=(List.getElem?_eq_some_iff.1 hj).1;rw[List.getElem?_drop,Array.getElem?_toList];unfold Sort.putCells;rw[Array.getElem?_mapIdx,Array.getElem?_eq_getElem (by omega),Option.map_some,if_pos ⟨by omega,by simpa using by omega⟩]
  have:l'.toArray[off+j - off]! = x:=by
   rw[show off+j - off=j by omega];rw[List.getElem!_toArray,List.getElem!_eq_getElem?_getD,hj];rfl
  rw[this];rfl
theorem ac.inPlace {f:Nat} {l l':List (List UInt8)} (hc:dk Tryz.prog f=true) (hbig:l.length < 4611686018427387904) (hlen:l'.length=l.length) (hmem:∀ x ∈ l',x ∈ l\/x=[])
  (h0:l=[]->∀ (w:World) (a:Option Addr) (cap:Nat),Calls Tryz.prog f #[.slice a 0 cap] w fun e w'=>e=.returned (.tuple #[])/\w'=w)
  (h:∀ (w:World) (blk off cap:Nat),Sort.Holds encStr w blk off l.toArray->blk < w.heap.size->l.length<=cap->l.length < 4611686018427387904->Calls Tryz.prog f #[.slice (some ⟨blk,off,none⟩) l.length cap] w fun e w' =>
   e=.returned (.tuple #[])/\∃ n os,w'=Sort.grow (Sort.putRow encStr (Sort.ahead w n) blk off l'.toArray) os) :
  x4 f [⟨1,l.map S⟩] [.sl (gL 0) 0 l.length] (.tup []) [some ⟨1,l'.map S⟩]:=by
 refine⟨hc,rfl,fun w D xs p0 F0 hD hgi hblk hnd hnD hxs=>?_⟩;have hB:=hblk 0 _ rfl;have hF:(List.range 1).flatMap F0=F0 0:=by simp
 rw[show ([⟨1,l.map S⟩]:List Blk).length=1 from rfl,hF] at hnd hnD ⊢;simp only[cg,CV] at hxs;obtain ⟨x,xs',f1,f2,rfl,_,⟨rfl,hx⟩,rfl,rfl⟩:=hxs;have hpl:BF 1 p0 (gL 0)=p0 0:=mY p0 (by omega);rw[show ([⟨1,l.map S⟩]:List Blk).length=1 from rfl,hpl] at hx;have hst:∀ F1:Nat->List Nat,(dX [some (⟨1,l'.map S⟩:Blk)] 0).flatMap F1=F1 0:=fun F1=>by simp[dX]
 by_cases hl:l=[]
 ·subst hl;have hl':l'=[]:=List.length_eq_zero_iff.1 hlen;subst hl'
  have hxx:∃ a cap,x=.slice a 0 cap:=by
   obtain ⟨_,_,_,rfl⟩ | ⟨p,o,cap,_,rfl,_⟩:=hx
   ·exact⟨_,_,rfl⟩
   ·exact⟨_,_,rfl⟩
  obtain ⟨a,cap,rfl⟩:=hxx;refine(h0 rfl w a cap).mono ?_;rintro e w' ⟨rfl,rfl⟩;refine⟨_,D,[],F0,rfl,⟨rfl,rfl,rfl,Nat.le_refl _,fun _ _ _=>rfl,fun _ h=>h,fun _ h=>.inl h,hD⟩,by simp only[CV];exact⟨#[],rfl,jO⟩,?_,?_,?_⟩
  ·intro k blk hk;cases k with
   | zero=>simp at hk;subst hk;exact hB
   | succ k=>simp at hk
  ·rw[hst,List.nil_append];exact hnd
  ·intro b hb;rw[hst,List.nil_append] at hb;exact⟨.inr hb,(hnD b hb).2,(hnD b hb).1⟩
 have hpos:0 < l.length:=List.length_pos_iff.2 hl;obtain ⟨_,_,h3,_⟩ | ⟨p,o,cap,hp,rfl,hncap,hcm,hcap⟩:=hx
 ·omega
 obtain ⟨ho,hz⟩:=hcap.resolve_left (by omega);rcases hB with h2 | ⟨q,arr,ty,f',hq,hs,hqz,hheap,hFq,hcr⟩
 ·rw[hp] at h2;cases h2.1
 rw[hp] at hq;cases hq;simp only at hs hcr;rw[hs] at ho hz;have ho:o=p.o:=by omega
 subst ho;obtain ⟨hone,rfl⟩:=KM l _ _ hcr;have htx:=QH l _ _ hcr
 have hsz:p.o+l.length<=arr.size:=by
  have:=sy hcr;simp at this;omega
 obtain ⟨fr,hok,hheap⟩:=hheap;have hbl:p.b < w.heap.size:=(Array.getElem?_eq_some_iff.1 hheap).1
 have hH:Sort.Holds encStr w p.b p.o l.toArray:=by
  intro j hj;have hj:j < l.length:=by simpa using hj
  constructor
  ·rw[jR (Uh hheap)];have:=htx j l[j] (List.getElem?_eq_getElem hj);rw[List.getElem?_drop] at this;rw[<- Array.getElem?_toList,this];have:l.toArray[j]! = l[j]:=by rw[List.getElem!_toArray,List.getElem!_eq_getElem?_getD,List.getElem?_eq_getElem hj];rfl
   rw[this];rfl
  ·exact YB hok hheap (by omega)
 refine(h w p.b p.o cap hH hbl (by omega) hbig).mono ?_;rintro e w' ⟨rfl,n,os,rfl⟩
 have hmo:∀ x ∈ l',Abs.one (.string (bs x))=true:=fun x hx=>by
  rcases hmem x hx with h | rfl
  ·exact hone x h
  ·rfl
 obtain ⟨arr',g1,g2,g3⟩:=VP (l':=l') (off:=p.o) hheap os n (by omega) hmo D (fun _=>p0 0);refine⟨_,D,[],F0,rfl,⟨rfl,rfl,rfl,?_,fun b hb hbW=>?_,fun _ h=>h,fun _ h=>.inl h,fun b hb=>?_⟩,by simp only[CV];exact⟨#[],rfl,jO⟩,?_,?_,?_⟩
 ·show w.heap.size<=((w.heap.modify _ _)++os).size;simp
 ·rw[TU w p.b p.o l'.toArray os n b hb,if_neg];rintro rfl;exact hbW (by rw[hFq];simp)
 ·show b < ((w.heap.modify _ _)++os).size;have:=hD b hb;simp;omega
 ·intro k blk hk;cases k with
  | succ k=>simp at hk
  | zero =>
    simp at hk;subst hk;exact .inr ⟨p,arr',ty,[],hp,hs,by rw[hqz,g2],⟨fr,hok.size g2,g1⟩,hFq,g3 _⟩
 ·rw[hst,List.nil_append];exact hnd
 ·intro b hb;rw[hst,List.nil_append] at hb;refine⟨.inr hb,?_,(hnD b hb).1⟩;show b < ((w.heap.modify _ _)++os).size;have:=(hnD b hb).2;simp;omega
def T0 (l:List (List UInt8)):List (List UInt8):=l.mergeSort fun x y=>decide (x<=y)
theorem T2 (l:List (List UInt8)):(T0 l).length=l.length:=List.length_mergeSort l
theorem uN (l:List (List UInt8)) (hl:l.length<=1000000):x4 jl [⟨1,l.map S⟩] [.sl (gL 0) 0 l.length] (.tup []) [some ⟨1,(T0 l).map S⟩] :=
 ac.inPlace (by kernel_rfl) (by omega) (T2 l) (fun x hx=>.inl (List.mem_mergeSort.1 hx)) (fun _ w a cap=>Tryz.slices_Sort_string_none a cap w)
  (fun w blk off cap hH hb _ hbig=>Tryz.slices_Sort_string blk off cap l w hH hb hbig)
abbrev T8:=List UInt8
theorem XE {x y z:T8} (h:x<=y) (k:y<=z):x<=z:=List.le_trans h k
theorem Vp {x y:T8} (h:x<=y) (k:y<=x):x=y:=List.le_antisymm h k
theorem XD (x y:T8):x<=y\/y<=x:=List.le_total x y
theorem ahW {x y:T8}:x < y↔x<=y/\x≠y:=by
 constructor
 ·intro h;refine⟨?_,fun e=>?_⟩
  ·rcases XD x y with h' | h'
   ·exact h'
   ·exact absurd h (List.not_lt.2 h')
  ·subst e;exact List.lt_irrefl x h
 ·rintro ⟨h,k⟩;rcases Classical.em (x < y) with h' | h'
  ·exact h'
  ·exact absurd (Vp h (List.not_lt.1 h')) k
def Ee (l:List T8):Prop:=l.Pairwise fun x y=>x<=y/\x≠y
theorem Hp:∀ (a b:List T8),Ee a->Ee b->(∀ x,x ∈ a↔x ∈ b)->a=b
 | [],[],_,_,_=>rfl
 | [],y::b,_,_,h=>by have:=(h y).2 (by simp);simp at this
 | x::a,[],_,_,h=>by have:=(h x).1 (by simp);simp at this
 | x::a,y::b,ha,hb,h=>by
   have ha':=List.pairwise_cons.1 ha;have hb':=List.pairwise_cons.1 hb
   have e:x=y:=by
    rcases List.mem_cons.1 ((h x).1 (by simp)) with e | hx
    ·exact e
    ·rcases List.mem_cons.1 ((h y).2 (by simp)) with e | hy
     ·exact e.symm
     ·exact Vp (ha'.1 y hy).1 (hb'.1 x hx).1
   subst e;congr 1;refine Hp a b ha'.2 hb'.2 fun z=>⟨fun hz=>?_,fun hz=>?_⟩
   ·rcases List.mem_cons.1 ((h z).1 (by simp[hz])) with e | h'
    ·exact absurd e.symm (ha'.1 z hz).2
    ·exact h'
   ·rcases List.mem_cons.1 ((h z).2 (by simp[hz])) with e | h'
    ·exact absurd e.symm (hb'.1 z hz).2
    ·exact h'
theorem Vl (l:List T8):(T0 l).Pairwise (·<=·):=by
 have:=List.pairwise_mergeSort (le:=fun x y:T8=>decide (x<=y)) (fun a b c h k=>by simp only[decide_eq_true_iff] at h k ⊢;exact XE h k) (fun a b=>by simpa using XD a b) l;exact this.imp fun h=>by simpa using h
def uM (x:T8):List T8->List T8
 | []=>[x]
 | y::ys=>if y < x then y::uM x ys else if y=x then y::ys else x::y::ys
theorem RO {x z:T8}:∀ {l:List T8},z ∈ uM x l↔z=x\/z ∈ l
 | []=>by simp[uM]
 | y::ys=>by
   rw[uM];split
   ·rw[List.mem_cons,RO,List.mem_cons];constructor
    ·rintro (h | h | h)
     ·exact .inr (.inl h)
     ·exact .inl h
     ·exact .inr (.inr h)
    ·rintro (h | h | h)
     ·exact .inr (.inl h)
     ·exact .inl h
     ·exact .inr (.inr h)
   ·split
    ·rename_i e;subst e;simp
    ·simp
theorem Pb {x:T8}:∀ {l:List T8},Ee l->Ee (uM x l)
 | [],_=>by simp[uM,Ee]
 | y::ys,h=>by
   have h':=List.pairwise_cons.1 h;rw[uM];split
   ·rename_i hlt;refine List.pairwise_cons.2 ⟨fun z hz=>?_,Pb h'.2⟩;rcases RO.1 hz with rfl | hz
    ·exact ahW.1 hlt
    ·exact h'.1 z hz
   ·rename_i hlt;split
    ·exact h
    ·rename_i hne;have hxy:x<=y/\x≠y:=⟨List.not_lt.1 hlt,fun e=>hne e.symm⟩;refine List.pairwise_cons.2 ⟨fun z hz=>?_,h⟩;rcases List.mem_cons.1 hz with rfl | hz
     ·exact hxy
     ·have h2:=h'.1 z hz;exact⟨XE hxy.1 h2.1,fun e=>hxy.2 (by subst e;exact Vp hxy.1 h2.1)⟩
def eD (l:List T8):List T8:=l.foldl (fun acc x=>uM x acc) []
theorem Pa (l:List T8) (x:T8):eD (l++[x])=uM x (eD l):=by simp[eD]
theorem Qz:∀ (l acc:List T8),Ee acc->Ee (l.foldl (fun acc x=>uM x acc) acc)/\∀ z,z ∈ l.foldl (fun acc x=>uM x acc) acc↔z ∈ acc\/z ∈ l
 | [],acc,h=>⟨h,by simp⟩
 | x::l,acc,h=>by
   obtain ⟨h1,h2⟩:=Qz l (uM x acc) (Pb h);refine⟨h1,fun z=>?_⟩;rw[List.foldl_cons,h2,RO,List.mem_cons];constructor
   ·rintro ((h | h) | h)
    ·exact .inr (.inl h)
    ·exact .inl h
    ·exact .inr (.inr h)
   ·rintro (h | h | h)
    ·exact .inl (.inr h)
    ·exact .inl (.inl h)
    ·exact .inr h
theorem WC (x:T8):∀ l:List T8,(uM x l).length<=l.length+1
 | []=>by simp[uM]
 | y::ys=>by
   have:=WC x ys;rw[uM];split
   ·simp only[List.length_cons];omega
   ·split<;>simp
theorem Zs {x:T8}:∀ {l:List T8} {k:Nat},k<=l.length->(∀ i (h:i < k) (h':i < l.length),l[i] < x)->(∀ h:k < l.length,¬l[k] < x) ->
  uM x l=if l[k]?=some x then l else l.take k++x::l.drop k
 | [],k,hk,h1,h2=>by
   simp[uM]
 | y::ys,0,hk,h1,h2=>by
   have:=h2 (by simp);simp at this;rw[uM,if_neg (List.not_lt.2 this)];by_cases e:y=x
   ·simp[e]
   ·simp[e]
 | y::ys,k+1,hk,h1,h2=>by
   have h0:=h1 0 (by omega) (by simp);simp only[List.getElem_cons_zero] at h0;have ih:=Zs (x:=x) (l:=ys) (k:=k) (by simpa using hk) (fun i h h'=>h1 (i+1) (by omega) (Nat.succ_lt_succ h')) (fun h=>h2 (Nat.succ_lt_succ h));rw[uM,if_pos h0,ih,List.getElem?_cons_succ];split<;>simp
theorem Om (k n:T8) (r:Option (List Int)):∀ m:gK,dZ k (dD n r m)=if n=k then some r else dZ k m
 | []=>by simp[dD,dZ]
 | (k',r')::m=>by
   have ih:=Om k n r m;simp only[dD];by_cases h:k'=n
   ·subst h;simp only[if_true,dZ];split<;>rfl
   ·simp only[if_neg h,dZ,ih];by_cases h2:k'=k
    ·subst h2;simp[Ne.symm h]
    ·simp[h2]
theorem TK (n:T8) (r r':Option (List Int)):∀ m:gK,dD n r (dD n r' m)=dD n r m
 | []=>by simp[dD]
 | (k',r0)::m=>by
   have ih:=TK n r r' m;by_cases h:k'=n
   ·simp[dD,h]
   ·simp[dD,h,ih]
theorem On {n:T8}:∀ {m:gK},(dZ n m).isSome=true↔n ∈ m.map (·.1)
 | []=>by simp[dZ]
 | (k',r)::m=>by
   have ih:=@On n m;by_cases h:k'=n
   ·simp[dZ,h]
   ·simp only[dZ,if_neg h,ih,List.map_cons,List.mem_cons];exact⟨.inr,fun h'=>h'.resolve_left fun e=>h e.symm⟩
theorem HG (n:T8) (r:Option (List Int)):∀ m:gK,(dD n r m).map (·.1)=if (dZ n m).isSome then m.map (·.1) else m.map (·.1)++[n]
 | []=>by simp[dD,dZ]
 | (k',r')::m=>by
   have ih:=HG n r m;by_cases h:k'=n
   ·simp[dD,dZ,h]
   ·simp only[dD,dZ,if_neg h,List.map_cons,ih];split<;>simp
def jU (m:gK) (p:T8×Int):gK:=dD p.1 (some ((dZ p.1 m).join.getD []++[p.2])) m
def TA (l:List (T8×Int)):gK:=l.foldl jU []
def fy (n:T8) (l:List (T8×Int)):List Int:=(l.filter fun p=>decide (p.1=n)).map (·.2)
theorem TY (n:T8) (l:List (T8×Int)) (p:T8×Int):fy n (l++[p])=if p.1=n then fy n l++[p.2] else fy n l:=by
 unfold fy;by_cases h:p.1=n<;>simp[h]
theorem aaI {n:T8} {l:List (T8×Int)} (h:n ∉ l.map (·.1)):fy n l=[]:=by
 unfold fy;rw[List.map_eq_nil_iff,List.filter_eq_nil_iff];intro p hp;simp only[decide_eq_true_eq];intro e;exact h (List.mem_map.2 ⟨p,hp,e⟩)
theorem Lo (l:List (T8×Int)) (p:T8×Int):TA (l++[p])=jU (TA l) p:=by simp[TA]
theorem UJ (n:T8) (l:List (T8×Int)):dZ n (TA l)=if n ∈ l.map (·.1) then some (some (fy n l)) else none:=by
 induction l using kY with
 | h0=>simp[TA,dZ]
 | h1 l p ih =>
   rw[Lo,jU,Om,TY];by_cases h:p.1=n
   ·subst h;have hm:p.1 ∈ (l++[p]).map (·.1):=List.mem_map.2 ⟨p,List.mem_append_right _ (List.mem_singleton.2 rfl),rfl⟩;rw[if_pos rfl,if_pos rfl,ih,if_pos hm];by_cases hn:p.1 ∈ l.map (·.1)
    ·rw[if_pos hn];rfl
    ·rw[if_neg hn,aaI hn];rfl
   ·rw[if_neg h,if_neg h,ih]
    have e:(n ∈ (l++[p]).map (·.1))↔n ∈ l.map (·.1):=by
     rw[List.map_append,List.mem_append,List.map_singleton,List.mem_singleton];exact⟨fun h'=>h'.resolve_right fun e=>h e.symm,.inl⟩
    simp only[e]
theorem abU (l:List (T8×Int)):((TA l).map (·.1)).Nodup/\∀ n,n ∈ (TA l).map (·.1)↔n ∈ l.map (·.1):=by
 refine⟨?_,fun n=>?_⟩
 ·induction l using kY with
  | h0=>simp[TA]
  | h1 l p ih =>
    rw[Lo,jU,HG];split
    ·exact ih
    ·rename_i h;rw[List.nodup_append];refine⟨ih,by simp,fun a ha b hb=>?_⟩;simp at hb;subst hb;rintro rfl;exact h (On.2 ha)
 ·rw[<- On,UJ];split<;>simp_all
theorem Zo (l:List (T8×Int)):(TA l).length<=l.length:=by
 induction l using kY with
 | h0=>simp[TA]
 | h1 l p ih =>
   have h:=congrArg List.length (HG p.1 (some ((dZ p.1 (TA l)).join.getD []++[p.2])) (TA l));rw[List.length_map] at h;rw[Lo,jU,h,List.length_append];split
   ·rw[List.length_map];simp;omega
   ·rw[List.length_append,List.length_map];simp;omega
theorem NC (n:T8) (l:List (T8×Int)):(fy n l).length<=l.length:=by
 unfold fy;rw[List.length_map];exact List.length_filter_le _ _
def Sr (N:List T8) (m:gK):gK:=N.foldl (fun m n=>dD n none m) m
theorem Su (N:List T8) (n:T8) (m:gK):Sr (N++[n]) m=dD n none (Sr N m):=by simp[Sr]
theorem aba {n:T8} {N:List T8} (m:gK) (h:n ∉ N):dZ n (Sr N m)=dZ n m:=by
 induction N using kY with
 | h0=>rfl
 | h1 N x ih =>
   rw[List.mem_append,List.mem_singleton,not_or] at h;rw[Su,Om,if_neg (Ne.symm h.2),ih h.1]
def nW (l:List Int):List T8:=l.map fun p=>cW p.toNat
def va (n:T8) (l:List Int):T8:=n++32::Lib.join (nW (cK l)) [44,32]
def dp:Nat->List (List Grant)->List (T8×Int)
 | _,[]=>[]
 | k,p::ps=>(p.map fun g=>(g.name,((k+1:Nat):Int)))++dp (k+1) ps
theorem R4:∀ (k:Nat) (ps:List (List Grant)),(ps.flatten.map (·.name)).zip ((Bw k ps).map fun q:Nat=>(q:Int))=dp k ps
 | _,[]=>rfl
 | k,p::ps=>by
   rw[List.flatten_cons,List.map_append,Bw,List.map_append,dp,List.zip_append (by simp),R4 (k+1) ps];congr 1
   induction p with
   | nil=>rfl
   | cons g p ih=>rw[List.map_cons,List.length_cons,List.replicate_succ,List.map_cons,List.zip_cons_cons,ih];rfl
theorem rV:∀ (k:Nat) (ps:List (List Grant)),(dp k ps).map (·.1)=ps.flatten.map (·.name)
 | _,[]=>rfl
 | k,p::ps=>by
   rw[dp,List.map_append,rV (k+1) ps,List.flatten_cons,List.map_append,List.map_map];rfl
theorem tC (k:Nat) (ps:List (List Grant)):(dp k ps).length=ps.flatten.length:=by
 have:=congrArg List.length (rV k ps);rw[List.length_map,List.length_map] at this;exact this
theorem KA:∀ (k:Nat) (ps:List (List Grant)),(∀ z ∈ dp k ps,((k+1:Nat):Int)<=z.2/\z.2<=((k+ps.length:Nat):Int))/\((dp k ps).map (·.2)).Pairwise (·<=·)
 | k,[]=>by simp[dp]
 | k,p::ps=>by
   obtain ⟨h1,h2⟩:=KA (k+1) ps;rw[dp];refine⟨fun z hz=>?_,?_⟩
   ·rcases List.mem_append.1 hz with hz | hz
    ·obtain ⟨g,_,rfl⟩:=List.mem_map.1 hz;simp;omega
    ·have:=h1 z hz;rw[List.length_cons];omega
   ·rw[List.map_append,List.pairwise_append];refine⟨?_,h2,fun a ha b hb=>?_⟩
    ·rw[List.map_map];refine List.pairwise_map.2 (List.pairwise_of_forall fun _ _=>Int.le_refl _)
    ·rw[List.map_map,List.mem_map] at ha;obtain ⟨g,_,rfl⟩:=ha;obtain ⟨z,hz,rfl⟩:=List.mem_map.1 hb;have:=h1 z hz;simp;omega
theorem aaJ {n:T8} {Z:List (T8×Int)} (h:(Z.map (·.2)).Pairwise (·<=·)):(fy n Z).Pairwise (·<=·):=h.sublist (List.filter_sublist.map _)
def E8 (Z:List (T8×Int)):List T8:=(eD (Z.map (·.1))).map fun n=>va n (fy n Z)
theorem ta (l:List T8) (x:T8):x ∈ eD l↔x ∈ l:=by
 have:=(Qz l [] List.Pairwise.nil).2 x;simpa [eD] using this
theorem aaP (Z:List (T8×Int)):T0 ((TA Z).map (·.1))=eD (Z.map (·.1)):=by
 obtain ⟨h1,h2⟩:=Qz (Z.map (·.1)) [] List.Pairwise.nil;obtain ⟨h3,h4⟩:=abU Z;refine Hp _ _ ?_ h1 fun z=>?_
 ·have hs:=Vl ((TA Z).map (·.1));have hp:(T0 ((TA Z).map (·.1))).Nodup:=(List.mergeSort_perm _ _).nodup_iff.2 h3;exact List.Pairwise.and hs hp
 ·rw[ta];have:z ∈ T0 ((TA Z).map (·.1))↔z ∈ (TA Z).map (·.1):=List.mem_mergeSort;rw[this,h4]
theorem xg (l:List T8):Ee (eD l):=(Qz l [] List.Pairwise.nil).1
theorem Kg (l:List T8):(eD l).length<=l.length:=by
 induction l using kY with
 | h0=>simp[eD]
 | h1 l x ih =>
   rw[Pa,List.length_append];have:=WC x (eD l);simp;omega
theorem WB {a b:List T8} (h:∀ x,x ∈ a↔x ∈ b):eD a=eD b:=Hp _ _ (xg a) (xg b) fun x=>by rw[ta,ta,h]
def TN (l:List Grant) (x:Roll):List (T8×Int):=dp 0 ((gH l x).getD [])
def vj (l:List Grant) (x:Roll):List T8:=E8 (TN l x)
theorem TR {l:List Int} (h:∀ p ∈ l,0<=p/\p<=99):∀ s ∈ nW l,s.length<=4:=by
 intro s hs;obtain ⟨p,hp,rfl⟩:=List.mem_map.1 hs;have:=h p hp;exact eC 3 p.toNat (by omega)
theorem WF {sep:T8} {m:Nat}:∀ {l:List T8},(∀ s ∈ l,s.length<=m)->(Lib.join l sep).length<=(m+sep.length) * l.length
 | [],_=>by simp[Lib.join]
 | x::l,h=>by
   rw[Lib.join_cons,List.length_append];have h1:=h x (by simp)
   have h2:(Lib.joinTail sep l).length<=(m+sep.length) * l.length:=by
    clear h1
    induction l with
    | nil=>simp[Lib.joinTail]
    | cons y l ih =>
      have h3:=h y (by simp);have h4:=ih fun s hs=>h s (by simp at hs ⊢;rcases hs with h | h<;>simp[h]);have e:Lib.joinTail sep (y::l)=sep++y++Lib.joinTail sep l:=by simp[Lib.joinTail]
      rw[e,List.length_append,List.length_append,List.length_cons,Nat.mul_add];omega
   rw[List.length_cons,Nat.mul_add];omega
theorem WR (d b:Nat) (c:gK):a7 d (bo b c).es=false:=rfl
theorem U0 (b:Nat) (c:gK):bb (bo b c).es=true:=rfl
theorem UZ (b:Nat) (c:gK):aC (bo b c).es=true:=rfl
attribute [simp] WR U0 UZ
@[simp] theorem ah2 {d k b:Nat} {m:gK} {l:List (Nat×Blk)}:frH d ((k,bo b m)::l)=(k != d&&frH d l):=by
 simp[frH]
@[simp] theorem ahO {i j b:Nat} {m:gK}:su i j (bo b m)=bo b m:=rfl
@[simp] theorem agt {i j b:Nat} {m:gK}:xW i j (bo b m).es=[Qj]:=rfl
@[simp] theorem af0 {i b:Nat} {m:gK} {blk:Blk}:yu i blk (bo b m).es=[Qj]:=rfl
@[simp] theorem af9 {b:Nat} {m:gK}:(⟨(bo b m).s,[Qj]⟩:Blk)=bo b m:=rfl
@[simp] theorem ag2 {i b:Nat} {m:gK} {blk:Blk}:Yg i blk (bo b m)=bo b m:=rfl
section
variable {s : AS} {d b i : Nat} {k : List UInt8} {m : gK} {K : AS → Prop} {c : CO} {next : It → AS → Prop}
theorem WQ (hb:bB s.hp bm=some (bo b m)) (h:K { s with sl:=(d,.tup [.undef,B (dZ k m).isSome])::s.sl }):ZA true (.v (.map (some b))) (S k) s d K :=
 ⟨b,k,m,rfl,rfl,hb,.inl ⟨rfl,h⟩⟩
theorem aai (l:List Int) (hb:bB s.hp bm=some (bo b m)) (hg:dZ k m=some (some l)) (hf:s.fresh d=true)
  (h:K { s with sl:=(d,.sl d 0 l.length)::s.sl,hp:=(d,⟨1,gu l⟩)::(bm,bo b (dD k none m))::HO bm s.hp }):ZA false (.v (.map (some b))) (S k) s d K :=
 ⟨b,k,m,rfl,rfl,hb,.inr (.inr ⟨rfl,l,hg,hf,h⟩)⟩
theorem aah (l:List Int) (hb:bB s.hp bm=some (bo b m)) (hg:dZ k m=some (some l))
  (h:next ⟨c,⟨.sl d 0 l.length,[(bm,some (bo b (dD k none m))),(d,some ⟨1,gu l⟩)],[d]⟩,i,iS c s⟩
   { s with sl:=(d,.sl d 0 l.length)::s.sl,hp:=(d,⟨1,gu l⟩)::(bm,bo b (dD k none m))::HO bm s.hp }):Zz false (.v (.map (some b))) (S k) s d c i next :=
 ⟨b,k,m,rfl,rfl,hb,.inr (.inr ⟨rfl,l,hg,h⟩)⟩
theorem aag (hb:bB s.hp bm=some (bo b m)) (hg:dZ k m=none)
  (h:next ⟨c,⟨.v (.slice none 0 0),[],[]⟩,i,iS c s⟩ { s with sl:=(d,.v (.slice none 0 0))::s.sl }):Zz false (.v (.map (some b))) (S k) s d c i next :=
 ⟨b,k,m,rfl,rfl,hb,.inr (.inl ⟨rfl,hg,h⟩)⟩
theorem WY {id n:Nat} (l:List Int) (hb:bB s.hp bm=some (bo b m)) (hi:bB s.hp id=some ⟨1,gu l⟩) (hn:n=l.length)
  (h:next ⟨c,⟨.undef,[(id,none),(bm,some (bo b (dD k (some l) m)))],[]⟩,i,iS c s⟩ { s with hp:=(bm,bo b (dD k (some l) m))::HO bm (HO id s.hp) }) :
  acl (.v (.map (some b))) (S k) (.sl id 0 n) s c i next :=
 ⟨b,k,m,id,l,rfl,rfl,hb,by rw[hn],hi,h⟩
end
theorem afC {s:List UInt8} (hs:s.length<=1000000):Abs.one (.string (bs s))=true:=by
 have:(bs s).size=s.length:=by simp[bs,ByteArray.size]
 simp only[Abs.one,this,decide_eq_true_iff];omega
theorem adz (s:List UInt8):(bs s).size=s.length:=by simp[bs,ByteArray.size]
theorem Ui (s:List UInt8):(bs s).data.toList=s:=by simp[bs]
theorem Qr (sep:List UInt8) (l:List (List UInt8)) (hl:l.length<=1000000) (h:(Lib.join l sep).length<=1000000):cJ E2 [.ro 1 (l.map S),S sep] (S (Lib.join l sep)):=by
 refine aa.belowRow (vs:=[.string (bs sep)]) (y:=.string (bs (Lib.join l sep))) (by kernel_rfl) (fun _ _=>iX (afC h)) ?_ ?_
 ·rintro rfl w D a c _;refine(Tryz.strings_Join_none a c (bs sep) w).mono ?_;rintro e w' ⟨rfl,rfl⟩;exact⟨rfl,Go.RowKit.Below.refl _ _⟩
 ·intro w D b o c _ hc hb hlc
  have e1:(l.map bs).map (·.data.toList)=l:=by
   rw[List.map_map]
   conv=>rhs;rw[<- List.map_id l]
   exact List.map_congr_left fun x _=>Ui x
  have hj:=Tryz.strings_Join b o c (l.map bs) (bs sep) w (fun j x hj=>by
   rw[List.getElem?_map] at hj;cases hx:l[j]? with
   | none=>rw[hx] at hj;cases hj
   | some y =>
     rw[hx] at hj;simp only[Option.map_some,Option.some.injEq] at hj;subst hj;exact hc j y hx) hb (by simp;omega) (by simpa using hlc) (by rw[e1,Ui];omega)
  rw[e1,Ui,List.length_map] at hj;exact hj
def jq:=[ok 4 (vB false)]
def jr:=[om 5 0,om 6 1,eo 7 il 5 6,cD 8 .geq 7 0,om 4 8]
def j2:C:=(sr jq [0,1] (sr jr [4] .ret))
theorem sV:cz fD j2 [(.tmp 4)] 9:=dh func65 rfl
def LJ:=[ok 2 vN]
def LK:=[oo 6 (.bslice 1 (vI 0) 0 []),om 3 6]
def LL:=[om 7 0,oo 8 (.len false (.t 7)),ok 9 (vI 0)]
def LM:=[bM 10 .lss 9 8]
def LN:=[ep 11 1 7 9,bd 12 1 11,om 5 12]
def LO:=[om 13 3,om 14 5,eo 15 fD 13 14,oo 16 (.un .not (.t 15))]
def LP:=[om 17 3,om 18 5,oo 19 (.bslice 1 (vI 0) 1 [(0,(.t 18))]),oo 20 (.app 1 8 (.t 17) (.t 19)),om 3 20]
def LQ:=[fv 21 9 1,om 9 21]
def Ls:C:=(sr LM [3,7,8,9,10] (ss (sc 10 .skip (.exit 0)) (ss (.block 1 (sr LN [3,5,7,8,9] (sr LO [3,5,7,8,9,16] (sc 16 (.reg LP [3,7,8,9]) .skip)))) (.reg LQ [3,7,8,9]))))
def LR:=[om 22 3,om 2 22]
def QQ:C:=(sr LJ [0] (sr LK [0,3] (ss (sr LL [3,7,8,9] (.block 0 (.loop Ls))) (sr LR [2] .ret))))
theorem V0:cz Km QQ [(.tmp 2)] 23:=dh func33 rfl
def FY:=[ok 4 vN]
def FZ:=[ok 5 (vI 0)]
def vW:=[om 6 5,om 7 0,oo 8 (.len false (.t 7)),bM 9 .lss 6 8,om 10 9,oT 10 11 (.mv (.t 0)),oT 10 12 (.mv (.t 5)),oT 10 13 (.iaddr 1 (.t 11) (.t 12)),oT 10 14 (.ld false 1 (.t 13)),oT 10 15 (.mv (.t 1)),oT 10 16 (.bin .lss .none (.t 14) (.t 15)),oo 17 (.pick (.t 10) (.t 16) (xB false))]
def F5:=[om 18 5,fv 19 18 1,om 5 19]
def u5:C:=(ss (sr vW [0,1,5,17] (sc 17 .skip (.exit 0))) (.block 1 (.reg F5 [0,1,5])))
def vX:=[om 20 5,om 21 0,oo 22 (.len false (.t 21)),bM 23 .lss 20 22,om 24 23,oT 24 25 (.mv (.t 0)),oT 24 26 (.mv (.t 5)),oT 24 27 (.iaddr 1 (.t 25) (.t 26)),oT 24 28 (.ld false 1 (.t 27)),oT 24 29 (.mv (.t 1)),oT 24 30 (.bin .eql .none (.t 28) (.t 29)),oo 31 (.pick (.t 24) (.t 30) (xB false))]
def PK:=[om 32 0,om 4 32]
def F6:=[oo 33 (.bslice 1 (vI 0) 0 []),om 34 0,om 35 5,oo 36 (.slc (some 1) (.t 34) none (some (.t 35))),oo 37 (.app 1 8 (.t 33) (.t 36)),om 38 1,oo 39 (.bslice 1 (vI 0) 1 [(0,(.t 38))]),oo 40 (.app 1 8 (.t 37) (.t 39)),om 41 0,om 42 5,oo 43 (.slc (some 1) (.t 41) (some (.t 42)) none),oo 44 (.app 1 8 (.t 40) (.t 43)),om 4 44]
def pP:List (List Nat):=[[],[],[],[1,2],[0,1,2,3],[],[5],[0,1,2,3,4,5,6],[],[],[8,9],[0,1,2,3,4,5,6,7,8,9,10],[0,1,2,3,4,5,6,7,8,9,10,11]]
def NX:C:=(sr FY [0,1] (sr FZ [0,1,5] (ss (.block 0 (.loop u5)) (ss (sr vX [0,1,5,31] (sc 31 (sr PK [4] .ret) .skip)) (ss (.regD F6 pP [4]) .ret)))))
theorem Rt:cz HJ NX [(.tmp 4)] 45:=dh func27 rfl
def BJ:=[ok 4 vN]
def BK:=[ok 5 (vI 0)]
def rW:=[om 6 5,om 7 0,oo 8 (.len false (.t 7)),bM 9 .lss 6 8,om 10 9,oT 10 11 (.mv (.t 0)),oT 10 12 (.mv (.t 5)),oT 10 13 (.iaddr 1 (.t 11) (.t 12)),oT 10 14 (.ld false 1 (.t 13)),oT 10 15 (.mv (.t 1)),oT 10 16 (.bin .lss .none (.t 14) (.t 15)),oo 17 (.pick (.t 10) (.t 16) (xB false))]
def BL:=[om 18 5,fv 19 18 1,om 5 19]
def rP:C:=(ss (sr rW [0,1,5,17] (sc 17 .skip (.exit 0))) (.block 1 (.reg BL [0,1,5])))
def rX:=[om 20 5,om 21 0,oo 22 (.len false (.t 21)),bM 23 .lss 20 22,om 24 23,oT 24 25 (.mv (.t 0)),oT 24 26 (.mv (.t 5)),oT 24 27 (.iaddr 1 (.t 25) (.t 26)),oT 24 28 (.ld false 1 (.t 27)),oT 24 29 (.mv (.t 1)),oT 24 30 (.bin .eql .none (.t 28) (.t 29)),oo 31 (.pick (.t 24) (.t 30) (xB false))]
def Mk:=[om 32 0,om 4 32]
def BM:=[oo 33 (.bslice 1 (vS []) 0 []),om 34 0,om 35 5,oo 36 (.slc (some 1) (.t 34) none (some (.t 35))),oo 37 (.app 1 16 (.t 33) (.t 36)),om 38 1,oo 39 (.bslice 1 (vS []) 1 [(0,(.t 38))]),oo 40 (.app 1 16 (.t 37) (.t 39)),om 41 0,om 42 5,oo 43 (.slc (some 1) (.t 41) (some (.t 42)) none),oo 44 (.app 1 16 (.t 40) (.t 43)),om 4 44]
def mV:List (List Nat):=[[],[],[],[1,2],[0,1,2,3],[],[5],[0,1,2,3,4,5,6],[],[],[8,9],[0,1,2,3,4,5,6,7,8,9,10],[0,1,2,3,4,5,6,7,8,9,10,11]]
def JW:C:=(sr BJ [0,1] (sr BK [0,1,5] (ss (.block 0 (.loop rP)) (ss (sr rX [0,1,5,31] (sc 31 (sr Mk [4] .ret) .skip)) (ss (.regD BM mV [4]) .ret)))))
theorem O5:cz Bn JW [(.tmp 4)] 45:=dh func26 rfl
theorem Un (l:List Int) (x:Int):l.contains x=decide (0<=idx (fun y=>decide (y=x)) l):=by
 rw[Zq,Bool.eq_iff_iff,List.contains_iff_mem,List.any_eq_true];simp
theorem Hj (l:List Int) (x:Int):cJ fD [.ro 1 (gu l),I x] (B (l.contains x)):=by
 refine aa.of sV (by simp) ?_;simp[j2,jq,jr];refine af (aa.ag (Hl l x)) ?_;rw[Un];simp
theorem abV (l:List Int) (hl:l.length<=1000000):cJ Km [.ro 1 (gu l)] (.own 1 (gu (cK l))):=by
 refine aa.of V0 (by simp) ?_;simp[QQ,LJ,LK,LL,Ls];refine ci (fun p:Nat×List Int=>⟨[(3,.sl 6 0 p.2.length),(7,.ro 1 (gu l)),(8,I l.length),(9,I p.1)],[(6,⟨1,gu p.2⟩)],[]⟩) (fun p=>l.length - p.1) (fun p=>p.1<=l.length/\p.2=cK (l.take p.1)) (0,[]) Wk.li (by simp[cK]) ?_;rintro ⟨i,L⟩ ⟨hi,hL⟩ K hN hR hE;dsimp only at hi hL;have hle:=HC (l.take i);rw[<- hL,List.length_take] at hle;simp[LM,LQ];refine⟨fun hlt=>?_,fun hge=>?_⟩
 ·have hst:=VZ l hlt;rw[<- hL] at hst;simp[LN,LO,hlt];refine af (aa.ag (Hj L l[i])) ?_;cases hc:L.contains l[i] with
  | true =>
    rw[hc,if_pos rfl] at hst;simp;rw[am (by omega)];exact hN (i+1,L) _ (by dsimp only;omega) ⟨by dsimp only;omega,hst.symm⟩ Wk.li
  | false =>
    rw[hc,if_neg (by simp)] at hst;simp[LP];refine⟨by unfold ba;omega,?_⟩;rw[am (by omega)];refine hN (i+1,L++[l[i]]) _ (by dsimp only;omega) ⟨by dsimp only;omega,hst.symm⟩ (Wk.trans (Wk.ren 20 6 (by decide) (by simp)) (Wk.list rfl ?_ ?_))
    ·simp
    ·simp
 ·refine hE _ _ ?_;obtain rfl:i=l.length:=by omega
  rw[List.take_of_length_le (by omega)] at hL;simp[LR,hL]
theorem ml:∀ {x y:List UInt8},Op.bytesLess x y=true↔x < y
 | [],[]=>by simp[Op.bytesLess]
 | [],y::ys=>by simp[Op.bytesLess]
 | x::xs,[]=>by simp[Op.bytesLess]
 | x::xs,y::ys=>by
   have ih:=@ml xs ys;rw[Op.bytesLess];rw[List.cons_lt_cons_iff];simp[ih]
theorem Vj (l:List Int) (n:Int) (k:Nat) (hl:l.length<=1000000) (hk:k < l.length) (he:l[k]=n) (h1:∀ j (h:j < k),l[j]'(by omega) < n):cJ HJ [.ro 1 (gu l),I n] (.ro 1 (gu l)):=by
 refine aa.of Rt (by simp) ?_;simp[NX,FY,FZ];refine ci (fun j:Nat=>⟨[(0,.ro 1 (gu l)),(1,I n),(5,I j)],[],[]⟩) (fun j=>k - j) (fun j=>j<=k) 0 Wk.li (by simp) ?_;intro j hj K hN hR hE;have hjl:j < l.length:=by omega
 simp[u5,vW,hjl];refine⟨fun hlt=>?_,fun hge=>?_⟩
 ·have hjk:j≠k:=by rintro rfl;omega
  simp[F5];rw[am (by omega)];exact hN (j+1) _ (by omega) (by omega) Wk.li
 ·obtain rfl:j=k:=by
   by_cases e:j=k
   ·exact e
   ·have:=h1 j (by omega);omega
  refine hE _ _ ?_;simp only[aL];simp[vX,hjl,he];simp[PK]
theorem Xr (l:List Int) (n:Int) (k:Nat) (hl:l.length<=1000000) (hk:k<=l.length) (h1:∀ j (h:j < k),l[j]'(by omega) < n) (h2:∀ h:k < l.length,n < l[k]) :
  cJ HJ [.ro 1 (gu l),I n] (.own 1 (gu (l.take k++n::l.drop k))):=by
 refine aa.of Rt (by simp) ?_;simp[NX,FY,FZ];refine ci (fun j:Nat=>⟨[(0,.ro 1 (gu l)),(1,I n),(5,I j)],[],[]⟩) (fun j=>k - j) (fun j=>j<=k) 0 Wk.li (by simp) ?_;intro j hj K hN hR hE;by_cases hjl:j < l.length
 ·simp[u5,vW,hjl];refine⟨fun hlt=>?_,fun hge=>?_⟩
  ·have hjk:j≠k:=by rintro rfl;have:=h2 hjl;omega
   simp[F5];rw[am (by omega)];exact hN (j+1) _ (by omega) (by omega) Wk.li
  ·obtain rfl:j=k:=by
    by_cases e:j=k
    ·exact e
    ·have:=h1 j (by omega);omega
   have hne:¬l[j]=n:=by have:=h2 hjl;omega
   refine hE _ _ ?_;simp only[aL];simp[vX,hjl,hne];simp[F6,pP,hk]
   have e1:List.take (j+1) (List.take j (List.take j (gu l))++[I n])=gu (l.take j++[n]):=by
    rw[List.take_take,Nat.min_self,List.take_of_length_le (by simp;omega)];simp[List.map_take]
   have e2:List.take (l.length - j) (List.drop j (gu l))=gu (l.drop j):=by
    rw[List.take_of_length_le (by simp)];simp[List.map_drop]
   rw[e1,e2];refine⟨by unfold ba;omega,by unfold ba;omega,by unfold ba;omega,aO (by simp[pP]) (by simp),?_⟩;simp[List.map_take,List.map_drop]
 ·obtain rfl:j=k:=by omega
  obtain rfl:j=l.length:=by omega
  simp[u5,vW];refine hE _ _ ?_;simp only[aL];simp[vX];simp[F6,pP];refine⟨by unfold ba;omega,by unfold ba;omega,aO (by simp[pP]) (by simp),?_⟩;rw[List.take_of_length_le (by simp),List.drop_eq_nil_of_le (by simp)]
theorem S8 (l:List T8) (n:T8) (k:Nat) (hl:l.length<=1000000) (hk:k < l.length) (he:l[k]=n) (h1:∀ j (h:j < k),l[j]'(by omega) < n):cJ Bn [.ro 1 (l.map S),S n] (.ro 1 (l.map S)):=by
 refine aa.of O5 (by simp) ?_;simp[JW,BJ,BK];refine ci (fun j:Nat=>⟨[(0,.ro 1 (l.map S)),(1,S n),(5,I j)],[],[]⟩) (fun j=>k - j) (fun j=>j<=k) 0 Wk.li (by simp) ?_;intro j hj K hN hR hE;have hjl:j < l.length:=by omega
 simp[rP,rW,hjl];refine⟨fun hlt=>?_,fun hge=>?_⟩
 ·have hjk:j≠k:=by rintro rfl;rw[he] at hlt;exact absurd (ml.1 hlt) (List.lt_irrefl n)
  simp[BL];rw[am (by omega)];exact hN (j+1) _ (by omega) (by omega) Wk.li
 ·obtain rfl:j=k:=by
   by_cases e:j=k
   ·exact e
   ·rw[ml.2 (h1 j (by omega))] at hge;cases hge
  refine hE _ _ ?_;simp only[aL];simp[rX,hjl,he];simp[Mk]
theorem Vg (l:List T8) (n:T8) (k:Nat) (hl:l.length<=1000000) (hk:k<=l.length) (h1:∀ j (h:j < k),l[j]'(by omega) < n) (h2:∀ h:k < l.length,¬l[k] < n/\l[k]≠n) :
  cJ Bn [.ro 1 (l.map S),S n] (.own 1 ((l.take k++n::l.drop k).map S)):=by
 refine aa.of O5 (by simp) ?_;simp[JW,BJ,BK];refine ci (fun j:Nat=>⟨[(0,.ro 1 (l.map S)),(1,S n),(5,I j)],[],[]⟩) (fun j=>k - j) (fun j=>j<=k) 0 Wk.li (by simp) ?_;intro j hj K hN hR hE;by_cases hjl:j < l.length
 ·simp[rP,rW,hjl];refine⟨fun hlt=>?_,fun hge=>?_⟩
  ·have hjk:j≠k:=by rintro rfl;exact(h2 hjl).1 (ml.1 hlt)
   simp[BL];rw[am (by omega)];exact hN (j+1) _ (by omega) (by omega) Wk.li
  ·obtain rfl:j=k:=by
    by_cases e:j=k
    ·exact e
    ·rw[ml.2 (h1 j (by omega))] at hge;cases hge
   have hne:¬l[j]=n:=(h2 hjl).2;refine hE _ _ ?_;simp only[aL];simp[rX,hjl,hne];simp[BM,mV,hk]
   have e1:List.take (j+1) (List.take j (List.take j (l.map S))++[S n])=(l.take j++[n]).map S:=by
    rw[List.take_take,Nat.min_self,List.take_of_length_le (by simp;omega)];simp[List.map_take]
   have e2:List.take (l.length - j) (List.drop j (l.map S))=(l.drop j).map S:=by
    rw[List.take_of_length_le (by simp)];simp[List.map_drop]
   rw[e1,e2];refine⟨by unfold ba;omega,by unfold ba;omega,by unfold ba;omega,aO (by simp[mV]) (by simp),?_⟩;simp[List.map_take,List.map_drop]
 ·obtain rfl:j=k:=by omega
  obtain rfl:j=l.length:=by omega
  simp[rP,rW];refine hE _ _ ?_;simp only[aL];simp[rX];simp[BM,mV];refine⟨by unfold ba;omega,by unfold ba;omega,aO (by simp[mV]) (by simp),?_⟩;rw[List.take_of_length_le (by simp),List.drop_eq_nil_of_le (by simp)]
def IM:=[fc 1 3 0,ok 2 (vB false)]
def IP:=[aJ 3 0 1,bd 4 1 3,di 5 Oq 4,om 6 5,oT 6 7 (.faddr 1 (.t 1)),oT 6 8 (.ld false 1 (.t 7)),oT 6 9 (.call eJ [.t 8,xI 20,xI 60]),oo 10 (.pick (.t 6) (.t 9) (xB false)),om 11 10,oT 11 12 (.faddr 2 (.t 1)),oT 11 13 (.ld false 1 (.t 12)),oT 11 14 (.call eJ [.t 13,xI 4,xI 20]),oo 15 (.pick (.t 11) (.t 14) (xB false)),om 2 15]
def OQ:C:=(sr IM [1] (sr IP [2] .ret))
theorem Uy:cz E1 OQ [(.tmp 2)] 16:=dh func54 rfl
def Gu:=[fc 2 1 0,fc 3 3 1,ok 4 vN,ok 5 (vB false)]
def Gv:=[oo 12 (.bslice 1 vN 0 []),om 6 12]
def Gw:=[ok 7 (vI 0)]
def Gx:=[cm 13 1 2,aJ 14 0 3,bd 15 1 14,eo 16 Bo 13 15,om 8 16]
def Gy:=[ok 9 (vI 0)]
def Gz:=[om 17 9,om 18 8,oo 19 (.len false (.t 18)),bM 20 .lss 17 19]
def GA:=[aJ 23 0 2,bd 24 1 23,om 25 8,om 26 9,ep 27 1 25 26,bd 28 1 27,ep 29 18 24 28,cm 30 18 29,aJ 31 1 3,bd 32 1 31,eo 33 mK 30 32,oo 34 (.len false (.t 33)),om 10 34]
def tB:List (List Nat):=[[],[0],[],[],[2,3],[2,3,4],[0,1,2,3,4,5],[0,1,2,3,4,5,6],[],[8],[0,1,2,3,4,5,6,7,8,9],[0,1,2,3,4,5,6,7,8,9,10],[0,1,2,3,4,5,6,7,8,9,10,11]]
def GB:=[om 35 10,aJ 36 2 3,bd 37 1 36,bM 38 .gtr 35 37]
def GC:=[oo 39 (.bslice 1 vN 0 []),om 4 39,ok 5 (vB false)]
def ue:=[om 40 6,oo 41 (.len false (.t 40)),cD 42 .eql 41 0,om 43 42,oF 43 44 (.mv (.t 7)),oF 43 45 (.mv (.t 10)),oF 43 46 (.bin .add .none (.t 44) (.t 45)),oF 43 47 (.faddr 2 (.t 3)),oF 43 48 (.ld false 1 (.t 47)),oF 43 49 (.bin .gtr .none (.t 46) (.t 48)),oo 50 (.pick (.t 43) (xB true) (.t 49))]
def qP:=[om 51 6,oo 52 (.bslice 1 (vI 0) 0 []),oo 53 (.bslice 1 vN 1 [(0,(.t 52))]),oo 54 (.app 1 24 (.t 51) (.t 53)),om 6 54]
def qQ:=[ok 7 (vI 0)]
def DH:=[om 55 6,oo 56 (.len false (.t 55)),cD 57 .sub 56 1,om 11 57]
def DI:=[om 58 6,om 59 11,om 60 6,om 61 11,ep 62 1 60 61,bd 63 1 62,om 64 8,om 65 9,ep 66 1 64 65,bd 67 1 66,oo 68 (.bslice 1 (vI 0) 1 [(0,(.t 67))]),oo 69 (.app 1 8 (.t 63) (.t 68)),ep 70 1 58 59,cy 1 70 69]
def qF:List (List Nat):=[[],[],[],[],[2,3],[2,3,4],[],[],[6,7],[6,7,8],[6,7,8,9],[2,3,4,5,6,7,8,9,10],[0,1,2,3,4,5,6,7,8,9,10,11],[0,1,2,3,4,5,6,7,8,9,10,11,12]]
def DJ:=[om 71 7,om 72 10,bM 73 .add 71 72,om 7 73]
def DK:=[om 21 9,fv 22 21 1,om 9 22]
def CB:C:=(ss (sr Gz [2,3,6,7,8,9,20] (sc 20 .skip (.exit 0))) (ss (.block 1 (ss (.regD GA tB [2,3,6,7,8,9,10]) (ss (sr GB [2,3,6,7,8,9,10,38] (sc 38 (sr GC [4,5] .ret) .skip)) (ss (sr ue [2,3,6,7,8,9,10,50] (sc 50 (sr qP [2,3,6,8,9,10] (.reg qQ [2,3,6,7,8,9,10])) .skip)) (ss (.wk (.reg DH [2,3,6,7,8,9,10,11])) (ss (.regD DI qF [2,3,6,7,8,9,10]) (.reg DJ [2,3,6,7,8,9]))))))) (.reg DK [2,3,6,7,8,9])))
def DL:=[om 74 6,om 4 74,ok 5 (vB true)]
def Lb:C:=(sr Gu [2,3] (sr Gv [2,3,6] (sr Gw [2,3,6,7] (sr Gx [2,3,6,7,8] (ss (sr Gy [2,3,6,7,8,9] (.block 0 (.loop CB))) (sr DL [4,5] .ret))))))
def UT:Nat->List Nat
 | 0=>[2,3]
 | 1=>[2,3,6]
 | 2=>[2,3,6,7]
 | 3=>[2,3,6,7,8]
 | 4=>[2,3,6,7,8,9]
 | 5=>[2,3,6,7,8,9,20]
 | 7=>[2,3,6,7,8,9,10]
 | 8=>[2,3,6,7,8,9,10,38]
 | 9=>[4,5]
 | 10=>[2,3,6,7,8,9,10,50]
 | 11=>[2,3,6,8,9,10]
 | 12=>[2,3,6,7,8,9,10]
 | 13=>[999999,2,3,6,7,8,9,10,11]
 | 14=>[2,3,6,7,8,9,10]
 | 15=>[2,3,6,7,8,9]
 | 6=>[2,3,6,7,8,9]
 | 16=>[4,5]
 | _=>[]
theorem SS:cz Bp Lb [(.tmp 4),(.tmp 5)] 75 :=
 ⟨Tryz.f55,_,UT,func55,rfl,by kernel_rfl,by kernel_rfl,by kernel_rfl,rfl⟩
def F8:=[fc 2 1 0,fc 3 3 1,ok 4 vN,ok 5 (vB false)]
def F9:=[cm 6 1 2,di 7 ve 6,oo 8 (.un .not (.t 7)),om 9 8,oF 9 10 (.ld true 3 (.t 3)),oF 9 11 (.call E1 [.t 10]),oF 9 12 (.un .not (.t 11)),oo 13 (.pick (.t 9) (xB true) (.t 12))]
def uc:=[oo 14 (.bslice 1 vN 0 []),om 4 14,ok 5 (vB false)]
def Ga:=[cm 15 1 2,cm 16 3 3,eo 17 Bp 15 16,sE 18 17 0,sE 19 17 1,om 4 18,om 5 19]
def K8:C:=(sr F8 [2,3] (ss (sr F9 [2,3,13] (sc 13 (sr uc [4,5] .ret) .skip)) (sr Ga [4,5] .ret)))
theorem SP:cz rS K8 [(.tmp 4),(.tmp 5)] 20:=dh func25 rfl
def Gb:=[fc 2 18 0,ok 4 vN]
def Gc:=[aJ 9 0 2,bd 10 1 9,di 11 iV 10,oo 12 (.bin .add .none (.t 11) (.k (vS [46,32]))),aJ 13 1 2,bd 14 1 13,bM 15 .add 12 14,oo 16 (.bin .add .none (.t 15) (.k (vS [44,32]))),aJ 17 2 2,bd 18 1 17,di 19 iV 18,bM 20 .add 16 19,oo 21 (.bslice 1 (vS []) 1 [(0,(.t 20))]),om 5 21]
def tz:List (List Nat):=[[],[0],[0,1],[0,1,2],[],[4],[0,1,2,3,4,5],[0,1,2,3,4,5,6],[],[8],[0,1,2,8,9],[0,1,2,3,4,5,6,7,8,9,10],[0,1,2,3,4,5,6,7,8,9,10,11],[0,1,2,3,4,5,6,7,8,9,10,11,12]]
def Gd:=[aJ 22 3 2,cm 23 15 22,di 24 tn 23,oo 25 (.call E0 [.t 24,(.k (.v (.int .u8 (32))))]),om 6 25]
def Ge:=[ok 7 (vS [])]
def Gf:=[ok 8 (vI 0)]
def Gg:=[om 26 8,om 27 6,oo 28 (.len false (.t 27)),bM 29 .lss 26 28]
def ud:=[om 42 7,oo 43 (.bin .eql .none (.t 42) (.k (vS []))),om 41 43]
def Gh:=[om 44 6,om 45 8,ep 46 1 44 45,bd 47 1 46,om 7 47]
def Gi:=[om 49 7,oo 50 (.len true (.t 49)),fv 51 50 1,om 52 6,om 53 8,ep 54 1 52 53,bd 55 1 54,oo 56 (.len true (.t 55)),bM 57 .add 51 56,om 58 1,cD 59 .sub 58 2,bM 60 .leq 57 59,om 48 60]
def Gj:=[om 61 7,oo 62 (.bin .add .none (.t 61) (.k (vS [32]))),om 63 6,om 64 8,ep 65 1 63 64,bd 66 1 65,bM 67 .add 62 66,om 7 67]
def DD:=[om 32 5,om 33 7,oo 34 (.bin .add .none (.k (vS [32,32])) (.t 33)),oo 35 (.bslice 1 (vS []) 1 [(0,(.t 34))]),oo 36 (.app 1 16 (.t 32) (.t 35)),om 5 36]
def DE:=[om 37 6,om 38 8,ep 39 1 37 38,bd 40 1 39,om 7 40]
def lm:=[om 30 8,fv 31 30 1,om 8 31]
def Cz:C:=(ss (sr Gg [1,5,6,7,8,29] (sc 29 .skip (.exit 0))) (ss (.block 1 (.block 2 (sr ud [1,5,6,7,8,41] (sc 41 (.reg Gh [1,5,6,7,8]) (sr Gi [1,5,6,7,8,48] (sc 48 (.reg Gj [1,5,6,7,8]) (sr DD [1,5,6,8] (.reg DE [1,5,6,7,8])))))))) (.reg lm [1,5,6,7,8])))
def DF:=[om 68 5,om 69 7,oo 70 (.bin .add .none (.k (vS [32,32])) (.t 69)),oo 71 (.bslice 1 (vS []) 1 [(0,(.t 70))]),oo 72 (.app 1 16 (.t 68) (.t 71)),om 4 72]
def K9:C:=(sr Gb [1,2] (ss (.regD Gc tz [1,2,5]) (sr Gd [1,5,6] (sr Ge [1,5,6,7] (ss (sr Gf [1,5,6,7,8] (.block 0 (.loop Cz))) (sr DF [4] .ret))))))
def UR:Nat->List Nat
 | 0=>[1,2]
 | 1=>[1,2,5]
 | 2=>[1,5,6]
 | 3=>[1,5,6,7]
 | 4=>[1,5,6,7,8]
 | 5=>[1,5,6,7,8,29]
 | 9=>[1,5,6,7,8,41]
 | 10=>[1,5,6,7,8]
 | 11=>[1,5,6,7,8,48]
 | 12=>[1,5,6,7,8]
 | 7=>[1,5,6,8]
 | 8=>[1,5,6,7,8]
 | 6=>[1,5,6,7,8]
 | 13=>[4]
 | _=>[]
theorem SQ:cz mK K9 [(.tmp 4)] 73 :=
 ⟨Tryz.f52,_,UR,func52,rfl,by kernel_rfl,by kernel_rfl,by kernel_rfl,rfl⟩
def Po:=[fc 2 18 0,ok 4 vN]
def Pp:=[aJ 8 0 2,bd 9 1 8,di 10 gW 9,oo 11 (.bin .add .none (.t 10) (.k (vS [46,32]))),aJ 12 1 2,bd 13 1 12,bM 14 .add 11 13,oo 15 (.bin .add .none (.t 14) (.k (vS [44,32]))),aJ 16 2 2,bd 17 1 16,di 18 gW 17,bM 19 .add 15 18,oo 20 (.bslice 1 (vS []) 1 [(0,(.t 19))]),om 5 20]
def Fb:List (List Nat):=[[],[0],[0,1],[0,1,2],[],[4],[0,1,2,3,4,5],[0,1,2,3,4,5,6],[],[8],[0,1,2,8,9],[0,1,2,3,4,5,6,7,8,9,10],[0,1,2,3,4,5,6,7,8,9,10,11],[0,1,2,3,4,5,6,7,8,9,10,11,12]]
def Pq:=[aJ 21 3 2,cm 22 15 21,di 23 kr 22,om 24 1,cD 25 .sub 24 2,eo 26 EY 23 25,oo 27 (.len false (.t 26)),ok 28 (vI 0)]
def Pr:=[bM 29 .lss 28 27]
def Ps:=[ep 30 1 26 28,bd 31 1 30,om 7 31]
def Pt:=[om 32 5,om 33 7,oo 34 (.bin .add .none (.k (vS [32,32])) (.t 33)),oo 35 (.bslice 1 (vS []) 1 [(0,(.t 34))]),oo 36 (.app 1 16 (.t 32) (.t 35)),om 5 36]
def Pu:=[fv 37 28 1,om 28 37]
def Pc:C:=(sr Pr [5,26,27,28,29] (ss (sc 29 .skip (.exit 0)) (ss (.block 1 (sr Ps [5,7,26,27,28] (.reg Pt [5,26,27,28]))) (.reg Pu [5,26,27,28]))))
def Pv:=[om 38 5,om 4 38]
def Tl:C:=(sr Po [1,2] (ss (.regD Pp Fb [1,2,5]) (ss (sr Pq [5,26,27,28] (.block 0 (.loop Pc))) (sr Pv [4] .ret))))
theorem Yc:cz HI Tl [(.tmp 4)] 39:=dh func49 rfl
def vr:=[fc 1 15 0,qo 2 5 (.agg [vS [],vS [],vS [],vS [],(vB false)])]
def vt:=[aJ 4 0 1,cm 5 4 4,di 6 tj 5,aJ 7 4 1,bd 8 1 7,cD 9 .eql 8 7,oo 10 (.build (.agg [vS [],vS [],vS [],vS [],(vB false)]) [(0,(1,(.t 6))),(4,(1,(.t 9)))]),qo 3 5 (.agg [vS [],vS [],vS [],vS [],(vB false)]),cy 5 3 10]
def mQ:List (List Nat):=[[],[0],[0,1],[],[3],[3,4],[0,1,2,3,4,5],[],[0,1,2,3,4,5,6,7]]
def vu:=[aJ 11 4 1,bd 12 1 11,cD 13 .neq 12 0]
def vw:=[aJ 14 4 1,bd 15 1 14,aJ 16 5 1,bd 17 1 16,eo 18 mC 15 17,oo 19 (.bin .add .none (.t 18) (.k (vS [32]))),aJ 20 6 1,bd 21 1 20,di 22 ii 21,bM 23 .add 19 22,aJ 24 1 3,cy 1 24 23]
def mR:List (List Nat):=[[],[0],[],[2],[0,1,2,3],[0,1,2,3,4],[],[6],[0,1,2,3,4,6,7],[0,1,2,3,4,5,6,7,8],[0,1,2,3,4,5,6,7,8,9],[0,1,2,3,4,5,6,7,8,9,10]]
def mZ:=[aJ 25 7 1,cm 26 4 25,oo 27 (.build QF []),oo 28 (.bin .neq (.struct [EK.int,EK.int,EK.int,EK.int]) (.t 26) (.t 27))]
def vx:=[aJ 29 7 1,cm 30 4 29,di 31 mA 30,aJ 32 2 3,cy 1 32 31]
def m0:=[aJ 33 11 1,cm 34 4 33,oo 35 (.build QF []),oo 36 (.bin .neq (.struct [EK.int,EK.int,EK.int,EK.int]) (.t 34) (.t 35))]
def vy:=[aJ 37 11 1,cm 38 4 37,di 39 mA 38,aJ 40 3 3,cy 1 40 39]
def vz:=[cm 41 5 3,cy 5 2 41]
def Ci:C:=(sr vr [1,2] (ss (.regD vt mQ [1,2,3]) (ss (ss (.wk (.reg vu [1,2,3,13])) (sc 13 (.regD vw mR [1,2,3]) .skip)) (ss (ss (.wk (.reg mZ [1,2,3,28])) (sc 28 (.reg vx [1,2,3]) .skip)) (ss (ss (.wk (.reg m0 [1,2,3,36])) (sc 36 (.reg vy [2,3]) .skip)) (ss (.wk (.reg vz [2])) .ret))))))
theorem N1:cz qx Ci [(.cell 2 true 5)] 42:=dh func97 rfl
def CM:=[fc 1 15 0,ok 2 (vS [])]
def CN:=[cm 3 15 1,di 4 qx 3,di 5 mE 4,om 2 5]
def HX:C:=(sr CM [1] (sr CN [2] .ret))
theorem Rk:cz kr HX [(.tmp 2)] 6:=dh func62 rfl
def gP:=[fc 1 5 0,ok 2 (vS [])]
def gQ:=[aJ 4 0 1,bd 5 1 4,om 3 5]
def gR:=[aJ 7 1 1,bd 8 1 7,oo 9 (.bin .eql .none (.t 8) (.k (vS []))),om 10 9,oT 10 11 (.faddr 3 (.t 1)),oT 10 12 (.ld false 1 (.t 11)),oT 10 13 (.bin .eql .none (.t 12) (.k (vS []))),oo 14 (.pick (.t 10) (.t 13) (xB false)),om 6 14]
def rb:=[om 15 3,om 2 15]
def j9:=[aJ 17 1 1,bd 18 1 17,oo 19 (.bin .eql .none (.t 18) (.k (vS []))),om 16 19]
def rc:=[om 20 3,oo 21 (.bin .add .none (.t 20) (.k (vS [44,32]))),aJ 22 3 1,bd 23 1 22,bM 24 .add 21 23,om 2 24]
def rd:=[om 25 3,aJ 26 1 1,bd 27 1 26,oo 28 (.bin .add .none (.k (vS [44,32])) (.t 27)),bM 29 .add 25 28,om 3 29]
def re:=[aJ 30 2 1,bd 31 1 30,oo 32 (.bin .neq .none (.t 31) (.k (vS [])))]
def rf:=[om 33 3,aJ 34 2 1,bd 35 1 34,oo 36 (.bin .add .none (.k (vS [32,99,104,97,114,103,101,100,32,119,105,116,104,32])) (.t 35)),bM 37 .add 33 36,om 3 37]
def rg:=[aJ 39 3 1,bd 40 1 39,oo 41 (.bin .eql .none (.t 40) (.k (vS []))),om 38 41]
def pR:=[om 42 3,om 2 42]
def pS:=[aJ 44 4 1,bd 45 1 44,om 43 45]
def pT:=[om 46 3,oo 47 (.bin .add .none (.t 46) (.k (vS [32,97,98,111,118,101,32]))),aJ 48 3 1,bd 49 1 48,bM 50 .add 47 49,om 2 50]
def pU:=[om 51 3,oo 52 (.bin .add .none (.t 51) (.k (vS [32,98,101,116,119,101,101,110,32]))),aJ 53 3 1,bd 54 1 53,bM 55 .add 52 54,om 2 55]
def jg:C:=(sr gP [1] (sr gQ [1,3] (ss (.block 0 (sr gR [1,3,6] (sc 6 (sr rb [2] .ret) (sr j9 [1,3,16] (sc 16 (sr rc [2] .ret) .skip))))) (sr rd [1,3] (ss (sr re [1,3,32] (sc 32 (.reg rf [1,3]) .skip)) (ss (.block 1 (sr rg [1,3,38] (sc 38 (sr pR [2] .ret) (sr pS [1,3,43] (sc 43 (sr pT [2] .ret) .skip))))) (sr pU [2] .ret)))))))
theorem Ka:cz mE jg [(.tmp 2)] 56:=dh func98 rfl
def vq (f o n r:List UInt8) (c:Bool):List UInt8 :=
 if o=[] then (if r=[] then f else f++[44,32]++r) else
  (f++([44,32]++o))++(if n=[] then [] else [32,99,104,97,114,103,101,100,32,119,105,116,104,32]++n)++(if r=[] then [] else (if c then [32,97,98,111,118,101,32] else [32,98,101,116,119,101,101,110,32])++r)
theorem Qh (f o n r:List UInt8) (c:Bool) (hf:f.length<=1000) (ho:o.length<=1000) (hn:n.length<=1000) (hr:r.length<=1000):cJ mE [.agg [S f,S o,S n,S r,B c]] (S (vq f o n r c)):=by
 refine aa.of Ka (by simp) ?_;rcases o with _ | ⟨a,o⟩
 ·rcases r with _ | ⟨b,r⟩
  ·simp[jg,gP,gQ,gR,rb,vq]
  ·simp[jg,gP,gQ,gR,j9,rc];simp at hr
   repeat (refine⟨by omega,?_⟩)
   simp[vq]
 ·simp at ho;simp[jg,gP,gQ,gR,j9,rd,re]
  repeat (refine⟨by omega,?_⟩)
  rcases n with _ | ⟨d,n⟩<;>rcases r with _ | ⟨b,r⟩<;>cases c
  all_goals
   simp at hr hn;simp[rf,rg,pR,pS,pT,pU,vq]
  all_goals
   repeat (refine⟨by omega,?_⟩)
   try omega
def yQ (a:Arms):List UInt8:=if a.ordinary=0 then [] else LC a.ordinary a.line++32::ox a.tincture
def qv (g:Group):List UInt8:=if g0 g then [] else fC g
theorem KU {a:Arms} (h:arms a=true):cI a=vq (d7 a.field) (yQ a) (qv a.on) (qv a.around) (decide (a.ordinary=7)):=by
 obtain ⟨ho,_,_⟩:=A3 h;have hne:∀ g,fC g≠[]:=fun g=>by simp[fC]
 have hoe:a.ordinary≠0->yQ a≠[]:=fun e=>by simp[yQ,e]
 unfold cI vq qv H9;by_cases h0:a.ordinary=0
 ·have hon:=ho.2.2.1 h0;cases hr:g0 a.around<;>simp[h0,hon,hr,yQ,hne]
 ·have:=hoe h0;cases hn:g0 a.on<;>cases hr:g0 a.around<;>by_cases h7:a.ordinary=7<;>simp[h0,h7,yQ,hn,hr,hne,this]
def ew (a:Arms) (f o n r:List UInt8):AS:=⟨[(1,.ref 1 0 0),(2,.ref 2 0 0),(3,.ref 3 0 0)],[(1,⟨15,[dM a]⟩),(2,⟨5,[.agg [S [],S [],S [],S [],B false]]⟩),(3,⟨5,[.agg [S f,S o,S n,S r,B (a.ordinary==7)]]⟩)],[]⟩
def BE (a:Arms) (f o n r:List UInt8):AS:=⟨[(2,.ref 2 0 0),(3,.ref 3 0 0)],[(2,⟨5,[.agg [S [],S [],S [],S [],B false]]⟩),(3,⟨5,[.agg [S f,S o,S n,S r,B (a.ordinary==7)]]⟩)],[]⟩
set_option maxHeartbeats 2000000 in
theorem SY (a:Arms) (h:arms a=true):cJ qx [dM a] (.agg [S (d7 a.field),S (yQ a),S (qv a.on),S (qv a.around),B (a.ordinary==7)]):=by
 have hf:=JV h;obtain ⟨hord,hon,har⟩:=A3 h;have c1:=A9 a.field;have c2:=LD a.ordinary a.line;have c3:=fG a.tincture;have c4:=ic a.on;have c5:=ic a.around;refine aa.of N1 (by simp) ?_;simp[Ci,vr,vt,mQ];refine bu (aa.ag (UM a.field hf)) ?_;simp;refine⟨aO (by simp[mQ]) (by simp),?_⟩;refine dY (ew a (d7 a.field) [] [] []) (Wk.list rfl (by simp[ew]) (by simp[ew])) ?_;simp[ew,vu];rcases Classical.em (a.ordinary=0) with h0 | h0
 case' inl =>
  simp[h0];refine dY (ew a (d7 a.field) (yQ a) [] []) (Wk.list rfl (by simp[ew,h0,yQ]) (by simp[ew,h0,yQ])) ?_
 case' inr =>
  obtain ⟨hl,ht⟩:=hord.2.2.2 h0;simp[h0,vw,mR];refine bu (aa.ag (Qf a.ordinary a.line (by omega) hl)) ?_;simp
  repeat (refine⟨by omega,?_⟩)
  refine bu (aa.ag (oB a.tincture ht)) ?_;simp
  repeat (refine⟨by omega,?_⟩)
  refine⟨aO (by simp[mR]) (by simp),?_⟩;refine dY (ew a (d7 a.field) (yQ a) [] []) (Wk.list rfl (by simp[ew,h0,yQ]) (by simp[ew,h0,yQ])) ?_
 all_goals
  rcases hg:g0 a.on with _ | _
  case' false =>
   have hgn:=hon hg;have hg':(a.on.count==0&&(a.on.kind==0&&(a.on.attitude==0&&a.on.tincture==0)))=false:=hg;simp[ew,mZ,hg'];simp[vx];refine af (aa.ag (Lq a.on hgn)) ?_;simp;refine dY (ew a (d7 a.field) (yQ a) (qv a.on) []) (Wk.list rfl (by simp[ew,qv,hg]) (by simp[ew,qv,hg])) ?_
  case' true =>
   have hg':(a.on.count==0&&(a.on.kind==0&&(a.on.attitude==0&&a.on.tincture==0)))=true:=hg;simp[ew,mZ,hg'];refine dY (ew a (d7 a.field) (yQ a) (qv a.on) []) (Wk.list rfl (by simp[ew,qv,hg]) (by simp[ew,qv,hg])) ?_
  all_goals
   rcases hr:g0 a.around with _ | _
   case' false =>
    have hrn:=har hr;have hr':(a.around.count==0&&(a.around.kind==0&&(a.around.attitude==0&&a.around.tincture==0)))=false:=hr;simp[ew,m0,hr'];simp[vy];refine af (aa.ag (Lq a.around hrn)) ?_;simp;refine dY (BE a (d7 a.field) (yQ a) (qv a.on) (qv a.around)) (Wk.list rfl (by simp[BE,qv,hr]) (by simp[BE,qv,hr])) ?_
   case' true =>
    have hr':(a.around.count==0&&(a.around.kind==0&&(a.around.attitude==0&&a.around.tincture==0)))=true:=hr;simp[ew,m0,hr'];refine dY (BE a (d7 a.field) (yQ a) (qv a.on) (qv a.around)) (Wk.list rfl (by simp[BE,qv,hr]) (by simp[BE,qv,hr])) ?_
   all_goals
    simp[BE,vz]
theorem acA (a:Arms):(yQ a).length<=50:=by
 have c2:=LD a.ordinary a.line;have c3:=fG a.tincture;unfold yQ;split
 ·simp
 ·simp;omega
theorem Ws (g:Group):(qv g).length<=60:=by
 have:=ic g;unfold qv;split
 ·simp
 ·omega
theorem EJ (a:Arms) (h:arms a=true):cJ kr [dM a] (S (cI a)):=by
 have e7:(a.ordinary==7)=decide (a.ordinary=7):=by rw[Bool.eq_iff_iff];simp
 have c1:=A9 a.field;have c2:=acA a;have c3:=Ws a.on;have c4:=Ws a.around;have hp:=Qh (d7 a.field) (yQ a) (qv a.on) (qv a.around) (a.ordinary==7) (by omega) (by omega) (by omega) (by omega);rw[KU h,<- e7];refine aa.of Rk (by simp) ?_;simp[HX,CM,CN];refine bN (aa.ag (SY a h)) ?_;simp;refine af (aa.ag hp) ?_;simp
def PF:=[ok 2 (vS [])]
def PG:=[om 3 0,cD 4 .lss 3 0]
def Xi:=[om 5 0,oo 6 (.un .neg (.t 5)),di 7 iV 6,oo 8 (.bin .add .none (.k (vS [45])) (.t 7)),om 2 8]
def PH:=[om 9 0,cD 10 .lss 9 10]
def PI:=[om 11 0,om 12 0,fv 13 12 1,oo 14 (.slc none (.k (vS [48,49,50,51,52,53,54,55,56,57])) (some (.t 11)) (some (.t 13))),om 2 14]
def PJ:=[om 15 0,cD 16 .quo 15 10,di 17 iV 16,om 18 0,cD 19 .rem 18 10,om 20 0,cD 21 .rem 20 10,fv 22 21 1,oo 23 (.slc none (.k (vS [48,49,50,51,52,53,54,55,56,57])) (some (.t 19)) (some (.t 22))),bM 24 .add 17 23,om 2 24]
def Ph:List (List Nat):=[[],[0],[0,1],[],[3],[],[5],[5,6],[3,4,5,6,7],[0,1,2,3,4,5,6,7,8],[0,1,2,3,4,5,6,7,8,9]]
def Tn:C:=(sr PF [0] (ss (sr PG [0,4] (sc 4 (sr Xi [2] .ret) .skip)) (ss (sr PH [0,10] (sc 10 (sr PI [2] .ret) .skip)) (ss (.regD PJ Ph [2]) .ret))))
theorem Ye:cz iV Tn [(.tmp 2)] 25:=dh func28 rfl
theorem Vi (n:Nat):n<=1000000000->cJ iV [I n] (S (cW n)):=by
 induction n using Nat.strongRecOn with
 | _ n ih =>
   intro hn;refine aa.of Ye (by simp) ?_;simp[Tn,PF,PG,show ¬(n:Int) < 0 by omega];simp[PH];refine⟨fun h=>?_,fun h=>?_⟩
   ·simp[PI];rw[am (by omega)];have hd:=Ts (i:=n) (by omega);refine⟨by omega,?_⟩;rw[show ((n:Int)+1).toNat - n=1 by omega,hd,ib (by omega)]
   ·have e1:IntKind.i64.wrap ((n:Int) / 10)=((n / 10:Nat):Int):=by rw[am (by omega)];omega
    have e2:(n:Int).tmod 10=((n % 10:Nat):Int):=by rw[Int.tmod_eq_emod_of_nonneg (by omega)];omega
    have hl:=N0 (n / 10);have hd:=Ts (i:=n % 10) (by omega);simp[PJ,Ph];rw[e1];refine mr (ih (n / 10) (by omega) (by omega)) ?_ ?_ ?_
    ·simp
    ·simp
    simp;obtain ⟨m,hm,hmn⟩:∃ m,m < 10/\n % 10=m:=⟨n % 10,by omega,rfl⟩;rw[hmn] at e2 hd;rw[e2,am (by omega),show ((m:Int)+1).toNat - (m:Int).toNat=1 by omega,show (m:Int).toNat=m by omega,hd];refine⟨by omega,by omega,aO (by first | kernel_rfl | simp) (by first | kernel_rfl | simp),?_⟩;rw[sT (n:=n) (by omega),hmn]
theorem NL (n:Nat) (h:n<=1000000000):cJ gW [I n] (S (cW n)):=by
 have e:Lib.itoa (n:Int)=cW n:=by
  unfold Lib.itoa;rw[if_neg (by omega)];rfl
 refine aa.grown (vs:=[.int .i64 n]) (y:=.string (bs (cW n))) (by kernel_rfl) (fun _ _=>iX ?_) (fun w D hg=>?_)
 ·have:=N0 n;show decide _=true;simp;omega
 ·have:=Tryz.strconv_Itoa n (by omega) (by omega) w hg.1;rw[e] at this;exact this
theorem RE (x:Int) (h:0<=x/\x<=1000000000):cJ gW [I x] (S (cW x.toNat)) :=
 aa.arg (NL x.toNat (by omega)) (by rw[Int.toNat_of_nonneg h.1])
theorem TD (x:Int) (h:0<=x/\x<=1000000000):cJ iV [I x] (S (cW x.toNat)) :=
 aa.arg (Vi x.toNat (by omega)) (by rw[Int.toNat_of_nonneg h.1])
def Rh (w:Int) (g:Grant) (i:Nat):List (List UInt8):=Cu g::((fill (w - 2) (parts 32 (cI g.arms))).take i).map fun x=>[32,32]++x
theorem ZZ {w:Int} {g:Grant} {i:Nat} (h:i < (fill (w - 2) (parts 32 (cI g.arms))).length):Rh w g (i+1)=Rh w g i++[[32,32]++(fill (w - 2) (parts 32 (cI g.arms)))[i]]:=by
 unfold Rh;rw[br h,List.map_append];rfl
theorem abP {w:Int} {g:Grant} {i:Nat} (h:i<=(fill (w - 2) (parts 32 (cI g.arms))).length):(Rh w g i).length=i+1:=by
 simp only[Rh,List.length_cons,List.length_map,List.length_take];omega
theorem abO (w:Int) (g:Grant):Rh w g (fill (w - 2) (parts 32 (cI g.arms))).length=eV w g:=by rw[Rh,List.take_length];rfl
set_option maxHeartbeats 1000000 in
theorem Zp (g:Grant) (w:Int) (hg:cb g=true) (hw:20<=w/\w<=60):cJ HI [aY g,I w] (.own 1 ((eV w g).map S)):=by
 obtain ⟨h1,h2,h3,h4⟩:=fI hg;have hnl:=tv h2;have d1:=eC 3 g.number.toNat (by omega);have d2:=eC 3 g.year.toNat (by omega);have ht:=Hy g.arms;refine aa.of Yc (by simp) ?_;simp[Tl,Po,Pp,Fb];refine bu (aa.ag (RE g.number (by omega))) ?_;simp
 repeat (refine⟨by omega,?_⟩)
 refine bu (aa.ag (RE g.year (by omega))) ?_;simp
 repeat (refine⟨by omega,?_⟩)
 refine⟨aO (by simp[Fb]) (by simp),?_⟩;simp[Pq];refine af (aa.ag (EJ g.arms h4)) ?_;simp;rw[am (n:=w - 2) (by omega)];refine bN (aa.ag (Z9 (cI g.arms) (w - 2) (by omega) (by omega))) ?_;have hfs:=Rj (a:=g.arms) (w:=w - 2) (by omega);have hfl:=VW (w - 2) (parts 32 (cI g.arms));have hpl:=Eh g.arms;have hes:=@ZZ w g;have hel:=@abP w g;have hea:=abO w g;have he0:Rh w g 0=[Cu g]:=rfl;rw[<- hea];generalize fill (w - 2) (parts 32 (cI g.arms))=L at hfs hfl hes hel hea ⊢;simp;refine ci (fun i:Nat=>⟨[(5,.sl 20 0 (i+1)),(26,.sl 26 0 L.length),(27,I L.length),(28,I i)],[(26,⟨1,L.map S⟩),(20,⟨1,(Rh w g i).map S⟩)],[]⟩) (fun i=>L.length - i) (fun i=>i<=L.length) 0 (Wk.list rfl (by simp) (by simp[he0,Cu])) (by simp) ?_;intro i hi K hN hR hE;have hli:=hel hi;simp[Pc,Pr];refine⟨fun hlt=>?_,fun hge=>?_⟩
 ·have hx:=hfs L[i] (List.getElem_mem _);have hsx:=hes hlt;have ht1:List.take (i+1) (List.map S (Rh w g i))=List.map S (Rh w g i):=List.take_of_length_le (by rw[List.length_map,hli];omega);simp[Ps,hlt];simp[Pt,Pu,hli,ht1];refine⟨by omega,by unfold ba;omega,?_⟩;rw[am (by omega)];refine hN (i+1) _ (by omega) (by omega) (Wk.trans (Wk.ren 36 20 (by decide) (by simp)) (Wk.list rfl ?_ ?_))
  ·simp[AS.ren,B8,B7]
  ·simp[AS.ren,B8,B7,su,hsx]
 ·obtain rfl:i=L.length:=by omega
  refine hE _ _ ?_;simp only[aL];simp[Pv,hli]
def oy (W:Int) (h:List UInt8) (L out:List (List UInt8)) (cur:List UInt8) (i:Nat):Prop :=
 (i=0/\cur=[]/\out=[h])\/(0 < i/\cur≠[]/\∃ done,out=h::done.map (fun x=>[32,32]++x)/\fill W L=done++gn W cur (L.drop i))
section
variable {W : Int} {h cur : List UInt8} {L out : List (List UInt8)} {i : Nat}
theorem oy.first (s:oy W h L out [] i) (hi:i < L.length) (hx:L[i]≠[]):oy W h L out L[i] (i+1):=by
 rcases s with ⟨rfl,_,rfl⟩ | ⟨_,h,_⟩
 ·refine .inr ⟨by omega,hx,[],rfl,?_⟩;cases L with
  | nil=>simp at hi
  | cons x L=>rfl
 ·exact absurd rfl h
theorem oy.fit (s:oy W h L out cur i) (hc:cur≠[]) (hi:i < L.length) (hf:(cur.length:Int)+1+L[i].length<=W):oy W h L out (cur++32::L[i]) (i+1):=by
 rcases s with ⟨_,h,_⟩ | ⟨h0,_,done,e,hd⟩
 ·exact absurd h hc
 ·exact .inr ⟨by omega,by simp,done,e,by rw[hd,List.drop_eq_getElem_cons hi,gn,if_pos hf]⟩
theorem oy.next (s:oy W h L out cur i) (hc:cur≠[]) (hi:i < L.length) (hx:L[i]≠[]) (hf:¬(cur.length:Int)+1+L[i].length<=W):oy W h L (out++[[32,32]++cur]) L[i] (i+1):=by
 rcases s with ⟨_,h,_⟩ | ⟨h0,_,done,e,hd⟩
 ·exact absurd h hc
 ·exact .inr ⟨by omega,hx,done++[cur],by rw[e];simp,by rw[hd,List.drop_eq_getElem_cons hi,gn,if_neg hf];simp⟩
theorem oy.done (s:oy W h L out cur L.length) (hL:0 < L.length):out++[[32,32]++cur]=h::(fill W L).map fun x=>[32,32]++x:=by
 rcases s with ⟨h0,_⟩ | ⟨h0,_,done,e,hd⟩
 ·omega
 ·rw[hd,e,List.drop_length,gn];simp
end
set_option maxHeartbeats 1000000 in
theorem KH (g:Grant) (w:Int) (hg:cb g=true) (hw:20<=w/\w<=60):cJ mK [aY g,I w] (.own 1 ((eV w g).map S)):=by
 obtain ⟨h1,h2,h3,h4⟩:=fI hg;have hnl:=tv h2;have d1:=eC 3 g.number.toNat (by omega);have d2:=eC 3 g.year.toNat (by omega);have ht:=Hy g.arms;refine aa.of SQ (by simp) ?_;simp[K9,Gb,Gc,tz];refine bu (aa.ag (TD g.number (by omega))) ?_;simp
 repeat (refine⟨by omega,?_⟩)
 refine bu (aa.ag (TD g.year (by omega))) ?_;simp
 repeat (refine⟨by omega,?_⟩)
 refine⟨aO (by simp[tz]) (by simp),?_⟩;simp[Gd];refine af (aa.ag (Sm g.arms h4)) ?_;simp;refine bN (aa.ag (aaM (cI g.arms) 32 (by omega))) ?_;have hne:=adV (aar h4);have hpl:=Eh g.arms;have hsh:∀ x ∈ parts 32 (cI g.arms),x.length<=1000:=fun x hx=>by have:=BD hx;omega
 have hp0:0 < (parts 32 (cI g.arms)).length:=List.length_pos_iff.2 (Fg _);have hE:eV w g=Cu g::(fill (w - 2) (parts 32 (cI g.arms))).map (fun x=>[32,32]++x):=rfl;have hH:Cu g=cW g.number.toNat++[46,32]++g.name++[44,32]++cW g.year.toNat:=rfl;rw[hE];generalize parts 32 (cI g.arms)=L at hne hpl hsh hp0 ⊢;simp[Ge,Gf];refine ci (fun p:List (List UInt8)×List UInt8×Nat=>⟨[(1,I w),(5,.sl 21 0 p.1.length),(6,.sl 25 0 L.length),(7,S p.2.1),(8,I p.2.2)],[(21,⟨1,p.1.map S⟩),(25,⟨1,L.map S⟩)],[]⟩) (fun p=>L.length - p.2.2) (fun p=>p.2.2<=L.length/\p.1.length<=p.2.2+1/\p.2.1.length<=1000/\oy (w - 2) (Cu g) L p.1 p.2.1 p.2.2) ([Cu g],[],0) (Wk.list rfl (by simp) (by simp[hH])) (by simp[oy]) ?_;rintro ⟨out,cur,i⟩ ⟨hi,hol,hcl,hsp⟩ K hN hR hE;dsimp only at hi hol hcl hsp ⊢;simp[Cz,Gg];refine⟨fun hlt=>?_,fun hge=>?_⟩
 ·have hx:=hsh L[i] (List.getElem_mem _);have hxn:=hne L[i] (List.getElem_mem _);by_cases hc:cur=[]
  ·subst hc;simp[ud,Gh,hlt];simp[lm];rw[am (by omega)];exact hN (out,L[i],i+1) _ (by dsimp only;omega) ⟨by dsimp only;omega,by dsimp only;omega,hx,hsp.first hlt hxn⟩ Wk.li
  ·simp[ud,hc];simp[Gi,hlt];rw[am (n:=(cur.length:Int)+1) (by omega),am (n:=(cur.length:Int)+1+_) (by omega),am (n:=w - 2) (by omega)];refine⟨fun hf=>?_,fun hf=>?_⟩
   ·simp[Gj,hlt];refine⟨by omega,by omega,?_⟩;simp[lm];rw[am (by omega)];exact hN (out,cur++32::L[i],i+1) _ (by dsimp only;omega) ⟨by dsimp only;omega,by dsimp only;omega,by simp;omega,hsp.fit hc hlt hf⟩ Wk.li
   ·simp[DD];refine⟨by omega,by unfold ba;omega,?_⟩;simp[DE,hlt];simp[lm];rw[am (by omega)]
    have hT:∀ s,Wk s ⟨[(1,I w),(5,.sl 36 0 (out.length+1)),(6,.sl 25 0 L.length),(7,S L[i]),(8,I ((i:Int)+1))],[(36,⟨1,(out++[[32,32]++cur]).map S⟩),(25,⟨1,L.map S⟩)],[]⟩->Wk s ⟨[(1,I w),(5,.sl 21 0 (out++[[32,32]++cur]).length),(6,.sl 25 0 L.length),(7,S L[i]),(8,I ((i+1:Nat):Int))],[(21,⟨1,(out++[[32,32]++cur]).map S⟩),(25,⟨1,L.map S⟩)],[]⟩ :=
     fun s h=>Wk.trans h <| Wk.trans (Wk.ren 36 21 (by decide) (by simp)) (Wk.list rfl (by simp[AS.ren,B8,B7]) (by simp[AS.ren,B8,B7,su]))
    exact hN (out++[[32,32]++cur],L[i],i+1) _ (by dsimp only;omega) ⟨by dsimp only;omega,by simp;omega,hx,hsp.next hc hlt hxn (by omega)⟩ (hT _ Wk.li)
 ·obtain rfl:i=L.length:=by omega
  have hd:=congrArg (List.map S) (hsp.done hp0);have hlen:=congrArg List.length (hsp.done hp0);simp at hlen;refine hE _ _ ?_;simp only[aL];simp at hd;simp[DF,hd];exact⟨by omega,by unfold ba;omega⟩
def vF:=[fc 1 3 0,ok 2 (vB false)]
def vG:=[aJ 3 0 1,bd 4 1 3,oo 5 (.call cP [.t 4,xI 1,xI 3]),om 6 5,oT 6 7 (.faddr 1 (.t 1)),oT 6 8 (.ld false 1 (.t 7)),oT 6 9 (.call cP [.t 8,xI 20,xI 60]),oo 10 (.pick (.t 6) (.t 9) (xB false)),om 11 10,oT 11 12 (.faddr 2 (.t 1)),oT 11 13 (.ld false 1 (.t 12)),oT 11 14 (.call cP [.t 13,xI 4,xI 20]),oo 15 (.pick (.t 11) (.t 14) (xB false)),om 2 15]
def Ck:C:=(sr vF [1] (sr vG [2] .ret))
theorem N3:cz qz Ck [(.tmp 2)] 16:=dh func57 rfl
def Pw:=[fc 2 1 0,fc 3 3 1,ok 4 vN,ok 5 vN,ok 6 (vB false)]
def Px:=[cm 14 1 2,di 15 gO 14,oo 16 (.un .not (.t 15)),om 17 16,oF 17 18 (.ld true 3 (.t 3)),oF 17 19 (.call qz [.t 18]),oF 17 20 (.un .not (.t 19)),oo 21 (.pick (.t 17) (xB true) (.t 20))]
def Fx:=[ok 4 vN,ok 5 vN,ok 6 (vB false)]
def Py:=[oo 22 (.bslice 1 vN 0 []),oo 23 (.bslice 1 (vI 0) 0 []),om 7 22,om 8 23]
def Pz:=[cm 24 1 2,aJ 25 0 3,bd 26 1 25,eo 27 fL 24 26,oo 28 (.len false (.t 27)),ok 29 (vI 0)]
def PA:=[bM 30 .lss 29 28]
def PB:=[ep 31 18 27 29,cm 32 18 31,qo 10 18 Cd,cy 18 10 32]
def PC:=[cm 33 18 10,aJ 34 1 3,bd 35 1 34,eo 36 HI 33 35,om 11 36]
def PD:=[om 37 11,oo 38 (.len false (.t 37)),aJ 39 2 3,bd 40 1 39,bM 41 .gtr 38 40]
def PE:=[ok 4 vN,ok 5 vN,ok 6 (vB false)]
def Me:=[om 42 7,oo 43 (.len false (.t 42)),om 12 43]
def BH:=[om 44 12,cD 45 .eql 44 0,om 46 45,oF 46 47 (.mv (.t 7)),oF 46 48 (.mv (.t 12)),oF 46 49 (.bin .sub .none (.t 48) (xI 1)),oF 46 50 (.iaddr 1 (.t 47) (.t 49)),oF 46 51 (.ld false 1 (.t 50)),oF 46 52 (.len false (.t 51)),oF 46 53 (.mv (.t 11)),oF 46 54 (.len false (.t 53)),oF 46 55 (.bin .add .none (.t 52) (.t 54)),oF 46 56 (.faddr 2 (.t 3)),oF 46 57 (.ld false 1 (.t 56)),oF 46 58 (.bin .gtr .none (.t 55) (.t 57)),oo 59 (.pick (.t 46) (xB true) (.t 58))]
def mU:List (List Nat):=[[],[0],[0,1],[0,1,2],[0,1,2],[0,1,2,4],[0,1,2,3,4,5],[0,1,2,3,4,5,6],[0,1,2,3,4,5,6,7],[0,1,2],[0,1,2,9],[0,1,2,3,4,5,6,7,8,9,10],[0,1,2],[0,1,2,12],[0,1,2,3,4,5,6,7,8,9,10,11,12,13],[0,1,2,3,4,5,6,7,8,9,10,11,12,13,14]]
def BI:=[om 60 7,oo 61 (.bslice 1 vN 1 [(0,(.k vN))]),oo 62 (.app 1 24 (.t 60) (.t 61)),om 7 62]
def Mf:=[om 63 7,oo 64 (.len false (.t 63)),cD 65 .sub 64 1,om 13 65]
def Mg:=[om 66 7,om 67 13,om 68 7,om 69 13,ep 70 1 68 69,bd 71 1 70,om 72 11,oo 73 (.app 1 16 (.t 71) (.t 72)),ep 74 1 66 67,cy 1 74 73]
def Mh:=[om 75 8,om 76 13,fv 77 76 1,oo 78 (.bslice 1 (vI 0) 1 [(0,(.t 77))]),oo 79 (.app 1 8 (.t 75) (.t 78)),om 8 79]
def Mi:=[fv 80 29 1,om 29 80]
def Lu:C:=(sr PA [3,7,8,27,28,29,30] (ss (sc 30 .skip (.exit 0)) (ss (.block 1 (sr PB [3,7,8,10,27,28,29] (sr PC [3,7,8,11,27,28,29] (ss (sr PD [3,7,8,11,27,28,29,41] (sc 41 (sr PE [4,5,6] .ret) .skip)) (ss (sr Me [3,7,8,11,12,27,28,29] (ss (.wk (.regD BH mU [3,7,8,11,27,28,29,59])) (sc 59 (.reg BI [3,7,8,11,27,28,29]) .skip))) (ss (.wk (.reg Mf [3,7,8,11,13,27,28,29])) (sr Mg [3,7,8,13,27,28,29] (.reg Mh [3,7,8,27,28,29])))))))) (.reg Mi [3,7,8,27,28,29]))))
def Mj:=[om 81 7,om 82 8,om 4 81,om 5 82,ok 6 (vB true)]
def Tm:C:=(sr Pw [2,3] (ss (sr Px [2,3,21] (sc 21 (sr Fx [4,5,6] .ret) .skip)) (sr Py [2,3,7,8] (ss (sr Pz [3,7,8,27,28,29] (.block 0 (.loop Lu))) (sr Mj [4,5,6] .ret)))))
theorem Yd:cz yN Tm [(.tmp 4),(.tmp 5),(.tmp 6)] 83:=dh func30 rfl
def kx:=[fc 2 18 0,fc 3 18 1,ok 4 (vI 0)]
def ky:=[aJ 5 1 2,bd 6 1 5,aJ 7 1 3,bd 8 1 7,eo 9 mN 6 8,om 4 9]
def mn:C:=(sr kx [2,3] (sr ky [4] .ret))
theorem yn:cz eW mn [(.tmp 4)] 10:=dh func59 rfl
def kz:=[fc 2 18 0,fc 3 18 1,ok 4 (vI 0)]
def kA:=[aJ 5 3 2,cm 6 15 5,di 7 kr 6,aJ 8 3 3,cm 9 15 8,di 10 kr 9,eo 11 mN 7 10,om 4 11]
def gB:List (List Nat):=[[],[0],[0,1],[],[3],[0,1,2,3,4],[0,1,2,3,4,5],[0,1,2,3,4,5,6]]
def mo:C:=(sr kz [2,3] (ss (.regD kA gB [4]) .ret))
theorem yo:cz eX mo [(.tmp 4)] 12:=dh func61 rfl
def nb:=[fc 2 1 0,ok 4 vN]
def nc:=[oo 6 (.bslice 18 Cd 0 []),aJ 7 0 2,bd 8 1 7,oo 9 (.app 18 152 (.t 6) (.t 8)),om 5 9]
def nd:=[om 10 1]
def eY:=[cD 12 .eql 10 2,om 11 12]
def nf:=[om 13 5,oo 14 (.call bK [.t 13,(.k (.clo eW []))])]
def ix:=[cD 16 .eql 10 3,om 15 16]
def ng:=[om 17 5,oo 18 (.call bK [.t 17,(.k (.clo eX []))])]
def eZ:=[om 19 5,om 4 19]
def pI:C:=(sr nb [1,2] (sr nc [1,5] (ss (sr nd [5,10] (.block 0 (sr eY [5,10,11] (sc 11 (.reg nf [5]) (sr ix [5,15] (sc 15 (.reg ng [5]) .skip)))))) (sr eZ [4] .ret))))
theorem D5:cz fL pI [(.tmp 4)] 20:=dh func31 rfl
def PL:=[ok 2 (vB false)]
def PM:=[om 3 0,oo 4 (.call eJ [.t 3,xI 1,xI 3]),om 2 4]
def To:C:=(sr PL [0] (sr PM [2] .ret))
theorem Yf:cz Oq To [(.tmp 2)] 5:=dh func92 rfl
def Dy:=[fc 3 18 0,fc 4 18 1,ok 6 (vB false)]
def Dz:=[om 7 2]
def ll:=[cD 9 .eql 7 2,om 8 9]
def DA:=[aJ 10 1 3,bd 11 1 10,aJ 12 1 4,bd 13 1 12,bM 14 .lss 11 13,om 15 14,oF 15 16 (.faddr 1 (.t 3)),oF 15 17 (.ld false 1 (.t 16)),oF 15 18 (.faddr 1 (.t 4)),oF 15 19 (.ld false 1 (.t 18)),oF 15 20 (.bin .eql .none (.t 17) (.t 19)),oF 15 21 (.mv (.t 20)),oT 21 22 (.faddr 0 (.t 3)),oT 21 23 (.ld false 1 (.t 22)),oT 21 24 (.faddr 0 (.t 4)),oT 21 25 (.ld false 1 (.t 24)),oT 21 26 (.bin .lss .none (.t 23) (.t 25)),oF 15 27 (.pick (.t 21) (.t 26) (xB false)),oo 28 (.pick (.t 15) (xB true) (.t 27)),om 6 28]
def qO:=[cD 30 .eql 7 3,om 29 30]
def DB:=[aJ 31 3 3,cm 32 15 31,di 33 tn 32,aJ 34 3 4,cm 35 15 34,di 36 tn 35,bM 37 .lss 33 36,om 6 37]
def qE:List (List Nat):=[[],[0],[0,1],[],[3],[0,1,2,3,4],[0,1,2,3,4,5],[0,1,2,3,4,5,6]]
def DC:=[aJ 38 0 3,bd 39 1 38,aJ 40 0 4,bd 41 1 40,bM 42 .lss 39 41,om 6 42]
def H6:C:=(sr Dy [2,3,4] (ss (sr Dz [3,4,7] (.block 0 (sr ll [3,4,7,8] (sc 8 (sr DA [6] .ret) (sr qO [3,4,29] (sc 29 (ss (.regD DB qE [6]) .ret) .skip)))))) (sr DC [6] .ret)))
theorem Ru:cz xt H6 [(.tmp 6)] 43:=dh func137 rfl
def Gk:=[fc 2 1 0,ok 4 vN]
def Gl:=[oo 8 (.bslice 1 (vI 0) 0 []),om 5 8]
def Gm:=[ok 6 (vI 0)]
def Gn:=[om 9 6,aJ 10 0 2,bd 11 1 10,oo 12 (.len false (.t 11)),bM 13 .lss 9 12]
def Gp:=[om 16 5,oo 17 (.len false (.t 16)),om 7 17]
def Gq:=[om 18 7,cD 19 .gtr 18 0,om 20 19,oT 20 21 (.faddr 0 (.t 2)),oT 20 22 (.ld false 1 (.t 21)),oT 20 23 (.mv (.t 6)),oT 20 24 (.iaddr 18 (.t 22) (.t 23)),oT 20 25 (.ld true 18 (.t 24)),oT 20 26 (.faddr 0 (.t 2)),oT 20 27 (.ld false 1 (.t 26)),oT 20 28 (.mv (.t 5)),oT 20 29 (.mv (.t 7)),oT 20 30 (.bin .sub .none (.t 29) (xI 1)),oT 20 31 (.iaddr 1 (.t 28) (.t 30)),oT 20 32 (.ld false 1 (.t 31)),oT 20 33 (.iaddr 18 (.t 27) (.t 32)),oT 20 34 (.ld true 18 (.t 33)),oT 20 35 (.mv (.t 1)),oT 20 36 (.call xt [.t 25,.t 34,.t 35]),oo 37 (.pick (.t 20) (.t 36) (xB false))]
def jI:List (List Nat):=[[],[0],[0,1],[0,1,2],[0,1,2,3],[0,1,2],[0,1,2,3,4,5],[0,1,2,3,4,5,6],[0,1,2],[0,1,2,8],[0,1,2],[0,1,2],[0,1,2,11],[0,1,2,10,11,12],[0,1,2,10,11,12,13],[0,1,2,8,9,10,11,12,13,14],[0,1,2,8,9,10,11,12,13,14,15],[0,1,2],[0,1,2,3,4,5,6,7,8,9,10,11,12,13,14,15,16,17],[0,1,2,3,4,5,6,7,8,9,10,11,12,13,14,15,16,17,18]]
def Gr:=[om 38 7,cD 39 .sub 38 1,om 7 39]
def ER:C:=(ss (ss (.regD Gq jI [1,2,5,6,7,37]) (sc 37 .skip (.exit 2))) (.block 3 (.reg Gr [1,2,5,6,7])))
def Gs:=[oo 40 (.bslice 1 (vI 0) 0 []),om 41 5,om 42 7,oo 43 (.slc (some 1) (.t 41) none (some (.t 42))),oo 44 (.app 1 8 (.t 40) (.t 43)),om 45 6,oo 46 (.bslice 1 (vI 0) 1 [(0,(.t 45))]),oo 47 (.app 1 8 (.t 44) (.t 46)),om 48 5,om 49 7,oo 50 (.slc (some 1) (.t 48) (some (.t 49)) none),oo 51 (.app 1 8 (.t 47) (.t 50)),om 5 51]
def tA:List (List Nat):=[[],[],[],[1,2],[0,1,2,3],[],[5],[0,1,2,3,4,5,6],[],[],[8,9],[0,1,2,3,4,5,6,7,8,9,10],[0,1,2,3,4,5,6,7,8,9,10,11]]
def Gt:=[om 14 6,fv 15 14 1,om 6 15]
def CA:C:=(ss (sr Gn [1,2,5,6,13] (sc 13 .skip (.exit 0))) (ss (.block 1 (sr Gp [1,2,5,6,7] (ss (.block 2 (.loop ER)) (.regD Gs tA [1,2,5,6])))) (.reg Gt [1,2,5,6])))
def DG:=[om 52 5,om 4 52]
def La:C:=(sr Gk [1,2] (sr Gl [1,2,5] (ss (sr Gm [1,2,5,6] (.block 0 (.loop CA))) (sr DG [4] .ret))))
def US:Nat->List Nat
 | 0=>[1,2]
 | 1=>[1,2,5]
 | 2=>[1,2,5,6]
 | 3=>[1,2,5,6,13]
 | 5=>[1,2,5,6,7]
 | 6=>[1,2,5,6,7,37]
 | 7=>[1,2,5,6,7]
 | 8=>[1,2,5,6]
 | 4=>[1,2,5,6]
 | 9=>[4]
 | _=>[]
theorem SR:cz Bo La [(.tmp 4)] 53 :=
 ⟨Tryz.f93,_,US,func93,rfl,by kernel_rfl,by kernel_rfl,by kernel_rfl,rfl⟩
end Go.Proofs.YtjkogbgbienloaaGreatDoor
