/- Parts of the proof, part 1. -/
import Derived.Test.YtjkogbgbienloaaGreatDoorProg
import Derived.KernelRfl
import Derived.Lib.ItoaNum
import Derived.Lib.LaidTab
import Derived.Sort.Grow
import Derived.Deep.Draws
import Derived.Below
import Derived.Shelf.Strings.Builder1
import Derived.Shelf.Strings.Builder2
import Derived.Shelf.Strings.OnBuilder
import Derived.Shelf.Small.Bits
import Derived.Shelf.Small.Strs
import Derived.Shelf.Strings.BuilderF
import Derived.Shelf.Utf8.RuneCount
import Derived.Shelf.Strconv.Itoa0
import Derived.Shelf.Strconv.Itoa1
import Derived.Shelf.LaysM
import Derived.Shelf.Strconv.Itoa2
import Derived.Shelf.Strconv.Itoa3
import Derived.Shelf.Strings.Search1
import Derived.Shelf.Strings.Search2
import Derived.Shelf.Strings.Search3
import Derived.Shelf.Strings.Count
import Derived.Shelf.Strings.Shaped
import Derived.Shelf.Sort.Plain
import Derived.Shelf.Strings.Prefix
import Derived.Shelf.Strings.Split
import Derived.Shelf.Strings.SplitShaped
import Derived.Shelf.Unicode.Decode
import Derived.Shelf.Strings.RuneCount
import Derived.Shelf.Strings.Explode
import Derived.Shelf.Bits.Mul64
import Derived.Shelf.Strings.Repeat
import Derived.Shelf.Unicode.DecodeSlow
import Derived.Shelf.Unicode.DecodeAny
import Derived.Shelf.Slices.Turned
import Derived.Shelf.Slices.Equal
import Derived.Shelf.Slices.In.SortNone
import Derived.Test.YtjkogbgbienloaaGreatDoorQ6
set_option linter.unusedVariables false
set_option linter.unusedSimpArgs false
namespace Go.Proofs.YtjkogbgbienloaaGreatDoor
def CI:Nat:=4
def RR:Nat:=15
def oM:Nat:=16
def Bg:Nat:=17
def Bk:Nat:=18
def Bt:Nat:=19
def th:Nat:=20
def lq:Nat:=21
def ti:Nat:=22
def tl:Nat:=23
def mG:Nat:=39
def yO:Nat:=40
def xr:Nat:=41
def cU:Nat:=42
def jj:Nat:=43
def d0:Nat:=44
def aK:Nat:=45
def a6:Nat:=46
def mJ:Nat:=71
def ls:Nat:=75
def mI:Nat:=76
def jB:Nat:=77
def dl:Nat:=78
def lr:Nat:=79
def ij:Nat:=80
def mH:Nat:=81
def oN:Nat:=118
def fF:Nat:=119
def dI:Nat:=120
def eE:Nat:=121
open Abs
end Go.Proofs.YtjkogbgbienloaaGreatDoor
namespace Go.Proofs.YtjkogbgbienloaaGreatDoor
open Go.Abs
set_option maxRecDepth 100000
def wa:=[ok 2 (vB false)]
def wb:=[om 24 0,di 25 RR 24]
def wc:=[ok 2 (vB true)]
def wd:=[om 27 0,di 28 oM 27,om 26 28,sE 29 26 0,sE 30 26 1,qo 3 1 (.agg [vN]),qo 4 3 (.agg [vI 0,vI 0,vI 0]),cy 1 3 29,cy 3 4 30]
def we:=[cm 32 1 3,cm 33 3 4,eo 34 Bg 32 33,om 31 34,sE 35 31 0,sE 36 31 1,om 5 35,om 6 36]
def wg:=[cm 38 1 3,cm 39 3 4,eo 40 Bk 38 39,om 37 40,sE 41 37 0,sE 42 37 1,om 7 41,om 8 42]
def wh:=[om 43 5,om 44 7,bM 45 .neq 43 44,om 46 45,oF 46 47 (.mv (.t 6)),oF 46 48 (.mv (.t 8)),oF 46 49 (.bin .neq .bool (.t 47) (.t 48)),oo 50 (.pick (.t 46) (xB true) (.t 49))]
def M4:=[ok 2 (vB false)]
def wi:=[cm 52 1 3,cm 53 3 4,eo 54 ku 52 53,om 51 54,sE 55 51 0,sE 56 51 1,om 9 55,om 10 56]
def wj:=[cm 58 1 3,cm 59 3 4,eo 60 pB 58 59,om 57 60,sE 61 57 0,sE 62 57 1,om 11 61,om 12 62]
def uf:=[om 63 10,om 64 12,oo 65 (.bin .neq .bool (.t 63) (.t 64)),om 66 65,oF 66 67 (.mv (.t 9)),oF 66 68 (.mv (.t 11)),oF 66 69 (.call Bt [.t 67,.t 68]),oF 66 70 (.un .not (.t 69)),oo 71 (.pick (.t 66) (xB true) (.t 70))]
def KB:=[ok 2 (vB false)]
def ug:=[om 72 6]
def uh:=[cm 74 1 3,cm 75 3 4,eo 76 th 74 75,om 73 76,sE 77 73 0,sE 78 73 1,sE 79 73 2,om 13 77,om 14 78,om 15 79]
def ui:=[ok 16 (vI 0)]
def uj:=[ok 17 (vI 0)]
def um:=[om 80 17,om 81 5,oo 82 (.len true (.t 81)),bM 83 .lss 80 82]
def uo:=[om 86 5,om 87 17,oo 88 (.idx (.t 86) (.t 87)),oo 89 (.bin .eql .none (.t 88) (.k (.v (.int .u8 (10)))))]
def uq:=[om 90 16,fv 91 90 1,om 16 91]
def lz:=[om 84 17,fv 85 84 1,om 17 85]
def te:C:=(ss (sr um [0,3,4,5,9,13,15,16,17,83] (sc 83 .skip (.exit 0))) (ss (.block 1 (sr uo [0,3,4,5,9,13,15,16,17,89] (sc 89 (.reg uq [0,3,4,5,9,13,15,16,17]) .skip))) (.reg lz [0,3,4,5,9,13,15,16,17])))
def ur:=[om 92 15,oo 93 (.un .not (.t 92)),om 94 93,oF 94 95 (.mv (.t 16)),oF 94 96 (.mv (.t 13)),oF 94 97 (.faddr 2 (.t 4)),oF 94 98 (.ld false 1 (.t 97)),oF 94 99 (.bin .add .none (.t 98) (xI 1)),oF 94 100 (.bin .mul .none (.t 96) (.t 99)),oF 94 101 (.bin .neq .none (.t 95) (.t 100)),oo 102 (.pick (.t 94) (xB true) (.t 101)),om 103 102,oF 103 104 (.mv (.t 9)),oF 103 105 (.len false (.t 104)),oF 103 106 (.faddr 0 (.t 3)),oF 103 107 (.ld false 1 (.t 106)),oF 103 108 (.len false (.t 107)),oF 103 109 (.bin .gtr .none (.t 105) (.t 108)),oo 110 (.pick (.t 103) (xB true) (.t 109))]
def KC:=[ok 2 (vB false)]
def ut:=[om 112 0,di 113 lq 112,om 111 113,sE 114 111 0,sE 115 111 1,qo 18 18 Cd,cy 18 18 114,om 19 115]
def uu:=[cm 117 18 18,om 118 19,eo 119 ti 117 118,om 116 119,sE 120 116 0,sE 121 116 1,om 20 120,om 21 121]
def uv:=[cm 123 18 18,om 124 19,eo 125 tl 123 124,om 122 125,sE 126 122 0,sE 127 122 1,om 22 126,om 23 127]
def uw:=[om 128 21,om 129 23,oo 130 (.bin .eql .bool (.t 128) (.t 129)),om 131 130,oT 131 132 (.mv (.t 20)),oT 131 133 (.mv (.t 22)),oT 131 134 (.call Bt [.t 132,.t 133]),oo 135 (.pick (.t 131) (.t 134) (xB false)),om 2 135]
def Cp:C:=(sr wa [0] (ss (sr wb [0,25] (sc 25 (sr wc [2] .ret) .skip)) (sr wd [0,3,4] (sr we [0,3,4,5,6] (ss (sr wg [0,3,4,5,6,7,8] (sr wh [0,3,4,5,6,50] (sc 50 (sr M4 [2] .ret) .skip))) (sr wi [0,3,4,5,6,9,10] (ss (sr wj [0,3,4,5,6,9,10,11,12] (sr uf [0,3,4,5,6,9,71] (sc 71 (sr KB [2] .ret) .skip))) (ss (sr ug [0,3,4,5,9,72] (sc 72 (sr uh [0,3,4,5,9,13,15] (sr ui [0,3,4,5,9,13,15,16] (ss (sr uj [0,3,4,5,9,13,15,16,17] (.block 0 (.loop te))) (sr ur [0,110] (sc 110 (sr KC [2] .ret) .skip))))) .skip)) (ss (.wk (.reg ut [18,19])) (sr uu [18,19,20,21] (sr uv [20,21,22,23] (sr uw [2] .ret))))))))))))
def Qk:Nat->List Nat
 | 0=>[0]
 | 1=>[0,25]
 | 2=>[2]
 | 3=>[0,3,4]
 | 4=>[0,3,4,5,6]
 | 5=>[0,3,4,5,6,7,8]
 | 6=>[0,3,4,5,6,50]
 | 7=>[2]
 | 8=>[0,3,4,5,6,9,10]
 | 9=>[0,3,4,5,6,9,10,11,12]
 | 10=>[0,3,4,5,6,9,71]
 | 11=>[2]
 | 12=>[0,3,4,5,9,72]
 | 13=>[0,3,4,5,9,13,15]
 | 14=>[0,3,4,5,9,13,15,16]
 | 15=>[0,3,4,5,9,13,15,16,17]
 | 16=>[0,3,4,5,9,13,15,16,17,83]
 | 18=>[0,3,4,5,9,13,15,16,17,89]
 | 19=>[0,3,4,5,9,13,15,16,17]
 | 17=>[0,3,4,5,9,13,15,16,17]
 | 20=>[0,110]
 | 21=>[2]
 | 22=>[999999,18,19]
 | 23=>[18,19,20,21]
 | 24=>[20,21,22,23]
 | 25=>[2]
 | _=>[]
theorem Oa:cz CI Cp [(.tmp 2)] 136 :=
 ⟨Tryz.f4,_,Qk,Tryz.func4,rfl,by kernel_rfl,by kernel_rfl,by kernel_rfl,rfl⟩
end Go.Proofs.YtjkogbgbienloaaGreatDoor
namespace Go.Abs
variable [gI : GI]
theorem adB {P:Program} {f:Nat} {vs:List V} {s:AS} {d i:Nat} {c:CO} {next:It->AS->Prop} {res:V} (M Z:List Nat) {H0 l:List Blk} (h:ac P f H0 (vs.map (my M (jm Z (bB s.hp)) 6)) res (l.map some))
  (h1:M.Nodup) (hz:(Z.all fun z=>!M.contains z)=true) (h2:M.map (bB s.hp)=H0.map some) (h3:∀ blk ∈ H0,aC blk.es=true) (h4:jG (l.map some)=true) (h5:cn res=true) (h6:(M.all fun id=>(cc vs).contains id)=true) (h7:(Z.all fun id=>(cc vs).contains id)=true)
  (h8:next ⟨c,trM d M Z l res,i,iS c s⟩ (((s.sunk Z).wrote M (l.map some)).took d res)):uX P f vs s d c i next:=.inr <| .inl ⟨M,Z,H0,l,res,h,h1,hz,h2,h3,h4,h5,h6,h7,h8⟩
end Go.Abs
namespace Go.Abs
section
variable [GI] {P : Program} {f d i : Nat} {args args' vs : List V} {res : V} {x : Value} {s : AS} {K : AS → Prop} {c : CO} {next : It → AS → Prop} {H0 : List Blk} {H1 : List (Option Blk)}
theorem ms (M Z:List Nat) {b:Blk} (h:ac P f H0 (vs.map (my M (jm Z (bB s.hp)) 6)) res ([b].map some)) (h8:next ⟨c,trM d M Z [b] res,i,iS c s⟩ (((s.sunk Z).wrote M ([b].map some)).took d res))
  (h1:M.Nodup:=by simp) (hz:(Z.all fun z=>!M.contains z)=true:=by simp) (h2:M.map (bB s.hp)=H0.map some:=by simp) (h3:∀ blk ∈ H0,aC blk.es=true:=by simp) (h4:jG ([b].map some)=true:=by simp) (h5:cn res=true:=by first | rfl | simp)
  (h6:(M.all fun id=>(cc vs).contains id)=true:=by simp) (h7:(Z.all fun id=>(cc vs).contains id)=true:=by simp):uX P f vs s d c i next:=adB M Z (l:=[b]) h h1 hz h2 h3 h4 h5 h6 h7 h8
theorem al (h:ac P f H0 (vs.map (my [1000000] (jm [] (bB s.hp)) 6)) res H1) (h8:K (((s.sunk []).wrote [1000000] H1).took d res))
  (h2:[1000000].map (bB s.hp)=H0.map some:=by simp) (h3:∀ blk ∈ H0,aC blk.es=true:=by simp) (h4:jG H1=true:=by simp) (h5:cn res=true:=by first | rfl | simp)
  (h7:(List.range (b9 d 0 res).2.2).all (fun i=>((s.sunk []).wrote [1000000] H1).fresh (d+1000 * i))=true:=by simp):nT P f vs s d K:=VO [1000000] [] h (by simp) (by simp) h2 h3 h4 h5 h7 h8
end
end Go.Abs
namespace Go.Proofs.YtjkogbgbienloaaGreatDoor
open Go.Abs
theorem Uo:∀ (n:Nat) (b:UInt8),b ∈ cW n->48<=b.toNat/\b.toNat<=57:=by
 intro n
 induction n using Nat.strongRecOn with
 | _ n ih =>
   intro b hb;by_cases h:n < 10
   ·rw[ib h,List.mem_singleton] at hb;subst hb;rw[UInt8.toNat_ofNat'];omega
   ·rw[sT h,List.mem_append,List.mem_singleton] at hb;rcases hb with hb | rfl
    ·exact ih (n / 10) (by omega) b hb
    ·rw[UInt8.toNat_ofNat'];omega
end Go.Proofs.YtjkogbgbienloaaGreatDoor
namespace Go.Proofs
open Go.Shelf
open Tryz
def Tryz.lays105_ren:Go.Shelf.Ren:=⟨fun | 105=>40 | 212=>72 | 99=>73 | 165=>67 | 166=>68 | 170=>74 | 169=>69 | 263=>115 | 264=>116 | 206=>117 | 240=>112 | 241=>113 | 276=>157 | 277=>158 | n=>n,fun | 9=>9 | 3=>3 | 4=>4 | 20=>20 | 0=>0 | 46=>111 | 109=>123 | 5=>5 | 72=>115 | 76=>119 | 51=>154 | 146=>159 | 53=>85 | 148=>161 | 70=>113 | 37=>42 | 75=>118 | 127=>158 | 164=>187 | 80=>108 | n=>n,fun | n=>n⟩
theorem Tryz.lays105:Go.Proofs.Lays.n105 Tryz.prog Tryz.lays105_ren:={
 mixed:=by kernel_rfl
 f99:=(dK func73)
 f105:=(dK func40)
 f165:=(dK func67)
 f166:=(dK func68)
 f169:=(dK func69)
 f170:=(dK func74)
 f206:=(dK func117)
 f212:=(dK func72)
 f240:=(dK func112)
 f241:=(dK func113)
 f263:=(dK func115)
 f264:=(dK func116)
 f276:=(dK func157)
 f277:=(dK func158)
 t0:=underlying0
 a0:=isAgg0
 z0:=sizeOf0
 v0:=zeroValue0
 t3:=underlying3
 a3:=isAgg3
 z3:=sizeOf3
 v3:=zeroValue3
 t4:=underlying4
 a4:=isAgg4
 z4:=sizeOf4
 v4:=zeroValue4
 t5:=underlying5
 a5:=isAgg5
 z5:=sizeOf5
 v5:=zeroValue5
 t9:=underlying9
 a9:=isAgg9
 z9:=sizeOf9
 v9:=zeroValue9
 t20:=underlying20
 a20:=isAgg20
 z20:=sizeOf20
 v20:=zeroValue20
 t37:=underlying42
 a37:=isAgg42
 z37:=sizeOf42
 v37:=zeroValue42
 t46:=underlying111
 a46:=isAgg111
 z46:=sizeOf111
 v46:=zeroValue111
 t51:=underlying154
 a51:=isAgg154
 z51:=sizeOf154
 v51:=zeroValue154
 t53:=underlying85
 a53:=isAgg85
 z53:=sizeOf85
 v53:=zeroValue85
 t70:=underlying113
 a70:=isAgg113
 z70:=sizeOf113
 v70:=zeroValue113
 t72:=underlying115
 a72:=isAgg115
 z72:=sizeOf115
 v72:=zeroValue115
 t75:=underlying118
 a75:=isAgg118
 z75:=sizeOf118
 v75:=zeroValue118
 t76:=underlying119
 a76:=isAgg119
 z76:=sizeOf119
 v76:=zeroValue119
 t109:=underlying123
 a109:=isAgg123
 z109:=sizeOf123
 v109:=zeroValue123
 t127:=underlying158
 a127:=isAgg158
 z127:=sizeOf158
 v127:=zeroValue158
 t146:=underlying159
 a146:=isAgg159
 z146:=sizeOf159
 v146:=zeroValue159
 t148:=underlying161
 a148:=isAgg161
 z148:=sizeOf161
 v148:=zeroValue161
 t164:=underlying187
 a164:=isAgg187
 z164:=sizeOf187
 v164:=zeroValue187 }
theorem Tryz.Builder_Extra_105:Builder.Extra Tryz.prog Tryz.lays105_ren:={
 sizeBuilder:=by kernel_rfl
 liesBuilder:=by kernel_rfl
 t5:=underlying5
 a5:=isAgg5
 z5:=sizeOf5
 v5:=zeroValue5
 infoByte:=by kernel_rfl
 cellsByte:=by kernel_rfl
 sizeByte:=by kernel_rfl
 neB5:=by decide }
open Go.RowKit Go.Lib in
theorem Tryz.strings_Repeat (s:ByteArray) (c:Nat) (w:World) (hc:c<=9223372036854775807) (hlen:s.size * c<=140737488355328) :
  Calls Tryz.prog 40 #[.string s,.int .i64 c] w fun e w'=>e=.returned (.string ⟨(Lib.repeatL s.data.toList c).toArray⟩)/\Below w.heap.size w w':=Any.strings_Repeat Tryz.lays105 Tryz.Builder_Extra_105 s c w hc hlen
end Go.Proofs
namespace Go.Proofs.YtjkogbgbienloaaGreatDoor
open Go.Abs
open Tryz
def ji (g:Grant) (w:Int):Bool:=b8 [g]&&fu w 20 60
def sU (g:Grant) (w:Int):List (List UInt8):=if ji g w then eV w g else []
theorem Z8 {g:Grant} (h:cb g=true):(Cu g).length<=40:=by
 obtain ⟨h1,h2,h3,_⟩:=fI h;have:=tv h2;have d1:=eC 3 g.number.toNat (by omega);have d2:=eC 3 g.year.toNat (by omega);simp[Cu];omega
theorem Up {w:Int} {g:Grant} (hw:w<=1000) (h:cb g=true):∀ x ∈ eV w g,x.length<=1002:=by
 intro x hx;rcases List.mem_cons.1 hx with rfl | hx
 ·have:=Z8 h;omega
 ·obtain ⟨y,hy,rfl⟩:=List.mem_map.1 hx;have:=Rj (a:=g.arms) (w:=w - 2) (by omega) y hy;simp;omega
theorem X3 {l:List Grant} {x:Roll} {ps:List (List Grant)} (h:gH l x=some ps):∀ p ∈ ps,∀ s ∈ cY x p,s.length<=1002:=by
 intro p hp s hs;obtain ⟨_,h2,_⟩:=jP h;have hk:=iC h2;obtain ⟨g,hg,hs⟩:=List.mem_flatMap.1 hs;exact Up (by omega) ((A4 h p hp).2.2.2 g hg) s hs
def Tz (k:Nat):List UInt8:=[45,32]++cW (k+1)++[32,45,10]
def qX (p:List (List UInt8)):List UInt8:=p.flatMap fun s=>s++[10]
def Pk (h k:Nat) (p:List (List UInt8)):List UInt8:=qX p++List.replicate (h - p.length) 10++Tz k
def l8 (h:Nat) (ps:List (List (List UInt8))) (n:Nat):List UInt8:=(List.range n).flatMap fun k=>Pk h k (ps.getD k [])
theorem KE (h:Nat) (ps:List (List (List UInt8))) (n:Nat):l8 h ps (n+1)=l8 h ps n++Pk h n (ps.getD n []):=by
 simp[l8,List.range_succ]
theorem Rg {p:List (List UInt8)} {i:Nat} (h:i < p.length):qX (p.take (i+1))=qX (p.take i)++(p[i]++[10]):=by
 unfold qX;rw[br h];simp only[List.flatMap_append,List.flatMap_cons,List.flatMap_nil,List.append_nil]
theorem HB {p:List (List UInt8)} {m:Nat} (h:∀ s ∈ p,s.length<=m):(qX p).length<=(m+1) * p.length:=by
 induction p with
 | nil=>simp[qX]
 | cons s p ih =>
   have h1:=h s (by simp);have h2:=ih fun t ht=>h t (by simp[ht]);simp only[qX,List.flatMap_cons,List.length_append,List.length_cons] at h2 ⊢;rw[Nat.mul_add];simp only[List.length_nil];omega
theorem Z2 {k:Nat} (h:k < 100):(Tz k).length<=10:=by
 have:=eC 3 (k+1) (by omega);simp[Tz];omega
theorem aaC {h k:Nat} {p:List (List UInt8)} (hk:k < 100) (hh:h<=20) (hp:p.length<=20) (hs:∀ s ∈ p,s.length<=1002):(Pk h k p).length<=30000:=by
 have h1:=HB hs;have h2:=Z2 hk;have h3:1003 * p.length<=1003 * 20:=Nat.mul_le_mul_left _ hp;simp only[Pk,List.length_append,List.length_replicate];omega
theorem HP {h:Nat} {ps:List (List (List UInt8))} (hh:h<=20) (hp:∀ p ∈ ps,p.length<=20/\∀ s ∈ p,s.length<=1002):∀ n,n<=100->(l8 h ps n).length<=30000 * n
 | 0,_=>by simp[l8]
 | n+1,hn=>by
   have h1:=HP hh hp n (by omega)
   have h2:(Pk h n (ps.getD n [])).length<=30000:=by
    have hq:(ps.getD n []).length<=20/\∀ s ∈ ps.getD n [],s.length<=1002:=by
     rw[List.getD_eq_getElem?_getD];cases e:ps[n]? with
     | none=>simp
     | some p=>exact hp p (List.mem_of_getElem? e)
    exact aaC (by omega) hh hq.1 hq.2
   rw[KE,List.length_append];omega
def JR (l:List Grant) (x:Roll):List UInt8:=l8 x.height.toNat (dn l x) (dn l x).length
theorem sF {l:List Grant} {x:Roll}:(dn l x).length<=12/\∀ p ∈ dn l x,p≠[]/\p.length<=20/\p.length<=x.height.toNat/\∀ s ∈ p,s.length<=1002:=by
 unfold dn;cases h:gH l x with
 | none=>simp
 | some ps =>
   refine⟨by simpa using Ej h,fun p hp=>?_⟩;simp only[Option.getD_some,List.mem_map] at hp;obtain ⟨q,hq,rfl⟩:=hp;obtain ⟨h1,h2,h3,_⟩:=A4 h q hq;refine⟨?_,h2,h3,X3 h q hq⟩;cases q with
   | nil=>exact absurd rfl h1
   | cons g q =>
     have:=J4 x.width g;intro e;have e:=congrArg List.length e;simp only[cY,List.flatMap_cons,List.length_append,List.length_nil] at e;omega
theorem WP {x:Roll} {l:aZ} {p:List Nat} {i:Nat} (h:i < p.length):gv x l (p.take (i+1))=gv x l (p.take i)++eV x.width (List.getD l p[i] jz):=by
 unfold gv;rw[br h];simp only[List.flatMap_append,List.flatMap_cons,List.flatMap_nil,List.append_nil]
theorem TF (x:Roll) (l:aZ) (p:List Nat) (i:Nat):(gv x l (p.take i)).length<=(gv x l p).length:=by
 conv=>rhs;rw[<- List.take_append_drop i p]
 simp only[gv,List.flatMap_append,List.length_append];omega
theorem aaD {l:aZ} {x:Roll} {ps:List (List Nat)} (h:jf l x=some ps):dn l x=ps.map (gv x l):=by
 rw[dn,(Ei h).2.2.2.2.2];simp only[Option.getD_some,List.map_map];refine List.map_congr_left fun p _=>RJ x l p
theorem Xf {l:aZ} {x:Roll} (h:jf l x=none):dn l x=[]:=by rw[dn,HA,h];rfl
def x5 (s:List UInt8):Bool:=s.all fun b=>decide (b≠10)
theorem vc (a b:List UInt8):x5 (a++b)=(x5 a&&x5 b):=List.all_append
theorem LA (x:UInt8) (b:List UInt8):x5 (x::b)=(decide (x≠10)&&x5 b):=rfl
theorem Kl (a b:List UInt8) (ha:x5 a=true) (hb:x5 b=true):x5 (a++32::b)=true:=by
 rw[vc,LA,ha,hb];decide
theorem Bf {l:List (List UInt8)} (h:∀ w ∈ l,x5 w=true) (i:Nat):x5 (l.getD i [])=true:=by
 rw[List.getD_eq_getElem?_getD];cases e:l[i]? with
 | none=>rfl
 | some w=>exact h w (List.mem_of_getElem? e)
theorem EX (x:Int):x5 (ox x)=true:=Bf (by decide +kernel) _
theorem WZ (t:List UInt8) (x:Int) (h:x5 t=true):x5 (uI t x)=true:=by
 unfold uI;split
 ·exact h
 ·exact Kl _ _ h (Bf (by decide +kernel) _)
theorem aaq (f:Field):x5 (d7 f)=true:=by
 unfold d7;split
 ·exact EX _
 ·refine Kl _ _ (WZ _ _ (Bf (by decide +kernel) _)) ?_;rw[vc,vc,EX,EX];decide
theorem adU (o l:Int):x5 (LC o l)=true:=by
 refine WZ _ _ ?_;rw[vc,show x5 (Xc o)=true from Bf (by decide +kernel) _];decide
theorem adT (k:Int) (i:Nat):x5 ((bA k).getD i [])=true:=by
 refine Bf ?_ i;unfold bA
 repeat' split
 all_goals decide +kernel
theorem acn (g:Group):x5 (QM g)=true:=by
 have h1:x5 (ia g.count g.kind)=true:=by
  unfold ia;split
  ·decide
  ·exact Bf (by decide +kernel) _
 have h2:x5 (pM g.kind g.count)=true:=by
  unfold pM;rw[vc,Bf (by decide +kernel) _];split<;>decide
 unfold QM;refine Kl _ _ h1 ?_;split
 ·exact Kl _ _ h2 (adT _ _)
 ·rw[List.append_nil];exact h2
theorem Yv {f o n r:List UInt8} {c:Bool} (hf:x5 f=true) (ho:x5 o=true) (hn:x5 n=true) (hr:x5 r=true):x5 (vq f o n r c)=true:=by
 unfold vq
 repeat' split
 all_goals simp only[vc,hf,ho,hn,hr,Bool.and_true,Bool.true_and]
 all_goals decide
theorem acm {a:Arms} (h:arms a=true):x5 (cI a)=true:=by
 have hg:∀ g,x5 (qv g)=true:=fun g=>by
  unfold qv;split
  ·rfl
  ·rw[O6];exact Kl _ _ (acn g) (EX _)
 rw[KU h];refine Yv (aaq _) ?_ (hg _) (hg _);unfold yQ;split
 ·rfl
 ·exact Kl _ _ (adU _ _) (EX _)
theorem RQ (n:Nat):x5 (cW n)=true:=List.all_eq_true.2 fun b hb=>by
 have:=Uo n b hb;refine decide_eq_true fun e=>?_;subst e;exact absurd this.1 (by decide)
theorem acq {s:List UInt8} (h:jC s=true):x5 s=true:=by
 simp only[jC,Bool.and_eq_true,List.all_eq_true,List.mem_range] at h;refine List.all_eq_true.2 fun b hb=>?_;obtain ⟨i,hi,rfl⟩:=List.getElem_of_mem hb;have:=h.2 i hi;have e:s.getD i 0=s[i]:=by simp[hi]
 unfold PX at this;rw[e] at this;refine decide_eq_true fun e2=>?_;rw[e2] at this;split at this<;>exact absurd this (by decide)
theorem acp {g:Grant} (h:cb g=true):x5 (Cu g)=true:=by
 obtain ⟨_,h2,_⟩:=fI h;unfold Cu;simp only[vc,RQ,acq h2,Bool.and_true,Bool.true_and];decide
theorem TL {c:UInt8}:∀ {s:List UInt8},x5 s=true->∀ w ∈ parts c s,x5 w=true
 | [],_,w,hw=>by simp[parts] at hw;subst hw;rfl
 | x::s,h,w,hw=>by
   rw[LA,Bool.and_eq_true] at h;have ih:=TL (c:=c) h.2;simp only[parts] at hw;split at hw
   ·rcases List.mem_cons.1 hw with rfl | hw
    ·rfl
    ·exact ih w hw
   ·split at hw
    ·rename_i p ps e;rw[e] at ih;rcases List.mem_cons.1 hw with rfl | hw
     ·rw[LA,h.1,ih p (by simp)];rfl
     ·exact ih w (by simp[hw])
    ·simp at hw;subst hw;rw[LA,h.1];rfl
theorem Kk (w:Int):∀ (xs:List (List UInt8)) (cur:List UInt8),x5 cur=true->(∀ x ∈ xs,x5 x=true)->∀ y ∈ gn w cur xs,x5 y=true
 | [],cur,hc,_,y,hy=>by simp[gn] at hy;subst hy;exact hc
 | x::xs,cur,hc,hx,y,hy=>by
   simp only[gn] at hy;split at hy
   ·exact Kk w xs _ (Kl _ _ hc (hx x (by simp))) (fun z hz=>hx z (by simp[hz])) y hy
   ·rcases List.mem_cons.1 hy with rfl | hy
    ·exact hc
    ·exact Kk w xs x (hx x (by simp)) (fun z hz=>hx z (by simp[hz])) y hy
theorem aco {w:Int} {L:List (List UInt8)} (h:∀ x ∈ L,x5 x=true):∀ y ∈ fill w L,x5 y=true:=by
 cases L with
 | nil=>simp[fill]
 | cons x L=>exact Kk w L x (h x (by simp)) fun z hz=>h z (by simp[hz])
theorem aap {w:Int} {g:Grant} (h:cb g=true):∀ y ∈ eV w g,x5 y=true:=by
 intro y hy;rcases List.mem_cons.1 hy with rfl | hy
 ·exact acp h
 ·obtain ⟨z,hz,rfl⟩:=List.mem_map.1 hy;have:=aco (w:=w - 2) (TL (c:=32) (acm (fI h).2.2.2)) z hz;rw[vc,this];decide
def uL (s:List UInt8):Nat:=s.countP fun b=>b==10
theorem pK (a b:List UInt8):uL (a++b)=uL a+uL b:=List.countP_append
theorem VS {s:List UInt8} (h:x5 s=true):uL s=0:=by
 unfold uL;rw[List.countP_eq_zero];intro b hb;have:=List.all_eq_true.1 h b hb;simpa using this
theorem Tu:∀ {p:List (List UInt8)},(∀ s ∈ p,x5 s=true)->uL (qX p)=p.length
 | [],_=>rfl
 | s::p,h=>by
   have ih:=Tu (p:=p) fun t ht=>h t (by simp[ht]);have e:qX (s::p)=(s++[10])++qX p:=rfl;rw[e,pK,pK,VS (h s (by simp)),ih,List.length_cons];have:uL [10]=1:=by decide
   omega
theorem abN (n:Nat):uL (List.replicate n 10)=n:=by simp[uL,List.countP_replicate]
theorem ZV (k:Nat):uL (Tz k)=1:=by
 unfold Tz;rw[pK,pK,VS (RQ _)];decide
theorem ZW {h k:Nat} {p:List (List UInt8)} (hp:∀ s ∈ p,x5 s=true) (hh:p.length<=h):uL (Pk h k p)=h+1:=by
 unfold Pk;rw[pK,pK,Tu hp,abN,ZV];omega
theorem Tv {h:Nat} {ps:List (List (List UInt8))} (hp:∀ p ∈ ps,p.length<=h/\∀ s ∈ p,x5 s=true):∀ n,n<=ps.length->uL (l8 h ps n)=n * (h+1)
 | 0,_=>by simp[l8,uL]
 | n+1,hn=>by
   have hq:ps.getD n []=ps[n]'(by omega):=by simp[show n < ps.length by omega]
   obtain ⟨h1,h2⟩:=hp _ (List.getElem_mem (show n < ps.length by omega));rw[KE,pK,Tv hp n (by omega),hq,ZW h2 h1,Nat.succ_mul]
theorem ZY {l:List Grant} {x:Roll} (h:dd l x=true):uL (JR l x)=(dn l x).length * (x.height.toNat+1):=by
 refine Tv (fun p hp=>⟨(sF.2 p hp).2.2.1,fun s hs=>?_⟩) _ (Nat.le_refl _);unfold dd at h;cases ha:gH l x with
 | none=>rw[ha] at h;cases h
 | some ps =>
   rw[dn,ha] at hp;simp only[Option.getD_some,List.mem_map] at hp;obtain ⟨q,hq,rfl⟩:=hp;obtain ⟨g,hg,hs⟩:=List.mem_flatMap.1 hs;exact aap ((A4 ha q hq).2.2.2 g hg) s hs
theorem ZX {s:List UInt8} {i:Nat} (h:i < s.length):uL (s.take (i+1))=uL (s.take i)+if s[i]=10 then 1 else 0:=by
 rw[br h,pK];congr 1;unfold uL;by_cases e:s[i]=10<;>simp[e]
set_option maxRecDepth 100000
def tR:=[qo 2 1 (.agg [vN]),qo 3 3 (.agg [vI 0,vI 0,vI 0])]
def tS:=[om 4 0,di 5 mG 4,sE 6 5 0,sE 7 5 1,cy 1 2 6,cy 3 3 7]
def ye:C:=(sr tR [0,2,3] (sr tS [2,3] .ret))
theorem Lk:cz oM ye [(.cell 2 true 1),(.cell 3 true 3)] 8:=dh func16 rfl
def fO:=[qo 2 18 Cd,ok 3 (vI 0)]
def fP:=[om 7 0,oo 8 (.build (.agg [vN,vI 0,(.v (.int .u64 (0)))]) [(0,(1,(.t 7)))]),fc 9 3 8,om 4 9]
def fQ:=[om 10 4,di 11 cU 10,qo 5 1 (.agg [vN]),cy 1 5 11]
def fR:=[om 12 4,di 13 jj 12,oo 14 (.build Cd [(0,(1,(xI 7))),(1,(1,(.k (vS [66,101,114,103])))),(2,(1,(xI 1500))),(3,(15,(.t 13)))]),qo 6 18 Cd,cy 18 6 14]
def fS:=[aJ 15 0 5,bd 16 1 15,oo 17 (.len false (.t 16)),cD 18 .gtr 17 0,om 19 18,oT 19 20 (.mv (.t 4)),oT 19 21 (.call d0 [.t 20,xI 2]),oo 22 (.pick (.t 19) (.t 21) (xB false))]
def pV:=[aJ 23 0 5,bd 24 1 23,om 25 4,aJ 26 0 5,bd 27 1 26,oo 28 (.len false (.t 27)),eo 29 aK 25 28,ep 30 18 24 29,cm 31 18 30,cy 18 6 31]
def jH:List (List Nat):=[[],[0],[],[],[3],[3,4],[2,3,4,5],[0,1,2,3,4,5,6],[0,1,2,3,4,5,6,7],[0,1,2,3,4,5,6,7,8]]
def fT:=[cm 32 18 6,om 33 4,oo 34 (.bslice 1 (vI 0) 6 [(0,(xI 20)),(1,(xI 24)),(2,(xI 30)),(3,(xI 60)),(4,(xI 19)),(5,(xI 61))]),om 35 4,oo 36 (.call aK [.t 35,xI 24]),cD 37 .quo 36 11,oo 38 (.bin .add .none (xI 4) (.t 37)),oo 39 (.slc (some 1) (.t 34) none (some (.t 38))),eo 40 a6 33 39,cy 18 2 32,om 3 40]
def cE:List (List Nat):=[[],[],[],[],[3],[3,4],[3,4,5],[2,3,4,5,6],[1,2,3,4,5,6,7],[0,1,2,3,4,5,6,7,8],[0,1,2,3,4,5,6,7,8,9]]
def hX:C:=(sr fO [0,2] (sr fP [2,4] (sr fQ [2,4,5] (sr fR [2,4,5,6] (ss (sr fS [2,4,5,6,22] (sc 22 (.regD pV jH [2,4,6]) .skip)) (ss (.regD fT cE [2,3]) .ret))))))
theorem j5:cz lq hX [(.cell 2 true 18),(.tmp 3)] 41:=dh func21 rfl
def Ad:=[qo 2 3 (.agg [vI 0,vI 0,vI 0])]
def Ae:=[om 4 0,oo 5 (.call aK [.t 4,xI 3]),oo 6 (.bin .add .none (xI 1) (.t 5)),om 7 0,oo 8 (.bslice 1 (vI 0) 4 [(0,(xI 20)),(1,(xI 24)),(2,(xI 30)),(3,(xI 60))]),eo 9 a6 7 8,om 10 0,oo 11 (.bslice 1 (vI 0) 5 [(0,(xI 4)),(1,(xI 5)),(2,(xI 8)),(3,(xI 12)),(4,(xI 20))]),eo 12 a6 10 11,oo 13 (.build (.agg [vI 0,vI 0,vI 0]) [(0,(1,(.t 6))),(1,(1,(.t 9))),(2,(1,(.t 12)))]),qo 3 3 (.agg [vI 0,vI 0,vI 0]),cy 3 3 13]
def Af:=[om 14 0,oo 15 (.call aK [.t 14,xI 40])]
def Ag:=[cD 17 .eql 15 0,om 16 17]
def Ah:=[om 18 0,oo 19 (.bslice 1 (vI 0) 2 [(0,(xI 0)),(1,(xI 4))]),eo 20 a6 18 19,aJ 21 0 3,cy 1 21 20]
def j0:=[cD 23 .eql 15 1,om 22 23]
def Ai:=[om 24 0,oo 25 (.bslice 1 (vI 0) 2 [(0,(xI 19)),(1,(xI 61))]),eo 26 a6 24 25,aJ 27 1 3,cy 1 27 26]
def pv:=[cD 29 .eql 15 2,om 28 29]
def Aj:=[om 30 0,oo 31 (.bslice 1 (vI 0) 2 [(0,(xI 3)),(1,(xI 21))]),eo 32 a6 30 31,aJ 33 2 3,cy 1 33 32]
def hC:=[cm 34 3 3,cy 3 2 34]
def Ew:C:=(sr Ad [0,2] (sr Ae [0,2,3] (ss (sr Af [0,2,3,15] (.block 0 (sr Ag [0,2,3,15,16] (sc 16 (.reg Ah [2,3]) (sr j0 [0,2,3,15,22] (sc 22 (.reg Ai [2,3]) (sr pv [0,2,3,28] (sc 28 (.reg Aj [2,3]) .skip)))))))) (sr hC [2] .ret))))
theorem P7:cz mJ Ew [(.cell 2 true 3)] 35:=dh func71 rfl
def rj:=[qo 2 1 (.agg [vN]),qo 3 3 (.agg [vI 0,vI 0,vI 0])]
def rk:=[om 6 0,oo 7 (.build (.agg [vN,vI 0,(.v (.int .u64 (0)))]) [(0,(1,(.t 6)))]),fc 8 3 7,om 4 8]
def rl:=[om 9 4,di 10 cU 9,qo 5 1 (.agg [vN]),cy 1 5 10]
def rm:=[cm 11 1 5,om 12 4,di 13 mJ 12,cy 1 2 11,cy 3 3 13]
def j6:List (List Nat):=[[],[],[1],[0,1,2],[0,1,2,3]]
def uU:C:=(sr rj [0,2,3] (sr rk [2,3,4] (sr rl [2,3,4,5] (ss (.regD rm j6 [2,3]) .ret))))
theorem Kc:cz mG uU [(.cell 2 true 1),(.cell 3 true 3)] 14:=dh func39 rfl
def lG:=[qo 2 1 (.agg [vN])]
def lH:=[om 7 0,di 8 ls 7,qo 3 1 (.agg [vN]),cy 1 3 8]
def lI:=[aJ 9 0 3,bd 10 1 9,oo 11 (.len false (.t 10)),cD 12 .eql 11 0]
def lJ:=[cm 13 1 3,cy 1 2 13]
def lK:=[om 14 0,aJ 15 0 3,bd 16 1 15,oo 17 (.len false (.t 16)),eo 18 aK 14 17,om 4 18]
def lL:=[aJ 19 0 3,bd 20 1 19,om 21 4,ep 22 18 20 21,cm 23 18 22,qo 5 18 Cd,cy 18 5 23]
def lM:=[om 24 0,oo 25 (.call aK [.t 24,xI 20])]
def lN:=[cD 27 .eql 25 0,om 26 27]
def lO:=[om 28 0,oo 29 (.bslice 1 (vI 0) 4 [(0,(xI 0)),(1,(xI 1000)),(2,(xI 1)),(3,(xI 999))]),eo 30 a6 28 29,aJ 31 0 5,cy 1 31 30]
def bY:=[cD 33 .eql 25 1,om 32 33]
def kB:=[om 34 0,oo 35 (.bslice 1 (vS []) 5 [(0,(.k (vS []))),(1,(.k (vS [97,115,104,101]))),(2,(.k (vS [65,98,99,100,101,102,103,104,105,106,107,108]))),(3,(.k (vS [65,98,99,100,101,102,103,104,105,106,107,108,109]))),(4,(.k (vS [65])))]),eo 36 mI 34 35,aJ 37 1 5,cy 1 37 36]
def co:=[cD 39 .eql 25 2,om 38 39]
def kC:=[om 40 0,oo 41 (.bslice 1 (vI 0) 4 [(0,(xI 999)),(1,(xI 1000)),(2,(xI 2999)),(3,(xI 3000))]),eo 42 a6 40 41,aJ 43 2 5,cy 1 43 42]
def cZ:=[cD 45 .eql 25 3,om 44 45]
def kD:=[om 46 0,di 47 jj 46,aJ 48 3 5,cy 15 48 47]
def d4:=[cD 50 .eql 25 4,om 49 50]
def kE:=[om 51 0,aJ 52 0 3,bd 53 1 52,oo 54 (.iaddr 18 (.t 53) (xI 0)),aJ 55 3 54,cm 56 15 55,eo 57 jB 51 56,aJ 58 3 5,cy 15 58 57]
def gC:=[cD 60 .eql 25 5,om 59 60]
def kF:=[ok 6 (vI 0)]
def kG:=[aJ 61 0 3,bd 62 1 61,oo 63 (.len false (.t 62)),om 64 0,oo 65 (.call aK [.t 64,xI 2]),oo 66 (.bin .add .none (xI 12) (.t 65)),bM 67 .lss 63 66,om 68 67,oT 68 69 (.mv (.t 6)),oT 68 70 (.bin .lss .none (.t 69) (xI 14)),oo 71 (.pick (.t 68) (.t 70) (xB false))]
def d3:List (List Nat):=[[],[0],[0,1],[],[3],[3,4],[0,1,2,3,4,5],[0,1,2,3,4,5,6],[0,1,2,3,4,5,6,7],[0,1,2,3,4,5,6,7,8],[0,1,2,3,4,5,6,7,8,9]]
def kH:=[aJ 74 0 3,bd 75 1 74,om 76 6,oo 77 (.bin .add .none (xI 100) (.t 76)),om 78 6,cD 79 .rem 78 9,oo 80 (.bin .add .none (xI 1) (.t 79)),oo 81 (.build QF [(2,(1,(.t 80)))]),om 82 6,cD 83 .rem 82 6,oo 84 (.bin .add .none (xI 1) (.t 83)),om 85 6,cD 86 .rem 85 5,oo 87 (.bin .add .none (xI 4) (.t 86)),om 88 6,cD 89 .quo 88 2,oo 90 (.bin .add .none (xI 1) (.t 89)),oo 91 (.build QF [(0,(1,(.t 84))),(1,(1,(.t 87))),(3,(1,(.t 90)))]),oo 92 (.build Qt [(0,(4,(.t 81))),(11,(4,(.t 91)))]),oo 93 (.build Cd [(0,(1,(.t 77))),(1,(1,(.k (vS [90,101,100])))),(2,(1,(xI 2900))),(3,(15,(.t 92)))]),oo 94 (.bslice 18 Cd 1 [(0,(.t 93))]),oo 95 (.app 18 152 (.t 75) (.t 94)),aJ 96 0 3,cy 1 96 95]
def kI:=[om 72 6,fv 73 72 1,om 6 73]
def ko:C:=(ss (ss (.regD kG d3 [0,2,3,6,71]) (sc 71 .skip (.exit 1))) (ss (.block 2 (.reg kH [0,2,3,6])) (.reg kI [0,2,3,6])))
def gD:=[cm 97 1 3,cy 1 2 97]
def bS:=[aJ 98 0 3,bd 99 1 98,om 100 4,cm 101 18 5,ep 102 18 99 100,cy 18 102 101]
def bT:=[cm 103 1 3,cy 1 2 103]
def nS:C:=(sr lG [0,2] (sr lH [0,2,3] (ss (sr lI [0,2,3,12] (sc 12 (sr lJ [2] .ret) .skip)) (sr lK [0,2,3,4] (sr lL [0,2,3,4,5] (ss (sr lM [0,2,3,4,5,25] (.block 0 (sr lN [0,2,3,4,5,25,26] (sc 26 (.reg lO [2,3,4,5]) (sr bY [0,2,3,4,5,25,32] (sc 32 (.reg kB [2,3,4,5]) (sr co [0,2,3,4,5,25,38] (sc 38 (.reg kC [2,3,4,5]) (sr cZ [0,2,3,4,5,25,44] (sc 44 (.reg kD [2,3,4,5]) (sr d4 [0,2,3,4,5,25,49] (sc 49 (.reg kE [2,3,4,5]) (sr gC [0,2,3,4,5,59] (sc 59 (ss (sr kF [0,2,3,6] (.block 1 (.loop ko))) (sr gD [2] .ret)) .skip)))))))))))))) (sr bS [2,3] (sr bT [2] .ret))))))))
def D9:Nat->List Nat
 | 0=>[0,2]
 | 1=>[0,2,3]
 | 2=>[0,2,3,12]
 | 3=>[2]
 | 4=>[0,2,3,4]
 | 5=>[0,2,3,4,5]
 | 6=>[0,2,3,4,5,25]
 | 7=>[0,2,3,4,5,25,26]
 | 8=>[2,3,4,5]
 | 9=>[0,2,3,4,5,25,32]
 | 10=>[2,3,4,5]
 | 11=>[0,2,3,4,5,25,38]
 | 12=>[2,3,4,5]
 | 13=>[0,2,3,4,5,25,44]
 | 14=>[2,3,4,5]
 | 15=>[0,2,3,4,5,25,49]
 | 16=>[2,3,4,5]
 | 17=>[0,2,3,4,5,59]
 | 18=>[0,2,3,6]
 | 19=>[0,2,3,6,71]
 | 21=>[0,2,3,6]
 | 20=>[0,2,3,6]
 | 22=>[2]
 | 23=>[2,3]
 | 24=>[2]
 | _=>[]
theorem Be:cz cU nS [(.cell 2 true 1)] 104 :=
 ⟨Tryz.f42,_,D9,func42,rfl,by kernel_rfl,by kernel_rfl,by kernel_rfl,rfl⟩
def pW:=[qo 2 1 (.agg [vN])]
def pX:=[oo 9 (.bslice 18 Cd 0 []),oo 10 (.build (.agg [vN]) [(0,(1,(.t 9)))]),qo 3 1 (.agg [vN]),cy 1 3 10]
def pY:=[om 11 0,oo 12 (.call aK [.t 11,xI 100]),oo 13 (.bin .add .none (xI 1500) (.t 12)),om 4 13,ok 5 (vI 0)]
def pZ:=[om 14 0,di 15 dl 14,qo 6 15 Qt,cy 15 6 15]
def p3:=[om 16 0,oo 17 (.call aK [.t 16,xI 6]),om 7 17]
def p4:=[om 18 7,cD 19 .gtr 18 0]
def p5:=[om 22 0,cm 23 15 6,eo 24 jB 22 23,qo 8 15 Qt,cy 15 8 24]
def p6:=[om 25 0,oo 26 (.call d0 [.t 25,xI 2])]
def p7:=[om 27 0,di 28 dl 27,cy 15 8 28]
def p8:=[cm 29 1 3,cm 30 15 8,eo 31 oN 29 30,oo 32 (.len false (.t 31)),cD 33 .gtr 32 0]
def oc:=[om 34 4,om 35 0,oo 36 (.call aK [.t 35,xI 20]),bM 37 .add 34 36,om 4 37]
def od:=[om 38 5,fv 39 38 1,om 40 0,oo 41 (.call aK [.t 40,xI 2]),bM 42 .add 39 41,om 5 42]
def oe:=[aJ 43 0 3,bd 44 1 43,om 45 5,om 46 0,oo 47 (.bslice 1 (vS []) 4 [(0,(.k (vS [65,115,104,101]))),(1,(.k (vS [66,114,111,111,107]))),(2,(.k (vS [67,111,108,101]))),(3,(.k (vS [68,117,110,110])))]),eo 48 mI 46 47,om 49 4,cm 50 15 8,oo 51 (.build Cd [(0,(1,(.t 45))),(1,(1,(.t 48))),(2,(1,(.t 49))),(3,(15,(.t 50)))]),oo 52 (.bslice 18 Cd 1 [(0,(.t 51))]),oo 53 (.app 18 152 (.t 44) (.t 52)),aJ 54 0 3,cy 1 54 53]
def iZ:List (List Nat):=[[],[0],[],[],[],[3,4],[],[],[2,3,4,5,6,7],[2,3,4,5,6,7,8],[0,1,2,3,4,5,6,7,8,9],[0,1,2,3,4,5,6,7,8,9,10],[0,1,2,3,4,5,6,7,8,9,10,11]]
def jd:=[om 20 7,cD 21 .sub 20 1,om 7 21]
def nU:C:=(ss (sr p4 [0,2,3,4,5,6,7,19] (sc 19 .skip (.exit 0))) (ss (.block 1 (sr p5 [0,2,3,4,5,6,7,8] (ss (sr p6 [0,2,3,4,5,6,7,8,26] (sc 26 (.reg p7 [0,2,3,4,5,6,7,8]) .skip)) (ss (ss (.wk (.reg p8 [0,2,3,4,5,6,7,8,33])) (sc 33 (.exit 1) .skip)) (sr oc [0,2,3,4,5,6,7,8] (sr od [0,2,3,4,5,6,7,8] (.regD oe iZ [0,2,3,4,5,6,7]))))))) (.reg jd [0,2,3,4,5,6,7])))
def og:=[cm 55 1 3,cy 1 2 55]
def sO:C:=(sr pW [0,2] (sr pX [0,2,3] (sr pY [0,2,3,4,5] (sr pZ [0,2,3,4,5,6] (ss (sr p3 [0,2,3,4,5,6,7] (.block 0 (.loop nU))) (sr og [2] .ret))))))
def Kh:Nat->List Nat
 | 0=>[0,2]
 | 1=>[0,2,3]
 | 2=>[0,2,3,4,5]
 | 3=>[0,2,3,4,5,6]
 | 4=>[0,2,3,4,5,6,7]
 | 5=>[0,2,3,4,5,6,7,19]
 | 7=>[0,2,3,4,5,6,7,8]
 | 8=>[0,2,3,4,5,6,7,8,26]
 | 9=>[0,2,3,4,5,6,7,8]
 | 10=>[999999,0,2,3,4,5,6,7,8,33]
 | 11=>[0,2,3,4,5,6,7,8]
 | 12=>[0,2,3,4,5,6,7,8]
 | 13=>[0,2,3,4,5,6,7]
 | 6=>[0,2,3,4,5,6,7]
 | 14=>[2]
 | _=>[]
theorem HR:cz ls sO [(.cell 2 true 1)] 56 :=
 ⟨Tryz.f75,_,Kh,func75,rfl,by kernel_rfl,by kernel_rfl,by kernel_rfl,rfl⟩
def bZ:=[fc 3 15 1,qo 4 15 Qt]
def b5:=[cm 6 15 3,qo 5 15 Qt,cy 15 5 6]
def b6:=[om 7 0,oo 8 (.call aK [.t 7,xI 7])]
def b7:=[cD 10 .eql 8 0,om 9 10]
def zY:=[om 11 0,di 12 fF 11,aJ 13 0 5,cy 4 13 12]
def cp:=[cD 15 .eql 8 1,om 14 15]
def pi:=[aJ 16 4 5,bd 17 1 16,cD 18 .gtr 17 0]
def zZ:=[om 19 0,di 20 dI 19,aJ 21 6 5,cy 1 21 20]
def df:=[cD 23 .eql 8 2,om 22 23]
def z6:=[om 24 0,di 25 eE 24,aJ 26 11 5,cy 4 26 25]
def dy:=[cD 28 .eql 8 3,om 27 28]
def nq:=[aJ 29 4 5,bd 30 1 29,cD 31 .gtr 30 0]
def vT:=[om 32 0,oo 33 (.call aK [.t 32,xI 7]),oo 34 (.bin .add .none (xI 1) (.t 33)),aJ 35 4 5,cy 1 35 34]
def fU:=[cD 37 .eql 8 4,om 36 37]
def vU:=[om 38 0,di 39 dl 38,cy 15 5 39]
def jp:=[cD 41 .eql 8 5,om 40 41]
def nr:=[aJ 42 11 5,cm 43 4 42,di 44 gA 43,oo 45 (.un .not (.t 44))]
def vV:=[om 46 0,oo 47 (.call aK [.t 46,xI 6]),oo 48 (.bin .add .none (xI 1) (.t 47)),aJ 49 11 5,aJ 50 0 49,cy 1 50 48]
def bP:=[cm 51 15 5,cy 15 4 51]
def cA:C:=(sr bZ [0,3,4] (sr b5 [0,4,5] (ss (sr b6 [0,4,5,8] (.block 0 (sr b7 [0,4,5,8,9] (sc 9 (.reg zY [4,5]) (sr cp [0,4,5,8,14] (sc 14 (sr pi [0,4,5,18] (sc 18 (.reg zZ [4,5]) .skip)) (sr df [0,4,5,8,22] (sc 22 (.reg z6 [4,5]) (sr dy [0,4,5,8,27] (sc 27 (sr nq [0,4,5,31] (sc 31 (.reg vT [4,5]) .skip)) (sr fU [0,4,5,8,36] (sc 36 (.reg vU [4,5]) (sr jp [0,4,5,40] (sc 40 (sr nr [0,4,5,45] (sc 45 (.reg vV [4,5]) .skip)) .skip)))))))))))))) (sr bP [4] .ret))))
theorem cH:cz jB cA [(.cell 4 true 15)] 52:=dh func77 rfl
def tV:=[fc 2 1 0,fc 3 15 1,ok 4 vN]
def tW:=[oo 7 (.bslice 1 (vI 0) 0 []),om 5 7]
def tX:=[ok 6 (vI 0)]
def tY:=[om 8 6,aJ 9 0 2,bd 10 1 9,oo 11 (.len false (.t 10)),bM 12 .lss 8 11]
def tZ:=[aJ 15 0 2,bd 16 1 15,om 17 6,ep 18 18 16 17,aJ 19 3 18,cm 20 15 19,cm 21 15 3,eo 22 lc 20 21]
def ip:List (List Nat):=[[],[0],[],[0,1,2],[0,1,2,3],[0,1,2,3,4],[],[0,1,2,3,4,5,6]]
def t6:=[om 23 5,aJ 24 0 2,bd 25 1 24,om 26 6,ep 27 18 25 26,aJ 28 0 27,bd 29 1 28,oo 30 (.bslice 1 (vI 0) 1 [(0,(.t 29))]),oo 31 (.app 1 8 (.t 23) (.t 30)),om 5 31]
def ly:=[om 13 6,fv 14 13 1,om 6 14]
def tc:C:=(ss (sr tY [2,3,5,6,12] (sc 12 .skip (.exit 0))) (ss (.block 1 (ss (.regD tZ ip [2,3,5,6,22]) (sc 22 (.reg t6 [2,3,5,6]) .skip))) (.reg ly [2,3,5,6])))
def t7:=[om 32 5,om 4 32]
def yf:C:=(sr tV [2,3] (sr tW [2,3,5] (ss (sr tX [2,3,5,6] (.block 0 (.loop tc))) (sr t7 [4] .ret))))
def Og:Nat->List Nat
 | 0=>[2,3]
 | 1=>[2,3,5]
 | 2=>[2,3,5,6]
 | 3=>[2,3,5,6,12]
 | 5=>[2,3,5,6,22]
 | 6=>[2,3,5,6]
 | 4=>[2,3,5,6]
 | 7=>[4]
 | _=>[]
theorem Ll:cz oN yf [(.tmp 4)] 33 :=
 ⟨Tryz.f118,_,Og,func118,rfl,by kernel_rfl,by kernel_rfl,by kernel_rfl,rfl⟩
def aR:=[qo 2 4 QF]
def aS:=[om 4 0,di 5 fF 4,qo 3 4 QF,cy 4 3 5]
def aT:=[om 6 0,oo 7 (.call aK [.t 6,xI 24])]
def aU:=[cD 9 .eql 7 0,om 8 9]
def ec:=[om 10 0,oo 11 (.bslice 1 (vI 0) 5 [(0,(xI (-1))),(1,(xI 8)),(2,(xI 0)),(3,(xI 7)),(4,(xI 1))]),eo 12 a6 10 11,aJ 13 0 3,cy 1 13 12]
def bc:=[cD 15 .eql 7 1,om 14 15]
def ee:=[om 16 0,oo 17 (.bslice 1 (vI 0) 4 [(0,(xI (-1))),(1,(xI 5)),(2,(xI 1)),(3,(xI 4))]),eo 18 a6 16 17,aJ 19 1 3,cy 1 19 18]
def bq:=[cD 21 .eql 7 2,om 20 21]
def ef:=[om 22 0,oo 23 (.bslice 1 (vI 0) 3 [(0,(xI 0)),(1,(xI 10)),(2,(xI 9))]),eo 24 a6 22 23,aJ 25 2 3,cy 1 25 24]
def ck:=[cD 27 .eql 7 3,om 26 27]
def dG:=[om 28 0,aJ 29 2 3,bd 30 1 29,oo 31 (.bslice 1 (vI 0) 4 [(0,(xI 0)),(1,(xI 10)),(2,(.t 30)),(3,(xI 9))]),eo 32 a6 28 31,aJ 33 3 3,cy 1 33 32]
def aM:=[cm 34 4 3,cy 4 2 34]
def a8:C:=(sr aR [0,2] (sr aS [0,2,3] (ss (sr aT [0,2,3,7] (.block 0 (sr aU [0,2,3,7,8] (sc 8 (.reg ec [2,3]) (sr bc [0,2,3,7,14] (sc 14 (.reg ee [2,3]) (sr bq [0,2,3,7,20] (sc 20 (.reg ef [2,3]) (sr ck [0,2,3,26] (sc 26 (.reg dG [2,3]) .skip)))))))))) (sr aM [2] .ret))))
theorem eH:cz lr a8 [(.cell 2 true 4)] 35:=dh func79 rfl
def aE:=[qo 2 4 QF]
def aF:=[om 4 0,di 5 eE 4,qo 3 4 QF,cy 4 3 5]
def aG:=[om 6 0,oo 7 (.call aK [.t 6,xI 24])]
def aH:=[cD 9 .eql 7 0,om 8 9]
def eg:=[om 10 0,oo 11 (.bslice 1 (vI 0) 3 [(0,(xI 0)),(1,(xI 7)),(2,(xI (-1)))]),eo 12 a6 10 11,aJ 13 0 3,cy 1 13 12]
def aW:=[cD 15 .eql 7 1,om 14 15]
def ei:=[om 16 0,oo 17 (.bslice 1 (vI 0) 4 [(0,(xI 0)),(1,(xI 9)),(2,(xI 3)),(3,(xI 4))]),eo 18 a6 16 17,aJ 19 1 3,cy 1 19 18]
def bi:=[cD 21 .eql 7 2,om 20 21]
def el:=[om 22 0,oo 23 (.bslice 1 (vI 0) 5 [(0,(xI 0)),(1,(xI 1)),(2,(xI 2)),(3,(xI 3)),(4,(xI (-1)))]),eo 24 a6 22 23,aJ 25 2 3,cy 1 25 24]
def bv:=[cD 27 .eql 7 3,om 26 27]
def dH:=[om 28 0,oo 29 (.bslice 1 (vI 0) 2 [(0,(xI 0)),(1,(xI 10))]),eo 30 a6 28 29,aJ 31 3 3,cy 1 31 30]
def cq:=[cD 33 .eql 7 4,om 32 33]
def fw:=[oo 34 (.build QF []),cy 4 2 34]
def aN:=[cm 35 4 3,cy 4 2 35]
def aQ:C:=(sr aE [0,2] (sr aF [0,2,3] (ss (sr aG [0,2,3,7] (.block 0 (sr aH [0,2,3,7,8] (sc 8 (.reg eg [2,3]) (sr aW [0,2,3,7,14] (sc 14 (.reg ei [2,3]) (sr bi [0,2,3,7,20] (sc 20 (.reg el [2,3]) (sr bv [0,2,3,7,26] (sc 26 (.reg dH [2,3]) (sr cq [2,3,32] (sc 32 (sr fw [2] .ret) .skip)))))))))))) (sr aN [2] .ret))))
theorem dA:cz ij aQ [(.cell 2 true 4)] 36:=dh func80 rfl
def ay:=[qo 2 15 Qt]
def az:=[om 4 0,di 5 dl 4,qo 3 15 Qt,cy 15 3 5]
def aA:=[om 6 0,oo 7 (.call aK [.t 6,xI 24])]
def aB:=[cD 9 .eql 7 0,om 8 9]
def eK:=[om 10 0,di 11 lr 10,aJ 12 0 3,cy 4 12 11]
def aI:=[cD 14 .eql 7 1,om 13 14]
def eL:=[om 15 0,oo 16 (.bslice 1 (vI 0) 4 [(0,(xI (-1))),(1,(xI 8)),(2,(xI 0)),(3,(xI 7))]),eo 17 a6 15 16,aJ 18 4 3,cy 1 18 17]
def aX:=[cD 20 .eql 7 2,om 19 20]
def eM:=[om 21 0,oo 22 (.bslice 1 (vI 0) 3 [(0,(xI (-1))),(1,(xI 5)),(2,(xI 1))]),eo 23 a6 21 22,aJ 24 5 3,cy 1 24 23]
def bg:=[cD 26 .eql 7 3,om 25 26]
def d9:=[om 27 0,oo 28 (.bslice 1 (vI 0) 3 [(0,(xI 0)),(1,(xI 10)),(2,(xI 3))]),eo 29 a6 27 28,aJ 30 6 3,cy 1 30 29]
def bp:=[cD 32 .eql 7 4,om 31 32]
def ea:=[om 33 0,di 34 ij 33,aJ 35 7 3,cy 4 35 34]
def cj:=[cD 37 .eql 7 5,om 36 37]
def eb:=[om 38 0,di 39 ij 38,aJ 40 11 3,cy 4 40 39]
def ax:=[cm 41 15 3,cy 15 2 41]
def aD:C:=(sr ay [0,2] (sr az [0,2,3] (ss (sr aA [0,2,3,7] (.block 0 (sr aB [0,2,3,7,8] (sc 8 (.reg eK [2,3]) (sr aI [0,2,3,7,13] (sc 13 (.reg eL [2,3]) (sr aX [0,2,3,7,19] (sc 19 (.reg eM [2,3]) (sr bg [0,2,3,7,25] (sc 25 (.reg d9 [2,3]) (sr bp [0,2,3,7,31] (sc 31 (.reg ea [2,3]) (sr cj [0,2,3,36] (sc 36 (.reg eb [2,3]) .skip)))))))))))))) (sr ax [2] .ret))))
theorem db:cz jj aD [(.cell 2 true 15)] 42:=dh func43 rfl
def cd:=[qo 2 4 QF]
def ce:=[om 4 0,di 5 dI 4,oo 6 (.build QF [(2,(1,(.t 5)))]),qo 3 4 QF,cy 4 3 6]
def cf:=[om 7 0,oo 8 (.call d0 [.t 7,xI 2])]
def jo:=[cm 9 4 3,cy 4 2 9]
def dq:=[om 10 0,oo 11 (.call aK [.t 10,xI 7]),oo 12 (.bin .add .none (xI 1) (.t 11)),aJ 13 0 3,cy 1 13 12]
def du:=[om 14 0,oo 15 (.bslice 1 (vI 0) 6 [(0,(xI 0)),(1,(xI 0)),(2,(xI 1)),(3,(xI 2)),(4,(xI 3)),(5,(xI 4))]),eo 16 a6 14 15,aJ 17 1 3,cy 1 17 16]
def dv:=[aJ 18 2 3,bd 19 1 18,om 20 0,oo 21 (.call aK [.t 20,xI 8]),bM 22 .add 19 21,cD 23 .rem 22 9,oo 24 (.bin .add .none (xI 1) (.t 23)),aJ 25 3 3,cy 1 25 24]
def cT:List (List Nat):=[[],[0],[],[2],[0,1,2,3],[0,1,2,3,4],[0,1,2,3,4,5],[0,1,2,3,4,5,6],[0,1,2,3,4,5,6,7]]
def dw:=[cm 26 4 3,cy 4 2 26]
def cF:C:=(sr cd [0,2] (sr ce [0,2,3] (ss (sr cf [0,2,3,8] (sc 8 (sr jo [2] .ret) .skip)) (sr dq [0,2,3] (sr du [0,2,3] (ss (.regD dv cT [2,3]) (sr dw [2] .ret)))))))
theorem yp:cz fF cF [(.cell 2 true 4)] 27:=dh func119 rfl
def bD:=[qo 2 4 QF]
def bE:=[om 4 0,oo 5 (.bslice 1 (vI 0) 8 [(0,(xI 1)),(1,(xI 1)),(2,(xI 2)),(3,(xI 3)),(4,(xI 3)),(5,(xI 4)),(6,(xI 5)),(7,(xI 6))]),eo 6 a6 4 5,om 7 0,oo 8 (.call aK [.t 7,xI 8]),oo 9 (.bin .add .none (xI 1) (.t 8)),om 10 0,di 11 dI 10,oo 12 (.build QF [(0,(1,(.t 6))),(1,(1,(.t 9))),(3,(1,(.t 11)))]),qo 3 4 QF,cy 4 3 12]
def bF:=[aJ 13 1 3,bd 14 1 13,di 15 vf 14]
def dx:=[om 16 0,oo 17 (.call aK [.t 16,xI 2]),oo 18 (.bin .add .none (xI 1) (.t 17)),aJ 19 2 3,cy 1 19 18]
def bG:=[cm 20 4 3,cy 4 2 20]
def bX:C:=(sr bD [0,2] (sr bE [0,2,3] (ss (sr bF [0,2,3,15] (sc 15 (.reg dx [2,3]) .skip)) (sr bG [2] .ret))))
theorem yq:cz eE bX [(.cell 2 true 4)] 21:=dh func121 rfl
def ah:=[qo 2 15 Qt]
def ai:=[om 4 0,di 5 fF 4,oo 6 (.build Qt [(0,(4,(.t 5)))]),qo 3 15 Qt,cy 15 3 6]
def aj:=[om 7 0,oo 8 (.call d0 [.t 7,xI 3]),oo 9 (.un .not (.t 8))]
def aq:=[om 10 0,oo 11 (.call aK [.t 10,xI 7]),oo 12 (.bin .add .none (xI 1) (.t 11)),aJ 13 4 3,cy 1 13 12]
def ar:=[om 14 0,oo 15 (.bslice 1 (vI 0) 7 [(0,(xI 0)),(1,(xI 0)),(2,(xI 0)),(3,(xI 1)),(4,(xI 2)),(5,(xI 3)),(6,(xI 4))]),eo 16 a6 14 15,aJ 17 5 3,cy 1 17 16]
def au:=[om 18 0,di 19 dI 18,aJ 20 6 3,cy 1 20 19]
def av:=[om 21 0,oo 22 (.call d0 [.t 21,xI 3])]
def bf:=[om 23 0,di 24 eE 23,aJ 25 7 3,cy 4 25 24]
def ak:=[om 26 0,oo 27 (.call d0 [.t 26,xI 3]),oo 28 (.un .not (.t 27))]
def aV:=[om 29 0,di 30 eE 29,aJ 31 11 3,cy 4 31 30]
def ae:=[cm 32 15 3,cy 15 2 32]
def an:C:=(sr ah [0,2] (sr ai [0,2,3] (ss (sr aj [0,2,3,9] (sc 9 (sr aq [0,2,3] (sr ar [0,2,3] (sr au [0,2,3] (sr av [0,2,3,22] (sc 22 (.reg bf [0,2,3]) .skip))))) .skip)) (ss (sr ak [0,2,3,28] (sc 28 (.reg aV [2,3]) .skip)) (sr ae [2] .ret)))))
theorem fE:cz dl an [(.cell 2 true 15)] 33:=dh func78 rfl
def pj:=[ok 2 (vI 0)]
def pk:=[ok 3 (vI 0)]
def pm:=[om 4 0,aJ 5 0 4,aJ 6 1 5,bd 7 1 6,om 8 0,aJ 9 0 8,aJ 10 0 9,bd 11 1 10,oo 12 (.len false (.t 11)),bM 13 .lss 7 12]
def o0:List (List Nat):=[[],[0],[0,1],[0,1,2],[],[4],[4,5],[4,5,6],[4,5,6,7],[0,1,2,3,4,5,6,7,8]]
def z7:=[om 14 0,aJ 15 0 14,aJ 16 0 15,bd 17 1 16,om 18 0,aJ 19 0 18,aJ 20 1 19,bd 21 1 20,ep 22 1 17 21,bd 23 1 22,oo 24 (.conv (.int .i64) (.t 23)),om 3 24]
def yS:List (List Nat):=[[],[0],[0,1],[0,1,2],[],[4],[4,5],[4,5,6],[0,1,2,3,4,5,6,7],[0,1,2,3,4,5,6,7,8],[0,1,2,3,4,5,6,7,8,9],[0,1,2,3,4,5,6,7,8,9,10]]
def pn:=[om 25 0,aJ 26 0 25,aJ 27 1 26,bd 28 1 27,fv 29 28 1,aJ 30 0 25,aJ 31 1 30,cy 1 31 29]
def po:=[om 32 0,om 33 0,aJ 34 0 33,aJ 35 2 34,bd 36 1 35,oo 37 (.bin .mul .none (.t 36) (.k (.v (.int .u64 (6364136223846793005))))),om 38 3,oo 39 (.conv (.int .u64) (.t 38)),bM 40 .add 37 39,oo 41 (.bin .add .none (.t 40) (.k (.v (.int .u64 (884884))))),aJ 42 0 32,aJ 43 2 42,cy 1 43 41]
def pq:=[om 44 0,aJ 45 0 44,aJ 46 1 45,bd 47 1 46,om 48 0,aJ 49 0 48,aJ 50 0 49,bd 51 1 50,oo 52 (.len false (.t 51)),bM 53 .leq 47 52]
def o5:List (List Nat):=[[],[0],[0,1],[0,1,2],[],[4],[4,5],[4,5,6],[4,5,6,7],[0,1,2,3,4,5,6,7,8]]
def z8:=[om 54 3,om 2 54]
def Aa:=[om 55 0,aJ 56 0 55,aJ 57 2 56,bd 58 1 57,oo 59 (.bin .shr .none (.t 58) (.k (.v (.int .u64 (40))))),oo 60 (.bin .and .none (.t 59) (.k (.v (.int .u64 (255))))),oo 61 (.conv (.int .i64) (.t 60)),om 2 61]
def sN:C:=(sr pj [0] (sr pk [0,3] (ss (ss (.regD pm o0 [0,3,13]) (sc 13 (.regD z7 yS [0,3]) .skip)) (sr pn [0,3] (sr po [0,3] (ss (ss (.regD pq o5 [0,3,53]) (sc 53 (sr z8 [2] .ret) .skip)) (sr Aa [2] .ret)))))))
theorem Cs:cz mH sN [(.tmp 2)] 62:=dh func81 rfl
def jY:=[ok 4 (vI 0)]
def jZ:=[om 6 1,cD 7 .leq 6 1]
def Ab:=[ok 4 (vI 0)]
def pr:=[om 8 0,di 9 mH 8,om 5 9]
def pt:=[om 10 1,cD 11 .gtr 10 200]
def Ac:=[om 12 5,cD 13 .mul 12 256,om 14 0,di 15 mH 14,bM 16 .add 13 15,om 5 16]
def pu:=[om 17 5,om 18 1,bM 19 .rem 17 18,om 4 19]
def mp:C:=(sr jY [0,1] (ss (sr jZ [0,1,7] (sc 7 (sr Ab [4] .ret) .skip)) (sr pr [0,1,5] (ss (sr pt [0,1,5,11] (sc 11 (.reg Ac [1,5]) .skip)) (sr pu [4] .ret)))))
theorem qu:cz aK mp [(.tmp 4)] 20:=dh func45 rfl
def Dw:=[ok 4 (vB false)]
def Dx:=[om 5 0,om 6 1,eo 7 aK 5 6,cD 8 .eql 7 0,om 4 8]
def H5:C:=(sr Dw [0,1] (sr Dx [4] .ret))
theorem Rs:cz d0 H5 [(.tmp 4)] 9:=dh func44 rfl
def vQ:=[ok 4 (vI 0)]
def vR:=[om 5 1,om 6 0,om 7 1,oo 8 (.len false (.t 7)),eo 9 aK 6 8,ep 10 1 5 9,bd 11 1 10,om 4 11]
def Cn:C:=(sr vQ [0,1] (sr vR [4] .ret))
theorem N6:cz a6 Cn [(.tmp 4)] 12:=dh func46 rfl
def p9:=[ok 2 (vI 0)]
def qa:=[om 3 0,oo 4 (.call aK [.t 3,xI 9]),oo 5 (.bin .add .none (xI 1) (.t 4)),om 2 5]
def sP:C:=(sr p9 [0] (sr qa [2] .ret))
theorem HS:cz dI sP [(.tmp 2)] 6:=dh func120 rfl
abbrev U (n:Int):V:=.v (.int .u64 n)
abbrev cB (code:List UInt8) (k:Nat) (s:Int):Blk:=⟨3,[.agg [.ro 1 (code.map Y),I k,U s]]⟩
abbrev cR:V:=.ref (gL 0) 0 0
def ZH (s b:Int):Int:=IntKind.u64.wrap (IntKind.u64.wrap (IntKind.u64.wrap (s * 6364136223846793005)+IntKind.u64.wrap b)+884884)
theorem NG (code:List UInt8) (k:Nat) (s:Int) (hk:k<=1000000000000):∃ (v:Int) (s':Int),(0<=v/\v<=255)/\x4 mH [cB code k s] [cR] (I v) [some (cB code (k+1) s')]:=by
 by_cases hlt:k < code.length
 ·have hb:=UInt8.toNat_lt code[k];have hw:IntKind.i64.wrap (code[k].toNat:Int)=code[k].toNat:=am (by omega);refine⟨code[k].toNat,ZH s code[k].toNat,by omega,?_⟩;refine ac.of Cs (by simp) rfl (by simp) ?_;simp[sN,pj,pk,pm,o0];refine⟨aO (by first | kernel_rfl | simp) (by first | kernel_rfl | simp),fun _=>?_,fun hge=>by omega⟩;simp[z7,yS,hlt,hw];refine⟨aO (by first | kernel_rfl | simp) (by first | kernel_rfl | simp),?_⟩;simp[pn];rw[am (n:=(k:Int)+1) (by omega)];simp[po];simp[pq,o5];refine⟨aO (by first | kernel_rfl | simp) (by first | kernel_rfl | simp),fun h=>?_,fun h=>?_⟩
  ·simp[z8,ZH]
  ·omega
 ·have hge:code.length<=k:=by omega
  obtain ⟨x,hx⟩:∃ x:Nat,((ZH s 0).fdiv (2 ^ min 40 IntKind.u64.bits) % 2 ^ IntKind.u64.bits).toNat &&& (255 % 2 ^ IntKind.u64.bits)=x:=⟨_,rfl⟩
  have hx255:x<=255:=by
   rw[<- hx];have:(255 % 2 ^ IntKind.u64.bits:Nat)=255:=by decide
   rw[this];exact Nat.and_le_right
  have hw:IntKind.i64.wrap (IntKind.u64.wrap (x:Int))=x:=by
   have:IntKind.u64.wrap (x:Int)=x:=by
    have h1:IntKind.u64.signed=false:=rfl;have h2:IntKind.u64.bits=64:=rfl;simp only[IntKind.wrap,h1,h2,Bool.false_and,Bool.false_eq_true,if_false];omega
   rw[this,am (by omega)]
  refine⟨x,ZH s 0,by omega,?_⟩;refine ac.of Cs (by simp) rfl (by simp) ?_;simp[sN,pj,pk,pm,o0];refine⟨aO (by first | kernel_rfl | simp) (by first | kernel_rfl | simp),fun _=>by omega,fun _=>?_⟩;simp[pn];rw[am (n:=(k:Int)+1) (by omega)];simp[po];simp[pq,o5];refine⟨aO (by first | kernel_rfl | simp) (by first | kernel_rfl | simp),fun h=>by omega,fun h=>?_⟩;simp[Aa];refine⟨?_,rfl⟩;rw[<- hw,<- hx];rfl
theorem bj (code:List UInt8) (k:Nat) (s n:Int) (hk:k<=100000000000) (hn:n<=1000000):∃ (v:Int) (k':Nat) (s':Int),((0<=v/\(v < n\/v=0))/\(k<=k'/\k'<=k+2))/\x4 aK [cB code k s] [cR,I n] (I v) [some (cB code k' s')]:=by
 by_cases h1:n<=1
 ·refine⟨0,k,s,by omega,?_⟩;refine ac.of qu (by simp) rfl (by simp) ?_;simp[mp,jY,jZ,Ab,h1]
 obtain ⟨v1,s1,hv1,hM1⟩:=NG code k s (by omega);by_cases h2:n<=200
 ·refine⟨v1.tmod n,k+1,s1,⟨⟨Int.tmod_nonneg _ (by omega),.inl (Int.tmod_lt_of_pos _ (by omega))⟩,by omega⟩,?_⟩;refine ac.of qu (by simp) rfl (by simp) ?_;simp[mp,jY,jZ,h1];simp[pr];refine al (ac.ag hM1) ?_;simp[pt];refine⟨fun h=>by omega,fun _=>?_⟩;simp[pu];omega
 ·obtain ⟨v2,s2,hv2,hM2⟩:=NG code (k+1) s1 (by omega);refine⟨(v1 * 256+v2).tmod n,k+2,s2,⟨⟨Int.tmod_nonneg _ (by omega),.inl (Int.tmod_lt_of_pos _ (by omega))⟩,by omega⟩,?_⟩;refine ac.of qu (by simp) rfl (by simp) ?_;simp[mp,jY,jZ,h1];simp[pr];refine al (ac.ag hM1) ?_;simp[pt];refine⟨fun _=>?_,fun h=>by omega⟩;simp[Ac];rw[am (by omega)];refine al (ac.ag hM2) ?_;simp;rw[am (by omega)];simp[pu];omega
theorem hO (code:List UInt8) (k:Nat) (s n:Int) (hk:k<=100000000000) (hn:n<=1000000):∃ (v:Bool) (k':Nat) (s':Int),(k<=k'/\k'<=k+2)/\x4 d0 [cB code k s] [cR,I n] (B v) [some (cB code k' s')]:=by
 obtain ⟨v,k',s',⟨_,hk'⟩,hM⟩:=bj code k s n hk hn;refine⟨decide (v=0),k',s',hk',?_⟩;refine ac.of Rs (by simp) rfl (by simp) ?_;simp[H5,Dw,Dx];refine al (ac.ag hM) ?_;simp;rfl
theorem bn (code:List UInt8) (k:Nat) (s:Int) (l:List Int) (hk:k<=100000000000) (h0:0 < l.length) (hl:l.length<=100000) :
  ∃ (v:Int) (k':Nat) (s':Int),(v ∈ l/\(k<=k'/\k'<=k+2))/\x4 a6 [cB code k s] [cR,.ro 1 (l.map I)] (I v) [some (cB code k' s')]:=by
 obtain ⟨v,k',s',⟨hv,hk'⟩,hM⟩:=bj code k s l.length hk (by omega);obtain ⟨i,rfl⟩:∃ i:Nat,v=i:=⟨v.toNat,by omega⟩;have hi:i < l.length:=by omega
 refine⟨l[i],k',s',⟨List.getElem_mem _,hk'⟩,?_⟩;refine ac.of N6 (by simp) rfl (by simp) ?_;simp[Cn,vQ,vR];refine al (ac.ag hM) ?_;simp[hi]
theorem j1 (code:List UInt8) (k:Nat) (s:Int) (hk:k<=100000000000):∃ (v:Int) (k':Nat) (s':Int),((1<=v/\v<=9)/\(k<=k'/\k'<=k+2))/\x4 dI [cB code k s] [cR] (I v) [some (cB code k' s')]:=by
 obtain ⟨v,k',s',⟨hv,hk'⟩,hM⟩:=bj code k s 9 hk (by omega);refine⟨1+v,k',s',by omega,?_⟩;refine ac.of HS (by simp) rfl (by simp) ?_;simp[sP,p9,qa];refine al (ac.ag hM) ?_;simp;exact am (by omega)
theorem ai4 {a v:Int} (ha:1<=a/\a<=9) (hv:0<=v/\v<=7):(1<=1+(a+v).tmod 9/\1+(a+v).tmod 9<=9)/\1+(a+v).tmod 9≠a:=by
 rw[Int.tmod_eq_emod_of_nonneg (by omega)];omega
set_option maxHeartbeats 1000000 in
theorem DU (code:List UInt8) (k:Nat) (s:Int) (hk:k<=10000000000):∃ (r0:Field) (k':Nat) (s':Int),(bz r0=true/\(k<=k'/\k'<=k+10))/\x4 fF [cB code k s] [cR] (jw r0) [some (cB code k' s')]:=by
 obtain ⟨v0,k1,s1,⟨hv0,hk0⟩,hM0⟩:=j1 code k s (by omega);obtain ⟨v1,k2,s2,hk1,hM1⟩:=hO code k1 s1 2 (by omega) (by omega);cases v1 with
 | true =>
   refine⟨⟨0,0,v0,0⟩,k2,s2,⟨by simp[bz,fu];omega,by omega⟩,?_⟩;refine ac.of yp (by simp) rfl (by simp) ?_;simp[cF,cd,ce,cf,jo];refine al (ac.ag hM0) ?_;simp[cF,cd,ce,cf,jo];refine al (ac.ag hM1) ?_;simp[cF,cd,ce,cf,jo]
 | false =>
   obtain ⟨v3,k4,s4,⟨hv3,hk3⟩,hM3⟩:=bj code k2 s2 7 (by omega) (by omega);obtain ⟨v4,k5,s5,⟨hv4,hk4⟩,hM4⟩:=bn code k4 s4 [0,0,1,2,3,4] (by omega) (by simp) (by simp);obtain ⟨v5,k6,s6,⟨hv5,hk5⟩,hM5⟩:=bj code k5 s5 8 (by omega) (by omega);have h9:=ai4 (a:=v0) (v:=v5) (by omega) (by omega);have hb4:0<=v4/\v4<=4:=by simp at hv4;omega
   have e1:IntKind.i64.wrap (1+v3)=1+v3:=am (by omega);have e2:IntKind.i64.wrap (v0+v5)=v0+v5:=am (by omega);have e3:IntKind.i64.wrap (1+(v0+v5).tmod 9)=1+(v0+v5).tmod 9:=am (by omega);refine⟨⟨(IntKind.i64.wrap (1+v3)),v4,v0,(IntKind.i64.wrap (1+(Int.tmod (IntKind.i64.wrap (v0+v5)) 9)))⟩,k6,s6,⟨by rw[e1,e2,e3];simp only[bz,fu,if_neg (show ¬(1+v3=0) by omega),Bool.and_eq_true,decide_eq_true_iff,bne_iff_ne];omega,by omega⟩,?_⟩;refine ac.of yp (by simp) rfl (by simp) ?_;simp[cF,cd,ce,cf,dq,du,dv,cT,dw];refine al (ac.ag hM0) ?_;simp[cF,cd,ce,cf,dq,du,dv,cT,dw];refine al (ac.ag hM1) ?_;simp[cF,cd,ce,cf,dq,du,dv,cT,dw];refine al (ac.ag hM3) ?_;simp[cF,cd,ce,cf,dq,du,dv,cT,dw];refine bJ [1000000] [15] (ac.ag hM4) ?_;simp[cF,cd,ce,cf,dq,du,dv,cT,dw];refine ms [1000000] [] (ac.ag hM5) ?_;simp[cF,cd,ce,cf,dq,du,dv,cT,dw];exact aO (by simp[cT]) (by simp)
set_option maxHeartbeats 4000000 in
theorem iR (code:List UInt8) (k:Nat) (s:Int) (hk:k<=10000000000):∃ (r0:Group) (k':Nat) (s':Int),(bw r0=true/\(k<=k'/\k'<=k+8))/\x4 eE [cB code k s] [cR] (gl r0) [some (cB code k' s')]:=by
 obtain ⟨v0,k1,s1,⟨hv0,hk0⟩,hM0⟩:=bn code k s [1,1,2,3,3,4,5,6] (by omega) (by simp) (by simp);obtain ⟨v1,k2,s2,⟨hv1,hk1⟩,hM1⟩:=bj code k1 s1 8 (by omega) (by omega);obtain ⟨v2,k3,s3,⟨hv2,hk2⟩,hM2⟩:=j1 code k2 s2 (by omega);have e1:IntKind.i64.wrap (1+v1)=1+v1:=am (by omega);have hb0:1<=v0/\v0<=6:=by simp at hv0;omega
 by_cases c3:(IntKind.i64.wrap (1+v1))<=3
 ·obtain ⟨v4,k5,s5,⟨hv4,hk4⟩,hM4⟩:=bj code k3 s3 2 (by omega) (by omega)
  refine⟨⟨v0,(IntKind.i64.wrap (1+v1)),(IntKind.i64.wrap (1+v4)),v2⟩,k5,s5,⟨by
   have e4:IntKind.i64.wrap (1+v4)=1+v4:=am (by omega);rw[e1] at c3;simp only[bw,fu,e1,e4,if_pos c3,Bool.and_eq_true,decide_eq_true_iff];omega,by omega⟩,?_⟩
  refine ac.of yq (by simp) rfl (by simp) ?_;simp[bX,bD,bE,bF,dx,bG,c3];refine bJ [1000000] [5] (ac.ag hM0) ?_;simp[bX,bD,bE,bF,dx,bG,c3];refine al (ac.ag hM1) ?_;simp[bX,bD,bE,bF,dx,bG,c3];refine al (ac.ag hM2) ?_;simp[bX,bD,bE,bF,dx,bG,c3];refine af (aa.ag (Oz (IntKind.i64.wrap (1+v1)))) ?_;simp[bX,bD,bE,bF,dx,bG,c3];refine al (ac.ag hM4) ?_;simp[bX,bD,bE,bF,dx,bG,c3]
 ·refine⟨⟨v0,(IntKind.i64.wrap (1+v1)),0,v2⟩,k3,s3,⟨by
   rw[e1] at c3;have hg:bw ⟨v0,1+v1,0,v2⟩=(fu v0 1 6&&fu (1+v1) 1 8&&fu v2 1 9&&(if 1+v1<=3 then fu 0 1 2 else (0:Int)==0)):=rfl;rw[e1,hg,if_neg c3];simp[fu];omega,by omega⟩,?_⟩
  refine ac.of yq (by simp) rfl (by simp) ?_;simp[bX,bD,bE,bF,bG,c3];refine bJ [1000000] [5] (ac.ag hM0) ?_;simp[bX,bD,bE,bF,bG,c3];refine al (ac.ag hM1) ?_;simp[bX,bD,bE,bF,bG,c3];refine al (ac.ag hM2) ?_;simp[bX,bD,bE,bF,bG,c3];refine af (aa.ag (Oz (IntKind.i64.wrap (1+v1)))) ?_;simp[bX,bD,bE,bF,bG,c3]
theorem Hz {f:Field} {g r:Group} {o l t:Int} (hf:bz f=true) (h:(o=0/\l=0/\t=0/\g0 g=true)\/((1<=o/\o<=7)/\(0<=l/\l<=4)/\(1<=t/\t<=9)/\(g0 g||bw g)=true)) (hr:(g0 r||bw r)=true):arms ⟨f,o,l,t,g,r⟩=true:=by
 unfold arms;dsimp only;rw[hf,hr];rcases h with ⟨rfl,rfl,rfl,h⟩ | ⟨h1,h2,h3,h4⟩
 ·simp[h]
 ·rw[if_neg (by omega),h4];simp[fu];omega
set_option maxHeartbeats 4000000 in
theorem Sh (code:List UInt8) (k:Nat) (s:Int) (hk:k<=1000000000):∃ (r0:Arms) (k':Nat) (s':Int),(arms r0=true/\(k<=k'/\k'<=k+38))/\x4 dl [cB code k s] [cR] (dM r0) [some (cB code k' s')]:=by
 obtain ⟨v0,k1,s1,⟨ho0,hk0⟩,hM0⟩:=DU code k s (by omega);obtain ⟨v1,k2,s2,hk1,hM1⟩:=hO code k1 s1 3 (by omega) (by omega);cases v1 with
 | true =>
   obtain ⟨v3,k4,s4,hk3,hM3⟩:=hO code k2 s2 3 (by omega) (by omega);cases v3 with
   | true =>
     refine⟨⟨⟨v0.division,v0.line,v0.first,v0.second⟩,0,0,0,⟨0,0,0,0⟩,⟨0,0,0,0⟩⟩,k4,s4,⟨Hz ho0 (.inl ⟨rfl,rfl,rfl,rfl⟩) rfl,by omega⟩,?_⟩;refine ac.of fE (by simp) rfl (by simp) ?_;simp[an,ah,ai,aj,ak,ae];refine al (ac.ag hM0) ?_;simp[an,ah,ai,aj,ak,ae];refine al (ac.ag hM1) ?_;simp[an,ah,ai,aj,ak,ae];refine al (ac.ag hM3) ?_;simp[an,ah,ai,aj,ak,ae]
   | false =>
     obtain ⟨v5,k6,s6,⟨ho5,hk5⟩,hM5⟩:=iR code k4 s4 (by omega);refine⟨⟨⟨v0.division,v0.line,v0.first,v0.second⟩,0,0,0,⟨0,0,0,0⟩,⟨v5.count,v5.kind,v5.attitude,v5.tincture⟩⟩,k6,s6,⟨Hz ho0 (.inl ⟨rfl,rfl,rfl,rfl⟩) (by rw[show bw ⟨v5.count,v5.kind,v5.attitude,v5.tincture⟩=true from ho5,Bool.or_true]),by omega⟩,?_⟩;refine ac.of fE (by simp) rfl (by simp) ?_;simp[an,ah,ai,aj,ak,aV,ae];refine al (ac.ag hM0) ?_;simp[an,ah,ai,aj,ak,aV,ae];refine al (ac.ag hM1) ?_;simp[an,ah,ai,aj,ak,aV,ae];refine al (ac.ag hM3) ?_;simp[an,ah,ai,aj,ak,aV,ae];refine al (ac.ag hM5) ?_;simp[an,ah,ai,aj,ak,aV,ae]
 | false =>
   obtain ⟨v3,k4,s4,⟨hv3,hk3⟩,hM3⟩:=bj code k2 s2 7 (by omega) (by omega);obtain ⟨v4,k5,s5,⟨hv4,hk4⟩,hM4⟩:=bn code k4 s4 [0,0,0,1,2,3,4] (by omega) (by simp) (by simp);obtain ⟨v5,k6,s6,⟨hv5,hk5⟩,hM5⟩:=j1 code k5 s5 (by omega);obtain ⟨v6,k7,s7,hk6,hM6⟩:=hO code k6 s6 3 (by omega) (by omega);cases v6 with
   | true =>
     obtain ⟨v8,k9,s9,⟨ho8,hk8⟩,hM8⟩:=iR code k7 s7 (by omega);obtain ⟨v9,k10,s10,hk9,hM9⟩:=hO code k9 s9 3 (by omega) (by omega);cases v9 with
     | true =>
       refine⟨⟨⟨v0.division,v0.line,v0.first,v0.second⟩,(IntKind.i64.wrap (1+v3)),v4,v5,⟨v8.count,v8.kind,v8.attitude,v8.tincture⟩,⟨0,0,0,0⟩⟩,k10,s10,⟨Hz ho0 (.inr ⟨by rw[am (by omega)];omega,by simp at hv4;omega,hv5,(by rw[show bw ⟨v8.count,v8.kind,v8.attitude,v8.tincture⟩=true from ho8,Bool.or_true])⟩) rfl,by omega⟩,?_⟩;refine ac.of fE (by simp) rfl (by simp) ?_;simp[an,ah,ai,aj,aq,ar,au,av,bf,ak,ae];refine al (ac.ag hM0) ?_;simp[an,ah,ai,aj,aq,ar,au,av,bf,ak,ae];refine al (ac.ag hM1) ?_;simp[an,ah,ai,aj,aq,ar,au,av,bf,ak,ae];refine al (ac.ag hM3) ?_;simp[an,ah,ai,aj,aq,ar,au,av,bf,ak,ae];refine bJ [1000000] [15] (ac.ag hM4) ?_;simp[an,ah,ai,aj,aq,ar,au,av,bf,ak,ae];refine al (ac.ag hM5) ?_;simp[an,ah,ai,aj,aq,ar,au,av,bf,ak,ae];refine al (ac.ag hM6) ?_;simp[an,ah,ai,aj,aq,ar,au,av,bf,ak,ae];refine al (ac.ag hM8) ?_;simp[an,ah,ai,aj,aq,ar,au,av,bf,ak,ae];refine al (ac.ag hM9) ?_;simp[an,ah,ai,aj,aq,ar,au,av,bf,ak,ae]
     | false =>
       obtain ⟨v11,k12,s12,⟨ho11,hk11⟩,hM11⟩:=iR code k10 s10 (by omega);refine⟨⟨⟨v0.division,v0.line,v0.first,v0.second⟩,(IntKind.i64.wrap (1+v3)),v4,v5,⟨v8.count,v8.kind,v8.attitude,v8.tincture⟩,⟨v11.count,v11.kind,v11.attitude,v11.tincture⟩⟩,k12,s12,⟨Hz ho0 (.inr ⟨by rw[am (by omega)];omega,by simp at hv4;omega,hv5,(by rw[show bw ⟨v8.count,v8.kind,v8.attitude,v8.tincture⟩=true from ho8,Bool.or_true])⟩) (by rw[show bw ⟨v11.count,v11.kind,v11.attitude,v11.tincture⟩=true from ho11,Bool.or_true]),by omega⟩,?_⟩;refine ac.of fE (by simp) rfl (by simp) ?_;simp[an,ah,ai,aj,aq,ar,au,av,bf,ak,aV,ae];refine al (ac.ag hM0) ?_;simp[an,ah,ai,aj,aq,ar,au,av,bf,ak,aV,ae];refine al (ac.ag hM1) ?_;simp[an,ah,ai,aj,aq,ar,au,av,bf,ak,aV,ae];refine al (ac.ag hM3) ?_;simp[an,ah,ai,aj,aq,ar,au,av,bf,ak,aV,ae];refine bJ [1000000] [15] (ac.ag hM4) ?_;simp[an,ah,ai,aj,aq,ar,au,av,bf,ak,aV,ae];refine al (ac.ag hM5) ?_;simp[an,ah,ai,aj,aq,ar,au,av,bf,ak,aV,ae];refine al (ac.ag hM6) ?_;simp[an,ah,ai,aj,aq,ar,au,av,bf,ak,aV,ae];refine al (ac.ag hM8) ?_;simp[an,ah,ai,aj,aq,ar,au,av,bf,ak,aV,ae];refine al (ac.ag hM9) ?_;simp[an,ah,ai,aj,aq,ar,au,av,bf,ak,aV,ae];refine al (ac.ag hM11) ?_;simp[an,ah,ai,aj,aq,ar,au,av,bf,ak,aV,ae]
   | false =>
     obtain ⟨v8,k9,s9,hk8,hM8⟩:=hO code k7 s7 3 (by omega) (by omega);cases v8 with
     | true =>
       refine⟨⟨⟨v0.division,v0.line,v0.first,v0.second⟩,(IntKind.i64.wrap (1+v3)),v4,v5,⟨0,0,0,0⟩,⟨0,0,0,0⟩⟩,k9,s9,⟨Hz ho0 (.inr ⟨by rw[am (by omega)];omega,by simp at hv4;omega,hv5,rfl⟩) rfl,by omega⟩,?_⟩;refine ac.of fE (by simp) rfl (by simp) ?_;simp[an,ah,ai,aj,aq,ar,au,av,ak,ae];refine al (ac.ag hM0) ?_;simp[an,ah,ai,aj,aq,ar,au,av,ak,ae];refine al (ac.ag hM1) ?_;simp[an,ah,ai,aj,aq,ar,au,av,ak,ae];refine al (ac.ag hM3) ?_;simp[an,ah,ai,aj,aq,ar,au,av,ak,ae];refine bJ [1000000] [15] (ac.ag hM4) ?_;simp[an,ah,ai,aj,aq,ar,au,av,ak,ae];refine al (ac.ag hM5) ?_;simp[an,ah,ai,aj,aq,ar,au,av,ak,ae];refine al (ac.ag hM6) ?_;simp[an,ah,ai,aj,aq,ar,au,av,ak,ae];refine al (ac.ag hM8) ?_;simp[an,ah,ai,aj,aq,ar,au,av,ak,ae]
     | false =>
       obtain ⟨v10,k11,s11,⟨ho10,hk10⟩,hM10⟩:=iR code k9 s9 (by omega);refine⟨⟨⟨v0.division,v0.line,v0.first,v0.second⟩,(IntKind.i64.wrap (1+v3)),v4,v5,⟨0,0,0,0⟩,⟨v10.count,v10.kind,v10.attitude,v10.tincture⟩⟩,k11,s11,⟨Hz ho0 (.inr ⟨by rw[am (by omega)];omega,by simp at hv4;omega,hv5,rfl⟩) (by rw[show bw ⟨v10.count,v10.kind,v10.attitude,v10.tincture⟩=true from ho10,Bool.or_true]),by omega⟩,?_⟩;refine ac.of fE (by simp) rfl (by simp) ?_;simp[an,ah,ai,aj,aq,ar,au,av,ak,aV,ae];refine al (ac.ag hM0) ?_;simp[an,ah,ai,aj,aq,ar,au,av,ak,aV,ae];refine al (ac.ag hM1) ?_;simp[an,ah,ai,aj,aq,ar,au,av,ak,aV,ae];refine al (ac.ag hM3) ?_;simp[an,ah,ai,aj,aq,ar,au,av,ak,aV,ae];refine bJ [1000000] [15] (ac.ag hM4) ?_;simp[an,ah,ai,aj,aq,ar,au,av,ak,aV,ae];refine al (ac.ag hM5) ?_;simp[an,ah,ai,aj,aq,ar,au,av,ak,aV,ae];refine al (ac.ag hM6) ?_;simp[an,ah,ai,aj,aq,ar,au,av,ak,aV,ae];refine al (ac.ag hM8) ?_;simp[an,ah,ai,aj,aq,ar,au,av,ak,aV,ae];refine al (ac.ag hM10) ?_;simp[an,ah,ai,aj,aq,ar,au,av,ak,aV,ae]
theorem JO (code:List UInt8) (k:Nat) (s:Int) (hk:k<=10000000000):∃ (r0:Field) (k':Nat) (s':Int),(k<=k'/\k'<=k+10)/\x4 fF [cB code k s] [cR] (jw r0) [some (cB code k' s')]:=by
 obtain ⟨r0,k',s',⟨_,h1⟩,h2⟩:=DU code k s hk;exact⟨r0,k',s',h1,h2⟩
theorem JP (code:List UInt8) (k:Nat) (s:Int) (hk:k<=10000000000):∃ (r0:Group) (k':Nat) (s':Int),(k<=k'/\k'<=k+8)/\x4 eE [cB code k s] [cR] (gl r0) [some (cB code k' s')]:=by
 obtain ⟨r0,k',s',⟨_,h1⟩,h2⟩:=iR code k s hk;exact⟨r0,k',s',h1,h2⟩
set_option maxHeartbeats 4000000 in
theorem Oy (code:List UInt8) (k:Nat) (s:Int) (hk:k<=1000000000):∃ (r0:Field) (k':Nat) (s':Int),(k<=k'/\k'<=k+14)/\x4 lr [cB code k s] [cR] (jw r0) [some (cB code k' s')]:=by
 obtain ⟨v0,k1,s1,hk0,hM0⟩:=JO code k s (by omega);obtain ⟨v1,k2,s2,⟨hv1,hk1⟩,hM1⟩:=bj code k1 s1 24 (by omega) (by omega);by_cases c2:v1=0
 ·obtain ⟨v3,k4,s4,⟨hv3,hk3⟩,hM3⟩:=bn code k2 s2 [-1,8,0,7,1] (by omega) (by simp) (by simp);refine⟨⟨v3,v0.line,v0.first,v0.second⟩,k4,s4,by omega,?_⟩;refine ac.of eH (by simp) rfl (by simp) ?_;simp[a8,aR,aS,aT,aU,ec,aM,c2];refine al (ac.ag hM0) ?_;simp[a8,aR,aS,aT,aU,ec,aM,c2];refine al (ac.ag hM1) ?_;simp[a8,aR,aS,aT,aU,ec,aM,c2];refine bJ [1000000] [11] (ac.ag hM3) ?_;simp[a8,aR,aS,aT,aU,ec,aM,c2]
 ·by_cases c3:v1=1
  ·obtain ⟨v4,k5,s5,⟨hv4,hk4⟩,hM4⟩:=bn code k2 s2 [-1,5,1,4] (by omega) (by simp) (by simp);refine⟨⟨v0.division,v4,v0.first,v0.second⟩,k5,s5,by omega,?_⟩;refine ac.of eH (by simp) rfl (by simp) ?_;simp[a8,aR,aS,aT,aU,bc,ee,aM,c2,c3];refine al (ac.ag hM0) ?_;simp[a8,aR,aS,aT,aU,bc,ee,aM,c2,c3];refine al (ac.ag hM1) ?_;simp[a8,aR,aS,aT,aU,bc,ee,aM,c2,c3];refine bJ [1000000] [17] (ac.ag hM4) ?_;simp[a8,aR,aS,aT,aU,bc,ee,aM,c2,c3]
  ·by_cases c4:v1=2
   ·obtain ⟨v5,k6,s6,⟨hv5,hk5⟩,hM5⟩:=bn code k2 s2 [0,10,9] (by omega) (by simp) (by simp);refine⟨⟨v0.division,v0.line,v5,v0.second⟩,k6,s6,by omega,?_⟩;refine ac.of eH (by simp) rfl (by simp) ?_;simp[a8,aR,aS,aT,aU,bc,bq,ef,aM,c2,c3,c4];refine al (ac.ag hM0) ?_;simp[a8,aR,aS,aT,aU,bc,bq,ef,aM,c2,c3,c4];refine al (ac.ag hM1) ?_;simp[a8,aR,aS,aT,aU,bc,bq,ef,aM,c2,c3,c4];refine bJ [1000000] [23] (ac.ag hM5) ?_;simp[a8,aR,aS,aT,aU,bc,bq,ef,aM,c2,c3,c4]
   ·by_cases c5:v1=3
    ·obtain ⟨v6,k7,s7,⟨hv6,hk6⟩,hM6⟩:=bn code k2 s2 [0,10,v0.first,9] (by omega) (by simp) (by simp);refine⟨⟨v0.division,v0.line,v0.first,v6⟩,k7,s7,by omega,?_⟩;refine ac.of eH (by simp) rfl (by simp) ?_;simp[a8,aR,aS,aT,aU,bc,bq,ck,dG,aM,c2,c3,c4,c5];refine al (ac.ag hM0) ?_;simp[a8,aR,aS,aT,aU,bc,bq,ck,dG,aM,c2,c3,c4,c5];refine al (ac.ag hM1) ?_;simp[a8,aR,aS,aT,aU,bc,bq,ck,dG,aM,c2,c3,c4,c5];refine bJ [1000000] [31] (ac.ag hM6) ?_;simp[a8,aR,aS,aT,aU,bc,bq,ck,dG,aM,c2,c3,c4,c5]
    ·refine⟨⟨v0.division,v0.line,v0.first,v0.second⟩,k2,s2,by omega,?_⟩;refine ac.of eH (by simp) rfl (by simp) ?_;simp[a8,aR,aS,aT,aU,bc,bq,ck,aM,c2,c3,c4,c5];refine al (ac.ag hM0) ?_;simp[a8,aR,aS,aT,aU,bc,bq,ck,aM,c2,c3,c4,c5];refine al (ac.ag hM1) ?_;simp[a8,aR,aS,aT,aU,bc,bq,ck,aM,c2,c3,c4,c5]
set_option maxHeartbeats 4000000 in
theorem AX (code:List UInt8) (k:Nat) (s:Int) (hk:k<=1000000000):∃ (r0:Group) (k':Nat) (s':Int),(k<=k'/\k'<=k+12)/\x4 ij [cB code k s] [cR] (gl r0) [some (cB code k' s')]:=by
 obtain ⟨v0,k1,s1,hk0,hM0⟩:=JP code k s (by omega);obtain ⟨v1,k2,s2,⟨hv1,hk1⟩,hM1⟩:=bj code k1 s1 24 (by omega) (by omega);by_cases c2:v1=0
 ·obtain ⟨v3,k4,s4,⟨hv3,hk3⟩,hM3⟩:=bn code k2 s2 [0,7,-1] (by omega) (by simp) (by simp);refine⟨⟨v3,v0.kind,v0.attitude,v0.tincture⟩,k4,s4,by omega,?_⟩;refine ac.of dA (by simp) rfl (by simp) ?_;simp[aQ,aE,aF,aG,aH,eg,aN,c2];refine al (ac.ag hM0) ?_;simp[aQ,aE,aF,aG,aH,eg,aN,c2];refine al (ac.ag hM1) ?_;simp[aQ,aE,aF,aG,aH,eg,aN,c2];refine bJ [1000000] [11] (ac.ag hM3) ?_;simp[aQ,aE,aF,aG,aH,eg,aN,c2]
 ·by_cases c3:v1=1
  ·obtain ⟨v4,k5,s5,⟨hv4,hk4⟩,hM4⟩:=bn code k2 s2 [0,9,3,4] (by omega) (by simp) (by simp);refine⟨⟨v0.count,v4,v0.attitude,v0.tincture⟩,k5,s5,by omega,?_⟩;refine ac.of dA (by simp) rfl (by simp) ?_;simp[aQ,aE,aF,aG,aH,aW,ei,aN,c2,c3];refine al (ac.ag hM0) ?_;simp[aQ,aE,aF,aG,aH,aW,ei,aN,c2,c3];refine al (ac.ag hM1) ?_;simp[aQ,aE,aF,aG,aH,aW,ei,aN,c2,c3];refine bJ [1000000] [17] (ac.ag hM4) ?_;simp[aQ,aE,aF,aG,aH,aW,ei,aN,c2,c3]
  ·by_cases c4:v1=2
   ·obtain ⟨v5,k6,s6,⟨hv5,hk5⟩,hM5⟩:=bn code k2 s2 [0,1,2,3,-1] (by omega) (by simp) (by simp);refine⟨⟨v0.count,v0.kind,v5,v0.tincture⟩,k6,s6,by omega,?_⟩;refine ac.of dA (by simp) rfl (by simp) ?_;simp[aQ,aE,aF,aG,aH,aW,bi,el,aN,c2,c3,c4];refine al (ac.ag hM0) ?_;simp[aQ,aE,aF,aG,aH,aW,bi,el,aN,c2,c3,c4];refine al (ac.ag hM1) ?_;simp[aQ,aE,aF,aG,aH,aW,bi,el,aN,c2,c3,c4];refine bJ [1000000] [23] (ac.ag hM5) ?_;simp[aQ,aE,aF,aG,aH,aW,bi,el,aN,c2,c3,c4]
   ·by_cases c5:v1=3
    ·obtain ⟨v6,k7,s7,⟨hv6,hk6⟩,hM6⟩:=bn code k2 s2 [0,10] (by omega) (by simp) (by simp);refine⟨⟨v0.count,v0.kind,v0.attitude,v6⟩,k7,s7,by omega,?_⟩;refine ac.of dA (by simp) rfl (by simp) ?_;simp[aQ,aE,aF,aG,aH,aW,bi,bv,dH,aN,c2,c3,c4,c5];refine al (ac.ag hM0) ?_;simp[aQ,aE,aF,aG,aH,aW,bi,bv,dH,aN,c2,c3,c4,c5];refine al (ac.ag hM1) ?_;simp[aQ,aE,aF,aG,aH,aW,bi,bv,dH,aN,c2,c3,c4,c5];refine bJ [1000000] [29] (ac.ag hM6) ?_;simp[aQ,aE,aF,aG,aH,aW,bi,bv,dH,aN,c2,c3,c4,c5]
    ·by_cases c6:v1=4
     ·refine⟨⟨0,0,0,0⟩,k2,s2,by omega,?_⟩;refine ac.of dA (by simp) rfl (by simp) ?_;simp[aQ,aE,aF,aG,aH,aW,bi,bv,cq,fw,c2,c3,c4,c5,c6];refine al (ac.ag hM0) ?_;simp[aQ,aE,aF,aG,aH,aW,bi,bv,cq,fw,c2,c3,c4,c5,c6];refine al (ac.ag hM1) ?_;simp[aQ,aE,aF,aG,aH,aW,bi,bv,cq,fw,c2,c3,c4,c5,c6]
     ·refine⟨⟨v0.count,v0.kind,v0.attitude,v0.tincture⟩,k2,s2,by omega,?_⟩;refine ac.of dA (by simp) rfl (by simp) ?_;simp[aQ,aE,aF,aG,aH,aW,bi,bv,cq,aN,c2,c3,c4,c5,c6];refine al (ac.ag hM0) ?_;simp[aQ,aE,aF,aG,aH,aW,bi,bv,cq,aN,c2,c3,c4,c5,c6];refine al (ac.ag hM1) ?_;simp[aQ,aE,aF,aG,aH,aW,bi,bv,cq,aN,c2,c3,c4,c5,c6]
theorem sw (code:List UInt8) (k:Nat) (s:Int) (hk:k<=1000000000):∃ (r0:Arms) (k':Nat) (s':Int),(k<=k'/\k'<=k+38)/\x4 dl [cB code k s] [cR] (dM r0) [some (cB code k' s')]:=by
 obtain ⟨r0,k',s',⟨_,h1⟩,h2⟩:=Sh code k s hk;exact⟨r0,k',s',h1,h2⟩
set_option maxHeartbeats 4000000 in
theorem DT (code:List UInt8) (k:Nat) (s:Int) (hk:k<=100000000):∃ (r0:Arms) (k':Nat) (s':Int),(k<=k'/\k'<=k+54)/\x4 jj [cB code k s] [cR] (dM r0) [some (cB code k' s')]:=by
 obtain ⟨v0,k1,s1,hk0,hM0⟩:=sw code k s (by omega);obtain ⟨v1,k2,s2,⟨hv1,hk1⟩,hM1⟩:=bj code k1 s1 24 (by omega) (by omega);by_cases c2:v1=0
 ·obtain ⟨v3,k4,s4,hk3,hM3⟩:=Oy code k2 s2 (by omega);refine⟨⟨⟨v3.division,v3.line,v3.first,v3.second⟩,v0.ordinary,v0.line,v0.tincture,⟨v0.on.count,v0.on.kind,v0.on.attitude,v0.on.tincture⟩,⟨v0.around.count,v0.around.kind,v0.around.attitude,v0.around.tincture⟩⟩,k4,s4,by omega,?_⟩;refine ac.of db (by simp) rfl (by simp) ?_;simp[aD,ay,az,aA,aB,eK,ax,c2];refine al (ac.ag hM0) ?_;simp[aD,ay,az,aA,aB,eK,ax,c2];refine al (ac.ag hM1) ?_;simp[aD,ay,az,aA,aB,eK,ax,c2];refine al (ac.ag hM3) ?_;simp[aD,ay,az,aA,aB,eK,ax,c2]
 ·by_cases c3:v1=1
  ·obtain ⟨v4,k5,s5,⟨hv4,hk4⟩,hM4⟩:=bn code k2 s2 [-1,8,0,7] (by omega) (by simp) (by simp);refine⟨⟨⟨v0.field.division,v0.field.line,v0.field.first,v0.field.second⟩,v4,v0.line,v0.tincture,⟨v0.on.count,v0.on.kind,v0.on.attitude,v0.on.tincture⟩,⟨v0.around.count,v0.around.kind,v0.around.attitude,v0.around.tincture⟩⟩,k5,s5,by omega,?_⟩;refine ac.of db (by simp) rfl (by simp) ?_;simp[aD,ay,az,aA,aB,aI,eL,ax,c2,c3];refine al (ac.ag hM0) ?_;simp[aD,ay,az,aA,aB,aI,eL,ax,c2,c3];refine al (ac.ag hM1) ?_;simp[aD,ay,az,aA,aB,aI,eL,ax,c2,c3];refine bJ [1000000] [16] (ac.ag hM4) ?_;simp[aD,ay,az,aA,aB,aI,eL,ax,c2,c3]
  ·by_cases c4:v1=2
   ·obtain ⟨v5,k6,s6,⟨hv5,hk5⟩,hM5⟩:=bn code k2 s2 [-1,5,1] (by omega) (by simp) (by simp);refine⟨⟨⟨v0.field.division,v0.field.line,v0.field.first,v0.field.second⟩,v0.ordinary,v5,v0.tincture,⟨v0.on.count,v0.on.kind,v0.on.attitude,v0.on.tincture⟩,⟨v0.around.count,v0.around.kind,v0.around.attitude,v0.around.tincture⟩⟩,k6,s6,by omega,?_⟩;refine ac.of db (by simp) rfl (by simp) ?_;simp[aD,ay,az,aA,aB,aI,aX,eM,ax,c2,c3,c4];refine al (ac.ag hM0) ?_;simp[aD,ay,az,aA,aB,aI,aX,eM,ax,c2,c3,c4];refine al (ac.ag hM1) ?_;simp[aD,ay,az,aA,aB,aI,aX,eM,ax,c2,c3,c4];refine bJ [1000000] [22] (ac.ag hM5) ?_;simp[aD,ay,az,aA,aB,aI,aX,eM,ax,c2,c3,c4]
   ·by_cases c5:v1=3
    ·obtain ⟨v6,k7,s7,⟨hv6,hk6⟩,hM6⟩:=bn code k2 s2 [0,10,3] (by omega) (by simp) (by simp);refine⟨⟨⟨v0.field.division,v0.field.line,v0.field.first,v0.field.second⟩,v0.ordinary,v0.line,v6,⟨v0.on.count,v0.on.kind,v0.on.attitude,v0.on.tincture⟩,⟨v0.around.count,v0.around.kind,v0.around.attitude,v0.around.tincture⟩⟩,k7,s7,by omega,?_⟩;refine ac.of db (by simp) rfl (by simp) ?_;simp[aD,ay,az,aA,aB,aI,aX,bg,d9,ax,c2,c3,c4,c5];refine al (ac.ag hM0) ?_;simp[aD,ay,az,aA,aB,aI,aX,bg,d9,ax,c2,c3,c4,c5];refine al (ac.ag hM1) ?_;simp[aD,ay,az,aA,aB,aI,aX,bg,d9,ax,c2,c3,c4,c5];refine bJ [1000000] [28] (ac.ag hM6) ?_;simp[aD,ay,az,aA,aB,aI,aX,bg,d9,ax,c2,c3,c4,c5]
    ·by_cases c6:v1=4
     ·obtain ⟨v7,k8,s8,hk7,hM7⟩:=AX code k2 s2 (by omega);refine⟨⟨⟨v0.field.division,v0.field.line,v0.field.first,v0.field.second⟩,v0.ordinary,v0.line,v0.tincture,⟨v7.count,v7.kind,v7.attitude,v7.tincture⟩,⟨v0.around.count,v0.around.kind,v0.around.attitude,v0.around.tincture⟩⟩,k8,s8,by omega,?_⟩;refine ac.of db (by simp) rfl (by simp) ?_;simp[aD,ay,az,aA,aB,aI,aX,bg,bp,ea,ax,c2,c3,c4,c5,c6];refine al (ac.ag hM0) ?_;simp[aD,ay,az,aA,aB,aI,aX,bg,bp,ea,ax,c2,c3,c4,c5,c6];refine al (ac.ag hM1) ?_;simp[aD,ay,az,aA,aB,aI,aX,bg,bp,ea,ax,c2,c3,c4,c5,c6];refine al (ac.ag hM7) ?_;simp[aD,ay,az,aA,aB,aI,aX,bg,bp,ea,ax,c2,c3,c4,c5,c6]
     ·by_cases c7:v1=5
      ·obtain ⟨v8,k9,s9,hk8,hM8⟩:=AX code k2 s2 (by omega);refine⟨⟨⟨v0.field.division,v0.field.line,v0.field.first,v0.field.second⟩,v0.ordinary,v0.line,v0.tincture,⟨v0.on.count,v0.on.kind,v0.on.attitude,v0.on.tincture⟩,⟨v8.count,v8.kind,v8.attitude,v8.tincture⟩⟩,k9,s9,by omega,?_⟩;refine ac.of db (by simp) rfl (by simp) ?_;simp[aD,ay,az,aA,aB,aI,aX,bg,bp,cj,eb,ax,c2,c3,c4,c5,c6,c7];refine al (ac.ag hM0) ?_;simp[aD,ay,az,aA,aB,aI,aX,bg,bp,cj,eb,ax,c2,c3,c4,c5,c6,c7];refine al (ac.ag hM1) ?_;simp[aD,ay,az,aA,aB,aI,aX,bg,bp,cj,eb,ax,c2,c3,c4,c5,c6,c7];refine al (ac.ag hM8) ?_;simp[aD,ay,az,aA,aB,aI,aX,bg,bp,cj,eb,ax,c2,c3,c4,c5,c6,c7]
      ·refine⟨⟨⟨v0.field.division,v0.field.line,v0.field.first,v0.field.second⟩,v0.ordinary,v0.line,v0.tincture,⟨v0.on.count,v0.on.kind,v0.on.attitude,v0.on.tincture⟩,⟨v0.around.count,v0.around.kind,v0.around.attitude,v0.around.tincture⟩⟩,k2,s2,by omega,?_⟩;refine ac.of db (by simp) rfl (by simp) ?_;simp[aD,ay,az,aA,aB,aI,aX,bg,bp,cj,ax,c2,c3,c4,c5,c6,c7];refine al (ac.ag hM0) ?_;simp[aD,ay,az,aA,aB,aI,aX,bg,bp,cj,ax,c2,c3,c4,c5,c6,c7];refine al (ac.ag hM1) ?_;simp[aD,ay,az,aA,aB,aI,aX,bg,bp,cj,ax,c2,c3,c4,c5,c6,c7]
def FW:=[ok 4 (vS [])]
def FX:=[om 5 1,om 6 0,om 7 1,oo 8 (.len false (.t 7)),eo 9 aK 6 8,ep 10 1 5 9,bd 11 1 10,om 4 11]
def K7:C:=(sr FW [0,1] (sr FX [4] .ret))
theorem SO:cz mI K7 [(.tmp 4)] 12:=dh func76 rfl
theorem Si (code:List UInt8) (k:Nat) (s:Int) (l:List (List UInt8)) (hk:k<=100000000000) (h0:0 < l.length) (hl:l.length<=100000) :
  ∃ (v:List UInt8) (k':Nat) (s':Int),(v ∈ l/\(k<=k'/\k'<=k+2))/\x4 mI [cB code k s] [cR,.ro 1 (l.map S)] (S v) [some (cB code k' s')]:=by
 obtain ⟨v,k',s',⟨hv,hk'⟩,hM⟩:=bj code k s l.length hk (by omega);obtain ⟨i,rfl⟩:∃ i:Nat,v=i:=⟨v.toNat,by omega⟩;have hi:i < l.length:=by omega
 refine⟨l[i],k',s',⟨List.getElem_mem _,hk'⟩,?_⟩;refine ac.of SO (by simp) rfl (by simp) ?_;simp[K7,FW,FX];refine al (ac.ag hM) ?_;simp[hi]
set_option maxHeartbeats 4000000 in
theorem NF (code:List UInt8) (k:Nat) (s:Int) (a:Arms) (hk:k<=100000000):∃ (b:Arms) (k':Nat) (s':Int),(k<=k'/\k'<=k+50)/\x4 jB [cB code k s] [cR,dM a] (dM b) [some (cB code k' s')]:=by
 obtain ⟨v,k1,s1,⟨hv,hk1⟩,hM1⟩:=bj code k s 7 (by omega) (by omega);have hcs:v=0\/v=1\/v=2\/v=3\/v=4\/v=5\/v=6:=by omega
 rcases hcs with rfl | rfl | rfl | rfl | rfl | rfl | rfl
 ·obtain ⟨f,k2,s2,hk2,hM2⟩:=JO code k1 s1 (by omega);refine⟨⟨f,a.ordinary,a.line,a.tincture,a.on,a.around⟩,k2,s2,by omega,?_⟩;refine ac.of cH (by simp) rfl (by simp) ?_;simp[cA,bZ,b5,b6];refine al (ac.ag hM1) ?_;simp[b7,zY];refine al (ac.ag hM2) ?_;simp[bP]
 ·by_cases ho:0 < a.ordinary
  ·obtain ⟨f,k2,s2,⟨_,hk2⟩,hM2⟩:=j1 code k1 s1 (by omega);refine⟨⟨a.field,a.ordinary,a.line,f,a.on,a.around⟩,k2,s2,by omega,?_⟩;refine ac.of cH (by simp) rfl (by simp) ?_;simp[cA,bZ,b5,b6];refine al (ac.ag hM1) ?_;simp[b7,cp,pi,zZ,ho];refine al (ac.ag hM2) ?_;simp[bP]
  ·refine⟨a,k1,s1,by omega,?_⟩;refine ac.of cH (by simp) rfl (by simp) ?_;simp[cA,bZ,b5,b6];refine al (ac.ag hM1) ?_;simp[b7,cp,pi,bP,ho]
 ·obtain ⟨f,k2,s2,hk2,hM2⟩:=JP code k1 s1 (by omega);refine⟨⟨a.field,a.ordinary,a.line,a.tincture,a.on,f⟩,k2,s2,by omega,?_⟩;refine ac.of cH (by simp) rfl (by simp) ?_;simp[cA,bZ,b5,b6];refine al (ac.ag hM1) ?_;simp[b7,cp,df,z6];refine al (ac.ag hM2) ?_;simp[bP]
 ·by_cases ho:0 < a.ordinary
  ·obtain ⟨f,k2,s2,⟨_,hk2⟩,hM2⟩:=bj code k1 s1 7 (by omega) (by omega);refine⟨⟨a.field,1+f,a.line,a.tincture,a.on,a.around⟩,k2,s2,by omega,?_⟩;refine ac.of cH (by simp) rfl (by simp) ?_;simp[cA,bZ,b5,b6];refine al (ac.ag hM1) ?_;simp[b7,cp,df,dy,nq,vT,ho];refine al (ac.ag hM2) ?_;simp;rw[am (by omega)];simp[bP]
  ·refine⟨a,k1,s1,by omega,?_⟩;refine ac.of cH (by simp) rfl (by simp) ?_;simp[cA,bZ,b5,b6];refine al (ac.ag hM1) ?_;simp[b7,cp,df,dy,nq,bP,ho]
 ·obtain ⟨b,k2,s2,hk2,hM2⟩:=sw code k1 s1 (by omega);refine⟨b,k2,s2,by omega,?_⟩;refine ac.of cH (by simp) rfl (by simp) ?_;simp[cA,bZ,b5,b6];refine al (ac.ag hM1) ?_;simp[b7,cp,df,dy,fU,vU];refine al (ac.ag hM2) ?_;simp[bP]
 ·cases hr:g0 a.around with
  | false =>
    obtain ⟨f,k2,s2,⟨_,hk2⟩,hM2⟩:=bj code k1 s1 6 (by omega) (by omega);refine⟨⟨a.field,a.ordinary,a.line,a.tincture,a.on,⟨1+f,a.around.kind,a.around.attitude,a.around.tincture⟩⟩,k2,s2,by omega,?_⟩;refine ac.of cH (by simp) rfl (by simp) ?_;simp[cA,bZ,b5,b6];refine al (ac.ag hM1) ?_;simp[b7,cp,df,dy,fU,jp,nr];refine af (aa.ag (jM a.around)) ?_;simp[hr,vV];refine al (ac.ag hM2) ?_;simp;rw[am (by omega)];simp[bP]
  | true =>
    refine⟨a,k1,s1,by omega,?_⟩;refine ac.of cH (by simp) rfl (by simp) ?_;simp[cA,bZ,b5,b6];refine al (ac.ag hM1) ?_;simp[b7,cp,df,dy,fU,jp,nr];refine af (aa.ag (jM a.around)) ?_;simp[hr,bP]
 ·refine⟨a,k1,s1,by omega,?_⟩;refine ac.of cH (by simp) rfl (by simp) ?_;simp[cA,bZ,b5,b6];refine al (ac.ag hM1) ?_;simp[b7,cp,df,dy,fU,jp,bP]
def sR (r:aZ) (b:Arms) (i:Nat):List Int:=(r.take i).filterMap fun g=>if jh g.arms b < 2 then some g.number else none
theorem Tq (r:aZ) (b:Arms) (i:Nat):(sR r b i).length<=i:=by
 have h:=List.length_filterMap_le (fun g:Grant=>if jh g.arms b < 2 then some g.number else none) (r.take i);rw[List.length_take] at h;unfold sR;omega
theorem X7 {r:aZ} {b:Arms} {i:Nat} (h:i < List.length r):sR r b (i+1)=sR r b i++(if jh (r[i]'h).arms b < 2 then [(r[i]'h).number] else []):=by
 unfold sR;rw[br (l:=(r:List Grant)) h,List.filterMap_append];congr 1;rw[List.filterMap_cons];split<;>split<;>simp_all
theorem Sg (r:aZ) (b:Arms) (hr:List.length r<=100):cJ oN [be r,dM b] (.own 1 (gu (sR r b (List.length r)))):=by
 refine aa.of Ll (by simp) ?_;simp[yf,tV,tW,tX];refine ci (fun i:Nat=>⟨[(2,.ref 2 0 0),(3,.ref 3 0 0),(5,.sl 7 0 (sR r b i).length),(6,I i)],[(2,⟨1,[be r]⟩),(3,⟨15,[dM b]⟩),(7,⟨1,gu (sR r b i)⟩)],[]⟩) (fun i=>List.length r - i) (fun i=>i<=List.length r) 0 (Wk.list rfl (by simp[sR]) (by simp[sR])) (by simp) ?_;intro i hi K hN hR hE;have hcl:=Tq r b i;simp[tc,tY];refine⟨fun hlt=>?_,fun hge=>?_⟩
 ·have hcs:=X7 (b:=b) hlt;simp[tZ,ip,hlt];refine bu (aa.ag (xY (r[i]'hlt).arms b)) ?_;by_cases hd:jh (r[i]'hlt).arms b < 2
  ·rw[if_pos hd] at hcs;simp[hd];refine⟨aO (by simp[ip]) (by simp),?_⟩;simp[t6,ly,hlt];refine⟨by unfold ba;omega,?_⟩;rw[am (by omega)];refine hN (i+1) _ (by omega) (by omega) (Wk.trans (Wk.ren 31 7 (by decide) (by simp)) (Wk.list rfl ?_ ?_))
   ·simp[AS.ren,B8,B7,hcs]
   ·simp[AS.ren,B8,B7,su,hcs]
  ·rw[if_neg hd] at hcs;simp[hd];refine⟨aO (by simp[ip]) (by simp),?_⟩;simp[ly];rw[am (by omega)];refine hN (i+1) _ (by omega) (by omega) (Wk.list rfl ?_ ?_)
   ·simp[hcs]
   ·simp[hcs]
 ·obtain rfl:i=List.length r:=by omega
  refine hE _ _ ?_;simp only[aL];simp[t7]
theorem Zt {A:Type} {R:A->A->Prop} {ok:Nat->A->Prop} (a0:A) (N:Nat) (h0:ok 0 a0) (h:∀ n a,n < N->ok n a->∃ a',R a a'/\ok (n+1) a') :
  ∃ t:Nat->A,t 0=a0/\(∀ n,n<=N->ok n (t n))/\∀ n,n < N->R (t n) (t (n+1)):=by
 classical
 let nxt:Nat->A->A:=fun n a=>if hh:n < N/\ok n a then (h n a hh.1 hh.2).choose else a
 let t:Nat->A:=fun n=>Nat.rec a0 (fun n a=>nxt n a) n
 have key:∀ n,n<=N->ok n (t n):=by
  intro n
  induction n with
  | zero=>intro _;exact h0
  | succ n ih =>
    intro hn;have hk:=ih (by omega)
    have e:t (n+1)=(h n (t n) (by omega) hk).choose:=by
     show nxt n (t n)=_;exact dif_pos ⟨by omega,hk⟩
    rw[e];exact(h n (t n) (by omega) hk).choose_spec.2
 refine⟨t,rfl,key,fun n hn=>?_⟩;have hk:=key n (by omega)
 have e:t (n+1)=(h n (t n) hn hk).choose:=by
  show nxt n (t n)=_;exact dif_pos ⟨hn,hk⟩
 rw[e];exact(h n (t n) hn hk).choose_spec.1
theorem ab6 {p:Nat->Prop}:∀ {n:Nat},p n->∃ m,m<=n/\p m/\∀ j,j < m->¬p j:=by
 intro n
 induction n using Nat.strongRecOn with
 | ind n ih =>
   intro h;by_cases hx:∃ j,j < n/\p j
   ·obtain ⟨j,hj,hp⟩:=hx;obtain ⟨m,h1,h2,h3⟩:=ih j hj hp;exact⟨m,by omega,h2,h3⟩
   ·exact⟨n,by omega,h,fun j hj hp=>hx ⟨j,hj,hp⟩⟩
structure RegSt where
 l:List Grant
 year:Int
 num:Int
 k:Nat
 s:Int
def W0:List (List UInt8):=[[65,115,104,101],[66,114,111,111,107],[67,111,108,101],[68,117,110,110]]
def Zf (code:List UInt8) (a:Arms) (u v:RegSt):Prop:=∃ (b0:Arms) (ka:Nat) (sa:Int) (o:Bool) (kb:Nat) (sb:Int) (b1:Arms) (kc:Nat) (sc:Int),
 x4 jB [cB code u.k u.s] [cR,dM a] (dM b0) [some (cB code ka sa)] /\
 x4 d0 [cB code ka sa] [cR,I 2] (B o) [some (cB code kb sb)] /\
 ((o=false/\b1=b0/\kc=kb/\sc=sb)\/(o=true/\x4 dl [cB code kb sb] [cR] (dM b1) [some (cB code kc sc)])) /\
 ((0 < (sR u.l b1 (List.length u.l)).length/\v=⟨u.l,u.year,u.num,kc,sc⟩) \/
  ((sR u.l b1 (List.length u.l)).length=0/\∃ (p:Int) (kd:Nat) (sd:Int) (q:Int) (ke:Nat) (se:Int) (n:List UInt8) (kf:Nat) (sf:Int),((0<=p/\p < 20)/\(0<=q/\q < 2)) /\
   x4 aK [cB code kc sc] [cR,I 20] (I p) [some (cB code kd sd)] /\
   x4 aK [cB code kd sd] [cR,I 2] (I q) [some (cB code ke se)] /\
   x4 mI [cB code ke se] [cR,.ro 1 (W0.map S)] (S n) [some (cB code kf sf)] /\
   v=⟨u.l++[⟨u.num+1+q,n,u.year+p,b1⟩],u.year+p,u.num+1+q,kf,sf⟩))
theorem YH (code:List UInt8) (a:Arms) (u:RegSt) (hu:u.k<=10000000):∃ v,Zf code a u v/\(List.length v.l<=List.length u.l+1/\(u.year<=v.year/\v.year<=u.year+20)/\(u.num<=v.num/\v.num<=u.num+2)/\(u.k<=v.k/\v.k<=u.k+120)/\∀ g ∈ v.l,g ∈ u.l\/g.number=v.num):=by
 obtain ⟨b0,ka,sa,h1,hM1⟩:=NF code u.k u.s a (by omega);obtain ⟨o,kb,sb,h2,hM2⟩:=hO code ka sa 2 (by omega) (by omega)
 obtain ⟨b1,kc,sc,h3,hk3⟩:∃ (b1:Arms) (kc:Nat) (sc:Int),((o=false/\b1=b0/\kc=kb/\sc=sb)\/(o=true/\x4 dl [cB code kb sb] [cR] (dM b1) [some (cB code kc sc)]))/\(kb<=kc/\kc<=kb+38):=by
  cases o with
  | false=>exact⟨b0,kb,sb,.inl ⟨rfl,rfl,rfl,rfl⟩,by omega⟩
  | true =>
    obtain ⟨b1,kc,sc,h3,hM3⟩:=sw code kb sb (by omega);exact⟨b1,kc,sc,.inr ⟨rfl,hM3⟩,h3⟩
 by_cases hc:(sR u.l b1 (List.length u.l)).length=0
 ·obtain ⟨p,kd,sd,⟨hp,h4⟩,hM4⟩:=bj code kc sc 20 (by omega) (by omega);obtain ⟨q,ke,se,⟨hq,h5⟩,hM5⟩:=bj code kd sd 2 (by omega) (by omega);obtain ⟨n,kf,sf,⟨_,h6⟩,hM6⟩:=Si code ke se W0 (by omega) (by simp[W0]) (by simp[W0])
  exact⟨⟨u.l++[⟨u.num+1+q,n,u.year+p,b1⟩],u.year+p,u.num+1+q,kf,sf⟩,⟨b0,ka,sa,o,kb,sb,b1,kc,sc,hM1,hM2,h3,.inr ⟨hc,p,kd,sd,q,ke,se,n,kf,sf,by omega,hM4,hM5,hM6,rfl⟩⟩,
   by simp,by dsimp only;omega,by dsimp only;omega,by dsimp only;omega,fun g hg=>by
    rcases List.mem_append.1 hg with h | h
    ·exact .inl h
    ·exact .inr (by rw[List.mem_singleton.1 h])⟩
 ·exact⟨⟨u.l,u.year,u.num,kc,sc⟩,⟨b0,ka,sa,o,kb,sb,b1,kc,sc,hM1,hM2,h3,.inl ⟨by omega,rfl⟩⟩,by simp,by dsimp only;omega,by dsimp only;omega,by dsimp only;omega,fun g hg=>.inl hg⟩
def TQ (l:aZ):Prop:=∀ g ∈ l,0<=g.number/\g.number<=2000
def KD (code:List UInt8) (ul:aZ) (uy un:Int) (N j:Nat) (a b1:Arms) (kc:Nat) (sc:Int):AS :=
 ⟨[(0,cR),(2,.ref 2 0 0),(3,.ref 3 0 0),(4,I uy),(5,I un),(6,.ref 6 0 0),(7,I ((N:Int) - j)),(8,.ref 8 0 0)],[(1000000,cB code kc sc),(2,⟨1,[.agg [.v (.slice none 0 0)]]⟩),(3,⟨1,[.agg [.sl 9 0 (List.length ul)]]⟩),(9,⟨18,List.map aY ul⟩),(6,⟨15,[dM a]⟩),(8,⟨15,[dM b1]⟩)],[1000000]⟩
set_option maxHeartbeats 4000000 in
theorem NH (code:List UInt8) (k:Nat) (s:Int) (hk:k<=1000000):∃ (l:aZ) (k':Nat) (s':Int),((List.length l<=6/\TQ l)/\(k<=k'/\k'<=k+1000)) /\
  x4 ls [cB code k s] [cR] (oR l) [some (cB code k' s')]:=by
 obtain ⟨y,k1,s1,⟨hy,hk1⟩,hM1⟩:=bj code k s 100 (by omega) (by omega);obtain ⟨a,k2,s2,hk2,hM2⟩:=sw code k1 s1 (by omega);obtain ⟨c,k3,s3,⟨hc,hk3⟩,hM3⟩:=bj code k2 s2 6 (by omega) (by omega);obtain ⟨N,rfl⟩:∃ N:Nat,c=N:=⟨c.toNat,by omega⟩
 obtain ⟨t,ht0,htok,htR⟩:=Zt (R:=Zf code a) (ok:=fun n u=>List.length u.l<=n/\(1500<=u.year/\u.year<=1600+20 * (n:Int))/\(0<=u.num/\u.num<=2 * (n:Int))/\(k3<=u.k/\u.k<=k3+120 * n)/\TQ u.l) ⟨[],1500+y,0,k3,s3⟩ N ⟨by simp,by dsimp only;omega,by dsimp only;omega,by dsimp only;omega,by simp[TQ]⟩
  (fun n u hn hu=>by
   obtain ⟨v,h1,h2,h3,h4,h5,h6⟩:=YH code a u (by omega);refine⟨v,h1,by omega,by omega,by omega,by omega,fun g hg=>?_⟩;rcases h6 g hg with h | h
   ·exact hu.2.2.2.2 g h
   ·omega)
 have htN:=htok N (by omega);refine⟨(t N).l,(t N).k,(t N).s,⟨⟨by omega,htN.2.2.2.2⟩,by omega⟩,?_⟩;refine ac.of HR (by simp) rfl (by simp) ?_;simp[sO,pW,pX,pY];refine al (ac.ag hM1) ?_;simp;rw[am (by omega)];simp[pZ];refine al (ac.ag hM2) ?_;simp[p3];refine al (ac.ag hM3) ?_;simp
 refine ci (fun j:Nat=>⟨[(0,cR),(2,.ref 2 0 0),(3,.ref 3 0 0),(4,I (t j).year),(5,I (t j).num),(6,.ref 6 0 0),(7,I ((N:Int) - j))],[(1000000,cB code (t j).k (t j).s),(2,⟨1,[.agg [.v (.slice none 0 0)]]⟩),(3,⟨1,[.agg [.sl 9 0 (t j).l.length]]⟩),(9,⟨18,(t j).l.map aY⟩),(6,⟨15,[dM a]⟩)],[1000000]⟩)
  (fun j=>N - j) (fun j=>j<=N) 0 (Wk.list rfl (by simp[ht0]) (by simp[ht0])) (by simp) ?_
 intro j hj K hN hR hE;obtain ⟨hul,huy,hun,huk,_⟩:=htok j hj;simp[nU,p4];refine⟨fun hlt=>?_,fun hge=>?_⟩
 ·obtain ⟨b0,ka,sa,o,kb,sb,b1,kc,sc,hMa,hMb,harm,hend⟩:=htR j hlt;obtain ⟨u,hu⟩:∃ u,t j=u:=⟨_,rfl⟩;obtain ⟨v,hv⟩:∃ v,t (j+1)=v:=⟨_,rfl⟩;rw[hu] at hul huy hun huk hMa hend ⊢;rw[hv] at hend;obtain ⟨ul,uy,un,uk,us⟩:=u;dsimp only at hul huy hun huk hMa hend ⊢;simp[p5];refine al (ac.ag hMa) ?_;simp[p6];refine al (ac.ag hMb) ?_;have hcnt:=Tq ul b1 (List.length ul);rcases harm with ⟨rfl,rfl,rfl,rfl⟩ | ⟨rfl,hMc⟩
  case' inl =>
   simp;refine dY (KD code ul uy un N j a b1 kc sc) (Wk.list rfl (by simp[KD]) (by simp[KD])) ?_
  case' inr =>
   simp[p7];refine al (ac.ag hMc) ?_;simp;refine dY (KD code ul uy un N j a b1 kc sc) (Wk.list rfl (by simp[KD]) (by simp[KD])) ?_
  all_goals
   have hcf:=Sg ul b1 (by omega);simp[KD,p8];refine bN (aa.at hcf) ?_;rcases hend with ⟨hpos,rfl⟩ | ⟨hzero,p,kd,sd,q,ke,se,n,kf,sf,⟨hp,hq⟩,hMd,hMe,hMf,rfl⟩
   ·simp[show (0:Int) < (sR ul b1 (List.length ul)).length by omega,hpos];simp[jd];rw[am (by omega)];refine hN (j+1) _ (by omega) (by omega) (Wk.list rfl ?_ ?_)
    ·simp[hv];omega
    ·simp[hv]
   ·simp[show ¬(0:Int) < (sR ul b1 (List.length ul)).length by omega,hzero];simp[oc];refine al (ac.ag hMd) ?_;simp;rw[am (n:=uy+p) (by omega)];simp[od];refine al (ac.ag hMe) ?_;simp;rw[am (n:=un+1) (by omega),am (n:=un+1+q) (by omega)];simp[oe,iZ];simp only[W0,List.map_cons,List.map_nil] at hMf;refine ms [1000000] [47] (ac.ag hMf) ?_;simp;refine⟨by unfold ba;omega,aO (by simp[iZ]) (by simp),?_⟩;simp[jd];rw[am (by omega)];refine hN (j+1) _ (by omega) (by omega) (Wk.trans (Wk.ren 53 9 (by decide) (by simp)) (Wk.list rfl ?_ ?_))
    ·simp[AS.ren,B8,B7,hv];omega
    ·simp[AS.ren,B8,B7,su,hv]
 ·obtain rfl:j=N:=by omega
  refine hE _ _ ?_;simp only[aL];simp[og]
def zed (n:Nat):Grant:=⟨100+(n:Int),[90,101,100],2900,⟨⟨0,0,1+(n:Int).tmod 9,0⟩,0,0,0,⟨0,0,0,0⟩,⟨1+(n:Int).tmod 6,4+(n:Int).tmod 5,0,1+(n:Int) / 2⟩⟩⟩
def Te (n:Nat):List Grant:=(List.range n).map zed
theorem NQ (n:Nat):(Te n).length=n:=by simp[Te]
theorem abm (n:Nat):Te (n+1)=Te n++[zed n]:=by simp only[Te,List.range_succ,List.map_append,List.map_cons,List.map_nil]
def adw:List (List UInt8):=[[],[97,115,104,101],[65,98,99,100,101,102,103,104,105,106,107,108],[65,98,99,100,101,102,103,104,105,106,107,108,109],[65]]
set_option maxHeartbeats 8000000 in
theorem Hg (code:List UInt8) (k:Nat) (s:Int) (hk:k<=100000):∃ (l:aZ) (k':Nat) (s':Int),((List.length l<=30/\TQ l)/\(k<=k'/\k'<=k+2000)) /\
  x4 cU [cB code k s] [cR] (oR l) [some (cB code k' s')]:=by
 obtain ⟨L,k1,s1,⟨⟨hL,hLn⟩,hk1⟩,hM1⟩:=NH code k s (by omega);obtain ⟨w0,k2,s2,⟨hw,hk2⟩,hM2⟩:=bj code k1 s1 (List.length L) (by omega) (by omega);obtain ⟨w,rfl⟩:∃ w:Nat,w0=w:=⟨w0.toNat,by omega⟩;obtain ⟨x,k3,s3,⟨hx,hk3⟩,hM3⟩:=bj code k2 s2 20 (by omega) (by omega);obtain ⟨z0,k4,s4,⟨hz0,hk4⟩,hM4⟩:=bn code k3 s3 [0,1000,1,999] (by omega) (by simp) (by simp);obtain ⟨z1,k5,s5,⟨_,hk5⟩,hM5⟩:=Si code k3 s3 adw (by omega) (by simp[adw]) (by simp[adw]);obtain ⟨z2,k6,s6,⟨_,hk6⟩,hM6⟩:=bn code k3 s3 [999,1000,2999,3000] (by omega) (by simp) (by simp);obtain ⟨z3,k7,s7,hk7,hM7⟩:=DT code k3 s3 (by omega);obtain ⟨gz,hgz⟩:∃ gz,List.getD L 0 jz=gz:=⟨_,rfl⟩;obtain ⟨z4,k8,s8,hk8,hM8⟩:=NF code k3 s3 gz.arms (by omega)
 obtain ⟨t,ht0,htok,htR⟩:=Zt (A:=(Nat×Int)×Int) (R:=fun a b=>(0<=b.2/\b.2 < 2)/\x4 aK [cB code a.1.1 a.1.2] [cR,I 2] (I b.2) [some (cB code b.1.1 b.1.2)])
  (ok:=fun n a=>k3<=a.1.1/\a.1.1<=k3+2 * n) ((k3,s3),0) 16 (by dsimp only;omega) (fun n a hn ha=>by
   obtain ⟨v,ka,sa,⟨hv,hka⟩,hMv⟩:=bj code a.1.1 a.1.2 2 (by omega) (by omega);exact⟨((ka,sa),v),⟨by dsimp only;omega,hMv⟩,by dsimp only;omega⟩)
 obtain ⟨m,hm,hmstop,hmgo⟩:=ab6 (p:=fun n=>¬((List.length L:Int)+n < 12+(t (n+1)).2/\n < 14)) (n:=14) (by omega);simp only[adw,List.map_cons,List.map_nil] at hM5
 have main:∀ (l':aZ) (k':Nat) (s':Int),((L=[]/\l'=[]/\k'=k1/\s'=s1)\/(∃ g,L[w]?=some g /\
   ((x=0/\l'=L.set w ⟨z0,g.name,g.year,g.arms⟩/\k'=k4/\s'=s4)\/(x=1/\l'=L.set w ⟨g.number,z1,g.year,g.arms⟩/\k'=k5/\s'=s5)\/(x=2/\l'=L.set w ⟨g.number,g.name,z2,g.arms⟩/\k'=k6/\s'=s6) \/
    (x=3/\l'=L.set w ⟨g.number,g.name,g.year,z3⟩/\k'=k7/\s'=s7)\/(x=4/\l'=L.set w ⟨g.number,g.name,g.year,z4⟩/\k'=k8/\s'=s8) \/
    (x=5/\l'=L++Te m/\k'=(t (m+1)).1.1/\s'=(t (m+1)).1.2)\/((x≠0/\x≠1/\x≠2/\x≠3/\x≠4/\x≠5)/\l'=L.set w g/\k'=k3/\s'=s3)))) ->
   x4 cU [cB code k s] [cR] (oR l') [some (cB code k' s')]:=by
  intro l' k' s' hfin;refine ac.of Be (by simp) rfl (by simp) ?_;simp[nS,lG,lH];refine al (ac.ag hM1) ?_;simp;simp[lI];rcases hfin with ⟨rfl,rfl,rfl,rfl⟩ | ⟨g,hg,hfin⟩
  ·simp[lJ]
  have hLn:L≠[]:=by rintro rfl;simp at hg
  have hwl:w < List.length L:=(List.getElem?_eq_some_iff.1 hg).1;have hg':∀ h,L[w]'h=g:=fun h=>by rw[List.getElem_eq_iff];exact hg
  have hLp:0 < List.length L:=by omega
  have hL0:∀ h,L[0]'h=gz:=fun h=>by rw[<- hgz];simp[hLp]
  simp[hLn];simp[lK];refine al (ac.ag hM2) ?_;simp[lL,hwl,hg'];simp[lM];refine al (ac.ag hM3) ?_;simp[lN];have hsp:∀ q:Grant,(List.map aY L).set w (aY q)=List.map aY (L.set w q):=fun q=>by rw[List.map_set]
  rcases hfin with ⟨rfl,rfl,rfl,rfl⟩ | ⟨rfl,rfl,rfl,rfl⟩ | ⟨rfl,rfl,rfl,rfl⟩ | ⟨rfl,rfl,rfl,rfl⟩ | ⟨rfl,rfl,rfl,rfl⟩ | ⟨rfl,rfl,rfl,rfl⟩ | ⟨⟨n0,n1,n2,n3,n4,n5⟩,rfl,rfl,rfl⟩
  ·simp[lO];refine bJ [1000000] [29] (ac.ag hM4) ?_;simp[bS,bT,hwl]
  ·simp[bY,kB];refine bJ [1000000] [35] (ac.ag hM5) ?_;simp[bS,bT,hwl]
  ·simp[bY,co,kC];refine bJ [1000000] [41] (ac.ag hM6) ?_;simp[bS,bT,hwl]
  ·simp[bY,co,cZ,kD];refine al (ac.ag hM7) ?_;simp[bS,bT,hwl]
  ·simp[bY,co,cZ,d4,kE,hLp,hL0];refine al (ac.ag hM8) ?_;simp[bS,bT,hwl]
  ·simp[bY,co,cZ,d4,gC,kF]
   refine ci (fun n:Nat=>⟨[(0,cR),(2,.ref 2 0 0),(3,.ref 3 0 0),(6,I n)],[(1000000,cB code (t n).1.1 (t n).1.2),(3,⟨1,[.agg [.sl 8 0 (List.length L+n)]]⟩),(8,⟨18,List.map aY (L++Te n)⟩),(2,⟨1,[.agg [.v (.slice none 0 0)]]⟩)],[1000000]⟩) (fun n=>m - n) (fun n=>n<=m) 0
    (Wk.list rfl (by simp) (by simp[ht0,Te])) (by simp) ?_
   intro n hn K hN hR hE;obtain ⟨hv,hMv⟩:=htR n (by omega);have hmg:=hmgo n;simp[ko,kG,d3];refine ms [1000000] [] (ac.ag hMv) ?_;simp;rw[am (n:=12+(t (n+1)).2) (by omega)];have hend:¬((List.length L:Int)+n < 12+(t (n+1)).2/\n < 14)->n=m:=fun h=>Classical.byContradiction fun hc=>hmg (by omega) h;refine⟨fun h1=>⟨aO (by simp[d3]) (by simp),fun h2=>?_,fun h2=>?_⟩,fun h1=>⟨aO (by simp[d3]) (by simp),?_⟩⟩
   ·have hnm:n < m:=Classical.byContradiction fun hc=>by
     obtain rfl:n=m:=by omega
     exact hmstop ⟨h1,by omega⟩
    have e9:0<=(n:Int).tmod 9/\(n:Int).tmod 9 < 9:=⟨Int.tmod_nonneg _ (by omega),Int.tmod_lt_of_pos _ (by omega)⟩;have e6:0<=(n:Int).tmod 6/\(n:Int).tmod 6 < 6:=⟨Int.tmod_nonneg _ (by omega),Int.tmod_lt_of_pos _ (by omega)⟩;have e5:0<=(n:Int).tmod 5/\(n:Int).tmod 5 < 5:=⟨Int.tmod_nonneg _ (by omega),Int.tmod_lt_of_pos _ (by omega)⟩;have hzs:=abm n;have hzl:=NQ n;simp[kH,kI,hzl];have ht2:List.take (List.length L+n) (List.map aY L++List.map aY (Te n))=List.map aY L++List.map aY (Te n):=List.take_of_length_le (by simp[hzl]);rw[ht2,am (n:=(n:Int) / 2) (by omega),am (n:=1+(n:Int) / 2) (by omega),am (n:=100+(n:Int)) (by omega),am (n:=1+(n:Int).tmod 9) (by omega),am (n:=1+(n:Int).tmod 6) (by omega),am (n:=4+(n:Int).tmod 5) (by omega),am (n:=(n:Int)+1) (by omega)];refine⟨by unfold ba;omega,?_⟩;refine hN (n+1) _ (by omega) (by omega) (Wk.trans (Wk.ren 95 8 (by decide) (by simp)) (Wk.list rfl ?_ ?_))
    ·simp[AS.ren,B8,B7]
    ·simp[AS.ren,B8,B7,su,hzs,zed];omega
   ·obtain rfl:=hend (by omega);refine hE _ _ ?_;simp only[aL];simp[gD,NQ]
   ·obtain rfl:=hend (by omega);refine hE _ _ ?_;simp only[aL];simp[gD,NQ]
  ·simp[bY,co,cZ,d4,gC,bS,bT,n0,n1,n2,n3,n4,n5,hwl]
 by_cases hL0:L=[]
 ·exact⟨_,_,_,⟨⟨by simp,by simp[TQ]⟩,by omega⟩,main [] _ _ (.inl ⟨hL0,rfl,rfl,rfl⟩)⟩
 have hwl:w < List.length L:=by have:=List.length_pos_iff.2 hL0;omega
 have hg:=List.getElem?_eq_getElem hwl;have hgn:=hLn L[w] (List.getElem_mem hwl);have hb0:0<=z0/\z0<=2000:=by simp at hz0;omega
 have hset:∀ q:Grant,0<=q.number/\q.number<=2000->List.length (L.set w q)<=30/\TQ (L.set w q):=fun q hq=>⟨by rw[List.length_set];omega,fun g hg=>by
  rcases List.mem_or_eq_of_mem_set hg with h | rfl
  ·exact hLn g h
  ·exact hq⟩
 by_cases c0:x=0
 ·exact⟨_,_,_,⟨hset _ hb0,by omega⟩,main _ _ _ (.inr ⟨_,hg,.inl ⟨c0,rfl,rfl,rfl⟩⟩)⟩
 by_cases c1:x=1
 ·exact⟨_,_,_,⟨by exact hset _ hgn,by omega⟩,main _ _ _ (.inr ⟨_,hg,.inr (.inl ⟨c1,rfl,rfl,rfl⟩)⟩)⟩
 by_cases c2:x=2
 ·exact⟨_,_,_,⟨by exact hset _ hgn,by omega⟩,main _ _ _ (.inr ⟨_,hg,.inr (.inr (.inl ⟨c2,rfl,rfl,rfl⟩))⟩)⟩
 by_cases c3:x=3
 ·exact⟨_,_,_,⟨by exact hset _ hgn,by omega⟩,main _ _ _ (.inr ⟨_,hg,.inr (.inr (.inr (.inl ⟨c3,rfl,rfl,rfl⟩)))⟩)⟩
 by_cases c4:x=4
 ·exact⟨_,_,_,⟨by exact hset _ hgn,by omega⟩,main _ _ _ (.inr ⟨_,hg,.inr (.inr (.inr (.inr (.inl ⟨c4,rfl,rfl,rfl⟩))))⟩)⟩
 by_cases c5:x=5
 ·have h2:=htok (m+1) (by omega);refine⟨_,_,_,⟨⟨by rw[List.length_append,NQ];omega,fun g hg'=>?_⟩,by omega⟩,main _ _ _ (.inr ⟨_,hg,.inr (.inr (.inr (.inr (.inr (.inl ⟨c5,rfl,rfl,rfl⟩)))))⟩)⟩;rcases List.mem_append.1 hg' with h | h
  ·exact hLn g h
  ·obtain ⟨j,hj,rfl⟩:=List.mem_map.1 h;have:=List.mem_range.1 hj;simp only[zed];omega
 ·exact⟨_,_,_,⟨by exact hset _ hgn,by omega⟩,main _ _ _ (.inr ⟨_,hg,.inr (.inr (.inr (.inr (.inr (.inr ⟨⟨c0,c1,c2,c3,c4,c5⟩,rfl,rfl,rfl⟩)))))⟩)⟩
theorem rJ (code:List UInt8) (k:Nat) (s:Int) (hk:k<=100000):∃ (l:aZ) (k':Nat) (s':Int),(List.length l<=30/\(k<=k'/\k'<=k+2000)) /\
  x4 cU [cB code k s] [cR] (oR l) [some (cB code k' s')]:=by
 obtain ⟨l,k',s',⟨⟨h1,_⟩,h2⟩,h3⟩:=Hg code k s hk;exact⟨l,k',s',⟨h1,h2⟩,h3⟩
set_option maxHeartbeats 4000000 in
theorem Vh (code:List UInt8) (k:Nat) (s:Int) (hk:k<=10000000):∃ (r:Roll) (k':Nat) (s':Int),(k<=k'/\k'<=k+10)/\x4 mJ [cB code k s] [cR] (d6 r) [some (cB code k' s')]:=by
 obtain ⟨v0,k1,s1,⟨h0,hk1⟩,hM1⟩:=bj code k s 3 (by omega) (by omega);obtain ⟨v1,k2,s2,⟨_,hk2⟩,hM2⟩:=bn code k1 s1 [20,24,30,60] (by omega) (by simp) (by simp);obtain ⟨v2,k3,s3,⟨_,hk3⟩,hM3⟩:=bn code k2 s2 [4,5,8,12,20] (by omega) (by simp) (by simp);obtain ⟨x,k4,s4,⟨hx,hk4⟩,hM4⟩:=bj code k3 s3 40 (by omega) (by omega);obtain ⟨z0,k5,s5,⟨_,hk5⟩,hM5⟩:=bn code k4 s4 [0,4] (by omega) (by simp) (by simp);obtain ⟨z1,k6,s6,⟨_,hk6⟩,hM6⟩:=bn code k4 s4 [19,61] (by omega) (by simp) (by simp);obtain ⟨z2,k7,s7,⟨_,hk7⟩,hM7⟩:=bn code k4 s4 [3,21] (by omega) (by simp) (by simp)
 have main:∀ (r:Roll) (k':Nat) (s':Int),((x=0/\r=⟨z0,v1,v2⟩/\k'=k5/\s'=s5)\/(x=1/\r=⟨1+v0,z1,v2⟩/\k'=k6/\s'=s6)\/(x=2/\r=⟨1+v0,v1,z2⟩/\k'=k7/\s'=s7)\/((x≠0/\x≠1/\x≠2)/\r=⟨1+v0,v1,v2⟩/\k'=k4/\s'=s4)) ->
   x4 mJ [cB code k s] [cR] (d6 r) [some (cB code k' s')]:=by
  intro r k' s' hfin;refine ac.of P7 (by simp) rfl (by simp) ?_;simp[Ew,Ad,Ae];refine al (ac.ag hM1) ?_;simp;refine bJ [1000000] [8] (ac.ag hM2) ?_;simp;refine bJ [1000000] [11] (ac.ag hM3) ?_;simp;rw[am (n:=1+v0) (by omega)];simp[Af];refine al (ac.ag hM4) ?_;simp[Ag];rcases hfin with ⟨rfl,rfl,rfl,rfl⟩ | ⟨rfl,rfl,rfl,rfl⟩ | ⟨rfl,rfl,rfl,rfl⟩ | ⟨⟨n0,n1,n2⟩,rfl,rfl,rfl⟩
  ·simp[Ah];refine bJ [1000000] [19] (ac.ag hM5) ?_;simp[hC]
  ·simp[j0,Ai];refine bJ [1000000] [25] (ac.ag hM6) ?_;simp[hC]
  ·simp[j0,pv,Aj];refine bJ [1000000] [31] (ac.ag hM7) ?_;simp[hC]
  ·simp[j0,pv,hC,n0,n1,n2]
 by_cases c0:x=0
 ·exact⟨_,_,_,by omega,main _ _ _ (.inl ⟨c0,rfl,rfl,rfl⟩)⟩
 by_cases c1:x=1
 ·exact⟨_,_,_,by omega,main _ _ _ (.inr (.inl ⟨c1,rfl,rfl,rfl⟩))⟩
 by_cases c2:x=2
 ·exact⟨_,_,_,by omega,main _ _ _ (.inr (.inr (.inl ⟨c2,rfl,rfl,rfl⟩)))⟩
 ·exact⟨_,_,_,by omega,main _ _ _ (.inr (.inr (.inr ⟨⟨c0,c1,c2⟩,rfl,rfl,rfl⟩)))⟩
set_option maxHeartbeats 4000000 in
theorem Qp (code:List UInt8):∃ (l:aZ) (x:Roll),List.length l<=30/\cJ mG [.ro 1 (code.map Y)] (.tup [oR l,d6 x]):=by
 obtain ⟨l,k1,s1,⟨hl,hk1⟩,hM1⟩:=rJ code 0 0 (by omega);obtain ⟨x,k2,s2,hk2,hM2⟩:=Vh code k1 s1 (by omega);refine⟨l,x,hl,?_⟩;refine aa.of Kc (by simp) ?_;simp[uU,rj,rk];simp[rl];refine bJ [8] [] (ac.ag hM1) ?_;simp;simp[rm,j6];refine ms [8] [] (ac.ag hM2) ?_;simp;exact aO (by simp[j6]) (by simp)
theorem Sf (code:List UInt8):∃ (l:aZ) (x:Roll),List.length l<=30/\cJ oM [.ro 1 (code.map Y)] (.tup [oR l,d6 x]):=by
 obtain ⟨l,x,hl,hP⟩:=Qp code;refine⟨l,x,hl,?_⟩;refine aa.of Lk (by simp) ?_;simp[ye,tR,tS];refine Lg (aa.ag hP) ?_;simp
def VT:List Int:=[20,24,30,60,19,61]
theorem Ri (code:List UInt8) (k:Nat) (s:Int) (hk:k<=100000):∃ (n:Nat) (y v:Int) (k1 k2:Nat) (s1 s2:Int),(n=4\/n=5\/n=6)/\IntKind.i64.wrap (4+IntKind.i64.wrap (v.tdiv 11))=(n:Int) /\
  x4 aK [cB code k s] [cR,I 24] (I v) [some (cB code k1 s1)]/\x4 a6 [cB code k1 s1] [cR,.ro 1 (gu (VT.take n))] (I y) [some (cB code k2 s2)]:=by
 obtain ⟨v,k1,s1,⟨hv,hk1⟩,hM1⟩:=bj code k s 24 (by omega) (by omega);have hd:IntKind.i64.wrap (v.tdiv 11)=0\/IntKind.i64.wrap (v.tdiv 11)=1\/IntKind.i64.wrap (v.tdiv 11)=2:=by rw[Int.tdiv_eq_ediv_of_nonneg (by omega),am (by omega)];omega
 have SC:∀ n:Nat,(n=4\/n=5\/n=6)->IntKind.i64.wrap (v.tdiv 11)=(n:Int) - 4->∃ (n:Nat) (y v:Int) (k1 k2:Nat) (s1 s2:Int),(n=4\/n=5\/n=6)/\IntKind.i64.wrap (4+IntKind.i64.wrap (v.tdiv 11))=(n:Int) /\
  x4 aK [cB code k s] [cR,I 24] (I v) [some (cB code k1 s1)]/\x4 a6 [cB code k1 s1] [cR,.ro 1 (gu (VT.take n))] (I y) [some (cB code k2 s2)]:=by
  intro n hn hw;obtain ⟨y,k2,s2,_,hM2⟩:=bn code k1 s1 (VT.take n) (by omega) (by rcases hn with rfl | rfl | rfl<;>simp[VT]) (by rcases hn with rfl | rfl | rfl<;>simp[VT]);refine⟨n,y,v,k1,k2,s1,s2,hn,?_,hM1,hM2⟩;rw[hw,am (by omega)];omega
 rcases hd with h | h | h
 ·exact SC 4 (by omega) (by omega)
 ·exact SC 5 (by omega) (by omega)
 ·exact SC 6 (by omega) (by omega)
set_option maxHeartbeats 4000000 in
theorem Ox (code:List UInt8):∃ (g:Grant) (y:Int),cJ lq [.ro 1 (code.map Y)] (.tup [aY g,I y]):=by
 obtain ⟨l,k1,s1,⟨hl,hk1⟩,hM1⟩:=rJ code 0 0 (by omega);obtain ⟨a,k2,s2,hk2,hM2⟩:=DT code k1 s1 (by omega);obtain ⟨t,k3,s3,hk3,hM3⟩:=hO code k2 s2 2 (by omega) (by omega);by_cases hl0:List.length l=0
 ·obtain ⟨n,y,v,k5,k6,s5,s6,hn,hw,hM5,hM6⟩:=Ri code k2 s2 (by omega);refine⟨⟨7,[66,101,114,103],1500,a⟩,y,?_⟩;refine aa.of j5 (by simp) ?_;simp[hX,fO,fP];simp[fQ];refine bJ [9] [] (ac.ag hM1) ?_;simp;simp[fR];refine bJ [9] [] (ac.ag hM2) ?_;simp;simp[fS,hl0];simp[fT,cE];refine ms [9] [] (ac.ag hM5) ?_;simp;rw[hw];refine⟨by omega,?_⟩;rcases hn with rfl | rfl | rfl
  all_goals
   simp[VT] at hM6;simp;refine ms [9] [34] (ac.ag hM6) ?_;simp;exact aO (by simp[cE]) (by simp)
 ·have hpos:0 < List.length l:=by omega
  cases t with
  | false =>
    obtain ⟨n,y,v,k5,k6,s5,s6,hn,hw,hM5,hM6⟩:=Ri code k3 s3 (by omega);refine⟨⟨7,[66,101,114,103],1500,a⟩,y,?_⟩;refine aa.of j5 (by simp) ?_;simp[hX,fO,fP];simp[fQ];refine bJ [9] [] (ac.ag hM1) ?_;simp;simp[fR];refine bJ [9] [] (ac.ag hM2) ?_;simp;simp[fS,hpos];refine bJ [9] [] (ac.ag hM3) ?_;simp;simp[fT,cE];refine ms [9] [] (ac.ag hM5) ?_;simp;rw[hw];refine⟨by omega,?_⟩;rcases hn with rfl | rfl | rfl
    all_goals
     simp[VT] at hM6;simp;refine ms [9] [34] (ac.ag hM6) ?_;simp;exact aO (by simp[cE]) (by simp)
  | true =>
    obtain ⟨q,k4,s4,⟨hq,hk4⟩,hM4⟩:=bj code k3 s3 (List.length l) (by omega) (by omega);obtain ⟨n,y,v,k5,k6,s5,s6,hn,hw,hM5,hM6⟩:=Ri code k4 s4 (by omega);obtain ⟨qn,rfl⟩:∃ qn:Nat,q=qn:=⟨q.toNat,by omega⟩;have hql:qn < List.length l:=by omega
    obtain ⟨g,hg⟩:∃ g,l[qn]=g:=⟨_,rfl⟩;refine⟨g,y,?_⟩;refine aa.of j5 (by simp) ?_;simp[hX,fO,fP];simp[fQ];refine bJ [9] [] (ac.ag hM1) ?_;simp;simp[fR];refine bJ [9] [] (ac.ag hM2) ?_;simp;simp[fS,hpos];refine bJ [9] [] (ac.ag hM3) ?_;simp;simp[pV,jH];refine ms [9] [] (ac.ag hM4) ?_;simp[hql,hg];refine⟨aO (by simp[jH]) (by simp),?_⟩;simp[fT,cE];refine ms [9] [] (ac.ag hM5) ?_;simp;rw[hw];refine⟨by omega,?_⟩;rcases hn with rfl | rfl | rfl
    all_goals
     simp[VT] at hM6;simp;refine ms [9] [34] (ac.ag hM6) ?_;simp;exact aO (by simp[cE]) (by simp)
def Fh:=[fc 2 1 0,fc 3 3 1,ok 4 (vS []),ok 5 (vB false)]
def Fi:=[cm 15 1 2,cm 16 3 3,eo 17 yN 15 16,om 14 17,sE 18 14 0,sE 19 14 1,sE 20 14 2,om 6 18,om 7 19,om 8 20]
def tN:=[om 21 8,oo 22 (.un .not (.t 21))]
def Fj:=[ok 4 (vS []),ok 5 (vB false)]
def Fk:=[ok 9 (vS [])]
def Fl:=[om 23 6,oo 24 (.len false (.t 23)),ok 25 (vI 0)]
def Fm:=[bM 26 .lss 25 24]
def Fo:=[om 27 25,ep 28 1 23 25,bd 29 1 28,om 10 27,om 11 29]
def Fp:=[om 30 11,oo 31 (.len false (.t 30)),ok 32 (vI 0)]
def Fq:=[bM 33 .lss 32 31]
def CZ:=[ep 34 1 30 32,bd 35 1 34,om 13 35]
def C0:=[om 36 9,om 37 13,oo 38 (.bin .add .none (.t 37) (.k (vS [10]))),bM 39 .add 36 38,om 9 39]
def C1:=[fv 40 32 1,om 32 40]
def Cv:C:=(sr Fq [3,9,10,11,23,24,25,30,31,32,33] (ss (sc 33 .skip (.exit 2)) (ss (.block 3 (sr CZ [3,9,10,11,13,23,24,25,30,31,32] (.reg C0 [3,9,10,11,23,24,25,30,31,32]))) (.reg C1 [3,9,10,11,23,24,25,30,31,32]))))
def C2:=[om 41 9,aJ 42 2 3,bd 43 1 42,om 44 11,oo 45 (.len false (.t 44)),bM 46 .sub 43 45,oo 47 (.call yO [(.k (vS [10])),.t 46]),oo 48 (.bin .add .none (.t 47) (.k (vS [45,32]))),om 49 10,fv 50 49 1,di 51 gW 50,bM 52 .add 48 51,oo 53 (.bin .add .none (.t 52) (.k (vS [32,45,10]))),bM 54 .add 41 53,om 9 54]
def C3:=[fv 55 25 1,om 25 55]
def Cw:C:=(sr Fm [3,9,23,24,25,26] (ss (sc 26 .skip (.exit 0)) (ss (.block 1 (sr Fo [3,9,10,11,23,24,25] (ss (sr Fp [3,9,10,11,23,24,25,30,31,32] (.block 2 (.loop Cv))) (.reg C2 [3,9,23,24,25])))) (.reg C3 [3,9,23,24,25]))))
def C4:=[om 56 9,om 4 56,ok 5 (vB true)]
def KX:C:=(sr Fh [2,3] (sr Fi [3,6,8] (ss (sr tN [3,6,22] (sc 22 (sr Fj [4,5] .ret) .skip)) (sr Fk [3,6,9] (ss (sr Fl [3,9,23,24,25] (.block 0 (.loop Cw))) (sr C4 [4,5] .ret))))))
theorem SG:cz Bg KX [(.tmp 4),(.tmp 5)] 57:=dh func17 rfl
def FC:=[fc 2 1 0,fc 3 3 1,ok 4 (vS []),ok 5 (vB false)]
def FD:=[cm 12 1 2,cm 13 3 3,eo 14 xr 12 13,om 11 14,sE 15 11 0,sE 16 11 1,om 6 15,om 7 16]
def tT:=[om 17 7,oo 18 (.un .not (.t 17))]
def FE:=[ok 4 (vS []),ok 5 (vB false)]
def FF:=[ok 8 (vS [])]
def FG:=[ok 9 (vI 0)]
def FH:=[om 19 9,om 20 6,oo 21 (.len false (.t 20)),bM 22 .lss 19 21]
def FI:=[ok 10 (vI 0)]
def FJ:=[om 25 10,aJ 26 2 3,bd 27 1 26,bM 28 .lss 25 27]
def FK:=[om 31 10,om 32 6,om 33 9,ep 34 1 32 33,bd 35 1 34,oo 36 (.len false (.t 35)),bM 37 .lss 31 36]
def Ds:=[om 38 8,om 39 6,om 40 9,ep 41 1 39 40,bd 42 1 41,om 43 10,ep 44 1 42 43,bd 45 1 44,bM 46 .add 38 45,om 8 46]
def qM:=[om 47 8,oo 48 (.bin .add .none (.t 47) (.k (vS [10]))),om 8 48]
def qN:=[om 29 10,fv 30 29 1,om 10 30]
def Cx:C:=(ss (sr FJ [3,6,8,9,10,28] (sc 28 .skip (.exit 2))) (ss (.block 3 (ss (sr FK [3,6,8,9,10,37] (sc 37 (.reg Ds [3,6,8,9,10]) .skip)) (.reg qM [3,6,8,9,10]))) (.reg qN [3,6,8,9,10])))
def Dt:=[om 49 8,oo 50 (.bin .add .none (.t 49) (.k (vS [45,32]))),om 51 9,fv 52 51 1,di 53 iV 52,bM 54 .add 50 53,oo 55 (.bin .add .none (.t 54) (.k (vS [32,45,10]))),om 8 55]
def Du:=[om 23 9,fv 24 23 1,om 9 24]
def Cy:C:=(ss (sr FH [3,6,8,9,22] (sc 22 .skip (.exit 0))) (ss (.block 1 (ss (sr FI [3,6,8,9,10] (.block 2 (.loop Cx))) (.reg Dt [3,6,8,9]))) (.reg Du [3,6,8,9])))
def Dv:=[om 56 8,om 4 56,ok 5 (vB true)]
def K1:C:=(sr FC [2,3] (sr FD [3,6,7] (ss (sr tT [3,6,18] (sc 18 (sr FE [4,5] .ret) .skip)) (sr FF [3,6,8] (ss (sr FG [3,6,8,9] (.block 0 (.loop Cy))) (sr Dv [4,5] .ret))))))
def UQ:Nat->List Nat
 | 0=>[2,3]
 | 1=>[3,6,7]
 | 2=>[3,6,18]
 | 3=>[4,5]
 | 4=>[3,6,8]
 | 5=>[3,6,8,9]
 | 6=>[3,6,8,9,22]
 | 8=>[3,6,8,9,10]
 | 9=>[3,6,8,9,10,28]
 | 11=>[3,6,8,9,10,37]
 | 12=>[3,6,8,9,10]
 | 13=>[3,6,8,9,10]
 | 10=>[3,6,8,9,10]
 | 14=>[3,6,8,9]
 | 7=>[3,6,8,9]
 | 15=>[4,5]
 | _=>[]
theorem SL:cz Bk K1 [(.tmp 4),(.tmp 5)] 57 :=
 ⟨Tryz.f18,_,UQ,func18,rfl,by kernel_rfl,by kernel_rfl,by kernel_rfl,rfl⟩
def Di:=[fc 2 1 0,fc 3 3 1,ok 4 vN,ok 5 (vB false)]
def Dj:=[oo 12 (.bslice 1 vN 0 []),om 6 12]
def Dk:=[cm 14 1 2,cm 15 3 3,eo 16 rS 14 15,om 13 16,sE 17 13 0,sE 18 13 1,om 7 17,om 8 18]
def qL:=[om 19 8,oo 20 (.un .not (.t 19))]
def Dm:=[om 21 6,om 4 21,ok 5 (vB false)]
def Dn:=[ok 9 (vI 0)]
def Do:=[om 22 9,om 23 7,oo 24 (.len false (.t 23)),bM 25 .lss 22 24]
def Dp:=[oo 28 (.bslice 1 (vS []) 0 []),om 10 28]
def Dq:=[ok 11 (vI 0)]
def Dr:=[om 29 11,om 30 7,om 31 9,ep 32 1 30 31,bd 33 1 32,oo 34 (.len false (.t 33)),bM 35 .lss 29 34]
def zT:=[om 38 10,aJ 39 0 2,bd 40 1 39,om 41 7,om 42 9,ep 43 1 41 42,bd 44 1 43,om 45 11,ep 46 1 44 45,bd 47 1 46,ep 48 18 40 47,cm 49 18 48,aJ 50 1 3,bd 51 1 50,eo 52 mK 49 51,oo 53 (.app 1 16 (.t 38) (.t 52)),om 10 53]
def oZ:List (List Nat):=[[],[],[1],[],[],[3,4],[3,4,5],[],[3,4,5,6,7],[3,4,5,6,7,8],[1,2,3,4,5,6,7,8,9],[1,2,3,4,5,6,7,8,9,10],[],[12],[1,2,3,4,5,6,7,8,9,10,11,12,13],[0,1,2,3,4,5,6,7,8,9,10,11,12,13,14],[0,1,2,3,4,5,6,7,8,9,10,11,12,13,14,15]]
def zU:=[om 36 11,fv 37 36 1,om 11 37]
def yH:C:=(ss (sr Dr [2,3,6,7,9,10,11,35] (sc 35 .skip (.exit 2))) (ss (.block 3 (.regD zT oZ [2,3,6,7,9,10,11])) (.reg zU [2,3,6,7,9,10,11])))
def zV:=[om 54 6,om 55 10,oo 56 (.bslice 1 vN 1 [(0,(.t 55))]),oo 57 (.app 1 24 (.t 54) (.t 56)),om 6 57]
def zW:=[om 26 9,fv 27 26 1,om 9 27]
def yI:C:=(ss (sr Do [2,3,6,7,9,25] (sc 25 .skip (.exit 0))) (ss (.block 1 (sr Dp [2,3,6,7,9,10] (ss (sr Dq [2,3,6,7,9,10,11] (.block 2 (.loop yH))) (.reg zV [2,3,6,7,9])))) (.reg zW [2,3,6,7,9])))
def zX:=[om 58 6,om 4 58,ok 5 (vB true)]
def H4:C:=(sr Di [2,3] (sr Dj [2,3,6] (sr Dk [2,3,6,7,8] (ss (sr qL [2,3,6,7,20] (sc 20 (sr Dm [4,5] .ret) .skip)) (ss (sr Dn [2,3,6,7,9] (.block 0 (.loop yI))) (sr zX [4,5] .ret))))))
def S3:Nat->List Nat
 | 0=>[2,3]
 | 1=>[2,3,6]
 | 2=>[2,3,6,7,8]
 | 3=>[2,3,6,7,20]
 | 4=>[4,5]
 | 5=>[2,3,6,7,9]
 | 6=>[2,3,6,7,9,25]
 | 8=>[2,3,6,7,9,10]
 | 9=>[2,3,6,7,9,10,11]
 | 10=>[2,3,6,7,9,10,11,35]
 | 12=>[2,3,6,7,9,10,11]
 | 11=>[2,3,6,7,9,10,11]
 | 13=>[2,3,6,7,9]
 | 7=>[2,3,6,7,9]
 | 14=>[4,5]
 | _=>[]
theorem Rr:cz xr H4 [(.tmp 4),(.tmp 5)] 59 :=
 ⟨Tryz.f41,_,S3,func41,rfl,by kernel_rfl,by kernel_rfl,by kernel_rfl,rfl⟩
def qt (x:Roll) (l:aZ) (ps:List (List Nat)) (i:Nat):List (List (List UInt8)):=(ps.take i).map (gv x l)
theorem Yb (x:Roll) (l:aZ) {ps:List (List Nat)} {i:Nat} (h:i<=ps.length):(qt x l ps i).length=i:=by rw[qt,List.length_map,List.length_take];omega
theorem VX (x:Roll) (l:aZ) {ps:List (List Nat)} {i:Nat} (h:i < ps.length):qt x l ps (i+1)=qt x l ps i++[gv x l ps[i]]:=by rw[qt,br h,List.map_append];rfl
theorem Pd (x:Roll) (l:aZ):∀ p:List Nat,p.length<=(gv x l p).length
 | []=>by simp
 | q::p=>by
   have ih:=Pd x l p;have:=J4 x.width (List.getD l q jz);simp only[gv,List.flatMap_cons,List.length_append,List.length_cons] at ih ⊢;omega
set_option maxHeartbeats 4000000 in
theorem Xq (l:aZ) (x:Roll):cJ xr [be l,d6 x] (.tup [.own 1 ((dn l x).map U8),B (dd l x)]):=by
 refine aa.of Rr (by simp) ?_;simp[H4,Di,Dj,Dk];refine bN (aa.ag (Sk l x)) ?_;rw[T4];cases hx:jf l x with
 | none=>simp[qL,Dm,Xf hx]
 | some ps =>
 obtain ⟨h1,h2,hq,hn,hls,_⟩:=Ei hx;obtain ⟨k1,k2,k3⟩:=iC h2;have hl:=d5 h1;rw[aaD hx];simp[qL,Dn]
 refine ci (fun i:Nat=>⟨[(2,.ref 2 0 0),(3,.ref 3 0 0),(6,.sl 12 0 i),(7,.sl 16 0 ps.length),(9,I i)],[(2,⟨1,[be l]⟩),(3,⟨3,[d6 x]⟩),(12,⟨1,(qt x l ps i).map U8⟩),(16,⟨1,ps.map roX⟩)],[]⟩) (fun i=>ps.length - i) (fun i=>i<=ps.length) 0
  (Wk.trans (Wk.roes 16 3 (by rfl) (by simp)) (Wk.list rfl (by simp) (by simp[qt]))) (by simp) ?_
 intro i hi K hN hR hE;have hfl:=Yb x l hi;simp[yI,Do];refine⟨fun hlt=>?_,fun hge=>?_⟩
 ·obtain ⟨p,hp⟩:∃ p,ps[i]=p:=⟨_,rfl⟩;have hpm:p ∈ ps:=hp▸List.getElem_mem _;have hpl:=hls p hpm;have hpq:=hq p hpm;have hpm2:=Pd x l p;have hfs:=VX x l hlt;rw[hp] at hfs;simp[Dp,Dq]
  refine ci (fun k:Nat=>⟨[(2,.ref 2 0 0),(3,.ref 3 0 0),(6,.sl 12 0 i),(7,.sl 16 0 ps.length),(9,I i),(10,.sl 28 0 (gv x l (p.take k)).length),(11,I k)],[(2,⟨1,[be l]⟩),(3,⟨3,[d6 x]⟩),(12,⟨1,(qt x l ps i).map U8⟩),(16,⟨1,ps.map roX⟩),(28,⟨1,(gv x l (p.take k)).map S⟩)],[]⟩) (fun k=>p.length - k) (fun k=>k<=p.length) 0
   (Wk.list rfl (by simp[gv]) (by simp[gv])) (by simp) ?_
  intro k hk K2 hN2 hR2 hE2;simp[yH,Dr,hlt,hp];refine⟨fun hklt=>?_,fun hkge=>?_⟩
  ·obtain ⟨q,hqd⟩:∃ q,p[k]=q:=⟨_,rfl⟩;have hql:q < List.length l:=hpq q (hqd▸List.getElem_mem _);have hgo:cb l[q]=true:=dz h1 _ (List.getElem_mem _);have hgd:List.getD l q jz=l[q]:=by simp[hql]
   have hlt2:=WP (x:=x) (l:=l) hklt;have hle:=TF x l p (k+1);have hle0:=TF x l p k;rw[hqd,hgd] at hlt2;simp[zT,oZ,hlt,hp,hklt,hqd,hql];refine ft (aa.ag (KH l[q] x.width hgo k2)) ?_;rw[hlt2,List.length_append] at hle;simp;refine⟨by unfold ba;omega,aO (by simp[oZ]) (by simp),?_⟩;simp[zU];rw[am (by omega)];refine hN2 (k+1) _ (by omega) (by omega) (Wk.trans (Wk.ren 53 28 (by decide) (by simp)) (Wk.list rfl ?_ ?_))
   ·simp[AS.ren,B8,B7,hlt2]
   ·simp[AS.ren,B8,B7,su,hlt2]
  ·obtain rfl:k=p.length:=by omega
   refine hE2 _ _ ?_;simp only[aL];rw[List.take_length];have hml:((qt x l ps i).map U8).length=i:=by rw[List.length_map,hfl]
   have ht1:List.take i ((qt x l ps i).map U8)=(qt x l ps i).map U8:=List.take_of_length_le (by omega);simp[zV,zW,hfl,ht1];refine⟨by unfold ba;omega,?_⟩;rw[am (by omega)];refine hN (i+1) _ (by omega) (by omega) (Wk.trans (Wk.fold1 57 i 28 (n:=(gv x l p).length) (by rfl) (by rfl) (bU hml) (by simp) (by simp) (by simp)) (Wk.trans (Wk.ren 57 12 (by decide) ?_) (Wk.list rfl ?_ ?_)))
   ·simp[bV hml]
   ·simp[AS.ren,B8,B7]
   ·simp[AS.ren,B8,B7,su,bV hml,hfs]
 ·obtain rfl:i=ps.length:=by omega
  refine hE _ _ ?_;simp only[aL];simp[zX,qt,List.take_length]
end Go.Proofs.YtjkogbgbienloaaGreatDoor
namespace Go.Proofs.YtjkogbgbienloaaGreatDoor
open Go.Abs Go.RowKit
theorem Hc (c:UInt8):∀ n,Lib.repeatL [c] n=List.replicate n c
 | 0=>rfl
 | n+1=>by rw[Lib.repeatL,Hc c n];rfl
theorem So (c:UInt8) (n:Nat) (hn:n<=100000):cJ yO [S [c],I n] (S (List.replicate n c)):=by
 rw[<- Hc];refine aa.below (vs:=[.string (bs [c]),.int .i64 n]) (y:=.string (bs (Lib.repeatL [c] n))) (by kernel_rfl) (fun _ _=>iX ?_) (fun w _ _=>?_)
 ·show Abs.one (Value.string _)=true;have:(bs (Lib.repeatL [c] n)).size=n:=by rw[Hc];simp[bs,ByteArray.size]
  simp only[Abs.one,this,decide_eq_true_iff];omega
 have hsz:(bs [c]).size * n<=140737488355328:=by
  have:(bs [c]).size=1:=rfl;rw[this];omega
 exact Tryz.strings_Repeat (bs [c]) n w (by omega) hsz
end Go.Proofs.YtjkogbgbienloaaGreatDoor
namespace Go.Proofs.YtjkogbgbienloaaGreatDoor
open Go.Abs
open Tryz
theorem TS {l:aZ} {x:Roll} (h:dd l x=false):dn l x=[]:=by
 unfold dd at h;unfold dn;cases e:gH l x with
 | none=>rfl
 | some p=>rw[e] at h;cases h
theorem PU {l:aZ} {x:Roll} (h:dd l x=true):jK x=true:=by
 unfold dd at h;cases e:gH l x with
 | none=>rw[e] at h;cases h
 | some p=>exact(jP e).2.1
theorem Xk {h:Nat} {L:List (List (List UInt8))} {i:Nat} (hi:i < L.length):l8 h L (i+1)=l8 h L i++(qX L[i]++List.replicate (h - L[i].length) 10++([45,32]++cW (i+1)++[32,45,10])):=by
 rw[KE,Pk,Tz,List.getD_eq_getElem?_getD,List.getElem?_eq_getElem hi];rfl
set_option maxHeartbeats 2000000 in
theorem Yh (l:aZ) (x:Roll):cJ Bg [be l,d6 x] (.tup [S (JR l x),B (dd l x)]):=by
 obtain ⟨hn,hp⟩:=sF (l:=l) (x:=x);have hP:=UO l x;have h0:=@TS l x;have hok:=@PU l x;unfold JR;generalize dn l x=L at hn hp hP h0 ⊢;refine aa.of SG (by simp) ?_;simp[KX,Fh,Fi];refine bN (aa.ag hP) ?_;cases hb:dd l x with
 | false =>
   obtain rfl:=h0 hb;simp[tN,Fj,l8]
 | true =>
 obtain ⟨_,_,k3⟩:=iC (hok hb);have hlen:=HP (h:=x.height.toNat) (ps:=L) (by omega) fun p h=>⟨(hp p h).2.1,(hp p h).2.2.2⟩;have hstep:=@Xk x.height.toNat L;simp[tN,Fk,Fl]
 refine ci (fun i:Nat=>⟨[(3,.ref 3 0 0),(9,S (l8 x.height.toNat L i)),(23,.sl 17 0 L.length),(24,I L.length),(25,I i)],[(3,⟨3,[d6 x]⟩),(17,⟨1,L.map roS⟩)],[]⟩) (fun i=>L.length - i) (fun i=>i<=L.length) 0
  (Wk.trans (Wk.roes 17 3 (by rfl) (by simp)) (Wk.list rfl (by simp[l8]) (by simp))) (by simp) ?_
 intro i hi K hN hR hE;simp[Cw,Fm];refine⟨fun hlt=>?_,fun hge=>?_⟩
 ·obtain ⟨p,hpd⟩:∃ p,L[i]=p:=⟨_,rfl⟩;obtain ⟨_,q1,q2,q3⟩:=hp p (hpd▸List.getElem_mem _);have hs:=hstep hlt;have hli:=hlen i (by omega);have hel:=HB q3;have hel2:1003 * p.length<=1003 * 20:=Nat.mul_le_mul_left _ q1;have hdl:=eC 3 (i+1) (by omega);rw[hpd] at hs;obtain ⟨T1,hs1⟩:∃ T1,l8 x.height.toNat L (i+1)=T1:=⟨_,rfl⟩;rw[hs1] at hs;obtain ⟨T,hT⟩:∃ T,l8 x.height.toNat L i=T:=⟨_,rfl⟩;rw[hT] at hs hli ⊢;simp[Fo,hlt,hpd];simp[Fp]
  refine ci (fun k:Nat=>⟨[(3,.ref 3 0 0),(9,S (T++qX (p.take k))),(10,I i),(11,.ro 1 (p.map S)),(23,.sl 17 0 L.length),(24,I L.length),(25,I i),(30,.ro 1 (p.map S)),(31,I p.length),(32,I k)],[(3,⟨3,[d6 x]⟩),(17,⟨1,L.map roS⟩)],[]⟩) (fun k=>p.length - k) (fun k=>k<=p.length) 0
   (Wk.list rfl (by simp[qX]) (by simp)) (by simp) ?_
  intro k hk K2 hN2 hR2 hE2;simp[Cv,Fq];refine⟨fun hklt=>?_,fun hkge=>?_⟩
  ·have hx:=q3 p[k] (List.getElem_mem _);have hes:=Rg hklt;have hel3:=HB (p:=p.take k) (m:=1002) fun s hs=>q3 s (List.mem_of_mem_take hs);rw[List.length_take] at hel3;have hel4:1003 * min k p.length<=1003 * 20:=Nat.mul_le_mul_left _ (by omega);simp[CZ,hklt];simp[C0,C1];refine⟨by omega,by omega,?_⟩;rw[am (by omega)];refine hN2 (k+1) _ (by omega) (by omega) (Wk.list rfl (by simp[hes]) (by simp))
  ·obtain rfl:k=p.length:=by omega
   refine hE2 _ _ ?_;simp only[aL];rw[List.take_length];simp[C2];have eh:IntKind.i64.wrap (x.height - p.length)=((x.height.toNat - p.length:Nat):Int):=by rw[am (by omega)];omega
   have hT1:T1.length<=1000000:=by
    rw[hs];simp only[List.length_append,List.length_replicate,List.length_cons,List.length_nil];omega
   rw[eh];refine af (aa.ag (So 10 (x.height.toNat - p.length) (by omega))) ?_;simp;refine⟨by omega,?_⟩;rw[am (n:=(i:Int)+1) (by omega)];refine af (aa.ag (NL (i+1) (by omega))) ?_;simp;refine⟨by omega,by omega,by omega,?_⟩;simp[C3];rw[am (by omega)];refine hN (i+1) _ (by omega) (by omega) (Wk.list rfl (by simp[hs1,hs]) (by simp))
 ·obtain rfl:i=L.length:=by omega
  refine hE _ _ ?_;simp only[aL];simp[C4]
def vb (p:List (List UInt8)) (k:Nat):List UInt8:=qX (p.take k)++List.replicate (k - p.length) 10
theorem ab7 {p:List (List UInt8)} {k:Nat} (h:k < p.length):vb p (k+1)=vb p k++p[k]++[10]:=by
 rw[vb,vb,Rg h,show k+1 - p.length=0 by omega,show k - p.length=0 by omega];simp
theorem aae {p:List (List UInt8)} {k:Nat} (h:p.length<=k):vb p (k+1)=vb p k++[10]:=by
 rw[vb,vb,List.take_of_length_le (by omega),List.take_of_length_le h,show k+1 - p.length=(k - p.length)+1 by omega,List.replicate_succ',List.append_assoc]
theorem aad {p:List (List UInt8)} {k:Nat} (hk:k<=20) (hp:p.length<=20) (h:∀ s ∈ p,s.length<=1002):(vb p k).length<=30000:=by
 have h1:=HB (p:=p.take k) (m:=1002) fun s hs=>h s (List.mem_of_mem_take hs);rw[List.length_take] at h1;have h2:1003 * min k p.length<=1003 * 20:=Nat.mul_le_mul_left _ (by omega);simp only[vb,List.length_append,List.length_replicate];omega
theorem aac {p:List (List UInt8)} {h:Nat} (hp:p.length<=h):vb p h=qX p++List.replicate (h - p.length) 10:=by rw[vb,List.take_of_length_le hp]
set_option maxHeartbeats 2000000 in
theorem YL (l:aZ) (x:Roll):cJ Bk [be l,d6 x] (.tup [S (JR l x),B (dd l x)]):=by
 obtain ⟨hn,hp⟩:=sF (l:=l) (x:=x);have hP:=Xq l x;have h0:=@TS l x;have hok:=@PU l x;unfold JR;generalize dn l x=L at hn hp hP h0 ⊢;refine aa.of SL (by simp) ?_;simp[K1,FC,FD];refine bN (aa.ag hP) ?_;cases hb:dd l x with
 | false =>
   obtain rfl:=h0 hb;simp[tT,FE,l8]
 | true =>
 obtain ⟨_,_,k3⟩:=iC (hok hb);have hlen:=HP (h:=x.height.toNat) (ps:=L) (by omega) fun p h=>⟨(hp p h).2.1,(hp p h).2.2.2⟩;have hstep:=@Xk x.height.toNat L;have hh:((x.height.toNat:Nat):Int)=x.height:=by omega
 simp[tT,FF,FG]
 refine ci (fun i:Nat=>⟨[(3,.ref 3 0 0),(6,.sl 14 0 L.length),(8,S (l8 x.height.toNat L i)),(9,I i)],[(3,⟨3,[d6 x]⟩),(14,⟨1,L.map roS⟩)],[]⟩) (fun i=>L.length - i) (fun i=>i<=L.length) 0
  (Wk.trans (Wk.roes 14 3 (by rfl) (by simp)) (Wk.list rfl (by simp[l8]) (by simp))) (by simp) ?_
 intro i hi K hN hR hE;simp[Cy,FH];refine⟨fun hlt=>?_,fun hge=>?_⟩
 ·obtain ⟨p,hpd⟩:∃ p,L[i]=p:=⟨_,rfl⟩;obtain ⟨_,q1,q2,q3⟩:=hp p (hpd▸List.getElem_mem _);have hs:=hstep hlt;have hli:=hlen i (by omega);have hdl:=eC 3 (i+1) (by omega);rw[hpd,<- aac q2] at hs;obtain ⟨T1,hs1⟩:∃ T1,l8 x.height.toNat L (i+1)=T1:=⟨_,rfl⟩;rw[hs1] at hs;obtain ⟨T,hT⟩:∃ T,l8 x.height.toNat L i=T:=⟨_,rfl⟩;rw[hT] at hs hli ⊢;simp[FI]
  refine ci (fun k:Nat=>⟨[(3,.ref 3 0 0),(6,.sl 14 0 L.length),(8,S (T++vb p k)),(9,I i),(10,I k)],[(3,⟨3,[d6 x]⟩),(14,⟨1,L.map roS⟩)],[]⟩) (fun k=>x.height.toNat - k) (fun k=>k<=x.height.toNat) 0
   (Wk.list rfl (by simp[vb,qX]) (by simp)) (by simp) ?_
  intro k hk K2 hN2 hR2 hE2;have hll:=aad (k:=k) (by omega) q1 q3;simp[Cx,FJ];refine⟨fun hklt=>?_,fun hkge=>?_⟩
  ·simp[FK,hlt,hpd];refine⟨fun hin=>?_,fun hout=>?_⟩
   ·have hx:=q3 p[k] (List.getElem_mem _);have hst:=ab7 hin;simp[Ds,hlt,hpd,hin];refine⟨by omega,?_⟩;simp[qM,qN];refine⟨by omega,?_⟩;rw[am (by omega)];refine hN2 (k+1) _ (by omega) (by omega) (Wk.list rfl (by simp[hst]) (by simp))
   ·have hst:=aae hout;simp[qM,qN];refine⟨by omega,?_⟩;rw[am (by omega)];refine hN2 (k+1) _ (by omega) (by omega) (Wk.list rfl (by simp[hst]) (by simp))
  ·obtain rfl:k=x.height.toNat:=by omega
   refine hE2 _ _ ?_;simp only[aL];simp[Dt];rw[am (n:=(i:Int)+1) (by omega)];refine⟨by omega,?_⟩;refine af (aa.ag (Vi (i+1) (by omega))) ?_;simp;refine⟨by omega,by omega,?_⟩;simp[Du];rw[am (by omega)];refine hN (i+1) _ (by omega) (by omega) (Wk.list rfl (by simp[hs1,hs]) (by simp))
 ·obtain rfl:i=L.length:=by omega
  refine hE _ _ ?_;simp only[aL];simp[Dv]
set_option maxRecDepth 100000
def yT:=[fc 2 1 0,fc 3 3 1,ok 4 (vI 0),ok 5 (vI 0),ok 6 (vB false)]
def yU:=[cm 14 1 2,cm 15 3 3,eo 16 yN 14 15,om 13 16,sE 17 13 0,sE 18 13 1,sE 19 13 2,om 7 17,om 8 18,om 9 19]
def yV:=[ok 10 (vI 0)]
def yW:=[om 20 7,oo 21 (.len false (.t 20)),ok 22 (vI 0)]
def yX:=[bM 23 .lss 22 21]
def yY:=[ep 24 1 20 22,bd 25 1 24,om 12 25]
def yZ:=[om 26 10,om 27 12,oo 28 (.len false (.t 27)),bM 29 .add 26 28,om 10 29]
def y0:=[fv 30 22 1,om 22 30]
def yw:C:=(sr yX [7,9,10,20,21,22,23] (ss (sc 23 .skip (.exit 0)) (ss (.block 1 (sr yY [7,9,10,12,20,21,22] (.reg yZ [7,9,10,20,21,22]))) (.reg y0 [7,9,10,20,21,22]))))
def y5:=[om 31 7,oo 32 (.len false (.t 31)),om 33 10,om 34 9,om 4 32,om 5 33,om 6 34]
def Eo:C:=(sr yT [2,3] (sr yU [7,9] (sr yV [7,9,10] (ss (sr yW [7,9,10,20,21,22] (.block 0 (.loop yw))) (sr y5 [4,5,6] .ret)))))
theorem P0:cz th Eo [(.tmp 4),(.tmp 5),(.tmp 6)] 35:=dh func20 rfl
def Um (l:List Grant) (x:Roll):Int:=(dn l x).length
def ae3 (l:List Grant) (x:Roll):Int:=gJ (dn l x)
theorem XI:∀ L:List (List (List UInt8)),(∀ p ∈ L,p.length<=20)->gJ L<=20 * L.length
 | [],_=>by simp
 | p::L,h=>by
   have h1:=h p (by simp);have h2:=XI L fun q hq=>h q (by simp[hq]);rw[KI,List.length_cons];omega
theorem Va (l:List Grant) (x:Roll):(dn l x).length<=12/\gJ (dn l x)<=240:=by
 obtain ⟨hn,hp⟩:=sF (l:=l) (x:=x);have:=XI _ fun p h=>(hp p h).2.1;omega
theorem YZ {L:List (List (List UInt8))} {i:Nat} (h:i < L.length):gJ (L.take (i+1))=gJ (L.take i)+L[i].length:=by
 rw[br h,Cb,KI,T5];omega
theorem UK (l:aZ) (x:Roll):cJ th [be l,d6 x] (.tup [I (Um l x),I (ae3 l x),B (dd l x)]):=by
 obtain ⟨hn,ht⟩:=Va l x;have hP:=UO l x;unfold Um ae3;generalize dn l x=L at hn ht hP;refine aa.of P0 (by simp) ?_;simp[Eo,yT,yU];refine bN (aa.ag hP) ?_;simp[yV,yW]
 refine ci (fun i:Nat=>⟨[(7,.sl 16 0 L.length),(9,B (dd l x)),(10,I (gJ (L.take i))),(20,.sl 16 0 L.length),(21,I L.length),(22,I i)],[(16,⟨1,L.map roS⟩)],[]⟩) (fun i=>L.length - i) (fun i=>i<=L.length) 0
  (Wk.trans (Wk.roes 16 3 (by rfl) (by simp)) Wk.li) (by simp) ?_
 intro i hi K hN hR hE;simp[yw,yX];refine⟨fun hlt=>?_,fun hge=>?_⟩
 ·have hs:=YZ hlt;have hle:=JS L (i+1);simp[yY,hlt];simp[yZ,y0];rw[am (by omega),am (by omega)];refine hN (i+1) _ (by omega) (by omega) (Wk.list rfl (by simp[hs]) (by simp))
 ·obtain rfl:i=L.length:=by omega
  refine hE _ _ ?_;simp only[aL];simp[y5]
def y6:=[fc 2 18 0,ok 4 vN,ok 5 (vB false)]
def y7:=[cm 6 18 2,oo 7 (.bslice 18 Cd 1 [(0,(.t 6))]),oo 8 (.build (.agg [vN]) [(0,(1,(.t 7)))]),di 9 gO 8,oo 10 (.un .not (.t 9)),om 11 10,oF 11 12 (.mv (.t 1)),oF 11 13 (.call cP [.t 12,xI 20,xI 60]),oF 11 14 (.un .not (.t 13)),oo 15 (.pick (.t 11) (xB true) (.t 14))]
def o6:=[ok 4 vN,ok 5 (vB false)]
def y8:=[cm 16 18 2,om 17 1,eo 18 HI 16 17,om 4 18,ok 5 (vB true)]
def Ep:C:=(sr y6 [1,2] (ss (sr y7 [1,2,15] (sc 15 (sr o6 [4,5] .ret) .skip)) (sr y8 [4,5] .ret)))
theorem P1:cz ti Ep [(.tmp 4),(.tmp 5)] 19:=dh func22 rfl
def zz:=[fc 2 18 0,ok 4 vN,ok 5 (vB false)]
def zA:=[cm 6 18 2,oo 7 (.bslice 18 Cd 1 [(0,(.t 6))]),oo 8 (.build (.agg [vN]) [(0,(1,(.t 7)))]),di 9 ve 8,oo 10 (.un .not (.t 9)),om 11 10,oF 11 12 (.mv (.t 1)),oF 11 13 (.call eJ [.t 12,xI 20,xI 60]),oF 11 14 (.un .not (.t 13)),oo 15 (.pick (.t 11) (xB true) (.t 14))]
def pd:=[oo 16 (.bslice 1 (vS []) 0 []),om 4 16,ok 5 (vB false)]
def zB:=[cm 17 18 2,om 18 1,eo 19 mK 17 18,om 4 19,ok 5 (vB true)]
def Ev:C:=(sr zz [1,2] (ss (sr zA [1,2,15] (sc 15 (sr pd [4,5] .ret) .skip)) (sr zB [4,5] .ret)))
theorem P6:cz tl Ev [(.tmp 4),(.tmp 5)] 20:=dh func23 rfl
theorem O1 {g:Grant} {w:Int} (h:ji g w=true):cb g=true/\20<=w/\w<=60:=by
 simp only[ji,Bool.and_eq_true,bH] at h;exact⟨dz h.1 g (by simp),h.2⟩
theorem X9 (g:Grant) (w:Int):(sU g w).length<=302:=by
 unfold sU;split
 ·exact J3 w g
 ·simp
theorem UL (g:Grant) (w:Int):cJ ti [aY g,I w] (.tup [.own 1 ((sU g w).map S),B (ji g w)]):=by
 refine aa.ofN P1 (by simp) ?_;simp[Ep,y6,y7];refine af (aa.ag (u4 [g])) ?_;cases h1:b8 [g] with
 | false=>simp[o6,sU,ji,h1]
 | true =>
 simp;refine af (fJ ..) ?_;cases h2:fu w 20 60 with
 | false=>simp[o6,sU,ji,h1,h2]
 | true =>
 have hok:ji g w=true:=by simp[ji,h1,h2]
 have hk:=O1 hok;simp[y8];refine bN (aa.ag (Zp g w hk.1 hk.2)) ?_;simp[sU,hok]
theorem Vf (g:Grant) (w:Int):cJ tl [aY g,I w] (.tup [.own 1 ((sU g w).map S),B (ji g w)]):=by
 refine aa.of P6 (by simp) ?_;simp[Ev,zz,zA];refine af (aa.ag (TZ [g])) ?_;cases h1:b8 [g] with
 | false=>simp[pd,sU,ji,h1]
 | true =>
 simp;refine af (nM ..) ?_;cases h2:fu w 20 60 with
 | false=>simp[pd,sU,ji,h1,h2]
 | true =>
 have hok:ji g w=true:=by simp[ji,h1,h2]
 have hk:=O1 hok;simp[zB];refine bN (aa.ag (KH g w hk.1 hk.2)) ?_;simp[sU,hok]
def B3:=[ok 4 (vB false)]
def B4:=[om 6 0,oo 7 (.len false (.t 6)),om 8 1,oo 9 (.len false (.t 8)),bM 10 .neq 7 9]
def B5:=[ok 4 (vB false)]
def Nd:=[ok 5 (vI 0)]
def Nf:=[om 11 5,om 12 0,oo 13 (.len false (.t 12)),bM 14 .lss 11 13]
def Ng:=[om 17 0,om 18 5,ep 19 1 17 18,bd 20 1 19,om 21 1,om 22 5,ep 23 1 21 22,bd 24 1 23,bM 25 .neq 20 24]
def LH:List (List Nat):=[[],[],[0,1],[0,1,2],[],[],[4,5],[4,5,6],[0,1,2,3,4,5,6,7]]
def Nh:=[ok 4 (vB false)]
def Ni:=[om 15 5,fv 16 15 1,om 5 16]
def Lw:C:=(ss (sr Nf [0,1,5,14] (sc 14 .skip (.exit 0))) (ss (.block 1 (ss (.regD Ng LH [0,1,5,25]) (sc 25 (sr Nh [4] .ret) .skip))) (.reg Ni [0,1,5])))
def B6:=[ok 4 (vB true)]
def JZ:C:=(sr B3 [0,1] (ss (sr B4 [0,1,10] (sc 10 (sr B5 [4] .ret) .skip)) (ss (sr Nd [0,1,5] (.block 0 (.loop Lw))) (sr B6 [4] .ret))))
def Yn:Nat->List Nat
 | 0=>[0,1]
 | 1=>[0,1,10]
 | 2=>[4]
 | 3=>[0,1,5]
 | 4=>[0,1,5,14]
 | 6=>[0,1,5,25]
 | 7=>[4]
 | 5=>[0,1,5]
 | 8=>[4]
 | _=>[]
theorem Wm:cz Bt JZ [(.tmp 4)] 26 :=
 ⟨Tryz.f19,_,Yn,func19,rfl,by kernel_rfl,by kernel_rfl,by kernel_rfl,rfl⟩
theorem XR (a b:List (List UInt8)):cJ Bt [.ro 1 (a.map S),.ro 1 (b.map S)] (B (decide (a=b))):=by
 refine aa.ofL Wm (by simp) fun hl=>?_;simp at hl;by_cases hl:a.length=b.length
 ·simp[JZ,B3,B4,B5,Nd,B6,hl];refine ci (fun i:Nat=>⟨[(0,.ro 1 (a.map S)),(1,.ro 1 (b.map S)),(5,I i)],[],[]⟩) (fun i=>a.length - i) (fun i=>i<=a.length/\∀ j,j < i->a[j]?=b[j]?) 0 Wk.li ⟨by simp,by simp⟩ ?_;rintro i ⟨hi,hj⟩ K hN hR hE;simp[Lw,Nf];refine⟨fun hlt=>?_,fun hge=>?_⟩
  ·have hlb:i < b.length:=by omega
   simp[Ng,LH,hlt,hlb];refine⟨⟨rfl,rfl⟩,fun hne=>?_,fun he=>?_⟩
   ·simp[Nh];refine hR _ ?_;simp;rintro rfl;exact hne rfl
   ·simp[Ni];rw[am (by omega)];refine hN (i+1) _ (by omega) ⟨by omega,fun j hj'=>?_⟩ Wk.li;by_cases e:j=i
    ·subst e;simp[hlt,hlb,he]
    ·exact hj j (by omega)
  ·refine hE _ _ ?_
   have:a=b:=by
    apply List.ext_getElem?;intro j;by_cases h:j < i
    ·exact hj j h
    ·rw[List.getElem?_eq_none (by omega),List.getElem?_eq_none (by omega)]
   simp only[aL];simp[B6,this]
 ·simp[JZ,B3,B4,B5,hl];exact⟨fun _ e=>hl (by rw[e]),fun e=>absurd e (by omega)⟩
def R9:=[ok 2 (vB false)]
def Sa:=[om 3 0,oo 4 (.len false (.t 3)),cD 5 .gtr 4 65536,om 2 5]
def VN:C:=(sr R9 [0] (sr Sa [2] .ret))
theorem Z1:cz RR VN [(.tmp 2)] 6:=dh func15 rfl
theorem afI (code:List UInt8):cJ RR [.ro 1 (code.map Y)] (B (decide (65536 < code.length))):=by
 refine aa.ofL Z1 (by simp) fun hl=>?_;simp[VN,R9,Sa];omega
theorem acr (l:aZ) (x:Roll) (h:dd l x=true):(vj l x).length<=List.length l:=by
 unfold dd at h;cases ha:gH l x with
 | none=>rw[ha] at h;cases h
 | some ps =>
   unfold vj E8 TN;rw[List.length_map,ha];have h1:=Kg ((dp 0 ((some ps).getD [])).map (·.1));rw[List.length_map,tC] at h1;simp only[Option.getD_some] at h1 ⊢;rw[sL ha,jL] at h1;exact h1
theorem XG (l:aZ) (x:Roll):dd l x=true->(JR l x).length<=360000:=by
 intro h;have h1:=@sF l x
 have hx:x.height.toNat<=20:=by
  unfold dd at h;cases ha:gH l x with
  | none=>rw[ha] at h;cases h
  | some ps =>
    have:=(iC (jP ha).2.1).2.2;omega
 have:=HP (h:=x.height.toNat) (ps:=dn l x) hx (fun p hp=>⟨(h1.2 p hp).2.1,(h1.2 p hp).2.2.2⟩) (dn l x).length (by have:=h1.1;omega);have h2:=h1.1;have h3:30000 * (dn l x).length<=30000 * 12:=Nat.mul_le_mul_left _ h2;unfold JR;omega
set_option maxHeartbeats 4000000 in
theorem adp (code:List UInt8):cJ CI [.ro 1 (code.map Y)] (B true):=by
 obtain ⟨l,x,hl,hD⟩:=Sf code;obtain ⟨g,y,hD2⟩:=Ox code;have hIT:=Yh l x;have hST:=YL l x;have hIN:=O7 l x;have hSN:=PP l x;have hIC:=UK l x;have hIE:=UL g y;have hSE:=Vf g y;have hEl:=X9 g y;have hnl:=TM l x
 have hfacts:dd l x=true->(JR l x).length<=360000/\(vj l x).length<=List.length l/\(uL (JR l x):Int)=Um l x * (x.height+1)/\4<=x.height/\x.height<=20/\0<=Um l x/\Um l x<=12:=by
  intro h
  have hx:4<=x.height/\x.height<=20:=by
   have h':=h;unfold dd at h';cases ha:gH l x with
   | none=>rw[ha] at h';cases h'
   | some ps=>exact(iC (jP ha).2.1).2.2
  have hp:=(@sF l x).1;refine⟨XG l x h,acr l x h,?_,hx.1,hx.2,by unfold Um;omega,by unfold Um;omega⟩;rw[ZY h];unfold Um;rw[Int.natCast_mul,Int.natCast_add,Int.toNat_of_nonneg (by omega)];rfl
 generalize JR l x=T at hIT hST hfacts;generalize vj l x=N at hIN hSN hnl hfacts;generalize dd l x=b at hIT hST hIN hSN hIC hfacts;generalize Um l x=n at hIC hfacts;generalize ae3 l x=m at hIC;generalize sU g y=E at hIE hSE hEl;generalize ji g y=e at hIE hSE;refine aa.of Oa (by simp) ?_;simp[Cp,wa,wb];refine af (aa.ag (afI code)) ?_;by_cases hbig:65536 < code.length
 ·simp[wc,hbig]
 simp[hbig];simp[wd];refine Lg (aa.ag hD) ?_;simp[we];refine bN (aa.at hIT) ?_;simp[wg];refine bN (aa.at hST) ?_;simp[wh];simp[wi];refine bN (aa.at hIN) ?_;simp[wj];refine bN (aa.at hSN) ?_;simp[uf];refine af (aa.ag (XR N N)) ?_;simp[ug];refine⟨fun hb=>?_,fun hb=>?_⟩
 case' refine_1 =>
  subst hb;obtain ⟨f1,f2,f3,f4,f5,f6,f7⟩:=hfacts rfl;simp[uh];refine bN (aa.at hIC) ?_;simp[ui,uj];have hlt0:¬(List.length l:Int) < (N.length:Int):=by omega
  refine ci (fun i:Nat=>⟨[(0,.ro 1 (code.map Y)),(3,.ref 3 0 0),(4,.ref 4 0 0),(5,S T),(9,.sl 54 0 N.length),(13,I n),(15,B true),(16,I (uL (T.take i))),(17,I i)],
    [(54,⟨1,N.map S⟩),(4,⟨3,[d6 x]⟩),(3,⟨1,[.agg [.sl 28 0 (List.length l)]]⟩),(28,⟨18,List.map aY l⟩)],[]⟩)
   (fun i=>T.length - i) (fun i=>i<=T.length) 0 (Wk.list rfl (by simp[uL]) (by simp)) (by simp) ?_
  intro i hi K hN hR hE
  have hcl:uL (T.take i)<=i:=by
   have:=List.countP_le_length (p:=fun b:UInt8=>b==10) (l:=T.take i);rw[List.length_take] at this;unfold uL;omega
  simp[te,um];refine⟨fun hlt=>?_,fun hge=>?_⟩
  ·have hst:=ZX hlt;simp[uo,hlt];refine⟨fun he=>?_,fun hne=>?_⟩
   ·have e10:T[i]=10:=by
     have h1:T[i].toNat=10:=by omega
     have h2:(10:UInt8).toNat=10:=rfl;exact UInt8.toNat_inj.1 (h1.trans h2.symm)
    rw[if_pos e10] at hst;simp[uq,lz];rw[am (by omega),am (by omega)];exact hN (i+1) _ (by omega) (by omega) (Wk.list rfl (by simp[hst]) (by simp))
   ·have e10:¬T[i]=10:=fun e=>hne (by rw[e];rfl);rw[if_neg e10] at hst;simp[lz];rw[am (by omega)];exact hN (i+1) _ (by omega) (by omega) (Wk.list rfl (by simp[hst]) (by simp))
  obtain rfl:i=T.length:=by omega
  refine hE _ _ ?_;simp only[aL];rw[List.take_of_length_le (Nat.le_refl _),f3];have g1:0<=n * (x.height+1):=Int.mul_nonneg f6 (by omega);have g2:n * (x.height+1)<=12 * 21:=Int.mul_le_mul f7 (by omega) (by omega) (by omega);have g3:IntKind.i64.wrap (x.height+1)=x.height+1:=am (by omega);have g4:IntKind.i64.wrap (n * (x.height+1))=n * (x.height+1):=am (by omega);clear hN hR hE;simp[ur,hlt0,g3,g4];refine dY ⟨[(0,.ro 1 (code.map Y))],[],[]⟩ Wk.li ?_
 case' refine_2 =>
  refine dY ⟨[(0,.ro 1 (code.map Y))],[],[]⟩ Wk.li ?_
 all_goals
  simp[ut];refine Lg (aa.ag hD2) ?_;simp[uu];refine bN (aa.ag hIE) ?_;simp[uv];refine bN (aa.ag hSE) ?_;simp[uw];refine af (aa.ag (XR E E)) ?_;simp
end Go.Proofs.YtjkogbgbienloaaGreatDoor
