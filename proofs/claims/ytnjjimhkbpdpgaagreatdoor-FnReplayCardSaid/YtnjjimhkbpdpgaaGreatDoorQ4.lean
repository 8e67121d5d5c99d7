/- Parts of the proof that several claims share, part 4. -/
import Derived.Shelf.Strings.Builder1
import Derived.Shelf.Strings.Builder2
import Derived.Shelf.Strings.OnBuilder
import Derived.Shelf.Small.Wraps
import Derived.Shelf.Strconv.Atoi
import Derived.Shelf.Strconv.Itoa0
import Derived.Shelf.Strconv.Itoa1
import Derived.Shelf.LaysM
import Derived.Shelf.Strconv.Itoa2
import Derived.Shelf.Strconv.Itoa3
import Derived.Shelf.Strconv.AtoiErrFast
import Derived.Shelf.Strconv.ParseIntEmpty
import Derived.Shelf.Strconv.AtoiFail
import Derived.Shelf.Strconv.Clone
import Derived.Shelf.Strconv.SyntaxError
import Derived.Shelf.LaysC
import Derived.Shelf.Strconv.ToError
import Derived.Shelf.Strconv.Lower
import Derived.Shelf.Strconv.ParseUint10
import Derived.Shelf.Strconv.ParseUint10Empty
import Derived.Shelf.Strconv.ParseUint10Any
import Derived.Shelf.Strconv.ParseInt10
import Derived.Shelf.Strconv.AtoiLong
import Derived.Shelf.Strconv.AtoiInnerAll
import Derived.Shelf.Strconv.RangeError
import Derived.Shelf.Strconv.ToErrorRange
import Derived.Shelf.Strconv.AtoiAll
import Derived.Shelf.Strings.Search1
import Derived.Shelf.Strings.Search2
import Derived.Shelf.Strings.Search3
import Derived.Shelf.Strings.Cut
import Derived.Shelf.Strings.Count
import Derived.Shelf.Strings.Shaped
import Derived.Shelf.Strings.Prefix
import Derived.Shelf.Strings.Split
import Derived.Shelf.Unicode.DecodeSlow
import Derived.Test.YtnjjimhkbpdpgaaGreatDoorProg
import Derived.Lib.ItoaNum
import Derived.Lib.Atoi
import Derived.Shelf.Strings.AsciiSet
import Derived.Handy
import Derived.LoopTactic
import Derived.Lib.AtoiTie
import Derived.Lib.AtoiErrMem
import Derived.Test.YtnjjimhkbpdpgaaGreatDoorQ3
set_option linter.unusedVariables false
set_option linter.unusedSimpArgs false
namespace Go.Proofs.YtnjjimhkbpdpgaaGreatDoor
open Go.Abs
def Dz:Grant:=⟨0,[],0,⟨⟨0,0,0,0⟩,0,0,0,⟨0,0,0,0⟩,⟨0,0,0,0⟩⟩⟩
def upB (b:UInt8):Bool:=decide (65<=b.toNat)&&decide (b.toNat<=90)
def aVk (b:UInt8):Bool:=decide (97<=b.toNat)&&decide (b.toNat<=122)
def aCp (s:List UInt8) (i:Nat):Bool:=if i=0 then upB (s.getD i 0) else aVk (s.getD i 0)
def mR (s:List UInt8):Bool:=fV s.length 1 12&&(List.range s.length).all (aCp s)
def jx (g:Grant):Bool:=fV g.number 1 999&&(mR g.name&&(fV g.year 1000 2999&&arms g.arms))
def H6 (p g:Grant):Bool:=decide (p.number < g.number)&&decide (p.year<=g.year)
def oW (l:List Grant) (i:Nat):Bool:=jx (l.getD i Dz)&&((decide (i=0)||H6 (l.getD (i - 1) Dz) (l.getD i Dz))&&(l.take i).all fun k=>!decide (kx k.arms (l.getD i Dz).arms < 2))
def bx (l:List Grant):Bool:=decide (l.length<=12)&&(List.range l.length).all (oW l)
theorem gM {a:Arms} (h:arms a=true):cN a.field=true:=by
 simp only[arms,Bool.and_eq_true] at h;exact h.1.1
theorem aCq {s:List UInt8} {i:Nat} (h:i < s.length):aCp s i=true↔(i=0->65<=s[i].toNat/\s[i].toNat<=90)/\(i≠0->97<=s[i].toNat/\s[i].toNat<=122):=by
 have hg:s.getD i 0=s[i]:=by simp[h]
 unfold aCp;rw[hg];split
 ·rename_i e;simp[upB,e]
 ·rename_i e;simp[aVk,e]
theorem aIU (s:List UInt8):di adf [S s] (B (mR s)):=by
 refine aa.ofL aIf (by simp) fun hl=>?_;simp at hl;simp[aBY,auH,auI,auO];refine dl (fun i:Nat=>⟨[(0,S s),(5,I s.length),(6,I i)],[],[]⟩) (fun i=>s.length - i) (fun i=>i<=s.length/\(List.range i).all (aCp s)=true) 0 Wk.li (by simp) ?_;rintro i ⟨hi,hj⟩ K hN hR hE;simp[auJ,atY];refine⟨fun hlt=>?_,fun hge=>?_⟩
 ·have hc:=aCq hlt;simp[auK,auL,hlt];refine⟨fun e=>⟨fun a=>⟨fun b=>⟨fun c=>by omega,fun _=>?_⟩,fun b=>?_⟩,fun a=>?_⟩,fun e=>⟨fun c=>⟨fun a=>⟨fun b=>?_,fun b=>?_⟩,fun a=>?_⟩,fun e'=>absurd e' e⟩⟩
  all_goals first
   | (have h:aCp s i=true:=by rw[hc];omega
      simp[auN];rw[aD (by omega)];refine hN (i+1) _ (by omega) ⟨by omega,?_⟩ Wk.li;rw[MA,hj,h];rfl)
   | (have h:¬aCp s i=true:=by rw[hc];omega
      simp[auM];refine hR _ ?_
      have:mR s=false:=by
       unfold mR;rw[ahr hlt (by simpa using h),Bool.and_false]
      simp[this])
 ·refine hE _ _ ?_;obtain rfl:i=s.length:=by omega
  simp;refine al (vE ..) ?_;simp[mR,hj]
theorem ayO (s:List UInt8):di N0 [S s] (B (mR s)):=by
 refine aa.ofL aGn (by simp) fun hl=>?_;simp at hl;simp[azd,ao6,ao7];refine al (LL ..) ?_;cases h1:fV s.length 1 12 with
 | false=>simp[NB,mR,h1]
 | true =>
 have h1':=db.1 h1;have h0:0 < s.length:=by omega
 have hc:=aCq h0
 have bad:∀ i,i < s.length->¬aCp s i=true->mR s=false:=fun i hlt h=>by
  unfold mR;rw[ahr hlt (by simpa using h),Bool.and_false]
 simp[h0];refine⟨fun a=>⟨fun b=>?_,fun b=>?_⟩,fun a=>?_⟩
 ·have:=bad 0 h0 (by rw[hc];omega);simp[NB,this]
 rotate_left
 ·have:=bad 0 h0 (by rw[hc];omega);simp[NB,this]
 have hc0:aCp s 0=true:=by rw[hc];omega
 simp[ao8,apd];refine dl (fun i:Nat=>⟨[(0,S s),(3,I i)],[],[]⟩) (fun i=>s.length - i) (fun i=>(1<=i/\i<=s.length)/\(List.range i).all (aCp s)=true) 1 Wk.li ⟨by omega,by simp[hc0]⟩ ?_;rintro i ⟨⟨h1i,hi⟩,hj⟩ K hN hR hE;simp[ao9,anY];refine⟨fun hlt=>?_,fun hge=>?_⟩
 ·have hc:=aCq hlt;simp[apa,hlt];refine⟨fun a=>⟨fun b=>?_,fun b=>?_⟩,fun a=>?_⟩
  all_goals first
   | (have h:aCp s i=true:=by rw[hc];omega
      simp[apc];rw[aD (by omega)];refine hN (i+1) _ (by omega) ⟨by omega,?_⟩ Wk.li;rw[MA,hj,h];rfl)
   | (have h:¬aCp s i=true:=by rw[hc];omega
      simp[apb];refine hR _ ?_;simp[bad i hlt h])
 ·refine hE _ _ ?_;obtain rfl:i=s.length:=by omega
  simp[mR,h1,hj]
theorem aLt (g:Grant):di adj [bd g] (B (jx g)):=by
 refine aa.of aEw (by simp) ?_;simp[atf,aj0,aj1];refine al (LL ..) ?_;cases h1:fV g.number 1 999 with
 | false=>simp[jx,h1]
 | true =>
 simp;refine al (ayO ..) ?_;cases h2:mR g.name with
 | false=>simp[jx,h2]
 | true =>
 simp;refine al (LL ..) ?_;cases h3:fV g.year 1000 2999 with
 | false=>simp[jx,h3]
 | true =>
 simp;refine al (aa.ag (amp g.arms)) ?_;simp[jx,h1,h2,h3]
theorem uS {l:List Grant} {i:Nat} (h:i < l.length) (hs:oW l i=false):bx l=false:=by
 unfold bx;rw[ahr h hs,Bool.and_false]
theorem zx (l:aT):di mZ [bn l] (B (bx l)):=by
 refine aa.of aGm (by simp) ?_;simp[azc,ao0,ao1];refine⟨fun h=>?_,fun h12=>?_⟩
 ·have:bx l=false:=by simp[bx];omega
  simp[ao2,this]
 simp[ao3,ajZ];refine dl (fun i:Nat=>⟨[(1,.ref 1 0 0),(3,I i)],[(1,⟨1,[bn l]⟩)],[]⟩) (fun i=>l.length - i) (fun i=>i<=l.length/\(List.range i).all (oW l)=true) 0 Wk.li (by simp) ?_;rintro i ⟨hi,hj⟩ K hN hR hE;simp[ao4,aie];refine⟨fun hlt=>?_,fun hge=>?_⟩
 ·have hg:l.getD i Dz=l[i]:=by simp[hlt]
  simp[ao5,aoc,hlt];refine iV (aLt l[i]) ?_ ?_ ?_
  ·simp
  ·simp
  cases h1:jx l[i] with
  | false =>
    simp;refine⟨a7 (by first | kernel_rfl | simp) (by first | kernel_rfl | simp),?_⟩;simp[ZF];refine hR _ ?_;have:oW l i=false:=by rw[oW,hg,h1];rfl
    simp[uS hlt this]
  | true =>
    simp;have hk:i≠0->IntKind.i64.wrap ((i:Int) - 1)=((i - 1:Nat):Int):=fun e=>by rw[aD (by omega)];omega
    have hil:i - 1 < l.length:=by omega
    have hgl:l.getD (i - 1) Dz=l[i - 1]:=by simp[hil]
    have hpr:(decide (i=0)||H6 (l.getD (i - 1) Dz) (l.getD i Dz))=true↔i=0\/(l[i - 1].number < l[i].number/\l[i - 1].year<=l[i].year):=by
     rw[hg,hgl];simp[H6]
    have hst:oW l i=((decide (i=0)||H6 (l.getD (i - 1) Dz) (l.getD i Dz))&&(l.take i).all fun k=>!decide (kx k.arms l[i].arms < 2)):=by
     rw[oW,hg,h1,Bool.true_and]
    refine⟨fun e=>?_,fun e=>?_⟩
    ·have e':i≠0:=by omega
     simp[hk e',hlt,hil];refine⟨fun a=>⟨a7 (by first | kernel_rfl | simp) (by first | kernel_rfl | simp),fun b=>?_,fun b=>?_⟩,fun a=>⟨a7 (by first | kernel_rfl | simp) (by first | kernel_rfl | simp),?_⟩⟩
     all_goals first
      | (have hp:(decide (i=0)||H6 (l.getD (i - 1) Dz) (l.getD i Dz))=true:=hpr.2 (by omega)
         simp[ZG,UY];refine dl (fun k:Nat=>⟨[(1,.ref 1 0 0),(3,I i),(4,I k)],[(1,⟨1,[bn l]⟩)],[]⟩) (fun k=>i - k) (fun k=>k<=i/\((l.take k).all fun k=>!decide (kx k.arms l[i].arms < 2))=true) 0 Wk.li (by simp) ?_;rintro k ⟨hki,hkj⟩ K' hN' hR' hE';have hkl:k<=l.length:=by omega
         simp[ZH,TN];refine⟨fun hlk=>?_,fun hgk=>?_⟩
         ·have hkl':k < l.length:=by omega
          simp[ZI,Zs,hlt,hkl'];refine cF (aa.ag (ZZ l[k].arms l[i].arms)) ?_;cases hd:decide (kx l[k].arms l[i].arms < 2) with
          | true =>
            simp;refine⟨a7 (by first | kernel_rfl | simp) (by first | kernel_rfl | simp),?_⟩;simp[UW];refine hR' _ ?_;have hgk:k < (l.take i).length:=by rw[List.length_take];omega
            have:oW l i=false:=by
             rw[hst,hp,Bool.true_and];refine axI hgk ?_;rw[List.getElem_take,hd];rfl
            simp;refine hR _ ?_;simp[uS hlt this]
          | false =>
            simp;refine⟨a7 (by first | kernel_rfl | simp) (by first | kernel_rfl | simp),?_⟩;simp[UX];rw[aD (by omega)];refine hN' (k+1) _ (by omega) ⟨by omega,?_⟩ Wk.li;rw[Gk hkl',hkj,hd];rfl
         ·obtain rfl:k=i:=by omega
          refine hE' _ _ ?_;simp;rw[aD (by omega)];refine hN (k+1) _ (by omega) ⟨by omega,?_⟩ Wk.li;rw[MA,hj,hst,hp,hkj];rfl)
      | (have hp:¬(decide (i=0)||H6 (l.getD (i - 1) Dz) (l.getD i Dz))=true:=by rw[hpr];omega
         simp[ZF];refine hR _ ?_;have:oW l i=false:=by rw[hst,Bool.eq_false_iff.2 hp,Bool.false_and]
         simp[uS hlt this])
    ·have hp:(decide (i=0)||H6 (l.getD (i - 1) Dz) (l.getD i Dz))=true:=hpr.2 (by omega);refine⟨a7 (by first | kernel_rfl | simp) (by first | kernel_rfl | simp),?_⟩;simp[ZG,UY];refine dl (fun k:Nat=>⟨[(1,.ref 1 0 0),(3,I i),(4,I k)],[(1,⟨1,[bn l]⟩)],[]⟩) (fun k=>i - k) (fun k=>k<=i/\((l.take k).all fun k=>!decide (kx k.arms l[i].arms < 2))=true) 0 Wk.li (by simp) ?_;rintro k ⟨hki,hkj⟩ K' hN' hR' hE';have hkl:k<=l.length:=by omega
     simp[ZH,TN];refine⟨fun hlk=>?_,fun hgk=>?_⟩
     ·have hkl':k < l.length:=by omega
      simp[ZI,Zs,hlt,hkl'];refine cF (aa.ag (ZZ l[k].arms l[i].arms)) ?_;cases hd:decide (kx l[k].arms l[i].arms < 2) with
      | true =>
        simp;refine⟨a7 (by first | kernel_rfl | simp) (by first | kernel_rfl | simp),?_⟩;simp[UW];refine hR' _ ?_;have hgk:k < (l.take i).length:=by rw[List.length_take];omega
        have:oW l i=false:=by
         rw[hst,hp,Bool.true_and];refine axI hgk ?_;rw[List.getElem_take,hd];rfl
        simp;refine hR _ ?_;simp[uS hlt this]
      | false =>
        simp;refine⟨a7 (by first | kernel_rfl | simp) (by first | kernel_rfl | simp),?_⟩;simp[UX];rw[aD (by omega)];refine hN' (k+1) _ (by omega) ⟨by omega,?_⟩ Wk.li;rw[Gk hkl',hkj,hd];rfl
     ·obtain rfl:k=i:=by omega
      refine hE' _ _ ?_;simp;rw[aD (by omega)];refine hN (k+1) _ (by omega) ⟨by omega,?_⟩ Wk.li;rw[MA,hj,hst,hp,hkj];rfl
 ·refine hE _ _ ?_;obtain rfl:i=l.length:=by omega
  have:l.length<=12:=by omega
  simp[bx,this,hj]
theorem LP (l:List Grant) (p:Grant->Bool) (g:Nat) (caps:List V) (hc:∀ hp,caps.map (cz hp 6)=caps) (hp:∀ x ∈ l,di g (bd x::caps) (B (p x))) :
  di gp [.ro 18 (l.map bd),.clo g caps] (I (idx p l)):=by
 refine aa.ofL sJ (by simp) fun hl=>?_;simp at hl;simp[mN,lI,lJ,lP];refine GJ (fun i:Nat=>⟨[(0,.ro 18 (l.map bd)),(1,.clo g caps),(7,I l.length),(8,I i)],[],[]⟩) (fun i=>l.length - i) (fun i=>i<=l.length/\∀ j (_:j < i) (hj:j < l.length),p l[j]=false) 0 Wk.li (by simp) ?_;rintro i ⟨hi,hj⟩;simp[lK,lG];refine⟨fun hlt=>?_,fun hge=>?_⟩
 ·simp[lL,lM,hlt];refine al (aa.arg (hp l[i] (List.getElem_mem _)) (by simp[hc])) ?_;simp;refine⟨fun ht=>?_,fun hf=>?_⟩
  ·simp[lN];exact(ac2 hlt (fun j h=>hj j h (by omega)) ht).symm
  ·simp[lO];rw[aD (by omega)];refine FD (i+1) (by omega) ⟨by omega,fun j h h'=>?_⟩ Wk.li;by_cases e:j=i
   ·subst e;exact hf
   ·exact hj j (by omega) h'
 ·have:idx p l = -1:=JD fun j h=>hj j (by omega) h;simp[this]
theorem tZ (l:List Grant) (p:Grant->Bool) (g:Nat) (caps:List V) (hc:∀ hp,caps.map (cz hp 6)=caps) (hc5:∀ hp,caps.map (cz hp 5)=caps) (hp:∀ x ∈ l,di g (bd x::caps) (B (p x))) :
  di lx [.ro 18 (l.map bd),.clo g caps] (B (l.any p)):=by
 refine aa.of Ev (by simp) ?_;simp[rj,pP,pQ];refine al (aa.arg (LP l p g caps hc hp) (by simp[hc5])) ?_;simp[<- amZ]
theorem Qm (g:Grant) (x:Grant) (hx:cN x.arms.field=true) (hg:cN g.arms.field=true):di pC [bd x,.rp 18 [bd g] 0 0] (B (decide (kx x.arms g.arms < 2))):=by
 refine aa.of acZ (by simp) ?_;simp[LY,IE,IF];refine al (aa.ag (aCV x.arms g.arms hx hg)) ?_;simp
theorem aDh {g:Grant} (h:jx g=true):cN g.arms.field=true:=by
 simp only[jx,Bool.and_eq_true] at h;exact gM h.2.2.2
theorem asI {l:List Grant} {i:Nat} (hi:i<=l.length) (hj:(List.range i).all (oW l)=true):∀ x ∈ l.take i,cN x.arms.field=true:=by
 intro x hx;obtain ⟨j,hjl,rfl⟩:=List.getElem_of_mem hx;rw[List.getElem_take];rw[List.length_take] at hjl;have:=List.all_eq_true.1 hj j (List.mem_range.2 (by omega))
 have hgj:l.getD j Dz=l[j]:=by
  have:j < l.length:=by omega
  simp[this]
 rw[oW,hgj] at this;simp only[Bool.and_eq_true] at this;exact aDh this.1
theorem gR (l:aT):di eU [bn l] (B (bx l)):=by
 refine aa.ofL ahV (by simp) fun hl=>?_;simp at hl;simp[Qh,Mb,Mc,Kp];refine dl (fun i:Nat=>⟨[(1,.ref 1 0 0),(6,.ro 18 (l.map bd)),(7,I l.length),(8,I i)],[(1,⟨1,[bn l]⟩)],[]⟩) (fun i=>l.length - i) (fun i=>i<=l.length/\(List.range i).all (oW l)=true) 0 Wk.li (by simp) ?_;rintro i ⟨hi,hj⟩ K hN hR hE;simp[Md,JK];refine⟨fun hlt=>?_,fun hge=>?_⟩
 ·have hg:l.getD i Dz=l[i]:=by simp[hlt]
  simp[Me,hlt];simp[Mf];have no:jx l[i]=false->oW l i=false:=fun h=>by rw[oW,hg,h];rfl
  refine al (vE ..) ?_;cases h1:fV l[i].number 1 999 with
  | false =>
    simp[pD];refine hR _ ?_;simp[uS hlt (no (by simp[jx,h1]))]
  | true =>
  simp;refine al (aIU ..) ?_;cases h2:mR l[i].name with
  | false =>
    simp[pD];refine hR _ ?_;simp[uS hlt (no (by simp[jx,h2]))]
  | true =>
  simp;refine al (vE ..) ?_;cases h3:fV l[i].year 1000 2999 with
  | false =>
    simp[pD];refine hR _ ?_;simp[uS hlt (no (by simp[jx,h3]))]
  | true =>
  simp;refine al (aa.ag (GB l[i].arms)) ?_;cases h4:arms l[i].arms with
  | false =>
    simp[pD];refine hR _ ?_;simp[uS hlt (no (by simp[jx,h4]))]
  | true =>
  have hok:jx l[i]=true:=by simp[jx,h1,h2,h3,h4]
  have hk:i≠0->IntKind.i64.wrap ((i:Int) - 1)=((i - 1:Nat):Int):=fun e=>by rw[aD (by omega)];omega
  have hil:i - 1 < l.length:=by omega
  have hgl:l.getD (i - 1) Dz=l[i - 1]:=by simp[hil]
  have hpr:(decide (i=0)||H6 (l.getD (i - 1) Dz) (l.getD i Dz))=true↔i=0\/(l[i - 1].number < l[i].number/\l[i - 1].year<=l[i].year):=by
   rw[hg,hgl];simp[H6]
  have hst:oW l i=((decide (i=0)||H6 (l.getD (i - 1) Dz) (l.getD i Dz))&&(l.take i).all fun k=>!decide (kx k.arms l[i].arms < 2)):=by
   rw[oW,hg,hok,Bool.true_and]
  have hany:((l.take i).any fun k=>decide (kx k.arms l[i].arms < 2))=!((l.take i).all fun k=>!decide (kx k.arms l[i].arms < 2)):=by
   rw[List.all_eq_not_any_not];simp
  simp[Mg,L3];refine⟨fun e=>?_,fun e=>?_⟩
  ·have e':i≠0:=by omega
   simp[hk e',hlt,hil];refine⟨fun a=>⟨a7 (by first | kernel_rfl | simp) (by first | kernel_rfl | simp),fun b=>?_,fun b=>?_⟩,fun a=>⟨a7 (by first | kernel_rfl | simp) (by first | kernel_rfl | simp),?_⟩⟩
   all_goals first
    | (have hp:(decide (i=0)||H6 (l.getD (i - 1) Dz) (l.getD i Dz))=true:=hpr.2 (by omega)
       have hi':i<=l.length:=by omega
       have hf:=asI hi' hj;have hfi:=aDh hok;simp[Dn,hi'];refine al (aa.ag (tZ (l.take i) (fun k=>decide (kx k.arms l[i].arms < 2)) pC [.rp 18 [bd l[i]] 0 0] (by simp) (by simp) (fun x hx=>Qm l[i] x (hf x hx) hfi))) ?_;rw[hany];cases hd:(l.take i).all fun k=>!decide (kx k.arms l[i].arms < 2) with
       | false =>
         simp[Do];refine hR _ ?_;have:oW l i=false:=by rw[hst,hd,Bool.and_false]
         simp[uS hlt this]
       | true =>
         simp[Au];rw[aD (by omega)];refine hN (i+1) _ (by omega) ⟨by omega,?_⟩ Wk.li;rw[MA,hj,hst,hp,hd];rfl)
    | (have hp:¬(decide (i=0)||H6 (l.getD (i - 1) Dz) (l.getD i Dz))=true:=by rw[hpr];omega
       simp[Mh];refine hR _ ?_;have:oW l i=false:=by rw[hst,Bool.eq_false_iff.2 hp,Bool.false_and]
       simp[uS hlt this])
  ·have hp:(decide (i=0)||H6 (l.getD (i - 1) Dz) (l.getD i Dz))=true:=hpr.2 (by omega);refine⟨a7 (by first | kernel_rfl | simp) (by first | kernel_rfl | simp),?_⟩;have hi':i<=l.length:=by omega
   have hf:=asI hi' hj;have hfi:=aDh hok;simp[Dn,hi'];refine al (aa.ag (tZ (l.take i) (fun k=>decide (kx k.arms l[i].arms < 2)) pC [.rp 18 [bd l[i]] 0 0] (by simp) (by simp) (fun x hx=>Qm l[i] x (hf x hx) hfi))) ?_;rw[hany];cases hd:(l.take i).all fun k=>!decide (kx k.arms l[i].arms < 2) with
   | false =>
     simp[Do];refine hR _ ?_;have:oW l i=false:=by rw[hst,hd,Bool.and_false]
     simp[uS hlt this]
   | true =>
     simp[Au];rw[aD (by omega)];refine hN (i+1) _ (by omega) ⟨by omega,?_⟩ Wk.li;rw[MA,hj,hst,hp,hd];rfl
 ·refine hE _ _ ?_;obtain rfl:i=l.length:=by omega
  simp[bx,hj];omega
theorem vh (l:aT) (hl:l.length<=1048576):di lV [bn l] (ly l):=by
 refine aa.of arR (by simp) ?_;simp[VS,Re,Rf];unfold bR;omega
theorem Vl (l:aT) (hl:l.length<=1048576):di Ai [bn l] (ly l):=by
 refine aa.of aIi (by simp) ?_;simp[aB1,au1,au2];unfold bR;omega
theorem eo {l:aT} (h:bx l=true):l.length<=12:=by
 simp only[bx,Bool.and_eq_true,decide_eq_true_iff] at h;exact h.1
set_option maxRecDepth 100000
def au3:=[ok 2 (vI 0),ok 3 (vB false)]
def au4:=[om 7 0,om 4 7]
def au5:=[om 8 4,oo 9 (.len true (.t 8)),cn 10 .gtr 9 1,om 11 10,oT 11 12 (.mv (.t 4)),oT 11 13 (.idx (.t 12) (xI 0)),oT 11 14 (.bin .eql .none (.t 13) (.k (.v (.int .u8 (45))))),oo 15 (.pick (.t 11) (.t 14) (xB false))]
def au6:=[om 16 4,oo 17 (.slc none (.t 16) (some (xI 1)) none),om 4 17]
def au7:=[om 18 4,oo 19 (.len true (.t 18)),oo 20 (.call rZ [.t 19,xI 1,xI 6]),oo 21 (.un .not (.t 20))]
def au8:=[ok 2 (vI 0),ok 3 (vB false)]
def au9:=[ok 5 (vI 0)]
def ava:=[ok 6 (vI 0)]
def avb:=[om 22 6,om 23 4,oo 24 (.len true (.t 23)),cI 25 .lss 22 24]
def avc:=[om 28 4,om 29 6,oo 30 (.idx (.t 28) (.t 29)),oo 31 (.bin .lss .none (.t 30) (.k (.v (.int .u8 (48))))),om 32 31,oF 32 33 (.mv (.t 4)),oF 32 34 (.mv (.t 6)),oF 32 35 (.idx (.t 33) (.t 34)),oF 32 36 (.bin .gtr .none (.t 35) (.k (.v (.int .u8 (57))))),oo 37 (.pick (.t 32) (xB true) (.t 36))]
def ZJ:=[ok 2 (vI 0),ok 3 (vB false)]
def apm:=[om 38 5,oo 39 (.bin .mul .none (xI 10) (.t 38)),om 40 4,om 41 6,oo 42 (.idx (.t 40) (.t 41)),oo 43 (.bin .sub .none (.t 42) (.k (.v (.int .u8 (48))))),oo 44 (.conv (.int .i64) (.t 43)),cI 45 .add 39 44,om 5 45]
def apn:=[om 26 6,fL 27 26 1,om 6 27]
def an0:C:=(ss (sr avb [0,4,5,6,25] (sc 25 .skip (.exit 0))) (ss (.block 1 (ss (sr avc [0,4,5,6,37] (sc 37 (sr ZJ [2,3] .ret) .skip)) (.reg apm [0,4,5,6]))) (.reg apn [0,4,5,6])))
def apo:=[om 46 4,oo 47 (.len true (.t 46)),om 48 0,oo 49 (.len true (.t 48)),cI 50 .lss 47 49]
def apq:=[om 51 5,oo 52 (.un .neg (.t 51)),om 5 52]
def ZK:=[om 53 5,cg 54 gk 53,om 55 0,cI 56 .neq 54 55]
def ZL:=[ok 2 (vI 0),ok 3 (vB false)]
def ZM:=[om 57 5,om 2 57,ok 3 (vB true)]
def aB2:C:=(sr au3 [0] (sr au4 [0,4] (ss (sr au5 [0,4,15] (sc 15 (.reg au6 [0,4]) .skip)) (ss (ss (.wk (.reg au7 [0,4,21])) (sc 21 (sr au8 [2,3] .ret) .skip)) (sr au9 [0,4,5] (ss (sr ava [0,4,5,6] (.block 0 (.loop an0))) (ss (sr apo [0,5,50] (sc 50 (.reg apq [0,5]) .skip)) (ss (sr ZK [5,56] (sc 56 (sr ZL [2,3] .ret) .skip)) (sr ZM [2,3] .ret)))))))))
def aKV:Nat->List Nat
 | 0=>[0]
 | 1=>[0,4]
 | 2=>[0,4,15]
 | 3=>[0,4]
 | 4=>[999999,0,4,21]
 | 5=>[2,3]
 | 6=>[0,4,5]
 | 7=>[0,4,5,6]
 | 8=>[0,4,5,6,25]
 | 10=>[0,4,5,6,37]
 | 11=>[2,3]
 | 12=>[0,4,5,6]
 | 9=>[0,4,5,6]
 | 13=>[0,5,50]
 | 14=>[0,5]
 | 15=>[5,56]
 | 16=>[2,3]
 | 17=>[2,3]
 | _=>[]
theorem aIj:cE ash aB2 [(.tmp 2),(.tmp 3)] 58 :=
 ⟨Tryz.f206,_,aKV,Tryz.func206,rfl,by kernel_rfl,by kernel_rfl,by kernel_rfl,rfl⟩
def ajP:=[ok 2 (vI 0),ok 3 (vB false)]
def ajQ:=[om 4 0,cg 5 ash 4,cJ 6 5 0,cJ 7 5 1,om 2 6,om 3 7]
def atd:C:=(sr ajP [0] (sr ajQ [2,3] .ret))
theorem aEu:cE Fv atd [(.tmp 2),(.tmp 3)] 8:=dE Tryz.func141 rfl
end Go.Proofs.YtnjjimhkbpdpgaaGreatDoor
namespace Go.Proofs
open Tryz
theorem jt {α:Type} {a:Option α} {b c:α} (h:a=some b) (e:b=c:=by kernel_rfl):a=some c:=by rw[h,e]
open Go.Shelf
def Tryz.lays156_ren:Go.Shelf.Ren:=⟨fun | 156=>230 | 165=>295 | 166=>296 | 169=>297 | 240=>333 | 241=>334 | 276=>343 | 277=>344 | n=>n,fun | 31=>45 | 9=>9 | 3=>3 | 4=>4 | 0=>0 | 20=>20 | 72=>290 | 76=>188 | 70=>288 | 37=>42 | 75=>187 | 127=>314 | 164=>325 | 5=>5 | 80=>142 | n=>n,fun | n=>n⟩
theorem Tryz.lays156:Go.Proofs.Lays.n156 Tryz.prog Tryz.lays156_ren:={
 mixed:=by kernel_rfl
 f156:=(jt func230)
 f165:=(jt func295)
 f166:=(jt func296)
 f169:=(jt func297)
 f240:=(jt func333)
 f241:=(jt func334)
 f276:=(jt func343)
 f277:=(jt func344)
 t0:=underlying0
 a0:=isAgg0
 z0:=sizeOf0
 v0:=zeroValue0
 t3:=underlying3
 a3:=isAgg3
 z3:=sizeOf3
 v3:=zeroValue3
 t4:=underlying4
 a4:=isAgg4
 z4:=sizeOf4
 v4:=zeroValue4
 t9:=underlying9
 a9:=isAgg9
 z9:=sizeOf9
 v9:=zeroValue9
 t20:=underlying20
 a20:=isAgg20
 z20:=sizeOf20
 v20:=zeroValue20
 t31:=underlying45
 a31:=isAgg45
 z31:=sizeOf45
 v31:=zeroValue45
 t37:=underlying42
 a37:=isAgg42
 z37:=sizeOf42
 v37:=zeroValue42
 t70:=underlying288
 a70:=isAgg288
 z70:=sizeOf288
 v70:=zeroValue288
 t72:=underlying290
 a72:=isAgg290
 z72:=sizeOf290
 v72:=zeroValue290
 t75:=underlying187
 a75:=isAgg187
 z75:=sizeOf187
 v75:=zeroValue187
 t76:=underlying188
 a76:=isAgg188
 z76:=sizeOf188
 v76:=zeroValue188
 t127:=underlying314
 a127:=isAgg314
 z127:=sizeOf314
 v127:=zeroValue314
 t164:=underlying325
 a164:=isAgg325
 z164:=sizeOf325
 v164:=zeroValue325 }
theorem Tryz.Builder_Extra_156:Builder.Extra Tryz.prog Tryz.lays156_ren:={
 sizeBuilder:=by kernel_rfl
 liesBuilder:=by kernel_rfl
 t5:=underlying5
 a5:=isAgg5
 z5:=sizeOf5
 v5:=zeroValue5
 infoByte:=by kernel_rfl
 cellsByte:=by kernel_rfl
 sizeByte:=by kernel_rfl
 neB5:=by decide }
open Go.RowKit in
theorem Tryz.strings_Join_none (a:Option Addr) (c:Nat) (sep:ByteArray) (w:World) :
  Calls Tryz.prog 230 #[.slice a 0 c,.string sep] w fun e w'=>e=.returned (.string ⟨#[]⟩)/\w'=w:=Any.strings_Join_none Tryz.lays156 Tryz.Builder_Extra_156 a c sep w
open Go.RowKit in
theorem Tryz.strings_Join (bk o c:Nat) (xs:List ByteArray) (sep:ByteArray) (w:World) (hcells:∀ (j:Nat) x,xs[j]?=some x->w.cell? ⟨bk,o+j,none⟩=some (.string x)) (hbk:bk < w.heap.size) (hN:xs.length<=140737488355328) (hcap:xs.length<=c) (hlen:(Lib.join (xs.map (·.data.toList)) sep.data.toList).length<=140737488355328) :
  Calls Tryz.prog 230 #[.slice (some ⟨bk,o,none⟩) xs.length c,.string sep] w fun e w'=>e=.returned (.string ⟨(Lib.join (xs.map (·.data.toList)) sep.data.toList).toArray⟩)/\Below w.heap.size w w':=Any.strings_Join Tryz.lays156 Tryz.Builder_Extra_156 bk o c xs sep w hcells hbk hN hcap hlen
def Tryz.lays103_ren:Go.Shelf.Ren:=⟨fun | 103=>323 | 210=>341 | 206=>345 | n=>n,fun | 9=>9 | 4=>4 | 24=>49 | 3=>3 | n=>n,fun | n=>n⟩
theorem Tryz.lays103:Go.Proofs.Lays.n103 Tryz.prog Tryz.lays103_ren:={
 mixed:=by kernel_rfl
 f103:=(jt func323)
 f206:=(jt func345)
 f210:=(jt func341)
 t3:=underlying3
 a3:=isAgg3
 z3:=sizeOf3
 v3:=zeroValue3
 t4:=underlying4
 a4:=isAgg4
 z4:=sizeOf4
 v4:=zeroValue4
 t9:=underlying9
 a9:=isAgg9
 z9:=sizeOf9
 v9:=zeroValue9
 t24:=underlying49
 a24:=isAgg49
 z24:=sizeOf49
 v24:=zeroValue49 }
open Go.RowKit in
theorem Tryz.strings_CutPrefix (s p:ByteArray) (w:World) :
  Calls Tryz.prog 323 #[.string s,.string p] w fun e w'=>e=.returned (.tuple #[.string ⟨(Lib.trimPrefix s.data.toList p.data.toList).toArray⟩,.bool (Lib.hasPrefix s.data.toList p.data.toList)])/\w'=w:=Any.strings_CutPrefix Tryz.lays103 s p w
def Tryz.lays104_ren:Go.Shelf.Ren:=⟨fun | 104=>284 | 211=>322 | 207=>304 | n=>n,fun | 9=>9 | 4=>4 | 24=>49 | 3=>3 | n=>n,fun | n=>n⟩
theorem Tryz.lays104:Go.Proofs.Lays.n104 Tryz.prog Tryz.lays104_ren:={
 mixed:=by kernel_rfl
 f104:=(jt func284)
 f207:=(jt func304)
 f211:=(jt func322)
 t3:=underlying3
 a3:=isAgg3
 z3:=sizeOf3
 v3:=zeroValue3
 t4:=underlying4
 a4:=isAgg4
 z4:=sizeOf4
 v4:=zeroValue4
 t9:=underlying9
 a9:=isAgg9
 z9:=sizeOf9
 v9:=zeroValue9
 t24:=underlying49
 a24:=isAgg49
 z24:=sizeOf49
 v24:=zeroValue49 }
open Go.RowKit in
theorem Tryz.strings_CutSuffix (s p:ByteArray) (w:World) (hs:s.size<=9223372036854775807) :
  Calls Tryz.prog 284 #[.string s,.string p] w fun e w'=>e=.returned (.tuple #[.string ⟨(Lib.trimSuffix s.data.toList p.data.toList).toArray⟩,.bool (Lib.hasSuffix s.data.toList p.data.toList)])/\w'=w:=Any.strings_CutSuffix Tryz.lays104 s p w hs
def Tryz.lays172_ren:Go.Shelf.Ren:=⟨fun | 172=>155 | 244=>220 | 245=>221 | 247=>277 | 279=>278 | 280=>279 | 281=>280 | 282=>281 | 287=>318 | 316=>319 | 171=>63 | 205=>320 | 321=>339 | 322=>340 | 243=>125 | 246=>195 | 283=>252 | 284=>253 | 285=>254 | 286=>255 | 129=>307 | 317=>306 | 318=>308 | 319=>309 | 320=>310 | 337=>336 | 338=>337 | n=>n,fun | 9=>9 | 3=>3 | 75=>187 | 76=>188 | 4=>4 | 5=>5 | 167=>271 | 37=>42 | 0=>0 | 85=>272 | 2=>2 | 168=>274 | 53=>87 | 175=>300 | 46=>217 | 210=>303 | 127=>314 | 145=>323 | 143=>321 | 21=>21 | 171=>252 | 173=>255 | 212=>294 | 51=>295 | 20=>20 | 213=>296 | 232=>328 | 233=>329 | 80=>142 | n=>n,fun | 15=>2 | 16=>3 | 17=>1 | 18=>6 | 19=>7 | n=>n⟩
theorem Tryz.lays172:Go.Proofs.Lays.n172 Tryz.prog Tryz.lays172_ren:={
 mixed:=by kernel_rfl
 f129:=(jt func307)
 f171:=(jt func63)
 f172:=(jt func155)
 f205:=(jt func320)
 f243:=(jt func125)
 f244:=(jt func220)
 f245:=(jt func221)
 f246:=(jt func195)
 f247:=(jt func277)
 f279:=(jt func278)
 f280:=(jt func279)
 f281:=(jt func280)
 f282:=(jt func281)
 f283:=(jt func252)
 f284:=(jt func253)
 f285:=(jt func254)
 f286:=(jt func255)
 f287:=(jt func318)
 f316:=(jt func319)
 f317:=(jt func306)
 f318:=(jt func308)
 f319:=(jt func309)
 f320:=(jt func310)
 f321:=(jt func339)
 f322:=(jt func340)
 f337:=(jt func336)
 f338:=(jt func337)
 t0:=underlying0
 a0:=isAgg0
 z0:=sizeOf0
 v0:=zeroValue0
 t2:=underlying2
 a2:=isAgg2
 z2:=sizeOf2
 v2:=zeroValue2
 t3:=underlying3
 a3:=isAgg3
 z3:=sizeOf3
 v3:=zeroValue3
 t4:=underlying4
 a4:=isAgg4
 z4:=sizeOf4
 v4:=zeroValue4
 t5:=underlying5
 a5:=isAgg5
 z5:=sizeOf5
 v5:=zeroValue5
 t9:=underlying9
 a9:=isAgg9
 z9:=sizeOf9
 v9:=zeroValue9
 t20:=underlying20
 a20:=isAgg20
 z20:=sizeOf20
 v20:=zeroValue20
 t21:=underlying21
 a21:=isAgg21
 z21:=sizeOf21
 v21:=zeroValue21
 t37:=underlying42
 a37:=isAgg42
 z37:=sizeOf42
 v37:=zeroValue42
 t46:=underlying217
 a46:=isAgg217
 z46:=sizeOf217
 v46:=zeroValue217
 t51:=underlying295
 a51:=isAgg295
 z51:=sizeOf295
 v51:=zeroValue295
 t53:=underlying87
 a53:=isAgg87
 z53:=sizeOf87
 v53:=zeroValue87
 t75:=underlying187
 a75:=isAgg187
 z75:=sizeOf187
 v75:=zeroValue187
 t76:=underlying188
 a76:=isAgg188
 z76:=sizeOf188
 v76:=zeroValue188
 t85:=underlying272
 a85:=isAgg272
 z85:=sizeOf272
 v85:=zeroValue272
 t127:=underlying314
 a127:=isAgg314
 z127:=sizeOf314
 v127:=zeroValue314
 t143:=underlying321
 a143:=isAgg321
 z143:=sizeOf321
 v143:=zeroValue321
 t145:=underlying323
 a145:=isAgg323
 z145:=sizeOf323
 v145:=zeroValue323
 t167:=underlying271
 a167:=isAgg271
 z167:=sizeOf271
 v167:=zeroValue271
 t168:=underlying274
 a168:=isAgg274
 z168:=sizeOf274
 v168:=zeroValue274
 t171:=underlying252
 a171:=isAgg252
 z171:=sizeOf252
 v171:=zeroValue252
 t173:=underlying255
 a173:=isAgg255
 z173:=sizeOf255
 v173:=zeroValue255
 t175:=underlying300
 a175:=isAgg300
 z175:=sizeOf300
 v175:=zeroValue300
 t210:=underlying303
 a210:=isAgg303
 z210:=sizeOf303
 v210:=zeroValue303
 t212:=underlying294
 a212:=isAgg294
 z212:=sizeOf294
 v212:=zeroValue294
 t213:=underlying296
 a213:=isAgg296
 z213:=sizeOf296
 t232:=underlying328
 a232:=isAgg328
 z232:=sizeOf328
 v232:=zeroValue328
 t233:=underlying329
 a233:=isAgg329
 z233:=sizeOf329
 v233:=zeroValue329
 g15:=by kernel_rfl
 g16:=by kernel_rfl
 g17:=by kernel_rfl
 g18:=by kernel_rfl
 g19:=by kernel_rfl }
open Go.RowKit in
theorem Tryz.strconv_Atoi (s:ByteArray) (n:Int) (hl:s.size<=18) (h:Lib.atoi s.data.toList=some n) (w:World) :
  Calls Tryz.prog 155 #[.string s] w fun e w'=>e=.returned (.tuple #[.int .i64 n,.nilIface])/\∃ t,w'=Lib.bytesWorld w 5 t:=Any.strconv_Atoi Tryz.lays172 s n hl h w
def Tryz.laysM171_ren:Go.Shelf.Ren:=⟨fun | 171=>63 | 243=>125 | 246=>195 | 283=>252 | 284=>253 | 285=>254 | 286=>255 | 129=>307 | 317=>306 | 318=>308 | 319=>309 | 320=>310 | 337=>336 | 338=>337 | n=>n,fun | 3=>3 | 9=>9 | 2=>2 | 4=>4 | 171=>252 | 0=>0 | 53=>87 | 37=>42 | 5=>5 | 173=>255 | 212=>294 | 51=>295 | 20=>20 | 213=>296 | 46=>217 | 232=>328 | 233=>329 | n=>n,fun | 17=>1 | 18=>6 | 19=>7 | n=>n⟩
theorem Tryz.laysM171:Go.Proofs.LaysM.n171 Tryz.prog Tryz.laysM171_ren:={
 mixed:=by kernel_rfl
 f129:=(jt func307)
 f171:=(jt func63)
 f243:=(jt func125)
 f246:=(jt func195)
 f283:=(jt func252)
 f284:=(jt func253)
 f285:=(jt func254)
 f286:=(jt func255)
 f317:=(jt func306)
 f318:=(jt func308)
 f319:=(jt func309)
 f320:=(jt func310)
 f337:=(jt func336)
 f338:=(jt func337)
 t0:=underlying0
 a0:=isAgg0
 z0:=sizeOf0
 v0:=zeroValue0
 t2:=underlying2
 a2:=isAgg2
 z2:=sizeOf2
 v2:=zeroValue2
 t3:=underlying3
 a3:=isAgg3
 z3:=sizeOf3
 v3:=zeroValue3
 t4:=underlying4
 a4:=isAgg4
 z4:=sizeOf4
 v4:=zeroValue4
 t5:=underlying5
 a5:=isAgg5
 z5:=sizeOf5
 v5:=zeroValue5
 t9:=underlying9
 a9:=isAgg9
 z9:=sizeOf9
 v9:=zeroValue9
 t20:=underlying20
 a20:=isAgg20
 z20:=sizeOf20
 v20:=zeroValue20
 t37:=underlying42
 a37:=isAgg42
 z37:=sizeOf42
 v37:=zeroValue42
 t46:=underlying217
 a46:=isAgg217
 z46:=sizeOf217
 v46:=zeroValue217
 t51:=underlying295
 a51:=isAgg295
 z51:=sizeOf295
 v51:=zeroValue295
 t53:=underlying87
 a53:=isAgg87
 z53:=sizeOf87
 v53:=zeroValue87
 t171:=underlying252
 a171:=isAgg252
 z171:=sizeOf252
 v171:=zeroValue252
 t173:=underlying255
 a173:=isAgg255
 z173:=sizeOf255
 v173:=zeroValue255
 t212:=underlying294
 a212:=isAgg294
 z212:=sizeOf294
 v212:=zeroValue294
 t213:=underlying296
 a213:=isAgg296
 z213:=sizeOf296
 t232:=underlying328
 a232:=isAgg328
 z232:=sizeOf328
 v232:=zeroValue328
 t233:=underlying329
 a233:=isAgg329
 z233:=sizeOf329
 v233:=zeroValue329
 g17:=by kernel_rfl
 g18:=by kernel_rfl
 g19:=by kernel_rfl
 i0:=by kernel_rfl
 i2:=by kernel_rfl
 i3:=by kernel_rfl
 i4:=by kernel_rfl
 i5:=by kernel_rfl
 i9:=by kernel_rfl
 i20:=by kernel_rfl
 i37:=by kernel_rfl
 i46:=by kernel_rfl
 i51:=by kernel_rfl
 i53:=by kernel_rfl
 i171:=by kernel_rfl
 i173:=by kernel_rfl
 i212:=by kernel_rfl
 i232:=by kernel_rfl
 i233:=by kernel_rfl
 m17:=by kernel_rfl
 m18:=by kernel_rfl
 m19:=by kernel_rfl }
open Go.RowKit Go.Sort Go.Lib in
theorem Tryz.strconv_Itoa (n:Int) (h0 : -9223372036854775808<=n) (h1:n<=9223372036854775807) (w:World) (htab:Lib.TabIs Tryz.prog w "internal/strconv.uint64pow10" .u64 Lib.pow10Tab) :
  Calls Tryz.prog 63 #[.int .i64 n] w fun e w'=>e=.returned (.string ⟨(Lib.itoa n).toArray⟩)/\∃ k os,w'=grow (w.drewN k) os:=Any.strconv_Itoa Tryz.laysM171 n h0 h1 w htab
def Tryz.laysC172_ren:Go.Shelf.Ren:=⟨fun | 172=>155 | 244=>220 | 245=>221 | 247=>277 | 279=>278 | 280=>279 | 281=>280 | 282=>281 | 287=>318 | 316=>319 | 171=>63 | 205=>320 | 321=>339 | 322=>340 | 243=>125 | 246=>195 | 283=>252 | 284=>253 | 285=>254 | 286=>255 | 129=>307 | 317=>306 | 318=>308 | 319=>309 | 320=>310 | 337=>336 | 338=>337 | n=>n,fun | 9=>9 | 3=>3 | 75=>187 | 76=>188 | 4=>4 | 5=>5 | 167=>271 | 37=>42 | 0=>0 | 85=>272 | 2=>2 | 168=>274 | 53=>87 | 175=>300 | 46=>217 | 210=>303 | 127=>314 | 145=>323 | 143=>321 | 21=>21 | 171=>252 | 173=>255 | 212=>294 | 51=>295 | 20=>20 | 213=>296 | 232=>328 | 233=>329 | 80=>142 | n=>n,fun | 15=>2 | 16=>3 | 17=>1 | 18=>6 | 19=>7 | n=>n⟩
theorem Tryz.laysC172:Go.Proofs.LaysC.n172 Tryz.prog Tryz.laysC172_ren:={
 mixed:=by kernel_rfl
 f129:=(jt func307)
 f171:=(jt func63)
 f172:=(jt func155)
 f205:=(jt func320)
 f243:=(jt func125)
 f244:=(jt func220)
 f245:=(jt func221)
 f246:=(jt func195)
 f247:=(jt func277)
 f279:=(jt func278)
 f280:=(jt func279)
 f281:=(jt func280)
 f282:=(jt func281)
 f283:=(jt func252)
 f284:=(jt func253)
 f285:=(jt func254)
 f286:=(jt func255)
 f287:=(jt func318)
 f316:=(jt func319)
 f317:=(jt func306)
 f318:=(jt func308)
 f319:=(jt func309)
 f320:=(jt func310)
 f321:=(jt func339)
 f322:=(jt func340)
 f337:=(jt func336)
 f338:=(jt func337)
 t0:=underlying0
 a0:=isAgg0
 z0:=sizeOf0
 v0:=zeroValue0
 t2:=underlying2
 a2:=isAgg2
 z2:=sizeOf2
 v2:=zeroValue2
 t3:=underlying3
 a3:=isAgg3
 z3:=sizeOf3
 v3:=zeroValue3
 t4:=underlying4
 a4:=isAgg4
 z4:=sizeOf4
 v4:=zeroValue4
 t5:=underlying5
 a5:=isAgg5
 z5:=sizeOf5
 v5:=zeroValue5
 t9:=underlying9
 a9:=isAgg9
 z9:=sizeOf9
 v9:=zeroValue9
 t20:=underlying20
 a20:=isAgg20
 z20:=sizeOf20
 v20:=zeroValue20
 t21:=underlying21
 a21:=isAgg21
 z21:=sizeOf21
 v21:=zeroValue21
 t37:=underlying42
 a37:=isAgg42
 z37:=sizeOf42
 v37:=zeroValue42
 t46:=underlying217
 a46:=isAgg217
 z46:=sizeOf217
 v46:=zeroValue217
 t51:=underlying295
 a51:=isAgg295
 z51:=sizeOf295
 v51:=zeroValue295
 t53:=underlying87
 a53:=isAgg87
 z53:=sizeOf87
 v53:=zeroValue87
 t75:=underlying187
 a75:=isAgg187
 z75:=sizeOf187
 v75:=zeroValue187
 t76:=underlying188
 a76:=isAgg188
 z76:=sizeOf188
 v76:=zeroValue188
 t85:=underlying272
 a85:=isAgg272
 z85:=sizeOf272
 v85:=zeroValue272
 t127:=underlying314
 a127:=isAgg314
 z127:=sizeOf314
 v127:=zeroValue314
 t143:=underlying321
 a143:=isAgg321
 z143:=sizeOf321
 v143:=zeroValue321
 t145:=underlying323
 a145:=isAgg323
 z145:=sizeOf323
 v145:=zeroValue323
 t167:=underlying271
 a167:=isAgg271
 z167:=sizeOf271
 v167:=zeroValue271
 t168:=underlying274
 a168:=isAgg274
 z168:=sizeOf274
 v168:=zeroValue274
 t171:=underlying252
 a171:=isAgg252
 z171:=sizeOf252
 v171:=zeroValue252
 t173:=underlying255
 a173:=isAgg255
 z173:=sizeOf255
 v173:=zeroValue255
 t175:=underlying300
 a175:=isAgg300
 z175:=sizeOf300
 v175:=zeroValue300
 t210:=underlying303
 a210:=isAgg303
 z210:=sizeOf303
 v210:=zeroValue303
 t212:=underlying294
 a212:=isAgg294
 z212:=sizeOf294
 v212:=zeroValue294
 t213:=underlying296
 a213:=isAgg296
 z213:=sizeOf296
 t232:=underlying328
 a232:=isAgg328
 z232:=sizeOf328
 v232:=zeroValue328
 t233:=underlying329
 a233:=isAgg329
 z233:=sizeOf329
 v233:=zeroValue329
 g15:=by kernel_rfl
 g16:=by kernel_rfl
 g17:=by kernel_rfl
 g18:=by kernel_rfl
 g19:=by kernel_rfl
 t80:=underlying142
 a80:=isAgg142
 z80:=sizeOf142
 v80:=zeroValue142
 i0:=by kernel_rfl
 i2:=by kernel_rfl
 i3:=by kernel_rfl
 i4:=by kernel_rfl
 i5:=by kernel_rfl
 i9:=by kernel_rfl
 i20:=by kernel_rfl
 i21:=by kernel_rfl
 i37:=by kernel_rfl
 i46:=by kernel_rfl
 i51:=by kernel_rfl
 i53:=by kernel_rfl
 i75:=by kernel_rfl
 i76:=by kernel_rfl
 i80:=by kernel_rfl
 i85:=by kernel_rfl
 i127:=by kernel_rfl
 i143:=by kernel_rfl
 i145:=by kernel_rfl
 i167:=by kernel_rfl
 i168:=by kernel_rfl
 i171:=by kernel_rfl
 i173:=by kernel_rfl
 i175:=by kernel_rfl
 i210:=by kernel_rfl
 i212:=by kernel_rfl
 i232:=by kernel_rfl
 i233:=by kernel_rfl
 m15:=by kernel_rfl
 m16:=by kernel_rfl
 m17:=by kernel_rfl
 m18:=by kernel_rfl
 m19:=by kernel_rfl
 c0:=by kernel_rfl
 c2:=by kernel_rfl
 c3:=by kernel_rfl
 c4:=by kernel_rfl
 c5:=by kernel_rfl
 c9:=by kernel_rfl
 c20:=by kernel_rfl
 c21:=by kernel_rfl
 c37:=by kernel_rfl
 c46:=by kernel_rfl
 c51:=by kernel_rfl
 c53:=by kernel_rfl
 c75:=by kernel_rfl
 c76:=by kernel_rfl
 c80:=by kernel_rfl
 c85:=by kernel_rfl
 c127:=by kernel_rfl
 c143:=by kernel_rfl
 c145:=by kernel_rfl
 c167:=by kernel_rfl
 c168:=by kernel_rfl
 c171:=by kernel_rfl
 c173:=by kernel_rfl
 c175:=by kernel_rfl
 c210:=by kernel_rfl
 c212:=by kernel_rfl
 c213:=by kernel_rfl
 c232:=by kernel_rfl
 c233:=by kernel_rfl }
open Go.RowKit in
theorem Tryz.strconv_Atoi_syntax (s:ByteArray) (hlim:s.size<=281474976710656) (h:(match Lib.atoiAll s.data.toList with | .ok _=>false | .range=>false | _=>true)=true) (ev:Value) (w:World) (hv:w.cell? ⟨2,0,none⟩=some ev) (hev:ev=.nilIface\/∃ te pe,ev=.iface te pe) :
  Calls Tryz.prog 155 #[.string s] w fun e w'=>∃ N,e=.returned (.tuple #[.int .i64 (0),.iface 274 (.pointer (some ⟨N,0,none⟩))])/\w.heap.size<=N/\w'.heap[N]?=some (.cells #[.string ⟨#[65,116,111,105]⟩,.string s,ev] 303 (0,0))/\Below w.heap.size w w':=Any.strconv_Atoi_syntax Tryz.laysC172 s hlim (by revert h;cases Lib.atoiAll s.data.toList<;>simp) ev w hv hev
def Tryz.lays219_ren:Go.Shelf.Ren:=⟨fun | 219=>219 | 217=>273 | 225=>274 | 224=>275 | 267=>276 | 266=>316 | 314=>317 | n=>n,fun | 9=>9 | 3=>3 | 4=>4 | 5=>5 | 46=>217 | 146=>298 | 51=>295 | n=>n,fun | 1=>0 | n=>n⟩
theorem Tryz.lays219:Go.Proofs.Lays.n219 Tryz.prog Tryz.lays219_ren:={
 mixed:=by kernel_rfl
 f217:=(jt func273)
 f219:=(jt func219)
 f224:=(jt func275)
 f225:=(jt func274)
 f266:=(jt func316)
 f267:=(jt func276)
 f314:=(jt func317)
 t3:=underlying3
 a3:=isAgg3
 z3:=sizeOf3
 v3:=zeroValue3
 t4:=underlying4
 a4:=isAgg4
 z4:=sizeOf4
 v4:=zeroValue4
 t5:=underlying5
 a5:=isAgg5
 z5:=sizeOf5
 v5:=zeroValue5
 t9:=underlying9
 a9:=isAgg9
 z9:=sizeOf9
 v9:=zeroValue9
 t46:=underlying217
 a46:=isAgg217
 z46:=sizeOf217
 v46:=zeroValue217
 t51:=underlying295
 a51:=isAgg295
 z51:=sizeOf295
 v51:=zeroValue295
 t146:=underlying298
 a146:=isAgg298
 z146:=sizeOf298
 v146:=zeroValue298
 g1:=by kernel_rfl }
open Go.RowKit Go.Lib in
theorem Tryz.stringslite_Index_one (s:ByteArray) (c:UInt8) (w:World) :
  Calls Tryz.prog 219 #[.string s,.string ⟨#[c]⟩] w fun e w'=>e=.returned (.int .i64 (Lib.indexByte s.data.toList c))/\w'=w:=Any.stringslite_Index_one Tryz.lays219 s c w
def Tryz.lays143_ren:Go.Shelf.Ren:=⟨fun | 143=>154 | 219=>219 | 217=>273 | 225=>274 | 224=>275 | 267=>276 | 266=>316 | 314=>317 | n=>n,fun | 9=>9 | 3=>3 | 4=>4 | 5=>5 | 46=>217 | 146=>298 | 51=>295 | n=>n,fun | 1=>0 | n=>n⟩
theorem Tryz.lays143:Go.Proofs.Lays.n143 Tryz.prog Tryz.lays143_ren:={
 mixed:=by kernel_rfl
 f143:=(jt func154)
 f217:=(jt func273)
 f219:=(jt func219)
 f224:=(jt func275)
 f225:=(jt func274)
 f266:=(jt func316)
 f267:=(jt func276)
 f314:=(jt func317)
 t3:=underlying3
 a3:=isAgg3
 z3:=sizeOf3
 v3:=zeroValue3
 t4:=underlying4
 a4:=isAgg4
 z4:=sizeOf4
 v4:=zeroValue4
 t5:=underlying5
 a5:=isAgg5
 z5:=sizeOf5
 v5:=zeroValue5
 t9:=underlying9
 a9:=isAgg9
 z9:=sizeOf9
 v9:=zeroValue9
 t46:=underlying217
 a46:=isAgg217
 z46:=sizeOf217
 v46:=zeroValue217
 t51:=underlying295
 a51:=isAgg295
 z51:=sizeOf295
 v51:=zeroValue295
 t146:=underlying298
 a146:=isAgg298
 z146:=sizeOf298
 v146:=zeroValue298
 g1:=by kernel_rfl }
open Go.RowKit Go.Lib in
theorem Tryz.strings_Index_one (s:ByteArray) (c:UInt8) (w:World) :
  Calls Tryz.prog 154 #[.string s,.string ⟨#[c]⟩] w fun e w'=>e=.returned (.int .i64 (Lib.indexByte s.data.toList c))/\w'=w:=Any.strings_Index_one Tryz.lays143 s c w
open Go.RowKit Go.Lib in
theorem Tryz.strings_Index (s sub:ByteArray) (m:Int) (w:World) (hs:s.size < 4294967281) (hm:w.cell? ⟨0,0,none⟩=some (.int .i64 m)) :
  Calls Tryz.prog 154 #[.string s,.string sub] w fun e w'=>e=.returned (.int .i64 (Lib.index s.data.toList sub.data.toList))/\w'=w:=Any.strings_Index Tryz.lays143 s sub m w hs hm
def Tryz.lays144_ren:Go.Shelf.Ren:=⟨fun | 144=>92 | 143=>154 | 219=>219 | 217=>273 | 225=>274 | 224=>275 | 267=>276 | 266=>316 | 314=>317 | n=>n,fun | 9=>9 | 4=>4 | 3=>3 | 5=>5 | 46=>217 | 146=>298 | 51=>295 | n=>n,fun | 1=>0 | n=>n⟩
theorem Tryz.lays144:Go.Proofs.Lays.n144 Tryz.prog Tryz.lays144_ren:={
 mixed:=by kernel_rfl
 f143:=(jt func154)
 f144:=(jt func92)
 f217:=(jt func273)
 f219:=(jt func219)
 f224:=(jt func275)
 f225:=(jt func274)
 f266:=(jt func316)
 f267:=(jt func276)
 f314:=(jt func317)
 t3:=underlying3
 a3:=isAgg3
 z3:=sizeOf3
 v3:=zeroValue3
 t4:=underlying4
 a4:=isAgg4
 z4:=sizeOf4
 v4:=zeroValue4
 t5:=underlying5
 a5:=isAgg5
 z5:=sizeOf5
 v5:=zeroValue5
 t9:=underlying9
 a9:=isAgg9
 z9:=sizeOf9
 v9:=zeroValue9
 t46:=underlying217
 a46:=isAgg217
 z46:=sizeOf217
 v46:=zeroValue217
 t51:=underlying295
 a51:=isAgg295
 z51:=sizeOf295
 v51:=zeroValue295
 t146:=underlying298
 a146:=isAgg298
 z146:=sizeOf298
 v146:=zeroValue298
 g1:=by kernel_rfl }
open Go.RowKit Go.Lib in
theorem Tryz.strings_Contains_one (s:ByteArray) (c:UInt8) (w:World) :
  Calls Tryz.prog 92 #[.string s,.string ⟨#[c]⟩] w fun e w'=>e=.returned (.bool (decide (0<=Lib.indexByte s.data.toList c)))/\w'=w:=Any.strings_Contains_one Tryz.lays144 s c w
open Go.RowKit Go.Lib in
theorem Tryz.strings_Contains (s sub:ByteArray) (m:Int) (w:World) (hs:s.size < 4294967281) (hm:w.cell? ⟨0,0,none⟩=some (.int .i64 m)) :
  Calls Tryz.prog 92 #[.string s,.string sub] w fun e w'=>e=.returned (.bool (Lib.contains s.data.toList sub.data.toList))/\w'=w:=Any.strings_Contains Tryz.lays144 s sub m w hs hm
def Tryz.lays145_ren:Go.Shelf.Ren:=⟨fun | 145=>99 | 220=>161 | 219=>219 | 217=>273 | 225=>274 | 224=>275 | 267=>276 | 266=>316 | 314=>317 | n=>n,fun | 9=>9 | 4=>4 | 59=>113 | 3=>3 | 5=>5 | 46=>217 | 146=>298 | 51=>295 | n=>n,fun | 1=>0 | n=>n⟩
theorem Tryz.lays145:Go.Proofs.Lays.n145 Tryz.prog Tryz.lays145_ren:={
 mixed:=by kernel_rfl
 f145:=(jt func99)
 f217:=(jt func273)
 f219:=(jt func219)
 f220:=(jt func161)
 f224:=(jt func275)
 f225:=(jt func274)
 f266:=(jt func316)
 f267:=(jt func276)
 f314:=(jt func317)
 t3:=underlying3
 a3:=isAgg3
 z3:=sizeOf3
 v3:=zeroValue3
 t4:=underlying4
 a4:=isAgg4
 z4:=sizeOf4
 v4:=zeroValue4
 t5:=underlying5
 a5:=isAgg5
 z5:=sizeOf5
 v5:=zeroValue5
 t9:=underlying9
 a9:=isAgg9
 z9:=sizeOf9
 v9:=zeroValue9
 t46:=underlying217
 a46:=isAgg217
 z46:=sizeOf217
 v46:=zeroValue217
 t51:=underlying295
 a51:=isAgg295
 z51:=sizeOf295
 v51:=zeroValue295
 t59:=underlying113
 a59:=isAgg113
 z59:=sizeOf113
 v59:=zeroValue113
 t146:=underlying298
 a146:=isAgg298
 z146:=sizeOf298
 v146:=zeroValue298
 g1:=by kernel_rfl }
open Go.RowKit Go.Lib in
theorem Tryz.strings_Cut (s sep:ByteArray) (m:Int) (w:World) (hs:s.size < 4294967281) (hm:w.cell? ⟨0,0,none⟩=some (.int .i64 m)) :
  Calls Tryz.prog 99 #[.string s,.string sep] w fun e w'=>e=.returned (.tuple #[.string ⟨(Lib.cut s.data.toList sep.data.toList).1.toArray⟩,.string ⟨(Lib.cut s.data.toList sep.data.toList).2.1.toArray⟩,.bool (Lib.cut s.data.toList sep.data.toList).2.2])/\∃ n,w'=w.drewN n:=Any.strings_Cut Tryz.lays145 s sep m w hs hm
def Tryz.lays138_ren:Go.Shelf.Ren:=⟨fun | 138=>194 | 195=>249 | 218=>251 | 143=>154 | 219=>219 | 217=>273 | 225=>274 | 224=>275 | 267=>276 | 266=>316 | 314=>317 | n=>n,fun | 9=>9 | 3=>3 | 4=>4 | 5=>5 | 0=>0 | 46=>217 | 146=>298 | 51=>295 | n=>n,fun | 1=>0 | n=>n⟩
theorem Tryz.lays138:Go.Proofs.Lays.n138 Tryz.prog Tryz.lays138_ren:={
 mixed:=by kernel_rfl
 f138:=(jt func194)
 f143:=(jt func154)
 f195:=(jt func249)
 f217:=(jt func273)
 f218:=(jt func251)
 f219:=(jt func219)
 f224:=(jt func275)
 f225:=(jt func274)
 f266:=(jt func316)
 f267:=(jt func276)
 f314:=(jt func317)
 t0:=underlying0
 a0:=isAgg0
 z0:=sizeOf0
 v0:=zeroValue0
 t3:=underlying3
 a3:=isAgg3
 z3:=sizeOf3
 v3:=zeroValue3
 t4:=underlying4
 a4:=isAgg4
 z4:=sizeOf4
 v4:=zeroValue4
 t5:=underlying5
 a5:=isAgg5
 z5:=sizeOf5
 v5:=zeroValue5
 t9:=underlying9
 a9:=isAgg9
 z9:=sizeOf9
 v9:=zeroValue9
 t46:=underlying217
 a46:=isAgg217
 z46:=sizeOf217
 v46:=zeroValue217
 t51:=underlying295
 a51:=isAgg295
 z51:=sizeOf295
 v51:=zeroValue295
 t146:=underlying298
 a146:=isAgg298
 z146:=sizeOf298
 v146:=zeroValue298
 g1:=by kernel_rfl }
open Go.RowKit Go.Lib in
theorem Tryz.strings_Count_one (s:ByteArray) (c:UInt8) (w:World) :
  Calls Tryz.prog 194 #[.string s,.string ⟨#[c]⟩] w fun e w'=>e=.returned (.int .i64 (Lib.countByte s.data.toList c))/\w'=w:=Any.strings_Count_one Tryz.lays138 s c w
open Go.RowKit Go.Lib in
theorem Tryz.strings_Count (s sub:ByteArray) (m:Int) (w:World) (hs:s.size < 4294967281) (hm:w.cell? ⟨0,0,none⟩=some (.int .i64 m)) (h2:2<=sub.size) :
  Calls Tryz.prog 194 #[.string s,.string sub] w fun e w'=>e=.returned (.int .i64 (Lib.countB s sub))/\w'=w:=Any.strings_Count Tryz.lays138 s sub m w hs hm h2
def Tryz.lays102_ren:Go.Shelf.Ren:=⟨fun | 102=>169 | 209=>236 | 207=>304 | n=>n,fun | 9=>9 | 4=>4 | 3=>3 | n=>n,fun | n=>n⟩
theorem Tryz.lays102:Go.Proofs.Lays.n102 Tryz.prog Tryz.lays102_ren:={
 mixed:=by kernel_rfl
 f102:=(jt func169)
 f207:=(jt func304)
 f209:=(jt func236)
 t3:=underlying3
 a3:=isAgg3
 z3:=sizeOf3
 v3:=zeroValue3
 t4:=underlying4
 a4:=isAgg4
 z4:=sizeOf4
 v4:=zeroValue4
 t9:=underlying9
 a9:=isAgg9
 z9:=sizeOf9
 v9:=zeroValue9 }
open Go.RowKit Go.Lib in
theorem Tryz.strings_TrimSuffix (s p:ByteArray) (w:World) (hs:s.size<=9223372036854775807) :
  Calls Tryz.prog 169 #[.string s,.string p] w fun e w'=>e=.returned (.string ⟨(Lib.trimSuffix s.data.toList p.data.toList).toArray⟩)/\w'=w:=Any.strings_TrimSuffix Tryz.lays102 s p w hs
def Tryz.lays221_ren:Go.Shelf.Ren:=⟨fun | 221=>124 | 268=>193 | 138=>194 | 143=>154 | 195=>249 | 197=>250 | 218=>251 | 219=>219 | 260=>305 | 217=>273 | 225=>274 | 224=>275 | 267=>276 | 266=>316 | 314=>317 | n=>n,fun | 9=>9 | 3=>3 | 31=>45 | 4=>4 | 0=>0 | 105=>249 | 21=>21 | 5=>5 | 46=>217 | 119=>315 | 139=>318 | 138=>317 | 146=>298 | 51=>295 | n=>n,fun | 1=>0 | 3=>4 | 4=>5 | n=>n⟩
theorem Tryz.lays221:Go.Proofs.Lays.n221 Tryz.prog Tryz.lays221_ren:={
 mixed:=by kernel_rfl
 f138:=(jt func194)
 f143:=(jt func154)
 f195:=(jt func249)
 f197:=(jt func250)
 f217:=(jt func273)
 f218:=(jt func251)
 f219:=(jt func219)
 f221:=(jt func124)
 f224:=(jt func275)
 f225:=(jt func274)
 f260:=(jt func305)
 f266:=(jt func316)
 f267:=(jt func276)
 f268:=(jt func193)
 f314:=(jt func317)
 t0:=underlying0
 a0:=isAgg0
 z0:=sizeOf0
 v0:=zeroValue0
 t3:=underlying3
 a3:=isAgg3
 z3:=sizeOf3
 v3:=zeroValue3
 t4:=underlying4
 a4:=isAgg4
 z4:=sizeOf4
 v4:=zeroValue4
 t5:=underlying5
 a5:=isAgg5
 z5:=sizeOf5
 v5:=zeroValue5
 t9:=underlying9
 a9:=isAgg9
 z9:=sizeOf9
 v9:=zeroValue9
 t21:=underlying21
 a21:=isAgg21
 z21:=sizeOf21
 v21:=zeroValue21
 t31:=underlying45
 a31:=isAgg45
 z31:=sizeOf45
 v31:=zeroValue45
 t46:=underlying217
 a46:=isAgg217
 z46:=sizeOf217
 v46:=zeroValue217
 t51:=underlying295
 a51:=isAgg295
 z51:=sizeOf295
 v51:=zeroValue295
 t105:=underlying249
 a105:=isAgg249
 z105:=sizeOf249
 v105:=zeroValue249
 t119:=underlying315
 a119:=isAgg315
 z119:=sizeOf315
 t138:=underlying317
 a138:=isAgg317
 z138:=sizeOf317
 v138:=zeroValue317
 t139:=underlying318
 a139:=isAgg318
 z139:=sizeOf318
 v139:=zeroValue318
 t146:=underlying298
 a146:=isAgg298
 z146:=sizeOf298
 v146:=zeroValue298
 g1:=by kernel_rfl
 g3:=by kernel_rfl
 g4:=by kernel_rfl }
open Go.RowKit Go.Lib in
theorem Tryz.strings_genSplit (s sep:ByteArray) (sv:Nat) (n:Int) (N:Nat) (m:Int) (w:World) (hs:s.size < 4294967281) (hm:w.cell? ⟨0,0,none⟩=some (.int .i64 m)) (h1:1<=sep.size) (hsv:sv<=sep.size) (hn0:n≠0) (hn63:n<=9223372036854775807) (hN:(N:Int)=min (if n < 0 then (Lib.countB s sep:Int)+1 else n) ((s.size:Int)+1)) :
  Calls Tryz.prog 124 #[.string s,.string sep,.int .i64 sv,.int .i64 n] w fun e w' =>
   e=.returned (.slice (some ⟨w.heap.size,0,none⟩) (Lib.splitB sep sv (N - 1) s).length N)/\w'=w.alloc (.cells (Lib.cellsOf (Lib.splitB sep sv (N - 1) s) N) 9):=Any.strings_genSplit Tryz.lays221 (by kernel_rfl) s sep sv n N m w hs hm h1 hsv hn0 hn63 hN
def Tryz.lays146_ren:Go.Shelf.Ren:=⟨fun | 146=>60 | 221=>124 | 268=>193 | 138=>194 | 143=>154 | 195=>249 | 197=>250 | 218=>251 | 219=>219 | 260=>305 | 217=>273 | 225=>274 | 224=>275 | 267=>276 | 266=>316 | 314=>317 | n=>n,fun | 9=>9 | 31=>45 | 3=>3 | 4=>4 | 0=>0 | 105=>249 | 21=>21 | 5=>5 | 46=>217 | 119=>315 | 139=>318 | 138=>317 | 146=>298 | 51=>295 | n=>n,fun | 1=>0 | 3=>4 | 4=>5 | n=>n⟩
theorem Tryz.lays146:Go.Proofs.Lays.n146 Tryz.prog Tryz.lays146_ren:={
 mixed:=by kernel_rfl
 f138:=(jt func194)
 f143:=(jt func154)
 f146:=(jt func60)
 f195:=(jt func249)
 f197:=(jt func250)
 f217:=(jt func273)
 f218:=(jt func251)
 f219:=(jt func219)
 f221:=(jt func124)
 f224:=(jt func275)
 f225:=(jt func274)
 f260:=(jt func305)
 f266:=(jt func316)
 f267:=(jt func276)
 f268:=(jt func193)
 f314:=(jt func317)
 t0:=underlying0
 a0:=isAgg0
 z0:=sizeOf0
 v0:=zeroValue0
 t3:=underlying3
 a3:=isAgg3
 z3:=sizeOf3
 v3:=zeroValue3
 t4:=underlying4
 a4:=isAgg4
 z4:=sizeOf4
 v4:=zeroValue4
 t5:=underlying5
 a5:=isAgg5
 z5:=sizeOf5
 v5:=zeroValue5
 t9:=underlying9
 a9:=isAgg9
 z9:=sizeOf9
 v9:=zeroValue9
 t21:=underlying21
 a21:=isAgg21
 z21:=sizeOf21
 v21:=zeroValue21
 t31:=underlying45
 a31:=isAgg45
 z31:=sizeOf45
 v31:=zeroValue45
 t46:=underlying217
 a46:=isAgg217
 z46:=sizeOf217
 v46:=zeroValue217
 t51:=underlying295
 a51:=isAgg295
 z51:=sizeOf295
 v51:=zeroValue295
 t105:=underlying249
 a105:=isAgg249
 z105:=sizeOf249
 v105:=zeroValue249
 t119:=underlying315
 a119:=isAgg315
 z119:=sizeOf315
 t138:=underlying317
 a138:=isAgg317
 z138:=sizeOf317
 v138:=zeroValue317
 t139:=underlying318
 a139:=isAgg318
 z139:=sizeOf318
 v139:=zeroValue318
 t146:=underlying298
 a146:=isAgg298
 z146:=sizeOf298
 v146:=zeroValue298
 g1:=by kernel_rfl
 g3:=by kernel_rfl
 g4:=by kernel_rfl }
open Go.RowKit Go.Lib in
theorem Tryz.strings_Split (s sep:ByteArray) (m:Int) (w:World) (hs:s.size < 4294967281) (hm:w.cell? ⟨0,0,none⟩=some (.int .i64 m)) (h1:1<=sep.size) :
  Calls Tryz.prog 60 #[.string s,.string sep] w fun e w' =>
   e=.returned (.slice (some ⟨w.heap.size,0,none⟩) (Lib.countB s sep+1) (Lib.countB s sep+1))/\w'=w.alloc (.cells ((Lib.splitB sep 0 (Lib.countB s sep) s).map Value.string).toArray 9):=Any.strings_Split Tryz.lays146 (by kernel_rfl) s sep m w hs hm h1
end Go.Proofs
namespace Go.Proofs.YtnjjimhkbpdpgaaGreatDoor
open Go.Abs
set_option maxRecDepth 100000
def aj2:=[ok 2 (vS [])]
def aj3:=[om 3 0,cn 4 .lss 3 0]
def aAg:=[om 5 0,oo 6 (.un .neg (.t 5)),cg 7 gk 6,oo 8 (.bin .add .none (.k (vS [45])) (.t 7)),om 2 8]
def aAh:=[om 9 0,cn 10 .lss 9 10]
def aAi:=[om 11 0,om 12 0,fL 13 12 1,oo 14 (.slc none (.k (vS [48,49,50,51,52,53,54,55,56,57])) (some (.t 11)) (some (.t 13))),om 2 14]
def aAj:=[om 15 0,cn 16 .quo 15 10,cg 17 gk 16,om 18 0,cn 19 .rem 18 10,om 20 0,cn 21 .rem 20 10,fL 22 21 1,oo 23 (.slc none (.k (vS [48,49,50,51,52,53,54,55,56,57])) (some (.t 19)) (some (.t 22))),cI 24 .add 17 23,om 2 24]
def azW:List (List Nat):=[[],[0],[0,1],[],[3],[],[5],[5,6],[3,4,5,6,7],[0,1,2,3,4,5,6,7,8],[0,1,2,3,4,5,6,7,8,9]]
def axQ:C:=(sr aj2 [0] (ss (sr aj3 [0,4] (sc 4 (sr aAg [2] .ret) .skip)) (ss (sr aAh [0,10] (sc 10 (sr aAi [2] .ret) .skip)) (ss (.regD aAj azW [2]) .ret))))
theorem aCL:cE gk axQ [(.tmp 2)] 25:=dE Tryz.func65 rfl
def f7 (c:UInt8) (s:List UInt8):List UInt8:=s.takeWhile (· != c)
def Ea (c:UInt8) (s:List UInt8):List UInt8:=(s.dropWhile (· != c)).drop 1
theorem aCu {c:UInt8}:∀ {s:List UInt8},c ∉ s->f7 c s=s/\Ea c s=[]
 | [],_=>by simp[f7,Ea]
 | x::s,h=>by
   rw[List.mem_cons,not_or] at h;have hx:(x != c)=true:=by simpa using fun e:x=c=>h.1 e.symm
   obtain ⟨h1,h2⟩:=aCu h.2;have e0:f7 c (x::s)=x::f7 c s:=by simp[f7,hx]
   have e1:Ea c (x::s)=Ea c s:=by simp[Ea,hx]
   rw[e0,e1,h1];exact⟨rfl,h2⟩
theorem aFd {c:UInt8} {s:List UInt8} (h:c ∉ s):f7 c s=s:=(aCu h).1
theorem aMQ {c:UInt8} {s:List UInt8} (h:c ∉ s):Ea c s=[]:=(aCu h).2
theorem amX {c:UInt8} {a b:List UInt8} (h:c ∉ a):f7 c (a++c::b)=a:=by
 unfold f7;rw[List.takeWhile_append_of_pos]
 ·simp
 ·intro x hx;simp only[bne_iff_ne,ne_eq];rintro rfl;exact h hx
theorem aMb {c:UInt8} {a b:List UInt8} (h:c ∉ a):Ea c (a++c::b)=b:=by
 unfold Ea;rw[List.dropWhile_append_of_pos]
 ·simp
 ·intro x hx;simp only[bne_iff_ne,ne_eq];rintro rfl;exact h hx
theorem C2 {c:UInt8}:∀ {s:List UInt8},c ∈ s->s=f7 c s++c::Ea c s/\c ∉ f7 c s
 | [],h=>by simp at h
 | x::s,h=>by
   by_cases e:x=c
   ·subst e;simp[f7,Ea]
   ·have hs:c ∈ s:=by
     rcases List.mem_cons.1 h with h | h
     ·exact absurd h.symm e
     ·exact h
    obtain ⟨h1,h2⟩:=C2 hs;have hx:(x != c)=true:=by simpa using e
    have e0:f7 c (x::s)=x::f7 c s:=by simp[f7,hx]
    have e1:Ea c (x::s)=Ea c s:=by simp[Ea,hx]
    rw[e0,e1];refine⟨by rw[List.cons_append,<- h1],?_⟩;rw[List.mem_cons,not_or];exact⟨fun h=>e h.symm,h2⟩
def parts (c:UInt8):List UInt8->List (List UInt8)
 | []=>[[]]
 | x::s=>if x=c then []::parts c s else match parts c s with
   | p::ps=>(x::p)::ps
   | []=>[[x]]
theorem eC {c:UInt8}:∀ {s:List UInt8},c ∉ s->parts c s=[s]
 | [],_=>rfl
 | x::s,h=>by
   rw[List.mem_cons,not_or] at h;rw[parts,if_neg (fun e=>h.1 e.symm),eC h.2]
theorem aaE {c:UInt8}:∀ {a b:List UInt8},c ∉ a->parts c (a++c::b)=a::parts c b
 | [],b,_=>by rw[List.nil_append,parts,if_pos rfl]
 | x::a,b,h=>by
   rw[List.mem_cons,not_or] at h;rw[List.cons_append,parts,if_neg (fun e=>h.1 e.symm),aaE h.2]
theorem Ud {c:UInt8} (s:List UInt8):parts c s≠[]:=by
 by_cases h:c ∈ s
 ·obtain ⟨h1,h2⟩:=C2 h;rw[h1,aaE h2];simp
 ·rw[eC h];simp
theorem aDm {c:UInt8} (s:List UInt8):(parts c s).headD []=f7 c s:=by
 by_cases h:c ∈ s
 ·obtain ⟨h1,h2⟩:=C2 h
  conv=>lhs;rw[h1,aaE h2]
  simp
 ·rw[eC h,aFd h];rfl
theorem am7 {c:UInt8} (s:List UInt8):2<=(parts c s).length↔c ∈ s:=by
 by_cases h:c ∈ s
 ·obtain ⟨h1,h2⟩:=C2 h;rw[h1,aaE h2];have:=List.length_pos_iff.2 (Ud (c:=c) (Ea c s));simp only[List.length_cons];constructor
  ·intro _;simp
  ·intro _;omega
 ·rw[eC h];simp[h]
def fw (n:Nat):List UInt8:=Lib.decDigits n
theorem nW {n:Nat} (h:n < 10):fw n=[UInt8.ofNat (48+n)]:=by unfold fw;rw[Lib.decDigits,dif_pos h]
theorem Er {n:Nat} (h:¬n < 10):fw n=fw (n / 10)++[UInt8.ofNat (48+n % 10)]:=by
 unfold fw
 conv=>lhs;rw[Lib.decDigits,dif_neg h]
theorem Jm:∀ (n:Nat) (b:UInt8),b ∈ fw n->48<=b.toNat/\b.toNat<=57:=by
 intro n
 induction n using Nat.strongRecOn with
 | _ n ih =>
   intro b hb;by_cases h:n < 10
   ·rw[nW h,List.mem_singleton] at hb;subst hb;rw[UInt8.toNat_ofNat'];omega
   ·rw[Er h,List.mem_append,List.mem_singleton] at hb;rcases hb with hb | rfl
    ·exact ih (n / 10) (by omega) b hb
    ·rw[UInt8.toNat_ofNat'];omega
theorem lF:∀ (k n:Nat),n < 10 ^ (k+1)->(fw n).length<=k+1
 | 0,n,h=>by rw[nW (by omega)];simp
 | k+1,n,h=>by
   by_cases h':n < 10
   ·rw[nW h'];simp
   ·rw[Er h',List.length_append,List.length_singleton];have:=lF k (n / 10) (by rw[Nat.pow_succ] at h;omega);omega
theorem aFf {i:Nat} (h:i < 10):(([48,49,50,51,52,53,54,55,56,57]:List UInt8).drop i).take 1=[UInt8.ofNat (48+i)]:=by
 have:∀ j:Fin 10,(([48,49,50,51,52,53,54,55,56,57]:List UInt8).drop j.1).take 1=[UInt8.ofNat (48+j.1)]:=by decide
 exact this ⟨i,h⟩
theorem ME (n:Nat):(fw n).length<=n+1:=by
 induction n using Nat.strongRecOn with
 | _ n ih =>
   by_cases h:n < 10
   ·rw[nW h];simp
   ·rw[Er h,List.length_append,List.length_singleton];have:=ih (n / 10) (by omega);omega
theorem anc (n:Nat):n<=1000000000->di gk [I n] (S (fw n)):=by
 induction n using Nat.strongRecOn with
 | _ n ih =>
   intro hn;refine aa.of aCL (by simp) ?_;simp[axQ,aj2,aj3,show ¬(n:Int) < 0 by omega];simp[aAh];refine⟨fun h=>?_,fun h=>?_⟩
   ·simp[aAi];rw[aD (by omega)];have hd:=aFf (i:=n) (by omega);refine⟨by omega,?_⟩;rw[show ((n:Int)+1).toNat - n=1 by omega,hd,nW (by omega)]
   ·have e1:IntKind.i64.wrap ((n:Int) / 10)=((n / 10:Nat):Int):=by rw[aD (by omega)];omega
    have e2:(n:Int).tmod 10=((n % 10:Nat):Int):=by rw[Int.tmod_eq_emod_of_nonneg (by omega)];omega
    have hl:=ME (n / 10);have hd:=aFf (i:=n % 10) (by omega);simp[aAj,azW];rw[e1];refine iV (ih (n / 10) (by omega) (by omega)) ?_ ?_ ?_
    ·simp
    ·simp
    simp;obtain ⟨m,hm,hmn⟩:∃ m,m < 10/\n % 10=m:=⟨n % 10,by omega,rfl⟩;rw[hmn] at e2 hd;rw[e2,aD (by omega),show ((m:Int)+1).toNat - (m:Int).toNat=1 by omega,show (m:Int).toNat=m by omega,hd];refine⟨by omega,by omega,a7 (by first | kernel_rfl | simp) (by first | kernel_rfl | simp),?_⟩;rw[Er (n:=n) (by omega),hmn]
theorem aed (n:Nat) (h:n<=1000000000):di kF [I n] (S (fw n)):=by
 have e:Lib.itoa (n:Int)=fw n:=by
  unfold Lib.itoa;rw[if_neg (by omega)];rfl
 refine aa.grown (vs:=[.int .i64 n]) (y:=.string (bs (fw n))) (by kernel_rfl) (fun _ _=>xZ ?_) (fun w D hg=>?_)
 ·have:=ME n;show decide _=true;simp;omega
 ·have:=Tryz.strconv_Itoa n (by omega) (by omega) w hg.1;rw[e] at this;exact this
theorem acV (b:UInt8):∀ (l:List UInt8) (acc:Nat),Lib.decFrom acc (l++[b])=(Lib.decFrom acc l).bind fun m=>(Lib.digitVal b).map fun d=>m * 10+d
 | [],acc=>by
   simp only[List.nil_append,Lib.decFrom,Option.bind_some];cases Lib.digitVal b<;>rfl
 | x::l,acc=>by
   simp only[List.cons_append,Lib.decFrom];cases Lib.digitVal x with
   | none=>rfl
   | some d=>exact acV b l _
theorem azB {d:Nat} (h:d < 10):Lib.digitVal (UInt8.ofNat (48+d))=some d:=by
 have:(UInt8.ofNat (48+d)).toNat=48+d:=by rw[UInt8.toNat_ofNat'];omega
 unfold Lib.digitVal;rw[this,if_pos (by omega)];congr 1;omega
theorem To (n:Nat):Lib.decFrom 0 (fw n)=some n:=by
 induction n using Nat.strongRecOn with
 | _ n ih =>
   by_cases h:n < 10
   ·rw[nW h];simp only[Lib.decFrom,azB h];simp
   ·rw[Er h,acV,ih _ (by omega),azB (by omega)];simp only[Option.bind_some,Option.map_some];congr 1;omega
theorem amY (n:Nat):fw n≠[]:=by
 by_cases h:n < 10
 ·rw[nW h];simp
 ·rw[Er h];simp
theorem anP (n:Nat):Lib.decNat (fw n)=some n:=by
 unfold Lib.decNat;rw[if_neg (by simp[amY]),To]
theorem aMI (n:Int):Lib.atoi (Lib.itoa n)=some n:=by
 unfold Lib.itoa;split
 ·have:=anP n.natAbs;unfold fw at this;simp only[Lib.atoi,beq_self_eq_true,if_true,this,Option.map_some];congr 1;omega
 ·have h:=anP n.toNat;have hr:=Jm n.toNat;have hn:=amY n.toNat;unfold fw at h hr hn;cases e:Lib.decDigits n.toNat with
  | nil=>exact absurd e hn
  | cons b r =>
    rw[e] at h hr;have hb:=hr b (by simp)
    have h1:(b==45)=false:=by
     rw[beq_eq_false_iff_ne];rintro rfl;exact absurd hb.1 (by decide)
    have h2:(b==43)=false:=by
     rw[beq_eq_false_iff_ne];rintro rfl;exact absurd hb.1 (by decide)
    simp only[Lib.atoi,h1,h2,Bool.false_eq_true,if_false,h,Option.map_some];congr 1;omega
abbrev T3 (n:Int):Prop := -999999<=n/\n<=999999
theorem aas {n:Int} (h:T3 n):(Lib.itoa n).length<=7:=by
 unfold Lib.itoa;split
 ·have:=lF 5 n.natAbs (by omega);unfold fw at this;simp only[List.length_cons];omega
 ·have:=lF 5 n.toNat (by omega);unfold fw at this;omega
def ol (s:List UInt8):Option Int:=(Lib.atoi s).bind fun n=>if T3 n/\Lib.itoa n=s then some n else none
theorem aua {s:List UInt8} {n:Int}:ol s=some n↔T3 n/\Lib.itoa n=s:=by
 unfold ol;constructor
 ·intro h;obtain ⟨m,_,h⟩:=Option.bind_eq_some_iff.1 h;split at h
  ·rename_i e;injection h with h
   subst h;exact e
  ·cases h
 ·rintro ⟨h1,rfl⟩;rw[aMI,Option.bind_some,if_pos ⟨h1,rfl⟩]
def xm (s:List UInt8):List UInt8:=if 1 < s.length/\s.head?=some 45 then s.drop 1 else s
def aJs (s:List UInt8):Option Int :=
 if 1<=(xm s).length/\(xm s).length<=6 then
  (Lib.decFrom 0 (xm s)).bind fun m =>
   if Lib.itoa (if (xm s).length < s.length then -(m:Int) else (m:Int))=s then some (if (xm s).length < s.length then -(m:Int) else (m:Int)) else none
 else none
theorem aJt {s:List UInt8} {n:Int}:aJs s=some n↔T3 n/\Lib.itoa n=s:=by
 unfold aJs;constructor
 ·intro h;split at h
  ·rename_i hl;obtain ⟨m,hm,h⟩:=Option.bind_eq_some_iff.1 h;have hlt:=Lib.decFrom_lt _ _ _ hm;have hp:=Nat.pow_le_pow_right (n:=10) (by decide) hl.2;have hb:T3 (if (xm s).length < s.length then -(m:Int) else (m:Int)):=by split<;>constructor<;>omega
   generalize (if (xm s).length < s.length then -(m:Int) else (m:Int))=k at h hb;split at h
   ·rename_i e;injection h with h
    subst h;exact⟨hb,e⟩
   ·cases h
  ·cases h
 ·rintro ⟨h1,rfl⟩
  have key:∃ m:Nat,Lib.decFrom 0 (xm (Lib.itoa n))=some m/\(1<=(xm (Lib.itoa n)).length/\(xm (Lib.itoa n)).length<=6)/\(if (xm (Lib.itoa n)).length < (Lib.itoa n).length then -(m:Int) else (m:Int))=n:=by
   unfold Lib.itoa;split
   ·have hn:=amY n.natAbs;have hl:=lF 5 n.natAbs (by omega);have hd:=To n.natAbs;unfold fw at hn hl hd;have hp:=List.length_pos_iff.2 hn
    have e:xm (45::Lib.decDigits n.natAbs)=Lib.decDigits n.natAbs:=by
     unfold xm;rw[if_pos ⟨by simp only[List.length_cons];omega,rfl⟩];rfl
    rw[e];refine⟨n.natAbs,hd,⟨by omega,by omega⟩,?_⟩;rw[if_pos (by simp)];omega
   ·have hn:=amY n.toNat;have hl:=lF 5 n.toNat (by omega);have hd:=To n.toNat;have hr:=Jm n.toNat;unfold fw at hn hl hd hr;have hp:=List.length_pos_iff.2 hn
    have e:xm (Lib.decDigits n.toNat)=Lib.decDigits n.toNat:=by
     unfold xm;rw[if_neg];rintro ⟨_,hh⟩;cases e:Lib.decDigits n.toNat with
     | nil=>exact hn e
     | cons b r =>
       rw[e] at hh hr;simp only[List.head?_cons,Option.some.injEq] at hh;exact absurd (hr b (by simp)).1 (by rw[hh];decide)
    rw[e];refine⟨n.toNat,hd,⟨by omega,by omega⟩,?_⟩;rw[if_neg (by omega)];omega
  obtain ⟨m,k1,k2,k3⟩:=key;rw[if_pos k2,k1,Option.bind_some,k3,if_pos rfl]
theorem aPM (s:List UInt8):aJs s=ol s:=by
 cases e:ol s with
 | some n=>exact aJt.2 (aua.1 e)
 | none =>
   cases e2:aJs s with
   | none=>rfl
   | some n =>
     rw[aua.2 (aJt.1 e2)] at e;cases e
def EW:=[ok 8 vN]
def EX:=[om 12 3,cn 13 .eql 12 0]
def alV:=[ok 8 vN]
def EY:=[om 14 1,oo 15 (.bin .eql .none (.t 14) (.k (vS [])))]
def alW:=[om 16 0,om 17 3,dK 18 at6 16 17,om 8 18]
def EZ:=[om 19 3,cn 20 .lss 19 0]
def O9:=[om 21 0,om 22 1,dK 23 aeT 21 22,fL 24 23 1,om 3 24]
def E0:=[om 25 3,om 26 0,oo 27 (.len true (.t 26)),fL 28 27 1,oo 29 (.mm false [.t 25,.t 28]),om 3 29]
def E1:=[om 30 3,oo 31 (.mks 1 (vS []) 16 (.t 30) (.t 30)),om 9 31]
def E2:=[om 32 3,cn 33 .sub 32 1,om 3 33]
def Dp:=[ok 10 (vI 0)]
def Dq:=[om 34 10,om 35 3,cI 36 .lss 34 35]
def Dr:=[om 37 0,om 38 1,dK 39 aeU 37 38,om 11 39]
def u0:=[om 40 11,cn 41 .lss 40 0]
def Ds:=[om 42 9,om 43 10,om 44 0,om 45 11,om 46 2,cI 47 .add 45 46,oo 48 (.slc none (.t 44) none (some (.t 47))),ft 49 1 42 43,bg 1 49 48]
def Dt:=[om 50 0,om 51 11,om 52 1,oo 53 (.len true (.t 52)),cI 54 .add 51 53,oo 55 (.slc none (.t 50) (some (.t 54)) none),om 0 55]
def Du:=[om 56 10,fL 57 56 1,om 10 57]
def Dg:C:=(ss (sr Dq [0,1,2,3,9,10,36] (sc 36 .skip (.exit 0))) (.block 1 (sr Dr [0,1,2,3,9,10,11] (ss (sr u0 [0,1,2,3,9,10,11,41] (sc 41 (.exit 0) .skip)) (sr Ds [0,1,2,3,9,10,11] (sr Dt [0,1,2,3,9,10] (.reg Du [0,1,2,3,9,10])))))))
def mb:=[om 58 9,om 59 10,om 60 0,ft 61 1 58 59,bg 1 61 60]
def u4:=[om 62 9,om 63 10,fL 64 63 1,oo 65 (.slc (some 1) (.t 62) none (some (.t 64))),om 8 65]
def HM:C:=(sr EW [0,1,2,3] (ss (sr EX [0,1,2,3,13] (sc 13 (sr alV [8] .ret) .skip)) (ss (sr EY [0,1,2,3,15] (sc 15 (sr alW [8] .ret) .skip)) (ss (sr EZ [0,1,2,3,20] (sc 20 (.reg O9 [0,1,2,3]) .skip)) (sr E0 [0,1,2,3] (sr E1 [0,1,2,3,9] (sr E2 [0,1,2,3,9] (sr Dp [0,1,2,3,9,10] (ss (.block 0 (.loop Dg)) (sr mb [9,10] (ss (.wk (.reg u4 [8])) .ret)))))))))))
theorem Ql:cE uA HM [(.tmp 8)] 66:=dE Tryz.func124 rfl
def XU:=[ok 4 vN]
def XV:=[om 5 0,om 6 1,oo 7 (.call uA [.t 5,.t 6,xI 0,(xI (-1))]),om 4 7]
def aez:C:=(sr XU [0,1] (sr XV [4] .ret))
theorem ax8:cE rH aez [(.tmp 4)] 8:=dE Tryz.func60 rfl
theorem ayG {c x:UInt8} {s:List UInt8}:∃ p ps,parts c s=p::ps/\parts c (x::s)=if x=c then []::p::ps else (x::p)::ps:=by
 cases h:parts c s with
 | nil=>exact absurd h (Ud s)
 | cons p ps =>
   refine⟨p,ps,rfl,?_⟩;rw[parts,h]
theorem IC (c:UInt8):∀ s:List UInt8,(parts c s).length=Lib.countByte s c+1
 | []=>rfl
 | x::s=>by
   obtain ⟨p,ps,h1,h2⟩:=ayG (c:=c) (x:=x) (s:=s);have ih:=IC c s;rw[h1] at ih;unfold Lib.countByte at ih ⊢;rw[h2,List.count_cons];by_cases e:x=c
   ·simp[e] at ih ⊢;omega
   ·simp[e] at ih ⊢;omega
theorem ahO (c:UInt8) (s:List UInt8):Lib.countByte s c<=s.length:=List.count_le_length
theorem Za {c:UInt8}:∀ {s:List UInt8},c ∈ s->Lib.indexByte s c=(f7 c s).length
 | [],h=>by simp at h
 | x::s,h=>by
   rw[Lib.indexByte];by_cases e:x=c
   ·subst e;simp[f7]
   ·have e':(x==c)=false:=by simpa using e
    have hs:c ∈ s:=by
     rcases List.mem_cons.1 h with h | h
     ·exact absurd h.symm e
     ·exact h
    have ih:=Za hs;have hn:(Lib.indexByte s c == -1)=false:=by rw[ih];simp
    rw[e',hn,ih];simp[f7,e]
theorem aNH {c:UInt8} {s:List UInt8} (h:c ∈ s):parts c s=f7 c s::parts c (Ea c s):=by
 obtain ⟨h1,h2⟩:=C2 h;have:=aaE (b:=Ea c s) h2
 rwa [<- h1] at this
theorem aMc {c:UInt8} {s:List UInt8} (h:c ∈ s):(f7 c s).length+1+(Ea c s).length=s.length:=by
 have h1:=(C2 h).1;have:=congrArg List.length h1;simp at this;omega
theorem aHZ {c:UInt8} {s:List UInt8} (h:c ∈ s):s.take (f7 c s).length=f7 c s:=by
 have h1:=(C2 h).1;generalize f7 c s=a at h1;generalize Ea c s=b at h1;subst h1;simp
theorem aHY {c:UInt8} {s:List UInt8} (h:c ∈ s):s.drop ((f7 c s).length+1)=Ea c s:=by
 have h1:=(C2 h).1;generalize f7 c s=a at h1;generalize Ea c s=b at h1;subst h1;rw[show a++c::b=(a++[c])++b by simp,show a.length+1=(a++[c]).length by simp,List.drop_left]
theorem aEV (s:List UInt8) (c:UInt8):di aeT [S s,S [c]] (I (Lib.countByte s c)) :=
 aa.same (vs:=[.string (bs s),.string (bs [c])]) (y:=.int .i64 (Lib.countByte s c)) (by kernel_rfl) (fun _ _=>xZ rfl) (fun w _ _=>Tryz.strings_Count_one (bs s) c w)
theorem aru (s:List UInt8) (c:UInt8):di aeU [S s,S [c]] (I (Lib.indexByte s c)) :=
 aa.same (vs:=[.string (bs s),.string (bs [c])]) (y:=.int .i64 (Lib.indexByte s c)) (by kernel_rfl) (fun _ _=>xZ rfl) (fun w _ _=>Tryz.strings_Index_one (bs s) c w)
theorem ayW (s:List UInt8) (c:UInt8) (hs:s.length<=1048576):di uA [S s,S [c],I 0,I (-1)] (.own 1 ((parts c s).map S)):=by
 refine aa.of Ql (by simp) ?_;have hc:=IC c s;have hl:=ahO c s;simp[HM,EW,EX];simp[EY];simp[EZ];simp[O9];refine al (aEV s c) ?_;simp;rw[aD (by omega)];simp[E0];rw[aD (by omega)];simp[E1];rw[if_neg (by omega)];have hn:((Lib.countByte s c:Int)+1).toNat=Lib.countByte s c+1:=by omega
 rw[hn];refine⟨⟨by omega,by simp[bR];omega⟩,?_⟩;simp[E2];rw[aD (by omega)];simp[Dp,mb];generalize hN:Lib.countByte s c=N at hc hl hn ⊢
 refine dl (fun x:List (List UInt8)×List UInt8=>⟨[(0,S x.2),(1,S [c]),(2,I 0),(3,I N),(9,.sl 31 0 (N+1)),(10,I x.1.length)],[(31,⟨1,x.1.map S++List.replicate (N+1 - x.1.length) (S [])⟩)],[]⟩) (fun x=>N+1 - x.1.length)
  (fun x=>x.1.length<=N/\x.2.length<=s.length/\parts c s=x.1++parts c x.2) ([],s) Wk.li (by simp) ?_
 rintro ⟨ps,r⟩ ⟨h1,h2,h3⟩ K hN hR hE;dsimp only at h1 h2 h3 ⊢;have hlen:(ps.map S).length=ps.length:=List.length_map ..;have h4:=congrArg List.length h3;rw[hc,List.length_append] at h4;simp[Dq,Dg];refine⟨fun hlt=>?_,fun hge=>?_⟩
 ·have hm:c ∈ r:=(am7 r).1 (by omega);have hcl:=aMc hm;have hpm:=aNH hm;have hi:=Za hm;simp[Dr];refine al (aru r c) ?_;rw[hi];simp[u0];refine⟨fun h=>absurd h (by omega),?_⟩;simp[Ds];rw[aD (by omega)];have ht:r.take (f7 c r).length=f7 c r:=aHZ hm;have hd:r.drop ((f7 c r).length+1)=Ea c r:=aHY hm;have hlt':ps.length < N+1:=by omega
  simp[hlt',vD hlen hlt',rV hlen hlt',ht];refine⟨by omega,by omega,?_⟩;simp[Dt];rw[aD (by omega)];refine⟨⟨by omega,by omega⟩,?_⟩;have e1:((f7 c r).length+1:Int).toNat=(f7 c r).length+1:=by omega
  rw[e1,hd,List.take_of_length_le (by omega)];simp[Du];rw[aD (by omega)];refine hN (ps++[f7 c r],Ea c r) _ (by simp;omega) ⟨by simp;omega,by simp;omega,by rw[h3,hpm];simp⟩ (Wk.list rfl (by simp) ?_);simp;have:=rV (v:=S (f7 c r)) (z:=S []) hlen hlt';rw[List.set_append_right _ _ (by omega)] at this;simpa using this
 ·refine hE _ _ ?_;have hnm:c ∉ r:=fun hm=>by have:=(am7 r).2 hm;omega
  have hlt':ps.length < N+1:=by omega
  obtain rfl:ps.length=N:=by omega
  rw[eC hnm] at h3;simp only[cv];simp[mb,vD hlen hlt',rV hlen hlt'];refine⟨by omega,?_⟩;refine cp _ (Wk.refl _) ?_;simp[u4];rw[aD (by omega)];simp[h3];omega
theorem Hq (s:List UInt8) (c:UInt8) (hs:s.length<=1048576):di rH [S s,S [c]] (.own 1 ((parts c s).map S)):=by
 refine aa.of ax8 (by simp) ?_;simp[aez,XU,XV];refine bB (ayW s c hs) rfl (.inl (by simp)) (by simp) ?_;simp
end Go.Proofs.YtnjjimhkbpdpgaaGreatDoor
namespace Go.Proofs
open Go.Shelf Go.RowKit Go.Lib
end Go.Proofs
namespace Go.Proofs.YtnjjimhkbpdpgaaGreatDoor
open Go.Abs Go.RowKit
def aBq (l:List UInt8):List V:=(Lib.setCells l).toList.map V.v
section
variable (xs : List Value)
theorem aRz:pO (xs.map V.v)=true:=by induction xs with | nil=>rfl | cons x xs ih=>simpa [pO,u5] using ih
theorem aQa:Vk (xs.map V.v)=true:=by induction xs with | nil=>rfl | cons x xs ih=>simpa [Vk,fW] using ih
theorem aPK:cO (xs.map V.v)=true:=by induction xs with | nil=>rfl | cons x xs ih=>simpa [cO,g9] using ih
theorem aPI:bN (xs.map V.v)=true:=by induction xs with | nil=>rfl | cons x xs ih=>simpa [bN,gV] using ih
theorem aRi:atB (xs.map V.v)=true:=by induction xs with | nil=>rfl | cons x xs ih=>simpa [atB,zA] using ih
theorem aRw (d:Nat):da d (xs.map V.v)=false:=by induction xs with | nil=>rfl | cons x xs ih=>simpa [da,gj] using ih
theorem aRZ (d k:Nat):takes d k (xs.map V.v)=(xs.map V.v,[],k):=by induction xs with | nil=>rfl | cons x xs ih=>simp[takes,ix,ih]
theorem aOX (hp:Nat->Option Blk) (k:Nat):(xs.map V.v).map (cz hp (k+1))=xs.map V.v:=by simp[cz,Function.comp_def]
end
section
variable (l : List UInt8)
theorem aNy:pO (aBq l)=true:=aRz _
theorem aLn:Vk (aBq l)=true:=aQa _
theorem asr:cO (aBq l)=true:=aPK _
theorem aLa:bN (aBq l)=true:=aPI _
theorem aM4:atB (aBq l)=true:=aRi _
theorem aay (d:Nat):da d (aBq l)=false:=aRw _ d
theorem aOp (d k:Nat):takes d k (aBq l)=(aBq l,[],k):=aRZ _ d k
theorem aKs (hp:Nat->Option Blk) (k:Nat):(aBq l).map (cz hp (k+1))=aBq l:=aOX _ hp k
theorem aRU:(aBq l).length=256:=by simp[aBq,Lib.setCells_size]
end
attribute [local simp] aNy aLn asr aLa aM4 aay aOp aKs aRU
end Go.Proofs.YtnjjimhkbpdpgaaGreatDoor
namespace Go.Proofs.YtnjjimhkbpdpgaaGreatDoor
open Go.Abs
set_option maxRecDepth 100000
def apr:=[ok 4 vN]
def aps:=[oo 8 (.bslice 1 (vS []) 0 []),om 5 8]
def apt:=[ok 6 (vI 0)]
def apu:=[ok 7 (vI 0)]
def apv:=[om 9 7,om 10 0,oo 11 (.len true (.t 10)),cI 12 .lss 9 11]
def apw:=[om 15 0,om 16 7,oo 17 (.idx (.t 15) (.t 16)),om 18 1,cI 19 .eql 17 18]
def apx:=[om 20 5,om 21 0,om 22 6,om 23 7,oo 24 (.slc none (.t 21) (some (.t 22)) (some (.t 23))),oo 25 (.bslice 1 (vS []) 1 [(0,(.t 24))]),oo 26 (.app 1 16 (.t 20) (.t 25)),om 5 26]
def apy:=[om 27 7,fL 28 27 1,om 6 28]
def ZN:=[om 13 7,fL 14 13 1,om 7 14]
def an1:C:=(ss (sr apv [0,1,5,6,7,12] (sc 12 .skip (.exit 0))) (ss (.block 1 (sr apw [0,1,5,6,7,19] (sc 19 (sr apx [0,1,5,7] (.reg apy [0,1,5,6,7])) .skip))) (.reg ZN [0,1,5,6,7])))
def aj4:=[om 29 5,om 30 0,om 31 6,oo 32 (.slc none (.t 30) (some (.t 31)) none),oo 33 (.bslice 1 (vS []) 1 [(0,(.t 32))]),oo 34 (.app 1 16 (.t 29) (.t 33)),om 4 34]
def azf:C:=(sr apr [0,1] (sr aps [0,1,5] (sr apt [0,1,5,6] (ss (sr apu [0,1,5,6,7] (.block 0 (.loop an1))) (sr aj4 [4] .ret)))))
def aI4:Nat->List Nat
 | 0=>[0,1]
 | 1=>[0,1,5]
 | 2=>[0,1,5,6]
 | 3=>[0,1,5,6,7]
 | 4=>[0,1,5,6,7,12]
 | 6=>[0,1,5,6,7,19]
 | 7=>[0,1,5,7]
 | 8=>[0,1,5,6,7]
 | 5=>[0,1,5,6,7]
 | 9=>[4]
 | _=>[]
theorem aGp:cE o9 azf [(.tmp 4)] 35 :=
 ⟨Tryz.f61,_,aI4,Tryz.func61,rfl,by kernel_rfl,by kernel_rfl,by kernel_rfl,rfl⟩
theorem Ni (s:List UInt8) (c:UInt8) (hs:s.length<=4000000):di o9 [S s,Y c] (.own 1 ((parts c s).map S)):=by
 refine aa.of aGp (by simp) ?_;simp[azf,apr,aps,apt,apu,an1]
 refine dl (fun p:List (List UInt8)×Nat×Nat=>⟨[(0,S s),(1,Y c),(5,.sl 8 0 p.1.length),(6,I p.2.1),(7,I p.2.2)],[(8,⟨1,p.1.map S⟩)],[]⟩) (fun p=>s.length - p.2.2)
  (fun p=>(p.2.1<=p.2.2/\p.2.2<=s.length/\p.1.length<=p.2.2)/\parts c s=p.1++parts c (s.drop p.2.1)/\c ∉ (s.drop p.2.1).take (p.2.2 - p.2.1)) ([],0,0) Wk.li (by simp) ?_
 rintro ⟨done,j,i⟩ ⟨⟨hji,hi,hd⟩,hp,hc⟩ K hN hR hE;dsimp only at hji hi hd hp hc;simp[apv];refine⟨fun hlt=>?_,fun hge=>?_⟩
 ·have hdr:(s.drop j).drop (i - j)=s[i]::s.drop (i+1):=by rw[List.drop_drop,show j+(i - j)=i by omega,List.drop_eq_getElem_cons hlt]
  simp[apw,hlt];refine⟨fun h=>?_,fun h=>?_⟩
  ·have hsplit:parts c (s.drop j)=(s.drop j).take (i - j)::parts c (s.drop (i+1)):=by
    conv=>lhs;rw[<- List.take_append_drop (i - j) (s.drop j),hdr,h]
    exact aaE hc
   simp[apx];refine⟨by omega,by unfold bR;omega,?_⟩;simp[apy];rw[aD (by omega)];simp[ZN];rw[aD (by omega)];refine hN (done++[(s.drop j).take (i - j)],i+1,i+1) _ (by dsimp only;omega) ⟨⟨by dsimp only;omega,by dsimp only;omega,by simp;omega⟩,?_,by simp⟩ (Wk.trans (Wk.ren 26 8 (by decide) (by simp)) (Wk.list rfl ?_ ?_))
   ·rw[hp,hsplit];simp
   ·simp[AS.ren,ren,reN]
   ·simp[AS.ren,ren,reN,ad3]
  ·simp[ZN];rw[aD (by omega)];refine hN (done,j,i+1) _ (by dsimp only;omega) ⟨⟨by dsimp only;omega,by dsimp only;omega,by dsimp only;omega⟩,hp,?_⟩ Wk.li;dsimp only;have hl:i - j < (s.drop j).length:=by rw[List.length_drop];omega
   rw[show i+1 - j=i - j+1 by omega,<- List.take_append_getElem hl,List.mem_append,List.mem_singleton];rintro (h' | h')
   ·exact hc h'
   ·refine h ?_;rw[h',List.getElem_drop];congr 1;omega
 ·refine hE _ _ ?_;obtain rfl:i=s.length:=by omega
  have hn:c ∉ s.drop j:=by
   rw[List.take_of_length_le (by rw[List.length_drop];omega)] at hc;exact hc
  rw[eC hn] at hp;simp only[cv];simp[aj4];rw[List.take_of_length_le (by rw[List.length_drop];omega),hp];exact⟨by omega,by unfold bR;omega,by simp⟩
theorem ast (c:UInt8) (x:UInt8) (s:List UInt8):∃ p ps,parts c s=p::ps/\parts c (x::s)=if x=c then []::p::ps else (x::p)::ps:=by
 cases h:parts c s with
 | nil=>exact absurd h (Ud s)
 | cons p ps =>
   refine⟨p,ps,rfl,?_⟩;rw[parts,h]
def arH (w:Int):List UInt8->List (List UInt8)->List (List UInt8)
 | cur,[]=>[cur]
 | cur,x::xs=>if (cur.length:Int)+1+x.length<=w then arH w (cur++32::x) xs else cur::arH w x xs
def fill (w:Int):List (List UInt8)->List (List UInt8)
 | []=>[]
 | x::xs=>arH w x xs
def A4:List (List UInt8)->List UInt8
 | []=>[]
 | [x]=>x
 | x::y::xs=>x++32::A4 (y::xs)
theorem aC1:∀ (xs:List (List UInt8)) (y:List UInt8),xs≠[]->A4 (xs++[y])=A4 xs++32::y
 | [x],y,_=>rfl
 | x::z::xs,y,_=>by
   have ih:=aC1 (z::xs) y (by simp);show x++32::A4 (z::(xs++[y]))=_;rw[show z::(xs++[y])=(z::xs)++[y] from rfl,ih];simp[A4]
def most (l:List (List UInt8)):Nat:=l.foldl (fun m w=>max m w.length) 0
theorem azY {c:UInt8}:∀ {s w:List UInt8},w ∈ parts c s->w.length<=s.length
 | [],w,h=>by
   rw[parts] at h;simp at h;subst h;simp
 | x::s,w,h=>by
   obtain ⟨p,ps,h1,h2⟩:=ayG (c:=c) (x:=x) (s:=s);rw[h2] at h;have ih:∀ v ∈ p::ps,v.length<=s.length:=fun v hv=>azY (by rw[h1];exact hv);have hp:=ih p (by simp);split at h
   ·rcases List.mem_cons.1 h with rfl | h
    ·simp
    ·have:=ih w h;simp;omega
   ·rcases List.mem_cons.1 h with rfl | h
    ·simp;omega
    ·have:=ih w (by simp[h]);simp;omega
def aOI (w:Int) (L out:List (List UInt8)) (i:Nat):Prop :=
 (i=0/\out=[])\/∃ done cur,out=done++[cur]/\cur.length<=60/\fill w L=done++arH w cur (L.drop i)
theorem aOI.done {w:Int} {L out:List (List UInt8)} (h:aOI w L out L.length):fill w L=out:=by
 rcases h with ⟨h0,rfl⟩ | ⟨done,cur,rfl,_,h⟩
 ·have:L=[]:=List.length_eq_zero_iff.1 h0;subst this;rfl
 ·rw[h,List.drop_length,arH]
theorem ayA {s:List UInt8} (hs:s.length<=1000000):Abs.one (.string (bs s))=true:=by
 have:(bs s).size=s.length:=by simp[bs,ByteArray.size]
 simp only[Abs.one,this,decide_eq_true_iff];omega
theorem aBB (s:List UInt8):(bs s).size=s.length:=by simp[bs,ByteArray.size]
theorem Fm (s:List UInt8):(bs s).data.toList=s:=by simp[bs]
theorem Ij (s p:List UInt8) (hs:s.length<=1000000):di N5 [S s,S p] (S (Lib.trimSuffix s p)):=by
 have h:=fun w=>Tryz.strings_TrimSuffix (bs s) (bs p) w (by rw[aBB];omega);rw[Fm,Fm] at h;refine aa.same (vs:=[.string (bs s),.string (bs p)]) (y:=.string (bs (Lib.trimSuffix s p))) (by kernel_rfl) (fun _ _=>xZ (ayA ?_)) (fun w _ _=>h w);unfold Lib.trimSuffix;split
 ·rw[List.length_take];omega
 ·exact hs
theorem aDY (s p:List UInt8):(Lib.trimPrefix s p).length<=s.length:=by
 unfold Lib.trimPrefix;split<;>simp
theorem YT (s p:List UInt8) (hs:s.length<=1000000):di FY [S s,S p] (.tup [S (Lib.trimPrefix s p),B (Lib.hasPrefix s p)]):=by
 have h:=fun w=>Tryz.strings_CutPrefix (bs s) (bs p) w;rw[Fm,Fm] at h;refine aa.same (vs:=[.string (bs s),.string (bs p)]) (y:=.tuple #[.string (bs (Lib.trimPrefix s p)),.bool (Lib.hasPrefix s p)]) (by kernel_rfl) (fun w D=>?_) (fun w _ _=>h w);have h1:=ayA (s:=Lib.trimPrefix s p) (by have:=aDY s p;omega);simp only[CV,iU];exact⟨_,rfl,_,_,[],[],rfl,rfl,⟨rfl,h1,rfl⟩,_,_,[],[],rfl,rfl,⟨rfl,rfl,rfl⟩,rfl,rfl⟩
theorem aKU (x:List UInt8) (l:List (List UInt8)):A4 (x::l)=x++Lib.joinTail [32] l:=by
 induction l generalizing x with
 | nil=>simp[A4,Lib.joinTail]
 | cons y l ih =>
   show x++32::A4 (y::l)=_;rw[ih];simp[Lib.joinTail]
theorem aC2 (l:List (List UInt8)):Lib.join l [32]=A4 l:=by
 cases l with
 | nil=>rfl
 | cons x l=>rw[Lib.join_cons,aKU]
theorem aBr (l:List (List UInt8)) (hl:l.length<=1000000) (h:(A4 l).length<=1000000):di aiw [.ro 1 (l.map S),S [32]] (S (A4 l)):=by
 refine aa.belowRow (vs:=[.string (bs [32])]) (y:=.string (bs (A4 l))) (by kernel_rfl) (fun _ _=>xZ (ayA h)) ?_ ?_
 ·rintro rfl w D a c _;refine(Tryz.strings_Join_none a c (bs [32]) w).mono ?_;rintro e w' ⟨rfl,rfl⟩;exact⟨rfl,Go.RowKit.Below.refl _ _⟩
 ·intro w D b o c _ hc hb hlc
  have e1:(l.map bs).map (·.data.toList)=l:=by
   rw[List.map_map]
   conv=>rhs;rw[<- List.map_id l]
   exact List.map_congr_left fun x _=>Fm x
  have hj:=Tryz.strings_Join b o c (l.map bs) (bs [32]) w (fun j x hj=>by
   rw[List.getElem?_map] at hj;cases hx:l[j]? with
   | none=>rw[hx] at hj;cases hj
   | some y =>
     rw[hx] at hj;simp only[Option.map_some,Option.some.injEq] at hj;subst hj;exact hc j y hx) hb (by simp;omega) (by simpa using hlc) (by rw[e1,Fm,aC2];omega)
  rw[e1,Fm,aC2,List.length_map] at hj;exact hj
end Go.Proofs.YtnjjimhkbpdpgaaGreatDoor
namespace Go.Proofs.YtnjjimhkbpdpgaaGreatDoor
open Go.Abs Go.RowKit
theorem aKS (n:Int) (h : -1000000000<=n/\n<=1000000000):(Lib.itoa n).length<=1100000000:=by
 unfold Lib.itoa;split
 ·have:=ME n.natAbs;unfold fw at this;simp only[List.length_cons];omega
 ·have:=ME n.toNat;unfold fw at this;omega
theorem am1 (n:Int) (h : -1000000000<=n/\n<=1000000000):di kF [I n] (S (Lib.itoa n)):=by
 refine aa.grown (vs:=[.int .i64 n]) (y:=.string (bs (Lib.itoa n))) (by kernel_rfl) (fun _ _=>xZ ?_) (fun w D hg=>?_)
 ·have:=aKS n h;show decide _=true;simp;omega
 ·exact Tryz.strconv_Itoa n (by omega) (by omega) w hg.1
theorem j9 (n:Int) (h : -1000000000<=n/\n<=1000000000):di gk [I n] (S (Lib.itoa n)):=by
 by_cases h0:n < 0
 ·have e:Lib.itoa n=45::fw n.natAbs:=by unfold Lib.itoa;rw[if_pos h0];rfl
  refine aa.of aCL (by simp) ?_;simp[axQ,aj2,aj3,h0];simp[aAg];rw[aD (by omega)];refine al (aa.arg (anc n.natAbs (by omega)) (by simp;omega)) ?_;rw[e];have hd:=ME n.natAbs;simp;omega
 ·have e:Lib.itoa n=fw n.toNat:=by unfold Lib.itoa;rw[if_neg h0];rfl
  rw[e];exact aa.arg (anc n.toNat (by omega)) (by simp;omega)
theorem aa.run {P:Program} {f:Nat} {vs:List Value} {y:Value} (h:aa P f (vs.map .v) (.v y)) (ho:∀ x ∈ vs,Abs.one x=true) {w:World} {D:Nat->Prop} (hD:∀ b,D b->b < w.heap.size) (hg:GI.holds w D) :
  Calls P f vs.toArray w fun e w'=>e=.returned y/\Below w.heap.size w w':=by
 refine(h.2 w D vs hD hg (axG _ ho)).mono ?_;rintro e w' ⟨y',D',fp,rfl,hgr,hcv,_,_⟩;simp only[CV] at hcv;rw[hcv.1];exact⟨rfl,hgr.os,hgr.tape,hgr.output,hgr.size,fun k hk=>hgr.old k hk (by simp)⟩
def eZ (o:Option Int):V:=.tup [I (o.getD 0),B o.isSome]
theorem MM (s:List UInt8):di Ft [S s] (eZ (ol s)):=by
 refine⟨by kernel_rfl,fun w D xs hD hg hxs=>?_⟩;have hxs:=Tb (vs:=[.string (bs s)]) hxs;subst hxs
 have hy:∀ w D,CV w D (eZ (ol s)) (fun _=>none) (.tuple #[.int .i64 ((ol s).getD 0),.bool (ol s).isSome]) []:=fun w D=>by
  have h1:Abs.one (.int .i64 ((ol s).getD 0))=true:=rfl;simp only[eZ,CV,iU];exact⟨_,rfl,_,_,[],[],rfl,rfl,⟨rfl,rfl,rfl⟩,_,_,[],[],rfl,rfl,⟨rfl,rfl,rfl⟩,rfl,rfl⟩
 suffices hmain:Calls Tryz.prog Ft #[.string (bs s)] w fun e w'=>e=.returned (.tuple #[.int .i64 ((ol s).getD 0),.bool (ol s).isSome])/\Below w.heap.size w w' by
  refine hmain.mono ?_;rintro e w' ⟨rfl,hb⟩;exact⟨_,D,[],rfl,Grow.of_below hD hb,hy _ _,List.nodup_nil,by simp⟩
 have hn:∀ n,ol s=some n↔T3 n/\Lib.itoa n=s:=fun n=>aua;have hP:ol s=(Lib.atoi s).bind fun n=>if T3 n/\Lib.itoa n=s then some n else none:=rfl
 go_enter Tryz.func94,Tryz.ntmps94
 go_wp2_with fail
 ·rename_i hl;have hl8:7 < s.length:=by omega
  have e:ol s=none:=by
   cases e:ol s with
   | none=>rfl
   | some n =>
     obtain ⟨h1,h2⟩:=(hn n).1 e;have:=aas h1;rw[h2] at this;omega
  go_returns
  rw[e];exact⟨rfl,Below.refl _ _⟩
 ·rename_i hl;have hl7:s.length<=7:=by omega
  have hal:=Lib.atoiAll_short s (by omega);cases hat:Lib.atoi s with
  | none =>
    rw[hat] at hal hP;have e:ol s=none:=hP;obtain ⟨ev,hv,hev⟩:=hg.2.2.2.1;refine Calls.mono (Tryz.strconv_Atoi_syntax (bs s) (by rw[Abs.aBB];omega) (by rw[Fm,hal];rfl) ev w hv hev) ?_;rintro e1 w' ⟨N,rfl,hN,hb1,hb2⟩
    go_wp2_with fail
    go_returns
    rw[e];exact⟨rfl,hb2⟩
  | some n =>
    rw[hat] at hal hP;rw[Option.bind_some] at hP;refine Calls.mono (Tryz.strconv_Atoi (bs s) n (by rw[Abs.aBB];omega) (by rw[Fm];exact hat) w) ?_;rintro e1 w' ⟨rfl,t,rfl⟩;have hb1:Below w.heap.size w (Lib.bytesWorld w 5 t):=Lib.bytesWorld_below w 5 t;have hD1:∀ b,D b->b < (Lib.bytesWorld w 5 t).heap.size:=fun b hb=>Nat.lt_of_lt_of_le (hD b hb) hb1.size;have hg1:GI.holds (Lib.bytesWorld w 5 t) D:=GI.mono hg (fun _ h=>h) fun b hb=>hb1.block b (hD b hb);generalize Lib.bytesWorld w 5 t=w1 at hb1 hD1 hg1 ⊢
    go_wp2_with fail
    refine Calls.mono (aa.run (vs:=[.int .i64 n,.int .i64 (-999999),.int .i64 999999]) (vE n (-999999) 999999) (by simp[Abs.one]) hD1 hg1) ?_;rintro e1 w2 ⟨rfl,hb2⟩;have hb3:Below w.heap.size w w2:=hb1.trans (hb2.mono hb1.size);have hD2:∀ b,D b->b < w2.heap.size:=fun b hb=>Nat.lt_of_lt_of_le (hD1 b hb) hb2.size;have hg2:GI.holds w2 D:=GI.mono hg1 (fun _ h=>h) fun b hb=>hb2.block b (hD1 b hb);cases hin:fV n (-999999) 999999 with
    | false =>
      have e:ol s=none:=by
       rw[hP,if_neg];rintro ⟨h1,_⟩;simp[fV] at hin;omega
      go_wp2_with fail
      go_returns
      rw[e];exact⟨rfl,hb3⟩
    | true =>
      have hni:T3 n:=by simp[fV] at hin;exact⟨by omega,by omega⟩
      go_wp2_with fail
      refine Calls.mono (aa.run (vs:=[.int .i64 n]) (am1 n ⟨by omega,by omega⟩) (by simp[Abs.one]) hD2 hg2) ?_;rintro e1 w3 ⟨rfl,hb4⟩;have hb5:Below w.heap.size w w3:=hb3.trans (hb4.mono hb3.size)
      go_wp2_with fail
      ·rename_i hc
       have e:ol s=none:=by
        rw[hP,if_neg];rintro ⟨_,h2⟩;simp[h2] at hc
       go_returns
       rw[e];exact⟨rfl,hb5⟩
      ·rename_i hc;have h2:Lib.itoa n=s:=by simpa using hc
       have e:ol s=some n:=by rw[hP,if_pos ⟨hni,h2⟩]
       go_returns
       rw[e];exact⟨rfl,hb5⟩
def aRf (b:UInt8):Nat:=b.toNat - 48
theorem aGa {l:List UInt8} {i m:Nat} (h:i < l.length) (hm:Lib.decFrom 0 (l.take i)=some m):Lib.decFrom 0 (l.take (i+1))=if 48<=l[i].toNat/\l[i].toNat<=57 then some (10 * m+aRf l[i]) else none:=by
 rw[dP h,acV,hm,Option.bind_some];unfold Lib.digitVal aRf;split
 ·rw[Option.map_some];congr 1;omega
 ·rfl
theorem aF9 {l:List UInt8} {i:Nat} (hm:Lib.decFrom 0 (l.take i)=none):Lib.decFrom 0 l=none:=by
 have:∀ (a b:List UInt8) (acc:Nat),Lib.decFrom acc a=none->Lib.decFrom acc (a++b)=none:=fun a=>by
  induction a with
  | nil=>intro b acc h;cases h
  | cons x a ih =>
    intro b acc h;simp only[List.cons_append,Lib.decFrom] at h ⊢;cases hd:Lib.digitVal x with
    | none=>rfl
    | some d=>rw[hd] at h;exact ih b _ h
 have h:=this (l.take i) (l.drop i) 0 hm
 rwa [List.take_append_drop] at h
theorem aQd (s:List UInt8) (hs:s.length<=1000000):di ash [S s] (eZ (aJs s)):=by
 have hS:aJs s=if 1<=(xm s).length/\(xm s).length<=6 then
  (Lib.decFrom 0 (xm s)).bind fun m =>
   if Lib.itoa (if (xm s).length < s.length then -(m:Int) else (m:Int))=s then some (if (xm s).length < s.length then -(m:Int) else (m:Int)) else none
  else none:=rfl
 have hT:xm s=if 1 < s.length/\s.head?=some 45 then s.drop 1 else s:=rfl
 have hl:(xm s).length<=s.length:=by rw[hT];split<;>simp
 refine aa.of aIj (by simp) ?_;simp[aB2,au3,au4,au5]
 have hh:s.head?=some 45↔(0 < s.length/\((s[0]?.getD 0).toNat:Int)=45):=by
  cases s with
  | nil=>simp
  | cons x r =>
    simp;constructor
    ·rintro rfl;rfl
    ·intro h;have:x.toNat=45:=by omega
     exact UInt8.toNat_inj.1 this
 refine⟨fun h=>⟨by omega,fun h2=>?_,fun h2=>?_⟩,fun h=>?_⟩
 focus
  have e:xm s=s.drop 1:=by rw[hT,if_pos ⟨by omega,hh.2 ⟨by omega,h2⟩⟩]
  simp[au6];refine⟨by omega,?_⟩;refine cp ⟨[(0,S s),(4,S (xm s))],[],[]⟩ (Wk.list rfl (by simp[e];exact List.take_of_length_le (by simp)) (by simp)) ?_
 rotate_left
 focus
  have e:xm s=s:=by rw[hT,if_neg (fun h3=>h2 (hh.1 h3.2).2)]
  refine cp ⟨[(0,S s),(4,S (xm s))],[],[]⟩ (Wk.list rfl (by simp[e]) (by simp)) ?_
 rotate_left
 focus
  have e:xm s=s:=by rw[hT,if_neg (fun h3=>by omega)]
  refine cp ⟨[(0,S s),(4,S (xm s))],[],[]⟩ (Wk.list rfl (by simp[e]) (by simp)) ?_
 rotate_left
 all_goals
  clear hT hh e;generalize xm s=t at hS hl ⊢;simp[au7];refine al (aa.ag (LL t.length 1 6)) ?_;cases hin:fV (t.length:Int) 1 6 with
  | false =>
    have e:aJs s=none:=by
     rw[hS,if_neg];rintro ⟨a1,a2⟩;simp[fV] at hin;omega
    simp[au8,e,eZ]
  | true =>
    have h6:1<=t.length/\t.length<=6:=by simp[fV] at hin;omega
    rw[if_pos h6] at hS;simp[au9,ava,an0];refine dl (fun p:Nat×Nat=>⟨[(0,S s),(4,S t),(5,I p.2),(6,I p.1)],[],[]⟩) (fun p=>t.length - p.1) (fun p=>p.1<=t.length/\Lib.decFrom 0 (t.take p.1)=some p.2) (0,0) Wk.li ⟨by simp,by simp[Lib.decFrom]⟩ ?_;rintro ⟨i,m⟩ ⟨hi,hm⟩ K hN hR hE;dsimp only at hi hm
    have hmb:m < 10 ^ i:=by
     have:=Lib.decFrom_lt _ _ _ hm;rw[List.length_take,Nat.min_eq_left hi] at this;omega
    have hpw:10 ^ i<=10 ^ 6:=Nat.pow_le_pow_right (by decide) (by omega);have hmb2:m < 1000000:=by omega
    simp[avb,apn];refine⟨fun hlt=>?_,fun hge=>?_⟩
    ·have hst:=aGa hlt hm;simp[avc,hlt]
     have hno:¬(48<=t[i].toNat/\t[i].toNat<=57)->aJs s=none:=fun hc=>by
      rw[if_neg hc] at hst;rw[hS,aF9 hst];rfl
     refine⟨fun c1=>⟨fun c2=>?_,fun c2=>?_⟩,fun c1=>?_⟩
     ·have e:=hno (by omega);simp[ZJ];refine hR _ ?_;simp[e,eZ]
     ·rw[if_pos ⟨by omega,by omega⟩] at hst;have hdv:aRf t[i]=t[i].toNat - 48:=rfl;simp[apm,hlt];have e8:IntKind.u8.wrap ((t[i].toNat:Int) - 48)=(t[i].toNat:Int) - 48:=by simp (disch:=omega) only[Go.IntWalk.u8_in]
      rw[e8,aD (n:=10 * (m:Int)) (by omega),aD (n:=(t[i].toNat:Int) - 48) (by omega),aD (by omega),aD (by omega)];refine hN (i+1,10 * m+aRf t[i]) _ (by dsimp only;omega) ⟨by dsimp only;omega,hst⟩ (Wk.list rfl ?_ (by simp));simp;rw[hdv];omega
     ·have e:=hno (by omega);simp[ZJ];refine hR _ ?_;simp[e,eZ]
    ·refine hE _ _ ?_;obtain rfl:i=t.length:=by omega
     rw[List.take_of_length_le (Nat.le_refl _)] at hm;rw[hm,Option.bind_some] at hS;simp[apo];refine⟨fun hlt=>?_,fun hge=>?_⟩
     ·simp only[if_pos (show t.length < s.length by omega)] at hS;simp[apq,ZK];rw[aD (by omega)];refine al (aa.ag (j9 (-(m:Int)) ⟨by omega,by omega⟩)) ?_;simp;refine⟨fun hc=>?_,fun hc=>?_⟩
      ·rw[if_neg hc] at hS;simp[ZL,hS,eZ]
      ·rw[if_pos hc] at hS;simp[ZM,hS,eZ]
     ·simp only[if_neg (show ¬t.length < s.length by omega)] at hS;simp[ZK];refine al (aa.ag (j9 m ⟨by omega,by omega⟩)) ?_;simp;refine⟨fun hc=>?_,fun hc=>?_⟩
      ·rw[if_neg hc] at hS;simp[ZL,hS,eZ]
      ·rw[if_pos hc] at hS;simp[ZM,hS,eZ]
theorem ad7 (s:List UInt8) (hs:s.length<=1000000):di Fv [S s] (eZ (ol s)):=by
 rw[<- aPM];refine aa.of aEu (by simp) ?_;simp[atd,ajP,ajQ];refine bB (aa.ag (aQd s hs)) rfl (.inl (by simp[eZ])) (by simp[eZ]) ?_;simp[eZ]
end Go.Proofs.YtnjjimhkbpdpgaaGreatDoor
namespace Go.Proofs.YtnjjimhkbpdpgaaGreatDoor
open Go.Abs
set_option maxRecDepth 100000
open Tryz
def apT:=[dD 2 15 lm,ok 3 (vB false)]
def apU:=[om 7 0,cg 8 aiv 7,om 6 8,cJ 9 6 0,cJ 10 6 1,dD 4 16 pG,bg 16 4 9,om 5 10]
def apV:=[om 11 5,oo 12 (.un .not (.t 11))]
def apW:=[oo 13 (.build lm []),bg 15 2 13,ok 3 (vB false)]
def apX:=[bu 14 16 4,cg 15 Nv 14,cJ 16 15 0,cJ 17 15 1,bg 15 2 16,om 3 17]
def azk:C:=(sr apT [0,2] (sr apU [2,4,5] (ss (sr apV [2,4,12] (sc 12 (sr apW [2,3] .ret) .skip)) (sr apX [2,3] .ret))))
theorem aGu:cE Wt azk [(.cell 2 true 15),(.tmp 3)] 18:=dE func142 rfl
def aok:=[dD 2 15 lm,ok 3 (vB false)]
def aol:=[om 7 0,cg 8 PA 7,om 6 8,cJ 9 6 0,cJ 10 6 1,dD 4 16 pG,bg 16 4 9,om 5 10]
def aom:=[om 11 5,oo 12 (.un .not (.t 11))]
def aon:=[oo 13 (.build lm []),bg 15 2 13,ok 3 (vB false)]
def aoo:=[bu 14 16 4,cg 15 DB 14,cJ 16 15 0,cJ 17 15 1,bg 15 2 16,om 3 17]
def ay7:C:=(sr aok [0,2] (sr aol [2,4,5] (ss (sr aom [2,4,12] (sc 12 (sr aon [2,3] .ret) .skip)) (sr aoo [2,3] .ret))))
theorem aGg:cE Wp ay7 [(.cell 2 true 15),(.tmp 3)] 18:=dE func95 rfl
def agc:=[eF 1 16 0,dD 2 15 lm,ok 3 (vB false)]
def agd:=[bu 7 16 1,cg 8 adv 7,om 6 8,cJ 9 6 0,cJ 10 6 1,om 4 9,om 5 10]
def PV:=[om 11 5,oo 12 (.un .not (.t 11))]
def age:=[oo 13 (.build lm []),bg 15 2 13,ok 3 (vB false)]
def agf:=[aL 14 0 1,bu 15 15 14,om 16 4,cg 17 aso 16,dK 18 adu 15 17,bg 15 2 18,ok 3 (vB true)]
def PK:List (List Nat):=[[],[0],[],[2],[0,1,2,3],[0,1,2,3,4],[0,1,2,3,4,5]]
def anL:C:=(sr agc [1,2] (sr agd [1,2,4,5] (ss (sr PV [1,2,4,12] (sc 12 (sr age [2,3] .ret) .skip)) (ss (.regD agf PK [2,3]) .ret))))
theorem aCN:cE Nv anL [(.cell 2 true 15),(.tmp 3)] 19:=dE func208 rfl
def aqL:=[dD 2 4 xR,dD 3 2 (.agg [vI 0,vI 0]),ok 4 (vB false)]
def aqM:=[om 10 0,cg 11 Ww 10,om 9 11,cJ 12 9 0,cJ 13 9 1,dD 6 2 (.agg [vI 0,vI 0]),om 5 12,bg 2 6 13]
def aqN:=[om 15 5,cg 16 adq 15,om 14 16,cJ 17 14 0,cJ 18 14 1,dD 7 4 xR,bg 4 7 17,om 8 18]
def aqO:=[bu 19 4 7,bu 20 2 6,om 21 8,bg 4 2 19,bg 2 3 20,om 4 21]
def Zv:List (List Nat):=[[],[],[],[0],[0,1,3],[0,1,2,3,4]]
def azt:C:=(sr aqL [0,2,3] (sr aqM [2,3,5,6] (sr aqN [2,3,6,7,8] (ss (.regD aqO Zv [2,3,4]) .ret))))
theorem aGD:cE N4 azt [(.cell 2 true 4),(.cell 3 true 2),(.tmp 4)] 22:=dE func264 rfl
def aqP:=[dD 2 16 pG,ok 3 (vB false)]
def aqQ:=[oo 31 (.build pG []),dD 4 16 pG,bg 16 4 31]
def aqR:=[om 32 0,oo 33 (.len true (.t 32)),cn 34 .gtr 33 240]
def aqS:=[bu 35 16 4,bg 16 2 35,ok 3 (vB false)]
def aqT:=[om 37 0,oo 38 (.call Fw [.t 37,(.k (vS [44,32]))]),om 36 38,cJ 39 36 0,cJ 40 36 1,cJ 41 36 2,om 5 39,om 6 40,om 7 41]
def aqU:=[om 43 5,cg 44 aiu 43,om 42 44,cJ 45 42 0,cJ 46 42 1,dD 8 4 xR,bg 4 8 45,om 9 46]
def aqV:=[om 47 9,oo 48 (.un .not (.t 47))]
def aqW:=[bu 49 16 4,bg 16 2 49,ok 3 (vB false)]
def aqX:=[bu 50 4 8,oo 51 (.build lm [(0,(4,(.t 50)))]),oo 52 (.bslice 2 (.agg [vI 0,vI 0]) 0 []),oo 53 (.build pG [(0,(15,(.t 51))),(15,(1,(.t 52)))]),dD 10 16 pG,bg 16 10 53]
def aqY:=[om 54 7,oo 55 (.un .not (.t 54))]
def alc:=[bu 56 16 10,bg 16 2 56,ok 3 (vB true)]
def ald:=[om 58 6,cg 59 N4 58,om 57 59,cJ 60 57 0,cJ 61 57 1,cJ 62 57 2,dD 11 4 xR,dD 12 2 (.agg [vI 0,vI 0]),bg 4 11 60,bg 2 12 61,om 13 62]
def ale:=[om 63 13]
def alf:=[bu 64 4 11,aL 65 0 10,aL 66 11 65,bg 4 66 64]
def alg:=[aL 67 15 10,bl 68 1 67,bu 69 2 12,oo 70 (.bslice 2 (.agg [vI 0,vI 0]) 1 [(0,(.t 69))]),oo 71 (.app 2 16 (.t 68) (.t 70)),aL 72 15 10,bg 1 72 71]
def alh:=[bu 73 16 10,bu 74 16 10,cg 75 TZ 74,bg 16 2 73,om 3 75]
def Ub:List (List Nat):=[[],[],[1],[0,1,2],[0,1,2,3]]
def ali:=[om 77 6,oo 78 (.call Fw [.t 77,(.k (vS [32,98,101,116,119,101,101,110,32]))]),om 76 78,cJ 79 76 0,cJ 80 76 1,cJ 81 76 2,om 14 79,om 15 80,om 16 81]
def alj:=[om 82 16,oo 83 (.un .not (.t 82))]
def alk:=[om 85 6,oo 86 (.call Fw [.t 85,(.k (vS [32,97,98,111,118,101,32]))]),om 84 86,cJ 87 84 0,cJ 88 84 1,cJ 89 84 2,om 14 87,om 15 88,om 16 89]
def alm:=[om 91 14,oo 92 (.call Fw [.t 91,(.k (vS [32,99,104,97,114,103,101,100,32,119,105,116,104,32]))]),om 90 92,cJ 93 90 0,cJ 94 90 1,cJ 95 90 2,om 17 93,om 18 94,om 19 95]
def aln:=[om 97 17,cg 98 Ww 97,om 96 98,cJ 99 96 0,cJ 100 96 1,dD 21 2 (.agg [vI 0,vI 0]),om 20 99,bg 2 21 100]
def alo:=[om 102 20,cg 103 MV 102,om 101 103,cJ 104 101 0,cJ 105 101 1,cJ 106 101 2,om 22 104,om 23 105,om 24 106]
def alp:=[om 107 24,oo 108 (.un .not (.t 107))]
def alq:=[bu 109 16 4,bg 16 2 109,ok 3 (vB false)]
def alr:=[om 110 22,aL 111 0 10,aL 112 4 111,bg 1 112 110]
def als:=[om 113 23,aL 114 0 10,aL 115 5 114,bg 1 115 113]
def alt:=[aL 116 0 10,aL 117 6 116,ou (.st 1 (.t 117) (xI 1))]
def alu:=[aL 118 15 10,bl 119 1 118,bu 120 2 21,oo 121 (.bslice 2 (.agg [vI 0,vI 0]) 1 [(0,(.t 120))]),oo 122 (.app 2 16 (.t 119) (.t 121)),aL 123 15 10,bg 1 123 122]
def alv:=[om 124 19]
def alw:=[om 126 18,cg 127 N4 126,om 125 127,cJ 128 125 0,cJ 129 125 1,cJ 130 125 2,dD 25 4 xR,dD 26 2 (.agg [vI 0,vI 0]),bg 4 25 128,bg 2 26 129,om 27 130]
def alx:=[bu 131 4 25,aL 132 0 10,aL 133 7 132,bg 4 133 131]
def aly:=[aL 134 15 10,bl 135 1 134,bu 136 2 26,oo 137 (.bslice 2 (.agg [vI 0,vI 0]) 1 [(0,(.t 136))]),oo 138 (.app 2 16 (.t 135) (.t 137)),aL 139 15 10,bg 1 139 138]
def alz:=[om 140 27,om 24 140]
def alA:=[om 141 16,om 142 141,oT 142 143 (.mv (.t 24)),oo 144 (.pick (.t 142) (.t 143) (xB false))]
def alB:=[om 146 15,cg 147 N4 146,om 145 147,cJ 148 145 0,cJ 149 145 1,cJ 150 145 2,dD 28 4 xR,dD 29 2 (.agg [vI 0,vI 0]),bg 4 28 148,bg 2 29 149,om 30 150]
def alC:=[bu 151 4 28,aL 152 0 10,aL 153 11 152,bg 4 153 151]
def alD:=[aL 154 15 10,bl 155 1 154,bu 156 2 29,oo 157 (.bslice 2 (.agg [vI 0,vI 0]) 1 [(0,(.t 156))]),oo 158 (.app 2 16 (.t 155) (.t 157)),aL 159 15 10,bg 1 159 158]
def alE:=[om 160 30,om 24 160]
def alF:=[om 161 24,oo 162 (.un .not (.t 161)),om 163 162,oF 163 164 (.ld true 16 (.t 10)),oF 163 165 (.call TZ [.t 164]),oF 163 166 (.un .not (.t 165)),oo 167 (.pick (.t 163) (xB true) (.t 166)),om 168 167,oF 168 169 (.ld true 16 (.t 10)),oF 168 170 (.call Ak [.t 169]),oF 168 171 (.mv (.t 0)),oF 168 172 (.bin .neq .none (.t 170) (.t 171)),oo 173 (.pick (.t 168) (xB true) (.t 172))]
def Lj:=[bu 174 16 4,bg 16 2 174,ok 3 (vB false)]
def alG:=[bu 175 16 10,bg 16 2 175,ok 3 (vB true)]
def azu:C:=(sr aqP [0,2] (sr aqQ [0,2,4] (ss (sr aqR [0,2,4,34] (sc 34 (sr aqS [2,3] .ret) .skip)) (sr aqT [0,2,4,5,6,7] (sr aqU [0,2,4,6,7,8,9] (ss (sr aqV [0,2,4,6,7,8,48] (sc 48 (sr aqW [2,3] .ret) .skip)) (sr aqX [0,2,4,6,7,10] (ss (sr aqY [0,2,4,6,10,55] (sc 55 (sr alc [2,3] .ret) .skip)) (ss (sr ald [0,2,4,6,10,11,12,13] (sr ale [0,2,4,6,10,11,12,63] (sc 63 (sr alf [2,10,12] (sr alg [2,10] (ss (.regD alh Ub [2,3]) .ret))) .skip))) (sr ali [0,2,4,6,10,14,15,16] (ss (sr alj [0,2,4,6,10,14,15,16,83] (sc 83 (.reg alk [0,2,4,10,14,15,16]) .skip)) (ss (.wk (.reg alm [0,2,4,10,15,16,17,18,19])) (sr aln [0,2,4,10,15,16,18,19,20,21] (sr alo [0,2,4,10,15,16,18,19,21,22,23,24] (ss (sr alp [0,2,4,10,15,16,18,19,21,22,23,24,108] (sc 108 (sr alq [2,3] .ret) .skip)) (sr alr [0,2,4,10,15,16,18,19,21,23,24] (sr als [0,2,4,10,15,16,18,19,21,24] (sr alt [0,2,4,10,15,16,18,19,21,24] (sr alu [0,2,4,10,15,16,18,19,24] (ss (sr alv [0,2,4,10,15,16,18,24,124] (sc 124 (sr alw [0,2,4,10,15,16,25,26,27] (sr alx [0,2,4,10,15,16,26,27] (sr aly [0,2,4,10,15,16,27] (.reg alz [0,2,4,10,15,16,24])))) .skip)) (ss (ss (.wk (.reg alA [0,2,4,10,15,24,144])) (sc 144 (sr alB [0,2,4,10,28,29,30] (sr alC [0,2,4,10,29,30] (sr alD [0,2,4,10,30] (.reg alE [0,2,4,10,24])))) .skip)) (ss (ss (.wk (.reg alF [2,4,10,173])) (sc 173 (sr Lj [2,3] .ret) .skip)) (sr alG [2,3] .ret)))))))))))))))))))))))
theorem aGE:cE aiv azu [(.cell 2 true 16),(.tmp 3)] 176:=dE func207 rfl
def az9:=[ok 4 (vB false)]
def aAa:=[ok 5 (vI 0)]
def aAb:=[om 6 5,om 7 0,oo 8 (.len false (.t 7)),cI 9 .lss 6 8]
def aAc:=[om 12 0,om 13 5,ft 14 1 12 13,bl 15 1 14,om 16 1,cI 17 .eql 15 16]
def aAd:=[ok 4 (vB true)]
def aAe:=[om 10 5,fL 11 10 1,om 5 11]
def azP:C:=(ss (sr aAb [0,1,5,9] (sc 9 .skip (.exit 0))) (ss (.block 1 (sr aAc [0,1,5,17] (sc 17 (sr aAd [4] .ret) .skip))) (.reg aAe [0,1,5])))
def aAf:=[ok 4 (vB false)]
def aE4:C:=(sr az9 [0,1] (ss (sr aAa [0,1,5] (.block 0 (.loop azP))) (sr aAf [4] .ret)))
def aNi:Nat->List Nat
 | 0=>[0,1]
 | 1=>[0,1,5]
 | 2=>[0,1,5,9]
 | 4=>[0,1,5,17]
 | 5=>[4]
 | 3=>[0,1,5]
 | 6=>[4]
 | _=>[]
theorem aKG:cE ayt aE4 [(.tmp 4)] 18 :=
 ⟨Tryz.f338,_,aNi,func338,rfl,by kernel_rfl,by kernel_rfl,by kernel_rfl,rfl⟩
def aqe:=[ok 2 vN]
def aqf:=[oo 5 (.bslice 1 (vI 0) 0 []),om 3 5]
def aqg:=[ok 4 (vI 0)]
def aqh:=[om 6 4,om 7 0,oo 8 (.len false (.t 7)),cI 9 .lss 6 8]
def aqi:=[om 12 3,om 13 0,om 14 4,ft 15 1 13 14,bl 16 1 15,dK 17 ayt 12 16,oo 18 (.un .not (.t 17))]
def aqj:=[om 19 3,om 20 0,om 21 4,ft 22 1 20 21,bl 23 1 22,oo 24 (.bslice 1 (vI 0) 1 [(0,(.t 23))]),oo 25 (.app 1 8 (.t 19) (.t 24)),om 3 25]
def aqk:=[om 10 4,fL 11 10 1,om 4 11]
def an3:C:=(ss (sr aqh [0,3,4,9] (sc 9 .skip (.exit 0))) (ss (.block 1 (sr aqi [0,3,4,18] (sc 18 (.reg aqj [0,3,4]) .skip))) (.reg aqk [0,3,4])))
def aql:=[om 26 3,om 2 26]
def azn:C:=(sr aqe [0] (sr aqf [0,3] (ss (sr aqg [0,3,4] (.block 0 (.loop an3))) (sr aql [2] .ret))))
def aI5:Nat->List Nat
 | 0=>[0]
 | 1=>[0,3]
 | 2=>[0,3,4]
 | 3=>[0,3,4,9]
 | 5=>[0,3,4,18]
 | 6=>[0,3,4]
 | 4=>[0,3,4]
 | 7=>[2]
 | _=>[]
theorem aGx:cE ait azn [(.tmp 2)] 27 :=
 ⟨Tryz.f314,_,aI5,func314,rfl,by kernel_rfl,by kernel_rfl,by kernel_rfl,rfl⟩
def aAk:=[ok 2 vN]
def aAl:=[oo 3 (.bslice 1 (vI 0) 0 []),om 4 0,oo 5 (.app 1 8 (.t 3) (.t 4)),om 2 5]
def aE5:C:=(sr aAk [0] (sr aAl [2] .ret))
theorem aKH:cE ayu aE5 [(.tmp 2)] 6:=dE func315 rfl
def aww:=[ok 2 vN]
def awx:=[om 5 0,cg 6 ayu 5,om 3 6]
def awy:=[om 7 3,oo 8 (.len false (.t 7)),cn 9 .sub 8 2,om 4 9]
def awz:=[om 10 4,cn 11 .geq 10 0]
def awA:=[om 14 3,om 15 4,ft 16 1 14 15,bl 17 1 16,cn 18 .eql 17 0]
def awB:=[om 19 3,om 20 4,om 21 3,om 22 4,fL 23 22 1,ft 24 1 21 23,bl 25 1 24,ft 26 1 19 20,bg 1 26 25]
def awC:=[om 12 4,cn 13 .sub 12 1,om 4 13]
def at2:C:=(ss (sr awz [3,4,11] (sc 11 .skip (.exit 0))) (ss (.block 1 (sr awA [3,4,18] (sc 18 (.reg awB [3,4]) .skip))) (.reg awC [3,4])))
def awD:=[om 27 3,om 2 27]
def aCk:C:=(sr aww [0] (sr awx [3] (ss (sr awy [3,4] (.block 0 (.loop at2))) (sr awD [2] .ret))))
def aKZ:Nat->List Nat
 | 0=>[0]
 | 1=>[3]
 | 2=>[3,4]
 | 3=>[3,4,11]
 | 5=>[3,4,18]
 | 6=>[3,4]
 | 4=>[3,4]
 | 7=>[2]
 | _=>[]
theorem aIE:cE aso aCk [(.tmp 2)] 28 :=
 ⟨Tryz.f269,_,aKZ,func269,rfl,by kernel_rfl,by kernel_rfl,by kernel_rfl,rfl⟩
def alL:=[eF 1 16 0,ok 2 vN,ok 3 (vB false)]
def alM:=[aL 10 0 1,aL 11 0 10,bu 12 4 11,cg 13 rG 12,om 4 13]
def alN:=[oo 14 (.bslice 1 (vI 0) 0 []),om 5 14]
def alO:=[ok 6 (vI 0)]
def alP:=[om 15 6,aL 16 15 1,bl 17 1 16,oo 18 (.len false (.t 17)),cI 19 .lss 15 18]
def alQ:=[aL 22 15 1,bl 23 1 22,om 24 6,ft 25 2 23 24,bu 26 2 25,dD 7 2 (.agg [vI 0,vI 0]),bg 2 7 26]
def alR:=[ok 8 (vI 0)]
def alS:=[aL 27 0 7,bl 28 1 27]
def alT:=[cn 30 .eql 28 1,om 29 30]
def alU:=[aL 31 1 7,bl 32 1 31,om 8 32]
def B3:=[cn 34 .eql 28 2,om 33 34]
def agh:=[aL 35 0 1,aL 36 0 35,aL 37 0 36,bl 38 1 37,cn 39 .neq 38 0]
def agi:=[om 40 5,om 2 40,ok 3 (vB false)]
def agj:=[aL 41 0 1,aL 42 0 41,aL 43 2 42,bl 44 1 43,om 8 44]
def HI:=[cn 46 .eql 28 3,om 45 46]
def agk:=[om 47 4,cg 48 ait 47,om 9 48]
def agl:=[aL 49 1 7,bl 50 1 49,om 51 9,oo 52 (.len false (.t 51)),cI 53 .gtr 50 52]
def agm:=[om 54 5,om 2 54,ok 3 (vB false)]
def agn:=[om 55 9,aL 56 1 7,bl 57 1 56,cn 58 .sub 57 1,ft 59 1 55 58,bl 60 1 59,om 8 60]
def PW:=[cn 62 .eql 28 4,om 61 62]
def ago:=[om 63 4,om 64 4,oo 65 (.len false (.t 64)),cn 66 .sub 65 1,ft 67 1 63 66,bl 68 1 67,om 8 68]
def vo:=[om 69 8,cn 70 .gtr 69 0]
def B4:=[om 71 4,om 72 8,oo 73 (.bslice 1 (vI 0) 1 [(0,(.t 72))]),oo 74 (.app 1 8 (.t 71) (.t 73)),om 4 74]
def vp:=[om 75 5,om 76 8,oo 77 (.bslice 1 (vI 0) 1 [(0,(.t 76))]),oo 78 (.app 1 8 (.t 75) (.t 77)),om 5 78]
def rQ:=[om 20 6,fL 21 20 1,om 6 21]
def aeM:C:=(ss (sr alP [1,4,5,6,19] (sc 19 .skip (.exit 0))) (ss (.block 1 (sr alQ [1,4,5,6,7] (sr alR [1,4,5,6,7,8] (ss (sr alS [1,4,5,6,7,8,28] (.block 2 (sr alT [1,4,5,6,7,8,28,29] (sc 29 (.reg alU [1,4,5,6,8]) (sr B3 [1,4,5,6,7,8,28,33] (sc 33 (ss (sr agh [1,4,5,6,39] (sc 39 (sr agi [2,3] .ret) .skip)) (.reg agj [1,4,5,6,8])) (sr HI [1,4,5,6,7,8,28,45] (sc 45 (sr agk [1,4,5,6,7,9] (ss (sr agl [1,4,5,6,7,9,53] (sc 53 (sr agm [2,3] .ret) .skip)) (.reg agn [1,4,5,6,8]))) (sr PW [1,4,5,6,8,61] (sc 61 (.reg ago [1,4,5,6,8]) .skip)))))))))) (ss (ss (.wk (.reg vo [1,4,5,6,8,70])) (sc 70 (.reg B4 [1,4,5,6,8]) .skip)) (.reg vp [1,4,5,6])))))) (.reg rQ [1,4,5,6])))
def agp:=[om 79 5,om 2 79,ok 3 (vB true)]
def ato:C:=(sr alL [1] (sr alM [1,4] (sr alN [1,4,5] (ss (sr alO [1,4,5,6] (.block 0 (.loop aeM))) (sr agp [2,3] .ret)))))
def aGY:Nat->List Nat
 | 0=>[1]
 | 1=>[1,4]
 | 2=>[1,4,5]
 | 3=>[1,4,5,6]
 | 4=>[1,4,5,6,19]
 | 6=>[1,4,5,6,7]
 | 7=>[1,4,5,6,7,8]
 | 8=>[1,4,5,6,7,8,28]
 | 9=>[1,4,5,6,7,8,28,29]
 | 10=>[1,4,5,6,8]
 | 11=>[1,4,5,6,7,8,28,33]
 | 12=>[1,4,5,6,39]
 | 13=>[2,3]
 | 14=>[1,4,5,6,8]
 | 15=>[1,4,5,6,7,8,28,45]
 | 16=>[1,4,5,6,7,9]
 | 17=>[1,4,5,6,7,9,53]
 | 18=>[2,3]
 | 19=>[1,4,5,6,8]
 | 20=>[1,4,5,6,8,61]
 | 21=>[1,4,5,6,8]
 | 22=>[999999,1,4,5,6,8,70]
 | 23=>[1,4,5,6,8]
 | 24=>[1,4,5,6]
 | 5=>[1,4,5,6]
 | 25=>[2,3]
 | _=>[]
theorem aEF:cE adv ato [(.tmp 2),(.tmp 3)] 80 :=
 ⟨Tryz.f267,_,aGY,func267,rfl,by kernel_rfl,by kernel_rfl,by kernel_rfl,rfl⟩
def awf:=[eF 2 15 0,dD 4 15 lm]
def awg:=[ok 5 (vI 0)]
def awh:=[aL 6 4 2,bl 7 1 6,cn 8 .gtr 7 0]
def awi:=[om 9 1,om 10 5,ft 11 1 9 10,bl 12 1 11,aL 13 6 2,bg 1 13 12]
def awj:=[om 14 5,fL 15 14 1,om 5 15]
def awk:=[aL 16 7 2,bu 17 4 16,cg 18 iA 17,oo 19 (.un .not (.t 18))]
def awl:=[om 20 1,om 21 5,ft 22 1 20 21,bl 23 1 22,aL 24 7 2,aL 25 3 24,bg 1 25 23]
def awm:=[om 26 5,fL 27 26 1,om 5 27]
def awn:=[aL 28 11 2,bu 29 4 28,cg 30 iA 29,oo 31 (.un .not (.t 30))]
def awo:=[om 32 1,om 33 5,ft 34 1 32 33,bl 35 1 34,aL 36 11 2,aL 37 3 36,bg 1 37 35]
def ZU:=[bu 38 15 2,bg 15 4 38]
def aCi:C:=(sr awf [1,2,4] (sr awg [1,2,4,5] (ss (sr awh [1,2,4,5,8] (sc 8 (sr awi [1,2,4,5] (.reg awj [1,2,4,5])) .skip)) (ss (ss (.wk (.reg awk [1,2,4,5,19])) (sc 19 (sr awl [1,2,4,5] (.reg awm [1,2,4,5])) .skip)) (ss (ss (.wk (.reg awn [1,2,4,5,31])) (sc 31 (.reg awo [2,4]) .skip)) (sr ZU [4] .ret))))))
theorem aIC:cE adu aCi [(.cell 4 true 15)] 39:=dE func268 rfl
def awd:=[eF 1 15 0,dD 2 15 lm]
def awe:=[bu 3 15 1,oo 4 (.bslice 1 (vI 0) 3 [(0,(xI 1)),(1,(xI 1)),(2,(xI 1))]),dK 5 adu 3 4,bg 15 2 5]
def aCh:C:=(sr awd [1,2] (sr awe [2] .ret))
theorem aIB:cE TY aCh [(.cell 2 true 15)] 6:=dE func210 rfl
def aqJ:=[eF 1 15 0,ok 2 (vI 0)]
def aqK:=[bu 3 15 1,cg 4 adr 3,cn 5 .sub 4 1,om 2 5]
def azs:C:=(sr aqJ [1] (sr aqK [2] .ret))
theorem aGC:cE Wu azs [(.tmp 2)] 6:=dE func209 rfl
def uF:=[ok 4 (vI 0)]
def uG:=[om 6 0,oo 7 (.len false (.t 6)),ok 8 (vI 0)]
def uH:=[cI 9 .lss 8 7]
def uI:=[om 10 8,om 5 10]
def uJ:=[om 11 1,om 12 0,om 13 5,ft 14 2 12 13,bu 15 2 14,oo 16 (.callv (.t 11) [.t 15])]
def uK:=[om 17 5,om 4 17]
def uL:=[fL 18 8 1,om 8 18]
def ut:C:=(sr uH [0,1,7,8,9] (ss (sc 9 .skip (.exit 0)) (ss (.block 1 (sr uI [0,1,5,7,8] (sr uJ [0,1,5,7,8,16] (sc 16 (sr uK [4] .ret) .skip)))) (.reg uL [0,1,7,8]))))
def uM:=[ok 4 (vI (-1))]
def vt:C:=(sr uF [0,1] (ss (sr uG [0,1,7,8] (.block 0 (.loop ut))) (sr uM [4] .ret)))
theorem Jc:cE oe vt [(.tmp 4)] 19:=dE func330 rfl
def rq:=[ok 4 (vB false)]
def rr:=[om 5 0,om 6 1,dK 7 oe 5 6,cn 8 .geq 7 0,om 4 8]
def sH:C:=(sr rq [0,1] (sr rr [4] .ret))
theorem FW:cE ml sH [(.tmp 4)] 9:=dE func289 rfl
def Mi:=[eF 1 2 0,ok 2 (vB false)]
def Mj:=[bu 3 2 1,cg 4 asg 3,oo 5 (.un .not (.t 4)),om 2 5]
def Qi:C:=(sr Mi [1] (sr Mj [2] .ret))
theorem ahW:cE xU Qi [(.tmp 2)] 6:=dE func290 rfl
def Mk:=[ok 2 (vB false)]
def Ml:=[om 3 0,aL 4 0 3,bl 5 1 4,cn 6 .neq 5 1,om 2 6]
def Qj:C:=(sr Mk [0] (sr Ml [2] .ret))
theorem ahX:cE rY Qj [(.tmp 2)] 7:=dE func293 rfl
def QC:=[eF 1 16 0,ok 2 (vB false)]
def QD:=[aL 4 0 1,bu 5 15 4,cg 6 rD 5,oo 7 (.un .not (.t 6)),om 8 7,oF 8 9 (.faddr 15 (.t 1)),oF 8 10 (.ld false 1 (.t 9)),oF 8 11 (.call ml [.t 10,(.k (.clo xU []))]),oo 12 (.pick (.t 8) (xB true) (.t 11))]
def Ga:=[ok 2 (vB false)]
def QE:=[aL 13 0 1,cg 14 lw 13,om 3 14]
def QF:=[om 15 3,oo 16 (.len false (.t 15)),aL 17 15 1,bl 18 1 17,oo 19 (.len false (.t 18)),cI 20 .neq 16 19,om 21 20,oF 21 22 (.mv (.t 3)),oF 21 23 (.len false (.t 22)),oF 21 24 (.bin .gtr .none (.t 23) (xI 0)),oF 21 25 (.mv (.t 24)),oT 25 26 (.faddr 15 (.t 1)),oT 25 27 (.ld false 1 (.t 26)),oT 25 28 (.mv (.t 3)),oT 25 29 (.len false (.t 28)),oT 25 30 (.bin .sub .none (.t 29) (xI 1)),oT 25 31 (.iaddr 2 (.t 27) (.t 30)),oT 25 32 (.faddr 0 (.t 31)),oT 25 33 (.ld false 1 (.t 32)),oT 25 34 (.bin .eql .none (.t 33) (xI 5)),oF 21 35 (.pick (.t 25) (.t 34) (xB false)),oo 36 (.pick (.t 21) (xB true) (.t 35))]
def Gb:=[ok 2 (vB false)]
def Gc:=[om 37 3,oo 38 (.call qt [.t 37,(.k (.clo rY []))]),oo 39 (.un .not (.t 38)),om 2 39]
def VM:C:=(sr QC [1] (ss (sr QD [1,12] (sc 12 (sr Ga [2] .ret) .skip)) (ss (.wk (.reg QE [1,3])) (ss (sr QF [3,36] (sc 36 (sr Gb [2] .ret) .skip)) (sr Gc [2] .ret)))))
theorem arL:cE DA VM [(.tmp 2)] 40:=dE func226 rfl
def xE:=[ok 2 vN]
def xF:=[oo 4 (.bslice 1 (.v (.pointer none)) 0 []),om 3 4]
def xG:=[om 5 0,aL 6 0 5,aL 7 4 6,bl 8 1 7,cn 9 .neq 8 0]
def xH:=[om 10 3,om 11 0,aL 12 0 11,aL 13 6 12,oo 14 (.bslice 1 (.v (.pointer none)) 1 [(0,(.t 13))]),oo 15 (.app 1 8 (.t 10) (.t 14)),om 3 15]
def mn:=[om 16 0,aL 17 0 16,aL 18 7 17,bu 19 4 18,oo 20 (.build xR []),oo 21 (.bin .neq (.struct [EK.int,EK.int,EK.int,EK.int]) (.t 19) (.t 20))]
def xJ:=[om 22 3,om 23 0,aL 24 0 23,aL 25 7 24,aL 26 3 25,oo 27 (.bslice 1 (.v (.pointer none)) 1 [(0,(.t 26))]),oo 28 (.app 1 8 (.t 22) (.t 27)),om 3 28]
def mo:=[om 29 0,aL 30 0 29,aL 31 11 30,bu 32 4 31,oo 33 (.build xR []),oo 34 (.bin .neq (.struct [EK.int,EK.int,EK.int,EK.int]) (.t 32) (.t 33))]
def xK:=[om 35 3,om 36 0,aL 37 0 36,aL 38 11 37,aL 39 3 38,oo 40 (.bslice 1 (.v (.pointer none)) 1 [(0,(.t 39))]),oo 41 (.app 1 8 (.t 35) (.t 40)),om 3 41]
def mp:=[om 42 3,om 2 42]
def Aa:C:=(sr xE [0] (sr xF [0,3] (ss (ss (.wk (.reg xG [0,3,9])) (sc 9 (.reg xH [0,3]) .skip)) (ss (ss (.wk (.reg mn [0,3,21])) (sc 21 (.reg xJ [0,3]) .skip)) (ss (ss (.wk (.reg mo [0,3,34])) (sc 34 (.reg xK [3]) .skip)) (sr mp [2] .ret))))))
theorem Is:cE lw Aa [(.tmp 2)] 43:=dE func235 rfl
def auP:=[eF 1 2 0,ok 2 (vB false)]
def auQ:=[aL 3 0 1,bl 4 1 3]
def AJ:=[cn 6 .eql 4 1,om 5 6]
def auR:=[aL 7 1 1,bl 8 1 7,cg 9 uu 8,om 2 9]
def Fy:=[cn 11 .eql 4 3,om 10 11]
def auS:=[aL 12 1 1,bl 13 1 12,oo 14 (.call mQ [.t 13,xI 1,xI 3]),om 2 14]
def K9:=[cn 16 .eql 4 2,om 15 16]
def SI:=[cn 17 .eql 4 4,om 15 17]
def adN:=[cn 18 .eql 4 5,om 15 18]
def SJ:=[aL 19 1 1,bl 20 1 19,cn 21 .eql 20 0,om 2 21]
def aoS:=[ok 2 (vB false)]
def aBZ:C:=(sr auP [1] (ss (sr auQ [1,4] (.block 0 (sr AJ [1,4,5] (sc 5 (sr auR [2] .ret) (sr Fy [1,4,10] (sc 10 (sr auS [2] .ret) (ss (sr K9 [1,4,15] (sc 15 .skip (sr SI [1,4,15] (sc 15 .skip (.reg adN [1,15]))))) (sc 15 (sr SJ [2] .ret) .skip)))))))) (sr aoS [2] .ret)))
theorem aIg:cE asg aBZ [(.tmp 2)] 22:=dE func291 rfl
def awE:=[eF 1 2 0,ok 2 (vB false)]
def awF:=[aL 3 0 1,bl 4 1 3]
def SY:=[cn 6 .eql 4 1,om 5 6]
def awG:=[aL 7 1 1,bl 8 1 7,cg 9 HZ 8,om 2 9]
def ad0:=[cn 11 .eql 4 3,om 10 11]
def awH:=[aL 12 1 1,bl 13 1 12,oo 14 (.call rZ [.t 13,xI 1,xI 3]),om 2 14]
def awI:=[aL 15 0 1,bl 16 1 15,oo 17 (.call rZ [.t 16,xI 2,xI 5]),om 18 17,oT 18 19 (.faddr 1 (.t 1)),oT 18 20 (.ld false 1 (.t 19)),oT 18 21 (.bin .eql .none (.t 20) (xI 0)),oo 22 (.pick (.t 18) (.t 21) (xB false)),om 2 22]
def aCl:C:=(sr awE [1] (ss (sr awF [1,4] (.block 0 (sr SY [1,4,5] (sc 5 (sr awG [2] .ret) (sr ad0 [1,10] (sc 10 (sr awH [2] .ret) .skip)))))) (sr awI [2] .ret)))
theorem aIF:cE asq aCl [(.tmp 2)] 23:=dE func271 rfl
def afr:=[eF 1 2 0,ok 2 (vS [])]
def afs:=[aL 3 0 1,bl 4 1 3]
def vk:=[cn 6 .eql 4 1,om 5 6]
def aft:=[aL 7 1 1,bl 8 1 7,cg 9 vP 8,oo 10 (.bin .add .none (.k (vS [32])) (.t 9)),om 2 10]
def Bt:=[cn 12 .eql 4 2,om 11 12]
def afu:=[ok 2 (vS [32,111,102,32,116,104,101,32,102,105,101,108,100])]
def HE:=[cn 14 .eql 4 3,om 13 14]
def afv:=[oo 15 (.bslice 1 (vS []) 3 [(0,(.k (vS [102,105,114,115,116]))),(1,(.k (vS [115,101,99,111,110,100]))),(2,(.k (vS [116,104,105,114,100])))]),aL 16 1 1,bl 17 1 16,cn 18 .sub 17 1,ft 19 1 15 18,bl 20 1 19,oo 21 (.bin .add .none (.k (vS [32,111,102,32,116,104,101,32])) (.t 20)),om 2 21]
def PR:=[cn 23 .eql 4 4,om 22 23]
def afw:=[ok 2 (vS [32,111,102,32,116,104,101,32,108,97,115,116])]
def abt:=[ok 2 (vS [])]
def anG:C:=(sr afr [1] (ss (sr afs [1,4] (.block 0 (sr vk [1,4,5] (sc 5 (sr aft [2] .ret) (sr Bt [1,4,11] (sc 11 (sr afu [2] .ret) (sr HE [1,4,13] (sc 13 (sr afv [2] .ret) (sr PR [22] (sc 22 (sr afw [2] .ret) .skip)))))))))) (sr abt [2] .ret)))
theorem aCF:cE Nt anG [(.tmp 2)] 24:=dE func170 rfl
def awT:=[eF 1 2 0,ok 2 (vS [])]
def awU:=[aL 3 0 1,bl 4 1 3]
def FB:=[cn 6 .eql 4 1,om 5 6]
def awV:=[aL 7 1 1,bl 8 1 7,cg 9 Aj 8,oo 10 (.bin .add .none (.k (vS [32])) (.t 9)),om 2 10]
def Ll:=[cn 12 .eql 4 2,om 11 12]
def awW:=[ok 2 (vS [32,111,102,32,116,104,101,32,102,105,101,108,100])]
def SZ:=[cn 14 .eql 4 3,om 13 14]
def awX:=[oo 15 (.bslice 1 (vS []) 3 [(0,(.k (vS [32,111,102,32,116,104,101,32,102,105,114,115,116]))),(1,(.k (vS [32,111,102,32,116,104,101,32,115,101,99,111,110,100]))),(2,(.k (vS [32,111,102,32,116,104,101,32,116,104,105,114,100])))]),aL 16 1 1,bl 17 1 16,cn 18 .sub 17 1,ft 19 1 15 18,bl 20 1 19,om 2 20]
def ad1:=[cn 22 .eql 4 4,om 21 22]
def awY:=[ok 2 (vS [32,111,102,32,116,104,101,32,108,97,115,116])]
def ars:=[ok 2 (vS [])]
def aCn:C:=(sr awT [1] (ss (sr awU [1,4] (.block 0 (sr FB [1,4,5] (sc 5 (sr awV [2] .ret) (sr Ll [1,4,11] (sc 11 (sr awW [2] .ret) (sr SZ [1,4,13] (sc 13 (sr awX [2] .ret) (sr ad1 [21] (sc 21 (sr awY [2] .ret) .skip)))))))))) (sr ars [2] .ret)))
theorem aIH:cE MW aCn [(.tmp 2)] 23:=dE func183 rfl
def aiX:=[ok 0 vN]
def aiY:=[oo 3 (.build (.agg [vI 0,vI 0]) [(0,(1,(xI 2))),(1,(1,(xI 0)))]),oo 4 (.build (.agg [vI 0,vI 0]) [(0,(1,(xI 3))),(1,(1,(xI 1)))]),oo 5 (.build (.agg [vI 0,vI 0]) [(0,(1,(xI 3))),(1,(1,(xI 2)))]),oo 6 (.build (.agg [vI 0,vI 0]) [(0,(1,(xI 3))),(1,(1,(xI 3)))]),oo 7 (.build (.agg [vI 0,vI 0]) [(0,(1,(xI 4))),(1,(1,(xI 0)))]),oo 8 (.bslice 2 (.agg [vI 0,vI 0]) 5 [(0,(.t 3)),(1,(.t 4)),(2,(.t 5)),(3,(.t 6)),(4,(.t 7))]),om 1 8]
def aiZ:=[ok 2 (vI 1)]
def ai0:=[om 9 2,cn 10 .leq 9 9]
def ai1:=[om 13 1,om 14 2,oo 15 (.build (.agg [vI 0,vI 0]) [(0,(1,(xI 1))),(1,(1,(.t 14)))]),oo 16 (.bslice 2 (.agg [vI 0,vI 0]) 1 [(0,(.t 15))]),oo 17 (.app 2 16 (.t 13) (.t 16)),om 1 17]
def ai2:=[om 11 2,fL 12 11 1,om 2 12]
def ah9:C:=(ss (sr ai0 [1,2,10] (sc 10 .skip (.exit 0))) (ss (.block 1 (.reg ai1 [1,2])) (.reg ai2 [1,2])))
def ai3:=[om 18 1,om 0 18]
def as3:C:=(sr aiX [] (sr aiY [1] (ss (sr aiZ [1,2] (.block 0 (.loop ah9))) (sr ai3 [0] .ret))))
def aGQ:Nat->List Nat
 | 0=>[]
 | 1=>[1]
 | 2=>[1,2]
 | 3=>[1,2,10]
 | 5=>[1,2]
 | 4=>[1,2]
 | 6=>[0]
 | _=>[]
theorem aEj:cE Sx as3 [(.tmp 0)] 19 :=
 ⟨Tryz.f167,_,aGQ,func167,rfl,by kernel_rfl,by kernel_rfl,by kernel_rfl,rfl⟩
def aq6:=[ok 0 vN]
def aq7:=[oo 4 (.bslice 2 (.agg [vI 0,vI 0]) 0 []),om 1 4]
def aq8:=[ok 2 (vI 1)]
def aq9:=[om 5 2,cn 6 .leq 5 9]
def ara:=[om 9 1,om 10 2,oo 11 (.build (.agg [vI 0,vI 0]) [(0,(1,(xI 1))),(1,(1,(.t 10)))]),oo 12 (.bslice 2 (.agg [vI 0,vI 0]) 1 [(0,(.t 11))]),oo 13 (.app 2 16 (.t 9) (.t 12)),om 1 13]
def arb:=[om 7 2,fL 8 7 1,om 2 8]
def an6:C:=(ss (sr aq9 [1,2,6] (sc 6 .skip (.exit 0))) (ss (.block 1 (.reg ara [1,2])) (.reg arb [1,2])))
def arc:=[om 14 1,oo 15 (.build (.agg [vI 0,vI 0]) [(0,(1,(xI 2)))]),oo 16 (.bslice 2 (.agg [vI 0,vI 0]) 1 [(0,(.t 15))]),oo 17 (.app 2 16 (.t 14) (.t 16)),om 1 17]
def ard:=[ok 3 (vI 1)]
def arf:=[om 18 3,cn 19 .leq 18 3]
def alH:=[om 22 1,om 23 3,oo 24 (.build (.agg [vI 0,vI 0]) [(0,(1,(xI 3))),(1,(1,(.t 23)))]),oo 25 (.bslice 2 (.agg [vI 0,vI 0]) 1 [(0,(.t 24))]),oo 26 (.app 2 16 (.t 22) (.t 25)),om 1 26]
def alI:=[om 20 3,fL 21 20 1,om 3 21]
def aik:C:=(ss (sr arf [1,3,19] (sc 19 .skip (.exit 2))) (ss (.block 3 (.reg alH [1,3])) (.reg alI [1,3])))
def alJ:=[om 27 1,oo 28 (.build (.agg [vI 0,vI 0]) [(0,(1,(xI 4)))]),oo 29 (.bslice 2 (.agg [vI 0,vI 0]) 1 [(0,(.t 28))]),oo 30 (.app 2 16 (.t 27) (.t 29)),om 0 30]
def azw:C:=(sr aq6 [] (sr aq7 [1] (ss (sr aq8 [1,2] (.block 0 (.loop an6))) (sr arc [1] (ss (sr ard [1,3] (.block 2 (.loop aik))) (sr alJ [0] .ret))))))
def aI9:Nat->List Nat
 | 0=>[]
 | 1=>[1]
 | 2=>[1,2]
 | 3=>[1,2,6]
 | 5=>[1,2]
 | 4=>[1,2]
 | 6=>[1]
 | 7=>[1,3]
 | 8=>[1,3,19]
 | 10=>[1,3]
 | 9=>[1,3]
 | 11=>[0]
 | _=>[]
theorem aGG:cE Wv azw [(.tmp 0)] 31 :=
 ⟨Tryz.f213,_,aI9,func213,rfl,by kernel_rfl,by kernel_rfl,by kernel_rfl,rfl⟩
def zd:=[ok 4 (vI 0)]
def ze:=[om 6 0,oo 7 (.len false (.t 6)),ok 8 (vI 0)]
def zf:=[cI 9 .lss 8 7]
def zg:=[om 10 8,om 5 10]
def zh:=[om 11 1,om 12 0,om 13 5,ft 14 1 12 13,bl 15 1 14,cI 16 .eql 11 15]
def zi:=[om 17 5,om 4 17]
def zj:=[fL 18 8 1,om 8 18]
def yr:C:=(sr zf [0,1,7,8,9] (ss (sc 9 .skip (.exit 0)) (ss (.block 1 (sr zg [0,1,5,7,8] (sr zh [0,1,5,7,8,16] (sc 16 (sr zi [4] .ret) .skip)))) (.reg zj [0,1,7,8]))))
def zk:=[ok 4 (vI (-1))]
def AW:C:=(sr zd [0,1] (ss (sr ze [0,1,7,8] (.block 0 (.loop yr))) (sr zk [4] .ret)))
theorem NS:cE fU AW [(.tmp 4)] 19:=dE func321 rfl
def aAt:=[ok 4 (vS []),ok 5 (vS []),ok 6 (vB false)]
def aAu:=[ok 7 (vI 0)]
def aAv:=[om 8 7,om 9 1,oo 10 (.len true (.t 9)),cI 11 .add 8 10,om 12 0,oo 13 (.len true (.t 12)),cI 14 .leq 11 13]
def aAw:=[om 17 0,om 18 7,om 19 7,om 20 1,oo 21 (.len true (.t 20)),cI 22 .add 19 21,oo 23 (.slc none (.t 17) (some (.t 18)) (some (.t 22))),om 24 1,cI 25 .eql 23 24]
def aAx:=[om 26 0,om 27 7,oo 28 (.slc none (.t 26) none (some (.t 27))),om 29 0,om 30 7,om 31 1,oo 32 (.len true (.t 31)),cI 33 .add 30 32,oo 34 (.slc none (.t 29) (some (.t 33)) none),om 4 28,om 5 34,ok 6 (vB true)]
def azX:List (List Nat):=[[],[],[0,1],[],[],[],[5],[4,5,6],[3,4,5,6,7],[0,1,2],[0,1,2,3,4,5,6,7,8,9],[0,1,2,3,4,5,6,7,8,9,10]]
def aAy:=[om 15 7,fL 16 15 1,om 7 16]
def azR:C:=(ss (sr aAv [0,1,7,14] (sc 14 .skip (.exit 0))) (ss (.block 1 (sr aAw [0,1,7,25] (sc 25 (ss (.regD aAx azX [4,5,6]) .ret) .skip))) (.reg aAy [0,1,7])))
def ak9:=[om 35 0,om 4 35,ok 5 (vS []),ok 6 (vB false)]
def aE7:C:=(sr aAt [0,1] (ss (sr aAu [0,1,7] (.block 0 (.loop azR))) (sr ak9 [4,5,6] .ret)))
def aNk:Nat->List Nat
 | 0=>[0,1]
 | 1=>[0,1,7]
 | 2=>[0,1,7,14]
 | 4=>[0,1,7,25]
 | 5=>[4,5,6]
 | 3=>[0,1,7]
 | 6=>[4,5,6]
 | _=>[]
theorem aKJ:cE Fw aE7 [(.tmp 4),(.tmp 5),(.tmp 6)] 36 :=
 ⟨Tryz.f84,_,aNk,func84,rfl,by kernel_rfl,by kernel_rfl,by kernel_rfl,rfl⟩
def M9:=[eF 1 4 0,ok 2 (vS [])]
def Na:=[aL 3 0 1,bl 4 1 3,cn 5 .eql 4 0]
def aaG:=[aL 6 2 1,bl 7 1 6,cg 8 vP 7,om 2 8]
def aaH:=[oo 9 (.call DC []),aL 10 0 1,bl 11 1 10,cn 12 .sub 11 1,ft 13 1 9 12,bl 14 1 13,aL 15 1 1,bl 16 1 15,dK 17 SC 14 16,oo 18 (.bin .add .none (.t 17) (.k (vS [32]))),aL 19 2 1,bl 20 1 19,cg 21 vP 20,cI 22 .add 18 21,oo 23 (.bin .add .none (.t 22) (.k (vS [32,97,110,100,32]))),aL 24 3 1,bl 25 1 24,cg 26 vP 25,cI 27 .add 23 26,om 2 27]
def M2:List (List Nat):=[[],[],[1],[1,2],[0,1,2,3],[0,1,2,3,4],[],[6],[0,1,2,3,4,5,6,7],[0,1,2,3,4,5,6,7,8],[],[10],[0,1,2,3,4,5,6,7,8,10,11],[0,1,2,3,4,5,6,7,8,9,10,11,12],[0,1,2,3,4,5,6,7,8,9,10,11,12,13],[],[15],[0,1,2,3,4,5,6,7,8,10,11,12,15,16],[0,1,2,3,4,5,6,7,8,9,10,11,12,13,14,15,16,17],[0,1,2,3,4,5,6,7,8,9,10,11,12,13,14,15,16,17,18]]
def Th:C:=(sr M9 [1] (ss (sr Na [1,5] (sc 5 (sr aaG [2] .ret) .skip)) (ss (.regD aaH M2 [2]) .ret)))
theorem aAQ:cE JR Th [(.tmp 2)] 28:=dE func231 rfl
def aaK:=[eF 1 4 0,ok 2 (vS [])]
def aaL:=[aL 4 0 1,bl 5 1 4,aL 6 1 1,bl 7 1 6,dK 8 Nu 5 7,oo 9 (.bin .add .none (.t 8) (.k (vS [32]))),aL 10 1 1,bl 11 1 10,aL 12 0 1,bl 13 1 12,dK 14 SB 11 13,cI 15 .add 9 14,om 3 15]
def M3:List (List Nat):=[[],[0],[],[2],[0,1,2,3],[0,1,2,3,4],[],[6],[],[8],[0,1,2,3,4,6,7,8,9],[0,1,2,3,4,5,6,7,8,9,10],[0,1,2,3,4,5,6,7,8,9,10,11]]
def aaM:=[aL 16 2 1,bl 17 1 16,cn 18 .gtr 17 0]
def aaN:=[om 19 3,aL 20 1 1,bl 21 1 20,cg 22 GK 21,aL 23 2 1,bl 24 1 23,cn 25 .sub 24 1,ft 26 1 22 25,bl 27 1 26,oo 28 (.bin .add .none (.k (vS [32])) (.t 27)),cI 29 .add 19 28,om 3 29]
def M4:List (List Nat):=[[],[],[1],[1,2],[],[4],[4,5],[1,2,3,4,5,6],[1,2,3,4,5,6,7],[1,2,3,4,5,6,7,8],[0,1,2,3,4,5,6,7,8,9],[0,1,2,3,4,5,6,7,8,9,10]]
def Nb:=[om 30 3,oo 31 (.bin .add .none (.t 30) (.k (vS [32]))),aL 32 3 1,bl 33 1 32,cg 34 vP 33,cI 35 .add 31 34,om 2 35]
def ahx:C:=(sr aaK [1] (ss (.regD aaL M3 [1,3]) (ss (sr aaM [1,3,18] (sc 18 (.regD aaN M4 [1,3]) .skip)) (sr Nb [2] .ret))))
theorem aAR:cE Ey ahx [(.tmp 2)] 36:=dE func234 rfl
def av5:=[eF 1 15 0,ok 2 (vS [])]
def av6:=[aL 4 0 1,bu 5 4 4,cg 6 TX 5,om 3 6]
def av7:=[aL 7 4 1,bl 8 1 7,cn 9 .gtr 8 0]
def av8:=[om 10 3,oo 11 (.bin .add .none (.t 10) (.k (vS [44,32]))),aL 12 4 1,bl 13 1 12,aL 14 5 1,bl 15 1 14,dK 16 EA 13 15,cI 17 .add 11 16,oo 18 (.bin .add .none (.t 17) (.k (vS [32]))),aL 19 6 1,bl 20 1 19,cg 21 Aj 20,cI 22 .add 18 21,om 3 22]
def adB:List (List Nat):=[[],[0],[],[2],[],[4],[2,3,4,5],[0,1,2,3,4,5,6],[0,1,2,3,4,5,6,7],[],[9],[2,3,4,5,6,9,10],[0,1,2,3,4,5,6,7,8,9,10,11],[0,1,2,3,4,5,6,7,8,9,10,11,12]]
def av9:=[aL 23 7 1,bu 24 4 23,cg 25 iA 24,oo 26 (.un .not (.t 25))]
def awa:=[om 27 3,oo 28 (.bin .add .none (.t 27) (.k (vS [32,99,104,97,114,103,101,100,32,119,105,116,104,32]))),aL 29 7 1,bu 30 4 29,cg 31 adp 30,cI 32 .add 28 31,om 3 32]
def awb:=[aL 33 11 1,bu 34 4 33,cg 35 iA 34,oo 36 (.un .not (.t 35))]
def awc:=[om 37 3,aL 38 4 1,bl 39 1 38,cg 40 ads 39,cI 41 .add 37 40,aL 42 11 1,bu 43 4 42,cg 44 adp 43,cI 45 .add 41 44,om 3 45]
def adC:List (List Nat):=[[],[],[1],[1,2],[0,1,2,3],[],[5],[1,2,3,5,6],[0,1,2,3,4,5,6,7],[0,1,2,3,4,5,6,7,8]]
def adY:=[om 46 3,om 2 46]
def aCg:C:=(sr av5 [1] (sr av6 [1,3] (ss (sr av7 [1,3,9] (sc 9 (.regD av8 adB [1,3]) .skip)) (ss (ss (.wk (.reg av9 [1,3,26])) (sc 26 (.reg awa [1,3]) .skip)) (ss (ss (.wk (.reg awb [1,3,36])) (sc 36 (.regD awc adC [3]) .skip)) (ss (.wk (.reg adY [2])) .ret))))))
theorem aIA:cE EB aCg [(.tmp 2)] 47:=dE func122 rfl
def avC:=[ok 2 (vS [])]
def avD:=[oo 3 (.bslice 1 (vS []) 9 [(0,(.k (vS [103,111,108,100]))),(1,(.k (vS [115,105,108,118,101,114]))),(2,(.k (vS [114,101,100]))),(3,(.k (vS [98,108,117,101]))),(4,(.k (vS [98,108,97,99,107]))),(5,(.k (vS [103,114,101,101,110]))),(6,(.k (vS [112,117,114,112,108,101]))),(7,(.k (vS [101,114,109,105,110,101]))),(8,(.k (vS [118,97,105,114])))]),om 4 0,cn 5 .sub 4 1,ft 6 1 3 5,bl 7 1 6,om 2 7]
def aB7:C:=(sr avC [0] (sr avD [2] .ret))
theorem aIp:cE Aj aB7 [(.tmp 2)] 8:=dE func191 rfl
def abQ:=[ok 2 (vS [])]
def abR:=[oo 3 (.bslice 1 (vS []) 5 [(0,(.k (vS []))),(1,(.k (vS [101,110,103,114,97,105,108,101,100]))),(2,(.k (vS [119,97,118,121]))),(3,(.k (vS [101,109,98,97,116,116,108,101,100]))),(4,(.k (vS [105,110,100,101,110,116,101,100])))]),om 4 0,ft 5 1 3 4,bl 6 1 5,om 2 6]
def ahJ:C:=(sr abQ [0] (sr abR [2] .ret))
theorem aA2:cE J5 ahJ [(.tmp 2)] 7:=dE func244 rfl
def adS:=[eF 1 4 0,ok 2 (vS [])]
def adT:=[aL 4 0 1,bl 5 1 4,cn 6 .eql 5 0]
def avK:=[aL 7 2 1,bl 8 1 7,cg 9 Aj 8,om 2 9]
def avL:=[oo 10 (.bslice 1 (vS []) 8 [(0,(.k (vS []))),(1,(.k (vS [112,101,114,32,112,97,108,101]))),(2,(.k (vS [112,101,114,32,102,101,115,115]))),(3,(.k (vS [112,101,114,32,98,101,110,100]))),(4,(.k (vS [113,117,97,114,116,101,114,108,121]))),(5,(.k (vS [112,101,114,32,115,97,108,116,105,114,101]))),(6,(.k (vS [112,97,108,121]))),(7,(.k (vS [98,97,114,114,121])))]),aL 11 0 1,bl 12 1 11,ft 13 1 10 12,bl 14 1 13,om 3 14]
def avM:=[aL 15 1 1,bl 16 1 15,cn 17 .gtr 16 0]
def avN:=[om 18 3,oo 19 (.bin .add .none (.t 18) (.k (vS [32]))),aL 20 1 1,bl 21 1 20,cg 22 J5 21,cI 23 .add 19 22,om 3 23]
def adU:=[om 24 3,oo 25 (.bin .add .none (.t 24) (.k (vS [32]))),aL 26 2 1,bl 27 1 26,cg 28 Aj 27,cI 29 .add 25 28,oo 30 (.bin .add .none (.t 29) (.k (vS [32,97,110,100,32]))),aL 31 3 1,bl 32 1 31,cg 33 Aj 32,cI 34 .add 30 33,om 2 34]
def Kd:List (List Nat):=[[],[0],[],[2],[2,3],[0,1,2,3,4],[0,1,2,3,4,5],[],[7],[2,3,4,7,8],[0,1,2,3,4,5,6,7,8,9],[0,1,2,3,4,5,6,7,8,9,10]]
def arC:C:=(sr adS [1] (ss (sr adT [1,6] (sc 6 (sr avK [2] .ret) .skip)) (sr avL [1,3] (ss (sr avM [1,3,17] (sc 17 (.reg avN [1,3]) .skip)) (ss (.regD adU Kd [2]) .ret)))))
theorem aIs:cE TX arC [(.tmp 2)] 35:=dE func181 rfl
def abS:=[ok 4 (vS [])]
def abT:=[oo 6 (.bslice 1 (vS []) 8 [(0,(.k (vS []))),(1,(.k (vS [112,97,108,101]))),(2,(.k (vS [102,101,115,115]))),(3,(.k (vS [98,101,110,100]))),(4,(.k (vS [99,104,101,118,114,111,110]))),(5,(.k (vS [99,114,111,115,115]))),(6,(.k (vS [115,97,108,116,105,114,101]))),(7,(.k (vS [99,104,105,101,102])))]),om 7 0,ft 8 1 6 7,bl 9 1 8,oo 10 (.bin .add .none (.k (vS [97,32])) (.t 9)),om 5 10]
def abU:=[om 11 1,cn 12 .gtr 11 0]
def abV:=[om 13 5,oo 14 (.bin .add .none (.t 13) (.k (vS [32]))),om 15 1,cg 16 J5 15,cI 17 .add 14 16,om 5 17]
def Nf:=[om 18 5,om 4 18]
def ahK:C:=(sr abS [0,1] (sr abT [1,5] (ss (sr abU [1,5,12] (sc 12 (.reg abV [5]) .skip)) (sr Nf [4] .ret))))
theorem aA3:cE EA ahK [(.tmp 4)] 19:=dE func182 rfl
def SP:=[ok 2 (vS [])]
def SQ:=[om 3 0]
def SR:=[cn 5 .eql 3 0,om 4 5]
def SS:=[ok 2 (vS [44,32])]
def SU:=[cn 7 .eql 3 7,om 6 7]
def SV:=[ok 2 (vS [32,97,98,111,118,101,32])]
def SW:=[ok 2 (vS [32,98,101,116,119,101,101,110,32])]
def acP:C:=(sr SP [0] (ss (sr SQ [3] (.block 0 (sr SR [3,4] (sc 4 (sr SS [2] .ret) (sr SU [6] (sc 6 (sr SV [2] .ret) .skip)))))) (sr SW [2] .ret)))
theorem aIz:cE ads acP [(.tmp 2)] 8:=dE func186 rfl
def vZ:=[ok 2 vN]
def wa:=[om 3 0]
def wb:=[cn 5 .eql 3 1,om 4 5]
def wc:=[oo 6 (.bslice 1 (vS []) 2 [(0,(.k (vS [114,97,109,112,97,110,116]))),(1,(.k (vS [112,97,115,115,97,110,116])))]),om 2 6]
def wd:=[cn 8 .eql 3 2,om 7 8]
def we:=[oo 9 (.bslice 1 (vS []) 2 [(0,(.k (vS [100,105,115,112,108,97,121,101,100]))),(1,(.k (vS [114,105,115,105,110,103])))]),om 2 9]
def wg:=[cn 11 .eql 3 3,om 10 11]
def wh:=[oo 12 (.bslice 1 (vS []) 2 [(0,(.k (vS [115,119,105,109,109,105,110,103]))),(1,(.k (vS [117,112,114,105,103,104,116])))]),om 2 12]
def wi:=[oo 13 (.bslice 1 (vS []) 0 []),om 2 13]
def AV:C:=(sr vZ [0] (ss (sr wa [3] (.block 0 (sr wb [3,4] (sc 4 (sr wc [2] .ret) (sr wd [3,7] (sc 7 (sr we [2] .ret) (sr wg [10] (sc 10 (sr wh [2] .ret) .skip)))))))) (sr wi [2] .ret)))
theorem ax6:cE PE AV [(.tmp 2)] 14:=dE func246 rfl
def av0:=[ok 4 (vS [])]
def av1:=[oo 6 (.bslice 1 (vS []) 8 [(0,(.k (vS [108,105,111,110]))),(1,(.k (vS [101,97,103,108,101]))),(2,(.k (vS [102,105,115,104]))),(3,(.k (vS [114,111,115,101]))),(4,(.k (vS [115,116,97,114]))),(5,(.k (vS [116,111,119,101,114]))),(6,(.k (vS [107,101,121]))),(7,(.k (vS [115,119,111,114,100])))]),om 7 0,cn 8 .sub 7 1,ft 9 1 6 8,bl 10 1 9,om 5 10]
def SM:=[om 11 1,cn 12 .gtr 11 1,om 13 12,oT 13 14 (.mv (.t 0)),oT 13 15 (.bin .neq .none (.t 14) (xI 3)),oo 16 (.pick (.t 13) (.t 15) (xB false))]
def av2:=[om 17 5,oo 18 (.bin .add .none (.t 17) (.k (vS [115]))),om 5 18]
def SN:=[om 19 5,om 4 19]
def aCe:C:=(sr av0 [0,1] (sr av1 [0,1,5] (ss (sr SM [5,16] (sc 16 (.reg av2 [5]) .skip)) (sr SN [4] .ret))))
theorem aIx:cE asn aCe [(.tmp 4)] 20:=dE func245 rfl
def avO:=[eF 1 4 0,ok 2 (vS [])]
def avP:=[oo 4 (.bslice 1 (vS []) 6 [(0,(.k (vS [97]))),(1,(.k (vS [116,119,111]))),(2,(.k (vS [116,104,114,101,101]))),(3,(.k (vS [102,111,117,114]))),(4,(.k (vS [102,105,118,101]))),(5,(.k (vS [115,105,120])))]),aL 5 0 1,bl 6 1 5,cn 7 .sub 6 1,ft 8 1 4 7,bl 9 1 8,om 3 9]
def SL:=[aL 10 0 1,bl 11 1 10,cn 12 .eql 11 1,om 13 12,oT 13 14 (.faddr 1 (.t 1)),oT 13 15 (.ld false 1 (.t 14)),oT 13 16 (.bin .eql .none (.t 15) (xI 2)),oo 17 (.pick (.t 13) (.t 16) (xB false))]
def avQ:=[ok 3 (vS [97,110])]
def avR:=[om 18 3,oo 19 (.bin .add .none (.t 18) (.k (vS [32]))),aL 20 1 1,bl 21 1 20,aL 22 0 1,bl 23 1 22,dK 24 asn 21 23,cI 25 .add 19 24,om 3 25]
def avS:=[aL 26 2 1,bl 27 1 26,cn 28 .gtr 27 0]
def avT:=[om 29 3,oo 30 (.bin .add .none (.t 29) (.k (vS [32]))),aL 31 1 1,bl 32 1 31,cg 33 PE 32,aL 34 2 1,bl 35 1 34,cn 36 .sub 35 1,ft 37 1 33 36,bl 38 1 37,cI 39 .add 30 38,om 3 39]
def adz:List (List Nat):=[[],[0],[],[2],[2,3],[],[5],[5,6],[2,3,4,5,6,7],[2,3,4,5,6,7,8],[0,1,2,3,4,5,6,7,8,9],[0,1,2,3,4,5,6,7,8,9,10]]
def adV:=[om 40 3,om 2 40]
def aCa:C:=(sr avO [1] (sr avP [1,3] (ss (sr SL [1,3,17] (sc 17 (.reg avQ [1,3]) .skip)) (ss (.wk (.reg avR [1,3])) (ss (sr avS [1,3,28] (sc 28 (.regD avT adz [3]) .skip)) (sr adV [2] .ret))))))
theorem aIt:cE MU aCa [(.tmp 2)] 41:=dE func185 rfl
def avY:=[eF 1 4 0,ok 2 (vS [])]
def avZ:=[bu 3 4 1,cg 4 MU 3,oo 5 (.bin .add .none (.t 4) (.k (vS [32]))),aL 6 3 1,bl 7 1 6,cg 8 Aj 7,cI 9 .add 5 8,om 2 9]
def adA:List (List Nat):=[[],[0],[0,1],[],[3],[0,1,3,4],[0,1,2,3,4,5],[0,1,2,3,4,5,6]]
def aCd:C:=(sr avY [1] (ss (.regD avZ adA [2]) .ret))
theorem aIw:cE adp aCd [(.tmp 2)] 10:=dE func192 rfl
def Rs:=[ok 0 vN]
def Rt:=[oo 1 (.bslice 1 (vS []) 9 [(0,(.k (vS [103,111,108,100]))),(1,(.k (vS [115,105,108,118,101,114]))),(2,(.k (vS [114,101,100]))),(3,(.k (vS [98,108,117,101]))),(4,(.k (vS [98,108,97,99,107]))),(5,(.k (vS [103,114,101,101,110]))),(6,(.k (vS [112,117,114,112,108,101]))),(7,(.k (vS [101,114,109,105,110,101]))),(8,(.k (vS [118,97,105,114])))]),om 0 1]
def VW:C:=(sr Rs [] (sr Rt [0] .ret))
theorem arX:cE vQ VW [(.tmp 0)] 2:=dE func300 rfl
def afD:=[ok 0 vN]
def afE:=[oo 1 (.bslice 1 (vS []) 4 [(0,(.k (vS [101,110,103,114,97,105,108,101,100]))),(1,(.k (vS [119,97,118,121]))),(2,(.k (vS [101,109,98,97,116,116,108,101,100]))),(3,(.k (vS [105,110,100,101,110,116,101,100])))]),om 0 1]
def anI:C:=(sr afD [] (sr afE [0] .ret))
theorem aCJ:cE GL anI [(.tmp 0)] 2:=dE func327 rfl
def Rg:=[ok 0 vN]
def Rh:=[oo 1 (.bslice 1 (vS []) 7 [(0,(.k (vS [112,101,114,32,112,97,108,101]))),(1,(.k (vS [112,101,114,32,102,101,115,115]))),(2,(.k (vS [112,101,114,32,98,101,110,100]))),(3,(.k (vS [113,117,97,114,116,101,114,108,121]))),(4,(.k (vS [112,101,114,32,115,97,108,116,105,114,101]))),(5,(.k (vS [112,97,108,121]))),(6,(.k (vS [98,97,114,114,121])))]),om 0 1]
def VT:C:=(sr Rg [] (sr Rh [0] .ret))
theorem arT:cE DC VT [(.tmp 0)] 2:=dE func299 rfl
def Rk:=[ok 0 vN]
def Rl:=[oo 1 (.bslice 1 (vS []) 7 [(0,(.k (vS [112,97,108,101]))),(1,(.k (vS [102,101,115,115]))),(2,(.k (vS [98,101,110,100]))),(3,(.k (vS [99,104,101,118,114,111,110]))),(4,(.k (vS [99,114,111,115,115]))),(5,(.k (vS [115,97,108,116,105,114,101]))),(6,(.k (vS [99,104,105,101,102])))]),om 0 1]
def VV:C:=(sr Rk [] (sr Rl [0] .ret))
theorem arV:cE vM VV [(.tmp 0)] 2:=dE func283 rfl
def afB:=[ok 0 vN]
def afC:=[oo 1 (.bslice 1 (vS []) 8 [(0,(.k (vS [108,105,111,110]))),(1,(.k (vS [101,97,103,108,101]))),(2,(.k (vS [102,105,115,104]))),(3,(.k (vS [114,111,115,101]))),(4,(.k (vS [115,116,97,114]))),(5,(.k (vS [116,111,119,101,114]))),(6,(.k (vS [107,101,121]))),(7,(.k (vS [115,119,111,114,100])))]),om 0 1]
def anH:C:=(sr afB [] (sr afC [0] .ret))
theorem aCI:cE Zl anH [(.tmp 0)] 2:=dE func335 rfl
def ajv:=[ok 2 (vS [])]
def ajw:=[oo 3 (.call vQ []),om 4 0,cn 5 .sub 4 1,ft 6 1 3 5,bl 7 1 6,om 2 7]
def ata:C:=(sr ajv [0] (sr ajw [2] .ret))
theorem aEq:cE vP ata [(.tmp 2)] 8:=dE func233 rfl
def UF:=[ok 4 (vS [])]
def UG:=[om 5 1,cn 6 .eql 5 0]
def ajx:=[om 7 0,om 4 7]
def ajy:=[om 8 0,oo 9 (.bin .add .none (.t 8) (.k (vS [32]))),oo 10 (.call GL []),om 11 1,cn 12 .sub 11 1,ft 13 1 10 12,bl 14 1 13,cI 15 .add 9 14,om 4 15]
def acO:C:=(sr UF [0,1] (ss (sr UG [0,1,6] (sc 6 (sr ajx [4] .ret) .skip)) (sr ajy [4] .ret)))
theorem aEr:cE SC acO [(.tmp 4)] 16:=dE func298 rfl
def Ri:=[ok 4 (vS [])]
def Rj:=[oo 5 (.call vM []),om 6 0,cn 7 .sub 6 1,ft 8 1 5 7,bl 9 1 8,oo 10 (.bin .add .none (.k (vS [97,32])) (.t 9)),om 11 1,dK 12 SC 10 11,om 4 12]
def VU:C:=(sr Ri [0,1] (sr Rj [4] .ret))
theorem arU:cE DD VU [(.tmp 4)] 13:=dE func232 rfl
def HG:=[ok 4 (vS [])]
def HH:=[om 5 0,cn 6 .eql 5 1,om 7 6,oT 7 8 (.mv (.t 1)),oT 7 9 (.bin .eql .none (.t 8) (xI 2)),oo 10 (.pick (.t 7) (.t 9) (xB false))]
def afA:=[ok 4 (vS [97,110])]
def PT:=[oo 11 (.bslice 1 (vS []) 6 [(0,(.k (vS [97]))),(1,(.k (vS [116,119,111]))),(2,(.k (vS [116,104,114,101,101]))),(3,(.k (vS [102,111,117,114]))),(4,(.k (vS [102,105,118,101]))),(5,(.k (vS [115,105,120])))]),om 12 0,cn 13 .sub 12 1,ft 14 1 11 13,bl 15 1 14,om 4 15]
def Ns:C:=(sr HG [0,1] (ss (sr HH [0,10] (sc 10 (sr afA [4] .ret) .skip)) (sr PT [4] .ret)))
theorem aCH:cE Nu Ns [(.tmp 4)] 16:=dE func301 rfl
def ajh:=[ok 4 (vS [])]
def aji:=[oo 6 (.call Zl []),om 7 0,cn 8 .sub 7 1,ft 9 1 6 8,bl 10 1 9,om 5 10]
def La:=[om 11 1,cn 12 .gtr 11 1,om 13 12,oT 13 14 (.mv (.t 0)),oT 13 15 (.bin .neq .none (.t 14) (xI 3)),oo 16 (.pick (.t 13) (.t 15) (xB false))]
def ajj:=[om 17 5,oo 18 (.bin .add .none (.t 17) (.k (vS [115]))),om 5 18]
def Lb:=[om 19 5,om 4 19]
def as8:C:=(sr ajh [0,1] (sr aji [0,1,5] (ss (sr La [5,16] (sc 16 (.reg ajj [5]) .skip)) (sr Lb [4] .ret))))
theorem aEo:cE SB as8 [(.tmp 4)] 20:=dE func302 rfl
def ua:List (List UInt8):=[[103,111,108,100],[115,105,108,118,101,114],[114,101,100],[98,108,117,101],[98,108,97,99,107],[103,114,101,101,110],[112,117,114,112,108,101],[101,114,109,105,110,101],[118,97,105,114]]
def sK:List (List UInt8):=[[101,110,103,114,97,105,108,101,100],[119,97,118,121],[101,109,98,97,116,116,108,101,100],[105,110,100,101,110,116,101,100]]
def Y4:List (List UInt8):=[[112,101,114,32,112,97,108,101],[112,101,114,32,102,101,115,115],[112,101,114,32,98,101,110,100],[113,117,97,114,116,101,114,108,121],[112,101,114,32,115,97,108,116,105,114,101],[112,97,108,121],[98,97,114,114,121]]
def FJ:List (List UInt8):=[[108,105,111,110],[101,97,103,108,101],[102,105,115,104],[114,111,115,101],[115,116,97,114],[116,111,119,101,114],[107,101,121],[115,119,111,114,100]]
def ahN:List (List UInt8):=[[97],[116,119,111],[116,104,114,101,101],[102,111,117,114],[102,105,118,101],[115,105,120]]
def EH:List (List UInt8):=[[112,97,108,101],[102,101,115,115],[98,101,110,100],[99,104,101,118,114,111,110],[99,114,111,115,115],[115,97,108,116,105,114,101],[99,104,105,101,102]]
def eL (x:Int):List UInt8:=ua.getD (x - 1).toNat []
def L0 (x:Int):List UInt8:=sK.getD (x - 1).toNat []
def axS (x:Int):List UInt8:=Y4.getD (x - 1).toNat []
def rl (k c:Int):List UInt8:=FJ.getD (k - 1).toNat []++(if 1 < c/\k≠3 then [115] else [])
def mO (c k:Int):List UInt8:=if c=1/\k=2 then [97,110] else ahN.getD (c - 1).toNat []
def PH (x:Int):List UInt8:=EH.getD (x - 1).toNat []
def C0 (t:List UInt8) (x:Int):List UInt8:=if x=0 then t else t++32::L0 x
def dS (f:Field):List UInt8:=if f.division=0 then eL f.first else C0 (axS f.division) f.line++32::(eL f.first++[32,97,110,100,32]++eL f.second)
def mP (g:Group):List UInt8:=mO g.count g.kind++32::(rl g.kind g.count++(if 0 < g.attitude then 32::(cY g.kind).getD (g.attitude - 1).toNat [] else [])++32::eL g.tincture)
def rI (o l:Int):List UInt8:=C0 ([97,32]++PH o) l
def aeI (o:Int):List UInt8:=if o=0 then [44,32] else if o=7 then [32,97,98,111,118,101,32] else [32,98,101,116,119,101,101,110,32]
def nL (a:Arms):List UInt8:=dS a.field++(if a.ordinary=0 then [] else [44,32]++rI a.ordinary a.line++32::eL a.tincture)++(if g0 a.on then [] else [32,99,104,97,114,103,101,100,32,119,105,116,104,32]++mP a.on)++(if g0 a.around then [] else aeI a.ordinary++mP a.around)
theorem um {l:List (List UInt8)} {m:Nat} (h:∀ x ∈ l,x.length<=m) (i:Nat):(l.getD i []).length<=m:=by
 rw[List.getD_eq_getElem?_getD];cases hi:l[i]? with
 | none=>simp
 | some x=>exact h x (List.mem_of_getElem? hi)
theorem mc (x:Int):(eL x).length<=12:=um (by decide) _
theorem am2 (x:Int):(L0 x).length<=12:=um (by decide) _
theorem aCv (x:Int):(axS x).length<=12:=um (by decide) _
theorem aDk (x:Int):(PH x).length<=12:=um (by decide) _
theorem aau (k c:Int):(rl k c).length<=13:=by
 have:=um (l:=FJ) (m:=12) (by decide) (k - 1).toNat;unfold rl;rw[List.length_append];split<;>simp only[List.length_singleton,List.length_nil]<;>omega
theorem acT (c k:Int):(mO c k).length<=12:=by
 unfold mO;split
 ·decide
 ·exact um (by decide) _
theorem asV (k:Int) (i:Nat):((cY k).getD i []).length<=12:=um (by
 unfold cY;split
 ·decide
 ·split
  ·decide
  ·split
   ·decide
   ·simp) _
theorem ay1 (t:List UInt8) (x:Int):(C0 t x).length<=t.length+13:=by
 have:=am2 x;unfold C0;split<;>simp<;>omega
theorem Ad (f:Field):(dS f).length<=60:=by
 have h1:=mc f.first
 have h2:=mc f.second;have h3:=aCv f.division;have h4:=ay1 (axS f.division) f.line;unfold dS;split
 ·omega
 ·simp;omega
theorem nZ (g:Group):(mP g).length<=60:=by
 have h1:=acT g.count g.kind;have h2:=aau g.kind g.count;have h3:=asV g.kind (g.attitude - 1).toNat;have h4:=mc g.tincture;unfold mP;split<;>simp only[List.length_append,List.length_cons,List.length_nil]<;>omega
theorem GO (o l:Int):(rI o l).length<=30:=by
 have h1:=aDk o;have h2:=ay1 ([97,32]++PH o) l;unfold rI;simp at h2 ⊢;omega
theorem aat (o:Int):(aeI o).length<=10:=by unfold aeI;split<;>(try split)<;>decide
theorem aPA {d:Int} (h:1<=d/\d<=9):([S [103,111,108,100],S [115,105,108,118,101,114],S [114,101,100],S [98,108,117,101],S [98,108,97,99,107],S [103,114,101,101,110],S [112,117,114,112,108,101],S [101,114,109,105,110,101],S [118,97,105,114]]:List V)[(d - 1).toNat]?=some (S (eL d)):=by
 obtain rfl | rfl | rfl | rfl | rfl | rfl | rfl | rfl | rfl:d=1\/d=2\/d=3\/d=4\/d=5\/d=6\/d=7\/d=8\/d=9:=by omega
 all_goals rfl
theorem aNo {d:Int} (h:1<=d/\d<=4):([S [],S [101,110,103,114,97,105,108,101,100],S [119,97,118,121],S [101,109,98,97,116,116,108,101,100],S [105,110,100,101,110,116,101,100]]:List V)[d.toNat]?=some (S (L0 d)):=by
 obtain rfl | rfl | rfl | rfl:d=1\/d=2\/d=3\/d=4:=by omega
 all_goals rfl
theorem aPx {d:Int} (h:1<=d/\d<=7):([S [],S [112,101,114,32,112,97,108,101],S [112,101,114,32,102,101,115,115],S [112,101,114,32,98,101,110,100],S [113,117,97,114,116,101,114,108,121],S [112,101,114,32,115,97,108,116,105,114,101],S [112,97,108,121],S [98,97,114,114,121]]:List V)[d.toNat]?=some (S (axS d)):=by
 obtain rfl | rfl | rfl | rfl | rfl | rfl | rfl:d=1\/d=2\/d=3\/d=4\/d=5\/d=6\/d=7:=by omega
 all_goals rfl
theorem aPz {d:Int} (h:1<=d/\d<=7):([S [],S [112,97,108,101],S [102,101,115,115],S [98,101,110,100],S [99,104,101,118,114,111,110],S [99,114,111,115,115],S [115,97,108,116,105,114,101],S [99,104,105,101,102]]:List V)[d.toNat]?=some (S (PH d)):=by
 obtain rfl | rfl | rfl | rfl | rfl | rfl | rfl:d=1\/d=2\/d=3\/d=4\/d=5\/d=6\/d=7:=by omega
 all_goals rfl
theorem aPy {d:Int} (h:1<=d/\d<=8):([S [108,105,111,110],S [101,97,103,108,101],S [102,105,115,104],S [114,111,115,101],S [115,116,97,114],S [116,111,119,101,114],S [107,101,121],S [115,119,111,114,100]]:List V)[(d - 1).toNat]?=some (S (FJ.getD (d - 1).toNat [])):=by
 obtain rfl | rfl | rfl | rfl | rfl | rfl | rfl | rfl:d=1\/d=2\/d=3\/d=4\/d=5\/d=6\/d=7\/d=8:=by omega
 all_goals rfl
theorem aFt {d:Int} (h:1<=d/\d<=6):([S [97],S [116,119,111],S [116,104,114,101,101],S [102,111,117,114],S [102,105,118,101],S [115,105,120]]:List V)[(d - 1).toNat]?=some (S (ahN.getD (d - 1).toNat [])):=by
 obtain rfl | rfl | rfl | rfl | rfl | rfl:d=1\/d=2\/d=3\/d=4\/d=5\/d=6:=by omega
 all_goals rfl
theorem LN (x:Int) (h:fV x 1 9=true):di Aj [I x] (S (eL x)):=by
 have h':=db.1 h;refine aa.of aIp (by simp) ?_;simp[aB7,avC,avD];rw[aD (n:=x - 1) (by omega),aPA h'];exact⟨by omega,by simp⟩
theorem axn (x:Int) (h:1<=x/\x<=4):di J5 [I x] (S (L0 x)):=by
 refine aa.of aA2 (by simp) ?_;simp[ahJ,abQ,abR];rw[aNo h];exact⟨by omega,by simp⟩
set_option maxHeartbeats 1000000 in
theorem aDI (f:Field) (h:cN f=true):di TX [jC f] (S (dS f)):=by
 simp only[cN,Bool.and_eq_true,db] at h;obtain ⟨⟨⟨h1,h2⟩,h3⟩,h4⟩:=h;have b1:=mc f.first
 have b2:=mc f.second;have b3:=aCv f.division;have b4:=am2 f.line;refine aa.of aIs (by simp) ?_;by_cases h0:f.division=0
 ·simp[arC,adS,adT,avK,h0];exact al (aa.ag (LN f.first (db.2 h3))) (by simp[dS,h0])
 ·rw[if_neg h0] at h4;simp only[Bool.and_eq_true,db] at h4;simp[arC,adS,adT,avL,h0];rw[aPx (d:=f.division) (by omega)];refine⟨by omega,?_⟩;simp[avM];by_cases hl:f.line=0
  ·refine⟨fun h=>by omega,fun _=>?_⟩;simp[adU,Kd]
   repeat (refine⟨by omega,?_⟩)
   refine cF (aa.ag (LN f.first (db.2 h3))) ?_;simp
   repeat (refine⟨by omega,?_⟩)
   refine cF (aa.ag (LN f.second (db.2 h4.1))) ?_;simp
   repeat (refine⟨by omega,?_⟩)
   refine⟨a7 (by simp[Kd]) (by simp),?_⟩;simp[dS,C0,h0,hl]
  ·refine⟨fun _=>?_,fun h=>by omega⟩;simp[avN]
   repeat (refine⟨by omega,?_⟩)
   refine al (aa.ag (axn f.line (by omega))) ?_;simp
   repeat (refine⟨by omega,?_⟩)
   simp[adU,Kd]
   repeat (refine⟨by omega,?_⟩)
   refine cF (aa.ag (LN f.first (db.2 h3))) ?_;simp
   repeat (refine⟨by omega,?_⟩)
   refine cF (aa.ag (LN f.second (db.2 h4.1))) ?_;simp
   repeat (refine⟨by omega,?_⟩)
   refine⟨a7 (by simp[Kd]) (by simp),?_⟩;simp[dS,C0,h0,hl]
theorem aea (o l:Int) (ho:1<=o/\o<=7) (hl:0<=l/\l<=4):di EA [I o,I l] (S (rI o l)):=by
 have b1:=aDk o;have b2:=am2 l;refine aa.of aA3 (by simp) ?_;simp[ahK,abS,abT];rw[aPz ho]
 repeat (refine⟨by omega,?_⟩)
 simp
 repeat (refine⟨by omega,?_⟩)
 simp[abU];by_cases h0:l=0
 ·refine⟨fun h=>by omega,fun _=>?_⟩;simp[Nf,rI,C0,h0]
 ·refine⟨fun _=>?_,fun h=>by omega⟩;simp[abV]
  repeat (refine⟨by omega,?_⟩)
  refine al (aa.ag (axn l (by omega))) ?_;simp
  repeat (refine⟨by omega,?_⟩)
  simp[Nf,rI,C0,h0]
theorem aJN (o:Int):di ads [I o] (S (aeI o)):=by
 refine aa.of aIz (by simp) ?_;by_cases h0:o=0
 ·simp[acP,SP,SQ,SR,SS,SU,SV,SW,h0,aeI]
 ·by_cases h7:o=7
  ·simp[acP,SP,SQ,SR,SS,SU,SV,SW,h7,aeI]
  ·simp[acP,SP,SQ,SR,SS,SU,SV,SW,h0,h7,aeI]
theorem aES (k:Int):di PE [I k] (.own 1 ((cY k).map S)):=by
 refine aa.of ax6 (by simp) ?_;by_cases h1:k=1
 ·simp[AV,vZ,wa,wb,wc,wd,we,wg,wh,wi,h1,cY]
 by_cases h2:k=2
 ·simp[AV,vZ,wa,wb,wc,wd,we,wg,wh,wi,h2,cY]
 by_cases h3:k=3
 ·simp[AV,vZ,wa,wb,wc,wd,we,wg,wh,wi,h3,cY]
 simp[AV,vZ,wa,wb,wc,wd,we,wg,wh,wi,h1,h2,h3,cY]
theorem aQi (k c:Int) (hk:1<=k/\k<=8):di asn [I k,I c] (S (rl k c)):=by
 have b:=aau k c;have b0:=um (l:=FJ) (m:=12) (by decide) (k - 1).toNat;refine aa.of aIx (by simp) ?_;simp[aCe,av0,av1];rw[aD (n:=k - 1) (by omega),aPy hk]
 repeat (refine⟨by omega,?_⟩)
 obtain ⟨w,hw⟩:∃ w,FJ.getD (k - 1).toNat []=w:=⟨_,rfl⟩;have e:rl k c=w++(if 1 < c/\k≠3 then [115] else []):=by rw[rl,hw]
 rw[hw] at b0 ⊢;rw[e];simp;by_cases h1:1 < c
 ·by_cases h3:k=3
  ·simp[SM,SN,h1,h3]
  ·simp[SM,av2,SN,h1,h3];omega
 ·simp[SM,SN,h1]
theorem Pm {l:List (List UInt8)} {i:Nat} (h:i < l.length):l[i]?=some (l.getD i []):=by
 rw[List.getElem?_eq_getElem h,List.getD_eq_getElem?_getD,List.getElem?_eq_getElem h];rfl
theorem aBA {g:Group} (hg:bQ g=true) (ha:0 < g.attitude):(g.attitude - 1).toNat < (cY g.kind).length/\((cY g.kind).map S)[(g.attitude - 1).toNat]?=some (S ((cY g.kind).getD (g.attitude - 1).toNat [])):=by
 have hl:=anA g.kind
 have h:(g.attitude - 1).toNat < (cY g.kind).length:=by
  simp only[bQ,Bool.and_eq_true,db] at hg;obtain ⟨⟨⟨h1,h2⟩,h3⟩,h4⟩:=hg;by_cases hk:g.kind<=3
  ·rw[if_pos hk] at h4;rw[if_pos (by omega)] at hl;have:=db.1 h4;omega
  ·rw[if_neg hk] at h4;have:g.attitude=0:=by simpa using h4
   omega
 refine⟨h,?_⟩;rw[List.getElem?_map,List.getElem?_eq_getElem h,List.getD_eq_getElem?_getD,List.getElem?_eq_getElem h];rfl
def jK (g:Group):List UInt8:=mO g.count g.kind++32::(rl g.kind g.count++(if 0 < g.attitude then 32::(cY g.kind).getD (g.attitude - 1).toNat [] else []))
theorem V5 (g:Group):mP g=jK g++32::eL g.tincture:=by simp[mP,jK]
theorem jM {g:Group} (h:bQ g=true):(1<=g.count/\g.count<=6)/\(1<=g.kind/\g.kind<=8)/\fV g.tincture 1 9=true/\0<=g.attitude/\g.attitude<=2:=by
 simp only[bQ,Bool.and_eq_true,db] at h;obtain ⟨⟨⟨h1,h2⟩,h3⟩,h4⟩:=h;refine⟨h1,h2,db.2 h3,?_⟩;split at h4
 ·have:=db.1 h4;omega
 ·have:g.attitude=0:=by simpa using h4
  omega
set_option maxHeartbeats 1000000 in
theorem axo (g:Group) (h:bQ g=true):di MU [ib g] (S (jK g)):=by
 obtain ⟨h1,h2,h3,h4⟩:=jM h;have b1:=acT g.count g.kind;have b2:=aau g.kind g.count;have b3:=asV g.kind (g.attitude - 1).toNat;refine aa.of aIt (by simp) ?_;simp[aCa,avO,avP];rw[aD (n:=g.count - 1) (by omega),aFt h1]
 repeat (refine⟨by omega,?_⟩)
 obtain ⟨w,hw⟩:∃ w,ahN.getD (g.count - 1).toNat []=w:=⟨_,rfl⟩;have e:mO g.count g.kind=if g.count=1/\g.kind=2 then [97,110] else w:=by rw[mO,hw]
 rw[hw];obtain ⟨cw,hcw⟩:∃ cw,mO g.count g.kind=cw:=⟨_,rfl⟩;have hB:jK g=cw++32::(rl g.kind g.count++(if 0 < g.attitude then 32::(cY g.kind).getD (g.attitude - 1).toNat [] else [])):=by rw[jK,hcw]
 rw[hcw] at b1 e;rw[hB];simp;rcases Classical.em (g.count=1/\g.kind=2) with hc | hc
 case' inl =>
  rw[if_pos hc] at e;simp[SL,avQ,hc.1,hc.2];refine cp ⟨[(1,.ref 1 0 0),(3,S cw)],[(1,⟨4,[ib g]⟩)],[]⟩ (Wk.list rfl (by simp[e]) (by simp)) ?_
 case' inr =>
  rw[if_neg hc] at e;have hc':g.count=1->¬g.kind=2:=fun a b=>hc ⟨a,b⟩;rcases Classical.em (g.count=1) with hc1 | hc1
  case' inl =>
   simp[SL,hc1,hc' hc1];refine cp ⟨[(1,.ref 1 0 0),(3,S cw)],[(1,⟨4,[ib g]⟩)],[]⟩ (Wk.list rfl (by simp[e]) (by simp)) ?_
  case' inr =>
   simp[SL,hc1];refine cp ⟨[(1,.ref 1 0 0),(3,S cw)],[(1,⟨4,[ib g]⟩)],[]⟩ (Wk.list rfl (by simp[e]) (by simp)) ?_
 all_goals
  simp[avR]
  repeat (refine⟨by omega,?_⟩)
  refine al (aa.ag (aQi g.kind g.count h2)) ?_;simp
  repeat (refine⟨by omega,?_⟩)
  simp[avS];by_cases ha:0 < g.attitude
  ·obtain ⟨g1,g2⟩:=aBA h ha;refine⟨fun _=>?_,fun h=>by omega⟩;simp[avT,adz]
   repeat (refine⟨by omega,?_⟩)
   refine gm (aa.ag (aES g.kind)) ?_;simp;rw[aD (n:=g.attitude - 1) (by omega),Pm g1]
   repeat (refine⟨by omega,?_⟩)
   obtain ⟨aw,haw⟩:∃ aw,(cY g.kind).getD (g.attitude - 1).toNat []=aw:=⟨_,rfl⟩;rw[haw] at b3 ⊢;simp[ha]
   repeat (refine⟨by omega,?_⟩)
   refine⟨a7 (by simp[adz]) (by simp),?_⟩;simp[adV,ha]
  ·refine⟨fun h=>by omega,fun _=>?_⟩;simp[adV,ha]
theorem aJM (g:Group) (h:bQ g=true):di adp [ib g] (S (mP g)):=by
 obtain ⟨h1,h2,h3,h4⟩:=jM h;have b0:=nZ g;rw[V5] at b0 ⊢;simp only[List.length_append,List.length_cons] at b0;refine aa.of aIw (by simp) ?_;simp[aCd,avY,avZ,adA];refine cF (aa.ag (axo g h)) ?_;simp
 repeat (refine⟨by omega,?_⟩)
 refine cF (aa.ag (LN g.tincture h3)) ?_;simp
 repeat (refine⟨by omega,?_⟩)
 exact a7 (by simp[adA]) (by simp)
theorem Px:di vQ [] (.own 1 (ua.map S)):=by
 refine aa.of arX (by simp) ?_;simp[VW,Rs,Rt,ua]
theorem ah6:di GL [] (.own 1 (sK.map S)):=by
 refine aa.of aCJ (by simp) ?_;simp[anI,afD,afE,sK]
theorem aeG:di DC [] (.own 1 (Y4.map S)):=by
 refine aa.of arT (by simp) ?_;simp[VT,Rg,Rh,Y4]
theorem Pv:di vM [] (.own 1 (EH.map S)):=by
 refine aa.of arV (by simp) ?_;simp[VV,Rk,Rl,EH]
theorem aIV:di Zl [] (.own 1 (FJ.map S)):=by
 refine aa.of aCI (by simp) ?_;simp[anH,afB,afC,FJ]
theorem HT (x:Int) (h:fV x 1 9=true):di vP [I x] (S (eL x)):=by
 have h':=db.1 h;have hl:ua.length=9:=rfl;have hw:ua[(x - 1).toNat]?=some (eL x):=Pm (by omega);refine aa.of aEq (by simp) ?_;simp[ata,ajv,ajw];refine bB Px rfl (.inl (by simp)) (by simp) ?_;simp;rw[aD (n:=x - 1) (by omega),hw];exact⟨by omega,by simp⟩
theorem aCX (t:List UInt8) (x:Int) (h:0<=x/\x<=4) (ht:t.length<=1000):di SC [S t,I x] (S (C0 t x)):=by
 have hl:sK.length=4:=rfl;have b:=am2 x;refine aa.of aEr (by simp) ?_;by_cases h0:x=0
 ·simp[acO,UF,UG,ajx,h0,C0]
 ·have hw:sK[(x - 1).toNat]?=some (L0 x):=Pm (by omega);simp[acO,UF,UG,ajy,h0]
  repeat (refine⟨by omega,?_⟩)
  refine bB ah6 rfl (.inl (by simp)) (by simp) ?_;simp
  repeat (refine⟨by omega,?_⟩)
  rw[aD (n:=x - 1) (by omega),hw]
  repeat (refine⟨by omega,?_⟩)
  simp[C0,h0]
  try omega
theorem aeH (o l:Int) (ho:1<=o/\o<=7) (hl:0<=l/\l<=4):di DD [I o,I l] (S (rI o l)):=by
 have hL:EH.length=7:=rfl;have b:=aDk o;have hw:EH[(o - 1).toNat]?=some (PH o):=Pm (by omega);refine aa.of arU (by simp) ?_;simp[VU,Ri,Rj];refine bB Pv rfl (.inl (by simp)) (by simp) ?_;simp;rw[aD (n:=o - 1) (by omega),hw]
 repeat (refine⟨by omega,?_⟩)
 simp
 repeat (refine⟨by omega,?_⟩)
 refine al (aa.ag (aCX ([97,32]++PH o) l hl (by simp;omega))) ?_;simp[rI]
theorem azK (c k:Int) (hc:1<=c/\c<=6):di Nu [I c,I k] (S (mO c k)):=by
 refine aa.of aCH (by simp) ?_;by_cases h1:c=1
 ·by_cases h2:k=2
  ·simp[Ns,HG,HH,afA,h1,h2,mO]
  ·simp[Ns,HG,HH,PT,h1,h2,mO,ahN];rw[show IntKind.i64.wrap 0=0 from rfl];simp[h1,h2,mO,ahN]
 ·have e:mO c k=ahN.getD (c - 1).toNat []:=by rw[mO,if_neg (fun h=>h1 h.1)]
  rw[e];simp[Ns,HG,HH,PT,h1];rw[aD (n:=c - 1) (by omega),aFt hc]
  repeat (refine⟨by omega,?_⟩)
  simp
theorem aCW (k c:Int) (hk:1<=k/\k<=8):di SB [I k,I c] (S (rl k c)):=by
 have hL:FJ.length=8:=rfl;have b0:=um (l:=FJ) (m:=12) (by decide) (k - 1).toNat;have hk':FJ[(k - 1).toNat]?=some (FJ.getD (k - 1).toNat []):=Pm (by omega);obtain ⟨w,hw⟩:∃ w,FJ.getD (k - 1).toNat []=w:=⟨_,rfl⟩;have e:rl k c=w++(if 1 < c/\k≠3 then [115] else []):=by rw[rl,hw]
 rw[hw] at b0 hk';rw[e];refine aa.of aEo (by simp) ?_;simp[as8,ajh,aji];refine bB aIV rfl (.inl (by simp)) (by simp) ?_;simp;rw[aD (n:=k - 1) (by omega),hk']
 repeat (refine⟨by omega,?_⟩)
 simp;by_cases h1:1 < c
 ·by_cases h3:k=3
  ·simp[La,Lb,h1,h3]
  ·simp[La,ajj,Lb,h1,h3];omega
 ·simp[La,Lb,h1]
set_option maxHeartbeats 1000000 in
theorem atQ (f:Field) (h:cN f=true):di JR [jC f] (S (dS f)):=by
 simp only[cN,Bool.and_eq_true,db] at h;obtain ⟨⟨⟨h1,h2⟩,h3⟩,h4⟩:=h;have b1:=mc f.first
 have b2:=mc f.second;have b3:=aCv f.division;have b4:=ay1 (axS f.division) f.line;refine aa.of aAQ (by simp) ?_;by_cases h0:f.division=0
 ·simp[Th,M9,Na,aaG,h0];exact al (aa.ag (HT f.first (db.2 h3))) (by simp[dS,h0])
 ·rw[if_neg h0] at h4;simp only[Bool.and_eq_true,db] at h4;have hL:Y4.length=7:=rfl;have hw:Y4[(f.division - 1).toNat]?=some (axS f.division):=Pm (by omega);simp[Th,M9,Na,aaH,M2,h0];refine gm (aa.ag (aeG)) ?_;simp;rw[aD (n:=f.division - 1) (by omega),hw]
  repeat (refine⟨by omega,?_⟩)
  simp;refine cF (aa.ag (aCX (axS f.division) f.line (by omega) (by omega))) ?_;simp
  repeat (refine⟨by omega,?_⟩)
  refine cF (aa.ag (HT f.first (db.2 h3))) ?_;simp
  repeat (refine⟨by omega,?_⟩)
  refine cF (aa.ag (HT f.second (db.2 h4.1))) ?_;simp
  repeat (refine⟨by omega,?_⟩)
  refine⟨a7 (by simp[M2]) (by simp),?_⟩;simp[dS,h0]
set_option maxHeartbeats 1000000 in
theorem ac0 (g:Group) (h:bQ g=true):di Ey [ib g] (S (mP g)):=by
 obtain ⟨h1,h2,h3,h4⟩:=jM h;have b0:=nZ g;have b1:=acT g.count g.kind;have b2:=aau g.kind g.count;have b3:=asV g.kind (g.attitude - 1).toNat;have b4:=mc g.tincture;refine aa.of aAR (by simp) ?_;simp[ahx,aaK,aaL,M3];refine cF (aa.ag (azK g.count g.kind h1)) ?_;simp
 repeat (refine⟨by omega,?_⟩)
 refine cF (aa.ag (aCW g.kind g.count h2)) ?_;simp
 repeat (refine⟨by omega,?_⟩)
 refine⟨a7 (by simp[M3]) (by simp),?_⟩;simp[aaM];by_cases ha:0 < g.attitude
 ·obtain ⟨g1,g2⟩:=aBA h ha;refine⟨fun _=>?_,fun h=>by omega⟩;simp[aaN,M4];refine gm (aa.ag (ah4 g.kind)) ?_;simp;rw[aD (n:=g.attitude - 1) (by omega),Pm g1]
  repeat (refine⟨by omega,?_⟩)
  obtain ⟨aw,haw⟩:∃ aw,(cY g.kind).getD (g.attitude - 1).toNat []=aw:=⟨_,rfl⟩;have hG:mP g=mO g.count g.kind++32::(rl g.kind g.count++(32::aw)++32::eL g.tincture):=by rw[mP,haw,if_pos ha]
  rw[haw] at b3 ⊢;rw[hG];simp
  repeat (refine⟨by omega,?_⟩)
  refine⟨a7 (by simp[M4]) (by simp),?_⟩;simp[Nb]
  repeat (refine⟨by omega,?_⟩)
  refine al (aa.ag (HT g.tincture h3)) ?_;simp;omega
 ·have hG:mP g=mO g.count g.kind++32::(rl g.kind g.count++[]++32::eL g.tincture):=by rw[mP,if_neg ha]
  rw[hG];refine⟨fun h=>by omega,fun _=>?_⟩;simp[Nb]
  repeat (refine⟨by omega,?_⟩)
  refine al (aa.ag (HT g.tincture h3)) ?_;simp;omega
theorem mM {a:Arms} (h:arms a=true):(0<=a.ordinary/\a.ordinary<=7/\(a.ordinary=0->g0 a.on=true)/\(a.ordinary≠0->(0<=a.line/\a.line<=4)/\fV a.tincture 1 9=true))/\(g0 a.on=false->bQ a.on=true)/\(g0 a.around=false->bQ a.around=true):=by
 simp only[arms,Bool.and_eq_true,Bool.or_eq_true] at h;obtain ⟨⟨hf,har⟩,ho⟩:=h;have hr:g0 a.around=false->bQ a.around=true:=fun e=>har.resolve_left (by rw[e];simp);by_cases h0:a.ordinary=0
 ·rw[if_pos h0] at ho;simp only[Bool.and_eq_true] at ho;exact⟨⟨by omega,by omega,fun _=>ho.2,fun h=>absurd h0 h⟩,fun e=>(by rw[ho.2] at e;cases e),hr⟩
 ·rw[if_neg h0] at ho;simp only[Bool.and_eq_true,Bool.or_eq_true] at ho;obtain ⟨⟨⟨o1,o2⟩,o3⟩,o4⟩:=ho;have o1:=db.1 o1;have o2:=db.1 o2;exact⟨⟨by omega,by omega,fun h=>absurd h h0,fun _=>⟨o2,o3⟩⟩,fun e=>o4.resolve_left (by rw[e];simp),hr⟩
set_option maxHeartbeats 2000000 in
theorem acr (a:Arms) (h:arms a=true):di EB [dj a] (S (nL a)):=by
 have h':=h;simp only[arms,Bool.and_eq_true] at h';obtain ⟨⟨hf,har⟩,ho⟩:=h';obtain ⟨hord,hon⟩:=mM h;have c1:=Ad a.field;have c2:=GO a.ordinary a.line;have c3:=mc a.tincture;have c4:=nZ a.on;have c5:=nZ a.around;have c6:=aat a.ordinary;obtain ⟨t1,ht1⟩:∃ t1,dS a.field++(if a.ordinary=0 then [] else [44,32]++rI a.ordinary a.line++32::eL a.tincture)=t1:=⟨_,rfl⟩;obtain ⟨t2,ht2⟩:∃ t2,t1++(if g0 a.on then [] else [32,99,104,97,114,103,101,100,32,119,105,116,104,32]++mP a.on)=t2:=⟨_,rfl⟩;have hT:nL a=t2++(if g0 a.around then [] else aeI a.ordinary++mP a.around):=by rw[nL,ht1,ht2]
 have d1:t1.length<=120:=by rw[<- ht1];split<;>simp<;>omega
 have d2:t2.length<=200:=by rw[<- ht2];split<;>simp<;>omega
 rw[hT];refine aa.of aIA (by simp) ?_;simp[aCg,av5,av6];refine al (aa.ag (aDI a.field hf)) ?_;simp[av7];rcases Classical.em (a.ordinary=0) with h0 | h0
 case' inl =>
  simp[h0];refine cp ⟨[(1,.ref 1 0 0),(3,S t1)],[(1,⟨15,[dj a]⟩)],[]⟩ (Wk.list rfl (by simp[<- ht1,h0]) (by simp)) ?_
 case' inr =>
  obtain ⟨hl,ht⟩:=hord.2.2.2 h0;refine⟨fun _=>?a,fun h=>absurd h (by omega)⟩
  case' a =>
   simp[av8,adB]
   repeat (refine⟨by omega,?_⟩)
   refine cF (aa.ag (aea a.ordinary a.line (by omega) hl)) ?_;simp
   repeat (refine⟨by omega,?_⟩)
   refine cF (aa.ag (LN a.tincture ht)) ?_;simp
   repeat (refine⟨by omega,?_⟩)
   refine⟨a7 (by simp[adB]) (by simp),?_⟩;refine cp ⟨[(1,.ref 1 0 0),(3,S t1)],[(1,⟨15,[dj a]⟩)],[]⟩ (Wk.list rfl (by simp[<- ht1,h0]) (by simp)) ?_
 all_goals
  simp[av9];refine al (aa.ag (iT a.on)) ?_;rcases hg:g0 a.on with _ | _
  case' false =>
   simp[awa]
   repeat (refine⟨by omega,?_⟩)
   refine al (aa.ag (aJM a.on (hon.1 hg))) ?_;simp
   repeat (refine⟨by omega,?_⟩)
   refine cp ⟨[(1,.ref 1 0 0),(3,S t2)],[(1,⟨15,[dj a]⟩)],[]⟩ (Wk.list rfl (by simp[<- ht2,hg]) (by simp)) ?_
  case' true =>
   simp;refine cp ⟨[(1,.ref 1 0 0),(3,S t2)],[(1,⟨15,[dj a]⟩)],[]⟩ (Wk.list rfl (by simp[<- ht2,hg]) (by simp)) ?_
  all_goals
   simp[awb];refine al (aa.ag (iT a.around)) ?_;cases hr:g0 a.around with
   | true =>
     simp;refine cp _ (Wk.refl _) ?_;simp[adY]
   | false =>
     simp[awc,adC];refine cF (aa.ag (aJN a.ordinary)) ?_;simp
     repeat (refine⟨by omega,?_⟩)
     refine cF (aa.ag (aJM a.around (hon.2 hr))) ?_;simp
     repeat (refine⟨by omega,?_⟩)
     refine⟨a7 (by simp[adC]) (by simp),?_⟩;refine cp _ (Wk.refl _) ?_;simp[adY]
def aL4 (w:Int) (L out:List (List UInt8)) (i:Nat):Prop :=
 (i=0/\out=[])\/∃ done cur,out=done++[cur]/\cur.length<=1000/\fill w L=done++arH w cur (L.drop i)
theorem aL4.done {w:Int} {L out:List (List UInt8)} (h:aL4 w L out L.length):fill w L=out:=by
 rcases h with ⟨h0,rfl⟩ | ⟨done,cur,rfl,_,h⟩
 ·have:L=[]:=List.length_eq_zero_iff.1 h0;subst this;rfl
 ·rw[h,List.drop_length,arH]
theorem eW (c:UInt8):∀ a b:List UInt8,parts c (a++c::b)=parts c a++parts c b
 | [],b=>by rw[List.nil_append,parts,parts];simp
 | x::a,b=>by
   have ih:=eW c a b;obtain ⟨p,ps,h1,h2⟩:=ast c x a;obtain ⟨q,qs,h3,h4⟩:=ast c x (a++c::b);rw[ih,h1] at h3;simp only[List.cons_append,List.cons.injEq] at h3;obtain ⟨rfl,rfl⟩:=h3;rw[List.cons_append,h4,h2];split<;>simp
def Z8 (c s:List UInt8):Option Nat:=(List.range (s.length+1)).find? fun i=>(s.drop i).take c.length==c
def me (c s:List UInt8):List UInt8:=match Z8 c s with | some i=>s.take i | none=>s
def jB (c s:List UInt8):List UInt8:=match Z8 c s with | some i=>s.drop (i+c.length) | none=>[]
theorem aLj {c s:List UInt8} {j:Nat} (e:(s.drop j).take c.length=c):c <+: s.drop j:=⟨(s.drop j).drop c.length,by
 conv=>lhs;lhs;rw[<- e]
 exact List.take_append_drop ..⟩
theorem Te {c a b:List UInt8} (h:∀ i,i < a.length->¬c <+: (a++c++b).drop i):Z8 c (a++c++b)=some a.length:=by
 unfold Z8;rw[List.find?_eq_some_iff_getElem];refine⟨by simp,a.length,by simp;omega,by rw[List.getElem_range],fun j hj=>?_⟩;simp only[List.getElem_range,Bool.not_eq_true',beq_eq_false_iff_ne,ne_eq];intro e;exact h j hj (aLj e)
theorem Ip {c a b:List UInt8} (h:∀ i,i < a.length->¬c <+: (a++c++b).drop i):me c (a++c++b)=a/\jB c (a++c++b)=b:=by
 unfold me jB;rw[Te h];simp
theorem aF3 {c s:List UInt8} (hc:c≠[]) (h:∀ i,i < s.length->¬c <+: s.drop i):Z8 c s=none:=by
 unfold Z8;rw[List.find?_eq_none];intro i hi;have hi:=List.mem_range.1 hi;intro e;have e:=eq_of_beq e;by_cases h1:i < s.length
 ·exact h i h1 (aLj e)
 ·rw[List.drop_of_length_le (by omega)] at e;simp at e;exact hc e
theorem aJz:∀ {w a r t:List UInt8},(32:UInt8) ∉ w->a++32::r=w++32::t->a=w\/∃ x,a=w++32::x
 | [],[],_,_,_,_=>.inl rfl
 | [],y::a,r,t,_,e=>by
   simp only[List.cons_append,List.nil_append,List.cons.injEq] at e;exact .inr ⟨a,by rw[e.1];rfl⟩
 | x::w,[],r,t,h,e=>by
   simp only[List.nil_append,List.cons_append,List.cons.injEq] at e;exact absurd (by rw[<- e.1];simp) h
 | x::w,y::a,r,t,h,e=>by
   simp only[List.cons_append,List.cons.injEq] at e;obtain ⟨rfl,e⟩:=e;rcases aJz (fun hh=>h (by simp[hh])) e with rfl | ⟨z,rfl⟩
   ·exact .inl rfl
   ·exact .inr ⟨z,rfl⟩
theorem aDf {w c a b:List UInt8} (hw:(32:UInt8) ∉ w) (hc:32::(w++[32]) <+: c) (ha:w ∉ parts 32 a):∀ i,i < a.length->¬c <+: (a++32::b).drop i:=by
 intro i hi hp;obtain ⟨t,ht⟩:=hc.trans hp;have h1:(a++32::b).drop i=a.drop i++32::b:=by rw[List.drop_append_of_le_length (by omega)]
 rw[h1,List.drop_eq_getElem_cons hi] at ht;simp only[List.cons_append,List.append_assoc,List.nil_append,List.cons.injEq] at ht;obtain ⟨e0,e1⟩:=ht
 have h2:a=a.take i++32::a.drop (i+1):=by
  conv=>lhs;rw[<- List.take_append_drop i a,List.drop_eq_getElem_cons hi,<- e0]
 refine ha ?_;rcases aJz hw e1.symm with e | ⟨x,e⟩
 ·rw[h2,e,eW,eC hw];simp
 ·rw[h2,e,eW,eW,eC hw];simp
theorem Wy {w c s:List UInt8} (hw:(32:UInt8) ∉ w) (hc:32::(w++[32]) <+: c) (ha:w ∉ parts 32 s):Z8 c s=none:=by
 refine aF3 (by rintro rfl;simpa using hc.length_le) fun i hi hp=>?_;obtain ⟨t,ht⟩:=hc.trans hp
 have h2:s=s.take i++32::(w++32::t):=by
  conv=>lhs;rw[<- List.take_append_drop i s,<- ht]
  simp
 refine ha ?_;rw[h2,eW,eW,eC hw];simp
theorem att {a b:List UInt8} (h:(44:UInt8) ∉ a):Z8 [44,32] (a++[44,32]++b)=some a.length:=by
 refine Te fun i hi ⟨t,ht⟩=>h ?_;rw[List.append_assoc,List.drop_append_of_le_length (by omega),List.drop_eq_getElem_cons hi] at ht;simp only[List.cons_append,List.cons.injEq] at ht;rw[ht.1];exact List.getElem_mem _
theorem aCs {a:List UInt8} (h:(44:UInt8) ∉ a):Z8 [44,32] a=none:=by
 refine aF3 (by simp) fun i hi ⟨t,ht⟩=>h ?_;rw[List.drop_eq_getElem_cons hi] at ht;simp only[List.cons_append,List.cons.injEq] at ht;rw[ht.1];exact List.getElem_mem _
def axC:List (List UInt8):=ua++sK++Y4.flatMap (parts 32)++FJ++FJ.map (·++[115])++ahN++[[97,110]]++EH++cY 1++cY 2++cY 3++[[97,110,100],[111,102],[116,104,101],[102,105,101,108,100],[102,105,114,115,116],[115,101,99,111,110,100],[116,104,105,114,100],[108,97,115,116]]
def ky (s:List UInt8):Prop:=∀ w ∈ parts 32 s,w ∈ axC
instance (s:List UInt8):Decidable (ky s):=inferInstanceAs (Decidable (∀ w ∈ parts 32 s,w ∈ axC))
theorem ky.two {a b:List UInt8} (ha:ky a) (hb:ky b):ky (a++32::b):=by
 intro w hw;rw[eW] at hw;rcases List.mem_append.1 hw with h | h
 ·exact ha w h
 ·exact hb w h
theorem YU {l:List (List UInt8)} {i:Nat} (hl:∀ w ∈ l,ky w) (h:i < l.length):ky (l.getD i []):=by
 rw[List.getD_eq_getElem?_getD,List.getElem?_eq_getElem h];exact hl _ (List.getElem_mem h)
theorem amF {x:Int} (h:fV x 1 9=true):ky (eL x):=by
 have h:=db.1 h;exact YU (by decide +kernel) (by show _ < 9;omega)
theorem aKc {t:List UInt8} {x:Int} (ht:ky t) (h:0<=x/\x<=4):ky (C0 t x):=by
 unfold C0;split
 ·exact ht
 ·exact ht.two (YU (by decide +kernel) (by show _ < 4;omega))
theorem S8 {f:Field} (h:cN f=true):ky (dS f):=by
 simp only[cN,Bool.and_eq_true,db] at h;obtain ⟨⟨⟨h1,h2⟩,h3⟩,h4⟩:=h;unfold dS;split
 ·exact amF (db.2 h3)
 ·rename_i h0;rw[if_neg h0] at h4;simp only[Bool.and_eq_true,db] at h4;have hd:ky (axS f.division):=YU (by decide +kernel) (by show _ < 7;omega);have ha:=(amF (db.2 h3)).two ((show ky [97,110,100] by decide +kernel).two (amF (db.2 h4.1)));have:=(aKc hd h2).two ha;simpa using this
theorem aD3 {g:Group} (h:bQ g=true):ky (jK g):=by
 obtain ⟨h1,h2,h3,h4⟩:=jM h
 have hc:ky (mO g.count g.kind):=by
  unfold mO;split
  ·decide +kernel
  ·exact YU (by decide +kernel) (by show _ < 6;omega)
 have hk:ky (rl g.kind g.count):=by
  unfold rl;split
  ·have:ky ((FJ.map (·++[115])).getD (g.kind - 1).toNat []):=YU (by decide +kernel) (by show _ < 8;omega)
   have e:(FJ.map (·++[115])).getD (g.kind - 1).toNat []=FJ.getD (g.kind - 1).toNat []++[115]:=by
    have hl:g.kind.toNat - 1 < FJ.length:=by show _ < 8;omega
    simp[List.getElem?_eq_getElem hl]
   rw[<- e];exact this
  ·simpa using YU (l:=FJ) (by decide +kernel) (by show _ < 8;omega)
 unfold jK;split
 ·rename_i ha
  have ha':ky ((cY g.kind).getD (g.attitude - 1).toNat []):=by
   refine YU ?_ (aBA h ha).1;unfold cY;split
   ·decide +kernel
   ·split
    ·decide +kernel
    ·split
     ·decide +kernel
     ·simp
  have:=hc.two (hk.two ha');simpa using this
 ·have:=hc.two hk;simpa using this
theorem aHz {o l:Int} (ho:1<=o/\o<=7) (hl:0<=l/\l<=4):ky (rI o l):=by
 unfold rI;refine aKc ?_ hl;have:=(show ky [97] by decide +kernel).two (YU (l:=EH) (i:=(o - 1).toNat) (by decide +kernel) (by show _ < 7;omega));simpa [PH] using this
theorem YV:[98,101,116,119,101,101,110] ∉ axC/\[97,98,111,118,101] ∉ axC/\[99,104,97,114,103,101,100] ∉ axC/\[119,105,116,104] ∉ axC:=by decide +kernel
theorem aOw:∀ w ∈ axC,(44:UInt8) ∉ w:=by decide +kernel
theorem aJp:∀ {s:List UInt8},ky s->(44:UInt8) ∉ s:=by
 have key:∀ (s p:List UInt8) (ps:List (List UInt8)),parts 32 s=p::ps->(44:UInt8) ∈ s->∃ w ∈ p::ps,(44:UInt8) ∈ w:=by
  intro s
  induction s with
  | nil=>intro p ps _ h;simp at h
  | cons x s ih =>
    intro p ps hp h;obtain ⟨q,qs,h1,h2⟩:=ast 32 x s;rw[h2] at hp;rcases List.mem_cons.1 h with rfl | h
    ·simp at hp;obtain ⟨rfl,rfl⟩:=hp;exact⟨_,List.mem_cons_self,by simp⟩
    ·obtain ⟨w,hw,hw2⟩:=ih q qs h1 h;split at hp
     ·simp only[List.cons.injEq] at hp;obtain ⟨rfl,rfl⟩:=hp;exact⟨w,List.mem_cons_of_mem _ hw,hw2⟩
     ·simp only[List.cons.injEq] at hp;obtain ⟨rfl,rfl⟩:=hp;rcases List.mem_cons.1 hw with rfl | hw
      ·exact⟨_,List.mem_cons_self,by simp[hw2]⟩
      ·exact⟨w,List.mem_cons_of_mem _ hw,hw2⟩
 intro s hs h
 obtain ⟨p,ps,hp⟩:∃ p ps,parts 32 s=p::ps:=by
  cases hp:parts 32 s with
  | nil=>exact absurd hp (Ud s)
  | cons p ps=>exact⟨p,ps,rfl⟩
 obtain ⟨w,hw,hw2⟩:=key s p ps hp h;exact aOw w (hs w (by rw[hp];exact hw)) hw2
def WC:=[eF 1 15 0,dD 2 5 (.agg [vS [],vS [],vS [],vS [],(vB false)])]
def WD:=[aL 4 0 1,bu 5 4 4,cg 6 JR 5,aL 7 4 1,bl 8 1 7,cn 9 .eql 8 7,oo 10 (.build (.agg [vS [],vS [],vS [],vS [],(vB false)]) [(0,(1,(.t 6))),(4,(1,(.t 9)))]),dD 3 5 (.agg [vS [],vS [],vS [],vS [],(vB false)]),bg 5 3 10]
def J6:List (List Nat):=[[],[0],[0,1],[],[3],[3,4],[0,1,2,3,4,5],[],[0,1,2,3,4,5,6,7]]
def WE:=[aL 11 4 1,bl 12 1 11,cn 13 .neq 12 0]
def WF:=[aL 14 4 1,bl 15 1 14,aL 16 5 1,bl 17 1 16,dK 18 DD 15 17,oo 19 (.bin .add .none (.t 18) (.k (vS [32]))),aL 20 6 1,bl 21 1 20,cg 22 vP 21,cI 23 .add 19 22,aL 24 1 3,bg 1 24 23]
def J7:List (List Nat):=[[],[0],[],[2],[0,1,2,3],[0,1,2,3,4],[],[6],[0,1,2,3,4,6,7],[0,1,2,3,4,5,6,7,8],[0,1,2,3,4,5,6,7,8,9],[0,1,2,3,4,5,6,7,8,9,10]]
def Kj:=[aL 25 7 1,bu 26 4 25,oo 27 (.build xR []),oo 28 (.bin .neq (.struct [EK.int,EK.int,EK.int,EK.int]) (.t 26) (.t 27))]
def WG:=[aL 29 7 1,bu 30 4 29,cg 31 Ey 30,aL 32 2 3,bg 1 32 31]
def Kk:=[aL 33 11 1,bu 34 4 33,oo 35 (.build xR []),oo 36 (.bin .neq (.struct [EK.int,EK.int,EK.int,EK.int]) (.t 34) (.t 35))]
def WH:=[aL 37 11 1,bu 38 4 37,cg 39 Ey 38,aL 40 3 3,bg 1 40 39]
def WI:=[bu 41 5 3,bg 5 2 41]
def aen:C:=(sr WC [1,2] (ss (.regD WD J6 [1,2,3]) (ss (ss (.wk (.reg WE [1,2,3,13])) (sc 13 (.regD WF J7 [1,2,3]) .skip)) (ss (ss (.wk (.reg Kj [1,2,3,28])) (sc 28 (.reg WG [1,2,3]) .skip)) (ss (ss (.wk (.reg Kk [1,2,3,36])) (sc 36 (.reg WH [2,3]) .skip)) (ss (.wk (.reg WI [2])) .ret))))))
theorem axU:cE Hz aen [(.cell 2 true 5)] 42:=dE func163 rfl
def aeY:=[eF 1 15 0,ok 2 (vS [])]
def aeZ:=[bu 3 15 1,cg 4 Hz 3,cg 5 vO 4,om 2 5]
def anB:C:=(sr aeY [1] (sr aeZ [2] .ret))
theorem aCA:cE C5 anB [(.tmp 2)] 6:=dE func104 rfl
def xV:=[eF 1 5 0,ok 2 (vS [])]
def xW:=[aL 4 0 1,bl 5 1 4,om 3 5]
def xX:=[aL 7 1 1,bl 8 1 7,oo 9 (.bin .eql .none (.t 8) (.k (vS []))),om 10 9,oT 10 11 (.faddr 3 (.t 1)),oT 10 12 (.ld false 1 (.t 11)),oT 10 13 (.bin .eql .none (.t 12) (.k (vS []))),oo 14 (.pick (.t 10) (.t 13) (xB false)),om 6 14]
def Rm:=[om 15 3,om 2 15]
def Gf:=[aL 17 1 1,bl 18 1 17,oo 19 (.bin .eql .none (.t 18) (.k (vS []))),om 16 19]
def Rn:=[om 20 3,oo 21 (.bin .add .none (.t 20) (.k (vS [44,32]))),aL 22 3 1,bl 23 1 22,cI 24 .add 21 23,om 2 24]
def Ro:=[om 25 3,aL 26 1 1,bl 27 1 26,oo 28 (.bin .add .none (.k (vS [44,32])) (.t 27)),cI 29 .add 25 28,om 3 29]
def Rp:=[aL 30 2 1,bl 31 1 30,oo 32 (.bin .neq .none (.t 31) (.k (vS [])))]
def Rq:=[om 33 3,aL 34 2 1,bl 35 1 34,oo 36 (.bin .add .none (.k (vS [32,99,104,97,114,103,101,100,32,119,105,116,104,32])) (.t 35)),cI 37 .add 33 36,om 3 37]
def Rr:=[aL 39 3 1,bl 40 1 39,oo 41 (.bin .eql .none (.t 40) (.k (vS []))),om 38 41]
def OO:=[om 42 3,om 2 42]
def OP:=[aL 44 4 1,bl 45 1 44,om 43 45]
def OQ:=[om 46 3,oo 47 (.bin .add .none (.t 46) (.k (vS [32,97,98,111,118,101,32]))),aL 48 3 1,bl 49 1 48,cI 50 .add 47 49,om 2 50]
def OR:=[om 51 3,oo 52 (.bin .add .none (.t 51) (.k (vS [32,98,101,116,119,101,101,110,32]))),aL 53 3 1,bl 54 1 53,cI 55 .add 52 54,om 2 55]
def Dv:C:=(sr xV [1] (sr xW [1,3] (ss (.block 0 (sr xX [1,3,6] (sc 6 (sr Rm [2] .ret) (sr Gf [1,3,16] (sc 16 (sr Rn [2] .ret) .skip))))) (sr Ro [1,3] (ss (sr Rp [1,3,32] (sc 32 (.reg Rq [1,3]) .skip)) (ss (.block 1 (sr Rr [1,3,38] (sc 38 (sr OO [2] .ret) (sr OP [1,3,43] (sc 43 (sr OQ [2] .ret) .skip))))) (sr OR [2] .ret)))))))
theorem arW:cE vO Dv [(.tmp 2)] 56:=dE func164 rfl
def lY (f o n r:List UInt8) (c:Bool):List UInt8 :=
 if o=[] then (if r=[] then f else f++[44,32]++r) else
  (f++([44,32]++o))++(if n=[] then [] else [32,99,104,97,114,103,101,100,32,119,105,116,104,32]++n)++(if r=[] then [] else (if c then [32,97,98,111,118,101,32] else [32,98,101,116,119,101,101,110,32])++r)
theorem Pw (f o n r:List UInt8) (c:Bool) (hf:f.length<=1000) (ho:o.length<=1000) (hn:n.length<=1000) (hr:r.length<=1000):di vO [.agg [S f,S o,S n,S r,B c]] (S (lY f o n r c)):=by
 refine aa.of arW (by simp) ?_;rcases o with _ | ⟨a,o⟩
 ·rcases r with _ | ⟨b,r⟩
  ·simp[Dv,xV,xW,xX,Rm,lY]
  ·simp[Dv,xV,xW,xX,Gf,Rn];simp at hr
   repeat (refine⟨by omega,?_⟩)
   simp[lY]
 ·simp at ho;simp[Dv,xV,xW,xX,Gf,Ro,Rp]
  repeat (refine⟨by omega,?_⟩)
  rcases n with _ | ⟨d,n⟩<;>rcases r with _ | ⟨b,r⟩<;>cases c
  all_goals
   simp at hr hn;simp[Rq,Rr,OO,OP,OQ,OR,lY]
  all_goals
   repeat (refine⟨by omega,?_⟩)
   try omega
def H5 (a:Arms):List UInt8:=if a.ordinary=0 then [] else rI a.ordinary a.line++32::eL a.tincture
def rU (g:Group):List UInt8:=if g0 g then [] else mP g
theorem Sl {a:Arms} (h:arms a=true):nL a=lY (dS a.field) (H5 a) (rU a.on) (rU a.around) (decide (a.ordinary=7)):=by
 obtain ⟨ho,_,_⟩:=mM h;have hne:∀ g,mP g≠[]:=fun g=>by simp[mP]
 have hoe:a.ordinary≠0->H5 a≠[]:=fun e=>by simp[H5,e]
 unfold nL lY rU aeI;by_cases h0:a.ordinary=0
 ·have hon:=ho.2.2.1 h0;cases hr:g0 a.around<;>simp[h0,hon,hr,H5,hne]
 ·have:=hoe h0;cases hn:g0 a.on<;>cases hr:g0 a.around<;>by_cases h7:a.ordinary=7<;>simp[h0,h7,H5,hn,hr,hne,this]
def rn (a:Arms) (f o n r:List UInt8):AS:=⟨[(1,.ref 1 0 0),(2,.ref 2 0 0),(3,.ref 3 0 0)],[(1,⟨15,[dj a]⟩),(2,⟨5,[.agg [S [],S [],S [],S [],B false]]⟩),(3,⟨5,[.agg [S f,S o,S n,S r,B (a.ordinary==7)]]⟩)],[]⟩
def adG (a:Arms) (f o n r:List UInt8):AS:=⟨[(2,.ref 2 0 0),(3,.ref 3 0 0)],[(2,⟨5,[.agg [S [],S [],S [],S [],B false]]⟩),(3,⟨5,[.agg [S f,S o,S n,S r,B (a.ordinary==7)]]⟩)],[]⟩
set_option maxHeartbeats 2000000 in
theorem anR (a:Arms) (h:arms a=true):di Hz [dj a] (.agg [S (dS a.field),S (H5 a),S (rU a.on),S (rU a.around),B (a.ordinary==7)]):=by
 have hf:=gM h;obtain ⟨hord,hon,har⟩:=mM h;have c1:=Ad a.field;have c2:=GO a.ordinary a.line;have c3:=mc a.tincture;have c4:=nZ a.on;have c5:=nZ a.around;refine aa.of axU (by simp) ?_;simp[aen,WC,WD,J6];refine cF (aa.ag (atQ a.field hf)) ?_;simp;refine⟨a7 (by simp[J6]) (by simp),?_⟩;refine cp (rn a (dS a.field) [] [] []) (Wk.list rfl (by simp[rn]) (by simp[rn])) ?_;simp[rn,WE];rcases Classical.em (a.ordinary=0) with h0 | h0
 case' inl =>
  simp[h0];refine cp (rn a (dS a.field) (H5 a) [] []) (Wk.list rfl (by simp[rn,h0,H5]) (by simp[rn,h0,H5])) ?_
 case' inr =>
  obtain ⟨hl,ht⟩:=hord.2.2.2 h0;simp[h0,WF,J7];refine cF (aa.ag (aeH a.ordinary a.line (by omega) hl)) ?_;simp
  repeat (refine⟨by omega,?_⟩)
  refine cF (aa.ag (HT a.tincture ht)) ?_;simp
  repeat (refine⟨by omega,?_⟩)
  refine⟨a7 (by simp[J7]) (by simp),?_⟩;refine cp (rn a (dS a.field) (H5 a) [] []) (Wk.list rfl (by simp[rn,h0,H5]) (by simp[rn,h0,H5])) ?_
 all_goals
  rcases hg:g0 a.on with _ | _
  case' false =>
   have hgn:=hon hg;have hg':(a.on.count==0&&(a.on.kind==0&&(a.on.attitude==0&&a.on.tincture==0)))=false:=hg;simp[rn,Kj,hg'];simp[WG];refine al (aa.ag (ac0 a.on hgn)) ?_;simp;refine cp (rn a (dS a.field) (H5 a) (rU a.on) []) (Wk.list rfl (by simp[rn,rU,hg]) (by simp[rn,rU,hg])) ?_
  case' true =>
   have hg':(a.on.count==0&&(a.on.kind==0&&(a.on.attitude==0&&a.on.tincture==0)))=true:=hg;simp[rn,Kj,hg'];refine cp (rn a (dS a.field) (H5 a) (rU a.on) []) (Wk.list rfl (by simp[rn,rU,hg]) (by simp[rn,rU,hg])) ?_
  all_goals
   rcases hr:g0 a.around with _ | _
   case' false =>
    have hrn:=har hr;have hr':(a.around.count==0&&(a.around.kind==0&&(a.around.attitude==0&&a.around.tincture==0)))=false:=hr;simp[rn,Kk,hr'];simp[WH];refine al (aa.ag (ac0 a.around hrn)) ?_;simp;refine cp (adG a (dS a.field) (H5 a) (rU a.on) (rU a.around)) (Wk.list rfl (by simp[adG,rU,hr]) (by simp[adG,rU,hr])) ?_
   case' true =>
    have hr':(a.around.count==0&&(a.around.kind==0&&(a.around.attitude==0&&a.around.tincture==0)))=true:=hr;simp[rn,Kk,hr'];refine cp (adG a (dS a.field) (H5 a) (rU a.on) (rU a.around)) (Wk.list rfl (by simp[adG,rU,hr]) (by simp[adG,rU,hr])) ?_
   all_goals
    simp[adG,WI]
theorem aPY (a:Arms):(H5 a).length<=50:=by
 have c2:=GO a.ordinary a.line;have c3:=mc a.tincture;unfold H5;split
 ·simp
 ·simp;omega
theorem aIM (g:Group):(rU g).length<=60:=by
 have:=nZ g;unfold rU;split
 ·simp
 ·omega
theorem V6 (a:Arms) (h:arms a=true):di C5 [dj a] (S (nL a)):=by
 have e7:(a.ordinary==7)=decide (a.ordinary=7):=by rw[Bool.eq_iff_iff];simp
 have c1:=Ad a.field;have c2:=aPY a;have c3:=aIM a.on;have c4:=aIM a.around;have hp:=Pw (dS a.field) (H5 a) (rU a.on) (rU a.around) (a.ordinary==7) (by omega) (by omega) (by omega) (by omega);rw[Sl h,<- e7];refine aa.of aCA (by simp) ?_;simp[anB,aeY,aeZ];refine aZ (aa.ag (anR a h)) ?_;simp;refine al (aa.ag hp) ?_;simp
abbrev qa:List UInt8:=[97,98,111,118,101]
abbrev kq:List UInt8:=[98,101,116,119,101,101,110]
abbrev pA:List UInt8:=[99,104,97,114,103,101,100]
abbrev Sj:List UInt8:=[119,105,116,104]
abbrev Y0:List UInt8:=[99,104,105,101,102]
structure Taken where
 field:List UInt8
 ord:List UInt8
 on:List UInt8
 around:List UInt8
 chief:Bool
 deriving DecidableEq
def second (s:List UInt8):Option (List UInt8):=(parts 32 s)[1]?
def vF (s:List UInt8):Bool:=match second s with | some w=>EH.contains w | none=>false
def aeD (s:List UInt8):List UInt8×List UInt8:=(me (32::(pA++32::(Sj++[32]))) s,jB (32::(pA++32::(Sj++[32]))) s)
def Dx (s:List UInt8):List UInt8×List UInt8:=if (Z8 (32::(qa++[32])) s).isSome then (me (32::(qa++[32])) s,jB (32::(qa++[32])) s) else (me (32::(kq++[32])) s,jB (32::(kq++[32])) s)
def bI (s:List UInt8):Taken :=
 if vF (jB [44,32] s) then ⟨me [44,32] s,(aeD (Dx (jB [44,32] s)).1).1,(aeD (Dx (jB [44,32] s)).1).2,(Dx (jB [44,32] s)).2,decide (second (jB [44,32] s)=some Y0)⟩
 else ⟨me [44,32] s,[],[],jB [44,32] s,false⟩
theorem Nk {a b:List UInt8} (h:2<=(parts 32 a).length):second (a++32::b)=second a:=by
 unfold second;rw[eW,List.getElem?_append_left (by omega)]
theorem aFq {a:List UInt8} (h:vF a=true):2<=(parts 32 a).length:=by
 unfold vF second at h;cases e:(parts 32 a)[1]? with
 | none=>rw[e] at h;cases h
 | some w=>exact(List.getElem?_eq_some_iff.1 e).1
def onS (n:List UInt8):List UInt8:=if n=[] then [] else 32::(pA++32::(Sj++32::n))
def arS (c:Bool) (r:List UInt8):List UInt8:=if r=[] then [] else 32::((if c then qa else kq)++32::r)
theorem aKf {o n:List UInt8} (ho:ky o) (hn:n=[]\/ky n):∀ w ∈ parts 32 (o++onS n),w ∈ axC\/w=pA\/w=Sj:=by
 intro w hw;unfold onS at hw;split at hw
 ·exact .inl (ho w (by simpa using hw))
 ·rw[eW,eW,eW] at hw;simp only[List.mem_append] at hw;rcases hw with h | h | h | h
  ·exact .inl (ho w h)
  ·exact .inr (.inl (by simpa [parts] using h))
  ·exact .inr (.inr (by simpa [parts] using h))
  ·rename_i hne;exact .inl (hn.resolve_left hne w h)
theorem aO7 {o n:List UInt8} (ho:ky o):aeD (o++onS n)=(o,n):=by
 have hc:pA ∉ parts 32 o:=fun h=>YV.2.2.1 (ho _ h);unfold onS;split
 ·rename_i h;subst h;have h0:=Wy (w:=pA) (c:=32::(pA++32::(Sj++[32]))) (s:=o) (by decide) ⟨Sj++[32],by simp⟩ hc;rw[List.append_nil];unfold aeD me jB;rw[h0]
 ·have h1:=Ip (c:=32::(pA++32::(Sj++[32]))) (a:=o) (b:=n) (by
   have:=aDf (w:=pA) (c:=32::(pA++32::(Sj++[32]))) (a:=o) (b:=pA++32::(Sj++[32])++n) (by decide) ⟨Sj++[32],by simp⟩ hc;simpa using this)
  unfold aeD;simp only[List.append_assoc,List.cons_append,List.nil_append] at h1 ⊢;rw[h1.1,h1.2]
theorem aO5 {o n r:List UInt8} {c:Bool} (ho:ky o) (hn:n=[]\/ky n) (hr:r=[]\/ky r):Dx (o++onS n++arS c r)=(o++onS n,r):=by
 have hw:=aKf ho hn
 have ha:qa ∉ parts 32 (o++onS n):=fun h=>by
  rcases hw _ h with h | h | h
  ·exact YV.2.1 h
  ·exact absurd h (by decide)
  ·exact absurd h (by decide)
 have hb:kq ∉ parts 32 (o++onS n):=fun h=>by
  rcases hw _ h with h | h | h
  ·exact YV.1 h
  ·exact absurd h (by decide)
  ·exact absurd h (by decide)
 generalize o++onS n=t at ha hb ⊢;unfold arS;split
 ·rename_i h;subst h;have h1:=Wy (w:=qa) (c:=32::(qa++[32])) (s:=t) (by decide) ⟨[],by simp⟩ ha;have h2:=Wy (w:=kq) (c:=32::(kq++[32])) (s:=t) (by decide) ⟨[],by simp⟩ hb;rw[List.append_nil];unfold Dx me jB;rw[h1,h2];rfl
 ·rename_i hne;cases c with
  | true =>
    have hf:∀ i,i < t.length->¬(32::(qa++[32])) <+: (t++(32::(qa++[32]))++r).drop i:=by
     have:=aDf (w:=qa) (c:=32::(qa++[32])) (a:=t) (b:=qa++32::r) (by decide) ⟨[],by simp⟩ ha;simpa using this
    have h0:=Te hf;have h1:=Ip hf;unfold Dx;simp only[List.append_assoc,List.cons_append,List.nil_append,if_true] at h0 h1 ⊢;rw[h0,h1.1,h1.2];rfl
  | false =>
    have hn2:qa ∉ parts 32 (t++32::(kq++32::r)):=by
     rw[eW,eW];simp only[List.mem_append];rintro (h | h | h)
     ·exact ha h
     ·exact absurd h (by decide)
     ·exact YV.2.1 (hr.resolve_left hne _ h)
    have h2:=Wy (w:=qa) (c:=32::(qa++[32])) (by decide) ⟨[],by simp⟩ hn2
    have hf:∀ i,i < t.length->¬(32::(kq++[32])) <+: (t++(32::(kq++[32]))++r).drop i:=by
     have:=aDf (w:=kq) (c:=32::(kq++[32])) (a:=t) (b:=kq++32::r) (by decide) ⟨[],by simp⟩ hb;simpa using this
    have h1:=Ip hf;unfold Dx;simp only[List.append_assoc,List.cons_append,List.nil_append,Bool.false_eq_true,if_false] at h1 h2 ⊢;rw[h2,h1.1,h1.2];rfl
theorem auj (f o n r:List UInt8) (c:Bool) (ho:o≠[]):lY f o n r c=f++[44,32]++(o++onS n++arS c r):=by
 unfold lY onS arS;rw[if_neg ho];split<;>split<;>cases c<;>simp
theorem aLJ {f o n r:List UInt8} {c:Bool} (hf:ky f) (hr:r=[]\/ky r) (hn:n=[]\/ky n) (h0:o=[]->n=[]/\c=false/\vF r=false) (h1:o≠[]->ky o/\vF o=true/\c=decide (second o=some Y0)) :
  bI (lY f o n r c)=⟨f,o,n,r,c⟩:=by
 have hcm:=aJp hf;by_cases ho:o=[]
 ·obtain ⟨rfl,rfl,hir⟩:=h0 ho;subst ho;unfold lY;rw[if_pos rfl];split
  ·rename_i h;subst h;have:=aCs hcm;unfold bI me jB;rw[this];simp[vF,second,parts]
  ·have:=att (b:=r) hcm;unfold bI me jB;rw[this];simp[hir]
 ·obtain ⟨h2,h3,h4⟩:=h1 ho;rw[auj f o n r c ho];have e:=att (b:=o++onS n++arS c r) hcm;have e1:me [44,32] (f++[44,32]++(o++onS n++arS c r))=f:=by unfold me;rw[e];simp
  have e2:jB [44,32] (f++[44,32]++(o++onS n++arS c r))=o++onS n++arS c r:=by unfold jB;rw[e];simp
  have h2o:=aFq h3
  have hsec:second (o++onS n++arS c r)=second o:=by
   unfold onS arS;split<;>split
   ·simp
   ·rw[List.append_nil,Nk h2o]
   ·rw[List.append_nil,Nk h2o]
   ·rw[List.append_assoc,List.cons_append,Nk h2o]
  have hio:vF (o++onS n++arS c r)=true:=by unfold vF;rw[hsec];exact h3
  unfold bI;rw[e1,e2,hio,hsec,aO5 h2 hn hr,aO7 h2,<- h4];rfl
theorem aQD:∀ i,i < 9->(32:UInt8) ∉ ua.getD i []:=by decide +kernel
theorem acx {x:Int} (h:fV x 1 9=true):parts 32 (eL x)=[eL x]:=by
 have h:=db.1 h;exact eC (aQD (x - 1).toNat (by omega))
theorem pM {n:Nat} {p:Nat->Bool} (h:(List.range n).all p=true) {i:Nat} (hi:i < n):p i=true:=List.all_eq_true.1 h i (List.mem_range.2 hi)
def aPU (d l:Nat):List UInt8:=C0 ([97,32]++EH.getD d []) (l:Int)
def apart (n m:Nat) (f:Nat->Nat->List UInt8):Bool:=(List.range n).all fun d=>(List.range m).all fun l=>(List.range n).all fun d'=>(List.range m).all fun l'=>!(f d l==f d' l')||(d==d'&&l==l')
theorem aOM {n m:Nat} {f:Nat->Nat->List UInt8} (h:apart n m f=true) {d l d' l':Nat} (h1:d < n) (h2:l < m) (h3:d' < n) (h4:l' < m) (e:f d l=f d' l'):d=d'/\l=l':=by
 have:=pM (pM (pM (pM h h1) h2) h3) h4;rw[e] at this;simpa using this
theorem aNG:apart 7 5 aPU=true:=by decide +kernel
theorem aRM {d l d' l':Int} (h1:1<=d/\d<=7) (h2:0<=l/\l<=4) (h3:1<=d'/\d'<=7) (h4:0<=l'/\l'<=4) (h:rI d l=rI d' l'):d=d'/\l=l':=by
 have:=aOM aNG (d:=(d - 1).toNat) (l:=l.toNat) (d':=(d' - 1).toNat) (l':=l'.toNat) (by omega) (by omega) (by omega) (by omega) (by unfold aPU;rw[Int.toNat_of_nonneg h2.1,Int.toNat_of_nonneg h4.1];exact h);omega
def aBN (c k a:Nat):List UInt8:=jK ⟨(c:Int)+1,(k:Int)+1,(a:Int),1⟩
def axN (k a:Nat):Bool:=if k < 3 then decide (1<=a) else decide (a=0)
theorem aOU:((List.range 6).all fun c=>(List.range 8).all fun k=>(List.range 3).all fun a=>(List.range 6).all fun c'=>(List.range 8).all fun k'=>(List.range 3).all fun a'=>!(axN k a&&axN k' a'&&aBN c k a==aBN c' k' a')||(c==c'&&(k==k'&&a==a')))=true:=by decide +kernel
theorem aOV {g h:Group} (hg:bQ g=true) (hh:bQ h=true) (e:jK g=jK h):g.count=h.count/\g.kind=h.kind/\g.attitude=h.attitude:=by
 have key:∀ {g:Group},bQ g=true->∃ c k a:Nat,c < 6/\k < 8/\a < 3/\((k < 3->1<=a)/\(3<=k->a=0))/\g.count=(c:Int)+1/\g.kind=(k:Int)+1/\g.attitude=a/\jK g=aBN c k a:=fun {g} hg=>by
  obtain ⟨h1,h2,h3,h4⟩:=jM hg
  have h5:(g.kind<=3->1<=g.attitude)/\(3 < g.kind->g.attitude=0):=by
   simp only[bQ,Bool.and_eq_true] at hg;have:=hg.2;split at this
   ·have:=db.1 this;omega
   ·have:=eq_of_beq this;omega
  refine⟨(g.count - 1).toNat,(g.kind - 1).toNat,g.attitude.toNat,by omega,by omega,by omega,by omega,by omega,by omega,by omega,?_⟩;have e1:(((g.count - 1).toNat:Nat):Int)+1=g.count:=by omega
  have e2:(((g.kind - 1).toNat:Nat):Int)+1=g.kind:=by omega
  have e3:((g.attitude.toNat:Nat):Int)=g.attitude:=by omega
  unfold aBN;rw[e1,e2,e3];rfl
 obtain ⟨c,k,a,b1,b2,b3,⟨b4,b5⟩,b6,b7,b8,b9⟩:=key hg;obtain ⟨c',k',a',d1,d2,d3,⟨d4,d5⟩,d6,d7,d8,d9⟩:=key hh;rw[b9,d9] at e;have hb1:axN k a=true:=by unfold axN;split<;>simp<;>omega
 have hb2:axN k' a'=true:=by unfold axN;split<;>simp<;>omega
 have:=pM (pM (pM (pM (pM (pM aOU b1) b2) b3) d1) d2) d3;rw[hb1,hb2,e] at this;simp at this;obtain ⟨rfl,rfl,rfl⟩:=this;exact⟨by omega,by omega,by omega⟩
end Go.Proofs.YtnjjimhkbpdpgaaGreatDoor
