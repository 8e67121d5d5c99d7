/- Parts of the proof that several claims share, part 7. -/
import Derived.Laws.IdiomCopy
import Derived.Deep.RegionLaw
import Derived.Lib.SliceRun
import Derived.WalkKit
import Derived.Lib.Walk
import Derived.Shelf.RegionOpenPlain
import Derived.Deep.LoopGhost
import Derived.ProofKit
import Derived.JoinedCond
import Derived.WideKeyArgs
import Derived.Carry
import Derived.Test.YtnjjimhkbpdpgaaGreatDoorQ6
set_option linter.unusedVariables false
set_option linter.unusedSimpArgs false
namespace Go.Proofs.YtnjjimhkbpdpgaaGreatDoor
open Go.Abs
open Tryz
theorem axj {l:aT} (h:bx l=true):∀ x ∈ l,fV x.number 1 999=true/\arms x.arms=true:=by
 intro x hx;obtain ⟨j,hj,rfl⟩:=List.getElem_of_mem hx;simp only[bx,Bool.and_eq_true] at h;have:=List.all_eq_true.1 h.2 j (List.mem_range.2 hj);have hgj:l.getD j Dz=l[j]:=by rw[List.getD_eq_getElem?_getD,List.getElem?_eq_getElem hj];rfl
 rw[oW,hgj] at this;simp only[Bool.and_eq_true,jx] at this;exact⟨this.1.1,this.1.2.2.2⟩
theorem ayy {l:aT} (h:bx l=true) (p:Grant->Bool):aPL (An p l)/\(An p l).length<=12:=by
 refine⟨fun n hn=>?_,?_⟩
 ·unfold An at hn;obtain ⟨x,hx,e⟩:=List.mem_filterMap.1 hn;have h1:=(axj h x hx).1;simp[fV] at h1;split at e
  ·injection e with e
   subst e;exact⟨by omega,by omega⟩
  ·cases e
 ·have h1:=List.length_filterMap_le (fun g:Grant=>if p g=true then some g.number else none) l;have h2:=eo h;unfold An;omega
theorem aFb (l:aT) (b:Arms):V3 l b=An (fun g=>decide (kx g.arms b < 2)) l:=by unfold V3 An;simp
theorem aMt (l:aT) (s:List UInt8):ofL l s=An (fun g=>g.name==s) l:=by unfold ofL An;simp
theorem aIa {l:aT} (h:bx l=true) {b:Arms} {n:Int} (e:NR l b=some n):T3 n:=by
 unfold NR at e;obtain ⟨x,hx,rfl⟩:=Option.map_eq_some_iff.1 e;have h1:=(axj h x (List.mem_of_find?_eq_some hx)).1;simp[fV] at h1;exact⟨by omega,by omega⟩
theorem aJk {l:aT} (h:bx l=true):T3 (kk l):=by
 unfold kk;split
 ·exact⟨by omega,by omega⟩
 ·rename_i hne;have h1:=(aHa h hne).1;generalize List.getLastD l Dz=z at h1 ⊢;simp[fV] at h1;exact⟨by omega,by omega⟩
theorem aFe (a b:Arms):T3 (kx a b):=by
 have h1:=MH a.field b.field;have h2:=ub a.on b.on;have h3:=ub a.around b.around;have h4:=lD (a.line != b.line);have h5:=lD (a.tincture != b.tincture);unfold kx;split<;>exact⟨by omega,by omega⟩
def Gi (p:aT×List UInt8):V:=.tup [bn p.1,S p.2]
theorem aLv (l:aT) (r:List UInt8) (h:bx l=true) (hr:r.length<=1000000):di adl [bn l,S r] (Gi (reply l (ar8 l r))):=by
 have hG:ar8 l r=if spQ r=true/\spQ (Eb r)=true then
  (ol (FR (Eb r))).bind fun y=>(Gl (Eb (Eb r))).bind fun a=>(yj l (FR r) y a).map fun p=>(p.1,Lib.itoa p.2)
  else none:=rfl
 have hR:∀ o,reply l o=o.getD (l,quW):=fun _=>rfl;refine aa.ofN aEz (by simp) ?_;simp[ati,akk,akl];refine aZ (aa.ag (ad9 r [32] (by omega) (by decide) (by decide))) ?_;have l1:(FR r).length<=r.length:=ye [32] r;have l2:(Eb r).length<=r.length:=qi [32] r;have ea:me [32] r=FR r:=rfl;have eb:jB [32] r=Eb r:=rfl;have ec:(Z8 [32] r).isSome=spQ r:=rfl;rw[ea,eb,ec];generalize FR r=A at hG l1 ⊢;generalize Eb r=R at hG l2 ⊢;generalize spQ r=Q at hG ⊢;simp[akm];refine aZ (aa.ag (ad9 R [32] (by omega) (by decide) (by decide))) ?_;have l3:(FR R).length<=R.length:=ye [32] R;have l4:(Eb R).length<=R.length:=qi [32] R;have ea:me [32] R=FR R:=rfl;have eb:jB [32] R=Eb R:=rfl;have ec:(Z8 [32] R).isSome=spQ R:=rfl;rw[ea,eb,ec];generalize FR R=B at hG l3 ⊢;generalize Eb R=T at hG l4 ⊢;generalize spQ R=Q2 at hG ⊢;simp[akn];refine bB (aa.ag (ad7 B (by omega))) rfl (.inl (by simp[eZ])) (by simp[eZ]) ?_;simp[eZ,ako];refine bB (aa.ag (aFM T (by omega))) rfl (.inl (by simp[ef])) (by simp[ef]) ?_;simp[ef,akp];have bad:ar8 l r=none->reply l (ar8 l r)=(l,quW):=fun e=>by rw[hR,e];rfl
 cases hQ:Q with
 | false =>
   have e:=bad (by rw[hG,hQ];simp);simp[ET,e,Gi,quW]
 | true =>
   cases hQ2:Q2 with
   | false =>
     have e:=bad (by rw[hG,hQ2];simp);simp[ET,e,Gi,quW]
   | true =>
     rw[hQ,hQ2,if_pos ⟨rfl,rfl⟩] at hG;cases hn:ol B with
     | none =>
       have e:=bad (by rw[hG,hn];rfl);simp[ET,e,Gi,quW]
     | some y =>
       rw[hn,Option.bind_some] at hG;cases ha:Gl T with
       | none =>
         have e:=bad (by rw[hG,ha];rfl);simp[ET,e,Gi,quW]
       | some a =>
         rw[ha,Option.bind_some] at hG;simp[akq];refine bB (aa.ag (aJK l A y a h)) rfl (.inr (by simp)) (by simp[ah1]) ?_;simp[ah1,akr];cases hg:yj l A y a with
         | none =>
           have e:=bad (by rw[hG,hg];rfl);simp[aks,e,Gi,quW]
         | some p =>
           have hp:p.2=kk l:=by
            unfold yj at hg;split at hg
            ·injection hg with hg;rw[<- hg]
            ·cases hg
           have hpn:=aJk h;rw[<- hp] at hpn;rw[hg,Option.map_some] at hG;simp[afQ,PI];refine cF (aa.ag (j9 p.2 ⟨by omega,by omega⟩)) ?_;simp;refine⟨a7 (by simp[PI]) (by simp),?_⟩;simp[hR,hG,Gi]
theorem aFN (l:aT) (ws:List (List UInt8)) (h:bx l=true) (h2:2<=ws.length) (hw:∀ w ∈ ws,w.length<=1000000):di ais [bn l,.ro 1 (ws.map S)] (Gi (reply l (ahQ l ws))):=by
 obtain ⟨w0,w1,ws',rfl⟩:∃ a b c,ws=a::b::c:=by
  rcases ws with _ | ⟨a,_ | ⟨b,c⟩⟩
  ·simp at h2
  ·simp at h2
  ·exact⟨a,b,c,rfl⟩
 have hG:ahQ l (w0::w1::ws')=(ol w1).bind fun n =>
  if w0=AN/\ws'.length+1+1=2 then (D7 l n).map fun k=>(k,okW)
  else if w0=lA/\ws'.length+1+1=3 then (oX l n ((w0::w1::ws').getD 2 [])).map fun k=>(k,okW) else none:=rfl
 have hR:∀ o,reply l o=o.getD (l,quW):=fun _=>rfl;have h1:=hw w1 (by simp);refine aa.ofN aGv (by simp) ?_;simp[azl,apY,apZ];refine⟨by omega,?_⟩;refine bB (aa.ag (ad7 w1 h1)) rfl (.inl (by simp[eZ])) (by simp[eZ]) ?_;simp[eZ,ap0];have bad:ahQ l (w0::w1::ws')=none->reply l (ahQ l (w0::w1::ws'))=(l,quW):=fun e=>by rw[hR,e];rfl
 cases hn:ol w1 with
 | none =>
   have e:=bad (by rw[hG,hn];rfl);simp[ap1,e,Gi,quW]
 | some n =>
   rw[hn,Option.bind_some] at hG;simp[ap2];refine⟨by omega,?_⟩;have hrt:AN≠lA:=by decide
   have at8:∀ (b:AS),(ahQ l (w0::w1::ws')=if w0=lA/\ws'.length+1+1=3 then (oX l n ((w0::w1::ws').getD 2 [])).map fun k=>(k,okW) else none)->True:=fun _ _=>trivial;refine⟨fun c0=>⟨fun c1=>?_,fun c1=>?_⟩,fun c0=>?_⟩
   focus
    have d0:w0=AN:=c0;have d1:ws'.length+1+1=2:=by omega
    rw[if_pos ⟨d0,d1⟩] at hG;simp[ap3];refine aZ (aa.ag (aER l n h)) ?_;simp
    have hG8:D7 l n=none->ahQ l (w0::w1::ws')=if w0=lA/\ws'.length+1+1=3 then (oX l n ((w0::w1::ws').getD 2 [])).map fun k=>(k,okW) else none:=fun e=>by
     rw[hG,e,if_neg (by rintro ⟨e,_⟩;exact hrt (d0.symm.trans e))];rfl
    rcases hv:D7 l n with _ | k
    rotate_left
    ·rw[hv,Option.map_some] at hG;simp;refine cp _ (Wk.frz 34 ⟨18,List.map bd k⟩ (by simp) (by simp) (by simp)) ?_;simp[ZR,List.take_of_length_le];simp[ap4,hR,hG,Gi,okW]
    have hG8:=hG8 hv;simp;refine cp _ (Wk.refl _) ?_;simp[ZR];refine cp ⟨[(1,.ro 1 (S w0::S w1::ws'.map S)),(2,.ref 2 0 0),(4,.ref 4 0 0),(6,I n)],[(4,⟨1,[.agg [nM]]⟩),(2,⟨1,[bn l]⟩)],[]⟩ Wk.li ?_
   rotate_left
   focus
    have hG8:ahQ l (w0::w1::ws')=if w0=lA/\ws'.length+1+1=3 then (oX l n ((w0::w1::ws').getD 2 [])).map fun k=>(k,okW) else none:=by
     rw[hG,if_neg (by rintro ⟨_,e⟩;omega)]
    refine cp ⟨[(1,.ro 1 (S w0::S w1::ws'.map S)),(2,.ref 2 0 0),(4,.ref 4 0 0),(6,I n)],[(4,⟨1,[.agg [nM]]⟩),(2,⟨1,[bn l]⟩)],[]⟩ Wk.li ?_
   rotate_left
   focus
    have hG8:ahQ l (w0::w1::ws')=if w0=lA/\ws'.length+1+1=3 then (oX l n ((w0::w1::ws').getD 2 [])).map fun k=>(k,okW) else none:=by
     rw[hG,if_neg (by rintro ⟨e,_⟩;exact c0 e)]
    refine cp ⟨[(1,.ro 1 (S w0::S w1::ws'.map S)),(2,.ref 2 0 0),(4,.ref 4 0 0),(6,I n)],[(4,⟨1,[.agg [nM]]⟩),(2,⟨1,[bn l]⟩)],[]⟩ Wk.li ?_
   all_goals
    clear hG;simp[ap5];refine⟨by omega,?_⟩;refine⟨fun t0=>⟨fun t1=>?_,fun t1=>?_⟩,fun t0=>?_⟩
    ·have d0:w0=lA:=t0;rw[if_pos ⟨d0,by omega⟩] at hG8
     obtain ⟨w2,rfl⟩:∃ w2,ws'=[w2]:=by
      rcases ws' with _ | ⟨a,_ | ⟨b,c⟩⟩
      ·simp only[List.length_nil] at t1;omega
      ·exact⟨a,rfl⟩
      ·simp only[List.length_cons] at t1;omega
     have hgd:(w0::w1::[w2]).getD 2 []=w2:=rfl;rw[hgd] at hG8;simp[ap6,Zu];refine Gw (aa.ag (aBo l n w2 h)) rfl (.inr (by simp)) ?_ ?_ ?_
     ·simp[acR]
     ·simp[acR]
     simp[acR];refine⟨a7 (by simp[Zu,acR]) (by simp[acR]),?_⟩;cases hv2:oX l n w2 with
     | none =>
       have e:=bad (by rw[hG8,hv2];rfl);refine cp _ (Wk.refl _) ?_;simp[U0,Ld,e,Gi,quW]
     | some k =>
       rw[hv2,Option.map_some] at hG8;refine cp _ (Wk.refl _) ?_;simp[U0,akj,hR,hG8,Gi,okW]
    ·have e:=bad (by rw[hG8,if_neg (by rintro ⟨_,e⟩;omega)]);simp[Ld,e,Gi,quW]
    ·have e:=bad (by rw[hG8,if_neg (by rintro ⟨e,_⟩;exact t0 e)]);simp[Ld,e,Gi,quW]
theorem amo (l:aT) (ws:List (List UInt8)) (h:bx l=true) (h2:2<=ws.length) (hw:∀ w ∈ ws,w.length<=1000000):di Zn [bn l,.ro 1 (ws.map S)] (S ((axL l ws).getD quW)):=by
 obtain ⟨w0,w1,ws',rfl⟩:∃ a b c,ws=a::b::c:=by
  rcases ws with _ | ⟨a,_ | ⟨b,c⟩⟩
  ·simp at h2
  ·simp at h2
  ·exact⟨a,b,c,rfl⟩
 have hl:=eo h
 have hG:axL l (w0::w1::ws')=(nQ l w1).bind fun a =>
  if w0=Vo/\ws'.length+1+1=2 then some (nL a)
  else if w0=Fk/\ws'.length+1+1=2 then some (amq a)
  else if w0=rk/\ws'.length+1+1=3 then (nQ l ((w0::w1::ws').getD 2 [])).map fun b=>Lib.itoa (kx a b) else none:=rfl
 have hA:nQ l w1=(ol w1).bind fun n=>(xD l n).map fun i=>(l.getD i Dz).arms:=rfl;have h1:=hw w1 (by simp);refine aa.ofN aCM (by simp) ?_;simp[anK,afR,afS];refine⟨by omega,?_⟩;refine bB (aa.ag (ad7 w1 h1)) rfl (.inl (by simp[eZ])) (by simp[eZ]) ?_;simp[eZ,afT];refine al (aa.ag (anb l (by omega) ((ol w1).getD 0))) ?_;simp[afU];cases hn:ol w1 with
 | none =>
   rw[hn] at hA;have hA:nQ l w1=none:=hA;rw[hA] at hG;simp at hG;simp[PU,hG,quW]
 | some n =>
   rw[hn,Option.bind_some] at hA;have hp:=M7 l n;cases hi:xD l n with
   | none =>
     rw[hi] at hA hp;have hA:nQ l w1=none:=hA;rw[hA] at hG;simp at hG;simp[hp,PU,hG,quW]
   | some i =>
     rw[hi] at hA hp;have hlt:=Ob hi;have hg:l[i]?=some l[i]:=List.getElem?_eq_getElem hlt;have hgd:l.getD i Dz=l[i]:=by rw[List.getD_eq_getElem?_getD,hg];rfl
     rw[Option.map_some,hgd] at hA;have hxa:=(axj h l[i] (List.getElem_mem _)).2;generalize l[i]=x at hA hg hxa;rw[hA,Option.bind_some] at hG;simp[hp];refine⟨by omega,?_⟩;simp[afV,hg];refine⟨hlt,?_⟩;simp[afW];refine⟨by omega,fun c0=>⟨fun c1=>?_,fun c1=>?_⟩,fun c0=>?_⟩
     focus
      have d0:w0=Vo:=c0;rw[if_pos ⟨d0,by omega⟩] at hG;simp[afX];refine al (aa.ag (acr x.arms hxa)) ?_;simp[hG]
     focus
      have hG8:axL l (w0::w1::ws')=if w0=Fk/\ws'.length+1+1=2 then some (amq x.arms)
        else if w0=rk/\ws'.length+1+1=3 then (nQ l ((w0::w1::ws').getD 2 [])).map fun b=>Lib.itoa (kx x.arms b) else none:=by
       rw[hG,if_neg (by rintro ⟨_,e⟩;omega)]
      refine cp ⟨[(1,.ro 1 (S w0::S w1::ws'.map S)),(2,.ref 2 0 0),(8,.ref 8 0 0)],[(8,⟨15,[dj x.arms]⟩),(2,⟨1,[bn l]⟩)],[]⟩ Wk.li ?_
     rotate_left
     focus
      have hG8:axL l (w0::w1::ws')=if w0=Fk/\ws'.length+1+1=2 then some (amq x.arms)
        else if w0=rk/\ws'.length+1+1=3 then (nQ l ((w0::w1::ws').getD 2 [])).map fun b=>Lib.itoa (kx x.arms b) else none:=by
       rw[hG,if_neg (by rintro ⟨e,_⟩;exact c0 e)]
      refine cp ⟨[(1,.ro 1 (S w0::S w1::ws'.map S)),(2,.ref 2 0 0),(8,.ref 8 0 0)],[(8,⟨15,[dj x.arms]⟩),(2,⟨1,[bn l]⟩)],[]⟩ Wk.li ?_
     all_goals
      clear hG;simp[afY];refine⟨by omega,fun k0=>⟨fun k1=>?_,fun k1=>?_⟩,fun k0=>?_⟩
      focus
       have d0:w0=Fk:=k0;rw[if_pos ⟨d0,by omega⟩] at hG8;simp[afZ,PJ];have hpa:(fq x.arms).arms=gO x.arms:=rfl;refine Gw (aa.ag (ang x.arms hxa)) rfl (.inl (by simp[cy])) ?_ ?_ ?_
       ·simp[cy]
       ·simp[cy]
       simp[cy];have hsh:=axp x.arms hxa (jI x.arms).length [] (fq x.arms) (Oc hxa) (by simp);have hok:=aSF (a:=x.arms) (r:=(jI x.arms).length) (L:=[]) (Oc hxa);have htx:=aLA x.arms hxa;generalize sF x.arms (jI x.arms).length [] (fq x.arms)=K at hsh hok htx;refine aBC [] [57,59] (jA.arg hsh (by simp[List.take_of_length_le,hpa])) (by simp) (by simp) (by simp) (by simp) rfl (by simp) (by simp) (by simp) (by simp) ?_;simp;refine cF (aa.ag (Vm K hok)) ?_;simp;refine⟨a7 (by simp[PJ]) (by simp),?_⟩;simp[hG8,htx]
      focus
       have hG9:axL l (w0::w1::ws')=if w0=rk/\ws'.length+1+1=3 then (nQ l ((w0::w1::ws').getD 2 [])).map fun b=>Lib.itoa (kx x.arms b) else none:=by
        rw[hG8,if_neg (by rintro ⟨_,e⟩;omega)]
       refine cp ⟨[(1,.ro 1 (S w0::S w1::ws'.map S)),(2,.ref 2 0 0),(8,.ref 8 0 0)],[(8,⟨15,[dj x.arms]⟩),(2,⟨1,[bn l]⟩)],[]⟩ Wk.li ?_
      rotate_left
      focus
       have hG9:axL l (w0::w1::ws')=if w0=rk/\ws'.length+1+1=3 then (nQ l ((w0::w1::ws').getD 2 [])).map fun b=>Lib.itoa (kx x.arms b) else none:=by
        rw[hG8,if_neg (by rintro ⟨e,_⟩;exact k0 e)]
       refine cp ⟨[(1,.ro 1 (S w0::S w1::ws'.map S)),(2,.ref 2 0 0),(8,.ref 8 0 0)],[(8,⟨15,[dj x.arms]⟩),(2,⟨1,[bn l]⟩)],[]⟩ Wk.li ?_
      all_goals
       clear hG8;simp[abL];refine⟨by omega,fun e0=>⟨fun e1=>?_,fun e1=>?_⟩,fun e0=>?_⟩
       ·have d0:w0=rk:=e0;rw[if_pos ⟨d0,by omega⟩] at hG9
        obtain ⟨w2,rfl⟩:∃ w2,ws'=[w2]:=by
         rcases ws' with _ | ⟨a,_ | ⟨b,c⟩⟩
         ·simp only[List.length_nil] at e1;omega
         ·exact⟨a,rfl⟩
         ·simp only[List.length_cons] at e1;omega
        have hgd:(w0::w1::[w2]).getD 2 []=w2:=rfl;rw[hgd] at hG9;have hA2:nQ l w2=(ol w2).bind fun n=>(xD l n).map fun i=>(l.getD i Dz).arms:=rfl;simp[abM];refine bB (aa.ag (ad7 w2 (hw w2 (by simp)))) rfl (.inl (by simp[eZ])) (by simp[eZ]) ?_;simp[eZ,abN];refine al (aa.ag (anb l (by omega) ((ol w2).getD 0))) ?_;simp[abO];cases hn2:ol w2 with
        | none =>
          rw[hn2] at hA2;have hA2:nQ l w2=none:=hA2;have e:axL l (w0::w1::[w2])=none:=by rw[hG9,hA2];rfl
          simp;refine cp _ (Wk.refl _) ?_;simp[za,e,quW]
        | some n2 =>
          rw[hn2,Option.bind_some] at hA2;have hp2:=M7 l n2;cases hi2:xD l n2 with
          | none =>
            rw[hi2] at hA2 hp2;have hA2:nQ l w2=none:=hA2;have e:axL l (w0::w1::[w2])=none:=by rw[hG9,hA2];rfl
            simp[hp2];refine cp _ (Wk.refl _) ?_;simp[za,e,quW]
          | some i2 =>
            rw[hi2] at hA2 hp2;have hlt2:=Ob hi2;have hg2:l[i2]?=some l[i2]:=List.getElem?_eq_getElem hlt2;have hgd2:l.getD i2 Dz=l[i2]:=by rw[List.getD_eq_getElem?_getD,hg2];rfl
            rw[Option.map_some,hgd2] at hA2;generalize l[i2]=z at hA2 hg2;rw[hA2,Option.map_some] at hG9;simp[hp2];refine⟨?_,fun h=>by omega⟩;have hdn:=aFe x.arms z.arms;simp[abP,M6,hg2];refine⟨hlt2,?_⟩;refine cF (aa.ag (aDF x.arms z.arms)) ?_;simp;refine cF (aa.ag (j9 (kx x.arms z.arms) ⟨by omega,by omega⟩)) ?_;simp;refine⟨a7 (by simp[M6]) (by simp),?_⟩;simp[hG9]
       ·have e:axL l (w0::w1::ws')=none:=by rw[hG9,if_neg (by rintro ⟨_,e⟩;omega)]
        refine cp _ (Wk.refl _) ?_;simp[za,e,quW]
       ·have e:axL l (w0::w1::ws')=none:=by rw[hG9,if_neg (by rintro ⟨e,_⟩;exact e0 e)]
        refine cp _ (Wk.refl _) ?_;simp[za,e,quW]
theorem ad8 (l:aT) (w r:List UInt8) (h:bx l=true) (hr:r.length<=1000000):di adm [bn l,S w,S r] (S ((aJ5 l w r).getD quW)):=by
 have hT:aJ5 l w r=if w=ofW then (if mR r=true then some (FL (ofL l r)) else none) else axH l w r:=rfl
 have hA:axH l w r=(Gl r).bind fun a=>if w=jw then some (FL (V3 l a)) else if w=Jn then (NR l a).map Lib.itoa else some (nL a):=rfl
 have hl:=eo h;refine aa.ofN aEA (by simp) ?_;simp[atj,akt,aku];refine⟨fun c0=>?_,fun c0=>?_⟩
 ·have d0:w=ofW:=c0;rw[if_pos d0] at hT;simp[akv];refine al (aa.ag (ayO r)) ?_;cases hv:mR r with
  | false =>
    rw[hv,if_neg (by decide)] at hT;simp[akw,hT,quW]
  | true =>
    rw[hv,if_pos rfl] at hT;obtain ⟨k1,k2⟩:=ayy h (fun g=>g.name==r);rw[<- aMt] at k1 k2;simp[akx];refine aZ (aa.ag (aLs l r h)) ?_;simp[aky];refine al (aa.ag (asH (ofL l r) (by omega) k1)) ?_;simp[hT]
 ·rw[if_neg (show ¬w=ofW from c0)] at hT;simp[akz];refine bB (aa.ag (aFM r hr)) rfl (.inl (by simp[ef])) (by simp[ef]) ?_;simp[ef,akA];cases ha:Gl r with
  | none =>
    rw[ha] at hA;have hA:axH l w r=none:=hA;simp[akB,hT,hA,quW]
  | some a =>
    rw[ha,Option.bind_some] at hA;have hok:=aBM ha;simp[akC,af0];refine⟨fun c1=>?_,fun c1=>?_⟩
    ·have d1:w=jw:=c1;rw[if_pos d1] at hA;obtain ⟨k1,k2⟩:=ayy h (fun g=>decide (kx g.arms a < 2));rw[<- aFb] at k1 k2;have hcf:=LJ l a (by omega);rw[aO3] at hcf;simp[af1];refine aZ (aa.ag hcf) ?_;simp;refine al (aa.ag (asH (V3 l a) (by omega) k1)) ?_;simp[hT,hA]
    ·rw[if_neg (show ¬w=jw from c1)] at hA;simp[af2];refine⟨fun c2=>?_,fun c2=>?_⟩
     ·have d2:w=Jn:=c2;rw[if_pos d2] at hA;simp[af3];refine bB (aa.ag (aLr l a h)) rfl (.inl (by simp[eZ])) (by simp[eZ]) ?_;simp[eZ,af4];cases hf:NR l a with
      | none =>
        rw[hf] at hA;have hA:axH l w r=none:=hA;simp[af6,hT,hA,quW]
      | some n =>
        have hn:=aIa h hf;rw[hf,Option.map_some] at hA;simp[af5];refine al (aa.ag (j9 n ⟨by omega,by omega⟩)) ?_;simp[hT,hA]
     ·rw[if_neg (show ¬w=Jn from c2)] at hA;simp[af7];refine al (aa.ag (acr a hok)) ?_;simp[hT,hA]
theorem aQg (l:aT) (s:List UInt8) (h:bx l=true) (hs:s.length<=1000000):di asl [bn l,S s] (Gi (ad5 l s)):=by
 have hl:=eo h
 have hS:ad5 l s=if s=JO then (l,FL (l.map (·.number)))
  else if spQ s=false then (l,quW)
  else if FR s=ML then reply l (ar8 l (Eb s))
  else if FR s=AN\/FR s=lA then reply l (ahQ l (parts 32 s))
  else if FR s=Vo\/FR s=Fk\/FR s=rk then (l,(axL l (parts 32 s)).getD quW)
  else if FR s=ofW\/FR s=jw\/FR s=Jn\/FR s=Vu then (l,(aJ5 l (FR s) (Eb s)).getD quW)
  else (l,quW):=rfl
 have hps:∀ w ∈ parts 32 s,w.length<=1000000:=fun w hw=>Nat.le_trans (azY hw) hs;have l2:(Eb s).length<=s.length:=qi [32] s;refine aa.ofN aIn (by simp) ?_;simp[aB5,avr,avs];refine aZ (aa.ag (ad9 s [32] (by omega) (by decide) (by decide))) ?_;have ea:me [32] s=FR s:=rfl;have eb:jB [32] s=Eb s:=rfl;have ec:(Z8 [32] s).isSome=spQ s:=rfl;rw[ea,eb,ec];simp[avt];refine⟨fun c0=>?_,fun c0=>?_⟩
 ·rw[if_pos (show s=JO from c0)] at hS;simp[avu,avv,at0];refine dl (fun i:Nat=>⟨[(2,.ref 2 0 0),(4,.ref 4 0 0),(9,.sl 20 0 i),(10,I i)],[(2,⟨1,[bn l]⟩),(4,⟨1,[.agg [nM]]⟩),(20,⟨1,mi (An (fun _=>true) (l.take i))⟩)],[]⟩) (fun i=>l.length - i) (fun i=>i<=l.length/\(An (fun _=>true) (l.take i)).length=i) 0 (Wk.list rfl (by simp) (by simp[An])) ⟨by simp,by simp[An]⟩ ?_;rintro i ⟨hi,hil⟩ K hN hR hE;simp[avw,avy];refine⟨fun hlt=>?_,fun hge=>?_⟩
  ·have hcs:=ayz (p:=fun _=>true) hlt;rw[if_pos rfl] at hcs;obtain ⟨x,hx⟩:∃ x,l[i]=x:=⟨_,rfl⟩;have hg:l[i]?=some x:=by rw[<- hx];exact List.getElem?_eq_getElem hlt
   rw[hx] at hcs;have hnl:(An (fun _=>true) (l.take (i+1))).length=i+1:=by rw[hcs];simp[hil]
   generalize An (fun _=>true) (l.take i)=L at hil hcs ⊢;simp[avx,hg];refine⟨hlt,⟨by omega,by unfold bR;omega⟩,?_⟩;rw[aD (by omega),List.take_of_length_le (by simp;omega)];exact hN (i+1) _ (by omega) ⟨by omega,hnl⟩ (Wk.trans (Wk.ren 36 20 (by decide) (by simp)) (Wk.list rfl (by simp) (by simp[hcs])))
  ·obtain rfl:i=l.length:=by omega
   refine hE _ _ ?_
   have hnm:An (fun _=>true) (l.take l.length)=l.map (·.number):=by
    rw[List.take_length];unfold An;simp
   obtain ⟨k1,k2⟩:=ayy h (fun _=>true);rw[List.take_length] at hil hnm ⊢;rw[hnm] at hil k1 k2 ⊢;generalize l.map (·.number)=L at hS hil k1 k2 ⊢;simp[avz,ady];refine iV (aa.arg (asH L (by omega) k1) (by simp[List.take_of_length_le,hil])) ?_ ?_ ?_
   ·simp
   ·simp
   simp;refine⟨a7 (by simp[ady]) (by simp),?_⟩;simp[hS,Gi]
 ·rw[if_neg (show ¬s=JO from c0)] at hS;simp[ap9];cases hQ:spQ s with
  | false =>
    rw[hQ,if_pos rfl] at hS;simp[aqa,hS,Gi,quW]
  | true =>
    rw[hQ,if_neg (by decide)] at hS;simp[aqb];refine aZ (aa.ag (Ni s 32 (by omega))) ?_
    have hP2:2<=(parts 32 s).length:=by
     rw[am7];rcases Ph s with h | ⟨a,b,rfl,h⟩
     ·rw[(S2 h).2.2.1] at hQ;cases hQ
     ·simp
    generalize parts 32 s=P at hS hps hP2 ⊢;generalize FR s=w at hS ⊢;generalize Eb s=R at hS l2 ⊢;refine cp _ (Wk.frz 44 ⟨1,List.map S P⟩ (by simp) (by simp) (by simp)) ?_;by_cases hw:w=ML
    ·rw[hw,if_pos rfl] at hS;simp[hw,ML,lq,lr,aqc];refine bB (aa.ag (aLv l R h (by omega))) rfl (.inr (by simp)) (by simp[Gi]) ?_;simp[hS,Gi]
    have n1:=hw;clear hw;by_cases hw:w=AN
    ·rw[hw,if_neg (by decide),if_pos (by decide)] at hS;simp[hw,AN,lq,lr,mq,mr,ZS];refine bB (aa.ag (aFN l P h hP2 hps)) rfl (.inr (by simp)) (by simp[Gi]) ?_;simp[hS,Gi]
    have n2:=hw;clear hw;by_cases hw:w=lA
    ·rw[hw,if_neg (by decide),if_pos (by decide)] at hS;simp[hw,lA,lq,lr,mq,mr,ZS];refine bB (aa.ag (aFN l P h hP2 hps)) rfl (.inr (by simp)) (by simp[Gi]) ?_;simp[hS,Gi]
    have n3:=hw;clear hw;by_cases hw:w=Vo
    ·rw[hw,if_neg (by decide),if_neg (by decide),if_pos (by decide)] at hS;simp[hw,Vo,lq,lr,mq,mr,p5,p6,p7,NC,xC];refine cF (aa.ag (amo l P h hP2 hps)) ?_;simp;refine⟨a7 (by simp[xC]) (by simp),?_⟩;simp[hS,Gi]
    have n4:=hw;clear hw;by_cases hw:w=Fk
    ·rw[hw,if_neg (by decide),if_neg (by decide),if_pos (by decide)] at hS;simp[hw,Fk,lq,lr,mq,mr,p5,p6,p7,NC,xC];refine cF (aa.ag (amo l P h hP2 hps)) ?_;simp;refine⟨a7 (by simp[xC]) (by simp),?_⟩;simp[hS,Gi]
    have n5:=hw;clear hw;by_cases hw:w=rk
    ·rw[hw,if_neg (by decide),if_neg (by decide),if_pos (by decide)] at hS;simp[hw,rk,lq,lr,mq,mr,p5,p6,p7,NC,xC];refine cF (aa.ag (amo l P h hP2 hps)) ?_;simp;refine⟨a7 (by simp[xC]) (by simp),?_⟩;simp[hS,Gi]
    have n6:=hw;clear hw;by_cases hw:w=ofW
    ·rw[hw,if_neg (by decide),if_neg (by decide),if_neg (by decide),if_pos (by decide)] at hS;simp[hw,ofW,lq,lr,mq,mr,p5,p6,p7,C9,Da,Db,Dc,G6,pW];refine iV (aa.arg (ad8 l ofW R h (by omega)) (by simp[ofW])) ?_ ?_ ?_
     ·simp
     ·simp
     simp;refine⟨a7 (by simp[pW]) (by simp),?_⟩;simp[hS,Gi,ofW]
    have n7:=hw;clear hw;by_cases hw:w=jw
    ·rw[hw,if_neg (by decide),if_neg (by decide),if_neg (by decide),if_pos (by decide)] at hS;simp[hw,jw,lq,lr,mq,mr,p5,p6,p7,C9,Da,Db,Dc,G6,pW];refine iV (aa.arg (ad8 l jw R h (by omega)) (by simp[jw])) ?_ ?_ ?_
     ·simp
     ·simp
     simp;refine⟨a7 (by simp[pW]) (by simp),?_⟩;simp[hS,Gi,jw]
    have n8:=hw;clear hw;by_cases hw:w=Jn
    ·rw[hw,if_neg (by decide),if_neg (by decide),if_neg (by decide),if_pos (by decide)] at hS;simp[hw,Jn,lq,lr,mq,mr,p5,p6,p7,C9,Da,Db,Dc,G6,pW];refine iV (aa.arg (ad8 l Jn R h (by omega)) (by simp[Jn])) ?_ ?_ ?_
     ·simp
     ·simp
     simp;refine⟨a7 (by simp[pW]) (by simp),?_⟩;simp[hS,Gi,Jn]
    have n9:=hw;clear hw;by_cases hw:w=Vu
    ·rw[hw,if_neg (by decide),if_neg (by decide),if_neg (by decide),if_pos (by decide)] at hS;simp[hw,Vu,lq,lr,mq,mr,p5,p6,p7,C9,Da,Db,Dc,G6,pW];refine iV (aa.arg (ad8 l Vu R h (by omega)) (by simp[Vu])) ?_ ?_ ?_
     ·simp
     ·simp
     simp;refine⟨a7 (by simp[pW]) (by simp),?_⟩;simp[hS,Gi,Vu]
    have n10:=hw;rw[if_neg n1,if_neg (by rintro (e | e)<;>first | exact n2 e | exact n3 e),if_neg (by rintro (e | e | e)<;>first | exact n4 e | exact n5 e | exact n6 e),if_neg (by rintro (e | e | e | e)<;>first | exact n7 e | exact n8 e | exact n9 e | exact n10 e)] at hS;simp only[ML,AN,lA,Vo,Fk,rk,ofW,jw,Jn,Vu] at n1 n2 n3 n4 n5 n6 n7 n8 n9 n10;simp[n1,n2,n3,n4,n5,n6,n7,n8,n9,n10,lq,lr,mq,mr,p5,p6,p7,C9,Da,Db,Dc,aqd];simp[hS,Gi,quW]
set_option maxRecDepth 100000
def pY:=[eF 2 1 0,dD 4 1 (.agg [vN]),ok 5 (vS []),ok 6 (vB false)]
def pZ:=[om 23 1,oo 24 (.call MX [.t 23,(.k (vS [32])),xI 4]),om 7 24]
def p4:=[om 26 7,oo 27 (.iaddr 1 (.t 26) (xI 0)),bl 28 1 27,oo 29 (.bin .eql .none (.t 28) (.k (vS [103,114,97,110,116]))),om 30 29,oT 30 31 (.mv (.t 7)),oT 30 32 (.len false (.t 31)),oT 30 33 (.bin .eql .none (.t 32) (xI 4)),oo 34 (.pick (.t 30) (.t 33) (xB false)),om 25 34]
def SF:=[om 36 7,oo 37 (.iaddr 1 (.t 36) (xI 2)),bl 38 1 37,cg 39 Ft 38,om 35 39,cJ 40 35 0,cJ 41 35 1,om 8 40,om 9 41]
def SG:=[om 43 7,oo 44 (.iaddr 1 (.t 43) (xI 3)),bl 45 1 44,cg 46 Wp 45,om 42 46,cJ 47 42 0,cJ 48 42 1,dD 10 15 lm,bg 15 10 47,om 11 48]
def SH:=[om 49 9,oo 50 (.un .not (.t 49)),om 51 50,oF 51 52 (.mv (.t 11)),oF 51 53 (.un .not (.t 52)),oo 54 (.pick (.t 51) (xB true) (.t 53))]
def adM:=[bu 55 1 2,bg 1 4 55,ok 5 (vS []),ok 6 (vB false)]
def auq:=[bu 57 1 2,om 58 7,oo 59 (.iaddr 1 (.t 58) (xI 1)),bl 60 1 59,om 61 8,bu 62 15 10,oo 63 (.call Zh [.t 57,.t 60,.t 61,.t 62]),om 56 63,cJ 64 56 0,cJ 65 56 1,cJ 66 56 2,dD 12 1 (.agg [vN]),bg 1 12 64,om 13 65,om 14 66]
def adw:List (List Nat):=[[],[],[1],[1,2],[],[],[0,1,2,3,4,5],[0,1,2,3,4,5,6],[0,1,2,3,4,5,6,7],[0,1,2,3,4,5,6,7],[0,1,2,3,4,5,6,7],[],[0,1,2,3,4,5,6,7,8,11],[0,1,2,3,4,5,6,7,8,9,11,12],[0,1,2,3,4,5,6,7,8,9,10,11,12,13]]
def aur:=[bu 67 1 12,om 68 13,cg 69 kF 68,om 70 14,bg 1 4 67,om 5 69,om 6 70]
def adx:List (List Nat):=[[],[],[1],[],[0,1,2],[0,1,2,4],[0,1,2,3,4,5]]
def AE:=[om 72 7,oo 73 (.iaddr 1 (.t 72) (xI 0)),bl 74 1 73,oo 75 (.bin .eql .none (.t 74) (.k (vS [114,101,118,111,107,101]))),om 76 75,oT 76 77 (.mv (.t 7)),oT 76 78 (.len false (.t 77)),oT 76 79 (.bin .eql .none (.t 78) (xI 2)),oo 80 (.pick (.t 76) (.t 79) (xB false)),om 71 80]
def aop:=[om 82 7,oo 83 (.iaddr 1 (.t 82) (xI 1)),bl 84 1 83,cg 85 Ft 84,om 81 85,cJ 86 81 0,cJ 87 81 1,om 15 86,om 16 87]
def aoq:=[bu 89 1 2,om 90 15,dK 91 PC 89 90,om 88 91,cJ 92 88 0,cJ 93 88 1,dD 17 1 (.agg [vN]),bg 1 17 92,om 18 93]
def aor:=[bu 94 1 17,om 95 16,om 96 95,oT 96 97 (.mv (.t 18)),oo 98 (.pick (.t 96) (.t 97) (xB false)),bg 1 4 94,ok 5 (vS [111,107]),om 6 98]
def C8:=[om 100 7,oo 101 (.iaddr 1 (.t 100) (xI 0)),bl 102 1 101,oo 103 (.bin .eql .none (.t 102) (.k (vS [116,114,97,110,115,102,101,114]))),om 104 103,oT 104 105 (.mv (.t 7)),oT 104 106 (.len false (.t 105)),oT 104 107 (.bin .eql .none (.t 106) (xI 3)),oo 108 (.pick (.t 104) (.t 107) (xB false)),om 99 108]
def aos:=[om 110 7,oo 111 (.iaddr 1 (.t 110) (xI 1)),bl 112 1 111,cg 113 Ft 112,om 109 113,cJ 114 109 0,cJ 115 109 1,om 19 114,om 20 115]
def aot:=[bu 117 1 2,om 118 19,om 119 7,oo 120 (.iaddr 1 (.t 119) (xI 2)),bl 121 1 120,oo 122 (.call JW [.t 117,.t 118,.t 121]),om 116 122,cJ 123 116 0,cJ 124 116 1,dD 21 1 (.agg [vN]),bg 1 21 123,om 22 124]
def Zq:List (List Nat):=[[],[],[],[2],[2,3],[0,1,2,3,4],[0,1,2,3,4,5],[0,1,2,3,4,5,6],[0,1,2,3,4,5,6],[],[0,1,2,3,4,5,6,7,9],[0,1,2,3,4,5,6,7,8,9,10]]
def aou:=[bu 125 1 21,om 126 20,om 127 126,oT 127 128 (.mv (.t 22)),oo 129 (.pick (.t 127) (.t 128) (xB false)),bg 1 4 125,ok 5 (vS [111,107]),om 6 129]
def GV:=[bu 130 1 2,bg 1 4 130,ok 5 (vS []),ok 6 (vB false)]
def xq:C:=(sr pY [1,2,4] (sr pZ [2,4,7] (ss (.block 0 (sr p4 [2,4,7,25] (sc 25 (sr SF [2,4,7,8,9] (sr SG [2,4,7,8,9,10,11] (ss (sr SH [2,4,7,8,10,54] (sc 54 (sr adM [4,5,6] .ret) .skip)) (ss (.regD auq adw [4,12,13,14]) (ss (.regD aur adx [4,5,6]) .ret))))) (sr AE [2,4,7,71] (sc 71 (sr aop [2,4,15,16] (sr aoq [4,16,17,18] (sr aor [4,5,6] .ret))) (sr C8 [2,4,7,99] (sc 99 (sr aos [2,4,7,19,20] (ss (.regD aot Zq [4,20,21,22]) (sr aou [4,5,6] .ret))) .skip))))))) (sr GV [4,5,6] .ret))))
theorem vz:cE adb xq [(.cell 4 true 1),(.tmp 5),(.tmp 6)] 131:=dE func50 rfl
def oH:=[eF 2 1 0,ok 4 (vS []),ok 5 (vB false)]
def oJ:=[om 23 1,oo 24 (.call gL [.t 23,(.k (vS [32]))]),om 22 24,cJ 25 22 0,cJ 26 22 1,cJ 27 22 2,dD 7 1 (vS []),om 6 25,bg 1 7 26,om 8 27]
def oL:=[om 28 6]
def oM:=[oo 30 (.bin .eql .none (.t 28) (.k (vS [108,105,115,116]))),om 29 30]
def aun:=[bu 31 1 2,oo 32 (.call qq [.t 31,(.k (.clo Sy []))]),om 33 1,oo 34 (.bin .eql .none (.t 33) (.k (vS [108,105,115,116]))),dK 35 A7 32 34,cJ 36 35 0,cJ 37 35 1,om 4 36,om 5 37]
def pX:=[oo 39 (.bin .eql .none (.t 28) (.k (vS [115,104,111,119]))),om 38 39]
def adK:=[bu 41 1 2,bl 42 1 7,dK 43 mX 41 42,om 40 43,cJ 44 40 0,cJ 45 40 1,dD 9 15 lm,bg 15 9 44,om 10 45]
def adL:=[om 46 10,oo 47 (.un .not (.t 46))]
def auo:=[ok 4 (vS []),ok 5 (vB false)]
def aup:=[bu 48 15 9,cg 49 C5 48,om 4 49,ok 5 (vB true)]
def sM:=[oo 51 (.bin .eql .none (.t 28) (.k (vS [115,104,111,114,116]))),om 50 51]
def Zz:=[bu 53 1 2,bl 54 1 7,dK 55 mX 53 54,om 52 55,cJ 56 52 0,cJ 57 52 1,dD 11 15 lm,bg 15 11 56,om 12 57]
def ZA:=[om 58 12,oo 59 (.un .not (.t 58))]
def aoe:=[ok 4 (vS []),ok 5 (vB false)]
def aof:=[bu 61 15 11,cg 62 HX 61,om 60 62,cJ 63 60 0,cJ 64 60 1,dD 13 16 pG,bg 16 13 63,om 14 64]
def aog:=[bu 65 16 13,cg 66 vi 65,om 4 66,ok 5 (vB true)]
def C7:=[oo 68 (.bin .eql .none (.t 28) (.k (vS [111,102]))),om 67 68]
def aoh:=[bu 69 1 2,oo 70 (.clo Sz [.t 7]),dK 71 qq 69 70,bl 72 1 7,cg 73 adf 72,dK 74 A7 71 73,cJ 75 74 0,cJ 76 74 1,om 4 75,om 5 76]
def Zp:List (List Nat):=[[],[],[0,1],[],[0,1,2,3],[0,1,2,3,4],[0,1,2,3,4,5],[0,1,2,3,4,5],[0,1,2,3,4,5,6,7],[0,1,2,3,4,5,6,7,8]]
def GU:=[oo 78 (.bin .eql .none (.t 28) (.k (vS [100,105,102,102,101,114]))),om 77 78]
def Nw:=[bl 80 1 7,oo 81 (.call gL [.t 80,(.k (vS [32]))]),om 79 81,cJ 82 79 0,cJ 83 79 1,cJ 84 79 2,om 15 82,om 16 83,om 17 84]
def Nx:=[bu 86 1 2,om 87 15,dK 88 mX 86 87,om 85 88,cJ 89 85 0,cJ 90 85 1,dD 18 15 lm,bg 15 18 89,om 19 90]
def Ny:=[bu 92 1 2,om 93 16,dK 94 mX 92 93,om 91 94,cJ 95 91 0,cJ 96 91 1,dD 20 15 lm,bg 15 20 95,om 21 96]
def Nz:=[om 97 19,oo 98 (.un .not (.t 97)),om 99 98,oF 99 100 (.mv (.t 21)),oF 99 101 (.un .not (.t 100)),oo 102 (.pick (.t 99) (xB true) (.t 101))]
def ZB:=[ok 4 (vS []),ok 5 (vB false)]
def aoi:=[bu 103 15 18,bu 104 15 20,dK 105 HA 103 104,oo 106 (.call JY [.t 105,(xB true)]),cJ 107 106 0,cJ 108 106 1,om 4 107,om 5 108]
def aoj:=[bu 109 1 2,om 110 6,bl 111 1 7,oo 112 (.call Zk [.t 109,.t 110,.t 111]),cJ 113 112 0,cJ 114 112 1,om 4 113,om 5 114]
def uh:C:=(sr oH [1,2] (sr oJ [1,2,6,7] (ss (sr oL [1,2,6,7,28] (.block 0 (sr oM [1,2,6,7,28,29] (sc 29 (sr aun [4,5] .ret) (sr pX [2,6,7,28,38] (sc 38 (sr adK [9,10] (ss (sr adL [9,47] (sc 47 (sr auo [4,5] .ret) .skip)) (sr aup [4,5] .ret))) (sr sM [2,6,7,28,50] (sc 50 (sr Zz [11,12] (ss (sr ZA [11,59] (sc 59 (sr aoe [4,5] .ret) .skip)) (sr aof [13] (sr aog [4,5] .ret)))) (sr C7 [2,6,7,28,67] (sc 67 (ss (.regD aoh Zp [4,5]) .ret) (sr GU [2,6,7,77] (sc 77 (sr Nw [2,15,16] (sr Nx [2,16,18,19] (sr Ny [18,19,20,21] (ss (sr Nz [18,20,102] (sc 102 (sr ZB [4,5] .ret) .skip)) (sr aoi [4,5] .ret))))) .skip)))))))))))) (sr aoj [4,5] .ret))))
theorem sI:cE asd uh [(.tmp 4),(.tmp 5)] 115:=dE func51 rfl
def vl:=[eF 3 1 0,ok 6 (vS []),ok 7 (vB false)]
def vm:=[om 11 2,cg 12 Wp 11,om 10 12,cJ 13 10 0,cJ 14 10 1,dD 8 15 lm,bg 15 8 13,om 9 14]
def vn:=[om 15 9,oo 16 (.un .not (.t 15))]
def afx:=[ok 6 (vS []),ok 7 (vB false)]
def Bu:=[om 17 1]
def Bv:=[oo 19 (.bin .eql .none (.t 17) (.k (vS [99,111,110,102,108,105,99,116,115]))),om 18 19]
def afy:=[bu 20 1 3,bu 21 15 8,dK 22 JQ 20 21,cJ 23 22 0,cJ 24 22 1,dK 25 A7 23 24,cJ 26 25 0,cJ 27 25 1,om 6 26,om 7 27]
def HF:=[oo 29 (.bin .eql .none (.t 17) (.k (vS [102,105,110,100]))),om 28 29]
def afz:=[bu 30 1 3,bu 31 15 8,dK 32 ada 30 31,cJ 33 32 0,cJ 34 32 1,dK 35 JY 33 34,cJ 36 35 0,cJ 37 35 1,om 6 36,om 7 37]
def PS:=[oo 39 (.bin .eql .none (.t 17) (.k (vS [116,101,120,116]))),om 38 39]
def abu:=[bu 40 15 8,cg 41 C5 40,om 6 41,ok 7 (vB true)]
def abv:=[ok 6 (vS []),ok 7 (vB false)]
def C1:C:=(sr vl [1,2,3] (sr vm [1,3,8,9] (ss (sr vn [1,3,8,16] (sc 16 (sr afx [6,7] .ret) .skip)) (ss (sr Bu [3,8,17] (.block 0 (sr Bv [3,8,17,18] (sc 18 (sr afy [6,7] .ret) (sr HF [3,8,17,28] (sc 28 (sr afz [6,7] .ret) (sr PS [8,38] (sc 38 (sr abu [6,7] .ret) .skip)))))))) (sr abv [6,7] .ret)))))
theorem Es:cE Zk C1 [(.tmp 6),(.tmp 7)] 42:=dE func111 rfl
def Xb:=[eF 2 1 0,dD 4 1 (.agg [vN]),ok 5 (vB false)]
def Xc:=[bu 8 1 2,om 9 1,dK 10 qp 8 9,om 6 10]
def Xd:=[bu 11 1 2,cg 12 eU 11,oo 13 (.un .not (.t 12)),om 14 13,oF 14 15 (.mv (.t 6)),oF 14 16 (.bin .lss .none (.t 15) (xI 0)),oo 17 (.pick (.t 14) (xB true) (.t 16))]
def Xe:=[oo 18 (.build (.agg [vN]) []),bg 1 4 18,ok 5 (vB false)]
def Xf:=[bu 19 1 2,cg 20 lV 19,dD 7 1 (.agg [vN]),bg 1 7 20]
def Xg:=[aL 21 0 7,bl 22 1 21,om 23 6,om 24 6,fL 25 24 1,oo 26 (.call pw [.t 22,.t 23,.t 25]),aL 27 0 7,bg 1 27 26]
def Xh:=[bu 28 1 7,bg 1 4 28,ok 5 (vB true)]
def aer:C:=(sr Xb [1,2,4] (sr Xc [2,4,6] (ss (sr Xd [2,4,6,17] (sc 17 (sr Xe [4,5] .ret) .skip)) (sr Xf [4,6,7] (sr Xg [4,7] (ss (.wk (.reg Xh [4,5])) .ret))))))
theorem axY:cE PC aer [(.cell 4 true 1),(.tmp 5)] 29:=dE func97 rfl
end Go.Proofs.YtnjjimhkbpdpgaaGreatDoor
namespace Go.Proofs.YtnjjimhkbpdpgaaGreatDoor
open Go.Abs Go.RowKit Go.Shelf
theorem aJQ {w:World} {b o:Nat} {v:Value} {arr:Array Value} {ty:TypeId} {fr:Nat×Nat} (h:w.heap[b]?=some (.cells arr ty fr)):(w.setCell ⟨b,o,none⟩ v).heap[b]?=some (.cells (arr.setIfInBounds o v) ty fr):=by
 simp[World.setCell,Array.getElem?_modify,h]
theorem S0 (b:Nat):∀ (vs:List Value) (o:Nat) (w:World) (arr:Array Value) (ty:TypeId) (fr:Nat×Nat),w.heap[b]?=some (.cells arr ty fr)->o+vs.length<=arr.size ->
  ∃ arr',(w.setCells b o vs).heap[b]?=some (.cells arr' ty fr)/\arr'.size=arr.size/\∀ j,arr'[j]?=if o<=j/\j < o+vs.length then vs[j - o]? else arr[j]?
 | [],o,w,arr,ty,fr,h,_=>⟨arr,h,rfl,fun j=>by rw[if_neg (by simp)]⟩
 | v::r,o,w,arr,ty,fr,h,hl=>by
   simp only[List.length_cons] at hl;obtain ⟨arr',h1,h2,h3⟩:=S0 b r (o+1) _ _ ty fr (aJQ (o:=o) (v:=v) h) (by simp;omega);refine⟨arr',h1,by simpa using h2,fun j=>?_⟩;rw[h3 j];simp only[List.length_cons];by_cases c1:o+1<=j/\j < o+1+r.length
   ·rw[if_pos c1,if_pos (by omega),show j - o=(j - (o+1))+1 by omega,List.getElem?_cons_succ]
   ·rw[if_neg c1];by_cases c2:j=o
    ·subst c2;rw[if_pos (by omega),Nat.sub_self,Array.getElem?_setIfInBounds,if_pos rfl,if_pos (by omega)];rfl
    ·rw[if_neg (by omega),Array.getElem?_setIfInBounds,if_neg (fun e=>c2 e.symm)]
theorem Vn (b:Nat):∀ (vs:List Value) (o:Nat) (w:World) (k:Nat),k≠b->(w.setCells b o vs).heap[k]?=w.heap[k]?
 | [],_,_,_,_=>rfl
 | v::r,o,w,k,h=>by
   rw[World.setCells,Vn b r (o+1) _ k h];simp only[World.setCell,Array.getElem?_modify];rw[if_neg (fun e=>h e.symm)]
theorem Z0 (b:Nat):∀ (vs:List Value) (o:Nat) (w:World),(w.setCells b o vs).os=w.os/\(w.setCells b o vs).tape=w.tape/\(w.setCells b o vs).output=w.output/\(w.setCells b o vs).heap.size=w.heap.size
 | [],_,_=>⟨rfl,rfl,rfl,rfl⟩
 | v::r,o,w=>by
   obtain ⟨h1,h2,h3,h4⟩:=Z0 b r (o+1) (w.setCell ⟨b,o,none⟩ v);exact⟨h1,h2,h3,by rw[World.setCells,h4];simp[World.setCell]⟩
theorem aDD {P:Program} (w:World) (t e ty:TypeId) (z:Value) (ht:P.underlying t=some (.slice e)) (hv:∀ w,(zeroValue e).run P w=.ok z w) (b o n c:Nat) (hn:0 < n) (zs:List Value) (hzs:(Builtin.zeroCells z.cells n).toList=zs)
  (h1:∀ v ∈ zs,v.oneCell'=true) (hc:∀ j,j < zs.length->(w.cell? ⟨b,o+j,none⟩).isSome=true) (hf:∀ j,j < zs.length->w.frozen? ⟨b,o+j,none⟩=false) :
  (Builtin.clear_ #[t] ty #[.slice (some ⟨b,o,none⟩) n c]).run P w=.ok (.tuple #[]) (w.setCells b o zs):=by
 have hst:=run_storeCells_cells (P:=P) b o zs 0 w (by simpa using hc) (by simpa using hf) h1;simp only[Nat.add_zero] at hst;obtain ⟨m,rfl⟩:∃ m,n=m+1:=⟨n - 1,by omega⟩;simp[Builtin.clear_,run_underlying ht,hv,hzs,hst]
theorem amj {w:World} {b k:Nat} {arr:Array Value} {ty:TypeId} {fr:Nat×Nat} (hok:ar5 arr fr) (hb:w.heap[b]?=some (.cells arr ty fr)) (hk:k < arr.size):w.frozen? ⟨b,k,none⟩=false:=by
 have hz:¬(fr.1<=k/\k < fr.2):=by
  rcases hok with rfl | ⟨_,h⟩
  ·simp
  ·omega
 unfold World.frozen?;rw[hb];simpa using hz
theorem aDB {w:World} {b k:Nat} {arr:Array Value} {ty:TypeId} {fr:Nat×Nat} (hb:w.heap[b]?=some (.cells arr ty fr)):w.cell? ⟨b,k,none⟩=arr[k]?:=Fo (aF4 hb) k
def aQO:Value:=.agg #[.int .i64 0,.string ⟨#[]⟩,.int .i64 0,.int .i64 0,.int .i64 0,.int .i64 0,.int .i64 0,.int .i64 0,.int .i64 0,.int .i64 0,.int .i64 0,.int .i64 0,.int .i64 0,.int .i64 0,.int .i64 0,.int .i64 0,.int .i64 0,.int .i64 0]
theorem aOy (w:World):(zeroValue 122).run Tryz.prog w=.ok aQO w:=by kernel_rfl
theorem aVg:(Tryz.prog.info? 122).map (·.size)=some 18:=by kernel_rfl
def aej:List Value:=(Builtin.zeroCells aQO.cells 1).toList
theorem asM:aej.length=18:=by decide +kernel
theorem aLT:∀ v ∈ aej,v.oneCell'=true:=by decide +kernel
def Wx (arr:Array Value) (o n j:Nat):List Value:=(arr.toList.drop (o+j * 18)).take ((n - j) * 18)
set_option maxHeartbeats 4000000 in
set_option maxRecDepth 1000000 in
theorem axs (blk off n cap i j:Nat) (hj:j=i+1) (w:World) (arr:Array Value) (ty:TypeId) (fr:Nat×Nat) (hok:ar5 arr fr) (hheap:w.heap[blk]?=some (.cells arr ty fr)) (hn:i < n) (hcap:n<=cap) (hm:cap<=9223372036854775807)
  (hz:off+cap * 18<=arr.size) (h1:∀ v ∈ Wx arr off n j,v.oneCell'=true) :
  Calls Tryz.prog pw #[.slice (some ⟨blk,off,none⟩) n cap,.int .i64 i,.int .i64 j] w fun e w'=>e=.returned (.slice (some ⟨blk,off,none⟩) (i+(n - j)) cap) /\
   w'=(w.drew.setCells blk (off+i * 18) (Wx arr off n j)).setCells blk (off+(i+(n - j)) * 18) aej:=by
 have mixed:Tryz.prog.follows Departure.mixedOrders=true:=by kernel_rfl
 have hij:i < j:=by omega
 have hij2:j<=i+1:=by omega
 clear hj;obtain ⟨i0,hi0,hz1⟩:=Option.map_eq_some_iff.1 aVg;have hlen:(Wx arr off n j).length=(n - j) * 18:=by unfold Wx;simp;omega
 have hget:∀ t u,(Wx arr off n j)[t]?=some u->arr[off+j * 18+t]?=some u:=by
  intro t u hu;unfold Wx at hu;rw[List.getElem?_take] at hu;split at hu
  ·rw[List.getElem?_drop,Array.getElem?_toList] at hu;exact hu
  ·cases hu
 obtain ⟨news,hnews⟩:∃ news,Wx arr off n j=news:=⟨_,rfl⟩;rw[hnews] at hlen hget h1 ⊢
 obtain ⟨A,hA,hsrc⟩:∃ A:Addr,(if cap=j then some (⟨blk,off,none⟩:Addr) else some ⟨blk,off+j * 18,none⟩)=some A/\Hid (∀ t u,news[t]?=some u->w.drew.cell? (A.add t)=some u):=by
  by_cases h:cap=j
  ·refine⟨⟨blk,off,none⟩,by simp[h],fun t u hu=>?_⟩;have h0:news.length=0:=by rw[hlen];omega
   rw[List.length_eq_zero_iff.1 h0] at hu;simp at hu
  ·refine⟨⟨blk,off+j * 18,none⟩,by simp[h],fun t u hu=>?_⟩;rw[Addr.add_lit];exact(aDB hheap).trans (hget t u hu)
 have s1:Hid (news.length=(n - j) * 18):=hlen;have s2:Hid (∀ u ∈ news,u.oneCell'=true):=h1
 have s3:Hid (∀ t,t < news.length->(w.drew.cell? ⟨blk,off+i * 18+t,none⟩).isSome=true/\w.drew.frozen? ⟨blk,off+i * 18+t,none⟩=false):=by
  intro t ht;rw[hlen] at ht;refine⟨?_,amj (w:=w.drew) hok hheap (by omega)⟩;rw[show w.drew.cell? ⟨blk,off+i * 18+t,none⟩=arr[off+i * 18+t]? from aDB hheap,Array.getElem?_eq_getElem (by omega)];rfl
 obtain ⟨W1,hW1⟩:∃ W1,W1=w.drew.setCells blk (off+i * 18) news:=⟨_,rfl⟩;obtain ⟨arr1,g1,g2,_⟩:=S0 blk news (off+i * 18) w.drew arr ty fr hheap (by rw[hlen];omega);rw[<- hW1] at g1;have hok1:ar5 arr1 fr:=hok.size g2
 have hcl:∀ ty,(Builtin.clear_ #[30] ty #[.slice (some ⟨blk,off+(i+(n - j)) * 18,none⟩) (n - (i+(n - j))) (cap - (i+(n - j)))]).run Tryz.prog W1=.ok (.tuple #[]) (W1.setCells blk (off+(i+(n - j)) * 18) aej) :=
  fun ty=>aDD W1 _ _ ty aQO Tryz.underlying30 aOy blk (off+(i+(n - j)) * 18) _ _ (by omega) aej (by rw[show n - (i+(n - j))=1 by omega];rfl) aLT
   (fun t ht=>by rw[asM] at ht;rw[aDB g1,Array.getElem?_eq_getElem (by omega)];rfl) (fun t ht=>by rw[asM] at ht;exact amj hok1 g1 (by omega))
 have hW:Hid (W1=w.drew.setCells blk (off+i * 18) news):=hW1;have hic:i<=cap:=by omega
 have hjc:j<=cap:=by omega
 have hjn:j<=n:=by omega
 clear hij2;rw[<- hW1];clear hW1 hheap hget hlen hnews h1 g1 g2 hok1
 go_enter Tryz.func159,Tryz.ntmps159
 go_wp2_with fail
 go_region_law_o (refine step_append_room rfl (.tmp 22) (.tmp 25) 30 rfl 122 i0 18 Tryz.underlying30 hi0 hz1 blk off i cap (by simp[Act.eval,Act.put]) A (n - j) (cap - j) news (by simp[Act.eval,Act.put]) s1.out hsrc.out s2.out (by omega) s3.out ?_;rw[<- hW.out])
 go_wp2
 go_ret
 exact⟨rfl,rfl⟩
end Go.Proofs.YtnjjimhkbpdpgaaGreatDoor
namespace Go.Proofs.YtnjjimhkbpdpgaaGreatDoor
open Go.Abs
open Tryz
theorem aJl (l:aT):bN (l.map bd)=true:=by
 induction l with
 | nil=>rfl
 | cons x l ih=>simp[bN,gV,ih]
theorem aPJ (l:aT):cO (l.map bd)=true:=by
 induction l with
 | nil=>rfl
 | cons x l ih=>simp[cO,g9,ih]
theorem aLe {v:Value} (h:Abs.one v=true):v.oneCell'=true:=by
 cases v<;>simp_all [Abs.one,Value.oneCell']
theorem aH2 (l:aT) {i:Nat}:l.eraseIdx i=l.take i++l.drop (i+1):=List.eraseIdx_eq_take_drop_succ l i
theorem anv (l:aT) (i:Nat) (hi:i < l.length) (hl:l.length<=1000):ie pw [⟨18,l.map bd⟩] [.sl (mG 0) 0 l.length,I i,I ((i:Int)+1)] (.own 18 ((l.eraseIdx i).map bd)) [none]:=by
 refine⟨by kernel_rfl,rfl,fun w D xs p0 F0 hD hgi hblk hnd hnD hxs=>?_⟩;have hB:=hblk 0 _ rfl;have hF:(List.range 1).flatMap F0=F0 0:=by simp
 rw[show ([⟨18,l.map bd⟩]:List Blk).length=1 from rfl,hF] at hnd hnD ⊢;simp only[iU,CV] at hxs;obtain ⟨x,xs',f1,f2,rfl,_,⟨rfl,hx⟩,y,ys,g1,g2,rfl,_,⟨rfl,_,rfl⟩,z,zs,g3,g4,rfl,_,⟨rfl,_,rfl⟩,rfl,rfl⟩:=hxs;have hpl:plM 1 p0 (mG 0)=p0 0:=Kh p0 (by omega);rw[show ([⟨18,l.map bd⟩]:List Blk).length=1 from rfl,hpl] at hx;have hst:∀ F1:Nat->List Nat,(pR [(none:Option Blk)] 0).flatMap F1=[]:=fun F1=>by simp[pR]
 have hpos:0 < l.length:=by omega
 obtain ⟨_,_,h3,_⟩ | ⟨p,o,cap,hp,rfl,hncap,hcm,hcap⟩:=hx
 ·omega
 obtain ⟨ho,hz⟩:=hcap.resolve_left (by omega);rcases hB with ⟨_,h2,_⟩ | ⟨q,arr,ty,f',hq,hs,hqz,hheap,hFq,hcr⟩
 ·rw[List.map_eq_nil_iff] at h2;rw[h2] at hpos;cases hpos
 rw[hp] at hq;cases hq;simp only at hs hcr;rw[hs] at ho hz;have ho:o=p.o:=by omega
 subst ho;obtain rfl:=Ta _ _ _ _ (aPJ l) hcr;obtain ⟨fr,hok,hheap⟩:=hheap;have hbl:p.b < w.heap.size:=(Array.getElem?_eq_some_iff.1 hheap).1;have hzz:p.o+cap * 18<=arr.size:=by omega
 have hones:=aBw hcr;rw[List.length_map] at hones
 have h1:∀ v ∈ Wx arr p.o l.length (i+1),v.oneCell'=true:=by
  intro v hv;refine aLe (hones v ?_);unfold Wx at hv;obtain ⟨t,ht⟩:=List.mem_iff_getElem?.1 hv;rw[List.getElem?_take] at ht;split at ht
  ·rw[List.getElem?_drop] at ht;refine List.mem_iff_getElem?.2 ⟨(i+1) * 18+t,?_⟩;rw[List.getElem?_take,if_pos (by omega),List.getElem?_drop,<- ht];congr 1;omega
  ·cases ht
 have hcall:=axs p.b p.o l.length cap i (i+1) rfl w arr ty fr hok hheap hi hncap hcm hzz h1;rw[show (((i+1:Nat):Int))=(i:Int)+1 by omega] at hcall;refine hcall.mono ?_;rintro e w' ⟨rfl,rfl⟩;have hnl:(Wx arr p.o l.length (i+1)).length=(l.length - (i+1)) * 18:=by unfold Wx;simp;omega
 have hng:∀ t,t < (l.length - (i+1)) * 18->(Wx arr p.o l.length (i+1))[t]?=arr[p.o+(i+1) * 18+t]?:=fun t ht=>by
  unfold Wx;rw[List.getElem?_take,if_pos ht,List.getElem?_drop,Array.getElem?_toList]
 generalize Wx arr p.o l.length (i+1)=news at hnl hng;obtain ⟨arr1,a1,a2,a3⟩:=S0 p.b news (p.o+i * 18) w.drew arr ty fr hheap (by omega);obtain ⟨arr2,b1,b2,b3⟩:=S0 p.b aej (p.o+(i+(l.length - (i+1))) * 18) _ arr1 ty fr a1 (by rw[asM];omega)
 have hoth:∀ k,k≠p.b->((w.drew.setCells p.b (p.o+i * 18) news).setCells p.b (p.o+(i+(l.length - (i+1))) * 18) aej).heap[k]?=w.heap[k]?:=fun k hk=>by
  rw[Vn _ _ _ _ _ hk,Vn _ _ _ _ _ hk];rfl
 obtain ⟨c1,c2,c3,c4⟩:=Z0 p.b aej (p.o+(i+(l.length - (i+1))) * 18) (w.drew.setCells p.b (p.o+i * 18) news);obtain ⟨d1,d2,d3,d4⟩:=Z0 p.b news (p.o+i * 18) w.drew;generalize (w.drew.setCells p.b (p.o+i * 18) news).setCells p.b (p.o+(i+(l.length - (i+1))) * 18) aej=w' at b1 hoth c1 c2 c3 c4;have hlen:(l.eraseIdx i).length=l.length - 1:=List.length_eraseIdx_of_lt hi
 have hcr2:CR w D 18 ((l.eraseIdx i).map bd) (fun _=>p0 0) (arr2.toList.drop p.o) []:=by
  have e:(l.eraseIdx i).map bd=(l.map bd).take i++(l.map bd).drop (i+1):=by rw[aH2,List.map_append,List.map_take,List.map_drop]
  have hti:((l.map bd).take i).length=i:=by rw[List.length_take,List.length_map];omega
  rw[e]
  have k1:CR w D 18 ((l.map bd).take i) (fun _=>p0 0) (arr2.toList.drop p.o) []:=by
   refine YW (VG i hcr) fun j hj=>?_;rw[hti] at hj;rw[List.getElem?_drop,List.getElem?_drop,Array.getElem?_toList,Array.getElem?_toList,b3,if_neg (by omega),a3,if_neg (by omega)]
  have k2:CR w D 18 ((l.map bd).drop (i+1)) (fun _=>p0 0) ((arr2.toList.drop p.o).drop (((l.map bd).take i).length * 18)) []:=by
   refine YW (amP (i+1) hcr) fun j hj=>?_;rw[List.length_drop,List.length_map] at hj;rw[hti];simp only[List.getElem?_drop,Array.getElem?_toList];rw[b3,if_neg (by omega),a3,if_pos (by omega),show p.o+(i * 18+j) - (p.o+i * 18)=j by omega,hng j hj];congr 1;omega
  simpa using amO k1 k2
 have hDb:∀ b,D b->b≠p.b:=fun b hb e=>(hnD p.b (by rw[hFq];simp)).1 (e▸hb)
 have hcr3:CR w' D 18 ((l.eraseIdx i).map bd) (fun _=>none) (arr2.toList.drop p.o) [] :=
  lv (fun _ h=>h) _ _ _ _ _ _ (fun b hb=>hoth b (hb.elim (hDb b) (by simp))) (fun id hm=>by rw[jO id _ (aJl _)] at hm;cases hm) hcr2
 refine⟨_,D,[p.b],F0,rfl,⟨c1.trans d1,c2.trans d2,c3.trans d3,?_,fun b hb hbW=>?_,fun _ h=>h,fun _ h=>.inl h,fun b hb=>?_⟩,.inr ⟨p.b,p.o,cap,arr2,ty,[],?_,?_,hcm,.inr (by omega),⟨fr,hok.size (b2.trans a2),b1⟩,rfl,hcr3,aJl _⟩,fun k blk hk=>?_,by rw[hst];simp,fun b hb=>?_⟩
 ·rw[c4,d4];exact Nat.le_refl _
 ·refine hoth b fun e=>hbW ?_;rw[e,hFq];simp
 ·rw[c4,d4];exact hD b hb
 ·rw[List.length_map,hlen,show i+(l.length - (i+1))=l.length - 1 by omega]
 ·rw[List.length_map];omega
 ·cases k<;>simp at hk
 ·rw[hst,List.append_nil] at hb;have hbF:b ∈ F0 0:=by rw[hFq];exact hb
  refine⟨.inr hbF,?_,(hnD b hbF).1⟩;rw[c4,d4];exact(hnD b hbF).2
theorem aEK (l:aT) (n:Int) (h:bx l=true):di PC [bn l,I n] (FU (D7 l n)):=by
 have hl:=eo h;have hT:D7 l n=(xD l n).map fun i=>l.eraseIdx i:=rfl;have hp:=M7 l n;refine aa.ofN axY (by simp) ?_;simp[aer,Xb,Xc];refine al (aa.ag (HR l n)) ?_;simp[Xd];refine al (aa.ag (gR l)) ?_;rw[h];simp;cases hi:xD l n with
 | none =>
   rw[hi] at hT hp;simp[hp,Xe,hT,FU]
 | some i =>
   rw[hi] at hT hp;rw[Option.map_some] at hT;have hlt:=Ob hi;simp[hp];refine⟨by omega,?_⟩;simp[Xf];refine aZ (aa.ag (vh l (by omega))) ?_;simp[Xg];rw[aD (by omega)];refine aQ6 [20] (ac.arg (anv l i hlt (by omega)) (by simp)) (by simp) (by simp) (by simp) (by simp) rfl (by simp) (by simp) ?_;simp;have hLl:(l.eraseIdx i).length=l.length - 1:=List.length_eraseIdx_of_lt hlt;generalize l.eraseIdx i=L at hT hLl ⊢;refine cp _ (Wk.refl _) ?_;simp[Xh,List.take_of_length_le,hT,FU]
set_option maxRecDepth 100000
def Vc:=[ok 6 vN]
def Vd:=[om 7 0,om 8 1,om 9 2,oo 10 (.call uA [.t 7,.t 8,xI 0,.t 9]),om 6 10]
def aah:C:=(sr Vc [0,1,2] (sr Vd [6] .ret))
theorem atK:cE MX aah [(.tmp 6)] 11:=dE func93 rfl
def BG:=[ok 4 (vS []),ok 5 (vS []),ok 6 (vB false)]
def BH:=[om 8 0,om 9 1,dK 10 A8 8 9,om 7 10]
def rO:=[om 11 7,cn 12 .geq 11 0]
def BI:=[om 13 0,om 14 7,oo 15 (.slc none (.t 13) none (some (.t 14))),om 16 0,om 17 7,om 18 1,oo 19 (.len true (.t 18)),cI 20 .add 17 19,oo 21 (.slc none (.t 16) (some (.t 20)) none),om 4 15,om 5 21,ok 6 (vB true)]
def Ba:List (List Nat):=[[],[],[0,1],[],[],[],[5],[4,5,6],[3,4,5,6,7],[0,1,2],[0,1,2,3,4,5,6,7,8,9],[0,1,2,3,4,5,6,7,8,9,10]]
def BJ:=[om 22 0,om 4 22,ok 5 (vS []),ok 6 (vB false)]
def Ej:C:=(sr BG [0,1] (ss (sr BH [0,1,7] (sr rO [0,1,7,12] (sc 12 (ss (.regD BI Ba [4,5,6]) .ret) .skip))) (sr BJ [4,5,6] .ret)))
theorem Sq:cE uv Ej [(.tmp 4),(.tmp 5),(.tmp 6)] 23:=dE func161 rfl
def agq:=[ok 4 (vS []),ok 5 (vS []),ok 6 (vB false)]
def agr:=[om 7 0,om 8 1,dK 9 uv 7 8,cJ 10 9 0,cJ 11 9 1,cJ 12 9 2,om 4 10,om 5 11,om 6 12]
def anM:C:=(sr agq [0,1] (sr agr [4,5,6] .ret))
theorem aCO:cE gL anM [(.tmp 4),(.tmp 5),(.tmp 6)] 13:=dE func99 rfl
def ai8:=[ok 2 (vI 0)]
def ai9:=[ok 3 (vI 7)]
def aja:=[ok 4 (vI 0)]
def ajb:=[om 5 4,om 6 0,oo 7 (.len true (.t 6)),cI 8 .lss 5 7]
def ajc:=[om 11 3,oo 12 (.bin .mul .none (xI 41) (.t 11)),om 13 0,om 14 4,oo 15 (.idx (.t 13) (.t 14)),oo 16 (.conv (.int .i64) (.t 15)),cI 17 .add 12 16,fL 18 17 1,cn 19 .rem 18 999979,om 3 19]
def ajd:=[om 9 4,fL 10 9 1,om 4 10]
def aia:C:=(ss (sr ajb [0,3,4,8] (sc 8 .skip (.exit 0))) (ss (.block 1 (.reg ajc [0,3,4])) (.reg ajd [0,3,4])))
def aje:=[om 20 3,om 2 20]
def as6:C:=(sr ai8 [0] (sr ai9 [0,3] (ss (sr aja [0,3,4] (.block 0 (.loop aia))) (sr aje [2] .ret))))
def aGR:Nat->List Nat
 | 0=>[0]
 | 1=>[0,3]
 | 2=>[0,3,4]
 | 3=>[0,3,4,8]
 | 5=>[0,3,4]
 | 4=>[0,3,4]
 | 6=>[2]
 | _=>[]
theorem aEm:cE adc as6 [(.tmp 2)] 21 :=
 ⟨Tryz.f240,_,aGR,func240,rfl,by kernel_rfl,by kernel_rfl,by kernel_rfl,rfl⟩
def aAm:=[ok 2 (vI 0)]
def aAn:=[ok 3 (vI 7)]
def aAo:=[ok 4 (vI 0)]
def aAp:=[om 5 4,om 6 0,oo 7 (.len true (.t 6)),cI 8 .lss 5 7]
def aAq:=[om 11 3,oo 12 (.bin .mul .none (xI 41) (.t 11)),om 13 0,om 14 4,oo 15 (.idx (.t 13) (.t 14)),oo 16 (.conv (.int .i64) (.t 15)),cI 17 .add 12 16,fL 18 17 1,cn 19 .rem 18 999979,om 3 19]
def aAr:=[om 9 4,fL 10 9 1,om 4 10]
def azQ:C:=(ss (sr aAp [0,3,4,8] (sc 8 .skip (.exit 0))) (ss (.block 1 (.reg aAq [0,3,4])) (.reg aAr [0,3,4])))
def aAs:=[om 20 3,om 2 20]
def aE6:C:=(sr aAm [0] (sr aAn [0,3] (ss (sr aAo [0,3,4] (.block 0 (.loop azQ))) (sr aAs [2] .ret))))
def aNj:Nat->List Nat
 | 0=>[0]
 | 1=>[0,3]
 | 2=>[0,3,4]
 | 3=>[0,3,4,8]
 | 5=>[0,3,4]
 | 4=>[0,3,4]
 | 6=>[2]
 | _=>[]
theorem aKI:cE ayv aE6 [(.tmp 2)] 21 :=
 ⟨Tryz.f218,_,aNj,func218,rfl,by kernel_rfl,by kernel_rfl,by kernel_rfl,rfl⟩
def avj:=[ok 2 (vS [])]
def avk:=[om 3 0,oo 4 (.bin .add .none (.t 3) (.k (vS [35]))),om 5 0,cg 6 ayv 5,cg 7 gk 6,cI 8 .add 4 7,om 2 8]
def aB3:C:=(sr avj [0] (sr avk [2] .ret))
theorem aIl:cE asj aB3 [(.tmp 2)] 9:=dE func153 rfl
def apB:=[eF 3 2 1,ok 4 (vS [])]
def apC:=[om 5 0,cg 6 gk 5,oo 7 (.bin .add .none (.t 6) (.k (vS [32]))),aL 8 0 3,bl 9 1 8,cI 10 .add 7 9,oo 11 (.bin .add .none (.t 10) (.k (vS [64]))),aL 12 1 3,bl 13 1 12,cI 14 .add 11 13,cg 15 asj 14,oo 16 (.bin .add .none (.t 15) (.k (vS [10]))),om 4 16]
def aod:List (List Nat):=[[],[0],[0,1],[],[3],[0,1,2,3,4],[0,1,2,3,4,5],[],[7],[0,1,2,3,4,5,6,7,8],[0,1,2,3,4,5,6,7,8,9],[0,1,2,3,4,5,6,7,8,9,10],[0,1,2,3,4,5,6,7,8,9,10,11]]
def azh:C:=(sr apB [0,3] (ss (.regD apC aod [4]) .ret))
theorem aGr:cE Ws azh [(.tmp 4)] 17:=dE func90 rfl
def Od:=[ok 2 (vS []),ok 3 (vB false)]
def Oe:=[om 5 0,oo 6 (.len true (.t 5)),cn 7 .gtr 6 4000,om 8 7,oF 8 9 (.mv (.t 0)),oF 8 10 (.call H3 [.t 9,(.k (vS [35]))]),oo 11 (.pick (.t 8) (xB true) (.t 10))]
def aiD:=[ok 2 (vS []),ok 3 (vB false)]
def Of:=[om 12 0,oo 13 (.bin .add .none (.t 12) (.k (vS [35]))),om 14 0,cg 15 adc 14,cg 16 kF 15,cI 17 .add 13 16,om 4 17]
def Og:=[om 18 4,oo 19 (.len true (.t 18)),cn 20 .gtr 19 4000]
def aiE:=[ok 2 (vS []),ok 3 (vB false)]
def Oh:=[om 21 4,om 2 21,ok 3 (vB true)]
def Tf:C:=(sr Od [0] (ss (sr Oe [0,11] (sc 11 (sr aiD [2,3] .ret) .skip)) (sr Of [4] (ss (sr Og [4,20] (sc 20 (sr aiE [2,3] .ret) .skip)) (sr Oh [2,3] .ret)))))
theorem anl:cE HV Tf [(.tmp 2),(.tmp 3)] 22:=dE func176 rfl
def UC:=[eF 3 2 1,ok 4 (vS [])]
def UD:=[om 8 0,cg 9 kF 8,oo 10 (.bin .add .none (.t 9) (.k (vS [32]))),aL 11 0 3,bl 12 1 11,cI 13 .add 10 12,oo 14 (.bin .add .none (.t 13) (.k (vS [64]))),aL 15 1 3,bl 16 1 15,cI 17 .add 14 16,cg 18 HV 17,om 7 18,cJ 19 7 0,cJ 20 7 1,om 5 19,om 6 20]
def T6:List (List Nat):=[[],[0],[0,1],[],[3],[0,1,2,3,4],[0,1,2,3,4,5],[],[7],[0,1,2,3,4,5,6,7,8],[0,1,2,3,4,5,6,7,8,9],[0,1,2,3,4,5,6,7,8,9,10],[0,1,2,3,4,5,6,7,8,9,10,11],[0,1,2,3,4,5,6,7,8,9,10,11],[0,1,2,3,4,5,6,7,8,9,10,11,12],[0,1,2,3,4,5,6,7,8,9,10,11,12,13,14]]
def UE:=[om 21 5,oo 22 (.bin .add .none (.t 21) (.k (vS [10]))),om 4 22]
def aad:C:=(sr UC [0,3] (ss (.regD UD T6 [5]) (sr UE [4] .ret)))
theorem atG:cE Fu aad [(.tmp 4)] 23:=dE func112 rfl
def aj5:=[ok 4 (vB false)]
def aj6:=[ok 5 (vI 0)]
def aj7:=[om 6 5,om 7 0,oo 8 (.len true (.t 7)),cI 9 .lss 6 8]
def aj8:=[om 12 0,om 13 5,oo 14 (.idx (.t 12) (.t 13)),om 15 1,cI 16 .eql 14 15]
def aj9:=[ok 4 (vB true)]
def aka:=[om 10 5,fL 11 10 1,om 5 11]
def aif:C:=(ss (sr aj7 [0,1,5,9] (sc 9 .skip (.exit 0))) (ss (.block 1 (sr aj8 [0,1,5,16] (sc 16 (sr aj9 [4] .ret) .skip))) (.reg aka [0,1,5])))
def akb:=[ok 4 (vB false)]
def atg:C:=(sr aj5 [0,1] (ss (sr aj6 [0,1,5] (.block 0 (.loop aif))) (sr akb [4] .ret)))
def aGU:Nat->List Nat
 | 0=>[0,1]
 | 1=>[0,1,5]
 | 2=>[0,1,5,9]
 | 4=>[0,1,5,16]
 | 5=>[4]
 | 3=>[0,1,5]
 | 6=>[4]
 | _=>[]
theorem aEx:cE adk atg [(.tmp 4)] 17 :=
 ⟨Tryz.f83,_,aGU,func83,rfl,by kernel_rfl,by kernel_rfl,by kernel_rfl,rfl⟩
def aoM:=[ok 2 (vB false)]
def aoN:=[ok 3 (vI 0)]
def aoO:=[om 4 3,om 5 0,oo 6 (.len true (.t 5)),cI 7 .lss 4 6]
def aoP:=[om 10 0,om 11 3,oo 12 (.idx (.t 10) (.t 11)),oo 13 (.bin .lss .none (.t 12) (.k (.v (.int .u8 (32))))),om 14 13,oF 14 15 (.mv (.t 0)),oF 14 16 (.mv (.t 3)),oF 14 17 (.idx (.t 15) (.t 16)),oF 14 18 (.bin .gtr .none (.t 17) (.k (.v (.int .u8 (126))))),oo 19 (.pick (.t 14) (xB true) (.t 18)),om 20 19,oF 20 21 (.mv (.t 0)),oF 20 22 (.mv (.t 3)),oF 20 23 (.idx (.t 21) (.t 22)),oF 20 24 (.bin .eql .none (.t 23) (.k (.v (.int .u8 (35))))),oo 25 (.pick (.t 20) (xB true) (.t 24))]
def NA:=[ok 2 (vB false)]
def aoQ:=[om 8 3,fL 9 8 1,om 3 9]
def anW:C:=(ss (sr aoO [0,3,7] (sc 7 .skip (.exit 0))) (ss (.block 1 (sr aoP [0,3,25] (sc 25 (sr NA [2] .ret) .skip))) (.reg aoQ [0,3])))
def aoR:=[ok 2 (vB true)]
def aza:C:=(sr aoM [0] (ss (sr aoN [0,3] (.block 0 (.loop anW))) (sr aoR [2] .ret)))
def aIZ:Nat->List Nat
 | 0=>[0]
 | 1=>[0,3]
 | 2=>[0,3,7]
 | 4=>[0,3,25]
 | 5=>[2]
 | 3=>[0,3]
 | 6=>[2]
 | _=>[]
theorem aGk:cE Wr aza [(.tmp 2)] 26 :=
 ⟨Tryz.f91,_,aIZ,func91,rfl,by kernel_rfl,by kernel_rfl,by kernel_rfl,rfl⟩
def akc:=[ok 4 (vB false)]
def akd:=[ok 5 (vI 0)]
def ake:=[om 6 5,om 7 0,oo 8 (.len true (.t 7)),cI 9 .lss 6 8]
def akf:=[om 12 0,om 13 5,oo 14 (.idx (.t 12) (.t 13)),oo 15 (.conv (.int .i64) (.t 14)),oo 16 (.call rZ [.t 15,xI 32,xI 126]),oo 17 (.un .not (.t 16)),om 18 17,oF 18 19 (.mv (.t 0)),oF 18 20 (.mv (.t 5)),oF 18 21 (.idx (.t 19) (.t 20)),oF 18 22 (.bin .eql .none (.t 21) (.k (.v (.int .u8 (35))))),oo 23 (.pick (.t 18) (xB true) (.t 22))]
def UZ:=[ok 4 (vB false)]
def akg:=[om 10 5,fL 11 10 1,om 5 11]
def aig:C:=(ss (sr ake [0,1,5,9] (sc 9 .skip (.exit 0))) (ss (.block 1 (sr akf [0,1,5,23] (sc 23 (sr UZ [4] .ret) .skip))) (.reg akg [0,1,5])))
def akh:=[om 24 0,oo 25 (.len true (.t 24)),om 26 1,cI 27 .leq 25 26,om 4 27]
def ath:C:=(sr akc [0,1] (ss (sr akd [0,1,5] (.block 0 (.loop aig))) (sr akh [4] .ret)))
def aGV:Nat->List Nat
 | 0=>[0,1]
 | 1=>[0,1,5]
 | 2=>[0,1,5,9]
 | 4=>[0,1,5,23]
 | 5=>[4]
 | 3=>[0,1,5]
 | 6=>[4]
 | _=>[]
theorem aEy:cE SE ath [(.tmp 4)] 28 :=
 ⟨Tryz.f82,_,aGV,func82,rfl,by kernel_rfl,by kernel_rfl,by kernel_rfl,rfl⟩
def QA:=[eF 1 2 0,ok 2 (vB false)]
def QB:=[aL 3 0 1,bl 4 1 3,oo 5 (.len true (.t 4)),oo 6 (.call mQ [.t 5,xI 1,xI 160]),om 7 6,oT 7 8 (.faddr 1 (.t 1)),oT 7 9 (.ld false 1 (.t 8)),oT 7 10 (.len true (.t 9)),oT 7 11 (.bin .leq .none (.t 10) (xI 200)),oo 12 (.pick (.t 7) (.t 11) (xB false)),om 13 12,oT 13 14 (.faddr 0 (.t 1)),oT 13 15 (.ld false 1 (.t 14)),oT 13 16 (.call Wr [.t 15]),oo 17 (.pick (.t 13) (.t 16) (xB false)),om 18 17,oT 18 19 (.faddr 1 (.t 1)),oT 18 20 (.ld false 1 (.t 19)),oT 18 21 (.call Wr [.t 20]),oo 22 (.pick (.t 18) (.t 21) (xB false)),om 23 22,oT 23 24 (.faddr 0 (.t 1)),oT 23 25 (.ld false 1 (.t 24)),oT 23 26 (.call H3 [.t 25,(.k (vS [64]))]),oT 23 27 (.un .not (.t 26)),oo 28 (.pick (.t 23) (.t 27) (xB false)),om 2 28]
def VL:C:=(sr QA [1] (sr QB [2] .ret))
theorem arK:cE vK VL [(.tmp 2)] 29:=dE func49 rfl
def apz:=[eF 1 2 0,ok 2 (vB false)]
def apA:=[aL 3 0 1,bl 4 1 3,oo 5 (.bin .neq .none (.t 4) (.k (vS []))),om 6 5,oT 6 7 (.faddr 0 (.t 1)),oT 6 8 (.ld false 1 (.t 7)),oT 6 9 (.call SE [.t 8,xI 160]),oo 10 (.pick (.t 6) (.t 9) (xB false)),om 11 10,oT 11 12 (.faddr 0 (.t 1)),oT 11 13 (.ld false 1 (.t 12)),oT 11 14 (.call adk [.t 13,(.k (.v (.int .u8 (64))))]),oT 11 15 (.un .not (.t 14)),oo 16 (.pick (.t 11) (.t 15) (xB false)),om 17 16,oT 17 18 (.faddr 1 (.t 1)),oT 17 19 (.ld false 1 (.t 18)),oT 17 20 (.call SE [.t 19,xI 200]),oo 21 (.pick (.t 17) (.t 20) (xB false)),om 2 21]
def azg:C:=(sr apz [1] (sr apA [2] .ret))
theorem aGq:cE N1 azg [(.tmp 2)] 22:=dE func45 rfl
structure LogRecord where
 command:List UInt8
 reply:List UInt8
 deriving DecidableEq
abbrev dc (r:LogRecord):V:=.agg [S r.command,S r.reply]
theorem aEL (s:List UInt8) (c:UInt8):decide (0<=Lib.indexByte s c)=s.contains c:=by
 induction s with
 | nil=>rfl
 | cons x s ih =>
   have hg:=Lib.indexByte_ge s c;rw[List.contains_cons,Lib.indexByte];by_cases h:x=c
   ·subst h;simp
   ·have h1:(x==c)=false:=by simpa using h
    have h2:(c==x)=false:=by simpa using fun e:c=x=>h e.symm
    rw[h1,h2,Bool.false_or,<- ih];simp only[Bool.false_eq_true,if_false];split
    ·rename_i e;have:Lib.indexByte s c = -1:=by simpa using e
     rw[this]
    ·rw[decide_eq_decide];rename_i e;have:¬Lib.indexByte s c = -1:=by simpa using e
     omega
theorem acw (s:List UInt8) (c:UInt8):di H3 [S s,S [c]] (B (s.contains c)):=by
 rw[<- aEL];exact aa.same (vs:=[.string (bs s),.string (bs [c])]) (y:=.bool (decide (0<=Lib.indexByte s c))) (by kernel_rfl) (fun _ _=>xZ rfl) (fun w _ _=>Tryz.strings_Contains_one (bs s) c w)
def EN (b:UInt8):Bool:=decide (32<=(b.toNat:Int)/\(b.toNat:Int)<=126/\(b.toNat:Int)≠35)
def plain (s:List UInt8):Bool:=s.all EN
def fG (r:LogRecord):Bool:=fV r.command.length 1 160&&decide (r.reply.length<=200)&&plain r.command&&plain r.reply&&!(r.command.contains 64)
theorem ahs {α:Type} {p:α->Bool} {l:List α} {i:Nat} (h:i < l.length) (hp:p l[i]=false):l.all p=false:=by
 rw[<- Bool.not_eq_true,List.all_eq_true];intro h';rw[h' _ (List.getElem_mem h)] at hp;cases hp
theorem aLu (s:List UInt8) (c:UInt8):di adk [S s,Y c] (B (s.contains c)):=by
 refine aa.ofL aEx (by simp) fun hs=>?_;simp at hs;simp[atg,aj5,aj6,akb];refine dl (fun i:Nat=>⟨[(0,S s),(1,Y c),(5,I i)],[],[]⟩) (fun i=>s.length - i) (fun i=>i<=s.length/\(s.take i).contains c=false) 0 Wk.li (by simp) ?_;rintro i ⟨hi,hj⟩ K hN hR hE;simp[aj7,aif];refine⟨fun hlt=>?_,fun hge=>?_⟩
 ·simp[aj8,hlt];refine⟨fun h=>?_,fun h=>?_⟩
  ·simp[aj9];refine hR _ ?_;simp only[arz];have:c ∈ s:=by rw[<- h];exact List.getElem_mem _
   simp[this]
  ·simp[aka];rw[aD (by omega)];refine hN (i+1) _ (by omega) ⟨by omega,?_⟩ Wk.li;have hj':c ∉ s.take i:=by simpa using hj
   have:c ∉ s.take (i+1):=by
    rw[<- List.take_append_getElem hlt,List.mem_append];rintro (h' | h')
    ·exact hj' h'
    ·exact h (List.mem_singleton.1 h').symm
   simpa using this
 ·refine hE _ _ ?_;rw[List.take_of_length_le (by omega)] at hj;simp only[cv];simp at hj ⊢;exact hj
theorem aFp (s:List UInt8):di Wr [S s] (B (plain s)):=by
 refine aa.ofL aGk (by simp) fun hs=>?_;simp at hs;simp[aza,aoM,aoN,aoR];refine dl (fun i:Nat=>⟨[(0,S s),(3,I i)],[],[]⟩) (fun i=>s.length - i) (fun i=>i<=s.length/\(s.take i).all EN=true) 0 Wk.li (by simp) ?_;rintro i ⟨hi,hj⟩ K hN hR hE;simp[aoO,anW];refine⟨fun hlt=>?_,fun hge=>?_⟩
 ·have hno:EN s[i]=false->∀ hp,K .ret ⟨[(2,B false)],hp,[]⟩:=fun h hp=>hR _ (by simp only[arz];simp[plain,ahs hlt h]);have hyes:EN s[i]=true->∀ hp,K .normal ⟨[(0,S s),(3,I ((i:Int)+1))],hp,[]⟩:=fun h hp=>hN (i+1) _ (by omega) ⟨by omega,by rw[Gk hlt,hj,h];rfl⟩ Wk.li;simp[aoP,hlt];obtain ⟨b,e⟩:∃ b,s[i]=b:=⟨_,rfl⟩;rw[e] at hno hyes ⊢;refine⟨fun h1=>⟨fun h2=>⟨fun h3=>?_,fun h3=>?_⟩,fun h2=>?_⟩,fun h1=>?_⟩
  ·simp[NA,h3];exact hno (by simp[EN];omega) _
  ·simp[aoQ,h3];rw[aD (by omega)];exact hyes (by simp[EN];omega) _
  ·simp[NA];exact hno (by simp[EN];omega) _
  ·simp[NA];exact hno (by simp[EN];omega) _
 ·refine hE _ _ ?_;rw[List.take_of_length_le (by omega)] at hj;simp only[cv];simp[plain,hj]
theorem aDG (s:List UInt8) (n:Int):di SE [S s,I n] (B (plain s&&decide ((s.length:Int)<=n))):=by
 refine aa.ofL aEy (by simp) fun hs=>?_;simp at hs;simp[ath,akc,akd,akh];refine dl (fun i:Nat=>⟨[(0,S s),(1,I n),(5,I i)],[],[]⟩) (fun i=>s.length - i) (fun i=>i<=s.length/\(s.take i).all EN=true) 0 Wk.li (by simp) ?_;rintro i ⟨hi,hj⟩ K hN hR hE;simp[ake,aig];refine⟨fun hlt=>?_,fun hge=>?_⟩
 ·have hno:EN s[i]=false->∀ hp,K .ret ⟨[(4,B false)],hp,[]⟩:=fun h hp=>hR _ (by simp only[arz];simp[plain,ahs hlt h]);have hyes:EN s[i]=true->∀ hp,K .normal ⟨[(0,S s),(1,I n),(5,I ((i:Int)+1))],hp,[]⟩:=fun h hp=>hN (i+1) _ (by omega) ⟨by omega,by rw[Gk hlt,hj,h];rfl⟩ Wk.li;have hb:=s[i].toNat_lt;obtain ⟨b,e⟩:∃ b,s[i]=b:=⟨_,rfl⟩;rw[e] at hno hyes hb;simp[akf,hlt,e];rw[aD (by omega)];refine al (LL ..) ?_;cases h1:fV (b.toNat:Int) 32 126 with
  | false =>
    have h1:=am0.1 h1;simp[UZ];exact hno (by simp[EN];omega) _
  | true =>
    have h1:=db.1 h1;simp[hlt,e];refine⟨fun h3=>?_,fun h3=>?_⟩
    ·simp[UZ,h3];exact hno (by simp[EN];omega) _
    ·simp[akg,h3];rw[aD (by omega)];exact hyes (by simp[EN];omega) _
 ·refine hE _ _ ?_;rw[List.take_of_length_le (by omega)] at hj;simp only[cv];simp[plain,hj]
theorem Pt (r:LogRecord):di vK [dc r] (B (fG r)):=by
 refine aa.ofL arK (by simp) fun hl=>?_;simp at hl;simp[VL,QA,QB];refine al (vE ..) ?_;cases h1:fV r.command.length 1 160 with
 | false=>simp[fG,h1]
 | true =>
 by_cases h2:r.reply.length<=200;rotate_left
 ·have:¬(r.reply.length:Int)<=200:=by omega
  simp[fG,h1,h2,this]
 have h2':(r.reply.length:Int)<=200:=by omega
 simp[h2'];refine al (aFp ..) ?_;cases h3:plain r.command with
 | false=>simp[fG,h1,h2,h3]
 | true =>
 simp;refine al (aFp ..) ?_;cases h4:plain r.reply with
 | false=>simp[fG,h1,h2,h3,h4]
 | true =>
 simp;refine al (acw ..) ?_;simp[fG,h1,h2,h3,h4]
theorem ayP (r:LogRecord):di N1 [dc r] (B (fG r)):=by
 refine aa.ofL aGq (by simp) fun hl=>?_;simp at hl;simp[azg,apz,apA];refine⟨fun h0=>?_,fun h0=>by simp[fG,h0,fV]⟩;have h0:0 < r.command.length:=List.length_pos_iff.2 h0;refine al (aDG ..) ?_
 have h1:(plain r.command&&decide ((r.command.length:Int)<=160))=(fV r.command.length 1 160&&plain r.command):=by
  rw[Bool.and_comm];congr 1;rw[Bool.eq_iff_iff,db,decide_eq_true_iff];omega
 rw[h1];cases h1:fV r.command.length 1 160 with
 | false=>simp[fG,h1]
 | true =>
 cases h2:plain r.command with
 | false=>simp[fG,h1,h2]
 | true =>
 simp;refine al (aLu r.command 64) ?_;cases h3:r.command.contains 64 with
 | true=>simp at h3;simp[fG,h1,h2,h3]
 | false =>
 simp;refine al (aDG ..) ?_;have h4:((r.reply.length:Int)<=200)=(r.reply.length<=200):=by apply propext;omega
 simp at h3;simp[fG,h1,h2,h3,h4,Bool.and_comm]
end Go.Proofs.YtnjjimhkbpdpgaaGreatDoor
namespace Go.Proofs.YtnjjimhkbpdpgaaGreatDoor
structure Log where
 durable:List UInt8
 pending:List UInt8
 count:Int
 deriving DecidableEq
end Go.Proofs.YtnjjimhkbpdpgaaGreatDoor
namespace Go.Proofs.YtnjjimhkbpdpgaaGreatDoor
open Go.Abs
open Tryz
def D9 (h:Int) (b:UInt8):Int:=(41 * h+b.toNat+1) % 999979
def aBt (s:List UInt8):Int:=s.foldl D9 7
theorem aDU {h:Int} (h0:0<=h) (b:UInt8):0<=D9 h b/\D9 h b < 999979:=by
 unfold D9;constructor
 ·exact Int.emod_nonneg _ (by omega)
 ·exact Int.emod_lt_of_pos _ (by omega)
theorem Su:∀ (s:List UInt8) {h:Int},0<=h->h < 999979->0<=s.foldl D9 h/\s.foldl D9 h < 999979
 | [],h,h0,h1=>⟨h0,h1⟩
 | b::s,h,h0,h1=>by
   have:=aDU h0 b;exact Su s this.1 this.2
theorem amA (s:List UInt8):0<=aBt s/\aBt s < 999979:=Su s (by omega) (by omega)
def ag5 (s:List UInt8):List UInt8:=s++35::fw (aBt s).toNat
def acM (k:Nat) (e:LogRecord):List UInt8:=fw k++32::(e.command++64::e.reply)
def Dy (k:Nat) (e:LogRecord):List UInt8:=ag5 (acM k e)
theorem aaF {s:List UInt8} (h:plain s=true) {b:UInt8} (hb:b ∈ s):32<=b.toNat/\b.toNat<=126/\b≠35:=by
 have:=List.all_eq_true.1 h b hb;simp only[EN,decide_eq_true_iff] at this;refine⟨by omega,by omega,?_⟩;rintro rfl;exact this.2.2 rfl
theorem AL {r:LogRecord}:fG r=true↔(1<=r.command.length/\r.command.length<=160)/\r.reply.length<=200/\plain r.command=true/\plain r.reply=true/\64 ∉ r.command:=by
 simp only[fG,Bool.and_eq_true,db,decide_eq_true_iff,Bool.not_eq_true',List.contains_eq_mem,decide_eq_false_iff_not];constructor
 ·rintro ⟨⟨⟨⟨h1,h2⟩,h3⟩,h4⟩,h5⟩;exact⟨by omega,h2,h3,h4,h5⟩
 ·rintro ⟨h1,h2,h3,h4,h5⟩;exact⟨⟨⟨⟨by omega,h2⟩,h3⟩,h4⟩,h5⟩
theorem Tp {n:Nat} {b:UInt8} (h:b.toNat < 48\/57 < b.toNat):b ∉ fw n:=fun hb=>by
 have:=Jm n b hb;omega
theorem arA {k:Nat} {e:LogRecord} (h:fG e=true):(35:UInt8) ∉ acM k e:=by
 obtain ⟨_,_,h1,h2,_⟩:=AL.1 h;unfold acM;simp only[List.mem_append,List.mem_cons,not_or];refine⟨Tp (by decide),by decide,fun hb=>(aaF h1 hb).2.2 rfl,by decide,fun hb=>(aaF h2 hb).2.2 rfl⟩
theorem aMX {k:Nat} {e:LogRecord} (h:fG e=true):(10:UInt8) ∉ Dy k e:=by
 obtain ⟨_,_,h1,h2,_⟩:=AL.1 h;unfold Dy ag5 acM;simp only[List.mem_append,List.mem_cons,not_or];refine⟨⟨Tp (by decide),by decide,fun hb=>?_,by decide,fun hb=>?_⟩,by decide,Tp (by decide)⟩
 ·have:=(aaF h1 hb).1;simp at this
 ·have:=(aaF h2 hb).1;simp at this
theorem aBR {k:Nat} {e:LogRecord} (hk:k < 100) (h:fG e=true):(acM k e).length<=364:=by
 obtain ⟨h1,h2,_⟩:=AL.1 h;have:=lF 1 k (by omega);unfold acM;simp only[List.length_append,List.length_cons];omega
theorem atw {k:Nat} {e:LogRecord} (hk:k < 100) (h:fG e=true):(Dy k e).length<=371:=by
 have h1:=aBR hk h;have h2:=lF 5 (aBt (acM k e)).toNat (by have:=amA (acM k e);omega);unfold Dy ag5;simp only[List.length_append,List.length_cons];omega
def ag1 (line:List UInt8):LogRecord:=⟨f7 64 (Ea 32 (f7 35 line)),Ea 64 (Ea 32 (f7 35 line))⟩
def dec (k:Nat) (line:List UInt8):Option LogRecord:=if fG (ag1 line)=true/\Dy k (ag1 line)=line then some (ag1 line) else none
theorem aNL {k:Nat} {e:LogRecord} (h:fG e=true):ag1 (Dy k e)=e:=by
 obtain ⟨_,_,h1,h2,h3⟩:=AL.1 h;unfold ag1 Dy ag5;rw[amX (arA h)];unfold acM;rw[aMb (Tp (by decide)),amX h3,aMb h3]
theorem V4 {k:Nat} {line:List UInt8} {e:LogRecord}:dec k line=some e↔fG e=true/\Dy k e=line:=by
 unfold dec;constructor
 ·intro h;split at h
  ·rename_i hc;simp only[Option.some.injEq] at h;rw[<- h];exact hc
  ·cases h
 ·rintro ⟨h1,rfl⟩;rw[aNL h1,if_pos ⟨h1,rfl⟩]
theorem aO9 {k:Nat} {line:List UInt8}:dec k line=none↔∀ e,fG e=true->Dy k e≠line:=by
 constructor
 ·intro h e he hl;rw[V4.2 ⟨he,hl⟩] at h;cases h
 ·intro h;cases hd:dec k line with
  | none=>rfl
  | some e=>exact absurd (V4.1 hd).2 (h e (V4.1 hd).1)
def px (k:Nat) (s:List UInt8):Option LogRecord:=if (10:UInt8) ∈ s then dec k (f7 10 s) else none
theorem vy {k:Nat} {s:List UInt8} {e:LogRecord}:px k s=some e↔fG e=true/\∃ r,s=Dy k e++10::r:=by
 unfold px;constructor
 ·intro h;split at h
  ·rename_i hm;obtain ⟨h1,h2⟩:=V4.1 h;exact⟨h1,_,by rw[h2];exact(C2 hm).1⟩
  ·cases h
 ·rintro ⟨h1,r,rfl⟩;rw[if_pos (by simp),amX (aMX h1)];exact V4.2 ⟨h1,rfl⟩
def CX:Nat->Nat->List UInt8->List LogRecord
 | 0,_,_=>[]
 | n+1,k,s=>match px k s with
   | some e=>e::CX n (k+1) (s.drop ((Dy k e).length+1))
   | none=>[]
def hJ:Nat->List LogRecord->List UInt8
 | _,[]=>[]
 | k,e::es=>Dy k e++10::hJ (k+1) es
theorem Iq:∀ (k:Nat) (a b:List LogRecord),hJ k (a++b)=hJ k a++hJ (k+a.length) b
 | k,[],b=>by simp[hJ]
 | k,e::a,b=>by
   rw[List.cons_append,hJ,hJ,Iq (k+1) a b];simp[Nat.add_comm,Nat.add_left_comm]
theorem Fg:∀ (n k:Nat) (s:List UInt8),(CX n k s).length<=n
 | 0,_,_=>by simp[CX]
 | n+1,k,s=>by
   rw[CX];split
   ·have:=Fg n (k+1) (s.drop ((Dy k ‹_›).length+1));simp only[List.length_cons];omega
   ·simp
theorem aal {a r:List UInt8}:(a++10::r).drop (a.length+1)=r:=by
 rw[<- List.drop_drop,List.drop_left];rfl
theorem aCw {c:UInt8} {a r:List UInt8} (_:c ∉ a):(a++c::r).drop (a.length+1)=r:=by
 rw[<- List.drop_drop,List.drop_left];rfl
theorem ad2:∀ (n k:Nat) (s:List UInt8),(∀ e ∈ CX n k s,fG e=true)/\∃ r,s=hJ k (CX n k s)++r
 | 0,k,s=>⟨by simp[CX],s,by simp[CX,hJ]⟩
 | n+1,k,s=>by
   rw[CX];split
   ·rename_i e he;obtain ⟨h1,r,rfl⟩:=vy.1 he;rw[aal];obtain ⟨g1,r',g2⟩:=ad2 n (k+1) r;refine⟨?_,r',?_⟩
    ·intro x hx;rcases List.mem_cons.1 hx with rfl | hx
     ·exact h1
     ·exact g1 x hx
    ·rw[hJ]
     conv=>lhs;rw[g2]
     simp
   ·exact⟨by simp,s,by simp[hJ]⟩
theorem am9:∀ (es:List LogRecord) (n k:Nat) (r:List UInt8),(∀ e ∈ es,fG e=true)->CX (es.length+n) k (hJ k es++r)=es++CX n (k+es.length) r
 | [],n,k,r,_=>by simp[hJ]
 | e::es,n,k,r,h=>by
   have h1:=h e List.mem_cons_self;rw[List.length_cons,show es.length+1+n=(es.length+n)+1 by omega,CX,hJ];have hd:px k (Dy k e++10::hJ (k+1) es++r)=some e:=vy.2 ⟨h1,hJ (k+1) es++r,by simp⟩;rw[hd];simp only;rw[List.append_assoc,List.cons_append,aal,am9 es n (k+1) r (fun x hx=>h x (List.mem_cons_of_mem _ hx))];simp[Nat.add_comm,Nat.add_left_comm]
theorem aJB:∀ (n k:Nat),CX n k []=[]
 | 0,_=>rfl
 | n+1,k=>by
   rw[CX];have:px k []=none:=by simp[px]
   rw[this]
def fM (s:List UInt8):List LogRecord:=CX 60 0 s
def oq (s:List UInt8):Nat:=(hJ 0 (fM s)).length
theorem ass (s:List UInt8):s=hJ 0 (fM s)++s.drop (oq s):=by
 obtain ⟨_,r,h⟩:=ad2 60 0 s;unfold oq fM
 have:s.drop (hJ 0 (CX 60 0 s)).length=r:=by
  conv=>lhs;arg 2;rw[h]
  exact List.drop_left
 rw[this];exact h
def fx (l:Log):Bool:=decide (oq (l.durable++l.pending)=l.durable.length+l.pending.length)&&(decide (oq l.durable=l.durable.length)&&decide (((fM (l.durable++l.pending)).length:Int)=l.count))
theorem aJv {d p:List UInt8} (h:oq (d++p)=(d++p).length):oq d=d.length↔∃ j,j<=(fM (d++p)).length/\(hJ 0 ((fM (d++p)).take j)).length=d.length:=by
 have hs:=ass (d++p);have hr:=(ad2 60 0 (d++p)).1;rw[h,List.drop_length,List.append_nil] at hs;constructor
 ·intro hd;have hsd:=ass d;rw[hd,List.drop_length,List.append_nil] at hsd;have hl:=Fg 60 0 d;have hrd:=(ad2 60 0 d).1
  have e:fM (d++p)=fM d++CX (60 - (fM d).length) (0+(fM d).length) p:=by
   have:=am9 (fM d) (60 - (fM d).length) 0 p hrd;rw[<- hsd,show (fM d).length+(60 - (fM d).length)=60 by have h60:(fM d).length<=60:=hl;omega] at this;exact this
  refine⟨(fM d).length,by rw[e];simp,?_⟩;rw[e,List.take_left];exact congrArg List.length hsd.symm
 ·rintro ⟨j,hj,hl⟩
  have e:hJ 0 (fM (d++p))=hJ 0 ((fM (d++p)).take j)++hJ (0+((fM (d++p)).take j).length) ((fM (d++p)).drop j):=by
   rw[<- Iq,List.take_append_drop]
  rw[e] at hs;have hd:d=hJ 0 ((fM (d++p)).take j):=(List.append_inj hs hl.symm).1;have hlen:=Fg 60 0 (d++p);have hn:((fM (d++p)).take j).length<=60:=by rw[List.length_take];unfold fM at hj ⊢;omega
  have:=am9 ((fM (d++p)).take j) (60 - ((fM (d++p)).take j).length) 0 [] (fun x hx=>hr x (List.mem_of_mem_take hx));rw[List.append_nil,<- hd,aJB,List.append_nil,show ((fM (d++p)).take j).length+(60 - ((fM (d++p)).take j).length)=60 by omega] at this;have ho:fM d=(fM (d++p)).take j:=this;unfold oq;rw[ho];exact hl
theorem aH0:∀ (es:List LogRecord) (k:Nat),k+es.length<=100->(∀ e ∈ es,fG e=true)->(hJ k es).length<=372 * es.length
 | [],_,_,_=>by simp[hJ]
 | e::es,k,hk,h=>by
   rw[List.length_cons] at hk;have h1:=atw (k:=k) (by omega) (h e List.mem_cons_self);have h2:=aH0 es (k+1) (by omega) (fun x hx=>h x (List.mem_cons_of_mem _ hx));rw[hJ];simp only[List.length_append,List.length_cons];omega
theorem Wz (s:List UInt8):oq s<=22320:=by
 have h1:=Fg 60 0 s;have h2:=aH0 (fM s) 0 (by unfold fM;omega) (ad2 60 0 s).1;unfold oq;unfold fM at h2 ⊢;omega
def anx (k:Nat):List UInt8:=fw k++[32]
def Z2 (k:Nat) (line:List UInt8):Bool:=decide ((anx k).length<=(f7 35 line).length)&&decide ((f7 35 line).take (anx k).length=anx k)
def lB (k:Nat) (line:List UInt8):List UInt8:=(f7 35 line).drop (anx k).length
def Vp (k:Nat) (line:List UInt8):LogRecord:=⟨f7 64 (lB k line),(lB k line).drop ((f7 64 (lB k line)).length+1)⟩
theorem aJT {k:Nat} {e:LogRecord} (h:fG e=true):Z2 k (Dy k e)=true/\(f7 64 (lB k (Dy k e))).length≠(lB k (Dy k e)).length/\Vp k (Dy k e)=e:=by
 obtain ⟨_,_,_,_,h3⟩:=AL.1 h
 have hb:f7 35 (Dy k e)=anx k++(e.command++64::e.reply):=by
  unfold Dy ag5;rw[amX (arA h)];simp[acM,anx]
 have hr:lB k (Dy k e)=e.command++64::e.reply:=by
  unfold lB;rw[hb,List.drop_left]
 refine⟨?_,?_,?_⟩
 ·unfold Z2;rw[hb,List.take_left];simp
 ·rw[hr,amX h3];simp
 ·unfold Vp;rw[hr,amX h3,aCw h3]
theorem axv {k:Nat} {line:List UInt8}:(dec k line).isSome=(Z2 k line&&(!decide ((f7 64 (lB k line)).length=(lB k line).length)&&(fG (Vp k line)&&decide (Dy k (Vp k line)=line)))):=by
 cases hd:dec k line with
 | some e =>
   obtain ⟨h1,rfl⟩:=V4.1 hd;obtain ⟨g1,g2,g3⟩:=aJT (k:=k) h1;simp[g1,g2,g3,h1]
 | none =>
   rw[eq_comm];simp only[Option.isSome_none,Bool.and_eq_false_iff,Bool.not_eq_false',decide_eq_true_iff,decide_eq_false_iff_not];by_cases h:fG (Vp k line)=true
   ·exact .inr (.inr (.inr (aO9.1 hd _ h)))
   ·exact .inr (.inr (.inl (by simpa using h)))
theorem aKQ (s:List UInt8):di adc [S s] (I (aBt s)):=by
 refine aa.ofL aEm (by simp) fun hs=>?_;simp at hs;simp[as6,ai8,ai9,aja,aia];refine dl (fun i:Nat=>⟨[(0,S s),(3,I ((s.take i).foldl D9 7)),(4,I i)],[],[]⟩) (fun i=>s.length - i) (fun i=>i<=s.length) 0 Wk.li (by simp) ?_;intro i hi K hN hR hE;simp[ajb];refine⟨fun hlt=>?_,fun hge=>?_⟩
 ·have hb:=Su (s.take i) (h:=7) (by omega) (by omega);have hy:=s[i].toNat_lt
  have e:(s.take (i+1)).foldl D9 7=(41 * (s.take i).foldl D9 7+s[i].toNat+1) % 999979:=by
   rw[<- List.take_append_getElem hlt,List.foldl_append];rfl
  generalize (s.take i).foldl D9 7=h at hb e;simp[ajc,hlt];rw[aD (n:=41 * h) (by omega),aD (n:=(s[i].toNat:Int)) (by omega),aD (n:=41 * h+s[i].toNat) (by omega),aD (n:=41 * h+s[i].toNat+1) (by omega),Int.tmod_eq_emod_of_nonneg (by omega),<- e];simp[ajd];rw[aD (by omega)];exact hN (i+1) _ (by omega) (by omega) Wk.li
 ·refine hE _ _ ?_;obtain rfl:i=s.length:=by omega
  simp only[cv];simp[aje,aBt]
theorem aRT (s:List UInt8):di ayv [S s] (I (aBt s)):=by
 refine aa.ofL aKI (by simp) fun hs=>?_;simp at hs;simp[aE6,aAm,aAn,aAo,azQ];refine dl (fun i:Nat=>⟨[(0,S s),(3,I ((s.take i).foldl D9 7)),(4,I i)],[],[]⟩) (fun i=>s.length - i) (fun i=>i<=s.length) 0 Wk.li (by simp) ?_;intro i hi K hN hR hE;simp[aAp];refine⟨fun hlt=>?_,fun hge=>?_⟩
 ·have hb:=Su (s.take i) (h:=7) (by omega) (by omega);have hy:=s[i].toNat_lt
  have e:(s.take (i+1)).foldl D9 7=(41 * (s.take i).foldl D9 7+s[i].toNat+1) % 999979:=by
   rw[<- List.take_append_getElem hlt,List.foldl_append];rfl
  generalize (s.take i).foldl D9 7=h at hb e;simp[aAq,hlt];rw[aD (n:=41 * h) (by omega),aD (n:=(s[i].toNat:Int)) (by omega),aD (n:=41 * h+s[i].toNat) (by omega),aD (n:=41 * h+s[i].toNat+1) (by omega),Int.tmod_eq_emod_of_nonneg (by omega),<- e];simp[aAr];rw[aD (by omega)];exact hN (i+1) _ (by omega) (by omega) Wk.li
 ·refine hE _ _ ?_;obtain rfl:i=s.length:=by omega
  simp only[cv];simp[aAs,aBt]
theorem aQf (s:List UInt8) (h:s.length<=1000000):di asj [S s] (S (ag5 s)):=by
 have hb:=amA s;have hl:=lF 5 (aBt s).toNat (by omega);refine aa.of aIl (by simp) ?_;simp[aB3,avj,avk];refine⟨by omega,?_⟩;refine al (aRT s) ?_;simp;refine al (aa.arg (anc (aBt s).toNat (by omega)) (by simp;omega)) ?_;simp[ag5];omega
theorem aFL (k:Nat) (e:LogRecord) (hk:k < 100) (h:fG e=true):di Ws [I k,dc e] (S (Dy k e++[10])):=by
 obtain ⟨h1,h2,_⟩:=AL.1 h;have hl:=lF 1 k (by omega);have hL:=aBR hk h;have hE:=atw hk h;refine aa.of aGr (by simp) ?_;simp[azh,apB,apC,aod];refine iV (anc k (by omega)) ?_ ?_ ?_
 ·simp
 ·simp
 simp;refine⟨by omega,by omega,by omega,by omega,?_⟩;refine iV (aa.arg (aQf (acM k e) (by omega)) (by simp[acM])) ?_ ?_ ?_
 ·simp
 ·simp
 have hE':(ag5 (acM k e)).length<=371:=hE;simp[Dy];exact⟨by omega,a7 (by first | kernel_rfl | simp) (by first | kernel_rfl | simp)⟩
theorem ayc (s:List UInt8) (h:s.length<=3000) (hn:(35:UInt8) ∉ s):di HV [S s] (.tup [S (ag5 s),B true]):=by
 have hb:=amA s;have hl:=lF 5 (aBt s).toNat (by omega);have hc:s.contains 35=false:=by simpa using hn
 refine aa.of anl (by simp) ?_;simp[Tf,Od,Oe,show ¬(4000 < (s.length:Int)) by omega];refine al (acw s 35) ?_;rw[hc];simp[Of];refine⟨by omega,?_⟩;refine al (aKQ s) ?_;simp;refine al (aa.arg (aed (aBt s).toNat (by omega)) (by simp;omega)) ?_;simp;refine⟨by omega,?_⟩;simp[Og];refine⟨fun h'=>by omega,fun _=>?_⟩;simp[Oh,ag5]
theorem ah5 (k:Nat) (e:LogRecord) (hk:k < 100) (h:fG e=true):di Fu [I k,dc e] (S (Dy k e++[10])):=by
 obtain ⟨h1,h2,_⟩:=AL.1 h;have hl:=lF 1 k (by omega);have hL:=aBR hk h;have hE:=atw hk h;refine aa.of atG (by simp) ?_;simp[aad,UC,UD,T6];refine iV (aed k (by omega)) ?_ ?_ ?_
 ·simp
 ·simp
 simp;refine⟨by omega,by omega,by omega,by omega,?_⟩;refine Gw (aa.arg (ayc (acM k e) (by omega) (arA h)) (by simp[acM])) rfl (.inl (by simp)) ?_ ?_ ?_
 ·simp
 ·simp
 have hE':(ag5 (acM k e)).length<=371:=hE;simp;refine⟨a7 (by first | kernel_rfl | simp) (by first | kernel_rfl | simp),?_⟩;simp[UE,Dy];omega
theorem azM (s:List UInt8) (c:UInt8):Lib.indexByte s c=if c ∈ s then ((f7 c s).length:Int) else -1:=by
 induction s with
 | nil=>rfl
 | cons x s ih =>
   rw[Lib.indexByte,ih];by_cases h:x=c
   ·subst h;simp[f7]
   ·have hx:(x != c)=true:=by simpa using h
    have hc:¬c=x:=fun e=>h e.symm;by_cases hm:c ∈ s
    ·simp[h,hm,hc,f7]
    ·simp[h,hm,hc]
theorem Zb (s:List UInt8) (c:UInt8):di uv [S s,S [c]] (.tup [S (f7 c s),S (Ea c s),B (decide (c ∈ s))]):=by
 refine aa.ofL Sq (by simp) fun hs=>?_;simp at hs
 have hI:di A8 [S s,S [c]] (I (Lib.indexByte s c)) :=
  aa.same (vs:=[.string (bs s),.string (bs [c])]) (y:=.int .i64 (Lib.indexByte s c)) (by kernel_rfl) (fun _ _=>xZ rfl) (fun w _ _=>Tryz.stringslite_Index_one (bs s) c w)
 rw[azM] at hI;simp[Ej,BG,BH];refine al hI ?_;by_cases hm:c ∈ s
 ·obtain ⟨h1,h2⟩:=C2 hm;have hlen:=congrArg List.length h1;simp only[List.length_append,List.length_cons] at hlen
  have e0:s.take (f7 c s).length=f7 c s:=by
   rw[show s.take (f7 c s).length=(f7 c s++c::Ea c s).take (f7 c s).length by rw[<- h1]];exact List.take_left
  have e1:s.drop ((f7 c s).length+1)=Ea c s:=by
   rw[show s.drop ((f7 c s).length+1)=(f7 c s++c::Ea c s).drop ((f7 c s).length+1) by rw[<- h1]];exact aCw h2
  simp[rO,hm];simp[BI,Ba];rw[aD (by omega)];rw[show (((f7 c s).length:Int)+1).toNat=(f7 c s).length+1 by omega,e0,e1,List.take_of_length_le (by omega)];exact⟨by omega,by omega,a7 (by first | kernel_rfl | simp) (by first | kernel_rfl | simp),rfl,rfl,hm⟩
 ·simp[rO,BJ,hm];exact⟨(aFd hm).symm,aMQ hm⟩
theorem YS (s:List UInt8) (c:UInt8):di gL [S s,S [c]] (.tup [S (f7 c s),S (Ea c s),B (decide (c ∈ s))]):=by
 refine aa.of aCO (by simp) ?_;simp[anM,agq,agr];refine bB (Zb s c) rfl (.inl (by simp)) (by simp) ?_;simp
def Vq (c:UInt8):Nat->List UInt8->List (List UInt8)
 | 0,s=>[s]
 | k+1,s=>if c ∈ s then f7 c s::Vq c k (Ea c s) else [s]
theorem Pj {c:UInt8} {s:List UInt8} (h:c ∉ s) (k:Nat):Vq c k s=[s]:=by
 cases k with
 | zero=>rfl
 | succ k=>rw[Vq,if_neg h]
theorem aHX {c:UInt8} {a b:List UInt8} (h:c ∉ a):f7 c (a++c::b)=a/\Ea c (a++c::b)=b:=by
 have hp:∀ x ∈ a,(x != c)=true:=fun x hx=>by
  rw[bne_iff_ne];rintro rfl;exact h hx
 unfold f7 Ea;rw[List.takeWhile_append_of_pos hp,List.dropWhile_append_of_pos hp];simp
theorem amw {a b:List UInt8} (h:(32:UInt8) ∉ a) (k:Nat):Vq 32 (k+1) (a++32::b)=a::Vq 32 k b:=by
 rw[Vq,if_pos (by simp),(aHX h).1,(aHX h).2]
theorem aQq (s:List UInt8):ic s=Vq 32 3 s:=by
 unfold ic;rcases Ph s with h | ⟨a,b,rfl,h⟩
 ·rw[if_pos (S2 h).2.2.1,Pj h]
 ·obtain ⟨e1,e2,e3,_⟩:=YR (b:=b) h;rw[e3,e1,e2,if_neg (by decide),amw h];rcases Ph b with h2 | ⟨c,d,rfl,h2⟩
  ·rw[if_pos (S2 h2).2.2.1,Pj h2]
  ·obtain ⟨f1,f2,f3,_⟩:=YR (b:=d) h2;rw[f3,f1,f2,if_neg (by decide),amw h2];rcases Ph d with h3 | ⟨e,f,rfl,h3⟩
   ·rw[if_pos (S2 h3).2.2.1,Pj h3]
   ·obtain ⟨g1,g2,g3,_⟩:=YR (b:=f) h3;rw[g3,g1,g2,if_neg (by decide),amw h3];rfl
theorem aM7 (s:List UInt8) (hs:s.length<=1048576):di uA [S s,S [32],I 0,I 4] (.ro 1 ((ic s).map S)):=by
 rw[aQq];refine aa.of Ql (by simp) ?_;simp[HM,EW,EX];simp[EY];simp[EZ,E0];rw[aD (by omega)]
 obtain ⟨N,hN,hN3⟩:∃ N:Nat,(if (s.length:Int)+1 < 4 then (s.length:Int)+1 else 4)=((N+1:Nat):Int)/\(N=3\/(N < 3/\N=s.length)):=by
  split
  ·exact⟨s.length,by omega,.inr ⟨by omega,rfl⟩⟩
  ·exact⟨3,by omega,.inl rfl⟩
 rw[hN];simp[E1];refine⟨⟨by omega,by simp[bR];omega⟩,?_⟩;simp[E2];rw[aD (by omega)];simp[Dp,mb]
 refine dl (fun x:List (List UInt8)×List UInt8=>⟨[(0,S x.2),(1,S [32]),(2,I 0),(3,I N),(9,.sl 31 0 (N+1)),(10,I x.1.length)],[(31,⟨1,x.1.map S++List.replicate (N+1 - x.1.length) (S [])⟩)],[]⟩) (fun x=>N+1 - x.1.length)
  (fun x=>x.1.length<=N/\x.2.length+x.1.length<=s.length/\Vq 32 3 s=x.1++Vq 32 (3 - x.1.length) x.2) ([],s) Wk.li (by simp) ?_
 rintro ⟨ps,r⟩ ⟨h1,h2,h3⟩ K hN2 hR hE;dsimp only at h1 h2 h3 ⊢;have hlen:(ps.map S).length=ps.length:=List.length_map ..;have hend:ps.length < N+1:=by omega
 simp[Dq,Dg];refine⟨fun hlt=>?_,fun hge=>?_⟩
 ·simp[Dr];refine al (aru r 32) ?_;by_cases hm:(32:UInt8) ∈ r
  ·have hcl:=aMc hm;have hi:=Za hm;rw[hi];simp[u0];refine⟨fun h=>absurd h (by omega),?_⟩;simp[Ds];rw[aD (by omega)];have ht:r.take (f7 32 r).length=f7 32 r:=aHZ hm;have hd:r.drop ((f7 32 r).length+1)=Ea 32 r:=aHY hm;have hlt':ps.length < N+1:=by omega
   simp[hlt',vD hlen hlt',rV hlen hlt',ht];refine⟨by omega,by omega,?_⟩;simp[Dt];rw[aD (by omega)];refine⟨⟨by omega,by omega⟩,?_⟩;have e1:((f7 32 r).length+1:Int).toNat=(f7 32 r).length+1:=by omega
   rw[e1,hd,List.take_of_length_le (by omega)];simp[Du];rw[aD (by omega)];refine hN2 (ps++[f7 32 r],Ea 32 r) _ (by simp;omega) ⟨by simp;omega,by simp;omega,?_⟩ (Wk.list rfl (by simp) ?_)
   ·obtain ⟨k,hk⟩:∃ k,3 - ps.length=k+1:=⟨2 - ps.length,by omega⟩;rw[h3,hk,Vq,if_pos hm];have hk2:3 - (ps++[f7 32 r]).length=k:=by simp;omega
    dsimp only;rw[hk2];simp
   ·simp;have:=rV (v:=S (f7 32 r)) (z:=S []) hlen hlt';rw[List.set_append_right _ _ (by omega)] at this;simpa using this
  ·have hi:Lib.indexByte r 32 = -1:=by rw[azM,if_neg hm]
   rw[Pj hm] at h3;rw[hi];simp[u0];refine hE _ _ ?_;simp[mb,vD hlen hend,rV hlen hend];refine⟨by omega,?_⟩
   have e2:∀ X:List V,List.take (ps.length+1) (List.map S ps++S r::X)=List.map S ps++[S r]:=fun X=>by
    rw[show List.map S ps++S r::X=(List.map S ps++[S r])++X by simp];exact List.take_left' (by simp)
   obtain ⟨X,hX⟩:∃ X:List (List UInt8),List.replicate (N - ps.length) (S [])=X.map S:=⟨List.replicate (N - ps.length) [],by simp⟩;have hXl:X.length=N - ps.length:=by simpa using (congrArg List.length hX).symm
   rw[hX];refine cp _ (Wk.frz 31 ⟨1,List.map S ps++S r::X.map S⟩ (by simp) (by simp) (by simp)) ?_;have e3:List.take (N+1) (List.map S ps++S r::X.map S)=List.map S ps++S r::X.map S:=List.take_of_length_le (by simp;omega);have hc:N+1<=ps.length+(N - ps.length+1):=by omega
   simp[u4,e3,hXl,hc];rw[aD (by omega)];have e4:((ps.length:Int)+1).toNat=ps.length+1:=by omega
   refine⟨by omega,?_⟩;rw[e4,e2,h3];simp
 ·refine hE _ _ ?_;obtain rfl:ps.length=N:=by omega
  have hr:Vq 32 (3 - ps.length) r=[r]:=by
   rcases hN3 with h | ⟨h,h'⟩
   ·rw[h];rfl
   ·have:r=[]:=List.length_eq_zero_iff.1 (by omega);rw[this];exact Pj (by simp) _
  rw[hr] at h3;simp only[cv];simp[mb,vD hlen hend,rV hlen hend];refine⟨by omega,?_⟩;refine cp _ (Wk.frz 31 ⟨1,List.map S ps++[S r]⟩ (by simp) (by simp) (by simp)) ?_;simp[u4];rw[aD (by omega)];have e4:((ps.length:Int)+1).toNat=ps.length+1:=by omega
  refine⟨by omega,?_⟩;rw[e4,h3,List.take_of_length_le (by simp),List.take_of_length_le (by simp)];simp
theorem aBs (s:List UInt8) (hs:s.length<=1048576):di MX [S s,S [32],I 4] (.ro 1 ((ic s).map S)):=by
 refine aa.of atK (by simp) ?_;simp[aah,Vc,Vd];refine Ac (aa.ag (aM7 s hs)) ?_;simp
def aF1 (l:aT) (w r:List UInt8):Option (List UInt8):=(Gl r).bind fun a=>if w=jw then some (FL (V3 l a)) else if w=Jn then (NR l a).map Lib.itoa else if w=Vu then some (nL a) else none
def Ans (f:Nat) (args:List V) (o:Option (List UInt8)):Prop:=∃ T:List UInt8,(∀ t,o=some t->T=t)/\di f args (.tup [S T,B o.isSome])
theorem aIR (l:aT) (w r:List UInt8) (h:bx l=true) (hr:r.length<=900):Ans Zk [bn l,S w,S r] (aF1 l w r):=by
 have hA:aF1 l w r=(Gl r).bind fun a=>if w=jw then some (FL (V3 l a)) else if w=Jn then (NR l a).map Lib.itoa else if w=Vu then some (nL a) else none:=rfl
 cases ha:Gl r with
 | none =>
   rw[ha] at hA;have hA:aF1 l w r=none:=hA;refine⟨[],by rw[hA];simp,?_⟩;rw[hA];refine aa.ofN Es (by simp) ?_;simp[C1,vl,vm];refine bB (aa.ag (Iu r hr)) rfl (.inl (by simp[ef])) (by simp[ef]) ?_;simp[ef,vn,afx,ha,hA]
 | some a =>
   rw[ha,Option.bind_some] at hA;have hok:=aBM ha;by_cases c1:w=jw
   ·rw[if_pos c1] at hA;obtain ⟨k1,k2⟩:=ayy h (fun g=>decide (kx g.arms a < 2));rw[<- aFb] at k1 k2;refine⟨_,fun t ht=>by rw[hA] at ht;exact Option.some.inj ht,?_⟩;rw[hA];refine aa.ofN Es (by simp) ?_;simp[C1,vl,vm];refine bB (aa.ag (Iu r hr)) rfl (.inl (by simp[ef])) (by simp[ef]) ?_;simp[ef,vn,Bu,Bv,afy,ha,c1,jw];refine aZ (aa.ag (aA5 l a h hok)) ?_;simp;refine aZ (aa.ag (Y9 (V3 l a) true (by omega) k1)) ?_;simp
   ·rw[if_neg c1] at hA;by_cases c2:w=Jn
    ·rw[if_pos c2] at hA
     have hnn:T3 ((NR l a).getD 0):=by
      cases hf:NR l a with
      | none=>exact⟨by decide,by decide⟩
      | some n=>exact aIa h hf
     refine⟨Lib.itoa ((NR l a).getD 0),fun t ht=>?_,?_⟩
     ·rw[hA] at ht;obtain ⟨n,hn,rfl⟩:=Option.map_eq_some_iff.1 ht;rw[hn];rfl
     ·rw[hA];refine aa.ofN Es (by simp) ?_;simp[C1,vl,vm];refine bB (aa.ag (Iu r hr)) rfl (.inl (by simp[ef])) (by simp[ef]) ?_;simp[ef,vn,Bu,Bv,HF,afz,ha,c2,Jn];refine bB (aa.ag (aKN l a h)) rfl (.inl (by simp[eZ])) (by simp[eZ]) ?_;simp[eZ];refine aZ (aa.ag (atV ((NR l a).getD 0) (NR l a).isSome hnn)) ?_;simp
    ·rw[if_neg c2] at hA;by_cases c3:w=Vu
     ·rw[if_pos c3] at hA;refine⟨_,fun t ht=>by rw[hA] at ht;exact Option.some.inj ht,?_⟩;rw[hA];refine aa.ofN Es (by simp) ?_;simp[C1,vl,vm];refine bB (aa.ag (Iu r hr)) rfl (.inl (by simp[ef])) (by simp[ef]) ?_;simp[ef,vn,Bu,Bv,HF,PS,abu,ha,c3,Vu];refine al (aa.ag (V6 a hok)) ?_;simp
     ·rw[if_neg c3] at hA;refine⟨[],by rw[hA];simp,?_⟩;rw[hA];refine aa.ofN Es (by simp) ?_;simp[C1,vl,vm];refine bB (aa.ag (Iu r hr)) rfl (.inl (by simp[ef])) (by simp[ef]) ?_;have m1:¬w=[99,111,110,102,108,105,99,116,115]:=c1;have m2:¬w=[102,105,110,100]:=c2;have m3:¬w=[116,101,120,116]:=c3;simp[ef,vn,Bu,Bv,HF,PS,abv,ha,m1,m2,m3,hA]
theorem aNU (a:Arms) (ha:arms a=true):bM (pN (vx a) a)=true:=by
 unfold pN;have hp:=Oc ha;generalize fq a=k at hp ⊢;generalize NQ (vx a) (jy a).length []=C
 induction C generalizing k with
 | nil=>exact hp
 | cons c C ih=>rw[List.foldl_cons];exact ih _ (aJx hp)
theorem aPm (l:aT) (s:List UInt8) (h:bx l=true) (hs:s.length<=900):Ans asd [bn l,S s] (sA l s):=by
 have hA:sA l s=if FR s=JO then (if s=JO then some (FL (l.map (·.number))) else none)
  else if FR s=Vo then (nQ l (Eb s)).map nL
  else if FR s=Fk then (nQ l (Eb s)).map amq
  else if FR s=ofW then (if mR (Eb s)=true then some (FL (ofL l (Eb s))) else none)
  else if FR s=rk then (nQ l (FR (Eb s))).bind fun a=>(nQ l (Eb (Eb s))).map fun b=>Lib.itoa (kx a b)
  else aF1 l (FR s) (Eb s):=rfl
 have hl:=eo h;have l2:(Eb s).length<=s.length:=qi [32] s;have hcut:di gL [S s,S [32]] (.tup [S (FR s),S (Eb s),B (spQ s)]):=AO s [32] (by omega)
 have harm:∀ t a,nQ l t=some a->arms a=true:=fun t a e=>by
  unfold nQ at e;obtain ⟨n,_,e⟩:=Option.bind_eq_some_iff.1 e;obtain ⟨i,hi,rfl⟩:=Option.map_eq_some_iff.1 e;have hlt:=Ob hi;have:l.getD i Dz=l[i]:=by rw[List.getD_eq_getElem?_getD,List.getElem?_eq_getElem hlt];rfl
  rw[this];exact(axj h _ (List.getElem_mem _)).2
 have hlist:An (fun _=>true) l=l.map (·.number):=by unfold An;simp
 generalize FR s=w at hA hcut;generalize Eb s=r at hA hcut l2;generalize spQ s=q at hcut;by_cases c1:w=JO
 ·rw[if_pos c1] at hA;obtain ⟨k1,k2⟩:=ayy h (fun _=>true);rw[hlist] at k1 k2;refine⟨FL (l.map (·.number)),fun t ht=>?_,?_⟩
  ·rw[hA] at ht;split at ht
   ·exact Option.some.inj ht
   ·cases ht
  ·have hb:(sA l s).isSome=(s==JO):=by
    rw[hA];split
    ·rename_i e;simp[e]
    ·rename_i e;simp[e]
   rw[hb];refine aa.ofN sI (by simp) ?_;simp[uh,oH,oJ];refine aZ (aa.ag hcut) ?_;simp[oL,oM,aun,c1,JO];refine aZ (aa.ag (HS l (by omega) (fun _=>true) Sy [] (by simp) (by simp) (by simp) fun x _=>aKO x)) ?_;rw[hlist];generalize l.map (·.number)=L at k1 k2 ⊢;simp;refine bB (aa.arg (Y9 L (s==JO) (by omega) k1) (by simp[JO])) rfl (.inl (by simp)) (by simp) ?_;simp[JO]
 ·rw[if_neg c1] at hA;have m1:¬w=[108,105,115,116]:=c1;by_cases c2:w=Vo
  ·rw[if_pos c2] at hA;cases ha:nQ l r with
   | none =>
     rw[ha] at hA;have hA:sA l s=none:=hA;refine⟨[],by rw[hA];simp,?_⟩;rw[hA];refine aa.ofN sI (by simp) ?_;simp[uh,oH,oJ];refine aZ (aa.ag hcut) ?_;simp[oL,oM,pX,adK,c2,Vo];refine bB (aa.ag (hZ l r)) rfl (.inl (by simp[ef])) (by simp[ef]) ?_;simp[ef,adL,auo,ha]
   | some a =>
     have hok:=harm r a ha;rw[ha,Option.map_some] at hA;refine⟨_,fun t ht=>by rw[hA] at ht;exact Option.some.inj ht,?_⟩;rw[hA];refine aa.ofN sI (by simp) ?_;simp[uh,oH,oJ];refine aZ (aa.ag hcut) ?_;simp[oL,oM,pX,adK,c2,Vo];refine bB (aa.ag (hZ l r)) rfl (.inl (by simp[ef])) (by simp[ef]) ?_;simp[ef,adL,aup,ha];refine al (aa.ag (V6 a hok)) ?_;simp
  ·rw[if_neg c2] at hA;have m2:¬w=[115,104,111,119]:=c2;by_cases c3:w=Fk
   ·rw[if_pos c3] at hA;cases ha:nQ l r with
    | none =>
      rw[ha] at hA;have hA:sA l s=none:=hA;refine⟨[],by rw[hA];simp,?_⟩;rw[hA];refine aa.ofN sI (by simp) ?_;simp[uh,oH,oJ];refine aZ (aa.ag hcut) ?_;simp[oL,oM,pX,sM,Zz,c3,Fk];refine bB (aa.ag (hZ l r)) rfl (.inl (by simp[ef])) (by simp[ef]) ?_;simp[ef,ZA,aoe,ha]
    | some a =>
      have hok:=harm r a ha;rw[ha,Option.map_some] at hA;refine⟨_,fun t ht=>by rw[hA] at ht;exact Option.some.inj ht,?_⟩;rw[hA];have hsk:bM (pN (vx a) a)=true:=aNU a hok;have htx:bH (pN (vx a) a)=amq a:=rfl;rw[<- htx];refine aa.ofN sI (by simp) ?_;simp[uh,oH,oJ];refine aZ (aa.ag hcut) ?_;simp[oL,oM,pX,sM,Zz,c3,Fk];refine bB (aa.ag (hZ l r)) rfl (.inl (by simp[ef])) (by simp[ef]) ?_;simp[ef,ZA,aof,ha];have hss:=aye a hok;generalize pN (vx a) a=K at hsk hss ⊢;refine Ac (aa.ag hss) ?_;simp[aog];refine al (aa.ag (GC K hsk)) ?_;simp
   ·rw[if_neg c3] at hA;have m3:¬w=[115,104,111,114,116]:=c3;by_cases c4:w=ofW
    ·rw[if_pos c4] at hA;obtain ⟨k1,k2⟩:=ayy h (fun g=>g.name==r);refine⟨FL (ofL l r),fun t ht=>?_,?_⟩
     ·rw[hA] at ht;split at ht
      ·exact Option.some.inj ht
      ·cases ht
     ·have hb:(sA l s).isSome=mR r:=by
       rw[hA];split
       ·rename_i e;simp[e]
       ·rename_i e;simpa using e
      rw[hb,aMt];refine aa.ofN sI (by simp) ?_;simp[uh,oH,oJ];refine aZ (aa.ag hcut) ?_;simp[oL,oM,pX,sM,C7,aoh,Zp,c4,ofW];refine gm (aa.ag (HS l (by omega) (fun g=>g.name==r) Sz [.rp 1 [S r] 0 0] (by simp) (by simp) (by simp) fun x _=>aKP x r)) ?_;simp;refine cF (aa.ag (aIU r)) ?_;simp;generalize An (fun g=>g.name==r) l=L at k1 k2 ⊢;refine gm (aa.ag (Y9 L (mR r) (by omega) k1)) ?_;simp;exact a7 (by simp[Zp]) (by simp)
    ·rw[if_neg c4] at hA;have m4:¬w=[111,102]:=c4;by_cases c5:w=rk
     ·rw[if_pos c5] at hA;have hcut2:di gL [S r,S [32]] (.tup [S (FR r),S (Eb r),B (spQ r)]):=AO r [32] (by omega);generalize FR r=x at hA hcut2;generalize Eb r=y at hA hcut2;generalize spQ r=q2 at hcut2;cases hx:nQ l x with
      | none =>
        rw[hx] at hA;have hA:sA l s=none:=hA;refine⟨[],by rw[hA];simp,?_⟩;rw[hA];refine aa.ofN sI (by simp) ?_;simp[uh,oH,oJ];refine aZ (aa.ag hcut) ?_;simp[oL,oM,pX,sM,C7,GU,Nw,c5,rk];refine aZ (aa.ag hcut2) ?_;simp[Nx];refine bB (aa.ag (hZ l x)) rfl (.inl (by simp[ef])) (by simp[ef]) ?_;simp[ef,Ny];refine bB (aa.ag (hZ l y)) rfl (.inl (by simp[ef])) (by simp[ef]) ?_;simp[ef,Nz,ZB,hx]
      | some a =>
        have hoka:=harm x a hx;rw[hx,Option.bind_some] at hA;cases hy:nQ l y with
        | none =>
          rw[hy] at hA;have hA:sA l s=none:=hA;refine⟨[],by rw[hA];simp,?_⟩;rw[hA];refine aa.ofN sI (by simp) ?_;simp[uh,oH,oJ];refine aZ (aa.ag hcut) ?_;simp[oL,oM,pX,sM,C7,GU,Nw,c5,rk];refine aZ (aa.ag hcut2) ?_;simp[Nx];refine bB (aa.ag (hZ l x)) rfl (.inl (by simp[ef])) (by simp[ef]) ?_;simp[ef,Ny];refine bB (aa.ag (hZ l y)) rfl (.inl (by simp[ef])) (by simp[ef]) ?_;simp[ef,Nz,ZB,hx,hy]
        | some b =>
          have hokb:=harm y b hy;have hdn:=aFe a b;rw[hy,Option.map_some] at hA;refine⟨_,fun t ht=>by rw[hA] at ht;exact Option.some.inj ht,?_⟩;rw[hA];refine aa.ofN sI (by simp) ?_;simp[uh,oH,oJ];refine aZ (aa.ag hcut) ?_;simp[oL,oM,pX,sM,C7,GU,Nw,c5,rk];refine aZ (aa.ag hcut2) ?_;simp[Nx];refine bB (aa.ag (hZ l x)) rfl (.inl (by simp[ef])) (by simp[ef]) ?_;simp[ef,Ny];refine bB (aa.ag (hZ l y)) rfl (.inl (by simp[ef])) (by simp[ef]) ?_;simp[ef,Nz,aoi,hx,hy];refine al (aa.ag (anS a b (gM hoka) (gM hokb))) ?_;simp;refine aZ (aa.ag (atV (kx a b) true hdn)) ?_;simp
     ·rw[if_neg c5] at hA;have m5:¬w=[100,105,102,102,101,114]:=c5;obtain ⟨T,hT,hc⟩:=aIR l w r h (by omega);refine⟨T,fun t ht=>hT t (by rw[<- hA];exact ht),?_⟩;rw[hA];refine aa.ofN sI (by simp) ?_;simp[uh,oH,oJ];refine aZ (aa.ag hcut) ?_;simp[oL,oM,pX,sM,C7,GU,aoj,m1,m2,m3,m4,m5];refine aZ (aa.ag hc) ?_;simp
theorem aHm (s:List UInt8):(∃ a,ic s=[a])\/(∃ a b,ic s=[a,b])\/(∃ a b c,ic s=[a,b,c])\/(∃ a b c d,ic s=[a,b,c,d]/\d.length<=s.length):=by
 have h1:(Eb s).length<=s.length:=qi [32] s;have h2:(Eb (Eb s)).length<=(Eb s).length:=qi [32] _;have h3:(Eb (Eb (Eb s))).length<=(Eb (Eb s)).length:=qi [32] _;unfold ic;split
 ·exact .inl ⟨_,rfl⟩
 ·split
  ·exact .inr (.inl ⟨_,_,rfl⟩)
  ·split
   ·exact .inr (.inr (.inl ⟨_,_,_,rfl⟩))
   ·exact .inr (.inr (.inr ⟨_,_,_,_,rfl,by omega⟩))
def Chg (l:aT) (s:List UInt8) (o:Option (aT×List UInt8)):Prop :=
 (∃ (K:aT) (T:List UInt8),(∀ p,o=some p->K=p.1/\T=p.2)/\di adb [bn l,S s] (.tup [ly K,S T,B o.isSome])) \/
 (o=none/\jA Tryz.prog adb [⟨18,l.map bd⟩] [.agg [.sl (mG 0) 0 (List.length l)],S s] (fun r k nw=>r=.tup [.agg [.sl (mG 0) 0 (List.length l)],S [],B false]/\k=[⟨18,l.map bd⟩]/\nw=none))
theorem aPn (l:aT) (s:List UInt8) (h:bx l=true) (hs:s.length<=900):Chg l s (nV l s):=by
 have hl:=eo h
 have hC:nV l s=if (ic s).getD 0 []=ML/\(ic s).length=4 then
  (ol ((ic s).getD 2 [])).bind fun y=>(Gl ((ic s).getD 3 [])).bind fun a=>(yj l ((ic s).getD 1 []) y a).map fun p=>(p.1,Lib.itoa p.2)
 else if (ic s).getD 0 []=AN/\(ic s).length=2 then (ol ((ic s).getD 1 [])).bind fun n=>(D7 l n).map fun k=>(k,okW)
 else if (ic s).getD 0 []=lA/\(ic s).length=3 then (ol ((ic s).getD 1 [])).bind fun n=>(oX l n ((ic s).getD 2 [])).map fun k=>(k,okW)
 else none:=rfl
 have hsp:=aBs s (by omega);rcases aHm s with ⟨a,e⟩ | ⟨a,b,e⟩ | ⟨a,b,c,e⟩ | ⟨a,b,c,d,e,hd⟩
 all_goals rw[e] at hC hsp
 ·have hC:nV l s=none:=by rw[hC,if_neg (by simp),if_neg (by simp),if_neg (by simp)]
  refine .inr ⟨hC,?_⟩;refine jA.of vz (by simp) ?_;simp[xq,pY,pZ];refine Ac (aa.ag hsp) ?_;simp[p4,AE,C8,GV];exact A9 (by simp) (by simp) (by simp)
 ·by_cases c0:a=AN
  ·rw[if_neg (by simp),if_pos ⟨c0,rfl⟩] at hC;have hC:nV l s=(ol b).bind fun n=>(D7 l n).map fun k=>(k,okW):=hC;refine .inl ⟨(D7 l ((ol b).getD 0)).getD [],okW,fun p hp=>?_,?_⟩
   ·rw[hC] at hp;obtain ⟨n,hn,hp⟩:=Option.bind_eq_some_iff.1 hp;obtain ⟨k,hk,rfl⟩:=Option.map_eq_some_iff.1 hp;rw[hn,Option.getD_some,hk];exact⟨rfl,rfl⟩
   ·have hb:(nV l s).isSome=((ol b).isSome&&(D7 l ((ol b).getD 0)).isSome):=by
     rw[hC];cases ol b with
     | none=>rfl
     | some n=>simp
    rw[hb];refine aa.ofN vz (by simp) ?_;simp[xq,pY,pZ];refine Ac (aa.ag hsp) ?_;simp[p4,AE,aop,c0,AN];refine bB (aa.ag (MM b)) rfl (.inl (by simp[eZ])) (by simp[eZ]) ?_;simp[eZ,aoq];refine bB (aa.ag (aEK l ((ol b).getD 0) h)) rfl (.inl (by simp[FU])) (by simp[FU]) ?_;simp[FU,aor];exact⟨fun h=>⟨rfl,fun _=>h⟩,fun h=>⟨rfl,fun h2=>by rw[h] at h2;cases h2⟩⟩
  ·have m0:¬a=[114,101,118,111,107,101]:=c0;have hC:nV l s=none:=by rw[hC,if_neg (by simp),if_neg (by rintro ⟨e,_⟩;exact c0 e),if_neg (by simp)]
   refine .inr ⟨hC,?_⟩;refine jA.of vz (by simp) ?_;simp[xq,pY,pZ];refine Ac (aa.ag hsp) ?_;simp[p4,AE,C8,GV,m0];exact A9 (by simp) (by simp) (by simp)
 ·by_cases c0:a=lA
  ·rw[if_neg (by simp),if_neg (by simp),if_pos ⟨c0,rfl⟩] at hC;have hC:nV l s=(ol b).bind fun n=>(oX l n c).map fun k=>(k,okW):=hC;refine .inl ⟨(oX l ((ol b).getD 0) c).getD [],okW,fun p hp=>?_,?_⟩
   ·rw[hC] at hp;obtain ⟨n,hn,hp⟩:=Option.bind_eq_some_iff.1 hp;obtain ⟨k,hk,rfl⟩:=Option.map_eq_some_iff.1 hp;rw[hn,Option.getD_some,hk];exact⟨rfl,rfl⟩
   ·have hb:(nV l s).isSome=((ol b).isSome&&(oX l ((ol b).getD 0) c).isSome):=by
     rw[hC];cases ol b with
     | none=>rfl
     | some n=>simp
    rw[hb];refine aa.ofN vz (by simp) ?_;simp[xq,pY,pZ];refine Ac (aa.ag hsp) ?_;simp[p4,AE,C8,aos,c0,lA];refine bB (aa.ag (MM b)) rfl (.inl (by simp[eZ])) (by simp[eZ]) ?_;simp[eZ,aot,Zq];refine Gw (aa.ag (aA9 l ((ol b).getD 0) c h)) rfl (.inl (by simp[FU])) ?_ ?_ ?_
    ·simp[FU]
    ·simp[FU]
    simp[FU];refine⟨a7 (by simp[Zq,FU]) (by simp[FU]),?_⟩;simp[aou];exact⟨fun h=>⟨rfl,fun _=>h⟩,fun h=>⟨rfl,fun h2=>by rw[h] at h2;cases h2⟩⟩
  ·have m0:¬a=[116,114,97,110,115,102,101,114]:=c0;have hC:nV l s=none:=by rw[hC,if_neg (by simp),if_neg (by simp),if_neg (by rintro ⟨e,_⟩;exact c0 e)]
   refine .inr ⟨hC,?_⟩;refine jA.of vz (by simp) ?_;simp[xq,pY,pZ];refine Ac (aa.ag hsp) ?_;simp[p4,AE,C8,GV,m0];exact A9 (by simp) (by simp) (by simp)
 ·by_cases c0:a=ML
  ·rw[if_pos ⟨c0,rfl⟩] at hC;have hC:nV l s=(ol c).bind fun y=>(Gl d).bind fun x=>(yj l b y x).map fun p=>(p.1,Lib.itoa p.2):=hC;cases hn:ol c with
   | none =>
     rw[hn] at hC;have hC:nV l s=none:=hC;refine .inr ⟨hC,?_⟩;refine jA.of vz (by simp) ?_;simp[xq,pY,pZ];refine Ac (aa.ag hsp) ?_;simp[p4,SF,c0,ML];refine bB (aa.ag (MM c)) rfl (.inl (by simp[eZ])) (by simp[eZ]) ?_;simp[eZ,SG];refine bB (aa.ag (Iu d (by omega))) rfl (.inl (by simp[ef])) (by simp[ef]) ?_;simp[ef,SH,adM,hn];exact A9 (by simp) (by simp) (by simp)
   | some y =>
     rw[hn,Option.bind_some] at hC;cases ha:Gl d with
     | none =>
       rw[ha] at hC;have hC:nV l s=none:=hC;refine .inr ⟨hC,?_⟩;refine jA.of vz (by simp) ?_;simp[xq,pY,pZ];refine Ac (aa.ag hsp) ?_;simp[p4,SF,c0,ML];refine bB (aa.ag (MM c)) rfl (.inl (by simp[eZ])) (by simp[eZ]) ?_;simp[eZ,SG];refine bB (aa.ag (Iu d (by omega))) rfl (.inl (by simp[ef])) (by simp[ef]) ?_;simp[ef,SH,adM,hn,ha];exact A9 (by simp) (by simp) (by simp)
     | some x =>
       rw[ha,Option.bind_some] at hC
       have hnn:T3 ((yj l b y x).getD ([],0)).2:=by
        cases hg:yj l b y x with
        | none=>exact⟨by decide,by decide⟩
        | some p =>
          have:p.2=kk l:=by
           unfold yj at hg;split at hg
           ·injection hg with hg;rw[<- hg]
           ·cases hg
          rw[Option.getD_some,this];exact aJk h
       refine .inl ⟨((yj l b y x).getD ([],0)).1,Lib.itoa ((yj l b y x).getD ([],0)).2,fun p hp=>?_,?_⟩
       ·rw[hC] at hp;obtain ⟨p',hp',rfl⟩:=Option.map_eq_some_iff.1 hp;rw[hp'];exact⟨rfl,rfl⟩
       ·have hb:(nV l s).isSome=(yj l b y x).isSome:=by rw[hC];simp
        rw[hb];have hgr:=aIO l b y x h;unfold atM at hgr;generalize (yj l b y x).isSome=q at hgr ⊢;generalize (yj l b y x).getD ([],0)=p at hgr hnn ⊢;obtain ⟨K,n⟩:=p;dsimp only at hgr hnn ⊢;refine aa.ofN vz (by simp) ?_;simp[xq,pY,pZ];refine Ac (aa.ag hsp) ?_;simp[p4,SF,c0,ML];refine bB (aa.ag (MM c)) rfl (.inl (by simp[eZ])) (by simp[eZ]) ?_;simp[eZ,SG];refine bB (aa.ag (Iu d (by omega))) rfl (.inl (by simp[ef])) (by simp[ef]) ?_;simp[ef,SH,auq,adw,hn,ha];refine gm (aa.ag hgr) ?_;simp;refine⟨a7 (by simp[adw]) (by simp),?_⟩;simp[aur,adx];refine cF (aa.ag (am1 n ⟨by omega,by omega⟩)) ?_;simp;exact a7 (by simp[adx]) (by simp)
  ·have m0:¬a=[103,114,97,110,116]:=c0;have hC:nV l s=none:=by rw[hC,if_neg (by rintro ⟨e,_⟩;exact c0 e),if_neg (by simp),if_neg (by simp)]
   refine .inr ⟨hC,?_⟩;refine jA.of vz (by simp) ?_;simp[xq,pY,pZ];refine Ac (aa.ag hsp) ?_;simp[p4,AE,C8,GV,m0];exact A9 (by simp) (by simp) (by simp)
theorem C6 (a b:List UInt8):plain (a++b)=(plain a&&plain b):=List.all_append
theorem asx (x:UInt8) (b:List UInt8):plain (x::b)=(EN x&&plain b):=rfl
theorem Uf (a b:List UInt8) (ha:plain a=true) (hb:plain b=true):plain (a++32::b)=true:=by
 rw[C6,asx,ha,hb];decide
theorem ID {l:List (List UInt8)} (h:∀ w ∈ l,plain w=true) (i:Nat):plain (l.getD i [])=true:=by
 rw[List.getD_eq_getElem?_getD];cases e:l[i]? with
 | none=>rfl
 | some w=>exact h w (List.mem_of_getElem? e)
theorem M8 (x:Int):plain (eL x)=true:=ID (by decide +kernel) _
theorem aDq (t:List UInt8) (x:Int) (h:plain t=true):plain (C0 t x)=true:=by
 unfold C0;split
 ·exact h
 ·exact Uf _ _ h (ID (by decide +kernel) _)
theorem azZ (f:Field):plain (dS f)=true:=by
 unfold dS;split
 ·exact M8 _
 ·refine Uf _ _ (aDq _ _ (ID (by decide +kernel) _)) ?_;rw[C6,C6,M8,M8];decide
theorem aFF (o l:Int):plain (rI o l)=true:=by
 refine aDq _ _ ?_;rw[C6,show plain (PH o)=true from ID (by decide +kernel) _];decide
theorem aNK (k:Int) (i:Nat):plain ((cY k).getD i [])=true:=by
 refine ID ?_ i;unfold cY
 repeat' split
 all_goals decide +kernel
theorem asw (g:Group):plain (jK g)=true:=by
 have h1:plain (mO g.count g.kind)=true:=by
  unfold mO;split
  ·decide
  ·exact ID (by decide +kernel) _
 have h2:plain (rl g.kind g.count)=true:=by
  unfold rl;rw[C6,ID (by decide +kernel) _];split<;>decide
 unfold jK;refine Uf _ _ h1 ?_;split
 ·exact Uf _ _ h2 (aNK _ _)
 ·rw[List.append_nil];exact h2
theorem asz (s:Slot):plain (dR s)=true:=by
 have h:plain (D8 s)=true:=by
  unfold D8;split
  ·exact M8 _
  ·split
   ·decide
   ·split
    ·rw[C6,ID (by decide +kernel) _];decide
    ·decide
 unfold dR;split
 ·rw[asx,h];decide
 ·decide
theorem auk {f o n r:List UInt8} {c:Bool} (hf:plain f=true) (ho:plain o=true) (hn:plain n=true) (hr:plain r=true):plain (lY f o n r c)=true:=by
 unfold lY
 repeat' split
 all_goals simp only[C6,hf,ho,hn,hr,Bool.and_true,Bool.true_and]
 all_goals decide
theorem aG8 (k:Sk):plain (bH k)=true:=by
 refine auk (azZ _) ?_ ?_ ?_
 ·unfold Z1 oP;split
  ·rfl
  ·rw[C6,aFF,asz];rfl
 ·unfold skN gP;split
  ·rfl
  ·rw[C6,asw,asz];rfl
 ·unfold VD gP;split
  ·rfl
  ·rw[C6,asw,asz];rfl
theorem aDo {a:Arms} (h:arms a=true):plain (nL a)=true:=by
 have hg:∀ g,plain (rU g)=true:=fun g=>by
  unfold rU;split
  ·rfl
  ·rw[V5];exact Uf _ _ (asw g) (M8 _)
 rw[Sl h];refine auk (azZ _) ?_ (hg _) (hg _);unfold H5;split
 ·rfl
 ·exact Uf _ _ (aFF _ _) (M8 _)
theorem adI (n:Int):plain (Lib.itoa n)=true:=by
 have key:∀ m,plain (Lib.decDigits m)=true:=fun m=>List.all_eq_true.2 fun b hb=>by
  have:=Jm m b hb;unfold EN;exact decide_eq_true ⟨by omega,by omega,by omega⟩
 unfold Lib.itoa;split
 ·rw[asx,key];decide
 ·exact key _
theorem aDp:∀ l:List (List UInt8),(∀ w ∈ l,plain w=true)->plain (A4 l)=true
 | [],_=>rfl
 | [x],h=>h x (by simp)
 | x::y::l,h=>Uf _ _ (h x (by simp)) (aDp (y::l) fun w hw=>h w (List.mem_cons_of_mem _ hw))
theorem asy (l:List Int):plain (FL l)=true:=by
 unfold FL;split
 ·decide
 ·refine aDp _ fun w hw=>?_;obtain ⟨n,_,rfl⟩:=List.mem_map.1 hw;exact adI n
def aSO (p g:Grant):Prop:=p.number < g.number/\p.year<=g.year/\¬kx p.arms g.arms < 2
theorem aJ2 {l:aT} {i:Nat} (h:i < l.length):oW l i=true↔jx l[i]=true/\(∀ hi:0 < i,l[i - 1].number < l[i].number/\l[i - 1].year<=l[i].year)/\∀ k (hk:k < i),¬kx l[k].arms l[i].arms < 2:=by
 have e:l.getD i Dz=l[i]:=by rw[List.getD_eq_getElem?_getD,List.getElem?_eq_getElem h,Option.getD_some]
 have e1:l.getD (i - 1) Dz=l[i - 1]:=by rw[List.getD_eq_getElem?_getD,List.getElem?_eq_getElem (show i - 1 < l.length by omega),Option.getD_some]
 unfold oW H6;rw[e,e1];simp only[Bool.and_eq_true,Bool.or_eq_true,decide_eq_true_eq,List.all_eq_true,Bool.not_eq_true',decide_eq_false_iff_not];constructor
 ·rintro ⟨h1,h2,h3⟩;refine⟨h1,fun hi=>h2.resolve_left (by omega),fun k hk=>h3 _ ?_⟩;exact List.mem_iff_getElem.2 ⟨k,by rw[List.length_take];omega,by rw[List.getElem_take]⟩
 ·rintro ⟨h1,h2,h3⟩;refine⟨h1,?_,fun g hg=>?_⟩
  ·by_cases h0:i=0
   ·exact .inl h0
   ·exact .inr (h2 (by omega))
  ·obtain ⟨k,hk,rfl⟩:=List.mem_iff_getElem.1 hg;rw[List.length_take] at hk;rw[List.getElem_take];exact h3 k (by omega)
theorem FC {l:aT}:bx l=true↔l.length<=12/\(∀ g ∈ l,jx g=true)/\l.Pairwise aSO:=by
 unfold bx;simp only[Bool.and_eq_true,decide_eq_true_eq,List.all_eq_true,List.mem_range];constructor
 ·rintro ⟨h1,h2⟩;have hs:=fun i (h:i < l.length)=>(aJ2 h).1 (h2 i h);refine⟨h1,fun g hg=>?_,List.pairwise_iff_getElem.2 ?_⟩
  ·obtain ⟨k,hk,rfl⟩:=List.mem_iff_getElem.1 hg;exact(hs k hk).1
  ·have up:∀ (d i:Nat) (hj:i+d+1 < l.length),l[i].number < l[i+d+1].number/\l[i].year<=l[i+d+1].year:=fun d=>by
    induction d with
    | zero =>
      intro i hj;have:=(hs (i+0+1) hj).2.1 (by omega);simpa using this
    | succ d ih =>
      intro i hj;have h3:=ih i (by omega);have h4:=(hs (i+(d+1)+1) hj).2.1 (by omega);have e:i+(d+1)+1 - 1=i+d+1:=by omega
      simp only[e] at h4;exact⟨by omega,by omega⟩
   intro i j hi hj hij;have hu:=up (j - i - 1) i (by omega);have e:i+(j - i - 1)+1=j:=by omega
   simp only[e] at hu;exact⟨hu.1,hu.2,(hs j hj).2.2 i hij⟩
 ·rintro ⟨h1,h2,h3⟩;rw[List.pairwise_iff_getElem] at h3;refine⟨h1,fun i h=>(aJ2 h).2 ⟨h2 _ (List.getElem_mem h),fun hi=>?_,fun k hk=>(h3 k i (by omega) h hk).2.2⟩⟩;have:=h3 (i - 1) i (by omega) h (by omega);exact⟨this.1,this.2.1⟩
theorem aDA {l:aT} (i:Nat) (h:bx l=true):bx (l.eraseIdx i)=true:=by
 obtain ⟨h1,h2,h3⟩:=FC.1 h;have hsub:(l.eraseIdx i).Sublist l:=List.eraseIdx_sublist l i;exact FC.2 ⟨Nat.le_trans hsub.length_le h1,fun g hg=>h2 g (hsub.subset hg),h3.sublist hsub⟩
theorem aFE {l:aT} {n:Int} {i:Nat} (h:xD l n=some i):i < l.length:=by
 obtain ⟨h1,_⟩:=List.findIdx?_eq_some_iff_getElem.1 h;exact h1
theorem aGK {g:Grant} (h:jx g=true):arms g.arms=true:=by
 simp only[jx,Bool.and_eq_true] at h;exact h.2.2.2
theorem aOR {l:aT} (hl:bx l=true) {s:List UInt8} {a:Arms} (h:nQ l s=some a):arms a=true:=by
 obtain ⟨n,_,h⟩:=Option.bind_eq_some_iff.1 h;obtain ⟨i,hi,rfl⟩:=Option.map_eq_some_iff.1 h;have:=aFE hi;rw[List.getD_eq_getElem?_getD,List.getElem?_eq_getElem this,Option.getD_some];exact aGK ((FC.1 hl).2.1 _ (List.getElem_mem this))
theorem aMN {l:aT} (hl:bx l=true) {s:List UInt8} {p:aT×List UInt8} (h:nV l s=some p):bx p.1=true/\plain p.2=true:=by
 unfold nV at h;split at h
 ·obtain ⟨y,_,h⟩:=Option.bind_eq_some_iff.1 h;obtain ⟨a,_,h⟩:=Option.bind_eq_some_iff.1 h;obtain ⟨q,hq,rfl⟩:=Option.map_eq_some_iff.1 h;unfold yj at hq;split at hq
  ·rename_i hr;injection hq with hq
   subst hq;exact⟨hr,adI _⟩
  ·cases hq
 ·split at h
  ·obtain ⟨n,_,h⟩:=Option.bind_eq_some_iff.1 h;obtain ⟨q,hq,rfl⟩:=Option.map_eq_some_iff.1 h;obtain ⟨i,_,rfl⟩:=Option.map_eq_some_iff.1 hq;exact⟨aDA i hl,(by decide:plain okW=true)⟩
  ·split at h
   ·obtain ⟨n,_,h⟩:=Option.bind_eq_some_iff.1 h;obtain ⟨q,hq,rfl⟩:=Option.map_eq_some_iff.1 h;obtain ⟨i,hi,hq⟩:=Option.bind_eq_some_iff.1 hq;split at hq
    ·rename_i hn;injection hq with hq
     subst hq;exact⟨(ag2 _ (aFE hi) hl).trans hn,(by decide:plain okW=true)⟩
    ·cases hq
   ·cases h
theorem aF2 {l:aT} (hl:bx l=true) {s t:List UInt8} (h:sA l s=some t):plain t=true:=by
 have hm:∀ {f:Arms->List UInt8} {w:List UInt8},(∀ a,arms a=true->plain (f a)=true)->(nQ l w).map f=some t->plain t=true:=fun hf hh=>by
  obtain ⟨a,ha,rfl⟩:=Option.map_eq_some_iff.1 hh;exact hf a (aOR hl ha)
 unfold sA at h;split at h
 ·split at h
  ·injection h with h;subst h;exact asy _
  ·cases h
 ·split at h
  ·exact hm (fun a ha=>aDo ha) h
  ·split at h
   ·exact hm (fun a _=>aG8 _) h
   ·split at h
    ·split at h
     ·injection h with h;subst h;exact asy _
     ·cases h
    ·split at h
     ·obtain ⟨a,_,h⟩:=Option.bind_eq_some_iff.1 h;obtain ⟨b,_,rfl⟩:=Option.map_eq_some_iff.1 h;exact adI _
     ·obtain ⟨a,ha,h⟩:=Option.bind_eq_some_iff.1 h;split at h
      ·injection h with h;subst h;exact asy _
      ·split at h
       ·obtain ⟨b,_,rfl⟩:=Option.map_eq_some_iff.1 h;exact adI _
       ·split at h
        ·injection h with h;subst h;exact aDo (aBM ha)
        ·cases h
theorem aTR {l:aT} (hl:bx l=true) (s:List UInt8):bx (aLo l s).1=true/\plain (aLo l s).2=true:=by
 unfold aLo;cases e:nV l s with
 | some p=>exact aMN hl e
 | none =>
   refine⟨hl,?_⟩;show plain ((sA l s).getD quW)=true;cases e2:sA l s with
   | some t=>exact aF2 hl e2
   | none=>decide
set_option maxRecDepth 100000
def OC:=[eF 1 4 0,ok 2 (vB false)]
def OD:=[aL 3 0 1,bu 4 1 3,cg 5 eU 4,om 6 5,oT 6 7 (.faddr 1 (.t 1)),oT 6 8 (.ld true 3 (.t 7)),oT 6 9 (.call qn [.t 8]),oo 10 (.pick (.t 6) (.t 9) (xB false)),om 2 10]
def Tj:C:=(sr OC [1] (sr OD [2] .ret))
theorem ano:cE kC Tj [(.tmp 2)] 11:=dE func40 rfl
def ap7:=[eF 1 4 0,ok 2 (vB false)]
def ap8:=[aL 3 0 1,bu 4 1 3,cg 5 mZ 4,om 6 5,oT 6 7 (.faddr 1 (.t 1)),oT 6 8 (.ld true 3 (.t 7)),oT 6 9 (.call ux [.t 8]),oo 10 (.pick (.t 6) (.t 9) (xB false)),om 2 10]
def azm:C:=(sr ap7 [1] (sr ap8 [2] .ret))
theorem aGw:cE Ez azm [(.tmp 2)] 11:=dE func44 rfl
structure Console where
 grants:List Grant
 log:Log
 deriving DecidableEq
abbrev co (c:Console):V:=.agg [.ro 18 (c.grants.map bd),S c.log.durable,S c.log.pending,I c.log.count]
abbrev GN (c:Console):V:=.agg [.own 18 (c.grants.map bd),S c.log.durable,S c.log.pending,I c.log.count]
def avl:=[eF 1 3 0,ok 2 (vB false)]
def avm:=[aL 7 0 1,bl 8 1 7,oo 9 (.len true (.t 8)),aL 10 1 1,bl 11 1 10,oo 12 (.len true (.t 11)),cI 13 .add 9 12,cn 14 .gtr 13 30000]
def avn:=[ok 2 (vB false)]
def avo:=[aL 16 0 1,bl 17 1 16,aL 18 1 1,bl 19 1 18,cI 20 .add 17 19,cg 21 Ix 20,om 15 21,cJ 22 15 0,cJ 23 15 1,om 3 22,om 4 23]
def avp:=[aL 25 0 1,bl 26 1 25,cg 27 Ix 26,om 24 27,cJ 28 24 0,cJ 29 24 1,om 5 28,om 6 29]
def avq:=[om 30 4,aL 31 0 1,bl 32 1 31,oo 33 (.len true (.t 32)),aL 34 1 1,bl 35 1 34,oo 36 (.len true (.t 35)),cI 37 .add 33 36,cI 38 .eql 30 37,om 39 38,oT 39 40 (.mv (.t 6)),oT 39 41 (.faddr 0 (.t 1)),oT 39 42 (.ld false 1 (.t 41)),oT 39 43 (.len true (.t 42)),oT 39 44 (.bin .eql .none (.t 40) (.t 43)),oo 45 (.pick (.t 39) (.t 44) (xB false)),om 46 45,oT 46 47 (.mv (.t 3)),oT 46 48 (.len false (.t 47)),oT 46 49 (.faddr 2 (.t 1)),oT 46 50 (.ld false 1 (.t 49)),oT 46 51 (.bin .eql .none (.t 48) (.t 50)),oo 52 (.pick (.t 46) (.t 51) (xB false)),om 2 52]
def aB4:C:=(sr avl [1] (ss (sr avm [1,14] (sc 14 (sr avn [2] .ret) .skip)) (sr avo [1,3,4] (sr avp [1,3,4,6] (sr avq [2] .ret)))))
theorem aIm:cE ux aB4 [(.tmp 2)] 53:=dE func68 rfl
def aaQ:=[eF 1 3 0,ok 2 (vB false)]
def aaR:=[aL 8 0 1,bl 9 1 8,aL 10 1 1,bl 11 1 10,cI 12 .add 9 11,om 3 12]
def aaS:=[om 14 3,cg 15 rE 14,om 13 15,cJ 16 13 0,cJ 17 13 1,om 4 16,om 5 17]
def aaT:=[om 18 5,om 19 4,oo 20 (.len false (.t 19)),ft 21 1 18 20,bl 22 1 21,om 23 3,oo 24 (.len true (.t 23)),cI 25 .neq 22 24,om 26 25,oF 26 27 (.mv (.t 4)),oF 26 28 (.len false (.t 27)),oF 26 29 (.faddr 2 (.t 1)),oF 26 30 (.ld false 1 (.t 29)),oF 26 31 (.bin .neq .none (.t 28) (.t 30)),oo 32 (.pick (.t 26) (xB true) (.t 31))]
def Nc:=[ok 2 (vB false)]
def aaU:=[om 33 5,oo 34 (.len false (.t 33)),ok 35 (vI 0)]
def aaV:=[cI 36 .lss 35 34]
def aaW:=[ft 37 1 33 35,bl 38 1 37,om 7 38]
def aaX:=[om 39 7,aL 40 0 1,bl 41 1 40,oo 42 (.len true (.t 41)),cI 43 .eql 39 42]
def aaY:=[ok 2 (vB true)]
def WN:=[fL 44 35 1,om 35 44]
def Wc:C:=(sr aaV [1,33,34,35,36] (ss (sc 36 .skip (.exit 0)) (ss (.block 1 (sr aaW [1,7,33,34,35] (sr aaX [1,33,34,35,43] (sc 43 (sr aaY [2] .ret) .skip)))) (.reg WN [1,33,34,35]))))
def WO:=[ok 2 (vB false)]
def ahz:C:=(sr aaQ [1] (sr aaR [1,3] (sr aaS [1,3,4,5] (ss (sr aaT [1,5,32] (sc 32 (sr Nc [2] .ret) .skip)) (ss (sr aaU [1,33,34,35] (.block 0 (.loop Wc))) (sr WO [2] .ret))))))
theorem aAT:cE qn ahz [(.tmp 2)] 45:=dE func74 rfl
def UH:=[eF 2 3 0,eF 3 2 1,dD 4 3 (.agg [vS [],vS [],vI 0]),ok 5 (vI 0)]
def UI:=[bu 6 3 2,cg 7 ux 6,oo 8 (.un .not (.t 7)),om 9 8,oF 9 10 (.ld true 2 (.t 3)),oF 9 11 (.call N1 [.t 10]),oF 9 12 (.un .not (.t 11)),oo 13 (.pick (.t 9) (xB true) (.t 12))]
def Ig:=[bu 14 3 2,bg 3 4 14,ok 5 (vI 1)]
def UJ:=[aL 15 2 2,bl 16 1 15,cn 17 .eql 16 60]
def UK:=[bu 18 3 2,bg 3 4 18,ok 5 (vI 2)]
def UL:=[aL 19 1 2,bl 20 1 19,aL 21 2 2,bl 22 1 21,bu 23 2 3,dK 24 Ws 22 23,cI 25 .add 20 24,aL 26 1 2,bg 1 26 25]
def T7:List (List Nat):=[[],[0],[],[2],[],[2,3,4],[0,1,2,3,4,5],[0,1,2,3,4,5,6],[0,1,2,3,4,5,6,7]]
def UM:=[aL 27 2 2,bl 28 1 27,fL 29 28 1,aL 30 2 2,bg 1 30 29]
def UN:=[bu 31 3 2,bg 3 4 31,ok 5 (vI 0)]
def aae:C:=(sr UH [2,3,4] (ss (sr UI [2,3,4,13] (sc 13 (sr Ig [4,5] .ret) .skip)) (ss (sr UJ [2,3,4,17] (sc 17 (sr UK [4,5] .ret) .skip)) (ss (.regD UL T7 [2,4]) (sr UM [2,4] (sr UN [4,5] .ret))))))
theorem atH:cE mY aae [(.cell 4 true 3),(.tmp 5)] 32:=dE func47 rfl
def Ug:=[eF 2 3 0,eF 3 2 1,dD 4 3 (.agg [vS [],vS [],vI 0]),ok 5 (vI 0)]
def Uh:=[bu 7 3 2,cg 8 qn 7,oo 9 (.un .not (.t 8)),om 10 9,oF 10 11 (.ld true 2 (.t 3)),oF 10 12 (.call vK [.t 11]),oF 10 13 (.un .not (.t 12)),oo 14 (.pick (.t 10) (xB true) (.t 13)),om 6 14]
def H7:=[bu 15 3 2,bg 3 4 15,ok 5 (vI 1)]
def Ui:=[aL 17 2 2,bl 18 1 17,cn 19 .eql 18 60,om 16 19]
def Uj:=[bu 20 3 2,bg 3 4 20,ok 5 (vI 2)]
def Uk:=[aL 21 0 2,bl 22 1 21,aL 23 1 2,bl 24 1 23,aL 25 2 2,bl 26 1 25,bu 27 2 3,dK 28 Fu 26 27,cI 29 .add 24 28,aL 30 2 2,bl 31 1 30,fL 32 31 1,oo 33 (.build (.agg [vS [],vS [],vI 0]) [(0,(1,(.t 22))),(1,(1,(.t 29))),(2,(1,(.t 32)))]),bg 3 4 33,ok 5 (vI 0)]
def T5:List (List Nat):=[[],[0],[],[2],[],[4],[],[4,5,6],[2,3,4,5,6,7],[],[9],[9,10],[0,1,2,3,4,5,6,7,8,9,10,11],[0,1,2,3,4,5,6,7,8,9,10,11,12],[0,1,2,3,4,5,6,7,8,9,10,11,12,13]]
def Z9:C:=(sr Ug [2,3,4] (ss (.block 0 (sr Uh [2,3,4,6] (sc 6 (sr H7 [4,5] .ret) (sr Ui [2,3,4,16] (sc 16 (sr Uj [4,5] .ret) .skip))))) (ss (.regD Uk T5 [4,5]) .ret)))
theorem atC:cE MS Z9 [(.cell 4 true 3),(.tmp 5)] 34:=dE func52 rfl
def apL:=[dD 4 2 (.agg [vS [],vS []]),ok 5 (vB false)]
def apM:=[om 11 1,cg 12 gk 11,oo 13 (.bin .add .none (.t 12) (.k (vS [32]))),om 6 13]
def apN:=[om 14 0,oo 15 (.call o9 [.t 14,(.k (.v (.int .u8 (35))))]),oo 16 (.iaddr 1 (.t 15) (xI 0)),bl 17 1 16,om 7 17]
def ZP:=[om 18 7,oo 19 (.len true (.t 18)),om 20 6,oo 21 (.len true (.t 20)),cI 22 .lss 19 21,om 23 22,oF 23 24 (.mv (.t 7)),oF 23 25 (.mv (.t 6)),oF 23 26 (.len true (.t 25)),oF 23 27 (.slc none (.t 24) none (some (.t 26))),oF 23 28 (.mv (.t 6)),oF 23 29 (.bin .neq .none (.t 27) (.t 28)),oo 30 (.pick (.t 23) (xB true) (.t 29))]
def ZQ:=[oo 31 (.build (.agg [vS [],vS []]) []),bg 2 4 31,ok 5 (vB false)]
def apO:=[om 32 7,om 33 6,oo 34 (.len true (.t 33)),oo 35 (.slc none (.t 32) (some (.t 34)) none),om 8 35]
def apP:=[om 36 8,oo 37 (.call o9 [.t 36,(.k (.v (.int .u8 (64))))]),oo 38 (.iaddr 1 (.t 37) (xI 0)),bl 39 1 38,om 9 39]
def apQ:=[om 40 9,oo 41 (.len true (.t 40)),om 42 8,oo 43 (.len true (.t 42)),cI 44 .eql 41 43]
def apR:=[oo 45 (.build (.agg [vS [],vS []]) []),bg 2 4 45,ok 5 (vB false)]
def apS:=[om 46 9,om 47 8,om 48 9,oo 49 (.len true (.t 48)),fL 50 49 1,oo 51 (.slc none (.t 47) (some (.t 50)) none),oo 52 (.build (.agg [vS [],vS []]) [(0,(1,(.t 46))),(1,(1,(.t 51)))]),dD 10 2 (.agg [vS [],vS []]),bg 2 10 52]
def aki:=[bu 53 2 10,bu 54 2 10,cg 55 N1 54,om 56 55,oT 56 57 (.mv (.t 1)),oT 56 58 (.ld true 2 (.t 10)),oT 56 59 (.call Ws [.t 57,.t 58]),oT 56 60 (.mv (.t 0)),oT 56 61 (.bin .add .none (.t 60) (.k (vS [10]))),oT 56 62 (.bin .eql .none (.t 59) (.t 61)),oo 63 (.pick (.t 56) (.t 62) (xB false)),bg 2 4 53,om 5 63]
def Kc:List (List Nat):=[[],[],[1],[1,2],[1,2,3],[1,2,3],[1,2,3,4,5],[1,2,3],[1,2,3,7],[1,2,3,4,5,6,7,8],[1,2,3,4,5,6,7,8,9],[0,1,2,3,4,5,6],[0,1,2,3,4,5,6,7,8,9,10,11]]
def azj:C:=(sr apL [0,1,4] (sr apM [0,1,4,6] (sr apN [0,1,4,6,7] (ss (sr ZP [0,1,4,6,7,30] (sc 30 (sr ZQ [4,5] .ret) .skip)) (sr apO [0,1,4,8] (sr apP [0,1,4,8,9] (ss (sr apQ [0,1,4,8,9,44] (sc 44 (sr apR [4,5] .ret) .skip)) (sr apS [0,1,4,10] (ss (.regD aki Kc [4,5]) .ret)))))))))
theorem aGt:cE air azj [(.cell 4 true 2),(.tmp 5)] 64:=dE func199 rfl
def abC:=[dD 4 2 (.agg [vS [],vS []]),ok 5 (vI 0),ok 6 (vB false)]
def abD:=[om 21 0,oo 22 (.call gL [.t 21,(.k (vS [10]))]),om 20 22,cJ 23 20 0,cJ 24 20 1,cJ 25 20 2,om 7 23,om 8 24,om 9 25]
def abE:=[om 27 7,oo 28 (.call gL [.t 27,(.k (vS [35]))]),om 26 28,cJ 29 26 0,cJ 30 26 1,cJ 31 26 2,om 10 29,om 11 30,om 12 31]
def abF:=[om 33 10,oo 34 (.call gL [.t 33,(.k (vS [32]))]),om 32 34,cJ 35 32 0,cJ 36 32 1,cJ 37 32 2,om 13 35,om 14 36,om 15 37]
def abG:=[om 39 14,oo 40 (.call gL [.t 39,(.k (vS [64]))]),om 38 40,cJ 41 38 0,cJ 42 38 1,cJ 43 38 2,om 16 41,om 17 42,om 18 43]
def abH:=[om 44 16,om 45 17,oo 46 (.build (.agg [vS [],vS []]) [(0,(1,(.t 44))),(1,(1,(.t 45)))]),dD 19 2 (.agg [vS [],vS []]),bg 2 19 46]
def Fz:=[om 47 9,oo 48 (.un .not (.t 47)),om 49 48,oF 49 50 (.mv (.t 1)),oF 49 51 (.bin .geq .none (.t 50) (xI 60)),oo 52 (.pick (.t 49) (xB true) (.t 51)),om 53 52,oF 53 54 (.ld true 2 (.t 19)),oF 53 55 (.call vK [.t 54]),oF 53 56 (.un .not (.t 55)),oo 57 (.pick (.t 53) (xB true) (.t 56)),om 58 57,oF 58 59 (.mv (.t 1)),oF 58 60 (.ld true 2 (.t 19)),oF 58 61 (.call Fu [.t 59,.t 60]),oF 58 62 (.mv (.t 7)),oF 58 63 (.bin .add .none (.t 62) (.k (vS [10]))),oF 58 64 (.bin .neq .none (.t 61) (.t 63)),oo 65 (.pick (.t 58) (xB true) (.t 64))]
def yP:=[oo 66 (.build (.agg [vS [],vS []]) []),bg 2 4 66,ok 5 (vI 0),ok 6 (vB false)]
def abI:=[bu 67 2 19,om 68 7,oo 69 (.len true (.t 68)),fL 70 69 1,bg 2 4 67,om 5 70,ok 6 (vB true)]
def ahI:C:=(sr abC [0,1,4] (sr abD [1,4,7,9] (sr abE [1,4,7,9,10] (sr abF [1,4,7,9,14] (sr abG [1,4,7,9,16,17] (sr abH [1,4,7,9,19] (ss (sr Fz [4,7,19,65] (sc 65 (sr yP [4,5,6] .ret) .skip)) (sr abI [4,5,6] .ret))))))))
theorem aA1:cE TW ahI [(.cell 4 true 2),(.tmp 5),(.tmp 6)] 71:=dE func136 rfl
def Xs:=[ok 2 vN,ok 3 vN]
def Xt:=[oo 10 (.bslice 2 (.agg [vS [],vS []]) 0 []),oo 11 (.bslice 1 (vI 0) 1 [(0,(xI 0))]),om 4 10,om 5 11,ok 6 (vI 0)]
def Xu:=[om 13 0,om 14 6,oo 15 (.slc none (.t 13) (some (.t 14)) none),om 16 4,oo 17 (.len false (.t 16)),dK 18 TW 15 17,om 12 18,cJ 19 12 0,cJ 20 12 1,cJ 21 12 2,dD 7 2 (.agg [vS [],vS []]),bg 2 7 19,om 8 20,om 9 21]
def Xv:=[om 22 9,oo 23 (.un .not (.t 22))]
def Xw:=[om 24 4,om 25 5,om 2 24,om 3 25]
def Xx:=[om 26 6,om 27 8,cI 28 .add 26 27,om 6 28]
def Xy:=[om 29 4,bu 30 2 7,oo 31 (.bslice 2 (.agg [vS [],vS []]) 1 [(0,(.t 30))]),oo 32 (.app 2 32 (.t 29) (.t 31)),om 4 32]
def Xz:=[om 33 5,om 34 6,oo 35 (.bslice 1 (vI 0) 1 [(0,(.t 34))]),oo 36 (.app 1 8 (.t 33) (.t 35)),om 5 36]
def Wi:C:=(.block 1 (sr Xu [0,4,5,6,7,8,9] (ss (sr Xv [0,4,5,6,7,8,23] (sc 23 (sr Xw [2,3] .ret) .skip)) (sr Xx [0,4,5,6,7] (sr Xy [0,4,5,6] (.reg Xz [0,4,5,6]))))))
def aev:C:=(sr Xs [0] (sr Xt [0,4,5,6] (.block 0 (.loop Wi))))
theorem ax2:cE rE aev [(.tmp 2),(.tmp 3)] 37:=dE func76 rfl
def apD:=[ok 2 vN,ok 3 (vI 0)]
def apE:=[oo 9 (.bslice 2 (.agg [vS [],vS []]) 0 []),om 4 9]
def apF:=[ok 5 (vI 0)]
def apG:=[om 10 5,om 11 0,oo 12 (.len true (.t 11)),cI 13 .lss 10 12,om 14 13,oT 14 15 (.mv (.t 4)),oT 14 16 (.len false (.t 15)),oT 14 17 (.bin .lss .none (.t 16) (xI 60)),oo 18 (.pick (.t 14) (.t 17) (xB false))]
def apH:=[om 19 0,om 20 5,oo 21 (.slc none (.t 19) (some (.t 20)) none),oo 22 (.call o9 [.t 21,(.k (.v (.int .u8 (10))))]),om 6 22]
def apI:=[om 24 6,oo 25 (.iaddr 1 (.t 24) (xI 0)),bl 26 1 25,om 27 4,oo 28 (.len false (.t 27)),dK 29 air 26 28,om 23 29,cJ 30 23 0,cJ 31 23 1,dD 7 2 (.agg [vS [],vS []]),bg 2 7 30,om 8 31]
def ZO:=[om 32 6,oo 33 (.len false (.t 32)),cn 34 .lss 33 2,om 35 34,oF 35 36 (.mv (.t 8)),oF 35 37 (.un .not (.t 36)),oo 38 (.pick (.t 35) (xB true) (.t 37))]
def apJ:=[om 39 4,bu 40 2 7,oo 41 (.bslice 2 (.agg [vS [],vS []]) 1 [(0,(.t 40))]),oo 42 (.app 2 32 (.t 39) (.t 41)),om 4 42]
def apK:=[om 43 5,om 44 6,oo 45 (.iaddr 1 (.t 44) (xI 0)),bl 46 1 45,oo 47 (.len true (.t 46)),cI 48 .add 43 47,fL 49 48 1,om 5 49]
def an2:C:=(ss (sr apG [0,4,5,18] (sc 18 .skip (.exit 0))) (.block 1 (sr apH [0,4,5,6] (sr apI [0,4,5,6,7,8] (ss (sr ZO [0,4,5,6,7,38] (sc 38 (.exit 0) .skip)) (sr apJ [0,4,5,6] (.reg apK [0,4,5])))))))
def ES:=[om 50 4,om 51 5,om 2 50,om 3 51]
def azi:C:=(sr apD [0] (sr apE [0,4] (sr apF [0,4,5] (ss (.block 0 (.loop an2)) (sr ES [2,3] .ret)))))
theorem aGs:cE Ix azi [(.tmp 2),(.tmp 3)] 52:=dE func129 rfl
def aeV:LogRecord:=⟨[],[]⟩
def aAG (k:Nat) (line:List UInt8):LogRecord:=if Z2 k line&&!decide ((f7 64 (lB k line)).length=(lB k line).length) then Vp k line else aeV
theorem aN2 {k:Nat} {line:List UInt8} {e:LogRecord} (h:dec k line=some e):aAG k line=e:=by
 obtain ⟨h1,rfl⟩:=V4.1 h;obtain ⟨g1,g2,g3⟩:=aJT (k:=k) h1;simp[aAG,g1,g2,g3]
theorem atv (c:UInt8) (s:List UInt8):(f7 c s).length<=s.length:=by
 unfold f7;exact(List.takeWhile_prefix _).length_le
theorem ayU (s:List UInt8) (c:UInt8) (hs:s.length<=4000000):∃ ps:List (List UInt8),parts c s=f7 c s::ps/\di o9 [S s,Y c] (.own 1 ((f7 c s::ps).map S)):=by
 have h:=aDm (c:=c) s;cases hp:parts c s with
 | nil=>exact absurd hp (Ud s)
 | cons p ps =>
   rw[hp] at h;have h':p=f7 c s:=h;subst h';exact⟨ps,rfl,by rw[<- hp];exact Ni s c hs⟩
theorem aNQ (line:List UInt8) (k:Nat) (hk:k < 100) (hl:line.length<=4000000):di air [S line,I k] (.tup [dc (aAG k line),B (dec k line).isSome]):=by
 have hdl:=lF 1 k (by omega);have hcl:=atv 35 line;obtain ⟨ps,hps,hsp⟩:=ayU line 35 hl;refine aa.of aGt (by simp) ?_;simp[azj,apL,apM];refine al (anc k (by omega)) ?_;simp;refine⟨by omega,?_⟩;simp[apN];refine bB hsp rfl (.inl (by simp)) (by simp) ?_;have ha:fw k++[32]=anx k:=rfl;have hal:(anx k).length=(fw k).length+1:=by simp[anx]
 simp;by_cases h1:(anx k).length<=(f7 35 line).length;rotate_left
 ·have:(dec k line).isSome=false:=by rw[axv];simp[Z2,h1]
  simp[ZP,ZQ,show ((f7 35 line).length:Int) < (fw k).length+1 by omega,this,aAG,Z2,h1,aeV]
 simp[ZP,show ¬((f7 35 line).length:Int) < (fw k).length+1 by omega];refine⟨⟨by omega,by omega⟩,fun h2=>?_,fun h2=>?_⟩
 ·have hs:Z2 k line=false:=by
   simp only[Z2,Bool.and_eq_false_iff,decide_eq_false_iff_not];right;rw[hal];exact h2
  have:(dec k line).isSome=false:=by rw[axv,hs];rfl
  simp[ZQ,this,aAG,hs,aeV]
 have hs:Z2 k line=true:=by
  simp only[Z2,Bool.and_eq_true,decide_eq_true_iff];exact⟨h1,by rw[hal];exact h2⟩
 have hrest:(f7 35 line).drop ((fw k).length+1)=lB k line:=by unfold lB;rw[hal]
 have hrl:(lB k line).length<=line.length:=by rw[<- hrest,List.length_drop];omega
 have hcr:=atv 64 (lB k line);obtain ⟨qs,hqs,hsq⟩:=ayU (lB k line) 64 (by omega);simp[apO];refine⟨⟨by omega,by omega⟩,?_⟩;rw[hrest,List.take_of_length_le (by rw[<- hrest,List.length_drop];omega)];simp[apP];refine bB hsq rfl (.inl (by simp)) (by simp) ?_;simp[apQ];refine⟨fun h3=>?_,fun h3=>?_⟩
 ·have h3':(f7 64 (lB k line)).length=(lB k line).length:=by omega
  have:(dec k line).isSome=false:=by rw[axv];simp[h3']
  simp[apR,this,aAG,h3',aeV]
 have h3:¬(f7 64 (lB k line)).length=(lB k line).length:=by omega
 have hR:aAG k line=Vp k line:=by simp[aAG,hs,h3]
 simp[apS];rw[aD (by omega)];have hc1:(f7 64 (lB k line)).length < (lB k line).length:=by omega
 refine⟨⟨by omega,by omega⟩,?_⟩;rw[List.take_of_length_le (by rw[List.length_drop];omega)];simp[aki,Kc];refine iV (aa.arg (ayP (Vp k line)) (by simp[Vp])) ?_ ?_ ?_
 ·simp
 ·simp
 have hd:(dec k line).isSome=(fG (Vp k line)&&decide (Dy k (Vp k line)=line)):=by rw[axv,hs];simp[h3]
 cases h4:fG (Vp k line) with
 | false =>
   rw[h4] at hd;simp;refine⟨a7 (by simp[Kc]) (by simp),?_⟩;rw[Bool.false_and] at hd;have hd':dec k line=none:=by simpa using hd
   simp[hd',hR,Vp]
 | true =>
   rw[h4] at hd;simp;refine iV (aa.arg (aFL k (Vp k line) hk h4) (by simp[Vp])) ?_ ?_ ?_
   ·simp
   ·simp
   simp;refine⟨by omega,a7 (by simp[Kc]) (by simp),?_⟩;rw[hd,hR,Bool.true_and];refine⟨⟨rfl,rfl⟩,?_⟩;rw[Bool.eq_iff_iff];simp
def rd (k:Nat) (s:List UInt8):Option LogRecord:=if k < 60 then px k s else none
def rdE (k:Nat) (s:List UInt8):LogRecord:=(rd k s).getD aeV
def rdN (k:Nat) (s:List UInt8):Nat:=match rd k s with | some e=>(Dy k e).length+1 | none=>0
theorem aGO (s:List UInt8) (k:Nat) (hk:k<=60) (hs:s.length<=4000000):di TW [S s,I k] (.tup [dc (rdE k s),I (rdN k s),B (rd k s).isSome]):=by
 have hcl:=atv 10 s;refine aa.of aA1 (by simp) ?_;simp[ahI,abC,abD];refine bB (YS s 10) rfl (.inl (by simp)) (by simp) ?_;simp[abE];refine bB (YS (f7 10 s) 35) rfl (.inl (by simp)) (by simp) ?_;simp[abF];refine bB (YS (f7 35 (f7 10 s)) 32) rfl (.inl (by simp)) (by simp) ?_;simp[abG];refine bB (YS (Ea 32 (f7 35 (f7 10 s))) 64) rfl (.inl (by simp)) (by simp) ?_;simp[abH];by_cases h1:(10:UInt8) ∈ s;rotate_left
 ·have:rd k s=none:=by simp[rd,px,h1]
  simp[Fz,yP,h1,rdE,rdN,this,aeV]
 by_cases h2:60<=k
 ·have:rd k s=none:=by simp[rd,show ¬k < 60 by omega]
  simp[Fz,yP,h1,show (60:Int)<=k by omega,rdE,rdN,this,aeV]
 simp[Fz,h1,show ¬(60:Int)<=k by omega];have hrd:rd k s=dec k (f7 10 s):=by simp[rd,px,h1,show k < 60 by omega]
 refine al (aa.arg (Pt (ag1 (f7 10 s))) (by simp[ag1])) ?_;cases h3:fG (ag1 (f7 10 s)) with
 | false =>
   have:rd k s=none:=by rw[hrd];simp[dec,h3]
   simp[yP,rdE,rdN,this,aeV]
 | true =>
 simp;refine al (aa.arg (ah5 k (ag1 (f7 10 s)) (by omega) h3) (by simp[ag1])) ?_;simp;refine⟨by omega,fun h4=>?_,fun h4=>?_⟩
 ·have:rd k s=none:=by rw[hrd];simp[dec,h3,h4]
  simp[yP,rdE,rdN,this,aeV]
 ·have:rd k s=some (ag1 (f7 10 s)):=by rw[hrd];simp[dec,h3,h4]
  simp[abI,rdE,rdN,this,h4];rw[aD (by omega)];simp[ag1]
theorem aMv {n k:Nat} {r:List UInt8} (h:n+k=60):CX n k r=match rd k r with | some e=>e::CX (n - 1) (k+1) (r.drop ((Dy k e).length+1)) | none=>[]:=by
 cases n with
 | zero=>simp[CX,rd,show ¬k < 60 by omega]
 | succ n =>
   have:rd k r=px k r:=by simp[rd,show k < 60 by omega]
   rw[CX,this];cases px k r<;>rfl
def HN (l:List LogRecord):List Int:=(List.range (l.length+1)).map fun j=>((hJ 0 (l.take j)).length:Int)
theorem aH1 (l:List LogRecord) (e:LogRecord):HN (l++[e])=HN l++[((hJ 0 (l++[e])).length:Int)]:=by
 unfold HN;rw[List.length_append,List.length_singleton,List.range_succ,List.map_append,List.map_singleton];congr 1
 ·apply List.map_congr_left;intro j hj;rw[List.mem_range] at hj;rw[List.take_append_of_le_length (by omega)]
 ·rw[List.take_of_length_le (by simp)]
theorem MF (l:List LogRecord):(HN l).length=l.length+1:=by simp[HN]
theorem aFg (l:List LogRecord) (e:LogRecord):(hJ 0 (l++[e])).length=(hJ 0 l).length+((Dy l.length e).length+1):=by
 rw[Iq];simp[hJ]
structure Part (s:List UInt8) (l:List LogRecord) (r:List UInt8):Prop where
 len:l.length<=60
 text:s=hJ 0 l++r
 all:fM s=l++CX (60 - l.length) l.length r
theorem Part.zero (s:List UInt8):Part s [] s:=⟨by simp,by simp[hJ],by simp[fM]⟩
theorem Part.next {s:List UInt8} {l:List LogRecord} {r:List UInt8} {e:LogRecord} (h:Part s l r) (he:rd l.length r=some e):Part s (l++[e]) (r.drop ((Dy l.length e).length+1)):=by
 have hk:l.length < 60:=by
  unfold rd at he;split at he
  ·assumption
  ·cases he
 have hd:px l.length r=some e:=by simpa [rd,hk] using he
 obtain ⟨_,r',rfl⟩:=vy.1 hd;refine⟨by simp;omega,?_,?_⟩
 ·rw[aal,Iq]
  conv=>lhs;rw[h.text]
  simp[hJ]
 ·have h2:=h.all;rw[aMv (by have:=h.len;omega),he] at h2;simp only at h2;rw[h2];simp[show 60 - l.length - 1=60 - (l.length+1) by omega]
theorem Part.done {s:List UInt8} {l:List LogRecord} {r:List UInt8} (h:Part s l r) (he:rd l.length r=none):fM s=l:=by
 have h2:=h.all;rw[aMv (by have:=h.len;omega),he] at h2;simpa using h2
theorem Part.at_ {s:List UInt8} {l:List LogRecord} {r:List UInt8} (h:Part s l r):s.drop (hJ 0 l).length=r/\(hJ 0 l).length<=s.length:=by
 have:=h.text;constructor
 ·conv=>lhs;arg 2;rw[this]
  exact List.drop_left
 ·conv=>rhs;rw[this]
  simp
theorem aP3 {k:Nat} {r:List UInt8} {e:LogRecord} (h:rd k r=some e):(Dy k e).length+1<=r.length:=by
 have hd:px k r=some e:=by
  unfold rd at h;split at h
  ·exact h
  ·cases h
 obtain ⟨_,r',rfl⟩:=vy.1 hd;simp
theorem GD (s:List UInt8) (hs:s.length<=4000000):di rE [S s] (.tup [.own 2 ((fM s).map dc),.own 1 (mi (HN (fM s)))]):=by
 refine aa.of ax2 (by simp) ?_;simp[aev,Xs,Xt,Wi]
 refine dl (fun l:List LogRecord=>⟨[(0,S s),(4,.sl 10 0 l.length),(5,.sl 11 0 (l.length+1)),(6,I (hJ 0 l).length)],[(10,⟨2,l.map dc⟩),(11,⟨1,mi (HN l)⟩)],[]⟩) (fun l=>60 - l.length)
  (fun l=>Part s l (s.drop (hJ 0 l).length)) [] (Wk.list rfl (by simp[hJ]) (by simp[HN,hJ])) ?_ ?_
 ·simpa [hJ] using Part.zero s
 intro l hp K hN hR hE;have h60:=hp.len;have hat:=hp.at_.2;have hdl:(s.drop (hJ 0 l).length).length=s.length - (hJ 0 l).length:=List.length_drop;simp[Xu];refine⟨by omega,?_⟩;refine bB (aa.arg (aGO (s.drop (hJ 0 l).length) l.length h60 (by omega)) (by simp;exact List.take_of_length_le (by omega))) rfl (.inl (by simp)) (by simp) ?_;simp[Xv];refine⟨fun h=>?_,fun h=>?_⟩
 ·have ho:=hp.done h;simp[Xw];refine hR _ ?_;simp[ho,MF]
 ·obtain ⟨e,he⟩:=Option.isSome_iff_exists.1 h;have hn:=hp.next he
  have hrl:=aP3 he;have hE:rdE l.length (s.drop (hJ 0 l).length)=e:=by simp[rdE,he]
  have hN':rdN l.length (s.drop (hJ 0 l).length)=(Dy l.length e).length+1:=by simp[rdN,he]
  rw[hE,hN'];have hlen:=aFg l e;have hdr:(s.drop (hJ 0 l).length).drop ((Dy l.length e).length+1)=s.drop (hJ 0 (l++[e])).length:=by rw[List.drop_drop,hlen]
  rw[hdr] at hn;have hn60:=hn.len;simp[Xx];rw[aD (by omega)];simp[Xy];refine⟨by unfold bR;omega,?_⟩;simp[Xz,MF];refine⟨by unfold bR;omega,?_⟩;refine hN (l++[e]) _ (by simp at hn60 ⊢;omega) hn (Wk.trans (Wk.ren 32 10 (by decide) (by simp)) (Wk.trans (Wk.ren 36 11 (by decide) ?_) (Wk.list rfl ?_ ?_)))
  ·simp[AS.ren,ren,reN,ad3]
  ·simp[AS.ren,ren,reN,hlen]
  ·simp[AS.ren,ren,reN,ad3,aH1,MF,hlen];exact List.take_of_length_le (by simp[MF])
theorem ane (s:List UInt8) (hs:s.length<=4000000):di Ix [S s] (.tup [.own 2 ((fM s).map dc),I (oq s)]):=by
 refine aa.of aGs (by simp) ?_;simp[azi,apD,apE,apF,an2]
 refine dl (fun l:List LogRecord=>⟨[(0,S s),(4,.sl 9 0 l.length),(5,I (hJ 0 l).length)],[(9,⟨2,l.map dc⟩)],[]⟩) (fun l=>60 - l.length)
  (fun l=>Part s l (s.drop (hJ 0 l).length)) [] (Wk.list rfl (by simp[hJ]) (by simp)) ?_ ?_
 ·simpa [hJ] using Part.zero s
 intro l hp K hN hR hE;have h60:=hp.len;have hat:=hp.at_.2;have hdl:(s.drop (hJ 0 l).length).length=s.length - (hJ 0 l).length:=List.length_drop
 have hex:rd l.length (s.drop (hJ 0 l).length)=none->fM s=l/\oq s=(hJ 0 l).length:=fun h=>by
  have:=hp.done h;exact⟨this,by unfold oq;rw[this]⟩
 simp[apG];refine⟨fun hlt=>⟨fun hk=>?_,fun hk=>?_⟩,fun hge=>?_⟩
 ·obtain ⟨ps,hps,hsp⟩:=ayU (s.drop (hJ 0 l).length) 10 (by omega);have hcl:=atv 10 (s.drop (hJ 0 l).length);have hpl:=am7 (c:=10) (s.drop (hJ 0 l).length);rw[hps,List.length_cons] at hpl;simp[apH];refine⟨by omega,?_⟩;refine bB (aa.arg hsp (by simp;exact List.take_of_length_le (by omega))) rfl (.inl (by simp)) (by simp) ?_;simp[apI];refine aZ (aa.ag (aNQ (f7 10 (s.drop (hJ 0 l).length)) l.length (by omega) (by omega))) ?_;simp;by_cases hm:(10:UInt8) ∈ s.drop (hJ 0 l).length;rotate_left
  ·have hx:=hex (by simp[rd,px,hm]);have hp0:¬2<=ps.length+1:=fun h=>hm (hpl.1 h);simp[ZO,show (ps.length:Int)+1 < 2 by omega];refine hE _ _ ?_;simp only[cv];simp[ES,hx.1,hx.2]
  have hp0:=hpl.2 hm;have hrd:rd l.length (s.drop (hJ 0 l).length)=dec l.length (f7 10 (s.drop (hJ 0 l).length)):=by simp[rd,px,hm,show l.length < 60 by omega]
  simp[ZO,show ¬(ps.length:Int)+1 < 2 by omega];refine⟨fun h=>?_,fun h=>?_⟩
  ·have hx:=hex (by rw[hrd];exact h);refine hE _ _ ?_;simp only[cv];simp[ES,hx.1,hx.2]
  ·obtain ⟨e,he⟩:=Option.isSome_iff_exists.1 h;have he':rd l.length (s.drop (hJ 0 l).length)=some e:=by rw[hrd];exact he
   have hn:=hp.next he'
   have hrl:=aP3 he';have hlen:=aFg l e;have hE':=aN2 he;have hline:=(V4.1 he).2;have hdr:(s.drop (hJ 0 l).length).drop ((Dy l.length e).length+1)=s.drop (hJ 0 (l++[e])).length:=by rw[List.drop_drop,hlen]
   rw[hdr] at hn;rw[hE',<- hline];simp[apJ];refine⟨by unfold bR;omega,?_⟩;simp[apK];rw[aD (n:=((hJ 0 l).length:Int)+((Dy l.length e).length:Int)) (by omega),aD (by omega)];refine hN (l++[e]) _ (by simp;omega) hn (Wk.trans (Wk.ren 42 9 (by decide) ?_) (Wk.list rfl ?_ ?_))
   ·simp
   ·simp[AS.ren,ren,reN,hlen];omega
   ·simp[AS.ren,ren,reN,ad3]
 ·have hx:=hex (by simp[rd,show ¬l.length < 60 by omega]);refine hE _ _ ?_;simp only[cv];simp[ES,hx.1,hx.2]
 ·have hx:=hex (by rw[List.drop_of_length_le (by omega)];simp[rd,px]);refine hE _ _ ?_;simp only[cv];simp[ES,hx.1,hx.2]
abbrev rA (l:Log):V:=.agg [S l.durable,S l.pending,I l.count]
def iw (l:Log):Prop:=l.durable.length+l.pending.length<=1048576
theorem LM (l:Log) (hf:iw l):di ux [rA l] (B (fx l)):=by
 unfold iw at hf;have hb:=Wz (l.durable++l.pending);refine aa.of aIm (by simp) ?_;simp[aB4,avl,avm];rw[aD (by omega)];refine⟨fun h=>?_,fun h=>?_⟩
 ·have:fx l=false:=by
   have:¬oq (l.durable++l.pending)=l.durable.length+l.pending.length:=by omega
   simp only[fx,this,decide_false,Bool.false_and]
  simp[avn,this]
 ·simp[avo];refine⟨by omega,?_⟩;refine aZ (aa.ag (ane (l.durable++l.pending) (by rw[List.length_append];omega))) ?_;simp[avp];refine aZ (aa.ag (ane l.durable (by omega))) ?_;simp[avq];rw[aD (by omega)];refine⟨fun h1=>⟨fun h2=>?_,fun h2=>?_⟩,fun h1=>?_⟩
  ·have h1':oq (l.durable++l.pending)=l.durable.length+l.pending.length:=by omega
   have h2':oq l.durable=l.durable.length:=by omega
   rw[Bool.eq_iff_iff];simp[fx,h1',h2']
  ·have h2':¬oq l.durable=l.durable.length:=by omega
   simp[fx,h2']
  ·have h1':¬oq (l.durable++l.pending)=l.durable.length+l.pending.length:=by omega
   simp[fx,h1']
theorem arF {l:List LogRecord} {j:Nat} (h:j < (HN l).length):(HN l)[j]=((hJ 0 (l.take j)).length:Int):=by
 simp only[HN,List.getElem_map,List.getElem_range]
theorem Fq (l:Log) (hf:iw l):di qn [rA l] (B (fx l)):=by
 unfold iw at hf;refine aa.of aAT (by simp) ?_;simp[ahz,aaQ,aaR];refine⟨by omega,?_⟩;simp[aaS];obtain ⟨L,hL⟩:∃ L,fM (l.durable++l.pending)=L:=⟨_,rfl⟩;have hr:=GD (l.durable++l.pending) (by rw[List.length_append];omega);rw[hL] at hr;refine aZ (aa.ag hr) ?_;have hel:=MF L;have heg:=arF (l:=L) (j:=L.length) (by omega);rw[List.take_length] at heg;have hL60:L.length<=60:=by rw[<- hL];exact Fg 60 0 _
 have hN:(hJ 0 L).length=oq (l.durable++l.pending):=by unfold oq;rw[hL]
 rw[hN] at heg;have hlt:L.length < (HN L).length:=by omega
 simp[aaT,hel,hlt,heg];refine⟨by omega,fun h1=>⟨fun h2=>?_,fun h2=>?_⟩,fun h1=>?_⟩
 ·have h2':¬((fM (l.durable++l.pending)).length:Int)=l.count:=by rw[hL];exact h2
  have:fx l=false:=by simp only[fx,h2',decide_false,Bool.and_false]
  simp[Nc,this]
 ·have h1':oq (l.durable++l.pending)=l.durable.length+l.pending.length:=by omega
  have h1'':oq (l.durable++l.pending)=(l.durable++l.pending).length:=by rw[List.length_append];exact h1'
  have h2':((fM (l.durable++l.pending)).length:Int)=l.count:=by rw[hL];exact h2
  have hpre:=aJv h1'';rw[hL] at hpre;have hok:fx l=decide (oq l.durable=l.durable.length):=by simp only[fx,h1',h2',decide_true,Bool.true_and,Bool.and_true]
  simp[aaU,Wc,hel];refine dl (fun i:Nat=>⟨[(1,.ref 1 0 0),(33,.sl 1015 0 (L.length+1)),(34,I (L.length+1)),(35,I i)],[(1,⟨3,[rA l]⟩),(1015,⟨1,mi (HN L)⟩)],[]⟩) (fun i=>L.length+1 - i) (fun i=>i<=L.length+1/\∀ j,j < i->¬(hJ 0 (L.take j)).length=l.durable.length) 0 Wk.li (by simp) ?_;rintro i ⟨hi,hj⟩ K hN hR hE;simp[aaV];refine⟨fun hlt=>?_,fun hge=>?_⟩
  ·have hie:i < (HN L).length:=by omega
   have hg:=arF hie;simp[aaW,hie,hg];refine⟨by omega,?_⟩;simp[aaX];refine⟨fun h=>?_,fun h=>?_⟩
   ·have:fx l=true:=by rw[hok,decide_eq_true_iff,hpre];exact⟨i,by omega,by omega⟩
    simp[aaY];refine hR _ ?_;simp[this]
   ·simp[WN];rw[aD (by omega)];refine hN (i+1) _ (by omega) ⟨by omega,fun j hji=>?_⟩ Wk.li;by_cases e:j=i
    ·subst e;omega
    ·exact hj j (by omega)
  ·refine hE _ _ ?_
   have:fx l=false:=by
    rw[hok,decide_eq_false_iff_not,hpre];rintro ⟨j,h1,h2⟩;exact hj j (by omega) h2
   simp only[cv];simp[WO,this]
 ·have h1':¬oq (l.durable++l.pending)=l.durable.length+l.pending.length:=by omega
  have:fx l=false:=by simp only[fx,h1',decide_false,Bool.false_and]
  simp[Nc,this]
theorem Wo {l:Log} (h:fx l=true):0<=l.count/\l.count<=60:=by
 simp only[fx,Bool.and_eq_true,decide_eq_true_iff] at h;have:=Fg 60 0 (l.durable++l.pending);have h2:=h.2.2;unfold fM at h2;omega
def fc (l:Log) (e:LogRecord):Log:=if fx l&&fG e&&!decide (l.count=60) then ⟨l.durable,l.pending++(Dy l.count.toNat e++[10]),l.count+1⟩ else l
def mH (l:Log) (e:LogRecord):Int:=if fx l&&fG e then if l.count=60 then 2 else 0 else 1
theorem zw (l:Log) (e:LogRecord) (hf:iw l):di mY [rA l,dc e] (.tup [rA (fc l e),I (mH l e)]):=by
 have hf':=hf;unfold iw at hf';refine aa.of atH (by simp) ?_;simp[aae,UH,UI];refine al (aa.ag (LM l hf)) ?_;cases h1:fx l with
 | false=>simp[Ig,fc,mH,h1]
 | true =>
 simp;refine al (aa.ag (ayP e)) ?_;cases h2:fG e with
 | false=>simp[Ig,fc,mH,h1,h2]
 | true =>
 have hc:=Wo h1;simp[UJ];refine⟨fun h3=>?_,fun h3=>?_⟩
 ·simp[UK,fc,mH,h1,h2,h3]
 ·obtain ⟨n,hn⟩:∃ n:Nat,l.count=n:=⟨l.count.toNat,by omega⟩;have hE:=atw (k:=n) (by omega) h2;simp[UL,T7];refine iV (aa.arg (aFL n e (by omega) h2) (by simp[hn])) ?_ ?_ ?_
  ·simp
  ·simp
  simp;refine⟨by omega,a7 (by first | kernel_rfl | simp) (by first | kernel_rfl | simp),?_⟩;simp[UM];rw[aD (by omega)];simp[UN,fc,mH,h1,h2,h3];simp[hn]
theorem TH (l:Log) (e:LogRecord) (hf:iw l):di MS [rA l,dc e] (.tup [rA (fc l e),I (mH l e)]):=by
 have hf':=hf;unfold iw at hf';refine aa.of atC (by simp) ?_;simp[Z9,Ug,Uh];refine al (aa.ag (Fq l hf)) ?_;cases h1:fx l with
 | false=>simp[H7,fc,mH,h1]
 | true =>
 simp;refine al (aa.ag (Pt e)) ?_;cases h2:fG e with
 | false=>simp[H7,fc,mH,h1,h2]
 | true =>
 have hc:=Wo h1;simp[Ui];refine⟨fun h3=>?_,fun h3=>?_⟩
 ·simp[Uj,fc,mH,h1,h2,h3]
 ·obtain ⟨n,hn⟩:∃ n:Nat,l.count=n:=⟨l.count.toNat,by omega⟩;have hE:=atw (k:=n) (by omega) h2;simp[Uk,T5];refine iV (aa.arg (ah5 n e (by omega) h2) (by simp[hn])) ?_ ?_ ?_
  ·simp
  ·simp
  simp;rw[aD (by omega)];refine⟨by omega,a7 (by first | kernel_rfl | simp) (by first | kernel_rfl | simp),?_⟩;simp[fc,mH,h1,h2,h3];simp[hn]
def df (l:Log):List LogRecord:=if fx l then fM (l.durable++l.pending) else []
def dC (c:Console):Bool:=bx c.grants&&fx c.log
theorem uc (c:Console) (hf:iw c.log):di kC [co c] (B (dC c)):=by
 refine aa.of ano (by simp) ?_;simp[Tj,OC,OD];refine al (aa.ag (gR c.grants)) ?_;cases h:bx c.grants with
 | false=>simp[dC,h]
 | true =>
   simp;refine al (aa.ag (Fq c.log hf)) ?_;simp[dC,h]
theorem acp (c:Console) (hf:iw c.log):di Ez [co c] (B (dC c)):=by
 refine aa.of aGw (by simp) ?_;simp[azm,ap7,ap8];refine al (aa.ag (zx c.grants)) ?_;cases h:bx c.grants with
 | false=>simp[dC,h]
 | true =>
   simp;refine al (aa.ag (LM c.log hf)) ?_;simp[dC,h]
theorem ayC {es:List LogRecord} (h:∀ e ∈ es,fG e=true) (hn:es.length<=60):fM (hJ 0 es)=es/\oq (hJ 0 es)=(hJ 0 es).length:=by
 have h1:=am9 es (60 - es.length) 0 [] h;rw[aJB,List.append_nil,List.append_nil,show es.length+(60 - es.length)=60 by omega] at h1;have h2:fM (hJ 0 es)=es:=h1;exact⟨h2,by rw[oq,h2]⟩
theorem aud (s:List UInt8):(∀ e ∈ fM s,fG e=true)/\(fM s).length<=60:=⟨(ad2 60 0 s).1,Fg 60 0 s⟩
theorem ani (s:List UInt8):s.take (oq s)=hJ 0 (fM s):=by
 conv=>lhs;arg 2;rw[ass s]
 unfold oq;exact List.take_left
theorem Fr {l:Log}:fx l=true↔oq (l.durable++l.pending)=l.durable.length+l.pending.length/\oq l.durable=l.durable.length/\((fM (l.durable++l.pending)).length:Int)=l.count:=by
 simp[fx]
theorem aFu {l:Log} (h:fx l=true):l.durable++l.pending=hJ 0 (fM (l.durable++l.pending))/\l.durable=hJ 0 (fM l.durable):=by
 obtain ⟨h1,h2,_⟩:=Fr.1 h;have t1:=ani (l.durable++l.pending);have t2:=ani l.durable;rw[h1,List.take_of_length_le (by simp)] at t1;rw[h2,List.take_of_length_le (by omega)] at t2;exact⟨t1,t2⟩
theorem Ef {l:Log} {e:LogRecord} (h:mH l e=0):fx l=true/\fG e=true/\fx (fc l e)=true/\df (fc l e)=df l++[e]/\(fc l e).count=(df l).length+1 /\
  (fc l e).durable.length+(fc l e).pending.length<=22320:=by
 have hc:fx l=true/\fG e=true/\l.count≠60:=by
  unfold mH at h;split at h
  ·rename_i hc;simp only[Bool.and_eq_true] at hc;split at h
   ·cases h
   ·exact⟨hc.1,hc.2,by assumption⟩
  ·cases h
 obtain ⟨hl,he,hne⟩:=hc;have hcnt:=Wo hl;obtain ⟨h1,h2,h3⟩:=Fr.1 hl;have hall:=(aFu hl).1;have hok:=aud (l.durable++l.pending)
 have ea:fc l e=⟨l.durable,l.pending++(Dy l.count.toNat e++[10]),l.count+1⟩:=by
  rw[fc,if_pos];simp[hl,he,hne]
 have er:df l=fM (l.durable++l.pending):=by rw[df,if_pos hl]
 rw[ea,er];obtain ⟨es,hes⟩:∃ es,fM (l.durable++l.pending)=es:=⟨_,rfl⟩;rw[hes] at hall hok h3 ⊢;have hk:l.count.toNat=es.length:=by omega
 have hnew:l.durable++(l.pending++(Dy l.count.toNat e++[10]))=hJ 0 (es++[e]):=by
  rw[Iq,<- hall,hk];simp[hJ]
 have hoe:=ayC (es:=es++[e]) (fun x hx=>by
  rcases List.mem_append.1 hx with hx | hx
  ·exact hok.1 x hx
  ·rw[List.mem_singleton.1 hx];exact he) (by simp;omega)
 have hlen:l.durable.length+(l.pending++(Dy l.count.toNat e++[10])).length=(hJ 0 (es++[e])).length:=by rw[<- hnew];simp only[List.length_append]
 have hok':fx ⟨l.durable,l.pending++(Dy l.count.toNat e++[10]),l.count+1⟩=true:=by
  rw[Fr];dsimp only;rw[hnew,hoe.1,hoe.2,hlen];refine⟨rfl,h2,?_⟩;rw[List.length_append,List.length_singleton];omega
 refine⟨hl,he,hok',?_,by dsimp only;omega,?_⟩
 ·rw[df,if_pos hok'];dsimp only;rw[hnew];exact hoe.1
 ·dsimp only;rw[hlen,<- hoe.2];exact Wz _
def at3:List UInt8:=[108,111,110,103]
def noW:List UInt8:=[110,111]
def aHM:List UInt8:=[98,97,100]
def azI:List UInt8:=[102,117,108,108]
def LW (t:List UInt8):List UInt8:=if 200 < t.length then at3 else t
def gN (c:Console) (s:List UInt8):Console×List UInt8 :=
 if dC c=false then (c,noW) else if fG ⟨s,[]⟩=false then (c,aHM) else if c.log.count=60 then (c,azI)
 else (⟨(ad5 c.grants s).1,fc c.log ⟨s,LW (ad5 c.grants s).2⟩⟩,LW (ad5 c.grants s).2)
theorem aRe {t:List UInt8} (h:plain t=true):plain (LW t)=true/\(LW t).length<=200:=by
 unfold LW;split
 ·exact⟨by decide,by decide⟩
 ·exact⟨h,by omega⟩
theorem lp {c:Console}:dC c=true↔bx c.grants=true/\fx c.log=true:=by
 unfold dC;rw[Bool.and_eq_true]
theorem HO (c:Console) (s:List UInt8):((gN c s).1=c/\((gN c s).2=noW\/(gN c s).2=aHM\/(gN c s).2=azI)) \/
  (dC c=true/\bx (gN c s).1.grants=true/\mH c.log ⟨s,(gN c s).2⟩=0/\(gN c s).1.log=fc c.log ⟨s,(gN c s).2⟩):=by
 cases hc:dC c with
 | false =>
   have e:gN c s=(c,noW):=by unfold gN;rw[if_pos hc]
   rw[e];exact .inl ⟨rfl,.inl rfl⟩
 | true =>
   cases hr:fG ⟨s,[]⟩ with
   | false =>
     have e:gN c s=(c,aHM):=by unfold gN;rw[if_neg (by simp[hc]),if_pos hr]
     rw[e];exact .inl ⟨rfl,.inr (.inl rfl)⟩
   | true =>
     by_cases h60:c.log.count=60
     ·have e:gN c s=(c,azI):=by unfold gN;rw[if_neg (by simp[hc]),if_neg (by simp[hr]),if_pos h60]
      rw[e];exact .inl ⟨rfl,.inr (.inr rfl)⟩
     ·have e:gN c s=(⟨(ad5 c.grants s).1,fc c.log ⟨s,LW (ad5 c.grants s).2⟩⟩,LW (ad5 c.grants s).2):=by
       unfold gN;rw[if_neg (by simp[hc]),if_neg (by simp[hr]),if_neg h60]
      obtain ⟨h1,h2⟩:=lp.1 hc;have hrun:=aTR h1 s;rw[aJI] at hrun;obtain ⟨g1,g2⟩:=aRe hrun.2;rw[e];refine .inr ⟨rfl,hrun.1,?_,rfl⟩
      have hrec:fG ⟨s,LW (ad5 c.grants s).2⟩=true:=by
       rw[AL] at hr ⊢;exact⟨hr.1,g2,hr.2.2.1,g1,hr.2.2.2.2⟩
      dsimp only;unfold mH;rw[if_pos (by rw[h2,hrec];rfl),if_neg h60]
theorem aty {c:Console} (s:List UInt8) (h:dC c=true):dC (gN c s).1=true:=by
 rcases HO c s with ⟨e,_⟩ | ⟨_,h1,h2,h3⟩
 ·rw[e];exact h
 ·rw[lp,h3];exact⟨h1,(Ef h2).2.2.1⟩
theorem MP {l:Log} (h:fx l=true):l.durable.length+l.pending.length<=22320:=by
 obtain ⟨h1,_,_⟩:=Fr.1 h;have:=Wz (l.durable++l.pending);omega
theorem aRD {c:Console} (h:dC c=true):iw c.log/\c.grants.length<=12:=by
 obtain ⟨h1,h2⟩:=lp.1 h;have:=MP h2;exact⟨by unfold iw;omega,eo h1⟩
theorem vg {c:Console} (s:List UInt8) (hf:iw c.log) (hl:c.grants.length<=1048576):iw (gN c s).1.log/\(gN c s).1.grants.length<=1048576:=by
 rcases HO c s with ⟨e,_⟩ | ⟨h0,_,_,_⟩
 ·rw[e];exact⟨hf,hl⟩
 ·have:=aRD (aty s h0);exact⟨this.1,by omega⟩
theorem aGN (c:Console) (hl:c.grants.length<=1048576):di TV [co c] (GN c):=by
 refine aa.of aAZ (by simp) ?_;simp[ahG,aby,abz,M5];refine gm (aa.ag (vh c.grants hl)) ?_;simp;exact a7 (by simp[M5]) (by simp)
theorem aDy {s:List UInt8} (h:fG ⟨s,[]⟩=true):s.length<=160:=by
 unfold fG at h;simp[fV] at h;omega
theorem jJ (c:Console) (s:List UInt8) (hf:iw c.log) (hl:c.grants.length<=1048576):di fT [co c,S s] (.tup [co (gN c s).1,S (gN c s).2]):=by
 have hE:gN c s=if dC c=false then (c,noW) else if fG ⟨s,[]⟩=false then (c,aHM) else if c.log.count=60 then (c,azI)
  else (⟨(ad5 c.grants s).1,fc c.log ⟨s,LW (ad5 c.grants s).2⟩⟩,LW (ad5 c.grants s).2):=rfl
 refine aa.ofN anq (by simp) ?_;simp[Tl,OU,OV,EM];refine gm (aa.ag (Vl c.grants hl)) ?_;simp;refine⟨a7 (by simp[EM]) (by simp),?_⟩;refine cp _ (Wk.frz 11 ⟨18,List.map bd c.grants⟩ (by simp) (by simp) (by simp)) ?_;simp[OW];refine al (aa.ag (acp c hf)) ?_;cases hc:dC c with
 | false =>
   rw[if_pos hc] at hE;simp[OX,hE,noW,List.take_of_length_le]
 | true =>
   rw[if_neg (by simp[hc])] at hE
   have hreg:bx c.grants=true:=by
    unfold dC at hc;rw[Bool.and_eq_true] at hc;exact hc.1
   simp[OY];refine al (aa.ag (ayP ⟨s,[]⟩)) ?_;cases hr:fG ⟨s,[]⟩ with
   | false =>
     rw[if_pos hr] at hE;simp[OZ,hE,aHM,List.take_of_length_le]
   | true =>
     rw[if_neg (by simp[hr])] at hE;simp[O0];refine⟨fun h60=>?_,fun h60=>?_⟩
     ·rw[if_pos h60] at hE;simp[O1,hE,azI,List.take_of_length_le]
     ·rw[if_neg h60] at hE;simp[O2,List.take_of_length_le];refine bB (aa.ag (aQg c.grants s hreg (by have:=aDy hr;omega))) rfl (.inr (by simp)) (by simp[Gi]) ?_;generalize ad5 c.grants s=p at hE ⊢;obtain ⟨K,T⟩:=p;dsimp only at hE;simp[Gi,O3];have hcT:LW T=if 200 < T.length then at3 else T:=rfl
      refine cp _ (Wk.refl _) ?_;simp[Mv];refine⟨fun hlong=>?_,fun hshort=>?_⟩
      focus
       rw[if_pos (by omega)] at hcT;simp[Mw];refine cp ⟨[(1,S s),(4,.ref 4 0 0),(6,.ref 6 0 0),(8,S (LW T))],[(6,⟨4,[co ⟨K,c.log⟩]⟩),(4,⟨4,[.agg [nM,S [],S [],I 0]]⟩)],[]⟩ (Wk.list rfl (by simp[hcT,at3]) (by simp)) ?_
      rotate_left
      focus
       rw[if_neg (by omega)] at hcT;refine cp ⟨[(1,S s),(4,.ref 4 0 0),(6,.ref 6 0 0),(8,S (LW T))],[(6,⟨4,[co ⟨K,c.log⟩]⟩),(4,⟨4,[.agg [nM,S [],S [],I 0]]⟩)],[]⟩ (Wk.list rfl (by simp[hcT]) (by simp)) ?_
      all_goals
       clear hcT;generalize LW T=t at hE ⊢;simp[Mx];refine aZ (aa.ag (zw c.log ⟨s,t⟩ hf)) ?_;simp[My,hE]
abbrev YZ (id:Nat) (l:aT) (g:Log):V:=.agg [.sl id 0 (List.length l),S g.durable,S g.pending,I g.count]
theorem pH (c:Console) (s:List UInt8) (hf:iw c.log) (hl:c.grants.length<=1048576):di ia [co c,S s] (.tup [GN (gN c s).1,S (gN c s).2]):=by
 have hE:gN c s=if dC c=false then (c,noW) else if fG ⟨s,[]⟩=false then (c,aHM) else if c.log.count=60 then (c,azI)
  else (⟨(ad5 c.grants s).1,fc c.log ⟨s,LW (ad5 c.grants s).2⟩⟩,LW (ad5 c.grants s).2):=rfl
 refine aa.ofN anm (by simp) ?_;simp[Tg,Oi,Oj];refine aZ (aa.ag (aGN c hl)) ?_;simp;refine cp _ (Wk.refl _) ?_;simp[Ok];refine al (aa.ag (uc c hf)) ?_;cases hc:dC c with
 | false =>
   rw[if_pos hc] at hE;simp[Ol,hE,noW]
 | true =>
   rw[if_neg (by simp[hc])] at hE
   have hreg:bx c.grants=true:=by
    unfold dC at hc;rw[Bool.and_eq_true] at hc;exact hc.1
   simp[Om];refine al (aa.ag (Pt ⟨s,[]⟩)) ?_;cases hr:fG ⟨s,[]⟩ with
   | false =>
     rw[if_pos hr] at hE;simp[On,hE,aHM]
   | true =>
     have hsl:=aDy hr;rw[if_neg (by simp[hr])] at hE;simp[Oo];refine⟨fun h60=>?_,fun h60=>?_⟩
     ·rw[if_pos h60] at hE;simp[Oq,hE,azI]
     ·rw[if_neg h60,<- aJI] at hE;have hR:aLo c.grants s=(nV c.grants s).getD (c.grants,(sA c.grants s).getD quW):=rfl;have hch:=aPn c.grants s hreg (by omega);obtain ⟨U,hU,hans⟩:=aPm c.grants s hreg (by omega);simp[Ot];rcases hX:nV c.grants s with _ | p
      rotate_left
      ·obtain ⟨K,T,hKT,hcall⟩:=hch.resolve_right (by rw[hX];simp);obtain ⟨rfl,rfl⟩:=hKT p hX;rw[hX,Option.getD_some] at hR;rw[hX] at hcall;refine aZ (aa.at hcall) ?_;simp[EP,L6];obtain ⟨L,t⟩:=p;rw[hR] at hE;dsimp only at hE ⊢;refine cp ⟨[(1,S s),(4,.ref 4 0 0),(6,.ref 6 0 0),(8,S t)],[(6,⟨4,[YZ 11 L c.log]⟩),(4,⟨4,[.agg [nM,S [],S [],I 0]]⟩),(11,⟨18,List.map bd L⟩)],[]⟩ (Wk.trans (Wk.list (s':=⟨[(1,S s),(4,.ref 4 0 0),(6,.ref 6 0 0),(8,S t)],[(6,⟨4,[YZ 33 L c.log]⟩),(4,⟨4,[.agg [nM,S [],S [],I 0]]⟩),(33,⟨18,List.map bd L⟩)],[]⟩) rfl (by simp) (by simp)) (Wk.trans (Wk.ren 33 11 (by decide) (by simp)) Wk.li)) ?_;have hcT:LW t=if 200 < t.length then at3 else t:=rfl
       simp[uW];refine⟨fun hlong=>?_,fun hshort=>?_⟩
       focus
        rw[if_pos (by omega)] at hcT;simp[uX];refine cp ⟨[(1,S s),(4,.ref 4 0 0),(6,.ref 6 0 0),(8,S (LW t))],[(6,⟨4,[YZ 11 L c.log]⟩),(4,⟨4,[.agg [nM,S [],S [],I 0]]⟩),(11,⟨18,List.map bd L⟩)],[]⟩ (Wk.list rfl (by simp[hcT,at3]) (by simp)) ?_
       rotate_left
       focus
        rw[if_neg (by omega)] at hcT;refine cp ⟨[(1,S s),(4,.ref 4 0 0),(6,.ref 6 0 0),(8,S (LW t))],[(6,⟨4,[YZ 11 L c.log]⟩),(4,⟨4,[.agg [nM,S [],S [],I 0]]⟩),(11,⟨18,List.map bd L⟩)],[]⟩ (Wk.list rfl (by simp[hcT]) (by simp)) ?_
       rotate_left
       all_goals
        clear hcT;generalize LW t=v at hE ⊢;simp[uY];refine aZ (aa.ag (TH c.log ⟨s,v⟩ hf)) ?_;simp[uZ,hE]
      ·rw[hX,Option.getD_none] at hR;rw[hX] at hch;rcases hch with ⟨K,T,_,hcall⟩ | ⟨_,hcall⟩
       focus
        refine aZ (aa.at hcall) ?_
       rotate_left
       focus
        refine ahM [11] [] (jA.arg hcall (by simp)) (by simp) (by simp) (by simp) (by simp) (by simp) (by simp) ?_
       rotate_left
       all_goals
        simp[EP,L7];refine aZ (aa.at hans) ?_;simp[L8];rcases ha:sA c.grants s with _ | u
        ·rw[ha] at hR;obtain ⟨L,hL⟩:∃ L,c.grants=L:=⟨_,rfl⟩;rw[hR] at hE;dsimp only at hE;simp[L9];rw[hL] at hE ⊢;obtain ⟨t,ht⟩:∃ t,quW=t:=⟨_,rfl⟩;refine cp ⟨[(1,S s),(4,.ref 4 0 0),(6,.ref 6 0 0),(8,S t)],[(6,⟨4,[YZ 11 L c.log]⟩),(4,⟨4,[.agg [nM,S [],S [],I 0]]⟩),(11,⟨18,List.map bd L⟩)],[]⟩ (Wk.list rfl (by simp[<- ht,quW]) (by simp)) ?_;rw[Option.getD_none,ht] at hE;have hcT:LW t=if 200 < t.length then at3 else t:=rfl
         simp[uW];refine⟨fun hlong=>?_,fun hshort=>?_⟩
         focus
          rw[if_pos (by omega)] at hcT;simp[uX];refine cp ⟨[(1,S s),(4,.ref 4 0 0),(6,.ref 6 0 0),(8,S (LW t))],[(6,⟨4,[YZ 11 L c.log]⟩),(4,⟨4,[.agg [nM,S [],S [],I 0]]⟩),(11,⟨18,List.map bd L⟩)],[]⟩ (Wk.list rfl (by simp[hcT,at3]) (by simp)) ?_
         rotate_left
         focus
          rw[if_neg (by omega)] at hcT;refine cp ⟨[(1,S s),(4,.ref 4 0 0),(6,.ref 6 0 0),(8,S (LW t))],[(6,⟨4,[YZ 11 L c.log]⟩),(4,⟨4,[.agg [nM,S [],S [],I 0]]⟩),(11,⟨18,List.map bd L⟩)],[]⟩ (Wk.list rfl (by simp[hcT]) (by simp)) ?_
         rotate_left
         all_goals
          clear hcT;generalize LW t=v at hE ⊢;simp[uY];refine aZ (aa.ag (TH c.log ⟨s,v⟩ hf)) ?_;simp[uZ,hE]
        ·rw[ha,Option.getD_some] at hR;obtain ⟨L,hL⟩:∃ L,c.grants=L:=⟨_,rfl⟩;rw[hR,<- hU u ha] at hE;dsimp only at hE;simp;rw[hL] at hE ⊢;revert hE;generalize U=t;intro hE;refine cp ⟨[(1,S s),(4,.ref 4 0 0),(6,.ref 6 0 0),(8,S t)],[(6,⟨4,[YZ 11 L c.log]⟩),(4,⟨4,[.agg [nM,S [],S [],I 0]]⟩),(11,⟨18,List.map bd L⟩)],[]⟩ Wk.li ?_;have hcT:LW t=if 200 < t.length then at3 else t:=rfl
         simp[uW];refine⟨fun hlong=>?_,fun hshort=>?_⟩
         focus
          rw[if_pos (by omega)] at hcT;simp[uX];refine cp ⟨[(1,S s),(4,.ref 4 0 0),(6,.ref 6 0 0),(8,S (LW t))],[(6,⟨4,[YZ 11 L c.log]⟩),(4,⟨4,[.agg [nM,S [],S [],I 0]]⟩),(11,⟨18,List.map bd L⟩)],[]⟩ (Wk.list rfl (by simp[hcT,at3]) (by simp)) ?_
         rotate_left
         focus
          rw[if_neg (by omega)] at hcT;refine cp ⟨[(1,S s),(4,.ref 4 0 0),(6,.ref 6 0 0),(8,S (LW t))],[(6,⟨4,[YZ 11 L c.log]⟩),(4,⟨4,[.agg [nM,S [],S [],I 0]]⟩),(11,⟨18,List.map bd L⟩)],[]⟩ (Wk.list rfl (by simp[hcT]) (by simp)) ?_
         rotate_left
         all_goals
          clear hcT;generalize LW t=v at hE ⊢;simp[uY];refine aZ (aa.ag (TH c.log ⟨s,v⟩ hf)) ?_;simp[uZ,hE]
end Go.Proofs.YtnjjimhkbpdpgaaGreatDoor
namespace Go.Abs
open Go.ChangeShapes Go.WideShapes Go.ChangeAt Go.RowKit
def Old (w:World) (b:Nat):Prop:=b < w.heap.size
mutual
def bulk {H:Type}:DataW H->Nat
 | .lit (.string bytes)=>bytes.length+1
 | .lit _=>1
 | .nil=>1
 | .ptr d=>bulk d+1
 | .slice elems spare=>Jf elems+Jf spare+1
 | .agg parts=>Jf parts+1
 | .iface _ d=>bulk d+1
 | .map entries=>ay6 entries+1
 | .held _=>1
def Jf {H:Type}:List (DataW H)->Nat
 | []=>0
 | d::r=>bulk d+Jf r
def ay6 {H:Type}:List (Lit×DataW H)->Nat
 | []=>0
 | x::r=>aML x+ay6 r
def aML {H:Type}:Lit×DataW H->Nat
 | (.string bytes,d)=>bytes.length+bulk d+1
 | (_,d)=>bulk d+1
end
mutual
def ag9:V->Nat
 | .v (.string b)=>b.size+1
 | .v _=>1
 | .ro _ es=>rR es+1
 | .rp _ es _ _=>rR es+1
 | .own _ es=>rR es+1
 | .agg cs=>rR cs
 | .tup cs=>rR cs
 | _=>0
def rR:List V->Nat
 | []=>0
 | c::cs=>ag9 c+rR cs
end
theorem arv:∀ (a b:List V),rR (a++b)=rR a+rR b
 | [],b=>by simp[rR]
 | x::a,b=>by simp only[List.cons_append,rR];rw[arv a b];omega
theorem aoa:∀ (a b:List V),bN (a++b)=(bN a&&bN b)
 | [],b=>by simp[bN]
 | x::a,b=>by simp only[List.cons_append,bN];rw[aoa a b,Bool.and_assoc]
theorem aHU {v:V} {vs:List V} (h:fR v=some vs) (hn:gV v=true):bN vs=true:=by
 cases v<;>simp only[fR,Option.some.injEq,reduceCtorEq] at h<;>rw[<- h]<;>first | exact hn | (simp only[bN,Bool.and_true];exact hn)
theorem aLO (v:V):rR [v]=ag9 v:=by simp only[rR,Nat.add_zero]
theorem aKu {v:V} {vs:List V} (h:fR v=some vs):rR vs=ag9 v:=by
 have key:vs=[v]\/v=.agg vs:=by
  cases v<;>simp only[fR,Option.some.injEq,reduceCtorEq] at h<;>rw[<- h]<;>simp
 rcases key with rfl | rfl
 ·exact aLO v
 ·simp only[ag9]
def Ed (P:Program) (t:TypeId) (agg:Bool) (n:Nat) (S:V->Prop):Prop :=
 ∀ (H:Type) (Dy:TypeId×Value->H) (w:World) (held:Bool) (fuel:Nat) (cs:List Value) (x:DataW H×List MemPlace),DataW.trod Dy P w 0 (fun _=>true) held fuel t cs=some x ->
  cs.length=n/\cs.all one=true/\∃ v vs,S v/\kA v=agg/\fR v=some vs/\iU w (Old w) vs (fun _=>none) cs []/\gV v=true/\ag9 v<=bulk x.1
theorem Ed.imp {P:Program} {t:TypeId} {agg:Bool} {n:Nat} {S S':V->Prop} (h:Ed P t agg n S) (hs:∀ v,S v->S' v):Ed P t agg n S':=fun H Dy w held fuel cs x hx=>by
 obtain ⟨h1,h2,v,vs,h3,h4⟩:=h H Dy w held fuel cs x hx;exact⟨h1,h2,v,vs,hs v h3,h4⟩
theorem aBL {w:World} {D:Nat->Prop} {v:V} {φ:Nat->Option Pl} {x:Value} (h:iU w D [v] φ [x] []):CV w D v φ x []:=by
 simp only[iU] at h;obtain ⟨y,ys,f1,f2,e,hf,h1,h2,_⟩:=h;cases e;have:=List.append_eq_nil_iff.1 hf.symm;rw[this.1] at h1;exact h1
theorem aLZ {w:World} {D:Nat->Prop} {φ:Nat->Option Pl}:∀ (vs:List V) (xs:List Value) (f:List Nat),iU w D vs φ xs f->xs.length=vs.length
 | [],xs,f,h=>by simp only[iU] at h;rw[h.1];rfl
 | v::vs,xs,f,h=>by
   simp only[iU] at h;obtain ⟨y,ys,f1,f2,rfl,_,_,h2⟩:=h;simp[aLZ vs ys f2 h2]
theorem amE {w:World} {D:Nat->Prop} {v:V} {vs:List V} {cs:List Value} (hc:fR v=some vs) (h1:cs.all one=true) (h:iU w D vs (fun _=>none) cs []) :
  ∃ x:Value,x.cells.toList=cs/\CV w D v (fun _=>none) x []/\(kA v=true->x=.agg cs.toArray):=by
 cases v with
 | agg cs' =>
   simp only[fR,Option.some.injEq] at hc;subst hc;exact⟨.agg cs.toArray,by simp[Value.cells],by simp only[CV];exact⟨_,rfl,by simpa using h⟩,fun _=>rfl⟩
 | undef=>simp[fR] at hc
 | tup _=>simp[fR] at hc
 | _ =>
   simp only[fR,Option.some.injEq] at hc;subst hc;have hl:=aLZ _ _ _ h
   match cs,hl with
   | [x],_ =>
     have ho:one x=true:=by simpa using h1
     exact⟨x,by rw[ayB ho],aBL h,fun e=>by simp[kA] at e⟩
section
variable {P : Program} {t : TypeId}
theorem Ed.int {k:IntKind} (ht:P.underlying t=some (.int k)):Ed P t false 1 (fun v=>∃ n,v=.v (.int k n)/\(Lit.int k n).wf=true):=fun H Dy w held fuel cs x hx=>by
 obtain ⟨n,rfl,rfl,hw⟩:=DataW.trod_int ht hx;refine⟨rfl,rfl,.v (.int k n),[.v (.int k n)],⟨n,rfl,hw⟩,rfl,rfl,?_,rfl,by simp[ag9,bulk]⟩;exact Hu (by simp[CV,one])
theorem Ed.bool (ht:P.underlying t=some .bool):Ed P t false 1 (fun v=>∃ b,v=.v (.bool b)):=fun H Dy w held fuel cs x hx=>by
 obtain ⟨n,rfl,rfl⟩:=DataW.trod_bool ht hx;refine⟨rfl,rfl,.v (.bool n),[.v (.bool n)],⟨n,rfl⟩,rfl,rfl,?_,rfl,by simp[ag9,bulk]⟩;exact Hu (by simp[CV,one])
theorem Ed.string (ht:P.underlying t=some .string):Ed P t false 1 (fun v=>∃ b:ByteArray,v=.v (.string b)/\b.size<=maxLen):=fun H Dy w held fuel cs x hx=>by
 obtain ⟨s,rfl,rfl,hs⟩:=DataW.trod_string ht hx;have ho:s.size<=9223372036854775807:=by unfold maxLen at hs;omega
 refine⟨rfl,by simpa [one] using ho,.v (.string s),[.v (.string s)],⟨s,rfl,hs⟩,rfl,rfl,?_,rfl,?_⟩
 ·exact Hu (by simpa [CV,one] using ho)
 ·show s.size+1<=s.data.toList.length+1;rw[Array.length_toList];exact Nat.le_refl _
theorem aLY {w:World} {D:Nat->Prop} {φ:Nat->Option Pl}:∀ (vs us:List V) (xs ys:List Value),iU w D vs φ xs []->iU w D us φ ys []->iU w D (vs++us) φ (xs++ys) []
 | [],us,xs,ys,h,h'=>by simp only[iU] at h;rw[h.1];exact h'
 | v::vs,us,xs,ys,h,h'=>by
   simp only[iU] at h;obtain ⟨y,zs,f1,f2,rfl,hf,h1,h2⟩:=h;have:=List.append_eq_nil_iff.1 hf.symm;obtain ⟨rfl,rfl⟩:=this;simp only[List.cons_append,iU];exact⟨y,zs++ys,[],[],rfl,rfl,h1,aLY vs us zs ys h2 h'⟩
def aKo (P:Program):Nat->List Field->List (Bool×Nat×(V->Prop))->Prop
 | _,[],[]=>True
 | off,f::fs,(b,n,S)::Ss=>f.offset=off/\P.cellsOf f.type=n/\Ed P f.type b n S/\aKo P (off+n) fs Ss
 | _,_,_=>False
def Each:List (Bool×Nat×(V->Prop))->List V->Prop
 | [],[]=>True
 | (b,_,S)::Ss,v::vs=>(S v/\kA v=b)/\Each Ss vs
 | _,_=>False
theorem Each.cons {b:Bool} {n:Nat} {S:V->Prop} {Ss:List (Bool×Nat×(V->Prop))} {vs:List V} (h:Each ((b,n,S)::Ss) vs):∃ v vs',vs=v::vs'/\S v/\Each Ss vs':=by
 cases vs with
 | nil=>exact h.elim
 | cons v vs=>exact⟨v,vs,rfl,h.1.1,h.2⟩
theorem Each.nil {vs:List V} (h:Each [] vs):vs=[]:=by
 cases vs with
 | nil=>rfl
 | cons v vs=>exact h.elim
def axR (v:V):List V:=(fR v).getD []
theorem azD {H:Type} {Dy:TypeId×Value->H} {w:World} {held:Bool} {m:Nat} {cs:List Value}:∀ (fs:List Field) (Ss:List (Bool×Nat×(V->Prop))) (off:Nat) (xs:List (DataW H×List MemPlace)),aKo P off fs Ss->xs.length=fs.length ->
  (∀ (i:Nat) (f:Field),fs[i]?=some f->DataW.trod Dy P w 0 (fun _=>true) held m f.type ((cs.drop f.offset).take (P.cellsOf f.type))=xs[i]?)->off<=cs.length ->
  ∃ vs,Each Ss vs/\off+(Ss.map (·.2.1)).sum<=cs.length/\((cs.drop off).take (Ss.map (·.2.1)).sum).all one=true /\
   iU w (Old w) (vs.flatMap axR) (fun _=>none) ((cs.drop off).take (Ss.map (·.2.1)).sum) []/\bN (vs.flatMap axR)=true/\rR (vs.flatMap axR)<=Jf (xs.map (·.1))
 | [],[],off,xs,_,hl,_,hle=>⟨[],trivial,by simpa using hle,by simp,by simp[iU],rfl,by simp[rR]⟩
 | f::fs,(b,n,S)::Ss,off,xs,hF,hl,h,hle=>by
   obtain ⟨rfl,rfl,hr,hF⟩:=hF
   match xs,hl with
   | x::xs,hl =>
     have h0:=h 0 f rfl;simp only[List.getElem?_cons_zero] at h0;obtain ⟨g1,g2,v,vs,g3,g4,g5,g6,g7,g8⟩:=hr H Dy w held m _ x h0
     have hlen:f.offset+P.cellsOf f.type<=cs.length:=by
      rw[List.length_take,List.length_drop] at g1;omega
     obtain ⟨us,k1,k2,k3,k4,k5,k6⟩:=azD fs Ss _ xs hF (by simpa using hl) (fun i f' hf'=>by
      have:=h (i+1) f' (by simpa using hf');simpa using this) hlen
     have hsplit:(cs.drop f.offset).take (P.cellsOf f.type+(Ss.map (·.2.1)).sum)=(cs.drop f.offset).take (P.cellsOf f.type)++(cs.drop (f.offset+P.cellsOf f.type)).take (Ss.map (·.2.1)).sum:=by
      rw[List.take_add,List.drop_drop]
     have hcv:axR v=vs:=by simp[axR,g5]
     refine⟨v::us,⟨⟨g3,g4⟩,k1⟩,?_,?_,?_,?_,?_⟩
     ·simp only[List.map_cons,List.sum_cons];omega
     ·simp only[List.map_cons,List.sum_cons];rw[hsplit,List.all_append,g2,k3];rfl
     ·simp only[List.map_cons,List.sum_cons,List.flatMap_cons];rw[hsplit,hcv];exact aLY _ _ _ _ g6 k4
     ·rw[List.flatMap_cons,aoa,k5,hcv,Bool.and_true];exact aHU g5 g7
     ·rw[List.flatMap_cons,arv,hcv];have:rR vs=ag9 v:=aKu g5;simp only[List.map_cons,Jf];omega
 | [],_::_,off,xs,hF,_,_,_=>hF.elim
 | _::_,[],off,xs,hF,_,_,_=>hF.elim
theorem Ed.struct {fs:Array Field} {Ss:List (Bool×Nat×(V->Prop))} {n:Nat} (ht:P.underlying t=some (.struct fs)) (hF:aKo P 0 fs.toList Ss) (hn:(Ss.map (·.2.1)).sum=n) (hc:P.cellsOf t=n) :
  Ed P t true n (fun v=>∃ vs,Each Ss vs/\v=.agg (vs.flatMap axR)):=fun H Dy w held fuel cs x hx=>by
 obtain ⟨xs,m,rfl,rfl,hl,hxl,hx⟩:=DataW.trod_struct ht hx;obtain ⟨vs,h1,h2,h3,h4,h5,h6⟩:=azD fs.toList Ss 0 xs hF (by simpa using hxl) (fun i f hf=>hx i f (by simpa using hf)) (Nat.zero_le _)
 have htk:(cs.drop 0).take (Ss.map (·.2.1)).sum=cs:=by
  rw[List.drop_zero,hn,List.take_of_length_le (by omega)]
 rw[htk] at h3 h4;refine⟨by omega,h3,_,_,⟨vs,h1,rfl⟩,rfl,rfl,h4,by simpa [gV] using h5,?_⟩;simp only[ag9,bulk];omega
theorem aKA {α:Type} (l cs:List α) (k n:Nat) (hl:cs.length=n) (h:∀ j,j < n->l[k+j]?=cs[j]?):l.drop k=cs++l.drop (k+n):=by
 apply List.ext_getElem?;intro i;rw[List.getElem?_drop];by_cases hi:i < n
 ·rw[List.getElem?_append_left (by omega)];exact h i hi
 ·rw[List.getElem?_append_right (by omega),List.getElem?_drop,hl];congr 1;omega
theorem Ed.slice {e:TypeId} {b:Bool} {n:Nat} {S:V->Prop} (ht:P.underlying t=some (.slice e)) (he:P.cellsOf e=n) (hn:0 < n) (hr:Ed P e b n S) :
  Ed P t false 1 (fun v=>∃ es,v=.ro n es/\(∀ e ∈ es,S e/\kA e=b)/\es.length<=maxLen):=fun H Dy w held fuel cs x hx=>by
 rcases DataW.trod_slice ht hx with ⟨rfl,rfl⟩ | ⟨a,len,cap,elems,rest,m,rfl,rfl,rfl,_,hl,hm,hlen,hel,_,_⟩
 ·refine⟨rfl,rfl,.ro n [],[.ro n []],⟨[],rfl,by simp,by simp⟩,rfl,rfl,Hu ?_,rfl,by simp[ag9,rR,bulk]⟩;simp only[CV];exact⟨trivial,.inl ⟨trivial,_,_,rfl,by simp⟩⟩
 ·rw[he] at hel;obtain ⟨ab,ao,asp⟩:=a
  have key:∀ (k i:Nat),i+k=len->∃ es:List V,es.length=k/\(∀ e ∈ es,S e/\kA e=b)/\bN es=true/\rR es<=Jf ((elems.drop i).map (·.1)) /\
    (0 < k->asp=none/\ab < w.heap.size/\∃ arr,ahu w ab=some arr/\CR w (Old w) n es (fun _=>none) (arr.toList.drop (ao+i * n)) []):=by
   intro k
   induction k with
   | zero=>exact fun i hi=>⟨[],rfl,by simp,rfl,by simp[rR],fun h=>absurd h (Nat.lt_irrefl 0)⟩
   | succ k ih =>
     intro i hi;obtain ⟨es,h1,h2,h3,h4,h5⟩:=ih (i+1) (by omega);have hi':=hel i (by omega);have hget:i < elems.length:=by omega
     rw[List.getElem?_eq_getElem hget,Option.bind_eq_some_iff] at hi';obtain ⟨cs',hcs,htr⟩:=hi';obtain ⟨_,hcl,hcell⟩:=World.cells?_some hcs;obtain ⟨g1,g2,v,vs,g3,g4,g5,g6,g7,g8⟩:=hr H Dy w held m _ _ htr;have hc0:=hcell 0 (by omega)
     have hc0':∃ y,w.cell? (((⟨ab,ao,asp⟩:Addr).add (i * n)).add 0)=some y:=by
      rw[hc0,List.getElem?_eq_getElem (by omega)];exact⟨_,rfl⟩
     obtain ⟨y,hy⟩:=hc0';have hadd0:((⟨ab,ao,asp⟩:Addr).add (i * n)).add 0=(⟨ab,ao,asp⟩:Addr).add (i * n):=by simp[Addr.add]
     rw[hadd0] at hy
     have hblk:∃ arr,ahu w ab=some arr/\ab < w.heap.size:=by
      have hb:((⟨ab,ao,asp⟩:Addr).add (i * n)).block=ab:=block_add _ _;unfold World.cell? at hy;rw[hb] at hy;unfold ahu;cases hh:w.heap[ab]? with
      | none=>rw[hh] at hy;simp at hy
      | some bk =>
        rw[hh] at hy;cases bk with
        | cells c ty fr=>exact⟨c,rfl,(Array.getElem?_eq_some_iff.1 hh).1⟩
        | _=>simp at hy
     obtain ⟨arr,harr,hlt⟩:=hblk
     have hspot:asp=none:=by
      by_cases hi0:i * n=0
      ·have:=World.cell?_spot hy;simpa [Addr.add,hi0] using this
      ·
       have h00:=hel 0 (by omega);rw[List.getElem?_eq_getElem (by omega),Option.bind_eq_some_iff] at h00;obtain ⟨cs0,hcs0,_⟩:=h00;obtain ⟨_,hcl0,hcell0⟩:=World.cells?_some hcs0;have:=hcell0 0 (by omega);rw[List.getElem?_eq_getElem (by omega)] at this;have:=World.cell?_spot this;simpa [Addr.add] using this
     subst hspot;refine⟨v::es,by simp[h1],fun e he=>?_,by simp[bN,g7,h3],?_,fun _=>⟨rfl,hlt,arr,harr,?_⟩⟩
     ·rcases List.mem_cons.1 he with rfl | he
      ·exact⟨g3,g4⟩
      ·exact h2 e he
     ·rw[List.drop_eq_getElem_cons hget];simp only[List.map_cons,Jf,rR];omega
     ·obtain ⟨x',hx1,hx2,_⟩:=amE g5 g2 g6
      have hd:arr.toList.drop (ao+i * n)=cs'++arr.toList.drop (ao+i * n+n):=by
       refine aKA _ _ _ _ g1 fun j hj=>?_;have:=hcell j hj;rw[add_plain,add_plain] at this;rw[<- this];unfold World.cell?;unfold ahu at harr;cases hh:w.heap[ab]? with
       | none=>rw[hh] at harr;simp at harr
       | some bk =>
         rw[hh] at harr;cases bk with
         | cells c ty fr=>simp only[Option.some.injEq] at harr;subst harr;simp
         | _=>simp at harr
      rw[hd];simp only[CR];refine⟨x',_,[],[],by rw[hx1],⟨?_,by rw[hx1];exact g2⟩,rfl,hx2,?_⟩
      ·rw[<- Array.length_toList,hx1];exact g1
      ·cases k with
       | zero =>
         match es,h1 with
         | [],_=>simp[CR]
       | succ k =>
         obtain ⟨_,_,arr',harr',hcr⟩:=h5 (by omega);rw[harr] at harr';cases harr';have e1:ao+(i+1) * n=ao+i * n+n:=by rw[Nat.add_mul];omega
         rw[e1] at hcr;exact hcr
  obtain ⟨es,h1,h2,h3,h4,h5⟩:=key len 0 (by omega);have hone:one (.slice (some ⟨ab,ao,asp⟩) len cap)=true:=rfl;refine⟨rfl,by simp[hone],.ro n es,[.ro n es],⟨es,rfl,h2,by omega⟩,rfl,rfl,Hu ?_,rfl,?_⟩
  ·simp only[CV];refine⟨trivial,?_⟩;rcases Nat.eq_zero_or_pos len with h0 | hpos
   ·subst h0
    match es,h1 with
    | [],_=>exact .inl ⟨rfl,_,_,rfl,hm⟩
   ·obtain ⟨rfl,hlt,arr,harr,hcr⟩:=h5 hpos;rw[Nat.zero_mul,Nat.add_zero] at hcr;exact .inr ⟨ab,ao,cap,arr,by rw[h1],by omega,hm,hlt,harr,hcr,h3⟩
  ·rw[List.drop_zero] at h4;simp only[ag9,bulk];omega
end
end Go.Abs
namespace Go.Abs
open Go.ChangeShapes Go.WideShapes Go.ChangeAt Go.RowKit
variable [GI]
omit [GI] in
theorem Ed.str {P:Program} {t:TypeId} (ht:P.underlying t=some .string):Ed P t false 1 (fun v=>∃ b:List UInt8,v=S b/\b.length<=maxLen) :=
 (Ed.string ht).imp fun v hv=>by
  obtain ⟨b,rfl,hb⟩:=hv;refine⟨b.data.toList,by rw[S,<- aQ3],?_⟩;simpa using hb
omit [GI] in
theorem Ed.byte {P:Program} {t:TypeId} (ht:P.underlying t=some (.int .u8)):Ed P t false 1 (fun v=>∃ b:UInt8,v=Y b) :=
 (Ed.int ht).imp fun v hv=>by
  obtain ⟨n,rfl,hn⟩:=hv;simp[Lit.wf,IntKind.min,IntKind.max,IntKind.signed,IntKind.bits] at hn;obtain ⟨m,rfl⟩:=Int.eq_ofNat_of_zero_le (by omega:0<=n);refine⟨UInt8.ofNat m,?_⟩;simp only[Y];congr 2;simp;omega
def aF0 (P:Program):List TypeId->List (Bool×Nat×(V->Prop))->Prop
 | [],[]=>True
 | t::ts,(b,n,S)::Ss=>(Ed P t b n S/\(P.readableRec t=true/\t < P.types.size) /\
   (match P.underlying t with | some (.struct _)=>b=true | some (.int _)=>b=false | some .string=>b=false | some .bool=>b=false | some (.slice _)=>b=false | _=>False))/\aF0 P ts Ss
 | _,_=>False
section
variable {P : Program} {H : Type} {Dy : TypeId × Value → H} {W : World}
omit [GI] in
theorem aOP {t:TypeId} {b:Bool} {n base:Nat} {S:V->Prop} {x:Value} {d:DataW H} {ps:List MemPlace} (hr:Ed P t b n S)
  (ho:match P.underlying t with | some (.struct _)=>b=true | some (.int _)=>b=false | some .string=>b=false | some .bool=>b=false | some (.slice _)=>b=false | _=>False)
  (hval:Value.okWide P W .any base t x) (h:DataW.Trod Dy P W 0 (fun _=>true) true t x d ps) :
  ∃ v,(S v/\kA v=b)/\CV W (Old W) v (fun _=>none) x []/\ag9 v<=bulk d:=by
 obtain ⟨fuel,h⟩:=h;obtain ⟨g1,g2,v,vs,g3,g4,g5,g6,g7,g8⟩:=hr H Dy W true fuel _ _ h;obtain ⟨y,h1,h2,h3⟩:=amE g5 g2 g6;refine⟨v,⟨g3,g4⟩,?_,g8⟩
 have plain:x.cells=#[x]->b=false->CV W (Old W) v (fun _=>none) x []:=fun hx hb=>by
  have hv:vs=[v]:=by
   rw[hb] at g4;cases v<;>simp_all [fR,kA]
  rw[hv,hx] at g6;exact aBL g6
 split at ho
 ·rename_i ht;obtain ⟨cs,rfl,_⟩:=okWide_struct ht hval;have e:=h3 (by rw[g4];exact ho);subst e;simpa [Value.cells] using h2
 ·rename_i ht;obtain ⟨m,rfl⟩:=okWide_int ht hval;exact plain rfl ho
 ·rename_i ht;obtain ⟨m,rfl⟩:=okWide_string ht hval;exact plain rfl ho
 ·rename_i ht;obtain ⟨m,rfl⟩:=okWide_bool ht hval;exact plain rfl ho
 ·rename_i ht;obtain ⟨a,l,c,rfl⟩:=okWide_slice ht hval;exact plain rfl ho
 ·exact ho.elim
omit [GI] in
theorem aEY {base:Nat}:∀ (ts:List TypeId) (Ss:List (Bool×Nat×(V->Prop))) (args:List Value) (ds:List (DataW H)) (ps:List MemPlace),aF0 P ts Ss ->
  (∀ (j:Nat) t v,ts[j]?=some t->args[j]?=some v->Value.okWide P W .any base t v)->DataW.TrodAll Dy P W 0 (fun _=>true) true ts args ds ps ->
  ∃ vs,Each Ss vs/\iU W (Old W) vs (fun _=>none) args []/\rR vs<=Jf ds
 | [],[],args,ds,ps,_,_,h=>by
   cases args<;>cases ds<;>simp[DataW.TrodAll] at h;exact⟨[],trivial,by simp[iU],by simp[rR]⟩
 | t::ts,(b,n,S)::Ss,args,ds,ps,hp,hval,h=>by
   obtain ⟨v,vs,d,ds',p,q,rfl,rfl,rfl,hd,hrest⟩:=trodAll_cons h;obtain ⟨⟨hr,_,ho⟩,hp⟩:=hp;obtain ⟨y,h1,h2,h3⟩:=aOP hr ho (hval 0 t v rfl rfl) hd;obtain ⟨ys,k1,k2,k3⟩:=aEY ts Ss vs ds' q hp (fun j t' v' hj hv=>hval (j+1) t' v' (by simpa using hj) (by simpa using hv)) hrest;exact⟨y::ys,⟨h1,k1⟩,by simp only[iU];exact⟨v,vs,[],[],rfl,rfl,h2,k2⟩,by simp only[rR,Jf];omega⟩
 | [],_::_,_,_,_,hp,_,_=>hp.elim
 | _::_,[],_,_,_,hp,_,_=>hp.elim
omit [GI] in
theorem aEZ {W':World} {sp:Nat->Bool} (hl:laidOutB P=true) (hb:Below W.heap.size W W'):∀ (ts:List TypeId) (Ss:List (Bool×Nat×(V->Prop))) (args:List Value) (ds:List (DataW H)) (ps:List MemPlace),aF0 P ts Ss ->
  (∀ p ∈ ps,p.block < W.heap.size)->(∀ p ∈ ps,sp p.block=true)->DataW.TrodAll Dy P W 0 (fun _=>true) true ts args ds ps->DataW.TrodAll Dy P W' 0 sp true ts args ds ps
 | [],[],args,ds,ps,_,_,_,h=>by
   cases args<;>cases ds<;>simp[DataW.TrodAll] at h ⊢;exact h
 | t::ts,(b,n,S)::Ss,args,ds,ps,hp,hlt,hsp,h=>by
   obtain ⟨v,vs,d,ds',p,q,rfl,rfl,rfl,hd,hrest⟩:=trodAll_cons h;obtain ⟨⟨_,hr,_⟩,hp⟩:=hp
   exact⟨p,q,WideElems.Trod_stays hl hr.1 hr.2 hd (fun x hx=>hb.same (hlt x (List.mem_append_left _ hx))) (fun x hx=>hsp x (List.mem_append_left _ hx)),
    aEZ hl hb ts Ss vs ds' q hp (fun x hx=>hlt x (List.mem_append_right _ hx)) (fun x hx=>hsp x (List.mem_append_right _ hx)) hrest,rfl⟩
 | [],_::_,_,_,_,hp,_,_,_=>hp.elim
 | _::_,[],_,_,_,hp,_,_,_=>hp.elim
omit [GI] in
theorem Grow.below {w w':World} {D D':Nat->Prop} (h:Grow w D [] w' D'):Below w.heap.size w w' :=
 ⟨h.os,h.tape,h.output,h.size,fun k hk=>h.old k hk List.not_mem_nil⟩
omit [GI] in
theorem ayl {w w':World} (h:Below w.heap.size w w') (may:MemPlace->Prop):w.keptBut w' may:=by
 refine⟨h.os,h.output,fun i hi=>?_⟩;have e:=h.block i hi;split
 ·rename_i h1 h2;rw[e,h1] at h2;simp only[Option.some.injEq,Obj.cells.injEq] at h2;obtain ⟨rfl,rfl,rfl⟩:=h2;exact⟨rfl,rfl,rfl,fun _ _=>rfl⟩
 ·rename_i h1 h2;rw[e,h1] at h2;simp only[Option.some.injEq,Obj.map.injEq] at h2;obtain ⟨rfl,rfl⟩:=h2;exact .inr ⟨rfl,rfl⟩
 ·exact e
omit [GI] in
theorem aLi {f:Func} {s:ChangeSpec} {apart fresh handsOn again:Bool} {W':World} {args:Array Value} {v:Value} {ds gs:List (DataW H)} {pa:List MemPlace}
  (hW:DataW.Whole Dy P f.params.toList s.vars apart W args.toList ds gs pa) (hb:Below W.heap.size W W')
  (hres:∀ (b:Nat) (sp:Nat->Bool) (hd:Bool),DataW.TrodAll Dy P W' b sp hd f.resultTypes.toList (v.resultList f.resultTypes.size) (s.fn H (ds++gs)).results [])
  (hargs:∀ sp:Nat->Bool,(∀ p ∈ pa,sp p.block=true)->DataW.TrodAll Dy P W' 0 sp true f.params.toList args.toList (s.fn H (ds++gs)).args pa)
  (hvars:∀ sp:Nat->Bool,(∀ p ∈ pa,sp p.block=true)->DataW.TrodVars Dy P W' sp s.vars (s.fn H (ds++gs)).vars [])
  (hok:∀ (j:Nat) (t:TypeId) (r:Value),f.resultTypes[j]?=some t->(v.resultList f.resultTypes.size)[j]?=some r->Value.okWide P W' .any 0 t r) :
  s.post Dy P f apart fresh handsOn again W args v W':=by
 have hlt:=hW.lt;have hold:∀ p ∈ pa,(fun b=>decide (b < W.heap.size)) p.block=true:=fun p hp=>by simpa using hlt p hp
 obtain ⟨_,_,_,_,_,hz,hn⟩:=id hW;refine⟨ds,gs,pa,[],pa,[],hW,hres _ _ _,hargs _ hold,hvars _ hold,ayl hb _,fun _=>⟨hok,_,_,([]++pa)++[],⟨[]++pa,[],trodAll_append (hargs _ (fun _ _=>rfl)) (hres _ _ _),hvars _ (fun _ _=>rfl),rfl,?_,?_⟩,?_⟩⟩
 ·intro b off hp;have hp':MemPlace.cell b off ∈ pa:=by simpa using hp
  have e:=hb.block b (hlt _ hp');have hz':=hz b off hp';unfold World.frozen? at hz' ⊢;rw[e];exact hz'
 ·intro ha;simpa using hn ha
 ·intro p hp _;simpa using hp
end
theorem aUi {P:Program} {f tb:Nat} {fn:Func} {s:ChangeSpec} {Ss:List (Bool×Nat×(V->Prop))} {small:Nat->Prop} (hl:laidOutB P=true) (hv:s.vars=[])
  (hfn:∀ (H:Type) (ds:List (DataW H)),ds.length=fn.params.size->s.fn H ds={ results:=[.lit (.bool true)],args:=ds })
  (hres:fn.resultTypes=#[tb]) (hb:P.underlying tb=some .bool) (hp:aF0 P fn.params.toList Ss)
  (hP:∀ vs,Each Ss vs->(∃ m,small m/\rR vs<=m)->aa P f vs (.v (.bool true)))
  (H:Type) (Dy:TypeId×Value->H) (W:World) (base:Nat) (args:Array Value) (ds gs:List (DataW H)) (before:List MemPlace)
  (hval:∀ (j:Nat) t v,fn.params[j]?=some t->args[j]?=some v->Value.okWide P W .any base t v)
  (hW:DataW.Whole Dy P fn.params.toList s.vars false W args.toList ds gs before) (hsm:small (Jf ds)) (hgi:GI.holds W (Old W)) :
  Calls P f args W fun e W'=>∃ v,e=.returned v/\s.post Dy P fn false true false false W args v W':=by
 have hW':=hW;obtain ⟨p,q,hA,hV,rfl,_,_⟩:=hW;rw[hv] at hV;obtain ⟨rfl,rfl⟩:=trodVars_none hV;obtain ⟨vs,h1,h2,h3⟩:=aEY fn.params.toList Ss args.toList ds p hp (fun j t v hj hx=>hval j t v (by simpa using hj) (by simpa using hx)) hA;have hcall:=(hP vs h1 ⟨_,hsm,h3⟩).2 W (Old W) args.toList (fun _ h=>h) hgi h2;rw[Array.toArray_toList] at hcall;refine hcall.mono ?_;rintro e W' ⟨y,D',fp,rfl,hg,hcv,_,_⟩;have hy:y=.bool true:=by simp only[CV] at hcv;exact hcv.1
 subst hy;have hbl:=Grow.below hg;have hlt:∀ x ∈ p,x.block < W.heap.size:=fun x hx=>hW'.lt x (by simpa using hx)
 have hlen:∀ (ts:List TypeId) (vs:List Value) (ds:List (DataW H)) (ps:List MemPlace),DataW.TrodAll Dy P W 0 (fun _=>true) true ts vs ds ps->ds.length=ts.length:=by
  intro ts
  induction ts with
  | nil=>intro vs ds ps h;cases vs<;>cases ds<;>simp[DataW.TrodAll] at h;rfl
  | cons t ts ih =>
    intro vs ds ps h;obtain ⟨v,vs,d,ds',p,q,rfl,rfl,rfl,_,hr⟩:=trodAll_cons h;simp[ih _ _ _ hr]
 have hds:ds.length=fn.params.size:=by rw[hlen _ _ _ _ hA];simp
 have hs:=hfn H ds hds;rw[List.append_nil] at hW';refine⟨_,rfl,aLi hW' hbl (fun b sp hd=>?_) (fun sp hsp=>?_) (fun sp _=>?_) (ok_one hres rfl (okWide_bool_mk hb _))⟩
 ·rw[List.append_nil,hs,hres];exact trodAll_mk1 (shut_bool hb _)
 ·rw[List.append_nil,hs];exact aEZ hl hbl fn.params.toList Ss args.toList ds p hp hlt hsp hA
 ·rw[List.append_nil,hs,hv];rfl
end Go.Abs
