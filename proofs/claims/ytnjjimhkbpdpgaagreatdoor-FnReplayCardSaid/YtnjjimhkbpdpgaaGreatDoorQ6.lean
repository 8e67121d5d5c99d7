/- Parts of the proof that several claims share, part 6. -/
import Derived.Test.YtnjjimhkbpdpgaaGreatDoorQ5
set_option linter.unusedVariables false
set_option linter.unusedSimpArgs false
namespace Go.Proofs.YtnjjimhkbpdpgaaGreatDoor
open Go.Abs
open Tryz
theorem aIP (g:Group):di Zi [ib g] (.tup [S (if bQ g=true then mP g else []),B (bQ g)]):=by
 refine aa.of aCD (by simp) ?_;simp[anE,afe,aff];refine al (aa.ag (ah2 g)) ?_;cases h:bQ g with
 | false=>simp[afg]
 | true =>
   simp[afh];refine al (aa.ag (ac0 g h)) ?_;simp
theorem aCU (o l x:Int):di MT [I o,I l,I x] (.tup [S (if aue (o,l,x)=true then aNF (o,l,x) else []),B (aue (o,l,x))]):=by
 have hl:ua.length=9:=rfl;have b1:=GO o l;have b2:=mc x;refine aa.of atF (by simp) ?_;simp[aac,Uw,Ux];refine al (aa.ag (atU o l x)) ?_;have e:aue (o,l,x)=(fV o 1 7&&fV l 0 4&&fV x 1 9):=rfl;cases h:aue (o,l,x) with
 | false =>
   rw[e] at h;simp[Uy,h]
 | true =>
   rw[e] at h;have h':=h;simp only[Bool.and_eq_true,db] at h';obtain ⟨⟨h1,h2⟩,h3⟩:=h';have hw:ua[(x - 1).toNat]?=some (eL x):=Pm (by omega);simp[Uz,h];refine al (aa.ag (aeH o l h1 h2)) ?_;simp;refine⟨by omega,?_⟩;refine bB Px rfl (.inl (by simp)) (by simp) ?_;simp;rw[aD (n:=x - 1) (by omega),hw];simp[aNF];omega
def aCr (u v:List UInt8) (g p:Int×Int):Int×Int:=if mO p.1 p.2=u/\rl p.2 p.1=v then p else g
def ckN (u v:List UInt8) (m:Nat):Int×Int:=(ckL.take m).foldl (aCr u v) (0,0)
theorem aQ8:∀ i:Nat,i < 6->∀ j:Nat,j < 8->ckL[8 * i+j]?=some ((i:Int)+1,(j:Int)+1):=by decide +kernel
theorem aO1 (u v:List UInt8) {i j:Nat} (hi:i < 6) (hj:j < 8):ckN u v (8 * i+j+1)=aCr u v (ckN u v (8 * i+j)) ((i:Int)+1,(j:Int)+1):=by
 have h:=aQ8 i hi j hj;obtain ⟨h1,h2⟩:=List.getElem?_eq_some_iff.1 h;unfold ckN;rw[<- List.take_append_getElem h1,List.foldl_append,h2];rfl
theorem aQ9 (u v:List UInt8):ckN u v 48=ckP u v:=by
 unfold ckN ckP;rw[List.take_of_length_le (by decide)];rfl
def aCT (s:List UInt8):Bool:=decide (((parts 32 s).length=3\/(parts 32 s).length=4)/\bQ (HQ (parts 32 s))=true/\mP (HQ (parts 32 s))=s)
theorem aPl (s:List UInt8):TE s=if aCT s=true then HQ (parts 32 s) else ⟨0,0,0,0⟩:=by unfold TE aCT;simp
theorem anQ {ws:List (List UInt8)} {i:Nat} (h:i < ws.length):ws[i]?=some (ws.getD i []):=by
 rw[List.getD_eq_getElem?_getD,List.getElem?_eq_getElem h];rfl
def aNJ (s:List UInt8) (ws:List (List UInt8)) (g:Int×Int) (i:Nat):AS:=⟨[(0,S s),(2,.ref 2 0 0),(4,.sl 11 0 ws.length),(5,.ref 5 0 0),(6,I ((i:Int)+1))],[(2,⟨4,[.agg [I 0,I 0,I 0,I 0]]⟩),(11,⟨1,ws.map S⟩),(5,⟨4,[.agg [I g.1,I g.2,I 0,I 0]]⟩)],[]⟩
def Ue (s:List UInt8) (ws:List (List UInt8)) (g:Int×Int) (i j:Nat):AS:=⟨[(0,S s),(2,.ref 2 0 0),(4,.sl 11 0 ws.length),(5,.ref 5 0 0),(6,I ((i:Int)+1)),(7,I ((j:Int)+1))],[(2,⟨4,[.agg [I 0,I 0,I 0,I 0]]⟩),(11,⟨1,ws.map S⟩),(5,⟨4,[.agg [I g.1,I g.2,I 0,I 0]]⟩)],[]⟩
def aeX (s:List UInt8) (ws:List (List UInt8)) (p:Int×Int) (a:Int):AS:=⟨[(0,S s),(2,.ref 2 0 0),(4,.sl 11 0 ws.length),(5,.ref 5 0 0)],[(2,⟨4,[.agg [I 0,I 0,I 0,I 0]]⟩),(11,⟨1,ws.map S⟩),(5,⟨4,[.agg [I p.1,I p.2,I a,I 0]]⟩)],[]⟩
theorem atS (s:List UInt8) (hs:s.length<=1000000):di JT [S s] (.tup [ib (TE s),B (aCT s)]):=by
 have hc0:=IC 32 s;have hc1:=ahO 32 s;refine aa.of aAV (by simp) ?_;simp[ahB,aa9,aba];refine aZ (aa.ag (Hq s 32 (by omega))) ?_;rw[aPl];have hB:aCT s=decide (((parts 32 s).length=3\/(parts 32 s).length=4)/\bQ (HQ (parts 32 s))=true/\mP (HQ (parts 32 s))=s):=rfl;generalize hw:parts 32 s=ws at hB hc0 ⊢;simp[abb];by_cases h34:ws.length=3\/ws.length=4
 case neg =>
  have hf:aCT s=false:=by rw[hB];simp[h34]
  rw[hf];by_cases h3:(ws.length:Int) < 3
  ·simp[h3,Nd];omega
  ·simp[h3,show (4:Int) < ws.length by omega,Nd];omega
 case pos =>
  have h0:=anQ (ws:=ws) (i:=0) (by omega);have h1:=anQ (ws:=ws) (i:=1) (by omega);have h2:=anQ (ws:=ws) (i:=2) (by omega);have h3:=anQ (ws:=ws) (i:=ws.length - 1) (by omega);obtain ⟨u,hu⟩:∃ u,ws.getD 0 []=u:=⟨_,rfl⟩;obtain ⟨v,hv⟩:∃ v,ws.getD 1 []=v:=⟨_,rfl⟩;obtain ⟨x,hx⟩:∃ x,ws.getD 2 []=x:=⟨_,rfl⟩;obtain ⟨y,hy⟩:∃ y,ws.getD (ws.length - 1) []=y:=⟨_,rfl⟩;rw[hu] at h0;rw[hv] at h1;rw[hx] at h2;rw[hy] at h3;have hC:HQ ws=⟨(ckP u v).1,(ckP u v).2,if ws.length=4 then xo (cY (ckP u v).2) x else 0,rv y⟩:=by unfold HQ;rw[hu,hv,hx,hy]
  have n3:¬(ws.length:Int) < 3:=by omega
  have n4:¬(4:Int) < ws.length:=by omega
  simp[n3,n4,abc,abd];refine fun _ _=>aMp (fun i:Nat=>aNJ s ws (ckN u v (8 * i)) i) (fun i=>6 - i) (fun i=>i<=6) 0 (Wk.list rfl (by simp[aNJ]) (by simp[aNJ,ckN])) (by simp) (fun s'=>Wk s' (aeX s ws (ckP u v) 0)) 0 ?_ ?_
  ·intro s' hs';simp;refine cp (aeX s ws (ckP u v) 0) hs' ?_;simp[aeX,WX];rcases Classical.em (ws.length=4) with h4 | h4
   case' inl =>
    have ha:(if ws.length=4 then xo (cY (ckP u v).2) x else 0)=xo (cY (ckP u v).2) x:=if_pos h4;rw[ha] at hC;have hb:=amM (cY (ckP u v).2) x
    have hal:(cY (ckP u v).2).length<=2:=by unfold cY;repeat' split
                                            all_goals decide
    simp[h4,WY,J8];refine gm (aa.ag (ah4 (ckP u v).2)) ?_;simp[h2];refine cF (aa.ag (ll (cY (ckP u v).2) x)) ?_;simp;rw[aD (by omega)];refine⟨a7 (by simp[J8]) (by simp),?_⟩;refine cp (aeX s ws (ckP u v) (xo (cY (ckP u v).2) x)) (Wk.list rfl (by simp[aeX,h4]) (by simp[aeX])) ?_
   case' inr =>
    have ha:(if ws.length=4 then xo (cY (ckP u v).2) x else 0)=0:=if_neg h4;rw[ha] at hC;have h4':¬(ws.length:Int)=4:=by omega
    simp[h4'];refine cp (aeX s ws (ckP u v) 0) (Wk.list rfl (by simp[aeX]) (by simp[aeX])) ?_
   all_goals
    simp[aeX,WZ];rw[aD (by omega)];have e1:((ws.length:Int) - 1).toNat=ws.length - 1:=by omega
    simp[e1,h3];refine⟨by omega,?_⟩;refine aZ (aa.ag (Hy y)) ?_;simp[W0];refine bB (aa.arg (aIP (HQ ws)) (by simp[hC])) rfl (.inl (by simp)) (by simp) ?_;simp[W2];rw[hB];cases hok:bQ (HQ ws) with
    | false=>simp[Kr]
    | true =>
      by_cases ht:mP (HQ ws)=s
      ·simp[W3,ht,h34];simp[hC]
      ·simp[Kr,ht]
  ·intro i hi K hN hR hE;simp[aNJ,abe,Wf];refine⟨fun hlt=>?_,fun hge=>?_⟩
   ·simp[abf];refine aMp (fun j:Nat=>Ue s ws (ckN u v (8 * i+j)) i j) (fun j=>8 - j) (fun j=>j<=8) 0 (Wk.list rfl (by simp[Ue]) (by simp[Ue])) (by simp) (fun s'=>Wk s' (Ue s ws (ckN u v (8 * i+8)) i 8)) 2 ?_ ?_
    ·intro s' hs';simp;refine cp (Ue s ws (ckN u v (8 * i+8)) i 8) hs' ?_;simp[Ue,WW];rw[aD (by omega)];exact hN (i+1) _ (by omega) (by omega) (Wk.list rfl (by simp[aNJ]) (by simp[aNJ,Nat.mul_add]))
    ·intro j hj K hN hR hE;simp[Ue,abg,We];refine⟨fun hlt2=>?_,fun hge2=>?_⟩
     ·have hs1:=aO1 u v (i:=i) (j:=j) (by omega) (by omega);simp[abh,Fx,h0];refine⟨by omega,?_⟩;refine cF (aa.ag (azK ((i:Int)+1) ((j:Int)+1) (by omega))) ?_;simp;by_cases e1:u=mO ((i:Int)+1) ((j:Int)+1)
      ·simp[e1,h1];refine⟨by omega,?_⟩;refine cF (aa.ag (aCW ((j:Int)+1) ((i:Int)+1) (by omega))) ?_;simp;refine⟨a7 (by simp[Fx]) (by simp),?_⟩;by_cases e2:v=rl ((j:Int)+1) ((i:Int)+1)
       ·have hs2:ckN u v (8 * i+(j+1))=((i:Int)+1,(j:Int)+1):=by rw[<- Nat.add_assoc,hs1];unfold aCr;rw[if_pos ⟨e1.symm,e2.symm⟩]
        simp[e2,WV,DG];rw[aD (by omega)];refine hN (j+1) _ (by omega) (by omega) (Wk.list rfl (by simp[Ue]) ?_);simp only[Ue,hs2];simp
       ·have hs2:ckN u v (8 * i+(j+1))=ckN u v (8 * i+j):=by rw[<- Nat.add_assoc,hs1];unfold aCr;rw[if_neg (fun h=>e2 h.2.symm)]
        simp[e2,DG];rw[aD (by omega)];refine hN (j+1) _ (by omega) (by omega) (Wk.list rfl (by simp[Ue]) ?_);simp only[Ue,hs2];simp;exact⟨by rw[<- e1],by rw[<- e1]⟩
      ·have hs2:ckN u v (8 * i+(j+1))=ckN u v (8 * i+j):=by rw[<- Nat.add_assoc,hs1];unfold aCr;rw[if_neg (fun h=>e1 h.1.symm)]
       simp[e1];refine⟨a7 (by simp[Fx]) (by simp),?_⟩;simp[DG];rw[aD (by omega)];refine hN (j+1) _ (by omega) (by omega) (Wk.list rfl (by simp[Ue]) ?_);simp only[Ue,hs2];simp
     ·refine hE _ ?_;have:j=8:=by omega
      subst this;exact Wk.list rfl (by simp[Ue]) (by simp[Ue])
   ·refine hE _ ?_;have:i=6:=by omega
    subst this;rw[<- aQ9];exact Wk.list rfl (by simp[aeX]) (by simp[aeX])
theorem asJ {x:Int} (h:fV x 1 9=true):rv (eL x)=x:=Vv h
theorem aLL {s:List UInt8} (h:0 < rv s):fV (rv s) 1 9=true/\eL (rv s)=s:=by
 unfold rv xo at h ⊢;cases e:ua.findIdx? (·==s) with
 | none=>rw[e] at h;simp at h
 | some i =>
   obtain ⟨h1,hp,_⟩:=List.findIdx?_eq_some_iff_getElem.1 e;have h9:i < 9:=h1;refine⟨db.2 ⟨by dsimp only;omega,by dsimp only;omega⟩,?_⟩;unfold eL;dsimp only;rw[show ((i:Int)+1 - 1).toNat=i by omega,List.getD_eq_getElem?_getD,List.getElem?_eq_getElem h1];simpa using hp
theorem aH9 {f:Field} (h:cN f=true) (hd:f.division≠0):∃ ws,parts 32 (dS f)=ws++[eL f.first,[97,110,100],eL f.second]/\ws≠[]:=by
 have hf:=h;simp only[cN,Bool.and_eq_true] at hf;obtain ⟨⟨⟨h1,h2⟩,h3⟩,h4⟩:=hf;rw[if_neg hd] at h4;simp only[Bool.and_eq_true] at h4
 have one:∀ x:Int,fV x 1 9=true->(32:UInt8) ∉ eL x:=fun x hx=>by
  rw[db] at hx;have key:∀ i:Nat,i < 9->(32:UInt8) ∉ ua.getD i []:=by decide +kernel
  exact key _ (by omega)
 have e:dS f=C0 (axS f.division) f.line++32::(eL f.first++32::([97,110,100]++32::eL f.second)):=by
  unfold dS;rw[if_neg hd];simp
 refine⟨parts 32 (C0 (axS f.division) f.line),?_,Ud _⟩;rw[e,eW,eW,eW,eC (s:=eL f.first) (one _ h3),eC (s:=eL f.second) (one _ h4.1),eC (s:=[97,110,100]) (by decide)];rfl
def acY (o:Option Field):V:=.tup [jC (o.getD ⟨0,0,0,0⟩),B o.isSome]
def azz (ws:List (List UInt8)) (d l:Int):Field:=⟨d,l,rv (ws.getD (ws.length - 3) []),rv (ws.getD (ws.length - 1) [])⟩
def anT (s:List UInt8) (f:Field):Bool:=cN f&&dS f==s
theorem aM0 {s:List UInt8} {f:Field} (h:anT s f=true):rB s=some f:=by
 unfold anT at h;simp only[Bool.and_eq_true,beq_iff_eq] at h;exact Tq.2 h
theorem aH8 {s:List UInt8} (h0:rv s=0) (h:60 < s.length\/(parts 32 s).length < 4\/∀ i:Nat,i < 7->∀ j:Nat,j < 5->anT s (azz (parts 32 s) ((i:Int)+1) (j:Int))=false):rB s=none:=by
 cases e:rB s with
 | none=>rfl
 | some f =>
   exfalso;obtain ⟨h1,h2⟩:=Tq.1 e;have hf:=h1;simp only[cN,Bool.and_eq_true,db] at hf;obtain ⟨⟨⟨d1,d2⟩,d3⟩,d4⟩:=hf;by_cases hd:f.division=0
   ·have:dS f=eL f.first:=by unfold dS;rw[if_pos hd]
    rw[<- h2,this,asJ (db.2 d3)] at h0;omega
   ·obtain ⟨ws,hw,hne⟩:=aH9 h1 hd;rw[if_neg hd] at d4;simp only[Bool.and_eq_true] at d4;have hlen:=List.length_pos_iff.2 hne;rw[h2] at hw;rcases h with h | h | h
    ·have:=Ad f;rw[h2] at this;omega
    ·rw[hw] at h;simp at h;omega
    ·have hc:=h (f.division - 1).toNat (by omega) f.line.toNat (by omega)
     have ec:azz (parts 32 s) (((f.division - 1).toNat:Int)+1) (f.line.toNat:Int)=f:=by
      have g1:(parts 32 s).getD ((parts 32 s).length - 3) []=eL f.first:=by
       rw[hw,List.getD_eq_getElem?_getD,List.length_append,List.getElem?_append_right (by simp)];simp
      have g2:(parts 32 s).getD ((parts 32 s).length - 1) []=eL f.second:=by
       rw[hw,List.getD_eq_getElem?_getD,List.length_append,List.getElem?_append_right (by simp)];simp
      unfold azz;rw[g1,g2,asJ (db.2 d3),asJ d4.1,show ((f.division - 1).toNat:Int)+1=f.division by omega,show (f.line.toNat:Int)=f.line by omega]
     rw[ec] at hc;unfold anT at hc;rw[h1,h2] at hc;simp at hc
def aNm (s:List UInt8) (ws:List (List UInt8)) (i:Nat):AS:=⟨[(0,S s),(2,.ref 2 0 0),(4,.ref 4 0 0),(5,.sl 13 0 ws.length),(6,I ws.length),(8,I ((i:Int)+1))],[(2,⟨4,[jC ⟨0,0,0,0⟩]⟩),(4,⟨4,[jC ⟨0,0,0,0⟩]⟩),(13,⟨1,ws.map S⟩)],[]⟩
def azS (s:List UInt8) (ws:List (List UInt8)) (i j:Nat):AS:=⟨[(0,S s),(2,.ref 2 0 0),(4,.ref 4 0 0),(5,.sl 13 0 ws.length),(6,I ws.length),(8,I ((i:Int)+1)),(9,I j)],[(2,⟨4,[jC ⟨0,0,0,0⟩]⟩),(4,⟨4,[jC ⟨0,0,0,0⟩]⟩),(13,⟨1,ws.map S⟩)],[]⟩
set_option maxHeartbeats 1000000 in
theorem aNS (s:List UInt8) (hs:s.length<=1000000):di aiu [S s] (acY (rB s)):=by
 have hc0:=IC 32 s;have hc1:=ahO 32 s;refine aa.of aGz (by simp) ?_;simp[azp,aqt,aqu,aqv];refine aZ (aa.ag (Ni s 32 (by omega))) ?_;simp[aqw,aqx];refine al (aa.ag (ayQ s)) ?_;simp[aqy];have hnn:=(amM ua s).1;have ht9:rv s=xo ua s:=rfl;by_cases ht:0 < rv s
 ·obtain ⟨b1,b2⟩:=aLL ht;have hfo:rB s=some ⟨0,0,rv s,0⟩:=Tq.2 ⟨by rw[db] at b1;simp[cN,fV];omega,by unfold dS;rw[if_pos rfl];exact b2⟩;rw[hfo];simp[ht,aqz,acY];exact fun h=>by omega
 ·have ht0:rv s=0:=by omega
  simp[ht0,aqA];generalize hw:parts 32 s=ws at hc0 ⊢;have hnone:=fun h=>aH8 ht0 h;rw[hw] at hnone;by_cases h60:60 < s.length
  ·have h60':(60:Int) < s.length:=by omega
   rw[hnone (.inl h60)];simp[h60',ZT,acY];exact fun h=>by omega
  ·have h60':¬(60:Int) < s.length:=by omega
   by_cases h4:ws.length < 4
   ·have h4':(ws.length:Int) < 4:=by omega
    rw[hnone (.inr (.inl h4))];simp[h60',h4',ZT,acY];exact fun _ h=>by omega
   ·have h4':¬(ws.length:Int) < 4:=by omega
    have g1:=anQ (ws:=ws) (i:=ws.length - 3) (by omega);have g2:=anQ (ws:=ws) (i:=ws.length - 1) (by omega);have hcd:∀ d l,azz ws d l=⟨d,l,rv (ws.getD (ws.length - 3) []),rv (ws.getD (ws.length - 1) [])⟩:=fun _ _=>rfl;obtain ⟨u,hu⟩:∃ u,ws.getD (ws.length - 3) []=u:=⟨_,rfl⟩;obtain ⟨v,hv⟩:∃ v,ws.getD (ws.length - 1) []=v:=⟨_,rfl⟩;rw[hu] at g1;rw[hv] at g2;rw[hu,hv] at hcd;have e3:((ws.length:Int) - 3).toNat=ws.length - 3:=by omega
    have e1:((ws.length:Int) - 1).toNat=ws.length - 1:=by omega
    simp[h60',h4',aqB,aij];refine fun _ _=>?_;refine dl (fun i:Nat=>aNm s ws i) (fun i=>7 - i) (fun i=>i<=7/\∀ a:Nat,a < i->∀ b:Nat,b < 5->anT s (azz ws ((a:Int)+1) (b:Int))=false) 0 (Wk.list rfl (by simp[aNm]) (by simp[aNm])) (by simp) ?_;rintro i ⟨hi,hj⟩ K hN hR hE;simp[aNm,akM,akT];refine⟨fun hlt=>?_,fun hge=>?_⟩
    ·simp[akN,aii];refine dl (fun j:Nat=>azS s ws i j) (fun j=>5 - j) (fun j=>j<=5/\∀ b:Nat,b < j->anT s (azz ws ((i:Int)+1) (b:Int))=false) 0 (Wk.list rfl (by simp[azS]) (by simp[azS])) (by simp) ?_;rintro j ⟨hi2,hj2⟩ K2 hN2 hR2 hE2;simp[azS,akO,akS];refine⟨fun hlt2=>?_,fun hge2=>?_⟩
     ·obtain ⟨f,hf⟩:∃ f,azz ws ((i:Int)+1) (j:Int)=f:=⟨_,rfl⟩;have hib:anT s f=(cN f&&dS f==s):=rfl;have hfd:f=⟨(i:Int)+1,(j:Int),rv u,rv v⟩:=by rw[<- hf,hcd]
      have hno:anT s f=false->∀ b:Nat,b < j+1->anT s (azz ws ((i:Int)+1) (b:Int))=false:=fun h b hb=>by
       by_cases e:b=j
       ·subst e;rw[hf];exact h
       ·exact hj2 b (by omega)
      simp[akP,Ua];rw[aD (by omega)];simp only[e3,g1];simp
      repeat (refine⟨by omega,?_⟩)
      refine cF (aa.ag (ayQ u)) ?_;simp;rw[aD (by omega)];simp only[e1,g2];simp
      repeat (refine⟨by omega,?_⟩)
      refine cF (aa.ag (ayQ v)) ?_;simp;refine⟨a7 (by simp[Ua]) (by simp),?_⟩;simp[akQ];refine al (aa.arg (aJL f) (by simp[hfd])) ?_;cases hok:cN f with
      | false =>
        rw[hok,Bool.false_and] at hib;simp;rw[aD (by omega)];exact hN2 (j+1) _ (by omega) ⟨by omega,hno hib⟩ (Wk.list rfl (by simp[azS]) (by simp[azS]))
      | true =>
        simp;refine al (aa.arg (aDI f hok) (by simp[hfd])) ?_;by_cases ht:dS f=s
        ·have hfo:=aM0 (s:=s) (f:=f) (by rw[hib,hok,ht];simp);simp[ht,akR];refine hR2 _ (hR _ ?_);rw[hfo];simp[acY,hfd]
        ·have hib':anT s f=false:=by rw[hib,hok];simp[ht]
         simp[ht];rw[aD (by omega)];exact hN2 (j+1) _ (by omega) ⟨by omega,hno hib'⟩ (Wk.list rfl (by simp[azS]) (by simp[azS]))
     ·refine hE2 _ _ ?_;obtain rfl:j=5:=by omega
      simp;rw[aD (by omega)];refine hN (i+1) _ (by omega) ⟨by omega,fun a ha b hb=>?_⟩ (Wk.list rfl (by simp[aNm]) (by simp[aNm]));by_cases e:a=i
      ·subst e;exact hj2 b hb
      ·exact hj a (by omega) b hb
    ·refine hE _ _ ?_;obtain rfl:i=7:=by omega
     rw[hnone (.inr (.inr hj))];simp[akU,acY]
theorem aKD {L:List Slot} {p:List UInt8} {i:Nat} {s:Slot} (h:L[i]?=some s):(L.drop i).find? (fun s=>(dR s).isSuffixOf p)=if (dR s).isSuffixOf p then some s else (L.drop (i+1)).find? (fun s=>(dR s).isSuffixOf p):=atA (p:=fun s=>(dR s).isSuffixOf p) h
theorem aN1:∀ s ∈ eT,dF s=true:=by decide +kernel
theorem aJ3 (w p:List UInt8):w.isSuffixOf p=decide (w.length<=p.length/\p.drop (p.length - w.length)=w):=by
 rw[Bool.eq_iff_iff,List.isSuffixOf_iff_suffix,decide_eq_true_iff];constructor
 ·rintro ⟨t,rfl⟩;simp
 ·rintro ⟨_,h⟩;have e:=List.take_append_drop (p.length - w.length) p;rw[h] at e;exact⟨_,e⟩
theorem aFP (p:List UInt8) (hp:p.length<=1000000):di Ww [S p] (.tup [S (lE eT p).1,eX (lE eT p).2]):=by
 have h14:eT.length=14:=rfl;refine aa.of aGH (by simp) ?_;simp[azx,arh,ari,arj,an7];refine aZ (aa.ag aFO) ?_;simp[h14];refine dl (fun i:Nat=>⟨[(0,S p),(3,.ref 3 0 0),(4,.sl 8 0 14),(5,I i)],[(3,⟨2,[eX ⟨0,0⟩]⟩),(8,⟨2,eT.map eX⟩)],[]⟩) (fun i=>14 - i) (fun i=>i<=14/\eT.find? (fun s=>(dR s).isSuffixOf p)=(eT.drop i).find? (fun s=>(dR s).isSuffixOf p)) 0 Wk.li (by simp) ?_;rintro i ⟨hi,hj⟩ K hN hR hE;by_cases hlt:i < 14
 ·have hlt':(i:Int) < 14:=by omega
  obtain ⟨s,hs⟩:∃ s,eT[i]'(by omega)=s:=⟨_,rfl⟩;have hg:eT[i]?=some s:=by rw[<- hs];exact List.getElem?_eq_getElem (by omega)
  have hok:dF s=true:=aN1 s (by rw[<- hs];exact List.getElem_mem _);have hfd:=aKD (p:=p) hg;have hsl:=ug s;simp[ZW,aro,hlt'];simp[ark,hg];refine⟨by omega,?_⟩;refine al (aa.ag (axq s hok)) ?_;simp[arl,arm];rw[aD (by omega)];have hx:=aJ3 (dR s) p;by_cases hle:(dR s).length<=p.length
  ·have e1:((p.length:Int) - (dR s).length).toNat=p.length - (dR s).length:=by omega
   have hdl:(p.drop (p.length - (dR s).length)).length=(dR s).length:=by simp;omega
   have etk:(p.drop (p.length - (dR s).length)).take (p.length - (p.length - (dR s).length))=p.drop (p.length - (dR s).length):=List.take_of_length_le (by rw[hdl];omega);rw[e1,etk];by_cases ht:p.drop (p.length - (dR s).length)=dR s
   ·have hx1:(dR s).isSuffixOf p=true:=by rw[hx,decide_eq_true_iff];exact⟨hle,ht⟩
    rw[hx1,if_pos rfl,<- hj] at hfd;have hc:lE eT p=(p.take (p.length - (dR s).length),s):=by unfold lE;rw[hfd]
    simp[ht,arn,Zx,hg];refine⟨fun _=>⟨⟨by omega,by omega⟩,by omega,a7 (by simp[Zx]) (by simp),hR _ ?_⟩,fun h=>by omega⟩;rw[hc];simp
   ·have hx1:(dR s).isSuffixOf p=false:=by rw[hx,decide_eq_false_iff_not];exact fun h=>ht h.2
    rw[hx1,if_neg (by simp),<- hj] at hfd;simp[ht];refine⟨fun _=>⟨⟨by omega,by omega⟩,?_⟩,fun h=>by omega⟩;rw[aD (by omega)];exact hN (i+1) _ (by omega) ⟨by omega,hfd⟩ Wk.li
  ·have hx1:(dR s).isSuffixOf p=false:=by rw[hx,decide_eq_false_iff_not];exact fun h=>hle h.1
   rw[hx1,if_neg (by simp),<- hj] at hfd;refine⟨fun h=>by omega,fun _=>?_⟩;rw[aD (by omega)];exact hN (i+1) _ (by omega) ⟨by omega,hfd⟩ Wk.li
 ·obtain rfl:i=14:=by omega
  simp[ZW];refine hE _ _ ?_;have hc:lE eT p=(p,⟨5,0⟩):=by unfold lE;rw[hj];rfl
  rw[hc];simp[alK]
set_option maxRecDepth 100000
def awp:=[eF 1 16 0,ok 2 (vB false)]
def awq:=[aL 4 0 1,bu 5 15 4,cg 6 H2 5,oo 7 (.un .not (.t 6)),om 8 7,oF 8 9 (.faddr 0 (.t 1)),oF 8 10 (.ld true 15 (.t 9)),oF 8 11 (.faddr 0 (.t 1)),oF 8 12 (.ld true 15 (.t 11)),oF 8 13 (.call TY [.t 12]),oF 8 14 (.bin .neq (.struct [EK.int,EK.int,EK.int,EK.int,EK.int,EK.int,EK.int,EK.int,EK.int,EK.int,EK.int,EK.int,EK.int,EK.int,EK.int]) (.t 10) (.t 13)),oo 15 (.pick (.t 8) (xB true) (.t 14)),om 16 15,oF 16 17 (.faddr 15 (.t 1)),oF 16 18 (.ld false 1 (.t 17)),oF 16 19 (.len false (.t 18)),oF 16 20 (.faddr 0 (.t 1)),oF 16 21 (.ld true 15 (.t 20)),oF 16 22 (.call Wu [.t 21]),oF 16 23 (.bin .neq .none (.t 19) (.t 22)),oo 24 (.pick (.t 16) (xB true) (.t 23))]
def Ke:List (List Nat):=[[],[0],[0,1],[0,1,2],[0,1,2,3],[0,1,2,3,4],[0,1,2,3,4,5],[0,1,2,3,4],[0,1,2,3,4,7],[0,1,2,3,4,7,8],[0,1,2,3,4,5,6,7,8,9],[0,1,2,3,4,5,6,7,8,9,10],[0,1,2,3,4,5,6,7,8,9,10,11],[0,1,2,3,4,5,6,7,8,9,10,11,12],[0,1,2,3,4,5,6,7,8,9,10,11,12,13],[0,1,2,3,4,5,6,7,8,9,10,11,12,13,14],[0,1,2,3,4,5,6,7,8,9,10,11,12],[0,1,2,3,4,5,6,7,8,9,10,11,12,16],[0,1,2,3,4,5,6,7,8,9,10,11,12,16,17],[0,1,2,3,4,5,6,7,8,9,10,11,12,13,14,15,16,17,18],[0,1,2,3,4,5,6,7,8,9,10,11,12,13,14,15,16,17,18,19]]
def SX:=[ok 2 (vB false)]
def awr:=[ok 3 (vI 0)]
def aws:=[om 25 3,aL 26 15 1,bl 27 1 26,oo 28 (.len false (.t 27)),cI 29 .lss 25 28]
def awt:=[aL 32 15 1,bl 33 1 32,om 34 3,ft 35 2 33 34,bu 36 2 35,cg 37 asq 36,oo 38 (.un .not (.t 37)),om 39 38,oF 39 40 (.mv (.t 3)),oF 39 41 (.faddr 15 (.t 1)),oF 39 42 (.ld false 1 (.t 41)),oF 39 43 (.len false (.t 42)),oF 39 44 (.bin .sub .none (.t 43) (xI 1)),oF 39 45 (.bin .eql .none (.t 40) (.t 44)),oF 39 46 (.mv (.t 45)),oT 46 47 (.faddr 15 (.t 1)),oT 46 48 (.ld false 1 (.t 47)),oT 46 49 (.mv (.t 3)),oT 46 50 (.iaddr 2 (.t 48) (.t 49)),oT 46 51 (.faddr 0 (.t 50)),oT 46 52 (.ld false 1 (.t 51)),oT 46 53 (.bin .eql .none (.t 52) (xI 5)),oF 39 54 (.pick (.t 46) (.t 53) (xB false)),oo 55 (.pick (.t 39) (xB true) (.t 54))]
def adZ:=[ok 2 (vB false)]
def awu:=[om 30 3,fL 31 30 1,om 3 31]
def at1:C:=(ss (sr aws [1,3,29] (sc 29 .skip (.exit 0))) (ss (.block 1 (sr awt [1,3,55] (sc 55 (sr adZ [2] .ret) .skip))) (.reg awu [1,3])))
def awv:=[ok 2 (vB true)]
def aCj:C:=(sr awp [1] (ss (ss (.regD awq Ke [1,24]) (sc 24 (sr SX [2] .ret) .skip)) (ss (sr awr [1,3] (.block 0 (.loop at1))) (sr awv [2] .ret))))
def aKY:Nat->List Nat
 | 0=>[1]
 | 1=>[1,24]
 | 2=>[2]
 | 3=>[1,3]
 | 4=>[1,3,29]
 | 6=>[1,3,55]
 | 7=>[2]
 | 5=>[1,3]
 | 8=>[2]
 | _=>[]
theorem aID:cE TZ aCj [(.tmp 2)] 56 :=
 ⟨Tryz.f211,_,aKY,func211,rfl,by kernel_rfl,by kernel_rfl,by kernel_rfl,rfl⟩
def awJ:=[eF 1 16 0,ok 2 (vS [])]
def awK:=[aL 6 0 1,bu 7 15 6,dD 3 15 lm,bg 15 3 7]
def awL:=[aL 8 0 3,bu 9 4 8,cg 10 TX 9,om 4 10]
def awM:=[ok 5 (vI 0)]
def awN:=[aL 11 4 3,bl 12 1 11,cn 13 .gtr 12 0]
def awO:=[om 14 4,oo 15 (.bin .add .none (.t 14) (.k (vS [44,32]))),aL 16 4 3,bl 17 1 16,aL 18 5 3,bl 19 1 18,dK 20 EA 17 19,cI 21 .add 15 20,aL 22 15 1,bl 23 1 22,om 24 5,ft 25 2 23 24,bu 26 2 25,cg 27 MW 26,cI 28 .add 21 27,om 4 28]
def adD:List (List Nat):=[[],[0],[],[2],[],[4],[2,3,4,5],[0,1,2,3,4,5,6],[],[8],[],[8,9,10],[8,9,10,11],[2,3,4,5,6,8,9,10,11,12],[0,1,2,3,4,5,6,7,8,9,10,11,12,13],[0,1,2,3,4,5,6,7,8,9,10,11,12,13,14]]
def awP:=[om 29 5,fL 30 29 1,om 5 30]
def awQ:=[aL 31 7 3,bu 32 4 31,cg 33 iA 32,oo 34 (.un .not (.t 33))]
def awR:=[om 35 4,oo 36 (.bin .add .none (.t 35) (.k (vS [32,99,104,97,114,103,101,100,32,119,105,116,104,32]))),aL 37 7 3,bu 38 4 37,cg 39 MU 38,cI 40 .add 36 39,aL 41 15 1,bl 42 1 41,om 43 5,ft 44 2 42 43,bu 45 2 44,cg 46 MW 45,cI 47 .add 40 46,om 4 47]
def adE:List (List Nat):=[[],[0],[],[2],[2,3],[0,1,2,3,4],[],[6],[],[6,7,8],[6,7,8,9],[2,3,4,6,7,8,9,10],[0,1,2,3,4,5,6,7,8,9,10,11],[0,1,2,3,4,5,6,7,8,9,10,11,12]]
def awS:=[om 48 5,fL 49 48 1,om 5 49]
def arp:=[aL 50 11 3,bu 51 4 50,cg 52 iA 51,oo 53 (.un .not (.t 52))]
def arq:=[om 54 4,aL 55 4 3,bl 56 1 55,cg 57 ads 56,cI 58 .add 54 57,aL 59 11 3,bu 60 4 59,cg 61 MU 60,cI 62 .add 58 61,aL 63 15 1,bl 64 1 63,om 65 5,ft 66 2 64 65,bu 67 2 66,cg 68 MW 67,cI 69 .add 62 68,om 4 69]
def Zy:List (List Nat):=[[],[],[1],[1,2],[0,1,2,3],[],[5],[1,2,3,5,6],[0,1,2,3,4,5,6,7],[],[9],[],[9,10,11],[9,10,11,12],[1,2,3,5,6,7,9,10,11,12,13],[0,1,2,3,4,5,6,7,8,9,10,11,12,13,14],[0,1,2,3,4,5,6,7,8,9,10,11,12,13,14,15]]
def ZX:=[om 70 4,om 2 70]
def aCm:C:=(sr awJ [1] (sr awK [1,3] (sr awL [1,3,4] (sr awM [1,3,4,5] (ss (sr awN [1,3,4,5,13] (sc 13 (ss (.regD awO adD [1,3,4,5]) (.reg awP [1,3,4,5])) .skip)) (ss (ss (.wk (.reg awQ [1,3,4,5,34])) (sc 34 (ss (.regD awR adE [1,3,4,5]) (.reg awS [1,3,4,5])) .skip)) (ss (ss (.wk (.reg arp [1,3,4,5,53])) (sc 53 (.regD arq Zy [4]) .skip)) (sr ZX [2] .ret))))))))
theorem aIG:cE Ak aCm [(.tmp 2)] 71:=dE func120 rfl
def Xi:=[eF 1 16 0,ok 2 (vS [])]
def Xj:=[aL 7 0 1,bu 8 15 7,cg 9 Hz 8,dD 3 5 (.agg [vS [],vS [],vS [],vS [],(vB false)]),bg 5 3 9,ok 4 (vI 0)]
def Xk:=[aL 10 1 3,aL 11 2 3,aL 12 3 3,oo 13 (.bslice 1 (.v (.pointer none)) 3 [(0,(.t 10)),(1,(.t 11)),(2,(.t 12))]),oo 14 (.len false (.t 13)),ok 15 (vI 0)]
def vV:=[cI 16 .lss 15 14]
def DM:=[ft 17 1 13 15,bl 18 1 17,om 6 18]
def DN:=[om 19 6,aL 20 0 19,bl 21 1 20,oo 22 (.bin .neq .none (.t 21) (.k (vS [])))]
def DO:=[om 23 6,om 24 6,aL 25 0 24,bl 26 1 25,oo 27 (.call N5 [.t 26,(.k (vS [32,103,111,108,100]))]),aL 28 15 1,bl 29 1 28,om 30 4,ft 31 2 29 30,bu 32 2 31,cg 33 Nt 32,cI 34 .add 27 33,aL 35 0 23,bg 1 35 34]
def ox:List (List Nat):=[[],[],[1],[1,2],[1,2,3],[],[5],[],[5,6,7],[5,6,7,8],[1,2,3,4,5,6,7,8,9],[1,2,3,4,5,6,7,8,9,10],[0,1,2,3,4,5,6,7,8,9,10,11],[0,1,2,3,4,5,6,7,8,9,10,11,12]]
def DP:=[om 36 4,fL 37 36 1,om 4 37]
def DQ:=[fL 38 15 1,om 15 38]
def Wh:C:=(sr vV [1,3,4,13,14,15,16] (ss (sc 16 .skip (.exit 0)) (ss (.block 1 (sr DM [1,3,4,6,13,14,15] (sr DN [1,3,4,6,13,14,15,22] (sc 22 (ss (.regD DO ox [1,3,4,13,14,15]) (.reg DP [1,3,4,13,14,15])) .skip)))) (.reg DQ [1,3,4,13,14,15]))))
def UB:=[bu 39 5 3,cg 40 vO 39,om 2 40]
def aes:C:=(sr Xi [1] (sr Xj [1,3,4] (ss (sr Xk [1,3,4,13,14,15] (.block 0 (.loop Wh))) (sr UB [2] .ret))))
theorem axZ:cE vi aes [(.tmp 2)] 41:=dE func106 rfl
def abp:=[eF 1 16 0,ok 2 (vS []),ok 3 (vB false)]
def abq:=[bu 4 16 1,cg 5 DA 4,oo 6 (.un .not (.t 5))]
def abr:=[ok 2 (vS []),ok 3 (vB false)]
def abs:=[bu 7 16 1,cg 8 vi 7,om 2 8,ok 3 (vB true)]
def ahD:C:=(sr abp [1] (ss (sr abq [1,6] (sc 6 (sr abr [2,3] .ret) .skip)) (sr abs [2,3] .ret)))
theorem aAX:cE TU ahD [(.tmp 2),(.tmp 3)] 9:=dE func225 rfl
theorem ayZ (b:List UInt8):Lib.trimSuffix (b++o6) o6=b:=by
 unfold Lib.trimSuffix Lib.hasSuffix;rw[if_pos (List.isSuffixOf_iff_suffix.2 ⟨b,rfl⟩)];simp
def adF (k:Sk) (P Q:List UInt8) (c n:Nat):Prop :=
 (P=[]/\Q=[]/\n=0)\/∃ b s,P=b++o6/\Q=b++dR s/\k.slots[c]?=some s/\dF s=true/\n=1/\b.length<=100
theorem acu {k:Sk} (h:bM k=true) {c:Nat} (hc:c < nO k.arms+nN k.arms+nR k.arms):k.slots[c]?=some (k.slots.getD c fX)/\dF (k.slots.getD c fX)=true:=by
 obtain ⟨h1,h2,h3,h4,h5⟩:=uR h;have hl:c < k.slots.length:=by omega
 refine⟨?_,Ho h2 hl⟩;rw[List.getD_eq_getElem?_getD,List.getElem?_eq_getElem hl];rfl
theorem amT (g:Group):(jK g).length<=60:=by
 have:=nZ g;have e:mP g=jK g++32::eL g.tincture:=by simp[mP,jK]
 rw[e] at this;simp at this;omega
theorem aTK {k:Sk} (h:bM k=true):adF k (H5 k.arms) (Z1 k) 0 (nO k.arms):=by
 obtain ⟨h1,h2,h3,h4,h5⟩:=uR h;unfold adF H5 Z1 oP nO;by_cases h0:k.arms.ordinary=0
 ·left;simp[h0]
 ·right;simp only[ahZ,Bool.and_eq_true,Bool.or_eq_true,beq_iff_eq] at h4;have ht:k.arms.tincture=1:=h4.1.1.resolve_left h0;obtain ⟨s1,s2⟩:=acu h (c:=0) (by unfold nO;rw[if_neg h0];omega);refine⟨rI k.arms.ordinary k.arms.line,_,?_,?_,s1,s2,by simp[h0],by have:=GO k.arms.ordinary k.arms.line;omega⟩
  ·rw[if_neg h0,ht];rfl
  ·rw[if_neg h0]
theorem aP1 {k:Sk} (h:bM k=true) {g:Group} {c:Nat} (hc:g0 g=false->c < nO k.arms+nN k.arms+nR k.arms) (hg:(g0 g||g.tincture==1)=true):adF k (rU g) (gP g (k.slots.getD c fX)) c (if g0 g=true then 0 else 1):=by
 unfold adF rU gP;cases h0:g0 g with
 | true=>left;simp
 | false =>
   right;rw[h0] at hg;simp at hg;obtain ⟨s1,s2⟩:=acu h (hc h0);refine⟨jK g,_,?_,by simp,s1,s2,by simp,by have:=amT g;omega⟩;rw[if_neg (by simp)];have e:mP g=jK g++32::eL g.tincture:=by simp[mP,jK]
   rw[e,hg];rfl
def stT (k:Sk) (f x y z:List UInt8) (c i:Nat):AS:=⟨[(1,.ref 1 0 0),(3,.ref 3 0 0),(4,I c),(13,.sl 13 0 3),(14,I 3),(15,I i)],[(1,⟨16,[eSk k]⟩),(3,⟨5,[.agg [S f,S x,S y,S z,B (k.arms.ordinary==7)]]⟩),(13,⟨1,[.ref 3 0 1,.ref 3 0 2,.ref 3 0 3]⟩)],[]⟩
def stX (k:Sk) (i:Nat):AS :=
 match i with
 | 0=>stT k (dS k.arms.field) (H5 k.arms) (rU k.arms.on) (rU k.arms.around) 0 0
 | 1=>stT k (dS k.arms.field) (Z1 k) (rU k.arms.on) (rU k.arms.around) (nO k.arms) 1
 | 2=>stT k (dS k.arms.field) (Z1 k) (skN k) (rU k.arms.around) (nO k.arms+nN k.arms) 2
 | _=>stT k (dS k.arms.field) (Z1 k) (skN k) (VD k) (nO k.arms+nN k.arms+nR k.arms) 3
set_option maxHeartbeats 1000000 in
theorem GC (k:Sk) (h:bM k=true):di vi [eSk k] (S (bH k)):=by
 obtain ⟨q1,q2,q3,q4,q5⟩:=uR h;have q4':=q4;simp only[ahZ,Bool.and_eq_true] at q4';have h0:=aTK h;have h1:adF k (rU k.arms.on) (skN k) (nO k.arms) (nN k.arms):=aP1 h (fun e=>by unfold nN;rw[e];simp;omega) q4'.1.2;have h2:adF k (rU k.arms.around) (VD k) (nO k.arms+nN k.arms) (nR k.arms):=aP1 h (fun e=>by unfold nR;rw[e];simp) q4'.2;refine aa.of axZ (by simp) ?_;simp[aes,Xi,Xj];refine aZ (aa.ag (anR k.arms q1)) ?_;simp[Xk,Wh];refine dl (stX k) (fun i=>3 - i) (fun i=>i<=3) 0 (Wk.list rfl (by simp[stX,stT]) (by simp[stX,stT])) (by simp) ?_;intro i hi K hN hR hE;obtain rfl | rfl | rfl | rfl:i=0\/i=1\/i=2\/i=3:=by omega
 ·have hs:stX k 0=stT k (dS k.arms.field) (H5 k.arms) (rU k.arms.on) (rU k.arms.around) (0) 0:=rfl;rw[hs];simp[stT,vV,DQ];simp[DM,DN];rcases h0 with ⟨e1,e2,e3⟩ | ⟨b,s,e1,e2,e3,e4,e5,e6⟩
  ·rw[e1];simp;refine hN 1 _ (by decide) (by decide) (Wk.list rfl (by simp[stX,stT,e3];decide) (by simp[stX,stT,e1,e2]))
  ·have hgt:Lib.trimSuffix (b++o6) o6=b:=ayZ b;have hne:b++o6≠[]:=by simp[o6]
   have hsl:=ug s;obtain ⟨P,hP⟩:∃ P,b++o6=P:=⟨_,rfl⟩;have hPl:P.length<=1000:=by rw[<- hP];simp[o6];omega
   rw[hP] at hgt hne e1;rw[e1];simp[hne,DO,ox];refine iV (aa.arg (Ij P o6 (by omega)) (by simp[o6])) ?_ ?_ ?_
   ·simp
   ·simp
   rw[hgt];have hwl:=(List.getElem?_eq_some_iff.1 e3).1;have hq:nO k.arms+nN k.arms+nR k.arms<=3:=by rw[<- r8];exact uV _
   simp[e3];refine⟨by omega,?_⟩;refine cF (aa.ag (Wa s e4)) ?_;simp;refine⟨by omega,a7 (by simp[ox]) (by simp),?_⟩;simp[DP];rw[aD (by omega)];refine hN 1 _ (by decide) (by decide) (Wk.list rfl (by simp[stX,stT,e5]) (by simp[stX,stT,e1,e2]))
 ·have hs:stX k 1=stT k (dS k.arms.field) (Z1 k) (rU k.arms.on) (rU k.arms.around) (nO k.arms) 1:=rfl;obtain ⟨w,hw⟩:∃ w:Nat,nO k.arms=w:=⟨_,rfl⟩;rw[hw] at hs h1;rw[hs];simp[stT,vV,DQ];simp[DM,DN];rcases h1 with ⟨e1,e2,e3⟩ | ⟨b,s,e1,e2,e3,e4,e5,e6⟩
  ·rw[e1];simp;refine hN 2 _ (by decide) (by decide) (Wk.list rfl (by simp[stX,stT,e3,<- hw];decide) (by simp[stX,stT,e1,e2]))
  ·have hgt:Lib.trimSuffix (b++o6) o6=b:=ayZ b;have hne:b++o6≠[]:=by simp[o6]
   have hsl:=ug s;obtain ⟨P,hP⟩:∃ P,b++o6=P:=⟨_,rfl⟩;have hPl:P.length<=1000:=by rw[<- hP];simp[o6];omega
   rw[hP] at hgt hne e1;rw[e1];simp[hne,DO,ox];refine iV (aa.arg (Ij P o6 (by omega)) (by simp[o6])) ?_ ?_ ?_
   ·simp
   ·simp
   rw[hgt];have hwl:=(List.getElem?_eq_some_iff.1 e3).1;have hq:nO k.arms+nN k.arms+nR k.arms<=3:=by rw[<- r8];exact uV _
   simp[e3];refine⟨by omega,?_⟩;refine cF (aa.ag (Wa s e4)) ?_;simp;refine⟨by omega,a7 (by simp[ox]) (by simp),?_⟩;simp[DP];rw[aD (by omega),aD (by omega)];refine hN 2 _ (by decide) (by decide) (Wk.list rfl (by simp[stX,stT,e5,<- hw]) (by simp[stX,stT,e1,e2]))
 ·have hs:stX k 2=stT k (dS k.arms.field) (Z1 k) (skN k) (rU k.arms.around) (nO k.arms+nN k.arms) 2:=rfl;obtain ⟨w,hw⟩:∃ w:Nat,nO k.arms+nN k.arms=w:=⟨_,rfl⟩;rw[hw] at hs h2;rw[hs];simp[stT,vV,DQ];simp[DM,DN];rcases h2 with ⟨e1,e2,e3⟩ | ⟨b,s,e1,e2,e3,e4,e5,e6⟩
  ·rw[e1];simp;refine hN 3 _ (by decide) (by decide) (Wk.list rfl (by simp[stX,stT,e3,<- hw];decide) (by simp[stX,stT,e1,e2]))
  ·have hgt:Lib.trimSuffix (b++o6) o6=b:=ayZ b;have hne:b++o6≠[]:=by simp[o6]
   have hsl:=ug s;obtain ⟨P,hP⟩:∃ P,b++o6=P:=⟨_,rfl⟩;have hPl:P.length<=1000:=by rw[<- hP];simp[o6];omega
   rw[hP] at hgt hne e1;rw[e1];simp[hne,DO,ox];refine iV (aa.arg (Ij P o6 (by omega)) (by simp[o6])) ?_ ?_ ?_
   ·simp
   ·simp
   rw[hgt];have hwl:=(List.getElem?_eq_some_iff.1 e3).1;have hq:nO k.arms+nN k.arms+nR k.arms<=3:=by rw[<- r8];exact uV _
   simp[e3];refine⟨by omega,?_⟩;refine cF (aa.ag (Wa s e4)) ?_;simp;refine⟨by omega,a7 (by simp[ox]) (by simp),?_⟩;simp[DP];rw[aD (by omega),aD (by omega)];refine hN 3 _ (by decide) (by decide) (Wk.list rfl (by simp[stX,stT,e5,<- hw]) (by simp[stX,stT,e1,e2]))
 ·have hs:stX k 3=stT k (dS k.arms.field) (Z1 k) (skN k) (VD k) (nO k.arms+nN k.arms+nR k.arms) 3:=rfl;rw[hs];simp[stT,vV];refine hE _ _ ?_
  have hl:∀ {P Q:List UInt8} {c n:Nat},adF k P Q c n->Q.length<=1000:=fun hp=>by
   rcases hp with ⟨_,e,_⟩ | ⟨b,s,_,e,_,_,_,hb⟩
   ·rw[e];simp
   ·have:=ug s;rw[e,List.length_append];omega
  have hf:=Ad k.arms.field;simp[UB];refine al (aa.ag (Pw (dS k.arms.field) (Z1 k) (skN k) (VD k) (k.arms.ordinary==7) (by omega) (hl h0) (hl h1) (hl h2))) ?_;have e7:(k.arms.ordinary==7)=decide (k.arms.ordinary=7):=by rw[Bool.eq_iff_iff];simp
  rw[e7];simp[bH]
theorem atT (k:Sk):di TU [eSk k] (.tup [S (if bM k=true then bH k else []),B (bM k)]):=by
 refine aa.of aAX (by simp) ?_;simp[ahD,abp,abq];refine al (aa.ag (aeF k)) ?_;cases h:bM k with
 | false=>simp[abr]
 | true =>
   simp[abs];refine al (aa.ag (GC k h)) ?_;simp
theorem asU {b a:Arms} (e1:b.field.division=a.field.division) (e2:b.field.line=a.field.line) (e3:b.field.first=a.field.first) (e4:b.field.second=a.field.second) (e5:b.ordinary=a.ordinary) (e6:b.line=a.line) (e7:b.tincture=a.tincture)
  (e8:b.on.count=a.on.count) (e9:b.on.kind=a.on.kind) (e10:b.on.attitude=a.on.attitude) (e11:b.on.tincture=a.on.tincture) (e12:b.around.count=a.around.count) (e13:b.around.kind=a.around.kind) (e14:b.around.attitude=a.around.attitude) (e15:b.around.tincture=a.around.tincture):b=a:=by
 obtain ⟨⟨x1,x2,x3,x4⟩,x5,x6,x7,⟨x8,x9,x10,x11⟩,⟨x12,x13,x14,x15⟩⟩:=b;obtain ⟨⟨y1,y2,y3,y4⟩,y5,y6,y7,⟨y8,y9,y10,y11⟩,⟨y12,y13,y14,y15⟩⟩:=a
 simp_all
theorem Z7 {a:Arms} (h:arms a=true):0<=a.ordinary:=by
 have:=(mM h).1;omega
theorem aM8 (a:Arms):ahZ a=decide (a=gO a):=by
 have hb:gO a=Ir a [1,1,1]:=rfl;rw[Bool.eq_iff_iff,decide_eq_true_iff,hb];unfold ahZ Ir zM nO nN;obtain ⟨f,o,l,t,⟨c,k,d,u⟩,⟨c',k',d',u'⟩⟩:=a;by_cases c0:o=0<;>cases c1:g0 ⟨c,k,d,u⟩<;>cases c2:g0 ⟨c',k',d',u'⟩<;>simp[c0,and_assoc]
set_option maxHeartbeats 2000000 in
theorem aDL (k:Sk):di TZ [eSk k] (B (bM k)):=by
 have hS:bM k=(arms k.arms&&(k.slots.all dF&&(decide (k.slots.length=nO k.arms+nN k.arms+nR k.arms)&&(ahZ k.arms&&!(k.slots.length != 0&&(k.slots.getLastD fX).mode==5))))):=rfl;have hG:=aM8 k.arms;refine aa.of aID (by simp) ?_;simp[aCj,awp,awq,Ke];refine cF (aa.ag (amp k.arms)) ?_;cases ha:arms k.arms with
 | false =>
   rw[ha,Bool.false_and] at hS;simp;refine⟨a7 (by simp[Ke]) (by simp),?_⟩;simp[SX,hS]
 | true =>
   rw[ha,Bool.true_and] at hS;have ho:=Z7 ha;simp;refine gm (aa.ag (aDK k.arms ho)) ?_;by_cases hb:k.arms=gO k.arms
   ·rw[<- hb];have hg1:ahZ k.arms=true:=by rw[hG];simpa using hb
    rw[hg1,Bool.true_and] at hS;simp;refine cF (aa.ag (ayR k.arms ho)) ?_;simp;refine⟨a7 (by simp[Ke]) (by simp),fun h=>?_,fun h=>?_⟩
    ·have d1:decide (k.slots.length=nO k.arms+nN k.arms+nR k.arms)=false:=by simp;omega
     rw[d1] at hS;simp at hS;simp[SX,hS]
    ·have d1:decide (k.slots.length=nO k.arms+nN k.arms+nR k.arms)=true:=by simp;omega
     have hn3:nO k.arms+nN k.arms+nR k.arms<=3:=by rw[<- r8];exact uV _
     rw[d1,Bool.true_and] at hS;simp[awr,at1];refine dl (fun i:Nat=>⟨[(1,.ref 1 0 0),(3,I i)],[(1,⟨16,[eSk k]⟩)],[]⟩) (fun i=>k.slots.length - i) (fun i=>i<=k.slots.length/\(k.slots.take i).all dF=true/\(i=k.slots.length->(k.slots.length != 0&&(k.slots.getLastD fX).mode==5)=false)) 0 Wk.li ⟨by simp,by simp,fun h=>by rw[<- h];rfl⟩ ?_;rintro i ⟨hi,hj,hk⟩ K hN hR hE;simp[aws,awu];refine⟨fun hlt=>?_,fun hge=>?_⟩
     ·obtain ⟨s,hs⟩:∃ s,k.slots[i]=s:=⟨_,rfl⟩;have hg:k.slots[i]?=some s:=by rw[<- hs];exact List.getElem?_eq_getElem hlt
      simp[awt,hg];refine⟨by omega,?_⟩;refine al (aa.ag (aQk s)) ?_;cases hok:dF s with
      | false =>
        have hf:k.slots.all dF=false:=axI hlt (by rw[hs];exact hok);rw[hf,Bool.false_and] at hS;simp[adZ];refine hR _ ?_;simp[hS]
      | true =>
        simp;rw[aD (n:=(k.slots.length:Int) - 1) (by omega),aD (by omega)];have htk:(k.slots.take (i+1)).all dF=true:=by rw[Gk hlt,hj,hs,hok];rfl
        simp[hg];refine⟨fun e=>⟨by omega,?_⟩,fun e=>?_⟩
        ·have hne:k.slots≠[]:=fun h=>by rw[h] at hlt;simp at hlt
         have hl:=aDQ hne;have e2:i=k.slots.length - 1:=by omega
         rw[<- e2,hg] at hl;have hl2:k.slots.getLastD fX=s:=(Option.some.inj hl).symm;have hn0:(k.slots.length != 0)=true:=by simpa using hne
         by_cases m5:s.mode=5
         ·rw[hl2,m5,hn0] at hS;simp at hS;simp[m5,adZ];refine hR _ ?_;simp[hS]
         ·have m5':(s.mode==5)=false:=by simpa using m5
          simp[m5];rw[aD (by omega)];exact hN (i+1) _ (by omega) ⟨by omega,htk,fun _=>by rw[hl2,m5',Bool.and_false]⟩ Wk.li
        ·exact hN (i+1) _ (by omega) ⟨by omega,htk,fun h=>by omega⟩ Wk.li
     ·refine hE _ _ ?_;have e:i=k.slots.length:=by omega
      rw[e,List.take_of_length_le (Nat.le_refl _)] at hj;rw[hj,hk e] at hS;simp[awv,hS]
   ·have hg1:ahZ k.arms=false:=by rw[hG];simpa using hb
    rw[hg1] at hS;simp at hS;simp;refine⟨fun e1 e2 e3 e4 e5 e6 e7 e8 e9 e10 e11 e12 e13 e14 e15=>absurd (asU e1 e2 e3 e4 e5 e6 e7 e8 e9 e10 e11 e12 e13 e14 e15) hb,fun _=>⟨a7 (by simp[Ke]) (by simp),?_⟩⟩;simp[SX,hS]
def ltS (k:Sk) (t:List UInt8) (i:Nat):AS:=⟨[(1,.ref 1 0 0),(3,.ref 3 0 0),(4,S t),(5,I i)],[(1,⟨16,[eSk k]⟩),(3,⟨15,[dj k.arms]⟩)],[]⟩
theorem aRW {k:Sk} (h:bM k=true):(Z1 k).length<=200/\(skN k).length<=200/\(VD k).length<=200:=by
 have hp:∀ {g:Group} {s:Slot},(gP g s).length<=200:=fun {g s}=>by
  have h1:=amT g;have h2:=ug s;unfold gP;split
  ·simp
  ·simp;omega
 refine⟨?_,hp,hp⟩;unfold Z1 oP;have h1:=GO k.arms.ordinary k.arms.line;have h2:=ug (k.slots.getD 0 fX);split
 ·simp
 ·rw[List.length_append];omega
theorem aHj {k:Sk} (h:bM k=true):bH k=(fun T2=>if g0 k.arms.around=true then T2 else T2++(aeI k.arms.ordinary++VD k)) ((fun T1=>if g0 k.arms.on=true then T1 else T1++(chC++skN k)) (if k.arms.ordinary=0 then dS k.arms.field else dS k.arms.field++([44,32]++Z1 k))):=by
 obtain ⟨q1,q2,q3,q4,q5⟩:=uR h;obtain ⟨hord,hon,har⟩:=mM q1;have hT:bH k=lY (dS k.arms.field) (Z1 k) (skN k) (VD k) (decide (k.arms.ordinary=7)):=rfl;have eO:Z1 k=oP k.arms (k.slots.getD 0 fX):=rfl;have eN:skN k=gP k.arms.on (k.slots.getD (nO k.arms) fX):=rfl;have eR:VD k=gP k.arms.around (k.slots.getD (nO k.arms+nN k.arms) fX):=rfl
 have hN:skN k=[]↔g0 k.arms.on=true:=by
  rw[eN];cases c:g0 k.arms.on with
  | true=>unfold gP;simp[c]
  | false=>simpa using aMg c
 have hR:VD k=[]↔g0 k.arms.around=true:=by
  rw[eR];cases c:g0 k.arms.around with
  | true=>unfold gP;simp[c]
  | false=>simpa using aMg c
 have hO:Z1 k=[]↔k.arms.ordinary=0:=by
  rw[eO];unfold oP;split
  ·rename_i c;simp[c]
  ·rename_i c;have:=aG7 k.arms.ordinary k.arms.line;simp[c,this]
 rw[hT];unfold lY aeI;by_cases c0:k.arms.ordinary=0
 ·have c1:=hord.2.2.1 c0;cases c2:g0 k.arms.around with
  | true=>simp[c0,c1,hO.2 c0,hR.2 c2]
  | false =>
    have r0:VD k≠[]:=fun e=>by rw[hR,c2] at e;cases e
    simp[c0,c1,hO.2 c0,r0]
 ·have o0:Z1 k≠[]:=fun e=>c0 (hO.1 e);cases c1:g0 k.arms.on with
  | true =>
    cases c2:g0 k.arms.around with
    | true=>simp[c0,o0,hN.2 c1,hR.2 c2]
    | false =>
      have r0:VD k≠[]:=fun e=>by rw[hR,c2] at e;cases e
      by_cases c7:k.arms.ordinary=7<;>simp[c0,o0,hN.2 c1,r0,c7]
  | false =>
    have n0:skN k≠[]:=fun e=>by rw[hN,c1] at e;cases e
    cases c2:g0 k.arms.around with
    | true=>simp[c0,o0,n0,hR.2 c2]
    | false =>
      have r0:VD k≠[]:=fun e=>by rw[hR,c2] at e;cases e
      by_cases c7:k.arms.ordinary=7<;>simp[c0,o0,n0,r0,c7]
set_option maxHeartbeats 1000000 in
theorem Vm (k:Sk) (h:bM k=true):di Ak [eSk k] (S (bH k)):=by
 obtain ⟨q1,q2,q3,q4,q5⟩:=uR h;have hf:=gM q1;have ho:=Z7 q1;obtain ⟨hord,hon,har⟩:=mM q1;obtain ⟨b1,b2,b3⟩:=aRW h;have bf:=Ad k.arms.field;have hT:bH k=lY (dS k.arms.field) (Z1 k) (skN k) (VD k) (decide (k.arms.ordinary=7)):=rfl;have eO:Z1 k=oP k.arms (k.slots.getD 0 fX):=rfl;have eN:skN k=gP k.arms.on (k.slots.getD (nO k.arms) fX):=rfl;have eR:VD k=gP k.arms.around (k.slots.getD (nO k.arms+nN k.arms) fX):=rfl;have hq:nO k.arms+nN k.arms+nR k.arms<=3:=by rw[<- r8];exact uV _
 refine aa.of aIG (by simp) ?_;simp[aCm,awJ,awK,awL];refine al (aa.ag (aDI k.arms.field hf)) ?_;simp[awM,awN];obtain ⟨T1,hT1⟩:∃ T1,(if k.arms.ordinary=0 then dS k.arms.field else dS k.arms.field++([44,32]++Z1 k))=T1:=⟨_,rfl⟩
 have hl1:T1.length<=300:=by
  rw[<- hT1];split
  ·omega
  ·simp only[List.length_append,List.length_cons,List.length_nil];omega
 rcases Classical.em (k.arms.ordinary=0) with c0 | c0
 case' inl =>
  rw[if_pos c0] at hT1;have c0':¬0 < k.arms.ordinary:=by omega
  have n0:nO k.arms=0:=by unfold nO;rw[if_pos c0]
  simp[c0'];refine fun _=>?_;refine cp (ltS k T1 (nO k.arms)) (Wk.list rfl (by simp[ltS,hT1,n0]) (by simp[ltS])) ?_
 case' inr =>
  rw[if_neg c0] at hT1;have c0':0 < k.arms.ordinary:=by omega
  have n0:nO k.arms=1:=by unfold nO;rw[if_neg c0]
  obtain ⟨s1,s2⟩:=acu h (c:=0) (by omega);have eO':Z1 k=rI k.arms.ordinary k.arms.line++dR (k.slots.getD 0 fX):=by rw[eO];unfold oP;rw[if_neg c0]
  generalize k.slots.getD 0 fX=s at s1 s2 eO';have bo:=GO k.arms.ordinary k.arms.line;have bs:=ug s;simp[c0',awO,adD];refine⟨?_,fun h=>by omega⟩
  repeat (refine⟨by omega,?_⟩)
  refine cF (aa.ag (aea k.arms.ordinary k.arms.line (by omega) (hord.2.2.2 c0).1)) ?_;simp[s1]
  repeat (refine⟨by omega,?_⟩)
  refine cF (aa.ag (axq s s2)) ?_;simp
  repeat (refine⟨by omega,?_⟩)
  refine⟨a7 (by simp[adD]) (by simp),?_⟩;simp[awP];refine cp (ltS k T1 (nO k.arms)) (Wk.list rfl (by simp[ltS,<- hT1,n0,eO'];decide) (by simp[ltS])) ?_
 all_goals
  obtain ⟨T2,hT2⟩:∃ T2,(if g0 k.arms.on=true then T1 else T1++(chC++skN k))=T2:=⟨_,rfl⟩
  have hl2:T2.length<=600:=by
   rw[<- hT2];split
   ·omega
   ·simp only[List.length_append,chC,List.length_cons,List.length_nil];omega
  simp[ltS,awQ];refine al (aa.ag (iT k.arms.on)) ?_;rcases c1:g0 k.arms.on with _ | _
  case' true =>
   rw[c1,if_pos rfl] at hT2;have n1:nN k.arms=0:=by unfold nN;rw[c1];rfl
   simp;refine cp (ltS k T2 (nO k.arms+nN k.arms)) (Wk.list rfl (by simp[ltS,hT2,n1]) (by simp[ltS])) ?_
  case' false =>
   rw[c1,if_neg (by simp)] at hT2;have n1:nN k.arms=1:=by unfold nN;rw[c1];rfl
   obtain ⟨s1,s2⟩:=acu h (c:=nO k.arms) (by omega);have eN':skN k=jK k.arms.on++dR (k.slots.getD (nO k.arms) fX):=by rw[eN];unfold gP;rw[c1];rfl
   generalize k.slots.getD (nO k.arms) fX=s at s1 s2 eN';have bo:=amT k.arms.on;have bs:=ug s;have hwl:=(List.getElem?_eq_some_iff.1 s1).1;simp[awR,adE]
   repeat (refine⟨by omega,?_⟩)
   refine cF (aa.ag (axo k.arms.on (hon c1))) ?_;simp[s1]
   repeat (refine⟨by omega,?_⟩)
   refine cF (aa.ag (axq s s2)) ?_;simp
   repeat (refine⟨by omega,?_⟩)
   refine⟨a7 (by simp[adE]) (by simp),?_⟩;simp[awS];rw[aD (by omega)];refine cp (ltS k T2 (nO k.arms+nN k.arms)) (Wk.list rfl (by simp[ltS,<- hT2,n1,eN']) (by simp[ltS])) ?_
  all_goals
   simp[ltS,arp];refine al (aa.ag (iT k.arms.around)) ?_
   have hres:bH k=if g0 k.arms.around=true then T2 else T2++(aeI k.arms.ordinary++VD k):=by
    rw[aHj h];simp only[c0,c1,if_true,if_false,Bool.false_eq_true];rw[hT1,hT2]
   rw[hres];rcases c2:g0 k.arms.around with _ | _
   case' true =>
    simp[ZX]
   case' false =>
    have n2:nR k.arms=1:=by unfold nR;rw[c2];rfl
    obtain ⟨s1,s2⟩:=acu h (c:=nO k.arms+nN k.arms) (by omega);have eR':VD k=jK k.arms.around++dR (k.slots.getD (nO k.arms+nN k.arms) fX):=by rw[eR];unfold gP;rw[c2];rfl
    generalize k.slots.getD (nO k.arms+nN k.arms) fX=s at s1 s2 eR';obtain ⟨w,hw⟩:∃ w:Nat,nO k.arms+nN k.arms=w:=⟨_,rfl⟩;have hw':(nO k.arms:Int)+nN k.arms=w:=by omega
    rw[hw] at s1;have bo:=amT k.arms.around;have bj:=aat k.arms.ordinary;have bs:=ug s;have hwl:=(List.getElem?_eq_some_iff.1 s1).1;simp[arq,Zy,hw']
    repeat (refine⟨by omega,?_⟩)
    refine cF (aa.ag (aJN k.arms.ordinary)) ?_;simp
    repeat (refine⟨by omega,?_⟩)
    refine cF (aa.ag (axo k.arms.around (har c2))) ?_;simp[s1]
    repeat (refine⟨by omega,?_⟩)
    refine cF (aa.ag (axq s s2)) ?_;simp
    repeat (refine⟨by omega,?_⟩)
    refine⟨a7 (by simp[Zy]) (by simp),?_⟩;simp[ZX,eR']
def aoE:=[ok 2 (vS []),dD 3 2 (.agg [vI 0,vI 0])]
def aoF:=[oo 8 (.call Sx []),oo 9 (.len false (.t 8)),ok 10 (vI 0)]
def ZC:=[cI 11 .lss 10 9]
def aoG:=[ft 12 2 8 10,bu 13 2 12,dD 5 2 (.agg [vI 0,vI 0]),bg 2 5 13]
def aoH:=[om 15 0,bu 16 2 5,cg 17 Nt 16,dK 18 Qq 15 17,om 14 18,cJ 19 14 0,cJ 20 14 1,om 6 19,om 7 20]
def aoI:=[om 21 7]
def aoJ:=[om 22 6,oo 23 (.bin .add .none (.t 22) (.k (vS [32,103,111,108,100]))),bu 24 2 5,om 2 23,bg 2 3 24]
def Zr:List (List Nat):=[[],[0],[],[0,1],[0,1,2,3]]
def aoK:=[fL 25 10 1,om 10 25]
def anV:C:=(sr ZC [0,3,8,9,10,11] (ss (sc 11 .skip (.exit 0)) (ss (.block 1 (sr aoG [0,3,5,8,9,10] (sr aoH [0,3,5,6,7,8,9,10] (sr aoI [0,3,5,6,8,9,10,21] (sc 21 (ss (.regD aoJ Zr [2,3]) .ret) .skip))))) (.reg aoK [0,3,8,9,10]))))
def aoL:=[om 26 0,oo 27 (.bin .add .none (.t 26) (.k (vS [32,103,111,108,100]))),oo 28 (.build (.agg [vI 0,vI 0]) [(0,(1,(xI 5))),(1,(1,(xI 0)))]),om 2 27,bg 2 3 28]
def ay9:C:=(sr aoE [0,3] (ss (sr aoF [0,3,8,9,10] (.block 0 (.loop anV))) (sr aoL [2,3] .ret)))
theorem aGi:cE aip ay9 [(.tmp 2),(.cell 3 true 2)] 29:=dE func223 rfl
def W4:=[dD 2 16 pG,ok 3 (vB false)]
def W5:=[om 12 0,cg 13 am5 12,oo 14 (.build pG []),dD 4 5 (.agg [vS [],vS [],vS [],vS [],(vB false)]),dD 5 16 pG,bg 5 4 13,bg 16 5 14]
def W6:=[aL 15 1 4,aL 16 2 4,aL 17 3 4,oo 18 (.bslice 1 (.v (.pointer none)) 3 [(0,(.t 15)),(1,(.t 16)),(2,(.t 17))]),oo 19 (.len false (.t 18)),ok 20 (vI 0)]
def vU:=[cI 21 .lss 20 19]
def DH:=[ft 22 1 18 20,bl 23 1 22,om 7 23]
def DI:=[om 24 7,aL 25 0 24,bl 26 1 25,oo 27 (.bin .neq .none (.t 26) (.k (vS [])))]
def DJ:=[om 29 7,aL 30 0 29,bl 31 1 30,cg 32 aip 31,om 28 32,cJ 33 28 0,cJ 34 28 1,dD 9 2 (.agg [vI 0,vI 0]),om 8 33,bg 2 9 34]
def oy:=[om 35 7,om 36 8,aL 37 15 5,bl 38 1 37,bu 39 2 9,oo 40 (.bslice 2 (.agg [vI 0,vI 0]) 1 [(0,(.t 39))]),oo 41 (.app 2 16 (.t 38) (.t 40)),aL 42 0 35,bg 1 42 36,aL 43 15 5,bg 1 43 41]
def DK:=[fL 44 20 1,om 20 44]
def Wg:C:=(sr vU [0,2,4,5,18,19,20,21] (ss (sc 21 .skip (.exit 0)) (ss (.block 1 (sr DH [0,2,4,5,7,18,19,20] (sr DI [0,2,4,5,7,18,19,20,27] (sc 27 (sr DJ [0,2,4,5,7,8,9,18,19,20] (.reg oy [0,2,4,5,18,19,20])) .skip)))) (.reg DK [0,2,4,5,18,19,20]))))
def UA:=[bu 46 5 4,cg 47 vO 46,cg 48 Zj 47,om 45 48,cJ 49 45 0,cJ 50 45 1,aL 51 0 5,bg 15 51 49]
def Ia:=[bu 53 16 5,cg 54 TU 53,om 52 54,cJ 55 52 0,cJ 56 52 1,om 10 55,om 11 56]
def Ib:=[om 57 11,oo 58 (.un .not (.t 57)),om 59 58,oF 59 60 (.mv (.t 10)),oF 59 61 (.mv (.t 0)),oF 59 62 (.bin .neq .none (.t 60) (.t 61)),oo 63 (.pick (.t 59) (xB true) (.t 62))]
def uE:=[oo 64 (.build pG []),bg 16 2 64,ok 3 (vB false)]
def Ic:=[bu 65 16 5,bg 16 2 65,ok 3 (vB true)]
def aep:C:=(sr W4 [0,2] (sr W5 [0,2,4,5] (ss (sr W6 [0,2,4,5,18,19,20] (.block 0 (.loop Wg))) (sr UA [0,2,5] (ss (sr Ia [0,2,5,10,11] (sr Ib [2,5,63] (sc 63 (sr uE [2,3] .ret) .skip))) (sr Ic [2,3] .ret))))))
theorem axW:cE PA aep [(.cell 2 true 16),(.tmp 3)] 66:=dE func156 rfl
def QG:=[ok 2 (vI 0),ok 3 (vI 0),ok 4 (vI 0),ok 5 (vB false)]
def QH:=[om 13 0,oo 14 (.call rH [.t 13,(.k (vS [32]))]),om 6 14]
def QI:=[om 15 6,oo 16 (.len false (.t 15)),cn 17 .lss 16 3,om 18 17,oF 18 19 (.mv (.t 6)),oF 18 20 (.len false (.t 19)),oF 18 21 (.bin .gtr .none (.t 20) (xI 4)),oo 22 (.pick (.t 18) (xB true) (.t 21))]
def Gd:=[ok 2 (vI 0),ok 3 (vI 0),ok 4 (vI 0),ok 5 (vB false)]
def QJ:=[oo 23 (.call vM []),om 24 6,oo 25 (.iaddr 1 (.t 24) (xI 1)),bl 26 1 25,dK 27 fU 23 26,fL 28 27 1,om 7 28,ok 8 (vI 0)]
def FZ:List (List Nat):=[[],[],[1],[1,2],[0,1,2,3],[0,1,2,3,4],[0,1,2,3,4,5],[0,1,2,3,4,5,6]]
def QK:=[om 29 6,oo 30 (.len false (.t 29)),cn 31 .eql 30 4]
def QL:=[oo 32 (.call GL []),om 33 6,oo 34 (.iaddr 1 (.t 33) (xI 2)),bl 35 1 34,dK 36 fU 32 35,fL 37 36 1,om 8 37]
def F5:List (List Nat):=[[],[],[1],[1,2],[0,1,2,3],[0,1,2,3,4],[0,1,2,3,4,5]]
def QM:=[om 39 6,om 40 6,oo 41 (.len false (.t 40)),cn 42 .sub 41 1,ft 43 1 39 42,bl 44 1 43,cg 45 rm 44,om 38 45,cJ 46 38 0,cJ 47 38 1,om 9 46,om 10 47]
def QN:=[om 49 7,om 50 8,om 51 9,oo 52 (.call MT [.t 49,.t 50,.t 51]),om 48 52,cJ 53 48 0,cJ 54 48 1,om 11 53,om 12 54]
def QO:=[om 55 12,oo 56 (.un .not (.t 55)),om 57 56,oF 57 58 (.mv (.t 11)),oF 57 59 (.mv (.t 0)),oF 57 60 (.bin .neq .none (.t 58) (.t 59)),oo 61 (.pick (.t 57) (xB true) (.t 60))]
def EQ:=[ok 2 (vI 0),ok 3 (vI 0),ok 4 (vI 0),ok 5 (vB false)]
def OE:=[om 62 7,om 63 8,om 64 9,om 2 62,om 3 63,om 4 64,ok 5 (vB true)]
def VN:C:=(sr QG [0] (sr QH [0,6] (ss (sr QI [0,6,22] (sc 22 (sr Gd [2,3,4,5] .ret) .skip)) (ss (.regD QJ FZ [0,6,7,8]) (ss (sr QK [0,6,7,8,31] (sc 31 (.regD QL F5 [0,6,7,8]) .skip)) (ss (.wk (.reg QM [0,7,8,9])) (ss (sr QN [0,7,8,9,11,12] (sr QO [7,8,9,61] (sc 61 (sr EQ [2,3,4,5] .ret) .skip))) (sr OE [2,3,4,5] .ret))))))))
theorem arM:cE JU VN [(.tmp 2),(.tmp 3),(.tmp 4),(.tmp 5)] 65:=dE func286 rfl
def u9:=[ok 4 (vB false)]
def va:=[om 5 0,om 6 1,dK 7 fU 5 6,cn 8 .geq 7 0,om 4 8]
def xO:C:=(sr u9 [0,1] (sr va [4] .ret))
theorem Jp:cE pv xO [(.tmp 4)] 9:=dE func282 rfl
def az1:=[dD 2 5 (.agg [vS [],vS [],vS [],vS [],(vB false)])]
def az2:=[om 12 0,oo 13 (.call gL [.t 12,(.k (vS [44,32]))]),om 11 13,cJ 14 11 0,cJ 15 11 1,cJ 16 11 2,om 3 14,om 4 15,om 5 16]
def az3:=[om 17 3,oo 18 (.build (.agg [vS [],vS [],vS [],vS [],(vB false)]) [(0,(1,(.t 17)))]),dD 6 5 (.agg [vS [],vS [],vS [],vS [],(vB false)]),bg 5 6 18]
def az4:=[om 19 4,oo 20 (.call rH [.t 19,(.k (vS [32]))]),om 7 20]
def az5:=[om 21 7,oo 22 (.len false (.t 21)),cn 23 .lss 22 2,om 24 23,oF 24 25 (.call vM []),oF 24 26 (.mv (.t 7)),oF 24 27 (.iaddr 1 (.t 26) (xI 1)),oF 24 28 (.ld false 1 (.t 27)),oF 24 29 (.call pv [.t 25,.t 28]),oF 24 30 (.un .not (.t 29)),oo 31 (.pick (.t 24) (xB true) (.t 30))]
def Oa:List (List Nat):=[[],[0],[0,1],[0,1,2],[0,1,2,3],[0,1,2,3],[0,1,2,3,5],[0,1,2,3,5,6],[0,1,2,3,4,5,6,7],[0,1,2,3,4,5,6,7,8],[0,1,2,3,4,5,6,7,8,9]]
def ajt:=[om 32 4,aL 33 3 6,bg 1 33 32]
def aju:=[bu 34 5 6,bg 5 2 34]
def az6:=[om 35 7,oo 36 (.iaddr 1 (.t 35) (xI 1)),bl 37 1 36,oo 38 (.bin .eql .none (.t 37) (.k (vS [99,104,105,101,102]))),aL 39 4 6,bg 1 39 38]
def az7:=[om 41 4,oo 42 (.call gL [.t 41,(.k (vS [32,97,98,111,118,101,32]))]),om 40 42,cJ 43 40 0,cJ 44 40 1,cJ 45 40 2,om 8 43,om 9 44,om 10 45]
def az8:=[om 46 10,oo 47 (.un .not (.t 46))]
def auX:=[om 49 4,oo 50 (.call gL [.t 49,(.k (vS [32,98,101,116,119,101,101,110,32]))]),om 48 50,cJ 51 48 0,cJ 52 48 1,cJ 53 48 2,om 8 51,om 9 52]
def auY:=[om 55 8,oo 56 (.call gL [.t 55,(.k (vS [32,99,104,97,114,103,101,100,32,119,105,116,104,32]))]),om 54 56,cJ 57 54 0,cJ 58 54 1,cJ 59 54 2,aL 60 1 6,bg 1 60 57,aL 61 2 6,bg 1 61 58]
def auZ:=[om 62 9,aL 63 3 6,bg 1 63 62]
def au0:=[bu 64 5 6,bg 5 2 64]
def aE3:C:=(sr az1 [0,2] (sr az2 [2,3,4] (sr az3 [2,4,6] (sr az4 [2,4,6,7] (ss (ss (.regD az5 Oa [2,4,6,7,31]) (sc 31 (sr ajt [2,6] (sr aju [2] .ret)) .skip)) (sr az6 [2,4,6] (sr az7 [2,4,6,8,9,10] (ss (sr az8 [2,4,6,8,9,47] (sc 47 (.reg auX [2,6,8,9]) .skip)) (ss (.wk (.reg auY [2,6,9])) (sr auZ [2,6] (sr au0 [2] .ret)))))))))))
theorem aKF:cE am5 aE3 [(.cell 2 true 5)] 65:=dE func222 rfl
def aiF:=[eF 1 15 0,ok 2 (vS []),ok 3 (vB false)]
def aiG:=[bu 4 15 1,cg 5 rD 4,oo 6 (.un .not (.t 5))]
def aiH:=[ok 2 (vS []),ok 3 (vB false)]
def aiI:=[bu 7 15 1,cg 8 C5 7,om 2 8,ok 3 (vB true)]
def as0:C:=(sr aiF [1] (ss (sr aiG [1,6] (sc 6 (sr aiH [2,3] .ret) .skip)) (sr aiI [2,3] .ret)))
theorem aEg:cE ac8 as0 [(.tmp 2),(.tmp 3)] 9:=dE func288 rfl
def afi:=[dD 2 15 lm,ok 3 (vB false)]
def afj:=[om 8 0,cg 9 am5 8,oo 10 (.build lm []),dD 4 5 (.agg [vS [],vS [],vS [],vS [],(vB false)]),dD 5 15 lm,bg 5 4 9,bg 15 5 10]
def afk:=[aL 12 0 4,bl 13 1 12,cg 14 TS 13,om 11 14,cJ 15 11 0,cJ 16 11 1,aL 17 0 5,bg 4 17 15]
def afl:=[aL 19 1 4,bl 20 1 19,cg 21 JU 20,om 18 21,cJ 22 18 0,cJ 23 18 1,cJ 24 18 2,cJ 25 18 3,aL 26 4 5,bg 1 26 22,aL 27 5 5,bg 1 27 23,aL 28 6 5,bg 1 28 24]
def afm:=[aL 30 2 4,bl 31 1 30,cg 32 JT 31,om 29 32,cJ 33 29 0,cJ 34 29 1,aL 35 7 5,bg 4 35 33]
def afn:=[aL 37 3 4,bl 38 1 37,cg 39 JT 38,om 36 39,cJ 40 36 0,cJ 41 36 1,aL 42 11 5,bg 4 42 40]
def afo:=[bu 44 15 5,cg 45 ac8 44,om 43 45,cJ 46 43 0,cJ 47 43 1,om 6 46,om 7 47]
def afp:=[om 48 7,oo 49 (.un .not (.t 48)),om 50 49,oF 50 51 (.mv (.t 6)),oF 50 52 (.mv (.t 0)),oF 50 53 (.bin .neq .none (.t 51) (.t 52)),oo 54 (.pick (.t 50) (xB true) (.t 53))]
def PQ:=[oo 55 (.build lm []),bg 15 2 55,ok 3 (vB false)]
def afq:=[bu 56 15 5,bg 15 2 56,ok 3 (vB true)]
def anF:C:=(sr afi [0,2] (sr afj [0,2,4,5] (sr afk [0,2,4,5] (sr afl [0,2,4,5] (sr afm [0,2,4,5] (sr afn [0,2,5] (ss (sr afo [0,2,5,6,7] (sr afp [2,5,54] (sc 54 (sr PQ [2,3] .ret) .skip))) (sr afq [2,3] .ret))))))))
theorem aCE:cE Zj anF [(.cell 2 true 15),(.tmp 3)] 57:=dE func224 rfl
def aPV (s:List UInt8):Bool:=decide (((parts 32 s).length=3\/(parts 32 s).length=4)/\aue (aiz (parts 32 s))=true/\aNF (aiz (parts 32 s))=s)
theorem aTI (s:List UInt8):auf s=if aPV s=true then aiz (parts 32 s) else (0,0,0):=by unfold auf aPV;simp
def aLh (s:List UInt8) (n:Nat) (ws:List (List UInt8)) (o l:Int):AS:=⟨[(0,S s),(6,.sl 14 0 n),(7,I o),(8,I l)],[(14,⟨1,ws.map S⟩)],[]⟩
theorem aA7 (s:List UInt8) (hs:s.length<=1000000):di JU [S s] (.tup [I (auf s).1,I (auf s).2.1,I (auf s).2.2,B (aPV s)]):=by
 have hc0:=IC 32 s;have hc1:=ahO 32 s;refine aa.of arM (by simp) ?_;simp[VN,QG,QH];refine aZ (aa.ag (Hq s 32 (by omega))) ?_;rw[aTI];have hB:aPV s=decide (((parts 32 s).length=3\/(parts 32 s).length=4)/\aue (aiz (parts 32 s))=true/\aNF (aiz (parts 32 s))=s):=rfl;generalize hw:parts 32 s=ws at hB hc0 ⊢;simp[QI];by_cases h34:ws.length=3\/ws.length=4
 case neg =>
  have hf:aPV s=false:=by rw[hB];simp[h34]
  rw[hf];by_cases h3:(ws.length:Int) < 3
  ·simp[h3,Gd];omega
  ·simp[h3,show (4:Int) < ws.length by omega,Gd];omega
 case pos =>
  have h1:=anQ (ws:=ws) (i:=1) (by omega);have h2:=anQ (ws:=ws) (i:=2) (by omega);have h3:=anQ (ws:=ws) (i:=ws.length - 1) (by omega);obtain ⟨v,hv⟩:∃ v,ws.getD 1 []=v:=⟨_,rfl⟩;obtain ⟨x,hx⟩:∃ x,ws.getD 2 []=x:=⟨_,rfl⟩;obtain ⟨y,hy⟩:∃ y,ws.getD (ws.length - 1) []=y:=⟨_,rfl⟩;rw[hv] at h1;rw[hx] at h2;rw[hy] at h3;have hC:aiz ws=(xo EH v,if ws.length=4 then xo sK x else 0,rv y):=by unfold aiz;rw[hv,hx,hy]
  have n3:¬(ws.length:Int) < 3:=by omega
  have n4:¬(4:Int) < ws.length:=by omega
  have b1:=amM EH v;have b2:=amM sK x;have l1:EH.length=7:=rfl;have l2:sK.length=4:=rfl;simp[n3,n4,QJ,FZ];refine fun _ _=>?_;refine gm (aa.ag Pv) ?_;simp[h1];refine⟨by omega,?_⟩;refine cF (aa.ag (ll EH v)) ?_;simp;rw[aD (by omega)];refine⟨a7 (by simp[FZ]) (by simp),?_⟩;simp[QK];rcases Classical.em (ws.length=4) with h4 | h4
  case' inl =>
   rw[if_pos h4] at hC;simp[h4,QL,F5];refine gm (aa.ag ah6) ?_;simp[h2];refine cF (aa.ag (ll sK x)) ?_;simp;rw[aD (by omega)];refine⟨a7 (by simp[F5]) (by simp),?_⟩;refine cp (aLh s ws.length ws (xo EH v) (xo sK x)) (Wk.list rfl (by simp[aLh,h4]) (by simp[aLh])) ?_
  case' inr =>
   rw[if_neg h4] at hC;have h4':¬(ws.length:Int)=4:=by omega
   simp[h4'];refine cp (aLh s ws.length ws (xo EH v) 0) (Wk.list rfl (by simp[aLh]) (by simp[aLh])) ?_
  all_goals
   simp[aLh,QM];rw[aD (by omega)];have e1:((ws.length:Int) - 1).toNat=ws.length - 1:=by omega
   simp[e1,h3];refine⟨by omega,?_⟩;refine aZ (aa.ag (Hy y)) ?_;simp[QN];refine bB (aa.arg (aCU (aiz ws).1 (aiz ws).2.1 (aiz ws).2.2) (by simp[hC])) rfl (.inl (by simp)) (by simp) ?_;simp[QO];rw[hB];cases hok:aue (aiz ws) with
   | false=>simp[EQ]
   | true =>
     by_cases ht:aNF (aiz ws)=s
     ·simp[OE,ht,h34];simp[hC]
     ·simp[EQ,ht]
theorem aEe (l:List (List UInt8)) (x:List UInt8):l.contains x=decide (0<=xo l x - 1):=by
 rw[<- ay2,amZ];rw[Bool.eq_iff_iff,List.contains_iff_mem,List.any_eq_true];exact⟨fun h=>⟨x,h,by simp⟩,fun ⟨y,hy,e⟩=>by rw[beq_iff_eq] at e;rw[<- e];exact hy⟩
theorem ahk (l:List (List UInt8)) (x:List UInt8):di pv [.ro 1 (l.map S),S x] (B (l.contains x)):=by
 refine aa.of Jp (by simp) ?_;simp[xO,u9,va];refine al (aa.ag (ll l x)) ?_;rw[aEe];simp
def Y5 (t:Taken):V:=.agg [S t.field,S t.ord,S t.on,S t.around,B t.chief]
def aLM (a b c d:List UInt8) (e:Bool) (r o:List UInt8):AS:=⟨[(2,.ref 2 0 0),(6,.ref 6 0 0),(8,S o),(9,S r)],[(2,⟨5,[.agg [S [],S [],S [],S [],B false]]⟩),(6,⟨5,[.agg [S a,S b,S c,S d,B e]]⟩)],[]⟩
theorem aMh (s:List UInt8) (hs:s.length<=1000000):di am5 [S s] (Y5 (bI s)):=by
 have b0:=qi [44,32] s;refine aa.of aKF (by simp) ?_;simp[aE3,az1,az2];refine aZ (aa.ag (AO s [44,32] hs)) ?_
 have hT:bI s=if vF (jB [44,32] s) then ⟨me [44,32] s,(aeD (Dx (jB [44,32] s)).1).1,(aeD (Dx (jB [44,32] s)).1).2,(Dx (jB [44,32] s)).2,decide (second (jB [44,32] s)=some Y0)⟩
  else ⟨me [44,32] s,[],[],jB [44,32] s,false⟩:=rfl
 rw[hT];generalize me [44,32] s=f;generalize jB [44,32] s=r at b0;have hc0:=IC 32 r;have hc1:=ahO 32 r;have hI:vF r=match (parts 32 r)[1]? with | some w=>EH.contains w | none=>false:=rfl
 have hS:second r=(parts 32 r)[1]?:=rfl;simp[az3,az4];refine aZ (aa.ag (Hq r 32 (by omega))) ?_;generalize parts 32 r=ws at hc0 hI hS ⊢;simp[az5,Oa];by_cases h2:ws.length < 2
 ·have h1:ws[1]?=none:=List.getElem?_eq_none (by omega);rw[h1] at hI;have h2':(ws.length:Int) < 2:=by omega
  simp[h2'];refine⟨fun h=>by omega,a7 (by simp[Oa]) (by simp),?_⟩;simp[ajt,aju,Y5,hI]
 ·have h1:=anQ (ws:=ws) (i:=1) (by omega);rw[h1] at hI hS;have h2':¬(ws.length:Int) < 2:=by omega
  simp[h2'];refine fun _=>?_;refine gm (aa.ag Pv) ?_;generalize ws.getD 1 []=w at hI hS h1;simp[h1];refine⟨by omega,?_⟩;refine cF (aa.ag (ahk EH w)) ?_;simp;have hI':vF r=EH.contains w:=hI;rw[hI'];by_cases hm:w ∈ EH
  case neg =>
   have hc:EH.contains w=false:=by rw[<- Bool.not_eq_true,List.contains_iff_mem];exact hm
   rw[hc];simp[hm];refine⟨a7 (by simp[Oa]) (by simp),?_⟩;simp[ajt,aju,Y5]
  case pos =>
   have hc:EH.contains w=true:=List.contains_iff_mem.2 hm;rw[hc];simp[hm];refine⟨a7 (by simp[Oa]) (by simp),?_⟩;simp[az6,h1];refine⟨by omega,?_⟩;simp[az7];obtain ⟨ab,hab⟩:∃ x,32::(qa++[32])=x:=⟨_,rfl⟩;obtain ⟨bt,hbt⟩:∃ x,32::(kq++[32])=x:=⟨_,rfl⟩;have hA:Dx r=if (Z8 (32::(qa++[32])) r).isSome then (me (32::(qa++[32])) r,jB (32::(qa++[32])) r) else (me (32::(kq++[32])) r,jB (32::(kq++[32])) r):=rfl
   rw[hab,hbt] at hA;have ba:=ye ab r;have bb:=ye bt r;refine bB (aa.arg (AO r ab (by omega)) (by simp[<- hab])) rfl (.inl (by simp)) (by simp) ?_;generalize (Z8 ab r).isSome=q at hA ⊢;simp[az8];rcases q with _ | _
   case' true =>
    rw[if_pos rfl] at hA;simp;refine cp (aLM f [] [] [] (w==Y0) (Dx r).2 (Dx r).1) (Wk.list rfl (by simp[aLM,hA]) (by simp[aLM])) ?_
   case' false =>
    rw[if_neg (by simp)] at hA;simp[auX];refine bB (aa.arg (AO r bt (by omega)) (by simp[<- hbt])) rfl (.inl (by simp)) (by simp) ?_;simp;refine cp (aLM f [] [] [] (w==Y0) (Dx r).2 (Dx r).1) (Wk.list rfl (by simp[aLM,hA]) (by simp[aLM])) ?_
   all_goals
    have hb:(Dx r).1.length<=1000000:=by rw[hA];dsimp only;omega
    simp[aLM,auY];refine aZ (aa.ag (AO (Dx r).1 (32::(pA++32::(Sj++[32]))) hb)) ?_;simp[auZ,au0,Y5,aeD,hS];rw[Bool.eq_iff_iff];simp
theorem aPh (s:List UInt8):(rB s).getD ⟨0,0,0,0⟩=axT s:=by
 unfold rB axT;split<;>rfl
theorem aKL (a:Arms):di ac8 [dj a] (.tup [S (if arms a=true then nL a else []),B (arms a)]):=by
 refine aa.of aEg (by simp) ?_;simp[as0,aiF,aiG];refine al (aa.ag (GB a)) ?_;cases h:arms a with
 | false=>simp[aiH]
 | true =>
   simp[aiI];refine al (aa.ag (V6 a h)) ?_;simp
abbrev a00:Arms:=⟨⟨0,0,0,0⟩,0,0,0,⟨0,0,0,0⟩,⟨0,0,0,0⟩⟩
theorem aDV (s:List UInt8):(bI s).field.length<=s.length/\(bI s).ord.length<=s.length/\(bI s).on.length<=s.length/\(bI s).around.length<=s.length:=by
 have b0:=ye [44,32] s;have b1:=qi [44,32] s
 have hT:bI s=if vF (jB [44,32] s) then ⟨me [44,32] s,(aeD (Dx (jB [44,32] s)).1).1,(aeD (Dx (jB [44,32] s)).1).2,(Dx (jB [44,32] s)).2,decide (second (jB [44,32] s)=some Y0)⟩
  else ⟨me [44,32] s,[],[],jB [44,32] s,false⟩:=rfl
 have hA:∀ r,(Dx r).1.length<=r.length/\(Dx r).2.length<=r.length:=fun r=>by
  unfold Dx;split
  ·exact⟨ye _ _,qi _ _⟩
  ·exact⟨ye _ _,qi _ _⟩
 have hO:∀ r,(aeD r).1.length<=r.length/\(aeD r).2.length<=r.length:=fun r=>⟨ye _ _,qi _ _⟩;have h1:=hA (jB [44,32] s);have h2:=hO (Dx (jB [44,32] s)).1;rw[hT];split
 ·dsimp only;omega
 ·dsimp only;simp;omega
set_option maxHeartbeats 1000000 in
theorem aIQ (s:List UInt8) (hs:s.length<=1000000):di Zj [S s] (.tup [dj ((ael s).getD a00),B (ael s).isSome]):=by
 obtain ⟨l1,l2,l3,l4⟩:=aDV s;have hC:anz s=⟨axT (bI s).field,(auf (bI s).ord).1,(auf (bI s).ord).2.1,(auf (bI s).ord).2.2,TE (bI s).on,TE (bI s).around⟩:=rfl;refine aa.of aCE (by simp) ?_;simp[anF,afi,afj];refine bB (aa.ag (aMh s hs)) rfl (.inl (by simp[Y5])) (by simp[Y5]) ?_;simp[Y5,afk];refine aZ (aa.ag (aGL (bI s).field (by omega))) ?_;rw[aPh];simp[afl];refine aZ (aa.ag (aA7 (bI s).ord (by omega))) ?_;simp[afm];refine aZ (aa.ag (atS (bI s).on (by omega))) ?_;simp[afn];refine aZ (aa.ag (atS (bI s).around (by omega))) ?_;simp[afo];refine bB (aa.arg (aKL (anz s)) (by simp[hC])) rfl (.inl (by simp)) (by simp) ?_;simp[afp];cases hok:arms (anz s) with
 | false =>
   have e:ael s=none:=by unfold ael;rw[hok];simp
   simp[PQ,e]
 | true =>
   by_cases ht:nL (anz s)=s
   ·have e:ael s=some (anz s):=by unfold ael;rw[if_pos ⟨hok,ht⟩]
    simp[afq,ht,e];simp[hC]
   ·have e:ael s=none:=by unfold ael;rw[if_neg (fun h=>ht h.2)]
    simp[PQ,ht,e]
theorem aM3 {L:List Slot} {p:List UInt8} {i:Nat} (h:i < L.length):(L.drop i).find? (fun s=>(dR s).isSuffixOf p)=if (dR L[i]).isSuffixOf p then some L[i] else (L.drop (i+1)).find? (fun s=>(dR s).isSuffixOf p):=by
 rw[yf h,List.find?_cons];cases (dR L[i]).isSuffixOf p<;>rfl
theorem aN0:∀ s ∈ iX,dF s=true:=by decide +kernel
theorem aO8 (L:List Slot) (p:List UInt8):(lE L p).1.length<=p.length:=by
 unfold lE;split
 ·simp
 ·exact Nat.le_refl _
theorem ayf (p:List UInt8) (hp:p.length<=1000000):di aip [S p] (.tup [S ((lE iX p).1++o6),eX (lE iX p).2]):=by
 have h14:iX.length=14:=rfl;refine aa.of aGi (by simp) ?_;simp[ay9,aoE,aoF,anV];refine aZ (aa.ag asa) ?_;simp[h14];refine dl (fun i:Nat=>⟨[(0,S p),(3,.ref 3 0 0),(8,.sl 8 0 14),(9,I 14),(10,I i)],[(3,⟨2,[eX ⟨0,0⟩]⟩),(8,⟨2,iX.map eX⟩)],[]⟩) (fun i=>14 - i) (fun i=>i<=14/\iX.find? (fun s=>(dR s).isSuffixOf p)=(iX.drop i).find? (fun s=>(dR s).isSuffixOf p)) 0 Wk.li (by simp) ?_;rintro i ⟨hi,hj⟩ K hN hR hE;by_cases hlt:i < 14
 ·have hlt':(i:Int) < 14:=by omega
  obtain ⟨s,hs⟩:∃ s,iX[i]'(by omega)=s:=⟨_,rfl⟩;have hg:iX[i]?=some s:=by rw[<- hs];exact List.getElem?_eq_getElem (by omega)
  have hok:dF s=true:=aN0 s (by rw[<- hs];exact List.getElem_mem _);have hfd:=aM3 (L:=iX) (p:=p) (i:=i) (by omega);rw[hs] at hfd;have hsl:=ug s;simp[ZC,aoK,hlt'];simp[aoG,hg];refine⟨by omega,?_⟩;simp[aoH];refine al (aa.ag (Wa s hok)) ?_;simp;refine aZ (aa.ag (axy p (dR s) hp)) ?_;simp[aoI];cases hx:(dR s).isSuffixOf p with
  | true =>
    have hx':Lib.hasSuffix p (dR s)=true:=hx;rw[hx,if_pos rfl,<- hj] at hfd;have hc:lE iX p=(p.take (p.length - (dR s).length),s):=by unfold lE;rw[hfd]
    have ht:Lib.trimSuffix p (dR s)=p.take (p.length - (dR s).length):=by unfold Lib.trimSuffix;rw[if_pos hx']
    rw[hx',ht];have hpl:(p.take (p.length - (dR s).length)).length<=p.length:=by simp
    generalize p.take (p.length - (dR s).length)=q at hc hpl;simp[aoJ,Zr];refine⟨by omega,a7 (by simp[Zr]) (by simp),hR _ ?_⟩;rw[hc];simp[o6]
  | false =>
    have hx':Lib.hasSuffix p (dR s)=false:=hx;rw[hx,if_neg (by simp),<- hj] at hfd;simp[hx'];rw[aD (by omega)];exact hN (i+1) _ (by omega) ⟨by omega,hfd⟩ Wk.li
 ·obtain rfl:i=14:=by omega
  simp[ZC];refine hE _ _ ?_;have hc:lE iX p=(p,⟨5,0⟩):=by unfold lE;rw[hj];rfl
  rw[hc];simp[aoL,o6];omega
def pkV (A:List Slot):V:=if A=[] then nM else .sl 100 0 A.length
def pkB (A:List Slot):List (Nat×Blk):=if A=[] then [] else [(100,⟨2,A.map eX⟩)]
def yA (s f x y z:List UInt8) (c:Bool) (A:List Slot) (i:Nat):AS:=⟨[(0,S s),(2,.ref 2 0 0),(4,.ref 4 0 0),(5,.ref 5 0 0),(18,.sl 18 0 3),(19,I 3),(20,I i)],
 [(2,⟨16,[.agg (cy a00 nM)]⟩),(4,⟨5,[.agg [S f,S x,S y,S z,B c]]⟩),(5,⟨16,[.agg (cy a00 (pkV A))]⟩),(18,⟨1,[.ref 4 0 1,.ref 4 0 2,.ref 4 0 3]⟩)]++pkB A,[]⟩
def pkX (s:List UInt8) (i:Nat):AS :=
 match i with
 | 0=>yA s (bI s).field (bI s).ord (bI s).on (bI s).around (bI s).chief [] 0
 | 1=>yA s (bI s).field (fS (bI s).ord) (bI s).on (bI s).around (bI s).chief (lQ (bI s).ord) 1
 | 2=>yA s (bI s).field (fS (bI s).ord) (fS (bI s).on) (bI s).around (bI s).chief (lQ (bI s).ord++lQ (bI s).on) 2
 | _=>yA s (bI s).field (fS (bI s).ord) (fS (bI s).on) (fS (bI s).around) (bI s).chief (lQ (bI s).ord++lQ (bI s).on++lQ (bI s).around) 3
theorem Nn (p:List UInt8):(lQ p).length<=1:=by unfold lQ;split<;>simp
theorem ar7 (p:List UInt8):(fS p).length<=p.length+5:=by
 have:=aO8 iX p;unfold fS;split
 ·simp
 ·simp[o6];omega
theorem aEI (s:List UInt8) (hs:s.length<=900):di PA [S s] (.tup [.agg (cy ((xY s).getD ⟨a00,[]⟩).arms (.own 2 (((xY s).getD ⟨a00,[]⟩).slots.map eX))),B (xY s).isSome]):=by
 obtain ⟨l1,l2,l3,l4⟩:=aDV s;refine aa.ofN axW (by simp) ?_;simp[aep,W4,W5];refine bB (aa.ag (aMh s (by omega))) rfl (.inl (by simp[Y5])) (by simp[Y5]) ?_;simp[Y5,W6,Wg];refine dl (pkX s) (fun i=>3 - i) (fun i=>i<=3) 0 (Wk.list rfl (by simp[pkX,yA]) (by simp[pkX,yA,pkV,pkB])) (by simp) ?_;intro i hi K hN hR hE;obtain rfl | rfl | rfl | rfl:i=0\/i=1\/i=2\/i=3:=by omega
 ·obtain ⟨A,hA⟩:∃ A:List Slot,[]=A:=⟨_,rfl⟩;have hs1:pkX s 0=yA s (bI s).field ((bI s).ord) ((bI s).on) ((bI s).around) (bI s).chief A 0:=by rw[<- hA];rfl
  have hs2:pkX s 1=yA s (bI s).field (fS (bI s).ord) ((bI s).on) ((bI s).around) (bI s).chief (A++lQ (bI s).ord) 1:=by rw[<- hA];rfl
  have hAl:A.length<=0:=by
   rw[<- hA];have h1:=Nn (bI s).ord;have h2:=Nn (bI s).on;simp;try omega
  obtain ⟨p,hp⟩:∃ p,(bI s).ord=p:=⟨_,rfl⟩;have hpl:p.length<=s.length:=by rw[<- hp];assumption
  rw[hp] at hs1 hs2;rw[hs1];simp[yA,vU,DK];simp[DH,DI];by_cases hp0:p=[]
  ·have e1:fS p=[]:=by unfold fS;rw[if_pos hp0]
   have e2:lQ p=[]:=by unfold lQ;rw[if_pos hp0]
   rw[e1,e2,List.append_nil] at hs2;simp[hp0];refine hN 1 _ (by decide) (by decide) ?_;rw[hs2];by_cases hA0:A=[]
   ·exact Wk.list rfl (by simp[yA];decide) (by simp[yA,hp0,pkB,pkV,hA0])
   ·exact Wk.list rfl (by simp[yA];decide) (by simp[yA,hp0,pkB,pkV,hA0])
  ·have e1:fS p=(lE iX p).1++o6:=by unfold fS;rw[if_neg hp0]
   have e2:lQ p=[(lE iX p).2]:=by unfold lQ;rw[if_neg hp0]
   rw[e1,e2] at hs2;simp[hp0,DJ];refine aZ (aa.ag (ayf p (by omega))) ?_;generalize (lE iX p).1++o6=q at hs2 ⊢;generalize (lE iX p).2=sl at hs2 ⊢;by_cases hA0:A=[]
   ·subst hA0;simp[pkV,pkB,oy];refine⟨by decide,?_⟩;rw[aD (by omega)];refine hN 1 _ (by decide) (by decide) ?_;rw[hs2];exact Wk.trans (Wk.ren 41 100 (by decide) (by simp)) (Wk.list rfl (by simp[yA]) (by simp[yA,pkV,pkB]))
   ·simp[pkV,pkB,hA0,oy];refine⟨by unfold bR;omega,?_⟩;rw[aD (by omega)];refine hN 1 _ (by decide) (by decide) ?_;rw[hs2];exact Wk.trans (Wk.ren 41 100 (by decide) (by simp)) (Wk.list rfl (by simp[yA]) (by simp[yA,pkV,pkB]))
 ·obtain ⟨A,hA⟩:∃ A:List Slot,lQ (bI s).ord=A:=⟨_,rfl⟩;have hs1:pkX s 1=yA s (bI s).field (fS (bI s).ord) ((bI s).on) ((bI s).around) (bI s).chief A 1:=by rw[<- hA];rfl
  have hs2:pkX s 2=yA s (bI s).field (fS (bI s).ord) (fS (bI s).on) ((bI s).around) (bI s).chief (A++lQ (bI s).on) 2:=by rw[<- hA];rfl
  have hAl:A.length<=1:=by
   rw[<- hA];have h1:=Nn (bI s).ord;have h2:=Nn (bI s).on;simp;try omega
  obtain ⟨p,hp⟩:∃ p,(bI s).on=p:=⟨_,rfl⟩;have hpl:p.length<=s.length:=by rw[<- hp];assumption
  rw[hp] at hs1 hs2;rw[hs1];simp[yA,vU,DK];simp[DH,DI];by_cases hp0:p=[]
  ·have e1:fS p=[]:=by unfold fS;rw[if_pos hp0]
   have e2:lQ p=[]:=by unfold lQ;rw[if_pos hp0]
   rw[e1,e2,List.append_nil] at hs2;simp[hp0];refine hN 2 _ (by decide) (by decide) ?_;rw[hs2];by_cases hA0:A=[]
   ·exact Wk.list rfl (by simp[yA];decide) (by simp[yA,hp0,pkB,pkV,hA0])
   ·exact Wk.list rfl (by simp[yA];decide) (by simp[yA,hp0,pkB,pkV,hA0])
  ·have e1:fS p=(lE iX p).1++o6:=by unfold fS;rw[if_neg hp0]
   have e2:lQ p=[(lE iX p).2]:=by unfold lQ;rw[if_neg hp0]
   rw[e1,e2] at hs2;simp[hp0,DJ];refine aZ (aa.ag (ayf p (by omega))) ?_;generalize (lE iX p).1++o6=q at hs2 ⊢;generalize (lE iX p).2=sl at hs2 ⊢;by_cases hA0:A=[]
   ·subst hA0;simp[pkV,pkB,oy];refine⟨by decide,?_⟩;rw[aD (by omega)];refine hN 2 _ (by decide) (by decide) ?_;rw[hs2];exact Wk.trans (Wk.ren 41 100 (by decide) (by simp)) (Wk.list rfl (by simp[yA]) (by simp[yA,pkV,pkB]))
   ·simp[pkV,pkB,hA0,oy];refine⟨by unfold bR;omega,?_⟩;rw[aD (by omega)];refine hN 2 _ (by decide) (by decide) ?_;rw[hs2];exact Wk.trans (Wk.ren 41 100 (by decide) (by simp)) (Wk.list rfl (by simp[yA]) (by simp[yA,pkV,pkB]))
 ·obtain ⟨A,hA⟩:∃ A:List Slot,lQ (bI s).ord++lQ (bI s).on=A:=⟨_,rfl⟩;have hs1:pkX s 2=yA s (bI s).field (fS (bI s).ord) (fS (bI s).on) ((bI s).around) (bI s).chief A 2:=by rw[<- hA];rfl
  have hs2:pkX s 3=yA s (bI s).field (fS (bI s).ord) (fS (bI s).on) (fS (bI s).around) (bI s).chief (A++lQ (bI s).around) 3:=by rw[<- hA];rfl
  have hAl:A.length<=2:=by
   rw[<- hA];have h1:=Nn (bI s).ord;have h2:=Nn (bI s).on;simp;try omega
  obtain ⟨p,hp⟩:∃ p,(bI s).around=p:=⟨_,rfl⟩;have hpl:p.length<=s.length:=by rw[<- hp];assumption
  rw[hp] at hs1 hs2;rw[hs1];simp[yA,vU,DK];simp[DH,DI];by_cases hp0:p=[]
  ·have e1:fS p=[]:=by unfold fS;rw[if_pos hp0]
   have e2:lQ p=[]:=by unfold lQ;rw[if_pos hp0]
   rw[e1,e2,List.append_nil] at hs2;simp[hp0];refine hN 3 _ (by decide) (by decide) ?_;rw[hs2];by_cases hA0:A=[]
   ·exact Wk.list rfl (by simp[yA];decide) (by simp[yA,hp0,pkB,pkV,hA0])
   ·exact Wk.list rfl (by simp[yA];decide) (by simp[yA,hp0,pkB,pkV,hA0])
  ·have e1:fS p=(lE iX p).1++o6:=by unfold fS;rw[if_neg hp0]
   have e2:lQ p=[(lE iX p).2]:=by unfold lQ;rw[if_neg hp0]
   rw[e1,e2] at hs2;simp[hp0,DJ];refine aZ (aa.ag (ayf p (by omega))) ?_;generalize (lE iX p).1++o6=q at hs2 ⊢;generalize (lE iX p).2=sl at hs2 ⊢;by_cases hA0:A=[]
   ·subst hA0;simp[pkV,pkB,oy];refine⟨by decide,?_⟩;rw[aD (by omega)];refine hN 3 _ (by decide) (by decide) ?_;rw[hs2];exact Wk.trans (Wk.ren 41 100 (by decide) (by simp)) (Wk.list rfl (by simp[yA]) (by simp[yA,pkV,pkB]))
   ·simp[pkV,pkB,hA0,oy];refine⟨by unfold bR;omega,?_⟩;rw[aD (by omega)];refine hN 3 _ (by decide) (by decide) ?_;rw[hs2];exact Wk.trans (Wk.ren 41 100 (by decide) (by simp)) (Wk.list rfl (by simp[yA]) (by simp[yA,pkV,pkB]))
 ·have hs1:pkX s 3=yA s (bI s).field (fS (bI s).ord) (fS (bI s).on) (fS (bI s).around) (bI s).chief (skC s).slots 3:=rfl;have ha1:(skC s).arms=(ael (lY (bI s).field (fS (bI s).ord) (fS (bI s).on) (fS (bI s).around) (bI s).chief)).getD a00:=rfl;have g1:=ar7 (bI s).ord;have g2:=ar7 (bI s).on;have g3:=ar7 (bI s).around
  have hjl:(lY (bI s).field (fS (bI s).ord) (fS (bI s).on) (fS (bI s).around) (bI s).chief).length<=1000000:=by
   unfold lY
   repeat' split
   all_goals try simp only[List.length_append,List.length_cons,List.length_nil]
   all_goals omega
  have hP:xY s=if bM (skC s)=true/\bH (skC s)=s then some (skC s) else none:=rfl
  rw[hs1];have hj:=Pw (bI s).field (fS (bI s).ord) (fS (bI s).on) (fS (bI s).around) (bI s).chief (by omega) (by omega) (by omega) (by omega);generalize fS (bI s).ord=x at hj hjl ha1 ⊢;generalize fS (bI s).on=y at hj hjl ha1 ⊢;generalize fS (bI s).around=z at hj hjl ha1 ⊢;generalize skC s=k at ha1 hP ⊢;simp[yA,vU];refine hE _ _ ?_;rw[hP];simp[UA];refine al (aa.ag hj) ?_;simp;refine aZ (aa.ag (aIQ _ hjl)) ?_;rw[<- ha1];by_cases hA0:k.slots=[]
  ·simp[pkV,pkB,hA0,Ia];refine bB (aa.argL (atT k) (by simp[hA0])) rfl (.inl (by simp)) (by simp) ?_;simp[Ib];cases hok:bM k with
   | false=>simp[uE]
   | true =>
     by_cases ht:bH k=s
     ·simp[Ic,ht,hA0]
     ·simp[uE,ht]
  ·simp[pkV,pkB,hA0,Ia];refine aZ (aa.at (atT k)) ?_;simp[Ib];cases hok:bM k with
   | false=>simp[uE]
   | true =>
     by_cases ht:bH k=s
     ·simp[Ic,ht]
     ·simp[uE,ht]
theorem aAC (k:Sk) (h:bM k=true):di Nv [eSk k] (.tup [dj ((nJ k).getD a00),B (nJ k).isSome]):=by
 obtain ⟨q1,q2,q3,q4,q5⟩:=uR h;have hq:k.slots.length<=3:=by rw[q3,<- r8];exact uV _
 have e2:nJ k=(jz k.arms.field (fa k.arms.field) k.slots).map fun l=>Ir k.arms (gU l):=rfl;refine aa.of aCN (by simp) ?_;simp[anL,agc,agd];cases hst:jz k.arms.field (fa k.arms.field) k.slots with
 | none =>
   have hr:aAI k=.tup [.own 1 (mi (HK k.arms.field (fa k.arms.field) k.slots)),B false]:=by unfold aAI;rw[hst];rfl
   rw[hst] at e2;refine bB (aa.ag (aDM k h)) (by rw[hr];rfl) (.inl (by rw[hr];simp)) (by rw[hr];simp) ?_;rw[hr];simp[PV,age,e2]
 | some l =>
   have hr:aAI k=.tup [.own 1 (mi l),B true]:=by unfold aAI;rw[hst,aDT hst];rfl
   have hl:=Vs hst;rw[hst] at e2;refine bB (aa.ag (aDM k h)) (by rw[hr];rfl) (.inl (by rw[hr];simp)) (by rw[hr];simp) ?_;rw[hr];simp[PV,agf,PK];refine gm (aa.ag (aQj l (by omega))) ?_;simp;refine gm (aa.ag (aJO k.arms (gU l) (by rw[EE];omega) (Z7 q1))) ?_;simp;refine⟨a7 (by simp[PK]) (by simp),?_⟩;simp[e2]
def TF (s:List UInt8):V:=.tup [ib ((Eg (lE eT s).1).getD noG),eX (lE eT s).2,B (Eg (lE eT s).1).isSome]
theorem ayS (s:List UInt8) (hs:s.length<=1000000):di N4 [S s] (TF s):=by
 refine aa.of aGD (by simp) ?_;simp[azt,aqL,aqM];refine aZ (aa.ag (aFP s hs)) ?_;simp[aqN];refine bB (aa.ag (aLw (lE eT s).1)) rfl (.inl (by simp[amS])) (by simp[amS]) ?_;simp[amS,aqO,Zv];refine⟨a7 (by simp[Zv]) (by simp),?_⟩;simp[TF]
def spK (s:List UInt8):Sk:=if 240 < s.length then (vf s).getD ⟨a00,[]⟩ else
 match rB (me [44,32] s) with
 | none=>(vf s).getD ⟨a00,[]⟩
 | some f=>if Z8 [44,32] s=none then (vf s).getD ⟨a00,[]⟩ else
   match LI (jB [44,32] s) with
   | some p=>⟨⟨f,0,0,0,noG,p.1⟩,[p.2]⟩
   | none=>(vf s).getD ⟨a00,[]⟩
theorem aTT {s:List UInt8} {k:Sk} (h:vf s=some k):spK s=k:=by
 have hS:vf s=if 240 < s.length then none else
  (rB (me [44,32] s)).bind fun f =>
   if Z8 [44,32] s=none then some ⟨⟨f,0,0,0,noG,noG⟩,[]⟩ else
    match LI (jB [44,32] s) with
    | some p=>if bM ⟨⟨f,0,0,0,noG,p.1⟩,[p.2]⟩=true then some ⟨⟨f,0,0,0,noG,p.1⟩,[p.2]⟩ else none
    | none=>aFK f s (jB [44,32] s):=rfl
 unfold spK;rw[h] at hS ⊢;split
 ·rfl
 ·split
  ·rfl
  ·rename_i h1 _ f hf;rw[if_neg h1,hf,Option.bind_some] at hS;split
   ·rfl
   ·rename_i h2;rw[if_neg h2] at hS;split
    ·rename_i p hp;rw[hp] at hS;dsimp only at hS;split at hS
     ·injection hS with hS;exact hS.symm
     ·cases hS
    ·rfl
def acs (k:Sk) (b:Bool):V:=.tup [.agg (cy k.arms (.own 2 (k.slots.map eX))),B b]
def aDR (s a r:List UInt8) (b:Bool) (f:Field):AS:=⟨[(0,S s),(2,.ref 2 0 0),(4,.ref 4 0 0),(10,.ref 10 0 0),(14,S a),(15,S r),(16,B b)],
 [(2,⟨16,[.agg (cy a00 nM)]⟩),(4,⟨16,[.agg (cy a00 nM)]⟩),(10,⟨16,[.agg (cy ⟨f,0,0,0,noG,noG⟩ (.sl 100 0 0))]⟩),(100,⟨2,[]⟩)],[]⟩
def aLC (s r:List UInt8) (b:Bool) (a:Arms) (L:List Slot) (ok:Bool):AS:=⟨[(0,S s),(2,.ref 2 0 0),(4,.ref 4 0 0),(10,.ref 10 0 0),(15,S r),(16,B b),(24,B ok)],
 [(2,⟨16,[.agg (cy a00 nM)]⟩),(4,⟨16,[.agg (cy a00 nM)]⟩),(10,⟨16,[.agg (cy a (.sl 100 0 L.length))]⟩),(100,⟨2,L.map eX⟩)],[]⟩
def art (s:List UInt8) (a:Arms) (L:List Slot) (ok:Bool):AS:=⟨[(0,S s),(2,.ref 2 0 0),(4,.ref 4 0 0),(10,.ref 10 0 0),(24,B ok)],
 [(2,⟨16,[.agg (cy a00 nM)]⟩),(4,⟨16,[.agg (cy a00 nM)]⟩),(10,⟨16,[.agg (cy a (.sl 100 0 L.length))]⟩),(100,⟨2,L.map eX⟩)],[]⟩
set_option maxHeartbeats 2000000 in
theorem aNT (s:List UInt8) (hs:s.length<=1000000):di aiv [S s] (acs (spK s) (vf s).isSome):=by
 have hS:vf s=if 240 < s.length then none else
  (rB (me [44,32] s)).bind fun f =>
   if Z8 [44,32] s=none then some ⟨⟨f,0,0,0,noG,noG⟩,[]⟩ else
    match LI (jB [44,32] s) with
    | some p=>if bM ⟨⟨f,0,0,0,noG,p.1⟩,[p.2]⟩=true then some ⟨⟨f,0,0,0,noG,p.1⟩,[p.2]⟩ else none
    | none=>aFK f s (jB [44,32] s):=rfl
 have hK:spK s=if 240 < s.length then (vf s).getD ⟨a00,[]⟩ else
  match rB (me [44,32] s) with
  | none=>(vf s).getD ⟨a00,[]⟩
  | some f=>if Z8 [44,32] s=none then (vf s).getD ⟨a00,[]⟩ else
    match LI (jB [44,32] s) with
    | some p=>⟨⟨f,0,0,0,noG,p.1⟩,[p.2]⟩
    | none=>(vf s).getD ⟨a00,[]⟩:=rfl
 refine aa.ofN aGE (by simp) ?_;simp[azu,aqP,aqQ,aqR];refine⟨fun hlong=>?_,fun hshort=>?_⟩
 ·rw[if_pos (by omega)] at hS hK;simp[aqS,acs,hK,hS]
 ·rw[if_neg (by omega)] at hS hK;simp[aqT];refine aZ (aa.ag (ad9 s [44,32] hs (by decide) (by decide))) ?_;have l1:=ye [44,32] s;have l2:=qi [44,32] s;generalize me [44,32] s=A at hS hK l1 ⊢;generalize hB:jB [44,32] s=R at hS hK l2 ⊢;simp[aqU];refine bB (aa.ag (aNS A (by omega))) rfl (.inl (by simp[acY])) (by simp[acY]) ?_;simp[acY,aqV];cases hf:rB A with
  | none =>
    rw[hf] at hS hK;simp at hS hK;simp[aqW,acs,hK,hS]
  | some f =>
    rw[hf] at hS hK;rw[Option.bind_some] at hS;dsimp only at hK;simp[aqX,aqY];refine⟨fun hat=>?_,fun hat=>?_⟩
    ·rw[if_pos hat] at hS hK;simp[hat,alc,acs,hK,hS]
    ·rw[if_neg (by intro e;rw[e] at hat;cases hat)] at hS hK;simp[ald];refine bB (aa.ag (ayS R (by omega))) rfl (.inl (by simp[TF])) (by simp[TF]) ?_;simp[TF,ale];have hG:LI R=(Eg (lE eT R).1).map fun g=>(g,(lE eT R).2):=rfl;cases hg:Eg (lE eT R).1 with
     | some g =>
       rw[hg,Option.map_some] at hG;rw[hG] at hS hK;generalize (lE eT R).2=sl at hS hK ⊢;dsimp only at hS hK;simp[alf,alg,alh,Ub];refine⟨by decide,?_⟩;obtain ⟨k,hk⟩:∃ k:Sk,⟨⟨f,0,0,0,noG,g⟩,[sl]⟩=k:=⟨_,rfl⟩;refine iV (aa.arg (aDL k) (by simp[<- hk])) ?_ ?_ ?_
       ·simp
       ·simp
       rw[hk] at hS hK;have hb:(vf s).isSome=bM k:=by rw[hS];split<;>simp_all
       rw[hK,hb];simp;refine⟨a7 (by simp[Ub]) (by simp),?_⟩;simp[acs,<- hk]
     | none =>
       rw[hg,Option.map_none] at hG;rw[hG] at hS hK;dsimp only at hS hK;rw[hK];simp[ali];refine bB (aa.arg (ad9 R ary (by omega) (by decide) (by decide)) (by simp[kq])) rfl (.inl (by simp)) (by simp) ?_;simp[alj];have hBA:LZ R=if (Z8 ary R).isSome=true then acU ary R else acU aAN R:=rfl
       have hrest:aFK f s R=(aLf (lE eT (acU chC (LZ R).1).1).1).bind fun p =>
        (aAO (acU chC (LZ R).1).2.2 (acU chC (LZ R).1).2.1).bind fun q =>
         (aAO (LZ R).2.2 (LZ R).2.1).bind fun r =>
          acQ s ⟨⟨f,p.1,p.2,1,q.1,r.1⟩,[(lE eT (acU chC (LZ R).1).1).2]++q.2++r.2⟩:=rfl
       obtain ⟨X,hX⟩:∃ X,LZ R=X:=⟨_,rfl⟩;obtain ⟨X1,X2,X3⟩:=X
       have hXl:X1.length<=R.length/\X2.length<=R.length:=by
        have e1:=ye ary R;have e2:=qi ary R;have e3:=ye aAN R;have e4:=qi aAN R;rw[hX] at hBA;split at hBA<;>(injection hBA with h1 h2;injection h2 with h2 h3;rw[h1,h2];exact⟨by assumption,by assumption⟩)
       rw[hX] at hrest;dsimp only at hrest;rw[hrest] at hS;refine⟨fun h=>?_,fun h=>?_⟩
       focus
        rw[if_neg (by simp[h])] at hBA;have e:(me aAN R,jB aAN R,(Z8 aAN R).isSome)=(X1,X2,X3):=by rw[<- hX,hBA];rfl
        obtain ⟨e1,e⟩:=Prod.mk.inj e;obtain ⟨e2,e3⟩:=Prod.mk.inj e;simp[alk];refine bB (aa.arg (ad9 R aAN (by omega) (by decide) (by decide)) (by simp[qa])) rfl (.inl (by simp)) (by simp) ?_;rw[e1,e2,e3];simp;refine cp (aDR s X1 X2 X3 f) (Wk.trans (Wk.ren 52 100 (by decide) (by simp)) (Wk.list rfl (by simp[aDR]) (by simp[aDR]))) ?_
       rotate_left
       focus
        rw[if_pos h] at hBA;have e:(me ary R,jB ary R,(Z8 ary R).isSome)=(X1,X2,X3):=by rw[<- hX,hBA];rfl
        obtain ⟨e1,e⟩:=Prod.mk.inj e;obtain ⟨e2,e3⟩:=Prod.mk.inj e;rw[e1,e2,e3];refine cp (aDR s X1 X2 X3 f) (Wk.trans (Wk.ren 52 100 (by decide) (by simp)) (Wk.list rfl (by simp[aDR]) (by simp[aDR]))) ?_
       all_goals
        clear e1 e2 e3 h hBA hX hrest;simp[aDR,cy,alm];refine bB (aa.arg (ad9 X1 chC (by omega) (by decide) (by decide)) (by simp[pA,Sj])) rfl (.inl (by simp)) (by simp) ?_;have c1:=ye chC X1;have c2:=qi chC X1;unfold acU at hS;generalize me chC X1=Y1 at hS c1 ⊢;generalize jB chC X1=Y2 at hS c2 ⊢;generalize (Z8 chC X1).isSome=Y3 at hS ⊢;dsimp only at hS;simp[aln];refine aZ (aa.ag (aFP Y1 (by omega))) ?_;generalize (lE eT Y1).1=Z at hS ⊢;generalize (lE eT Y1).2=sl at hS ⊢;simp[alo];refine bB (aa.ag (aDJ Z)) rfl (.inl (by simp[ayE])) (by simp[ayE]) ?_;simp[ayE,alp];cases hz:aLf Z with
        | none =>
          rw[hz] at hS;simp at hS;simp[alq,hS,acs]
        | some p =>
          obtain ⟨o,ln⟩:=p;rw[hz,Option.bind_some] at hS;dsimp only at hS;simp[alr,als,alt,alu,alv];refine⟨by decide,?_⟩
          have hadd:∀ t,aAO true t=if (Eg (lE eT t).1).isSome=true then some ((Eg (lE eT t).1).getD noG,[(lE eT t).2]) else none:=fun t=>by
           unfold aAO LI;cases Eg (lE eT t).1<;>simp
          refine⟨fun h=>?_,fun h=>?_⟩
          focus
           subst h;have hq:=hadd Y2;simp[alw];refine bB (aa.ag (ayS Y2 (by omega))) rfl (.inl (by simp[TF])) (by simp[TF]) ?_;have hL1:([(lE eT Y2).2]:List Slot).length<=1:=by simp
           simp[TF,alx,aly,alz];refine⟨by decide,?_⟩;refine cp (aLC s X2 X3 ⟨f,o,ln,1,(Eg (lE eT Y2).1).getD noG,noG⟩ (sl::[(lE eT Y2).2]) (Eg (lE eT Y2).1).isSome) (Wk.trans (Wk.ren 138 100 (by decide) (by simp)) (Wk.list rfl (by simp[aLC]) (by simp[aLC,cy]))) ?_;generalize (Eg (lE eT Y2).1).getD noG=G1 at hq ⊢;generalize (Eg (lE eT Y2).1).isSome=ok1 at hq ⊢;generalize [(lE eT Y2).2]=L1 at hq hL1 ⊢
          rotate_left
          focus
           subst h;obtain ⟨G1,hG1⟩:∃ G:Group,G=noG:=⟨_,rfl⟩;obtain ⟨L1,hL0⟩:∃ L:List Slot,L=[]:=⟨_,rfl⟩;obtain ⟨ok1,hok1⟩:∃ b:Bool,b=true:=⟨_,rfl⟩;have hq:aAO false Y2=if ok1=true then some (G1,L1) else none:=by rw[hG1,hL0,hok1];rfl
           have hL1:L1.length<=1:=by rw[hL0];simp
           refine cp (aLC s X2 X3 ⟨f,o,ln,1,G1,noG⟩ (sl::L1) ok1) (Wk.trans (Wk.ren 122 100 (by decide) (by simp)) (Wk.list rfl (by simp[aLC,hL0,hok1]) (by simp[aLC,cy,hG1,hL0]))) ?_;clear hG1 hL0 hok1
          all_goals
           rw[hq] at hS;simp[aLC,cy,alA];clear hq;refine⟨fun h3=>⟨fun h4=>?_,fun h4=>?_⟩,fun h3=>?_⟩
           focus
            subst h3 h4;rw[if_pos rfl,Option.bind_some,hadd X2] at hS;dsimp only at hS;simp[alB];refine bB (aa.ag (ayS X2 (by omega))) rfl (.inl (by simp[TF])) (by simp[TF]) ?_;simp[TF,alC,alD,alE];refine⟨by unfold bR;omega,?_⟩;obtain ⟨K,hK2⟩:∃ K:Sk,⟨⟨f,o,ln,1,G1,(Eg (lE eT X2).1).getD noG⟩,sl::(L1++[(lE eT X2).2])⟩=K:=⟨_,rfl⟩
            have hS2:vf s=if (Eg (lE eT X2).1).isSome=true then acQ s K else none:=by
             rw[hS,<- hK2];cases (Eg (lE eT X2).1)<;>simp
            have hKl:K.slots.length<=1000:=by rw[<- hK2];simp;omega
            refine cp (art s K.arms K.slots (Eg (lE eT X2).1).isSome) (Wk.trans (Wk.ren 158 100 (by decide) (by simp)) (Wk.list rfl (by simp[art]) (by simp[art,cy,<- hK2]))) ?_;generalize (Eg (lE eT X2).1).isSome=ok2 at hS2 ⊢
           rotate_left
           focus
            subst h3 h4;rw[if_neg (by decide),Option.bind_none] at hS;obtain ⟨K,hK2⟩:∃ K:Sk,⟨⟨f,o,ln,1,G1,noG⟩,sl::L1⟩=K:=⟨_,rfl⟩;have hS2:vf s=if false=true then acQ s K else none:=by rw[hS,if_neg (by decide)]
            have hKl:K.slots.length<=1000:=by rw[<- hK2];simp;omega
            refine cp (art s K.arms K.slots false) (Wk.list rfl (by simp[art]) (by simp[art,cy,<- hK2])) ?_;generalize false=ok2 at hS2 ⊢
           rotate_left
           focus
            subst h3;obtain ⟨K,hK2⟩:∃ K:Sk,⟨⟨f,o,ln,1,G1,noG⟩,sl::L1⟩=K:=⟨_,rfl⟩
            have hS2:vf s=if ok1=true then acQ s K else none:=by
             rw[hS,<- hK2];cases ok1<;>simp[aAO]
            have hKl:K.slots.length<=1000:=by rw[<- hK2];simp;omega
            refine cp (art s K.arms K.slots ok1) (Wk.list rfl (by simp[art]) (by simp[art,cy,<- hK2])) ?_;generalize ok1=ok2 at hS2 ⊢
           all_goals
            clear hS hadd;have hC:acQ s K=if bM K=true/\bH K=s then some K else none:=rfl
            simp[art,cy,alF];refine⟨fun h5=>?_,fun h5=>?_⟩
            ·rw[h5,if_pos rfl] at hS2;refine al (aa.at (aDL K)) ?_;cases hok:bM K with
             | false =>
               rw[hC,hok] at hS2;simp at hS2;simp[Lj,hS2,acs]
             | true =>
               simp;refine al (aa.at (Vm K hok)) ?_;by_cases ht:bH K=s
               ·rw[hC,if_pos ⟨hok,ht⟩] at hS2;simp[ht,alG,hS2,acs,cy]
               ·rw[hC,if_neg (fun h=>ht h.2)] at hS2;simp[ht,Lj,hS2,acs]
            ·rw[h5,if_neg (by decide)] at hS2;simp[Lj,hS2,acs]
def QY:=[eF 2 16 0,dD 4 15 lm]
def QZ:=[aL 8 0 2,bu 9 15 8,dD 5 15 lm,bg 15 5 9]
def Q0:=[cg 10 lw 5,oo 11 (.len false (.t 10)),ok 12 (vI 0)]
def Q1:=[cI 13 .lss 12 11]
def Q3:=[om 14 12,ft 15 1 10 12,bl 16 1 15,om 6 14,om 7 16]
def Q4:=[om 17 7,om 18 1,om 19 6,ft 20 1 18 19,bl 21 1 20,aL 22 0 17,bg 1 22 21]
def Q5:=[fL 23 12 1,om 12 23]
def Qn:C:=(sr Q1 [1,4,5,10,11,12,13] (ss (sc 13 .skip (.exit 0)) (ss (.block 1 (sr Q3 [1,4,5,6,7,10,11,12] (.reg Q4 [1,4,5,10,11,12]))) (.reg Q5 [1,4,5,10,11,12]))))
def Q6:=[bu 24 15 5,bg 15 4 24]
def VQ:C:=(sr QY [1,2,4] (sr QZ [1,4,5] (ss (sr Q0 [1,4,5,10,11,12] (.block 0 (.loop Qn))) (sr Q6 [4] .ret))))
theorem arP:cE JV VQ [(.cell 4 true 15)] 25:=dE func228 rfl
def QS:=[eF 1 16 0,dD 2 15 lm,ok 3 (vB false)]
def QT:=[bu 7 16 1,cg 8 DA 7,oo 9 (.un .not (.t 8))]
def QU:=[oo 10 (.build lm []),bg 15 2 10,ok 3 (vB false)]
def QV:=[bu 12 16 1,cg 13 FX 12,om 11 13,cJ 14 11 0,cJ 15 11 1,cJ 16 11 2,om 4 14,om 5 15,om 6 16]
def Ge:=[om 17 6,oo 18 (.un .not (.t 17))]
def QW:=[oo 19 (.build lm []),bg 15 2 19,ok 3 (vB false)]
def QX:=[bu 20 16 1,om 21 4,dK 22 JV 20 21,bg 15 2 22,ok 3 (vB true)]
def VP:C:=(sr QS [1,2] (ss (sr QT [1,2,9] (sc 9 (sr QU [2,3] .ret) .skip)) (sr QV [1,2,4,6] (ss (sr Ge [1,2,4,18] (sc 18 (sr QW [2,3] .ret) .skip)) (sr QX [2,3] .ret)))))
theorem arO:cE DB VP [(.cell 2 true 15),(.tmp 3)] 23:=dE func157 rfl
def aEO (a:Arms) (o:Nat) (t:Int):Arms :=
 if o=6 then ⟨a.field,a.ordinary,a.line,t,a.on,a.around⟩ else if o=10 then ⟨a.field,a.ordinary,a.line,a.tincture,⟨a.on.count,a.on.kind,a.on.attitude,t⟩,a.around⟩
 else ⟨a.field,a.ordinary,a.line,a.tincture,a.on,⟨a.around.count,a.around.kind,a.around.attitude,t⟩⟩
def FI (a:Arms) (L:List Int):Nat->Arms
 | 0=>a
 | i+1=>aEO (FI a L i) ((jI a).getD i 0) (L.getD i 0)
theorem aFi (a:Arms) (L:List Int):FI a L (jI a).length=Ir a L:=by
 unfold Ir zM nO nN;by_cases h0:a.ordinary=0<;>cases h1:g0 a.on<;>cases h2:g0 a.around<;>simp[jI,h0,h1,h2,FI,aEO];obtain ⟨f,o,l,t,on,ar⟩:=a;simp at h0;subst h0;rfl
def aMZ (a:Arms) (L:List Int) (b:Arms) (i:Nat):AS:=⟨[(1,.ro 1 (mi L)),(4,.ref 4 0 0),(5,.ref 5 0 0),(10,.sl 10 0 (jI a).length),(11,I (jI a).length),(12,I i)],[(4,⟨15,[dj a00]⟩),(5,⟨15,[dj b]⟩),(10,⟨1,(jI a).map fun o=>.ref 5 0 o⟩)],[]⟩
set_option maxHeartbeats 1000000 in
theorem aA8 (k:Sk) (L:List Int) (hL:L.length=(jI k.arms).length):di JV [eSk k,.ro 1 (mi L)] (dj (Ir k.arms L)):=by
 have hle:=uV k.arms;refine aa.of arP (by simp) ?_;simp[VQ,QY,QZ,Q0,Qn];refine aHT [5] [] (jA.arg (Wb k.arms 15 [] rfl rfl) (by simp)) (by simp) (by simp) (by simp[dO]) (by simp) (by simp) (by simp[dO]) (by simp) (by simp) ?_;simp;refine dl (fun i=>aMZ k.arms L (FI k.arms L i) i) (fun i=>(jI k.arms).length - i) (fun i=>i<=(jI k.arms).length) 0 (Wk.list rfl (by simp[aMZ]) (by simp[aMZ,FI,dO])) (by simp) ?_;intro i hi K hN hR hE;simp[aMZ,Q1,Q5];refine⟨fun hlt=>?_,fun hge=>?_⟩
 ·obtain ⟨o,ho⟩:∃ o,(jI k.arms)[i]=o:=⟨_,rfl⟩;have hg:(jI k.arms)[i]?=some o:=by rw[<- ho];exact List.getElem?_eq_getElem hlt
  have hom:=auc (a:=k.arms) (o:=o) (by rw[<- ho];exact List.getElem_mem hlt);have hlg:L[i]?=some (L.getD i 0):=by rw[List.getD_eq_getElem?_getD,List.getElem?_eq_getElem (by omega)];rfl
  have hnx:FI k.arms L (i+1)=aEO (FI k.arms L i) o (L.getD i 0):=by rw[FI,List.getD_eq_getElem?_getD,hg];rfl
  generalize FI k.arms L i=b at hnx ⊢;obtain ⟨t,ht⟩:∃ t,L.getD i 0=t:=⟨_,rfl⟩;rw[ht] at hlg hnx;simp[Q3,hg];simp[Q4,hlg]
  repeat (refine⟨by omega,?_⟩)
  rcases hom with rfl | rfl | rfl
  all_goals
   simp;rw[aD (by omega)];refine hN (i+1) _ (by omega) (by omega) (Wk.list rfl (by simp[aMZ]) ?_);simp[aMZ,hnx,aEO]
 ·refine hE _ _ ?_;obtain rfl:i=(jI k.arms).length:=by omega
  rw[aFi];simp[Q6]
def ayK (k:Sk):Option Arms:=if bM k=true then nJ k else none
theorem Pu (k:Sk):di DB [eSk k] (.tup [dj ((ayK k).getD a00),B (ayK k).isSome]):=by
 refine aa.of arO (by simp) ?_;simp[VP,QS,QT];refine al (aa.ag (aeF k)) ?_;cases h:bM k with
 | false =>
   have e:ayK k=none:=by unfold ayK;rw[h];rfl
   simp[QU,e]
 | true =>
   have e:ayK k=nJ k:=by unfold ayK;rw[if_pos h]
   have e2:nJ k=(jz k.arms.field (fa k.arms.field) k.slots).map fun l=>Ir k.arms (gU l):=rfl;rw[e,e2];simp[QV];cases hst:jz k.arms.field (fa k.arms.field) k.slots with
   | none =>
     have hr:axg k=.tup [.own 1 [],.own 1 [],B false]:=by unfold axg;rw[hst]
     refine bB (aa.ag (V9 k h)) (by rw[hr];rfl) (.inl (by rw[hr];simp)) (by rw[hr];simp) ?_;rw[hr];simp[Ge,QW]
   | some l =>
     have hr:axg k=.tup [.own 1 (mi (gU l)),.own 1 (mi (ac5 k.arms.field (fa k.arms.field) k.slots)),B true]:=by unfold axg;rw[hst]
     refine bB (aa.ag (V9 k h)) (by rw[hr];rfl) (.inl (by rw[hr];simp)) (by rw[hr];simp) ?_;rw[hr];have hl:(gU l).length=(jI k.arms).length:=by rw[EE,Vs hst,(uR h).2.2.1,r8]
     simp[Ge,QX];refine aZ (aa.ag (aA8 k (gU l) hl)) ?_;simp
theorem aDN {s:List UInt8} {k:Sk} (h:xY s=some k):bM k=true/\bH k=s:=by
 unfold xY at h;split at h
 ·rename_i h1;injection h with h
  rw[<- h];exact h1
 ·cases h
def ef (o:Option Arms):V:=.tup [dj (o.getD a00),B o.isSome]
theorem aFM (s:List UInt8) (hs:s.length<=1000000):di Wt [S s] (ef (Gl s)):=by
 have hP:Gl s=(xY s).bind nJ:=rfl;refine aa.of aGu (by simp) ?_;simp[azk,apT,apU];refine bB (aa.ag (aNT s hs)) rfl (.inl (by simp[acs,cy])) (by simp[acs,cy]) ?_;rw[aDl];simp[acs,cy,apV];cases hk:xY s with
 | none =>
   rw[hk] at hP;simp at hP;simp[apW,hP,ef]
 | some k =>
   rw[hk,Option.bind_some] at hP;have hK:spK s=k:=aTT (by rw[aDl];exact hk);have hok:=(aDN hk).1;rw[hK];simp[apX];refine aZ (aa.at (aAC k hok)) ?_;simp[hP,ef]
theorem Iu (s:List UInt8) (hs:s.length<=900):di Wp [S s] (ef (Gl s)):=by
 have hP:Gl s=(xY s).bind nJ:=rfl;refine aa.of aGg (by simp) ?_;simp[ay7,aok,aol];refine bB (aa.ag (aEI s hs)) rfl (.inl (by simp[cy])) (by simp[cy]) ?_;simp[cy,aom];cases hk:xY s with
 | none =>
   rw[hk] at hP;simp at hP;simp[aon,hP,ef]
 | some k =>
   rw[hk,Option.bind_some] at hP;have hok:=(aDN hk).1;have hR:ayK k=nJ k:=by unfold ayK;rw[if_pos hok]
   simp[aoo];refine aZ (aa.at (Pu k)) ?_;simp[hP,hR,ef]
theorem act (l:aT) (p:Grant->Bool) (g:Nat) (caps:List V) (hc:∀ hp,caps.map (cz hp 6)=caps) (hp:∀ x ∈ l,di g (bd x::caps) (B (p x))) :
  di gp [.ro 18 (l.map bd),.clo g caps] (I (idx p l)):=by
 refine aa.ofL sJ (by simp) fun hl=>?_;simp at hl;simp[mN,lI,lJ,lP];refine GJ (fun i:Nat=>⟨[(0,.ro 18 (l.map bd)),(1,.clo g caps),(7,I l.length),(8,I i)],[],[]⟩) (fun i=>l.length - i) (fun i=>i<=l.length/\∀ j (_:j < i) (hj:j < l.length),p l[j]=false) 0 Wk.li (by simp) ?_;rintro i ⟨hi,hj⟩;simp[lK,lG];refine⟨fun hlt=>?_,fun hge=>?_⟩
 ·simp[lL,lM,hlt];refine al (aa.arg (hp l[i] (List.getElem_mem _)) (by simp[hc])) ?_;simp;refine⟨fun ht=>?_,fun hf=>?_⟩
  ·simp[lN];exact(ac2 hlt (fun j h=>hj j h (by omega)) ht).symm
  ·simp[lO];rw[aD (by omega)];refine FD (i+1) (by omega) ⟨by omega,fun j h h'=>?_⟩ Wk.li;by_cases e:j=i
   ·subst e;exact hf
   ·exact hj j (by omega) h'
 ·have:idx p l = -1:=JD fun j h=>hj j (by omega) h;simp[this]
theorem ah3 (x:Grant) (n:Int):di sB [bd x,.rp 1 [I n] 0 0] (B (x.number==n)):=by
 refine aa.of aam (by simp) ?_;simp[Jg,GR,GS]
def asv (l:aT) (n:Int):Int:=idx (fun g=>g.number==n) l
theorem M7 (l:aT) (n:Int):asv l n=match xD l n with | some i=>(i:Int) | none => -1:=by
 unfold asv xD;cases h:List.findIdx? (fun g:Grant=>g.number==n) l with
 | none =>
   refine JD fun j hj=>?_;have:=List.findIdx?_eq_none_iff.1 h _ (List.getElem_mem hj);simpa using this
 | some i =>
   obtain ⟨h1,h2,h3⟩:=List.findIdx?_eq_some_iff_getElem.1 h;exact ac2 h1 (fun j hj=>by simpa using h3 j hj) h2
theorem Ob {l:aT} {n:Int} {i:Nat} (h:xD l n=some i):i < l.length:=(List.findIdx?_eq_some_iff_getElem.1 h).1
theorem HR (l:aT) (n:Int):di qp [bn l,I n] (I (asv l n)):=by
 refine aa.of ahb (by simp) ?_;simp[NJ,Kw,Kx];refine al (aa.ag (act l (fun g=>g.number==n) sB [.rp 1 [I n] 0 0] (by simp) fun x _=>ah3 x n)) ?_;simp[asv]
theorem hZ (l:aT) (s:List UInt8):di mX [bn l,S s] (ef (nQ l s)):=by
 have hA:nQ l s=(ol s).bind fun n=>(xD l n).map fun i=>(l.getD i Dz).arms:=rfl;refine aa.of ahc (by simp) ?_;simp[NK,Ky,Kz];refine bB (aa.ag (MM s)) rfl (.inl (by simp[eZ])) (by simp[eZ]) ?_;simp[eZ,KA];refine al (aa.ag (HR l ((ol s).getD 0))) ?_;simp[KB];cases hn:ol s with
 | none =>
   rw[hn] at hA;simp[Av,hA,ef]
 | some n =>
   rw[hn,Option.bind_some] at hA;have hp:=M7 l n;cases hi:xD l n with
   | none =>
     rw[hi] at hA hp;simp[hp,Av,hA,ef]
   | some i =>
     rw[hi] at hA hp;have hlt:=Ob hi;have hg:l[i]?=some l[i]:=List.getElem?_eq_getElem hlt;have hgd:l.getD i Dz=l[i]:=by rw[List.getD_eq_getElem?_getD,hg];rfl
     rw[Option.map_some,hgd] at hA;generalize l[i]=x at hA hg;simp[hp,KC,hg,hA,ef];omega
def An (p:Grant->Bool) (l:aT):List Int:=l.filterMap fun g=>if p g=true then some g.number else none
theorem ayz {p:Grant->Bool} {l:aT} {i:Nat} (h:i < l.length):An p (l.take (i+1))=An p (l.take i)++(if p l[i]=true then [l[i].number] else []):=by
 unfold An;rw[dP h,List.filterMap_append];congr 1;rw[List.filterMap_cons];split<;>split<;>simp_all
theorem aJr (p:Grant->Bool) (l:aT) (i:Nat):(An p (l.take i)).length<=i:=by
 have h:=List.length_filterMap_le (fun g:Grant=>if p g=true then some g.number else none) (l.take i);rw[List.length_take] at h;unfold An;omega
theorem HS (l:aT) (hl:l.length<=1000) (p:Grant->Bool) (g:Nat) (caps:List V) (hc:∀ hp,caps.map (cz hp 6)=caps) (hm:∀ k,da k caps=false) (hr:∀ a b,Jd a b caps=caps) (hp:∀ x ∈ l,di g (bd x::caps) (B (p x))) :
  di qq [bn l,.clo g caps] (.own 1 (mi (An p l))):=by
 refine aa.of ahd (by simp) ?_;simp[NL,KD,KE,KF,JL];refine⟨hm _,hm _,?_⟩;refine dl (fun i:Nat=>⟨[(1,.clo g caps),(5,.sl 8 0 (An p (l.take i)).length),(10,.ro 18 (l.map bd)),(11,I l.length),(12,I i)],[(8,⟨1,mi (An p (l.take i))⟩)],[]⟩) (fun i=>l.length - i) (fun i=>i<=l.length) 0 (Wk.list rfl (by simp[An]) (by simp[An])) (by simp) ?_;intro i hi K hN hR hE;have hcl:=aJr p l i;simp[KG,KK];refine⟨fun hlt=>?_,fun hge=>?_⟩
 ·have hcs:=ayz (p:=p) hlt;obtain ⟨x,hx⟩:∃ x,l[i]=x:=⟨_,rfl⟩;have hg:l[i]?=some x:=by rw[<- hx];exact List.getElem?_eq_getElem hlt
  have hxm:x ∈ l:=by rw[<- hx];exact List.getElem_mem _
  rw[hx] at hcs;generalize An p (l.take i)=L at hcl hcs ⊢;simp[KH,KI,hg];refine⟨hlt,hm _,?_⟩;refine al (aa.arg (hp x hxm) (by simp[hc])) ?_;simp;refine⟨fun ht=>?_,fun hf=>?_⟩
  ·rw[if_pos ht] at hcs;simp[KJ];refine⟨hm _,by unfold bR;omega,hm _,?_⟩;rw[aD (by omega)];refine hN (i+1) _ (by omega) (by omega) (Wk.trans (Wk.ren 23 8 (by decide) (by simp[hm])) (Wk.list rfl ?_ ?_))
   ·simp[hr,hcs]
   ·simp[hcs]
  ·rw[if_neg (by simp[hf]),List.append_nil] at hcs;rw[aD (by omega)];exact hN (i+1) _ (by omega) (by omega) (Wk.list rfl (by simp[hcs]) (by simp[hcs]))
 ·obtain rfl:i=l.length:=by omega
  refine hE _ _ ?_;simp[KL]
def aBd (g:Grant):Int×Int×Arms:=(g.number,g.year,g.arms)
theorem aLl (l:aT) (i:Nat) (name:List UInt8):(D6 l i name).map aBd=l.map aBd:=by
 unfold D6;rw[List.map_set];by_cases h:i < l.length
 ·have e:aBd ⟨(l.getD i Dz).number,name,(l.getD i Dz).year,(l.getD i Dz).arms⟩=(l.map aBd)[i]'(by simpa using h):=by
   rw[List.getElem_map,List.getD_eq_getElem?_getD,List.getElem?_eq_getElem h,Option.getD_some];rfl
  rw[e];exact List.set_getElem_self _
 ·exact List.set_eq_of_length_le (by simpa using h)
theorem aMj {l m:aT} (h:l.map aBd=m.map aBd) (j:Nat):aBd (l.getD j Dz)=aBd (m.getD j Dz):=by
 have:=congrArg (fun x=>x[j]?) h;simp only[List.getElem?_map] at this;rw[List.getD_eq_getElem?_getD,List.getD_eq_getElem?_getD];cases e1:l[j]?<;>cases e2:m[j]?<;>rw[e1,e2] at this<;>simp_all
theorem aRp {l m:aT} (h:l.map aBd=m.map aBd) (j:Nat) (p:Arms->Bool):((l.take j).all fun k=>p k.arms)=((m.take j).all fun k=>p k.arms):=by
 have e:∀ l:aT,((l.take j).all fun k=>p k.arms)=((l.map aBd).take j).all fun k=>p k.2.2:=fun l=>by
  rw[<- List.map_take,List.all_map];rfl
 rw[e,e,h]
theorem aJD {l:aT} {i j:Nat} (name:List UInt8) (hi:i < l.length):((D6 l i name).getD j Dz).name=if j=i then name else (l.getD j Dz).name:=by
 unfold D6;rw[List.getD_eq_getElem?_getD,List.getElem?_set];by_cases h:i=j
 ·subst h;simp[hi]
 ·rw[if_neg h,if_neg (fun e=>h e.symm),List.getD_eq_getElem?_getD]
theorem aAL {l:aT} {i j:Nat} (name:List UInt8) (hi:i < l.length) (h:oW l j=true):oW (D6 l i name) j=if j=i then mR name else true:=by
 have hk:=aLl l i name;have k1:=aMj hk j;have k2:=aMj hk (j - 1);have k3:=aRp hk j (fun a=>!decide (kx a (l.getD j Dz).arms < 2));have hn:=aJD (j:=j) name hi;simp only[aBd,Prod.mk.injEq] at k1 k2;unfold oW at h ⊢;simp only[Bool.and_eq_true] at h;obtain ⟨h1,h2,h3⟩:=h;unfold H6 at h2 ⊢;unfold jx at h1 ⊢;rw[k1.1,k1.2.1,k1.2.2,k2.1,k2.2.1,hn];have k3':((D6 l i name).take j).all (fun k=>!decide (kx k.arms (l.getD j Dz).arms < 2))=true:=k3.trans h3;rw[h2,k3'];simp only[Bool.and_eq_true] at h1;obtain ⟨g1,g2,g3,g4⟩:=h1;rw[g1,g3,g4];split
 ·simp
 ·rw[g2];rfl
theorem ag2 {l:aT} {i:Nat} (name:List UInt8) (hi:i < l.length) (h:bx l=true):bx (D6 l i name)=mR name:=by
 unfold bx at h ⊢;simp only[Bool.and_eq_true,decide_eq_true_eq,List.all_eq_true,List.mem_range] at h;obtain ⟨h1,h2⟩:=h;have hl:(D6 l i name).length=l.length:=by simp[D6]
 rw[hl,decide_eq_true h1,Bool.true_and];cases e:mR name with
 | true =>
   refine List.all_eq_true.2 fun j hj=>?_;rw[aAL name hi (h2 j (List.mem_range.1 hj)),e];simp
 | false =>
   rw[Bool.eq_false_iff];intro hh;have:=List.all_eq_true.1 hh i (List.mem_range.2 hi);rw[aAL name hi (h2 i hi),if_pos rfl,e] at this;cases this
@[simp] theorem aNr (hp:Nat->Option Blk) (k:Nat) (l:aT):List.map (cz hp (k+2)∘bd) l=l.map bd:=by
 refine List.map_congr_left fun s _=>?_;simp
theorem aKO (x:Grant):di Sy [bd x] (B true):=by
 refine aa.of aEk (by simp) ?_;simp[as4,ai4,ai5]
theorem aKP (x:Grant) (s:List UInt8):di Sz [bd x,.rp 1 [S s] 0 0] (B (x.name==s)):=by
 refine aa.of aEl (by simp) ?_;simp[as5,ai6,ai7]
theorem atP (x:Grant) (b:Arms) (hx:cN x.arms.field=true) (hb:cN b.field=true):di xT [bd x,.rp 15 [dj b] 0 0] (B (decide (kx x.arms b < 2))):=by
 refine aa.of ahT (by simp) ?_;simp[Qg,L4,L5];refine al (aa.ag (aCV x.arms b hx hb)) ?_;simp
theorem aNM {l:aT} (h:bx l=true):∀ x ∈ l,cN x.arms.field=true:=by
 simp only[bx,Bool.and_eq_true] at h;have:=asI (Nat.le_refl l.length) h.2
 rwa [List.take_of_length_le (Nat.le_refl _)] at this
theorem aA5 (l:aT) (b:Arms) (h:bx l=true) (hb:arms b=true):di JQ [bn l,dj b] (.tup [.own 1 (mi (V3 l b)),B true]):=by
 have hl:=eo h;have e:V3 l b=An (fun g=>decide (kx g.arms b < 2)) l:=by unfold V3 An;simp
 refine aa.ofN arI (by simp) ?_;simp[VJ,Qs,Qt];refine al (aa.ag (gR l)) ?_;rw[h];simp;refine al (aa.ag (GB b)) ?_;rw[hb];simp[Qu];refine aZ (aa.ag (HS l (by omega) (fun g=>decide (kx g.arms b < 2)) xT [.rp 15 [dj b] 0 0] (by simp) (by simp) (by simp) fun x hx=>atP x b (aNM h x hx) (gM hb))) ?_;simp[e]
theorem aKN (l:aT) (b:Arms) (h:bx l=true):di ada [bn l,dj b] (eZ (NR l b)):=by
 have hl:=eo h;have hF:NR l b=(l.find? fun g=>decide (g.arms=b)).map (·.number):=rfl;refine aa.of aEi (by simp) ?_;simp[as2,aiN,aiO];refine al (aa.ag (gR l)) ?_;rw[h];simp[aiP,ah8];refine dl (fun i:Nat=>⟨[(3,.ref 3 0 0),(12,.ro 18 (l.map bd)),(13,I l.length),(14,I i)],[(3,⟨15,[dj b]⟩)],[]⟩) (fun i=>l.length - i) (fun i=>i<=l.length/\l.find? (fun g=>decide (g.arms=b))=(l.drop i).find? (fun g=>decide (g.arms=b))) 0 Wk.li (by simp) ?_;rintro i ⟨hi,hj⟩ K hN hR hE;simp[aiQ,aiU];refine⟨fun hlt=>?_,fun hge=>?_⟩
 ·obtain ⟨x,hx⟩:∃ x,l[i]=x:=⟨_,rfl⟩;have hg:l[i]?=some x:=by rw[<- hx];exact List.getElem?_eq_getElem hlt
  rw[atA hg] at hj;simp[aiR,aiS,hg];refine⟨hlt,?_⟩;refine⟨fun e1 e2 e3 e4 e5 e6 e7 e8 e9 e10 e11 e12 e13 e14 e15=>?_,fun hne=>?_⟩
  ·have he:=asU e1 e2 e3 e4 e5 e6 e7 e8 e9 e10 e11 e12 e13 e14 e15;rw[if_pos (by simpa using he)] at hj;simp[aiT];refine hR _ ?_;simp[hF,hj,eZ]
  ·have he:x.arms≠b:=fun h=>by rw[h] at hne;exact hne rfl rfl rfl rfl rfl rfl rfl rfl rfl rfl rfl rfl rfl rfl rfl
   rw[if_neg (by simpa using he)] at hj;rw[aD (by omega)];exact hN (i+1) _ (by omega) ⟨by omega,hj⟩ Wk.li
 ·obtain rfl:i=l.length:=by omega
  rw[List.drop_of_length_le (by omega)] at hj;refine hE _ _ ?_;simp[ae4,hF,hj,eZ]
@[simp] theorem aRm (l:aT):fu (List.map bd l)=[]:=by
 refine azL ?_
 induction l with
 | nil=>rfl
 | cons x l ih=>simp[bN,gV,ih]
@[simp] theorem aRs (g:Nat->Nat) (l:aT):L2 g (List.map bd l)=List.map bd l:=by
 induction l with
 | nil=>rfl
 | cons x l ih=>simp[L2,ahh,ih]
theorem aBa (l:aT):jA Tryz.prog JZ [⟨18,l.map bd⟩] [.agg [.sl (mG 0) 0 l.length]] (fun r k nw=>r=(.tup [.agg [if bx l=true then .sl (mG 0) 0 l.length else nM],B (bx l)])/\k=[⟨18,l.map bd⟩]/\nw=none):=by
 refine jA.of arY (by simp) ?_;simp[VX,Ru,Rv];refine al (aa.at (gR l)) ?_;cases h:bx l with
 | true =>
   simp[Rx];exact A9 (by simp) (by simp) (by simp)
 | false =>
   simp[Rw];exact A9 (by simp) (by simp) (by simp)
def acR (o:Option aT):V:=.tup [bn (o.getD []),B o.isSome]
def ah1 (o:Option (aT×Int)):V:=.tup [bn (o.getD ([],0)).1,I (o.getD ([],0)).2,B o.isSome]
def FU (o:Option aT):V:=.tup [ly (o.getD []),B o.isSome]
def atM (o:Option (aT×Int)):V:=.tup [ly (o.getD ([],0)).1,I (o.getD ([],0)).2,B o.isSome]
theorem aHa {l:aT} (h:bx l=true) (hne:l≠[]):fV (List.getLastD l Dz).number 1 999=true/\l[l.length - 1]?=some (List.getLastD l Dz):=by
 have hpos:=List.length_pos_iff.2 hne
 have hg:l[l.length - 1]?=some (List.getLastD l Dz):=by
  rw[List.getLastD_eq_getLast?,List.getLast?_eq_getElem?,List.getElem?_eq_getElem (by omega)];rfl
 refine⟨?_,hg⟩;simp only[bx,Bool.and_eq_true] at h;have:=List.all_eq_true.1 h.2 (l.length - 1) (List.mem_range.2 (by omega));have hgj:l.getD (l.length - 1) Dz=List.getLastD l Dz:=by rw[List.getD_eq_getElem?_getD,hg];rfl
 rw[oW,hgj] at this;simp only[Bool.and_eq_true,jx] at this;exact this.1.1
theorem aIO (l:aT) (name:List UInt8) (y:Int) (a:Arms) (h:bx l=true):di Zh [bn l,S name,I y,dj a] (atM (yj l name y a)):=by
 have hl:=eo h;have hG:yj l name y a=if bx (l++[⟨kk l,name,y,a⟩])=true then some (l++[⟨kk l,name,y,a⟩],kk l) else none:=rfl
 have hN:kk l=if l=[] then 1 else (List.getLastD l Dz).number+1:=rfl
 refine aa.ofN aCC (by simp) ?_;simp[anD,ae5,ae6];refine al (aa.ag (gR l)) ?_;rw[h];simp[ae7,ae8,ae9];refine⟨fun hpos=>?_,fun hnil=>?_⟩
 focus
  have hne:l≠[]:=List.length_pos_iff.1 hpos;obtain ⟨r1,r2⟩:=aHa h hne;rw[if_neg hne] at hN;generalize List.getLastD l Dz=z at r1 r2 hN;simp[fV] at r1;simp[afa];rw[aD (n:=(List.length l:Int) - 1) (by omega)];have e1:((List.length l:Int) - 1).toNat=l.length - 1:=by omega
  simp only[e1,r2];simp
  repeat (refine⟨by omega,?_⟩)
  rw[aD (by omega)];have hnb : -2<=kk l/\kk l<=1000:=by omega
  refine cp ⟨[(1,S name),(2,I y),(4,.ref 4 0 0),(7,.ref 7 0 0),(8,.ref 8 0 0),(11,I (kk l))],[(8,⟨1,[.agg [nM]]⟩),(7,⟨15,[dj a]⟩),(4,⟨1,[bn l]⟩)],[]⟩ (Wk.list rfl (by simp[hN]) (by simp)) ?_
 rotate_left
 focus
  rw[if_pos hnil] at hN;have hnb : -2<=kk l/\kk l<=1000:=by omega
  refine cp ⟨[(1,S name),(2,I y),(4,.ref 4 0 0),(7,.ref 7 0 0),(8,.ref 8 0 0),(11,I (kk l))],[(8,⟨1,[.agg [nM]]⟩),(7,⟨15,[dj a]⟩),(4,⟨1,[bn l]⟩)],[]⟩ (Wk.list rfl (by simp[hN]) (by simp)) ?_
 rotate_left
 all_goals
  clear hN;generalize kk l=n at hG hnb ⊢;simp[afb];refine aZ (aa.ag (vh l (by omega))) ?_;simp[afc];refine⟨by unfold bR;omega,?_⟩;obtain ⟨L,hL⟩:∃ L:aT,l++[⟨n,name,y,a⟩]=L:=⟨_,rfl⟩;rw[hL] at hG
  have hm:l.map bd++[.agg [I n,S name,I y,I a.field.division,I a.field.line,I a.field.first,I a.field.second,I a.ordinary,I a.line,I a.tincture,
   I a.on.count,I a.on.kind,I a.on.attitude,I a.on.tincture,I a.around.count,I a.around.kind,I a.around.attitude,I a.around.tincture]]=L.map bd:=by rw[<- hL,List.map_append];rfl
  have hLl:L.length=l.length+1:=by rw[<- hL];simp
  rw[hm];refine cp _ (Wk.refl _) ?_;simp[afd,<- hLl,List.take_of_length_le];refine al (aa.at (gR L)) ?_;cases hv:bx L with
  | true =>
    rw[if_pos hv] at hG;simp[aaJ,hG,atM]
  | false =>
    rw[if_neg (by simp[hv])] at hG;simp[aaI,hG,atM]
theorem aA9 (l:aT) (n:Int) (name:List UInt8) (h:bx l=true):di JW [bn l,I n,S name] (FU (oX l n name)):=by
 have hl:=eo h;have hT:oX l n name=(xD l n).bind fun i=>if mR name=true then some (D6 l i name) else none:=rfl
 have hp:=M7 l n;refine aa.ofN arQ (by simp) ?_;simp[VR,Q7,Q8];refine al (aa.ag (HR l n)) ?_;simp[Q9];refine al (aa.ag (gR l)) ?_;rw[h];simp;cases hi:xD l n with
 | none =>
   rw[hi] at hT hp;simp[hp,Ra,hT,FU]
 | some i =>
   rw[hi] at hT hp;rw[Option.bind_some] at hT;have hlt:=Ob hi;have hr:=ag2 name hlt h;have hg:l[i]?=some l[i]:=List.getElem?_eq_getElem hlt;have hR:D6 l i name=l.set i ⟨(l.getD i Dz).number,name,(l.getD i Dz).year,(l.getD i Dz).arms⟩:=rfl;have hgd:l.getD i Dz=l[i]:=by rw[List.getD_eq_getElem?_getD,hg];rfl
   rw[hgd] at hR;generalize l[i]=x at hg hR;simp[hp];refine⟨by omega,?_⟩;simp[Rb];refine aZ (aa.ag (vh l (by omega))) ?_;simp[Rc,hg];refine⟨hlt,?_⟩;obtain ⟨L,hL⟩:∃ L:aT,l.set i ⟨x.number,name,x.year,x.arms⟩=L:=⟨_,rfl⟩;rw[hL] at hR;rw[hR] at hT hr
   have hm:(l.map bd).set i (.agg [I x.number,S name,I x.year,I x.arms.field.division,I x.arms.field.line,I x.arms.field.first,I x.arms.field.second,I x.arms.ordinary,I x.arms.line,I x.arms.tincture,
    I x.arms.on.count,I x.arms.on.kind,I x.arms.on.attitude,I x.arms.on.tincture,I x.arms.around.count,I x.arms.around.kind,I x.arms.around.attitude,I x.arms.around.tincture])=L.map bd:=by rw[<- hL,List.map_set]
   have hLl:L.length=l.length:=by rw[<- hL];simp
   rw[hm];refine cp _ (Wk.refl _) ?_;simp[Rd,<- hLl,List.take_of_length_le];have hvr:=aBa L;cases hv:mR name with
   | true =>
     rw[hv] at hr;rw[if_pos hv] at hT;rw[hr] at hvr;refine ahM [22] [] (jA.arg hvr (by simp)) (by simp) (by simp) (by simp) (by simp) (by simp) (by simp) ?_;simp[hT,FU]
   | false =>
     rw[hv] at hr;rw[if_neg (by simp[hv])] at hT;rw[hr] at hvr;refine ahM [22] [] (jA.arg hvr (by simp)) (by simp) (by simp) (by simp) (by simp) (by simp) (by simp) ?_;simp[hT,FU]
def UP:=[eF 2 1 0,eF 3 15 1,ok 4 vN]
def UQ:=[oo 7 (.bslice 1 (vI 0) 0 []),om 5 7]
def UR:=[ok 6 (vI 0)]
def US:=[om 8 6,aL 9 0 2,bl 10 1 9,oo 11 (.len false (.t 10)),cI 12 .lss 8 11]
def UT:=[aL 15 0 2,bl 16 1 15,om 17 6,ft 18 18 16 17,aL 19 3 18,bu 20 15 19,bu 21 15 3,dK 22 HB 20 21]
def Aq:List (List Nat):=[[],[0],[],[0,1,2],[0,1,2,3],[0,1,2,3,4],[],[0,1,2,3,4,5,6]]
def UU:=[om 23 5,aL 24 0 2,bl 25 1 24,om 26 6,ft 27 18 25 26,aL 28 0 27,bl 29 1 28,oo 30 (.bslice 1 (vI 0) 1 [(0,(.t 29))]),oo 31 (.app 1 8 (.t 23) (.t 30)),om 5 31]
def Ih:=[om 13 6,fL 14 13 1,om 6 14]
def TM:C:=(ss (sr US [2,3,5,6,12] (sc 12 .skip (.exit 0))) (ss (.block 1 (ss (.regD UT Aq [2,3,5,6,22]) (sc 22 (.reg UU [2,3,5,6]) .skip))) (.reg Ih [2,3,5,6])))
def UV:=[om 32 5,om 4 32]
def aaf:C:=(sr UP [2,3] (sr UQ [2,3,5] (ss (sr UR [2,3,5,6] (.block 0 (.loop TM))) (sr UV [4] .ret))))
def ayj:Nat->List Nat
 | 0=>[2,3]
 | 1=>[2,3,5]
 | 2=>[2,3,5,6]
 | 3=>[2,3,5,6,12]
 | 5=>[2,3,5,6,22]
 | 6=>[2,3,5,6]
 | 4=>[2,3,5,6]
 | 7=>[4]
 | _=>[]
theorem atI:cE ue aaf [(.tmp 4)] 33 :=
 ⟨Tryz.f128,_,ayj,func128,rfl,by kernel_rfl,by kernel_rfl,by kernel_rfl,rfl⟩
abbrev U (n:Int):V:=.v (.int .u64 n)
def aW7 {α:Type} (p:α->Bool) (x:α) (l:List α):List α:=l.take (l.length - (l.reverse.takeWhile p).length)++x::l.drop (l.length - (l.reverse.takeWhile p).length)
def aV5 {α:Type} (lt:α->α->Bool) (l:List α):List α:=l.foldl (fun acc x=>aW7 (lt x) x acc) []
def aQn {α:Type} (sz:α->Nat) (p:List α):Nat:=(p.map sz).sum
def Uc {α:Type} (sz:α->Nat) (h:Nat):List (List α)->List α->List α->Option (List (List α))
 | done,cur,[]=>some (if cur.isEmpty then done else done++[cur])
 | done,cur,x::xs=>if h < sz x then none else if cur.isEmpty then Uc sz h done [x] xs else if h < aQn sz cur+sz x then Uc sz h (done++[cur]) [x] xs else Uc sz h done (cur++[x]) xs
def aFC {α:Type} (sz:α->Nat) (h:Nat) (l:List α):Option (List (List α)):=Uc sz h [] [] l
def Nq {α:Type} (sz:α->Nat) (h:Nat) (L:List α) (k:Nat) (P:List (List α)):Prop :=
 (k=0/\P=[])\/∃ done cur,P=done++[cur]/\cur≠[]/\aFC sz h L=Uc sz h done cur (L.drop k)
section
variable {α : Type} {sz : α → Nat} {h : Nat} {L : List α} {k : Nat} {P : List (List α)}
theorem Nq.fail (hp:Nq sz h L k P) (hk:k < L.length) (hs:h < sz L[k]):aFC sz h L=none:=by
 rcases hp with ⟨rfl,rfl⟩ | ⟨done,cur,rfl,hc,e⟩
 ·cases L with
  | nil=>simp at hk
  | cons x L =>
    simp at hs;rw[aFC,Uc,if_pos hs]
 ·rw[e,List.drop_eq_getElem_cons hk,Uc,if_pos hs]
theorem Nq.new (hp:Nq sz h L k P) (hk:k < L.length) (hs:¬h < sz L[k]) (hn:P=[]\/∃ done cur,P=done++[cur]/\h < aQn sz cur+sz L[k]):Nq sz h L (k+1) (P++[[L[k]]]):=by
 refine .inr ⟨P,[L[k]],rfl,by simp,?_⟩;rcases hp with ⟨rfl,rfl⟩ | ⟨done,cur,rfl,hc,e⟩
 ·cases L with
  | nil=>simp at hk
  | cons x L =>
    simp at hs;rw[aFC,Uc,if_neg (by omega)];simp
 ·have hc':cur.isEmpty=false:=by cases cur<;>simp_all
  rcases hn with hn | ⟨done',cur',e2,hn⟩
  ·simp at hn
  ·have e3:=List.append_inj' e2 rfl;simp only[List.cons.injEq,and_true] at e3;obtain ⟨rfl,rfl⟩:=e3;rw[e,List.drop_eq_getElem_cons hk,Uc,if_neg hs,hc',if_neg (by simp),if_pos hn]
theorem Nq.add {done:List (List α)} {cur:List α} (hp:Nq sz h L k (done++[cur])) (hk:k < L.length) (hs:¬h < sz L[k]) (hn:¬h < aQn sz cur+sz L[k]):Nq sz h L (k+1) (done++[cur++[L[k]]]):=by
 rcases hp with ⟨_,e⟩ | ⟨done',cur',e2,hc,e⟩
 ·simp at e
 ·have e3:=List.append_inj' e2 rfl;simp only[List.cons.injEq,and_true] at e3;obtain ⟨rfl,rfl⟩:=e3;have hc':cur.isEmpty=false:=by cases cur<;>simp_all
  exact .inr ⟨done,cur++[L[k]],rfl,by simp,by rw[e,List.drop_eq_getElem_cons hk,Uc,if_neg hs,hc',if_neg (by simp),if_neg hn]⟩
theorem Nq.done (hp:Nq sz h L L.length P):aFC sz h L=some P:=by
 rcases hp with ⟨h0,rfl⟩ | ⟨done,cur,rfl,hc,e⟩
 ·have:L=[]:=List.length_eq_zero_iff.1 h0;subst this;rfl
 ·have hc':cur.isEmpty=false:=by cases cur<;>simp_all
  rw[e,List.drop_length,Uc,hc'];rfl
end
structure Roll where
 by_:Int
 width:Int
 height:Int
def aTO (x:Roll):Bool:=fV x.by_ 1 3&&fV x.width 20 60&&fV x.height 4 20
def aVT (y:Int) (a b:Grant):Bool:=if y=2 then decide (a.name < b.name) else if y=3 then decide (nL a.arms < nL b.arms) else false
def aRP (y:Int) (l:List Grant):List Grant:=aV5 (aVT y) l
def aU9 (g:Grant):List UInt8:=fw g.number.toNat++[46,32]++g.name++[44,32]++fw g.year.toNat
def aTd (w:Int) (g:Grant):List (List UInt8):=aU9 g::(fill (w - 2) (parts 32 (nL g.arms))).map fun x=>[32,32]++x
def aTJ (x:Roll) (l:List Grant):Option (List (List Grant)):=aFC (fun g=>(aTd x.width g).length) x.height.toNat (aRP x.by_ l)
def aQZ (l:List Grant) (x:Roll):Bool:=bx l&&aTO x
def aXK (l:List Grant) (x:Roll):Option (List (List Grant)):=if aQZ l x then aTJ x l else none
def yd (r:aT) (b:Arms) (i:Nat):List Int:=(r.take i).filterMap fun g=>if kx g.arms b < 2 then some g.number else none
theorem amW (r:aT) (b:Arms) (i:Nat):(yd r b i).length<=i:=by
 have h:=List.length_filterMap_le (fun g:Grant=>if kx g.arms b < 2 then some g.number else none) (r.take i);rw[List.length_take] at h;unfold yd;omega
theorem aKx {r:aT} {b:Arms} {i:Nat} (h:i < List.length r):yd r b (i+1)=yd r b i++(if kx (r[i]'h).arms b < 2 then [(r[i]'h).number] else []):=by
 unfold yd;rw[dP (l:=(r:List Grant)) h,List.filterMap_append];congr 1;rw[List.filterMap_cons];split<;>split<;>simp_all
theorem LJ (r:aT) (b:Arms) (hr:List.length r<=100):di ue [bn r,dj b] (.own 1 (mi (yd r b (List.length r)))):=by
 refine aa.of atI (by simp) ?_;simp[aaf,UP,UQ,UR];refine dl (fun i:Nat=>⟨[(2,.ref 2 0 0),(3,.ref 3 0 0),(5,.sl 7 0 (yd r b i).length),(6,I i)],[(2,⟨1,[bn r]⟩),(3,⟨15,[dj b]⟩),(7,⟨1,mi (yd r b i)⟩)],[]⟩) (fun i=>List.length r - i) (fun i=>i<=List.length r) 0 (Wk.list rfl (by simp[yd]) (by simp[yd])) (by simp) ?_;intro i hi K hN hR hE;have hcl:=amW r b i;simp[TM,US];refine⟨fun hlt=>?_,fun hge=>?_⟩
 ·have hcs:=aKx (b:=b) hlt;simp[UT,Aq,hlt];refine cF (aa.ag (ZZ (r[i]'hlt).arms b)) ?_;by_cases hd:kx (r[i]'hlt).arms b < 2
  ·rw[if_pos hd] at hcs;simp[hd];refine⟨a7 (by simp[Aq]) (by simp),?_⟩;simp[UU,Ih,hlt];refine⟨by unfold bR;omega,?_⟩;rw[aD (by omega)];refine hN (i+1) _ (by omega) (by omega) (Wk.trans (Wk.ren 31 7 (by decide) (by simp)) (Wk.list rfl ?_ ?_))
   ·simp[AS.ren,ren,reN,hcs]
   ·simp[AS.ren,ren,reN,ad3,hcs]
  ·rw[if_neg hd] at hcs;simp[hd];refine⟨a7 (by simp[Aq]) (by simp),?_⟩;simp[Ih];rw[aD (by omega)];refine hN (i+1) _ (by omega) (by omega) (Wk.list rfl ?_ ?_)
   ·simp[hcs]
   ·simp[hcs]
 ·obtain rfl:i=List.length r:=by omega
  refine hE _ _ ?_;simp only[cv];simp[UV]
theorem anb (l:aT) (hl:l.length<=1000000) (n:Int):di Iw [bn l,I n] (I (asv l n)):=by
 refine aa.of aGl (by simp) ?_;simp[azb,aoT,aoU,anX];refine dl (fun i:Nat=>⟨[(1,I n),(2,.ref 2 0 0),(5,I i)],[(2,⟨1,[bn l]⟩)],[]⟩) (fun i=>l.length - i) (fun i=>i<=l.length/\∀ j (_:j < i) (hj:j < l.length),(l[j].number==n)=false) 0 Wk.li (by simp) ?_;rintro i ⟨hi,hj⟩ K hN hR hE;simp[aoV,aoY];refine⟨fun hlt=>?_,fun hge=>?_⟩
 ·simp[aoW,hlt];refine⟨fun ht=>?_,fun hf=>?_⟩
  ·simp[aoX];refine hR _ ?_;have:=ac2 (p:=fun g:Grant=>g.number==n) hlt (fun j h=>hj j h (by omega)) (by simpa using ht);simp[asv,this]
  ·rw[aD (by omega)];refine hN (i+1) _ (by omega) ⟨by omega,fun j h h'=>?_⟩ Wk.li;by_cases e:j=i
   ·subst e;simpa using hf
   ·exact hj j (by omega) h'
 ·refine hE _ _ ?_;have:idx (fun g:Grant=>g.number==n) l = -1:=JD fun j h=>hj j (by omega) h;simp[aoZ,asv,this]
theorem aLr (l:aT) (b:Arms) (h:bx l=true):di adh [bn l,dj b] (eZ (NR l b)):=by
 have hl:=eo h;have hF:NR l b=(l.find? fun g=>decide (g.arms=b)).map (·.number):=rfl;refine aa.of aEs (by simp) ?_;simp[atb,ajz,ajA];refine al (aa.ag (zx l)) ?_;rw[h];simp[ajB,aic];refine dl (fun i:Nat=>⟨[(2,.ref 2 0 0),(3,.ref 3 0 0),(6,I i)],[(2,⟨1,[bn l]⟩),(3,⟨15,[dj b]⟩)],[]⟩) (fun i=>l.length - i) (fun i=>i<=l.length/\l.find? (fun g=>decide (g.arms=b))=(l.drop i).find? (fun g=>decide (g.arms=b))) 0 Wk.li (by simp) ?_;rintro i ⟨hi,hj⟩ K hN hR hE;simp[ajC,ajF];refine⟨fun hlt=>?_,fun hge=>?_⟩
 ·obtain ⟨x,hx⟩:∃ x,l[i]=x:=⟨_,rfl⟩;have hg:l[i]?=some x:=by rw[<- hx];exact List.getElem?_eq_getElem hlt
  rw[atA hg] at hj;simp[ajD,T8,hg];refine⟨hlt,a7 (by simp[T8]) (by simp),fun e1 e2 e3 e4 e5 e6 e7 e8 e9 e10 e11 e12 e13 e14 e15=>?_,fun hne=>?_⟩
  ·have he:=asU e1 e2 e3 e4 e5 e6 e7 e8 e9 e10 e11 e12 e13 e14 e15;rw[if_pos (by simpa using he)] at hj;simp[ajE,hg];refine⟨hlt,hR _ ?_⟩;simp[hF,hj,eZ]
  ·have he:x.arms≠b:=fun h=>by rw[h] at hne;exact hne rfl rfl rfl rfl rfl rfl rfl rfl rfl rfl rfl rfl rfl rfl rfl
   rw[if_neg (by simpa using he)] at hj;rw[aD (by omega)];exact hN (i+1) _ (by omega) ⟨by omega,hj⟩ Wk.li
 ·obtain rfl:i=l.length:=by omega
  rw[List.drop_of_length_le (by omega)] at hj;refine hE _ _ ?_;simp[ajG,hF,hj,eZ]
theorem aLs (l:aT) (s:List UInt8) (h:bx l=true):di adi [bn l,S s] (.tup [.own 1 (mi (ofL l s)),B true]):=by
 have hl:=eo h;have e:ofL l s=An (fun g=>g.name==s) l:=by unfold ofL An;simp
 rw[e];refine aa.of aEt (by simp) ?_;simp[atc,ajH,ajI,ajJ];refine al (aa.ag (zx l)) ?_;rw[h];simp[ajK,aid];refine dl (fun i:Nat=>⟨[(1,S s),(2,.ref 2 0 0),(6,.sl 8 0 (An (fun g=>g.name==s) (l.take i)).length),(7,I i)],[(2,⟨1,[bn l]⟩),(8,⟨1,mi (An (fun g=>g.name==s) (l.take i))⟩)],[]⟩) (fun i=>l.length - i) (fun i=>i<=l.length) 0 (Wk.list rfl (by simp[An]) (by simp[An])) (by simp) ?_;intro i hi K hN hR hE;have hcl:=aJr (fun g=>g.name==s) l i;simp[ajL,ajO];refine⟨fun hlt=>?_,fun hge=>?_⟩
 ·have hcs:=ayz (p:=fun g=>g.name==s) hlt;obtain ⟨x,hx⟩:∃ x,l[i]=x:=⟨_,rfl⟩;have hg:l[i]?=some x:=by rw[<- hx];exact List.getElem?_eq_getElem hlt
  rw[hx] at hcs;generalize An (fun g=>g.name==s) (l.take i)=L at hcl hcs ⊢;simp[ajM,hg];refine⟨hlt,?_⟩;refine⟨fun ht=>?_,fun hf=>?_⟩
  ·rw[if_pos (by simpa using ht)] at hcs;simp[ajN,hg];refine⟨hlt,by unfold bR;omega,?_⟩;rw[aD (by omega)];refine hN (i+1) _ (by omega) (by omega) (Wk.trans (Wk.ren 36 8 (by decide) (by simp)) (Wk.list rfl ?_ ?_))
   ·simp[hcs]
   ·simp[hcs]
  ·rw[if_neg (by simpa using hf),List.append_nil] at hcs;rw[aD (by omega)];exact hN (i+1) _ (by omega) (by omega) (Wk.list rfl (by simp[hcs]) (by simp[hcs]))
 ·obtain rfl:i=l.length:=by omega
  refine hE _ _ ?_;simp[afP]
theorem aO3 (l:aT) (b:Arms):yd l b l.length=V3 l b:=by
 unfold yd V3;rw[List.take_of_length_le (Nat.le_refl _)]
theorem aJK (l:aT) (name:List UInt8) (y:Int) (a:Arms) (h:bx l=true):di Zm [bn l,S name,I y,dj a] (ah1 (yj l name y a)):=by
 have hl:=eo h;have hG:yj l name y a=if bx (l++[⟨kk l,name,y,a⟩])=true then some (l++[⟨kk l,name,y,a⟩],kk l) else none:=rfl
 have hN:kk l=if l=[] then 1 else (List.getLastD l Dz).number+1:=rfl
 refine aa.ofN aCK (by simp) ?_;simp[anJ,afG,afH];refine al (aa.ag (zx l)) ?_;rw[h];simp[afI,afJ,afK];refine⟨fun hpos=>?_,fun hnil=>?_⟩
 focus
  have hne:l≠[]:=List.length_pos_iff.1 hpos;obtain ⟨r1,r2⟩:=aHa h hne;rw[if_neg hne] at hN;generalize List.getLastD l Dz=z at r1 r2 hN;simp[fV] at r1;simp[afL];rw[aD (n:=(List.length l:Int) - 1) (by omega)];have e1:((List.length l:Int) - 1).toNat=l.length - 1:=by omega
  simp only[e1,r2];simp
  repeat (refine⟨by omega,?_⟩)
  rw[aD (by omega)];have hnb : -2<=kk l/\kk l<=1000:=by omega
  refine cp ⟨[(1,S name),(2,I y),(4,.ref 4 0 0),(7,.ref 7 0 0),(8,.ref 8 0 0),(11,I (kk l))],[(8,⟨1,[.agg [nM]]⟩),(7,⟨15,[dj a]⟩),(4,⟨1,[bn l]⟩)],[]⟩ (Wk.list rfl (by simp[hN]) (by simp)) ?_
 rotate_left
 focus
  rw[if_pos hnil] at hN;have hnb : -2<=kk l/\kk l<=1000:=by omega
  refine cp ⟨[(1,S name),(2,I y),(4,.ref 4 0 0),(7,.ref 7 0 0),(8,.ref 8 0 0),(11,I (kk l))],[(8,⟨1,[.agg [nM]]⟩),(7,⟨15,[dj a]⟩),(4,⟨1,[bn l]⟩)],[]⟩ (Wk.list rfl (by simp[hN]) (by simp)) ?_
 rotate_left
 all_goals
  clear hN;generalize kk l=n at hG hnb ⊢;simp[afM];refine aZ (aa.ag (Vl l (by omega))) ?_;simp[afN];refine⟨by unfold bR;omega,?_⟩;obtain ⟨L,hL⟩:∃ L:aT,l++[⟨n,name,y,a⟩]=L:=⟨_,rfl⟩;rw[hL] at hG
  have hm:l.map bd++[.agg [I n,S name,I y,I a.field.division,I a.field.line,I a.field.first,I a.field.second,I a.ordinary,I a.line,I a.tincture,
   I a.on.count,I a.on.kind,I a.on.attitude,I a.on.tincture,I a.around.count,I a.around.kind,I a.around.attitude,I a.around.tincture]]=L.map bd:=by rw[<- hL,List.map_append];rfl
  have hLl:L.length=l.length+1:=by rw[<- hL];simp
  rw[hm];refine cp _ (Wk.frz 41 ⟨18,L.map bd⟩ (by simp) (by simp) (by simp)) ?_;simp[afO,<- hLl,List.take_of_length_le];refine al (aa.ag (zx L)) ?_;cases hv:bx L with
  | true =>
    rw[if_pos hv] at hG;simp[abK,hG,ah1]
  | false =>
    rw[if_neg (by simp[hv])] at hG;simp[abJ,hG,ah1]
theorem aBo (l:aT) (n:Int) (name:List UInt8) (h:bx l=true):di J2 [bn l,I n,S name] (acR (oX l n name)):=by
 have hl:=eo h;have hT:oX l n name=(xD l n).bind fun i=>if mR name=true then some (D6 l i name) else none:=rfl
 have hp:=M7 l n;refine aa.ofN ar1 (by simp) ?_;simp[V0,RM,RN];refine al (aa.ag (anb l (by omega) n)) ?_;simp[RO];refine al (aa.ag (zx l)) ?_;rw[h];simp;cases hi:xD l n with
 | none =>
   rw[hi] at hT hp;simp[hp,Gg,hT,acR]
 | some i =>
   rw[hi] at hT hp;rw[Option.bind_some] at hT;have hlt:=Ob hi;have hg:l[i]?=some l[i]:=List.getElem?_eq_getElem hlt;have hR:D6 l i name=l.set i ⟨(l.getD i Dz).number,name,(l.getD i Dz).year,(l.getD i Dz).arms⟩:=rfl;have hgd:l.getD i Dz=l[i]:=by rw[List.getD_eq_getElem?_getD,hg];rfl
   rw[hgd] at hR;generalize l[i]=x at hg hR;simp[hp];refine⟨?_,fun h=>by omega⟩;refine al (aa.ag (ayO name)) ?_;cases hv:mR name with
   | false =>
     rw[if_neg (by simp[hv])] at hT;simp[Gg,hT,acR]
   | true =>
     rw[if_pos hv] at hT;simp[RP];refine aZ (aa.ag (Vl l (by omega))) ?_;simp[RQ,hg];refine⟨hlt,?_⟩;have hlm:i < (l.map bd).length:=by rw[List.length_map];exact hlt
     simp[RR,RT,hlt];obtain ⟨L,hL⟩:∃ L:aT,l.set i ⟨x.number,name,x.year,x.arms⟩=L:=⟨_,rfl⟩;rw[hL] at hR;rw[hR] at hT
     have hm:(l.map bd).set i (.agg [I x.number,S name,I x.year,I x.arms.field.division,I x.arms.field.line,I x.arms.field.first,I x.arms.field.second,I x.arms.ordinary,I x.arms.line,I x.arms.tincture,
      I x.arms.on.count,I x.arms.on.kind,I x.arms.on.attitude,I x.arms.on.tincture,I x.arms.around.count,I x.arms.around.kind,I x.arms.around.attitude,I x.arms.around.tincture])=L.map bd:=by rw[<- hL,List.map_set]
     have hLl:L.length=l.length:=by rw[<- hL];simp
     rw[hm];refine cp _ (Wk.frz 28 ⟨18,L.map bd⟩ (by simp) (by simp) (by simp)) ?_;simp[RU,<- hLl,List.take_of_length_le,hT,acR]
theorem aER (l:aT) (n:Int) (h:bx l=true):di PD [bn l,I n] (.tup [ly ((D7 l n).getD []),B (D7 l n).isSome]):=by
 have hl:=eo h;have hT:D7 l n=(xD l n).map fun i=>l.eraseIdx i:=rfl;have hp:=M7 l n;refine aa.ofN ax3 (by simp) ?_;simp[aew,XA,XB];refine al (aa.ag (anb l (by omega) n)) ?_;simp[XC];refine al (aa.ag (zx l)) ?_;rw[h];simp;cases hi:xD l n with
 | none =>
   rw[hi] at hT hp;simp[hp,XD,hT]
 | some i =>
   rw[hi] at hT hp;rw[Option.map_some] at hT;have hlt:=Ob hi;simp[hp];refine⟨by omega,?_⟩;simp[XE,Kb];rw[aD (by omega)];have e1:((i:Int)+1).toNat=i+1:=by omega
   have e2:List.take (l.length - (i+1)) (List.drop (i+1) (l.map bd))=(l.drop (i+1)).map bd:=by
    rw[List.take_of_length_le (by simp),List.map_drop]
   have e3:List.take (min i l.length) (List.take i (l.map bd))=(l.take i).map bd:=by
    rw[List.take_take,List.map_take,Nat.min_eq_left (Nat.min_le_left _ _),Nat.min_eq_left (by omega)]
   have e4:l.eraseIdx i=l.take i++l.drop (i+1):=List.eraseIdx_eq_take_drop_succ ..;rw[e4] at hT;rw[e1,e2,e3,hT];generalize l.take i=A;generalize l.drop (i+1)=B;simp;exact⟨by omega,by unfold bR;omega,⟨by omega,by omega⟩,by unfold bR;omega,a7 (by simp[Kb]) (by simp)⟩
def ajk:=[ok 2 (vS [])]
def ajl:=[om 6 0,oo 7 (.len false (.t 6)),cn 8 .eql 7 0]
def ajm:=[ok 2 (vS [110,111,110,101])]
def ajn:=[oo 9 (.bslice 1 (vS []) 0 []),om 3 9]
def ajo:=[om 10 0,oo 11 (.len false (.t 10)),ok 12 (vI 0)]
def ajp:=[cI 13 .lss 12 11]
def ajq:=[ft 14 1 10 12,bl 15 1 14,om 5 15]
def ajr:=[om 16 3,om 17 5,cg 18 kF 17,oo 19 (.bslice 1 (vS []) 1 [(0,(.t 18))]),oo 20 (.app 1 16 (.t 16) (.t 19)),om 3 20]
def ajs:=[fL 21 12 1,om 12 21]
def aib:C:=(sr ajp [3,10,11,12,13] (ss (sc 13 .skip (.exit 0)) (ss (.block 1 (sr ajq [3,5,10,11,12] (.reg ajr [3,10,11,12]))) (.reg ajs [3,10,11,12]))))
def afF:=[om 22 3,oo 23 (.call aiw [.t 22,(.k (vS [32]))]),om 2 23]
def as9:C:=(sr ajk [0] (ss (sr ajl [0,8] (sc 8 (sr ajm [2] .ret) .skip)) (sr ajn [0,3] (ss (sr ajo [3,10,11,12] (.block 0 (.loop aib))) (sr afF [2] .ret)))))
theorem aEp:cE adg as9 [(.tmp 2)] 24:=dE func162 rfl
def Xq:=[ok 4 (vS []),ok 5 (vB false)]
def Xr:=[om 6 0,cg 7 adg 6,om 8 1,om 4 7,om 5 8]
def aeu:C:=(sr Xq [0,1] (sr Xr [4,5] .ret))
theorem ax1:cE A7 aeu [(.tmp 4),(.tmp 5)] 9:=dE func100 rfl
def abA:=[ok 4 (vS []),ok 5 (vB false)]
def abB:=[om 6 0,cg 7 kF 6,om 8 1,om 4 7,om 5 8]
def ahH:C:=(sr abA [0,1] (sr abB [4,5] .ret))
theorem aA0:cE JY ahH [(.tmp 4),(.tmp 5)] 9:=dE func109 rfl
def akD:=[ok 2 (vS [])]
def akE:=[om 5 0,oo 6 (.len false (.t 5)),cn 7 .eql 6 0]
def akF:=[ok 2 (vS [110,111,110,101])]
def akG:=[om 8 0,oo 9 (.iaddr 1 (.t 8) (xI 0)),bl 10 1 9,cg 11 gk 10,om 3 11]
def akH:=[ok 4 (vI 1)]
def akI:=[om 12 4,om 13 0,oo 14 (.len false (.t 13)),cI 15 .lss 12 14]
def akJ:=[om 18 3,oo 19 (.bin .add .none (.t 18) (.k (vS [32]))),om 20 0,om 21 4,ft 22 1 20 21,bl 23 1 22,cg 24 gk 23,cI 25 .add 19 24,om 3 25]
def akK:=[om 16 4,fL 17 16 1,om 4 17]
def aih:C:=(ss (sr akI [0,3,4,15] (sc 15 .skip (.exit 0))) (ss (.block 1 (.reg akJ [0,3,4])) (.reg akK [0,3,4])))
def akL:=[om 26 3,om 2 26]
def atk:C:=(sr akD [0] (ss (sr akE [0,7] (sc 7 (sr akF [2] .ret) .skip)) (sr akG [0,3] (ss (sr akH [0,3,4] (.block 0 (.loop aih))) (sr akL [2] .ret)))))
def aGW:Nat->List Nat
 | 0=>[0]
 | 1=>[0,7]
 | 2=>[2]
 | 3=>[0,3]
 | 4=>[0,3,4]
 | 5=>[0,3,4,15]
 | 7=>[0,3,4]
 | 6=>[0,3,4]
 | 8=>[2]
 | _=>[]
theorem aEB:cE J3 atk [(.tmp 2)] 27 :=
 ⟨Tryz.f85,_,aGW,func85,rfl,by kernel_rfl,by kernel_rfl,by kernel_rfl,rfl⟩
def aPL (l:List Int):Prop:=∀ x ∈ l,T3 x
theorem ayi:∀ {l:List (List UInt8)},(∀ x ∈ l,x.length<=7)->(A4 l).length<=8 * l.length
 | [],_=>by simp[A4]
 | [x],h=>by
   have:=h x (by simp);simp[A4];omega
 | x::y::l,h=>by
   have h1:=h x (by simp);have h2:=ayi (l:=y::l) fun z hz=>h z (by simp[hz]);simp only[A4,List.length_append,List.length_cons] at h2 ⊢;omega
def itL (l:List Int) (i:Nat):List (List UInt8):=(l.take i).map Lib.itoa
theorem aIY {l:List Int} {i:Nat} (h:i < l.length):itL l (i+1)=itL l i++[Lib.itoa l[i]]:=by unfold itL;rw[dP h,List.map_append];rfl
theorem aGP {l:List Int} {i:Nat} (h:i<=l.length):(itL l i).length=i:=by unfold itL;simp;omega
theorem aMi (l:List Int):itL l l.length=l.map Lib.itoa:=by unfold itL;rw[List.take_length]
theorem aFr {l:List Int} (hn:aPL l) (i:Nat):∀ x ∈ itL l i,x.length<=7:=fun x hx=>by
 obtain ⟨y,hy,rfl⟩:=List.mem_map.1 hx;exact aas (hn y (List.mem_of_mem_take hy))
theorem aKR (l:List Int) (hl:l.length<=1000) (hn:aPL l):di adg [.ro 1 (mi l)] (S (FL l)):=by
 have hT:FL l=if l=[] then aJq else A4 (l.map Lib.itoa):=rfl
 refine aa.of aEp (by simp) ?_;simp[as9,ajk,ajl];refine⟨fun h=>?_,fun h=>?_⟩
 ·rw[if_pos h] at hT;simp[ajm,hT,aJq]
 ·rw[if_neg h] at hT;simp[ajn,ajo,aib];refine dl (fun i:Nat=>⟨[(3,.sl 9 0 i),(10,.ro 1 (mi l)),(11,I l.length),(12,I i)],[(9,⟨1,(itL l i).map S⟩)],[]⟩) (fun i=>l.length - i) (fun i=>i<=l.length) 0 (Wk.list rfl (by simp) (by simp[itL])) (by simp) ?_;intro i hi K hN hR hE;have hLl:=aGP hi;simp[ajp,ajs];refine⟨fun hlt=>?_,fun hge=>?_⟩
  ·obtain ⟨x,hx⟩:∃ x,l[i]=x:=⟨_,rfl⟩;have hg:l[i]?=some x:=by rw[<- hx];exact List.getElem?_eq_getElem hlt
   have hxn:=hn x (by rw[<- hx];exact List.getElem_mem _);have hnx:=aIY hlt;rw[hx] at hnx;have htk:List.take i ((itL l i).map S)=(itL l i).map S:=List.take_of_length_le (by rw[List.length_map];omega);simp[ajq,ajr,hg];refine⟨hlt,?_⟩;refine al (aa.ag (am1 x ⟨by omega,by omega⟩)) ?_;simp;refine⟨⟨by omega,by unfold bR;omega⟩,?_⟩;rw[aD (by omega),htk];exact hN (i+1) _ (by omega) (by omega) (Wk.trans (Wk.ren 20 9 (by decide) (by simp)) (Wk.list rfl (by simp) (by simp[hnx])))
  ·obtain rfl:i=l.length:=by omega
   refine hE _ _ ?_;have hjl:=ayi (aFr hn l.length);rw[hLl] at hjl;rw[<- aMi] at hT;generalize itL l l.length=L at hT hjl hLl ⊢;simp[afF];refine al (aa.arg (aBr L (by omega) (by omega)) (by simp[List.take_of_length_le,hLl])) ?_;simp[hT]
theorem Y9 (l:List Int) (b:Bool) (hl:l.length<=1000) (hn:aPL l):di A7 [.ro 1 (mi l),B b] (.tup [S (FL l),B b]):=by
 refine aa.of ax1 (by simp) ?_;simp[aeu,Xq,Xr];refine al (aa.ag (aKR l hl hn)) ?_;simp
theorem atV (n:Int) (b:Bool) (hn:T3 n):di JY [I n,B b] (.tup [S (Lib.itoa n),B b]):=by
 refine aa.of aA0 (by simp) ?_;simp[ahH,abA,abB];refine al (aa.ag (am1 n ⟨by omega,by omega⟩)) ?_;simp
theorem asH (l:List Int) (hl:l.length<=1000) (hn:aPL l):di J3 [.ro 1 (mi l)] (S (FL l)):=by
 have hT:FL l=if l=[] then aJq else A4 (l.map Lib.itoa):=rfl
 refine aa.of aEB (by simp) ?_;simp[atk,akD,akE];refine⟨fun h=>?_,fun h=>?_⟩
 ·rw[if_pos h] at hT;simp[akF,hT,aJq]
 ·rw[if_neg h] at hT;have hpos:=List.length_pos_iff.2 h;obtain ⟨y,hy⟩:∃ y,l[0]=y:=⟨_,rfl⟩;have hg0:l[0]?=some y:=by rw[<- hy];exact List.getElem?_eq_getElem hpos
  have hyn:=hn y (by rw[<- hy];exact List.getElem_mem _);have ht1:l.take 1=[y]:=by rw[dP hpos,hy];rfl
  simp[akG,hg0];refine⟨hpos,?_⟩;refine al (aa.ag (j9 y ⟨by omega,by omega⟩)) ?_;simp[akH,aih];refine dl (fun i:Nat=>⟨[(0,.ro 1 (mi l)),(3,S (A4 (itL l i))),(4,I i)],[],[]⟩) (fun i=>l.length - i) (fun i=>1<=i/\i<=l.length) 1 (Wk.list rfl (by simp[itL,ht1,A4]) (by simp)) ⟨by simp,hpos⟩ ?_;rintro i ⟨hi1,hi⟩ K hN hR hE;simp[akI,akK];refine⟨fun hlt=>?_,fun hge=>?_⟩
  ·obtain ⟨x,hx⟩:∃ x,l[i]=x:=⟨_,rfl⟩;have hg:l[i]?=some x:=by rw[<- hx];exact List.getElem?_eq_getElem hlt
   have hxn:=hn x (by rw[<- hx];exact List.getElem_mem _)
   have hnx:A4 (itL l (i+1))=A4 (itL l i)++32::Lib.itoa x:=by
    rw[aIY hlt,hx];refine aC1 _ _ fun h=>?_;have:=aGP hi;rw[h] at this;simp only[List.length_nil] at this;omega
   have hjl:=ayi (aFr hn i);rw[aGP hi] at hjl;have hil:=aas hxn;generalize A4 (itL l i)=T at hnx hjl ⊢;simp[akJ,hg];refine⟨by omega,hlt,?_⟩;refine al (aa.ag (j9 x ⟨by omega,by omega⟩)) ?_;simp;refine⟨by omega,?_⟩;rw[aD (by omega)];exact hN (i+1) _ (by omega) ⟨by omega,by omega⟩ (Wk.list rfl (by simp[hnx]) (by simp))
  ·obtain rfl:i=l.length:=by omega
   refine hE _ _ ?_;simp[akL,hT,aMi]
def XH:=[eF 1 15 0,ok 2 vN]
def XI:=[aL 4 0 1,bu 5 4 4,cg 6 rG 5,om 3 6]
def XJ:=[aL 7 4 1,bl 8 1 7,cn 9 .gtr 8 0]
def XK:=[om 10 3,aL 11 6 1,bl 12 1 11,oo 13 (.bslice 1 (vI 0) 1 [(0,(.t 12))]),oo 14 (.app 1 8 (.t 10) (.t 13)),om 3 14]
def XL:=[aL 15 7 1,bu 16 4 15,cg 17 iA 16,oo 18 (.un .not (.t 17))]
def XM:=[om 19 3,aL 20 7 1,aL 21 3 20,bl 22 1 21,oo 23 (.bslice 1 (vI 0) 1 [(0,(.t 22))]),oo 24 (.app 1 8 (.t 19) (.t 23)),om 3 24]
def XN:=[aL 25 11 1,bu 26 4 25,cg 27 iA 26,oo 28 (.un .not (.t 27))]
def XO:=[om 29 3,aL 30 11 1,aL 31 3 30,bl 32 1 31,oo 33 (.bslice 1 (vI 0) 1 [(0,(.t 32))]),oo 34 (.app 1 8 (.t 29) (.t 33)),om 3 34]
def XP:=[om 35 3,om 2 35]
def aey:C:=(sr XH [1] (sr XI [1,3] (ss (sr XJ [1,3,9] (sc 9 (.reg XK [1,3]) .skip)) (ss (sr XL [1,3,18] (sc 18 (.reg XM [1,3]) .skip)) (ss (sr XN [1,3,28] (sc 28 (.reg XO [3]) .skip)) (sr XP [2] .ret))))))
theorem ax7:cE PF aey [(.tmp 2)] 36:=dE func214 rfl
def ala:=[ok 4 (vB false)]
def alb:=[om 5 0,oo 6 (.len true (.t 5)),om 7 1,oo 8 (.len true (.t 7)),cI 9 .lss 6 8,om 10 9,oF 10 11 (.mv (.t 0)),oF 10 12 (.len true (.t 11)),oF 10 13 (.mv (.t 1)),oF 10 14 (.len true (.t 13)),oF 10 15 (.bin .eql .none (.t 12) (.t 14)),oF 10 16 (.mv (.t 15)),oT 16 17 (.mv (.t 0)),oT 16 18 (.mv (.t 1)),oT 16 19 (.bin .lss .none (.t 17) (.t 18)),oF 10 20 (.pick (.t 16) (.t 19) (xB false)),oo 21 (.pick (.t 10) (xB true) (.t 20)),om 4 21]
def atn:C:=(sr ala [0,1] (sr alb [4] .ret))
theorem aEE:cE adt atn [(.tmp 4)] 22:=dE func212 rfl
def Ng:=[eF 3 15 0,eF 5 16 2,dD 6 16 pG]
def Nh:=[om 12 1,oo 13 (.len false (.t 12)),bu 14 15 3,cg 15 Wu 14,cI 16 .eql 13 15]
def abW:=[bu 17 15 3,cg 18 TY 17,om 19 1,oo 20 (.build pG [(0,(15,(.t 18))),(15,(1,(.t 19)))]),dD 7 16 pG,bg 16 7 20]
def abX:=[bu 21 16 7,cg 22 TZ 21,oo 23 (.un .not (.t 22))]
def abY:=[bu 24 16 5,bg 16 6 24]
def abZ:=[bu 26 16 7,cg 27 Nv 26,om 25 27,cJ 28 25 0,cJ 29 25 1,dD 8 15 lm,bg 15 8 28,om 9 29]
def ab0:=[om 30 9,om 31 30,oT 31 32 (.ld true 15 (.t 8)),oT 31 33 (.ld true 15 (.t 3)),oT 31 34 (.bin .eql (.struct [EK.int,EK.int,EK.int,EK.int,EK.int,EK.int,EK.int,EK.int,EK.int,EK.int,EK.int,EK.int,EK.int,EK.int,EK.int]) (.t 32) (.t 33)),oo 35 (.pick (.t 31) (.t 34) (xB false)),om 36 35,oT 36 37 (.ld true 16 (.t 7)),oT 36 38 (.call Ak [.t 37]),oT 36 39 (.ld true 16 (.t 5)),oT 36 40 (.call Ak [.t 39]),oT 36 41 (.call adt [.t 38,.t 40]),oo 42 (.pick (.t 36) (.t 41) (xB false))]
def uf:List (List Nat):=[[],[0],[0,1],[0,1],[0,1,2,3],[0,1,2,3,4],[0,1,2,3,4,5],[0,1,2,3,4,5,6],[0,1,2,3,4,5,6,7],[0,1,2,3,4,5,6],[0,1,2,3,4,5,6,7,8,9],[0,1,2,3,4,5,6,7,8,9,10],[0,1,2,3,4,5,6,7,8,9,10,11]]
def ab1:=[bu 43 16 7,bg 16 6 43]
def FA:=[bu 44 16 5,bg 16 6 44]
def ab2:=[oo 45 (.call Wv []),oo 46 (.build (.agg [vI 0,vI 0]) [(0,(1,(xI 5)))]),oo 47 (.bslice 2 (.agg [vI 0,vI 0]) 1 [(0,(.t 46))]),oo 48 (.app 2 16 (.t 45) (.t 47)),om 10 48]
def XQ:=[ok 11 (vI 0)]
def Lk:=[om 49 11,om 50 10,oo 51 (.len false (.t 50)),cI 52 .lss 49 51]
def XR:=[bu 55 15 3,oo 56 (.bslice 2 (.agg [vI 0,vI 0]) 0 []),om 57 1,oo 58 (.app 2 16 (.t 56) (.t 57)),om 59 10,om 60 11,ft 61 2 59 60,bu 62 2 61,oo 63 (.bslice 2 (.agg [vI 0,vI 0]) 1 [(0,(.t 62))]),oo 64 (.app 2 16 (.t 58) (.t 63)),bu 65 16 5,oo 66 (.call EC [.t 55,.t 64,.t 65]),bg 16 5 66]
def Kf:List (List Nat):=[[],[],[],[1,2],[],[],[4,5],[4,5,6],[4,5,6,7],[1,2,3,4,5,6,7,8],[],[0,1,2,3,4,5,6,7,8,9,10],[0,1,2,3,4,5,6,7,8,9,10,11]]
def XS:=[om 53 11,fL 54 53 1,om 11 54]
def Wj:C:=(ss (sr Lk [1,3,5,6,10,11,52] (sc 52 .skip (.exit 0))) (ss (.block 1 (.regD XR Kf [1,3,5,6,10,11])) (.reg XS [1,3,5,6,10,11])))
def XT:=[bu 67 16 5,bg 16 6 67]
def Tn:C:=(sr Ng [1,3,5,6] (ss (sr Nh [1,3,5,6,16] (sc 16 (sr abW [3,5,6,7] (ss (sr abX [3,5,6,7,23] (sc 23 (sr abY [6] .ret) .skip)) (ss (sr abZ [3,5,6,7,8,9] (ss (.regD ab0 uf [5,6,7,42]) (sc 42 (sr ab1 [6] .ret) .skip))) (sr FA [6] .ret)))) .skip)) (sr ab2 [1,3,5,6,10] (ss (sr XQ [1,3,5,6,10,11] (.block 0 (.loop Wj))) (sr XT [6] .ret)))))
def aC4:Nat->List Nat
 | 0=>[1,3,5,6]
 | 1=>[1,3,5,6,16]
 | 2=>[3,5,6,7]
 | 3=>[3,5,6,7,23]
 | 4=>[6]
 | 5=>[3,5,6,7,8,9]
 | 6=>[5,6,7,42]
 | 7=>[6]
 | 8=>[6]
 | 9=>[1,3,5,6,10]
 | 10=>[1,3,5,6,10,11]
 | 11=>[1,3,5,6,10,11,52]
 | 13=>[1,3,5,6,10,11]
 | 12=>[1,3,5,6,10,11]
 | 14=>[6]
 | _=>[]
theorem aeE:cE EC Tn [(.cell 6 true 16)] 68 :=
 ⟨Tryz.f147,_,aC4,func147,rfl,by kernel_rfl,by kernel_rfl,by kernel_rfl,rfl⟩
def aqZ:=[eF 1 15 0,dD 2 16 pG]
def aq0:=[bu 6 15 1,cg 7 TY 6,oo 8 (.bslice 2 (.agg [vI 0,vI 0]) 0 []),oo 9 (.build pG [(0,(15,(.t 7))),(15,(1,(.t 8)))]),dD 3 16 pG,bg 16 3 9]
def aq1:=[bu 10 15 1,cg 11 PF 10,om 4 11]
def aq2:=[aL 12 0 1,bu 13 4 12,cg 14 rG 13,oo 15 (.len false (.t 14)),om 5 15]
def ZV:=[om 16 5,om 17 4,oo 18 (.len false (.t 17)),cI 19 .lss 16 18]
def aq3:=[aL 22 15 3,bl 23 1 22,om 24 4,om 25 5,ft 26 1 24 25,bl 27 1 26,oo 28 (.build (.agg [vI 0,vI 0]) [(0,(1,(xI 1))),(1,(1,(.t 27)))]),oo 29 (.bslice 2 (.agg [vI 0,vI 0]) 1 [(0,(.t 28))]),oo 30 (.app 2 16 (.t 23) (.t 29)),aL 31 15 3,bg 1 31 30]
def Zw:List (List Nat):=[[],[0],[],[],[2,3],[2,3,4],[2,3,4,5],[2,3,4,5,6],[0,1,2,3,4,5,6,7],[0,1,2,3,4,5,6,7,8],[0,1,2,3,4,5,6,7,8,9]]
def aq4:=[om 20 5,fL 21 20 1,om 5 21]
def an5:C:=(ss (sr ZV [2,3,4,5,19] (sc 19 .skip (.exit 0))) (ss (.block 1 (.regD aq3 Zw [2,3,4,5])) (.reg aq4 [2,3,4,5])))
def aq5:=[bu 32 16 3,bg 16 2 32]
def azv:C:=(sr aqZ [1,2] (sr aq0 [1,2,3] (sr aq1 [1,2,3,4] (ss (sr aq2 [2,3,4,5] (.block 0 (.loop an5))) (sr aq5 [2] .ret)))))
def aI8:Nat->List Nat
 | 0=>[1,2]
 | 1=>[1,2,3]
 | 2=>[1,2,3,4]
 | 3=>[2,3,4,5]
 | 4=>[2,3,4,5,19]
 | 6=>[2,3,4,5]
 | 5=>[2,3,4,5]
 | 7=>[2]
 | _=>[]
theorem aGF:cE Iz azv [(.cell 2 true 16)] 33 :=
 ⟨Tryz.f148,_,aI8,func148,rfl,by kernel_rfl,by kernel_rfl,by kernel_rfl,rfl⟩
def pK:=[ok 2 vN]
def pL:=[om 3 0,oo 4 (.bin .eql .nil (.t 3) (.k vN))]
def zb:=[ok 2 vN]
def zc:=[oo 5 (.bslice 2 (.agg [vI 0,vI 0]) 0 []),om 6 0,oo 7 (.app 2 16 (.t 5) (.t 6)),om 2 7]
def rx:C:=(sr pK [0] (ss (sr pL [0,4] (sc 4 (sr zb [2] .ret) .skip)) (sr zc [2] .ret)))
theorem zN:cE mJ rx [(.tmp 2)] 8:=dE func168 rfl
def oz:=[om 13 0,oo 14 (.len false (.t 13)),aL 15 15 1,bl 16 1 15,oo 17 (.len false (.t 16)),cI 18 .lss 14 17]
def Aw:=[aL 19 15 1,bl 20 1 19,om 21 0,oo 22 (.len false (.t 21)),ft 23 2 20 22,bu 24 2 23,oo 25 (.build (.agg [vI 0,vI 0]) [(0,(1,(xI 5))),(1,(1,(xI 0)))]),oo 26 (.bslice 2 (.agg [vI 0,vI 0]) 2 [(0,(.t 24)),(1,(.t 25))]),oo 27 (.call Sx []),oo 28 (.slc (some 2) (.t 27) none (some (xI 5))),oo 29 (.app 2 16 (.t 26) (.t 28)),oo 30 (.len false (.t 29)),ok 31 (vI 0)]
def ot:List (List Nat):=[[],[0],[],[2],[0,1,2,3],[0,1,2,3,4],[],[0,1,2,3,4,5,6],[],[8],[0,1,2,3,4,5,6,7,8,9],[0,1,2,3,4,5,6,7,8,9,10],[]]
def oA:=[cI 32 .lss 31 30]
def Ax:=[ft 33 2 29 31,bu 34 2 33,dD 8 2 (.agg [vI 0,vI 0]),bg 2 8 34]
def Ay:=[bl 35 1 2,om 36 0,cg 37 mJ 36,bu 38 2 8,oo 39 (.bslice 2 (.agg [vI 0,vI 0]) 1 [(0,(.t 38))]),oo 40 (.app 2 16 (.t 37) (.t 39)),oo 41 (.callv (.t 35) [.t 40])]
def ow:List (List Nat):=[[],[],[1],[],[3],[1,2,3,4],[0,1,2,3,4,5]]
def Az:=[fL 42 31 1,om 31 42]
def Ae:C:=(sr oA [0,2,29,30,31,32] (ss (sc 32 .skip (.exit 0)) (ss (.block 1 (sr Ax [0,2,8,29,30,31] (.regD Ay ow [0,2,29,30,31]))) (.reg Az [0,2,29,30,31]))))
def AA:=[aL 43 0 1,bu 44 15 43,om 45 0,oo 46 (.build pG [(0,(15,(.t 44))),(15,(1,(.t 45)))]),dD 9 16 pG,bg 16 9 46]
def AB:=[bu 48 16 9,cg 49 DB 48,om 47 49,cJ 50 47 0,cJ 51 47 1,dD 10 15 lm,bg 15 10 50,om 11 51]
def lz:=[om 52 11,oo 53 (.un .not (.t 52)),om 54 53,oF 54 55 (.ld true 15 (.t 10)),oF 54 56 (.ld true 15 (.t 3)),oF 54 57 (.bin .neq (.struct [EK.int,EK.int,EK.int,EK.int,EK.int,EK.int,EK.int,EK.int,EK.int,EK.int,EK.int,EK.int,EK.int,EK.int,EK.int]) (.t 55) (.t 56)),oo 58 (.pick (.t 54) (xB true) (.t 57))]
def yM:=[bu 59 16 9,cg 60 vi 59,om 12 60]
def yN:=[om 61 12,oo 62 (.len true (.t 61)),bl 63 1 4,oo 64 (.len true (.t 63)),cI 65 .lss 62 64,om 66 65,oF 66 67 (.mv (.t 12)),oF 66 68 (.len true (.t 67)),oF 66 69 (.ld false 1 (.t 4)),oF 66 70 (.len true (.t 69)),oF 66 71 (.bin .eql .none (.t 68) (.t 70)),oF 66 72 (.mv (.t 71)),oT 72 73 (.mv (.t 12)),oT 72 74 (.ld false 1 (.t 4)),oT 72 75 (.bin .lss .none (.t 73) (.t 74)),oF 66 76 (.pick (.t 72) (.t 75) (xB false)),oo 77 (.pick (.t 66) (xB true) (.t 76))]
def yO:=[bu 78 16 9,om 79 12,bg 16 5 78,bg 1 4 79]
def qc:C:=(ss (sr oz [0,1,2,3,4,5,18] (sc 18 (ss (ss (.regD Aw ot [0,2,29,30,31]) (.block 0 (.loop Ae))) .ret) .skip)) (sr AA [3,4,5,9] (ss (sr AB [3,4,5,9,10,11] (sr lz [4,5,9,58] (sc 58 .ret .skip))) (sr yM [4,5,9,12] (sr yN [4,5,9,12,77] (sc 77 (.reg yO []) .skip))))))
theorem Df:cE kE qc [] 80:=dE func166 rfl
def OG:=[eF 1 15 0,dD 2 16 pG,ok 3 (vB false)]
def OH:=[bu 10 15 1,cg 11 PB 10,om 9 11,cJ 12 9 0,cJ 13 9 1,dD 4 16 pG,bg 16 4 12,om 5 13]
def OI:=[om 14 5,oo 15 (.un .not (.t 14))]
def aiW:=[oo 16 (.build pG []),bg 16 2 16,ok 3 (vB false)]
def OJ:=[bu 17 16 4,bu 18 16 4,cg 19 vi 18,dD 6 16 pG,dD 7 1 (vS []),bg 16 6 17,bg 1 7 19]
def EJ:List (List Nat):=[[],[],[1],[],[],[0,1,2,3,4],[0,1,2,3,4,5]]
def OK:=[dD 8 1 (.v .nilFunc)]
def OL:=[oo 20 (.clo kE [.t 4,.t 8,.t 1,.t 7,.t 6]),bg 1 8 20]
def OM:=[bl 21 1 8,oo 22 (.callv (.t 21) [(.k vN)])]
def ON:=[bu 23 16 6,bg 16 2 23,ok 3 (vB true)]
def Tk:C:=(sr OG [1,2] (sr OH [1,2,4,5] (ss (ss (.wk (.reg OI [1,2,4,15])) (sc 15 (sr aiW [2,3] .ret) .skip)) (ss (.regD OJ EJ [1,2,4,6,7]) (ss (.wk (.reg OK [1,2,4,6,7,8])) (sr OL [2,6,8] (sr OM [2,6] (sr ON [2,3] .ret))))))))
theorem anp:cE HX Tk [(.cell 2 true 16),(.tmp 3)] 24:=dE func105 rfl
def W7:=[eF 1 15 0,dD 2 16 pG,ok 3 (vB false)]
def W8:=[bu 7 15 1,cg 8 rD 7,oo 9 (.un .not (.t 8))]
def aum:=[oo 10 (.build pG []),bg 16 2 10,ok 3 (vB false)]
def W9:=[bu 11 15 1,oo 12 (.build pG [(0,(15,(.t 11)))]),dD 4 16 pG,bg 16 4 12]
def Xa:=[aL 13 0 4,cg 14 lw 13,oo 15 (.len false (.t 14)),ok 16 (vI 0)]
def DL:=[cI 17 .lss 16 15]
def Ks:=[ft 18 1 14 16,bl 19 1 18,om 6 19]
def Kt:=[aL 20 15 4,bl 21 1 20,om 22 6,aL 23 0 22,bl 24 1 23,oo 25 (.build (.agg [vI 0,vI 0]) [(0,(1,(xI 1))),(1,(1,(.t 24)))]),oo 26 (.bslice 2 (.agg [vI 0,vI 0]) 1 [(0,(.t 25))]),oo 27 (.app 2 16 (.t 21) (.t 26)),aL 28 15 4,bg 1 28 27]
def vT:List (List Nat):=[[],[0],[],[2],[2,3],[2,3,4],[2,3,4,5],[0,1,2,3,4,5,6],[0,1,2,3,4,5,6,7],[0,1,2,3,4,5,6,7,8]]
def Ku:=[om 29 6,aL 30 0 29,ou (.st 1 (.t 30) (xI 1))]
def Kv:=[fL 31 16 1,om 16 31]
def TL:C:=(sr DL [2,4,14,15,16,17] (ss (sc 17 .skip (.exit 0)) (ss (.block 1 (sr Ks [2,4,6,14,15,16] (ss (.regD Kt vT [2,4,6,14,15,16]) (.reg Ku [2,4,14,15,16])))) (.reg Kv [2,4,14,15,16]))))
def Ie:=[bu 32 16 4,bg 16 2 32,ok 3 (vB true)]
def aeq:C:=(sr W7 [1,2] (ss (sr W8 [1,2,9] (sc 9 (sr aum [2,3] .ret) .skip)) (sr W9 [2,4] (ss (sr Xa [2,4,14,15,16] (.block 0 (.loop TL))) (sr Ie [2,3] .ret)))))
theorem axX:cE PB aeq [(.cell 2 true 16),(.tmp 3)] 33:=dE func165 rfl
theorem ac6 (a:Arms):jy a=(jI a).map (atO a):=by
 unfold jy jI atO;by_cases h0:a.ordinary=0<;>cases h1:g0 a.on<;>cases h2:g0 a.around<;>simp[h0]
theorem aOS (a:Arms) (L:List Int):∀ i,i < (jI a).length->atO (FI a L i) ((jI a).getD i 0)=atO a ((jI a).getD i 0):=by
 have hle:=uV a;intro i hi;have:i=0\/i=1\/i=2:=by omega
 by_cases h0:a.ordinary=0<;>cases h1:g0 a.on<;>cases h2:g0 a.around<;>simp[jI,h0,h1,h2] at hi
 all_goals (rcases this with rfl | rfl | rfl<;>first | (exfalso;omega) | simp[jI,h0,h1,h2,FI,aEO,atO])
theorem Oc {a:Arms} (h:arms a=true):bM (fq a)=true:=by
 obtain ⟨b1,b2,b3,b4⟩:=aE1 h;have hb:(fq a).arms=gO a:=rfl;have hl:(fq a).slots=(jy a).map fun x=>⟨1,x⟩:=rfl;unfold bM;rw[hb,hl,b1,b2,b3,b4,List.length_map,asc]
 have h1:((jy a).map fun x=>(⟨1,x⟩:Slot)).all dF=true:=by
  rw[List.all_map,List.all_eq_true];intro x hx;exact aFs h x hx
 have h2:ahZ (gO a)=true:=by
  unfold ahZ gO Ir zM nO nN;by_cases h0:a.ordinary=0<;>cases h1:g0 a.on<;>cases h2:g0 a.around<;>simp[h0,h1,h2]
 have h3:((((jy a).map fun x=>(⟨1,x⟩:Slot)).length != 0)&&((((jy a).map fun x=>(⟨1,x⟩:Slot)).getLastD fX).mode==5))=false:=by
  generalize jy a=l;rcases List.eq_nil_or_concat l with rfl | ⟨r,x,rfl⟩
  ·rfl
  ·simp[List.getLastD_eq_getLast?]
 rw[List.length_map,asc] at h3;rw[h1,h2,h3];simp
def psV (i:Nat):V:=if i=0 then nM else .sl 100 0 i
def asB (a:Arms) (i:Nat):List Slot:=((jI a).take i).map fun o=>⟨1,atO a o⟩
def aEN (a:Arms) (i:Nat):AS:=⟨[(2,.ref 2 0 0),(4,.ref 4 0 0),(14,.sl 14 0 (jI a).length),(15,I (jI a).length),(16,I i)],
 [(2,⟨16,[.agg (cy a00 nM)]⟩),(4,⟨16,[.agg (cy (FI a [1,1,1] i) (psV i))]⟩),(14,⟨1,(jI a).map fun o=>.ref 4 0 o⟩)]++(if i=0 then [] else [(100,⟨2,(asB a i).map eX⟩)]),[]⟩
set_option maxHeartbeats 2000000 in
theorem aEJ (a:Arms) (h:arms a=true):di PB [dj a] (.tup [.agg (cy (gO a) (.own 2 ((fq a).slots.map eX))),B true]):=by
 have hle:=uV a;refine aa.ofN axX (by simp) ?_;simp[aeq,W7,W8];refine al (aa.ag (GB a)) ?_;simp[h,W9,Xa,TL];refine aHT [4] [] (jA.arg (Wb a 16 [nM] rfl rfl) (by simp)) (by simp) (by simp) (by simp[dO,nM]) (by simp) (by simp) (by simp[dO,nM]) (by simp) (by simp) ?_;simp;refine dl (aEN a) (fun i=>(jI a).length - i) (fun i=>i<=(jI a).length) 0 (Wk.list rfl (by simp[aEN]) (by simp[aEN,FI,dO,psV,nM])) (by simp) ?_;intro i hi K hN hR hE;by_cases hlt:i < (jI a).length
 ·obtain ⟨o,ho⟩:∃ o,(jI a)[i]=o:=⟨_,rfl⟩;have hg:(jI a)[i]?=some o:=by rw[<- ho];exact List.getElem?_eq_getElem hlt
  have hgD:(jI a).getD i 0=o:=by rw[List.getD_eq_getElem?_getD,hg];rfl
  have hom:=auc (a:=a) (o:=o) (by rw[<- ho];exact List.getElem_mem hlt);have hat:=aOS a [1,1,1] i hlt;rw[hgD] at hat
  have h1D:([1,1,1]:List Int).getD i 0=1:=by
   have:i=0\/i=1\/i=2:=by omega
   rcases this with rfl | rfl | rfl<;>rfl
  have hnx:FI a [1,1,1] (i+1)=aEO (FI a [1,1,1] i) o 1:=by rw[FI,hgD,h1D]
  have hsl:asB a (i+1)=asB a i++[⟨1,atO a o⟩]:=by unfold asB;rw[dP hlt,ho];simp
  have hsn:(asB a i).length=i:=by unfold asB;simp;omega
  rcases i with _ | i
  ·simp[aEN,DL,Kv,psV,nM,FI,hlt];simp[Ks,hg];have hn1:FI a [1,1,1] 1=aEO a o 1:=hnx;have hs1:asB a 1=[⟨1,atO a o⟩]:=by rw[hsl];rfl
   rcases hom with rfl | rfl | rfl
   all_goals
    simp[Kt,vT];refine⟨hlt,by decide,a7 (by simp[vT]) (by simp),?_⟩;simp[Ku];rw[aD (by omega)];refine hN 1 _ (by omega) (by omega) (Wk.trans (Wk.ren 27 100 (by decide) (by simp)) (Wk.list rfl ?_ ?_))
    ·simp[aEN]
    ·simp[aEN,hn1,aEO,psV,hs1,atO,nM]
  ·have hlt':(i:Int)+1 < (jI a).length:=by omega
   have htk:List.take (i+1) ((asB a (i+1)).map eX)=(asB a (i+1)).map eX:=List.take_of_length_le (by rw[List.length_map];omega);have hn1:FI a [1,1,1] (i+1+1)=aEO (FI a [1,1,1] (i+1)) o 1:=hnx;simp[aEN,DL,Kv,psV,hlt'];simp[Ks,hg];rcases hom with rfl | rfl | rfl
   all_goals
    simp[atO] at hat;simp[Kt,vT];refine⟨by omega,⟨by omega,by unfold bR;omega⟩,a7 (by simp[vT]) (by simp),?_⟩;simp[Ku];rw[aD (by omega)];refine hN (i+1+1) _ (by omega) (by omega) (Wk.trans (Wk.ren 27 100 (by decide) (by simp)) (Wk.list rfl ?_ ?_))
    ·simp[aEN]
    ·simp[aEN,hn1,aEO,psV,hsl,atO,nM,htk,hat]
 ·obtain rfl:i=(jI a).length:=by omega
  have hb:gO a=FI a [1,1,1] (jI a).length:=(aFi a [1,1,1]).symm
  have hs:(fq a).slots=asB a (jI a).length:=by
   have e:(fq a).slots=(jy a).map fun x=>⟨1,x⟩:=rfl;rw[e,ac6,asB,List.take_of_length_le (Nat.le_refl _)];simp
  have hsn:(asB a (jI a).length).length=(jI a).length:=by unfold asB;simp
  rw[hb,hs] at hE;simp[aEN,DL];refine hE _ _ ?_;by_cases h0:jI a=[]
  ·have e:(jI a).length=0:=by rw[h0];rfl
   rw[e] at hsn ⊢;have e2:asB a 0=[]:=rfl;simp[h0,Ie,psV,e2]
  ·have e:(jI a).length≠0:=by simpa using h0
   generalize FI a [1,1,1] (jI a).length=b;generalize asB a (jI a).length=ss at hsn ⊢;have hse:ss≠[]:=fun h=>by rw[h] at hsn;exact e hsn.symm
   simp[h0,Ie,psV,hsn]
theorem aMO:di mJ [nM] nM:=by
 refine aa.of zN (by simp) ?_;simp[rx,pK,pL,zb]
theorem aHW (L:List Slot) (h:L≠[]) (hl:L.length<=1000):di mJ [.ro 2 (L.map eX)] (.own 2 (L.map eX)):=by
 refine aa.of zN (by simp) ?_;simp[rx,pK,pL,zc,h];unfold bR;omega
def esv (L:List Slot):V:=if L=[] then nM else .ro 2 (L.map eX)
@[simp] theorem aVn (d:Nat) (L:List Slot):gj d (esv L)=false:=by unfold esv;split<;>simp
@[simp] theorem aOC (hp:Nat->Option Blk) (k:Nat) (L:List Slot):List.map (cz hp (k+2)∘eX) L=L.map eX:=by
 refine List.map_congr_left fun s _=>?_;simp
abbrev aSg:V:=.clo kE [.ref (mG 0) 0 0,.ref (mG 1) 0 0,.ref (mG 2) 0 0,.ref (mG 3) 0 0,.ref (mG 4) 0 0]
abbrev exH (a:Arms) (best:Sk):List Blk:=[⟨16,[eSk (fq a)]⟩,⟨1,[aSg]⟩,⟨15,[dj a]⟩,⟨1,[S (bH best)]⟩,⟨16,[eSk best]⟩]
abbrev arG (L:List Slot):List V:=[esv L,.ref (mG 0) 0 0,.ref (mG 1) 0 0,.ref (mG 2) 0 0,.ref (mG 3) 0 0,.ref (mG 4) 0 0]
theorem am8 (a:Arms):(fq a).slots.length=(jI a).length:=by
 have e:(fq a).slots=(jy a).map fun x=>⟨1,x⟩:=rfl;rw[e,ac6];simp
theorem axz:∀ {x y:List UInt8},Op.bytesLess x y=true↔x < y
 | [],[]=>by simp[Op.bytesLess]
 | [],y::ys=>by simp[Op.bytesLess]
 | x::xs,[]=>by simp[Op.bytesLess]
 | x::xs,y::ys=>by
   have ih:=@axz xs ys;rw[Op.bytesLess];rw[List.cons_lt_cons_iff];simp[ih]
theorem Sm (a b:List UInt8):Op.bytesLess a b=decide (a < b):=by rw[Bool.eq_iff_iff,axz,decide_eq_true_iff]
set_option maxHeartbeats 2000000 in
theorem aH6 (a:Arms) (ha:arms a=true) (L:List Slot) (best:Sk) (hl:L.length=(jI a).length) (hne:L≠[]) :
  jA Tryz.prog kE (exH a best) (arG L) (fun r k nw=>r=.tup []/\k=exH a (Kg a (gO a) best L)/\nw=none):=by
 have hpl:=am8 a;have hpa:(fq a).arms=gO a:=rfl;have hes:esv L=.ro 2 (L.map eX):=by unfold esv;rw[if_neg hne]
 refine jA.of Df (by simp) ?_;simp only[arG,hes];simp[qc,oz,hpl,hl,hpa];simp[AA,AB];obtain ⟨k,hk⟩:∃ k:Sk,(⟨gO a,L⟩:Sk)=k:=⟨_,rfl⟩;refine bB (aa.arg (Pu k) (by simp[<- hk,hpa])) rfl (.inl (by simp)) (by simp) ?_;have hR:ayK k=if bM k=true then nJ k else none:=rfl
 have hP:Kg a (gO a) best L=if aar a (gO a) L=true/\nS (bH k) (bH best)=true then k else best:=by rw[<- hk];rfl
 have hG:aar a (gO a) L=(bM k&&decide (nJ k=some a)):=by rw[<- hk];rfl
 rw[hP,hG];cases hv:ayK k with
 | none =>
   have hg:(bM k&&decide (nJ k=some a))=false:=by
    rw[hR] at hv;cases h1:bM k with
    | false=>rfl
    | true=>rw[h1,if_pos rfl] at hv;rw[hv];rfl
   rw[hg];simp[lz];exact A9 (by simp) (by simp) (by simp)
 | some b =>
   have h1:bM k=true:=by
    cases h1:bM k with
    | true=>rfl
    | false=>rw[hR,h1] at hv;simp at hv
   have h2:nJ k=some b:=by rw[hR,if_pos h1] at hv;exact hv
   by_cases hb:b=a
   ·subst hb;rw[h1,h2];simp[lz,yM];refine al (aa.arg (GC k h1) (by simp[<- hk,hpa])) ?_;simp[yN];have hbe:nS (bH k) (bH best)=(decide ((bH k).length < (bH best).length)||((bH k).length==(bH best).length&&decide (bH k < bH best))):=rfl;refine⟨fun h1=>⟨fun h2=>⟨fun h3=>?_,fun h3=>?_⟩,fun h2=>?_⟩,fun h1=>?_⟩
    ·have e:nS (bH k) (bH best)=true:=by
      rw[Sm,decide_eq_true_iff] at h3;rw[hbe];simp[h3];omega
     simp[yO,e];exact A9 (by simp) (by simp) (by simp[<- hk,hpa])
    ·have e:nS (bH k) (bH best)=false:=by
      rw[Sm,decide_eq_false_iff_not] at h3;rw[hbe];simp only[h3,decide_false,Bool.and_false,Bool.or_false,decide_eq_false_iff_not];omega
     simp only[e];exact A9 (by simp) (by simp) (by simp)
    ·have e:nS (bH k) (bH best)=false:=by
      rw[hbe];simp only[Bool.or_eq_false_iff,Bool.and_eq_false_iff,decide_eq_false_iff_not,beq_eq_false_iff_ne];exact⟨by omega,.inl (by omega)⟩
     simp only[e];exact A9 (by simp) (by simp) (by simp)
    ·have e:nS (bH k) (bH best)=true:=by
      rw[hbe];simp only[Bool.or_eq_true,decide_eq_true_iff];exact .inl (by omega)
     simp[yO,e];exact A9 (by simp) (by simp) (by simp[<- hk,hpa])
   ·have hg:(bM k&&decide (nJ k=some a))=false:=by rw[h2];simp[hb]
    rw[hg];simp[lz];refine⟨fun _=>A9 (by simp) (by simp) (by simp),fun e1 e2 e3 e4 e5 e6 e7 e8 e9 e10 e11 e12 e13 e14 e15=>absurd ?_ hb⟩;obtain ⟨⟨x1,x2,x3,x4⟩,x5,x6,x7,⟨x8,x9,x10,x11⟩,⟨x12,x13,x14,x15⟩⟩:=b;obtain ⟨⟨y1,y2,y3,y4⟩,y5,y6,y7,⟨y8,y9,y10,y11⟩,⟨y12,y13,y14,y15⟩⟩:=a
    simp_all
def exF (a:Arms) (r:Nat) (L:List Slot) (b:Sk):Sk:=(NQ (vx a) r L).foldl (Kg a (gO a)) b
theorem aPf (a:Arms) (L:List Slot) (b:Sk):exF a 0 L b=Kg a (gO a) b L:=rfl
theorem aPe (a:Arms) (r:Nat) (L:List Slot) (b:Sk):exF a (r+1) L b=(vx a L.length).foldl (fun b s=>exF a r (L++[s]) b) b:=by
 unfold exF;rw[NQ,List.foldl_flatMap]
def atx (a:Arms) (L C:List Slot) (i:Nat) (b:Sk):AS:=⟨[(0,esv L),(2,.ref (mG 1) 0 0),(29,.sl 29 0 7),(30,I 7),(31,I i)],
 [(mG 0,⟨16,[eSk (fq a)]⟩),(mG 1,⟨1,[aSg]⟩),(mG 2,⟨15,[dj a]⟩),(mG 3,⟨1,[S (bH b)]⟩),(mG 4,⟨16,[eSk b]⟩),(29,⟨2,C.map eX⟩)],[mG 0,mG 1,mG 2,mG 3,mG 4]⟩
set_option maxHeartbeats 4000000 in
theorem aIS (a:Arms) (ha:arms a=true):∀ (r:Nat) (L:List Slot) (best:Sk),L.length+r=(jI a).length->(L≠[]\/0 < r) ->
  jA Tryz.prog kE (exH a best) (arG L) (fun res k nw=>res=.tup []/\k=exH a (exF a r L best)/\nw=none)
 | 0,L,best,hl,hne=>aH6 a ha L best hl (hne.resolve_right (by omega))
 | r+1,L,best,hl,_=>by
   have hpl:=am8 a;have hle:=uV a;have ih:=aIS a ha r;obtain ⟨C,hC⟩:∃ C,vx a L.length=C:=⟨_,rfl⟩;have hCd:C=[(fq a).slots.getD L.length fX,fX]++jF:=hC.symm;have hCl:C.length=7:=by rw[hCd];rfl
   obtain ⟨sp,hsp⟩:∃ sp,(fq a).slots.getD L.length fX=sp:=⟨_,rfl⟩;have hg:(fq a).slots[L.length]?=some sp:=by rw[<- hsp,List.getD_eq_getElem?_getD,List.getElem?_eq_getElem (by omega)];rfl
   rw[hsp] at hCd
   have hn:(esv L=nM/\L=[])\/(esv L=.ro 2 (L.map eX)/\L≠[]):=by
    unfold esv;by_cases h:L=[]
    ·left;simp[h]
    ·right;simp[h]
   rw[aPe,hC];refine jA.of Df (by simp) ?_;simp only[arG];rcases hn with ⟨h1,h2⟩ | ⟨h1,h2⟩
   case inl =>
    have hL0:L.length=0:=by rw[h2];rfl
    rw[hL0] at hg;simp[qc,oz,h1];refine⟨fun h=>?_,fun h=>by (rw[h] at hpl;simp at hpl;omega)⟩;simp[Aw,ot,hg];have h14:iX.length=14:=rfl;refine⟨by omega,?_⟩;refine gm (aa.ag asa) ?_;simp[h14];refine⟨by decide,a7 (by simp[ot]) (by simp),?_⟩;simp[Ae];refine dl (fun p:Nat×Sk=>atx a L C p.1 p.2) (fun p=>7 - p.1) (fun p=>p.1<=7/\p.2=(C.take p.1).foldl (fun b s=>exF a r (L++[s]) b) best) (0,best) (Wk.list rfl (by simp[atx,h1]) (by simp[atx,hCd,fX,iX,jF])) (by simp) ?_;rintro ⟨i,b⟩ ⟨hi,hb⟩ K hN hR hE;dsimp only at hi hb;by_cases hlt:i < 7
    ·obtain ⟨s,hs⟩:∃ s,C[i]'(by omega)=s:=⟨_,rfl⟩;have hgc:C[i]?=some s:=by rw[<- hs];exact List.getElem?_eq_getElem (by omega)
     have hlti:(i:Int) < 7:=by omega
     have hbn:(C.take (i+1)).foldl (fun b s=>exF a r (L++[s]) b) best=exF a r (L++[s]) b:=by
      rw[dP (by omega),List.foldl_append,<- hb,hs];rfl
     have hcall:=ih (L++[s]) b (by simp;omega) (.inl (by simp));have hesv:esv (L++[s])=.ro 2 ((L++[s]).map eX):=by unfold esv;rw[if_neg (by simp)]
     simp[atx,oA,Az,hlti];simp[Ax,hgc];simp[Ay,ow,h1];refine⟨by omega,?_⟩;refine gm (aa.ag aMO) ?_;simp;refine⟨by decide,?_⟩;refine aBC [mG 0,mG 1,mG 2,mG 3,mG 4] [40] (jA.arg hcall (by simp[h2,esv])) (by simp) (by simp) (by simp) (by simp) rfl (by simp) (by simp) (by simp) (by simp) ?_;simp;refine⟨a7 (by simp[ow]) (by simp),?_⟩;rw[aD (by omega)];refine hN (i+1,exF a r (L++[s]) b) _ (by dsimp only;omega) ⟨by dsimp only;omega,hbn.symm⟩ (Wk.list rfl (by simp[atx,h1]) (by simp[atx]))
    ·obtain rfl:i=7:=by omega
     simp[atx,oA];refine hE _ _ ?_;rw[List.take_of_length_le (by omega)] at hb;simp[<- hb];exact A9 (by simp) (by simp) (by simp)
   case inr =>
    simp[qc,oz,h1];refine⟨fun h=>?_,fun h=>by omega⟩;simp[Aw,ot,hg];have h14:iX.length=14:=rfl;refine⟨by omega,?_⟩;refine gm (aa.ag asa) ?_;simp[h14];refine⟨by decide,a7 (by simp[ot]) (by simp),?_⟩;simp[Ae];refine dl (fun p:Nat×Sk=>atx a L C p.1 p.2) (fun p=>7 - p.1) (fun p=>p.1<=7/\p.2=(C.take p.1).foldl (fun b s=>exF a r (L++[s]) b) best) (0,best) (Wk.list rfl (by simp[atx,h1]) (by simp[atx,hCd,fX,iX,jF])) (by simp) ?_;rintro ⟨i,b⟩ ⟨hi,hb⟩ K hN hR hE;dsimp only at hi hb;by_cases hlt:i < 7
    ·obtain ⟨s,hs⟩:∃ s,C[i]'(by omega)=s:=⟨_,rfl⟩;have hgc:C[i]?=some s:=by rw[<- hs];exact List.getElem?_eq_getElem (by omega)
     have hlti:(i:Int) < 7:=by omega
     have hbn:(C.take (i+1)).foldl (fun b s=>exF a r (L++[s]) b) best=exF a r (L++[s]) b:=by
      rw[dP (by omega),List.foldl_append,<- hb,hs];rfl
     have hcall:=ih (L++[s]) b (by simp;omega) (.inl (by simp));have hesv:esv (L++[s])=.ro 2 ((L++[s]).map eX):=by unfold esv;rw[if_neg (by simp)]
     simp[atx,oA,Az,hlti];simp[Ax,hgc];simp[Ay,ow,h1];refine⟨by omega,?_⟩;refine gm (aa.ag (aHW L h2 (by omega))) ?_;simp;refine⟨by unfold bR;omega,?_⟩;refine aBC [mG 0,mG 1,mG 2,mG 3,mG 4] [40] (jA.arg hcall (by simp[hesv,List.take_of_length_le])) (by simp) (by simp) (by simp) (by simp) rfl (by simp) (by simp) (by simp) (by simp) ?_;simp;refine⟨a7 (by simp[ow]) (by simp),?_⟩;rw[aD (by omega)];refine hN (i+1,exF a r (L++[s]) b) _ (by dsimp only;omega) ⟨by dsimp only;omega,hbn.symm⟩ (Wk.list rfl (by simp[atx,h1]) (by simp[atx]))
    ·obtain rfl:i=7:=by omega
     simp[atx,oA];refine hE _ _ ?_;rw[List.take_of_length_le (by omega)] at hb;simp[<- hb];exact A9 (by simp) (by simp) (by simp)
set_option maxHeartbeats 2000000 in
theorem aH7 (a:Arms) (ha:arms a=true) (h0:jI a=[]) :
  jA Tryz.prog kE (exH a (fq a)) (arG []) (fun r k nw=>r=.tup []/\k=exH a (exF a 0 [] (fq a))/\nw=none):=by
 have hpl:=am8 a;rw[h0] at hpl;have hp0:(fq a).slots=[]:=List.length_eq_zero_iff.1 hpl
 have hk:fq a=⟨gO a,[]⟩:=by
  have e:fq a=⟨(fq a).arms,(fq a).slots⟩:=rfl;rw[e,hp0];rfl
 have hF:exF a 0 [] (fq a)=fq a:=by
  rw[aPf];unfold Kg;rw[<- hk,aBP];simp
 rw[hF];have hes:esv []=nM:=rfl;have hpa:(fq a).arms=gO a:=rfl;refine jA.of Df (by simp) ?_;simp only[arG,hes];simp[qc,oz,hp0,hpa];simp[AA,AB];obtain ⟨k,hk2⟩:∃ k:Sk,fq a=k:=⟨_,rfl⟩;refine bB (aa.argL (Pu k) (by simp[<- hk2,hp0])) rfl (.inl (by simp)) (by simp) ?_;have h1:bM k=true:=by rw[<- hk2];exact Oc ha
 have hR:ayK k=nJ k:=by unfold ayK;rw[if_pos h1]
 cases hv:ayK k with
 | none =>
   simp[lz];exact A9 (by simp) (by simp) (by simp)
 | some b =>
   simp[lz];refine⟨fun _=>A9 (by simp) (by simp) (by simp),fun e1 e2 e3 e4 e5 e6 e7 e8 e9 e10 e11 e12 e13 e14 e15=>?_⟩;simp[yM];refine al (aa.argL (GC k h1) (by simp[<- hk2,hp0])) ?_;rw[hk2];simp[yN];have hirr:Op.bytesLess (bH k) (bH k)=false:=by rw[Sm,decide_eq_false_iff_not];exact List.lt_irrefl _
   rw[hirr];exact⟨fun h=>by simp at h,fun _=>A9 (by simp) (by simp) (by simp[hk2])⟩
theorem aHi (a:Arms):pN (vx a) a=exF a (jI a).length [] (fq a):=by
 unfold pN exF;rw[ac6,List.length_map]
def aRV (a:Arms):AS:=⟨[(1,.ref 1 0 0),(2,.ref 2 0 0),(4,.ref 4 0 0),(6,.ref 6 0 0),(7,.ref 7 0 0)],
 [(1,⟨15,[dj a]⟩),(2,⟨16,[.agg (cy a00 nM)]⟩),(4,⟨16,[eSk (fq a)]⟩),(6,⟨16,[eSk (fq a)]⟩),(7,⟨1,[S (bH (fq a))]⟩)],[]⟩
theorem aye (a:Arms) (ha:arms a=true):di HX [dj a] (.tup [eSk (pN (vx a) a),B true]):=by
 have hpl:=am8 a;have hpa:(fq a).arms=gO a:=rfl
 have hcall:jA Tryz.prog kE (exH a (fq a)) (arG []) (fun r k nw=>r=.tup []/\k=exH a (pN (vx a) a)/\nw=none):=by
  rw[aHi];by_cases h0:jI a=[]
  ·rw[h0];exact aH7 a ha h0
  ·exact aIS a ha _ [] _ (by simp) (.inr (List.length_pos_iff.2 h0))
 refine aa.of anp (by simp) ?_;simp[Tk,OG,OH];refine aZ (aa.ag (aEJ a ha)) ?_;simp;refine cp _ (Wk.frz 11 ⟨2,(fq a).slots.map eX⟩ (by simp) (by simp) (by simp)) ?_;simp[OI,OJ,EJ];refine iV (aa.arg (GC (fq a) (Oc ha)) (by simp[hpa])) ?_ ?_ ?_
 ·simp
 ·simp
 simp;refine⟨a7 (by simp[EJ]) (by simp),?_⟩;refine cp (aRV a) (Wk.list rfl (by simp[aRV]) (by simp[aRV,hpa])) ?_;simp[aRV,OK,OL,OM];refine ahM [4,8,1,7,6] [] (jA.arg hcall (by simp[esv])) (by simp) (by simp) (by simp) (by simp) (by simp) (by simp) ?_;simp[ON]
theorem aET (a:Arms) (h0:0<=a.ordinary):di PF [dj a] (.own 1 (mi (fa a.field++jy a))):=by
 have hl:jy a=(if a.ordinary=0 then [] else [a.tincture])++(if g0 a.on=true then [] else [a.on.tincture])++(if g0 a.around=true then [] else [a.around.tincture]):=rfl;have ht:(fa a.field).length<=2:=by unfold fa;split<;>simp
 refine aa.of ax7 (by simp) ?_;simp[aey,XH,XI];refine aZ (aa.ag (Hn a.field)) ?_;generalize fa a.field=T at ht ⊢;simp[XJ];have tk1:∀ x:V,List.take (T.length+1) (List.map I T++[x])=List.map I T++[x]:=fun x=>List.take_of_length_le (by simp);have tk2:∀ x y:V,List.take (T.length+1+1) (List.map I T++[x,y])=List.map I T++[x,y]:=fun x y=>List.take_of_length_le (by simp);have d0:(0 < a.ordinary)=¬(a.ordinary=0):=by rw[eq_iff_iff];omega
 refine⟨fun h=>?_,fun h=>?_⟩
 all_goals
  first
   | rw[if_neg (by omega)] at hl
   | rw[if_pos (by omega)] at hl
  simp[XK,XL]
  try (refine⟨by simp[bR];omega,?_⟩)
  refine al (aa.ag (iT a.on)) ?_;cases c1:g0 a.on<;>rw[c1] at hl<;>simp[XM,XN]
  all_goals
   try (refine⟨by simp[bR];omega,?_⟩)
   refine al (aa.ag (iT a.around)) ?_;cases c2:g0 a.around<;>rw[c2] at hl<;>simp at hl<;>simp[XO,XP,hl,tk1,tk2]
   try (simp[bR];omega)
theorem aLy (a b:List UInt8):di adt [S a,S b] (B (nS a b)):=by
 have hb:nS a b=(decide (a.length < b.length)||(a.length==b.length&&decide (a < b))):=rfl;refine aa.of aEE (by simp) ?_;simp[atn,ala,alb];rw[hb,Sm];refine⟨fun h=>⟨fun e=>?_,fun e=>?_⟩,fun h=>?_⟩
 ·have e1:a.length=b.length:=by omega
  simp[e1]
 ·have e1:a.length≠b.length:=by omega
  simp[e1];omega
 ·simp[h]
def sF (a:Arms) (r:Nat) (L:List Slot) (b:Sk):Sk:=(NQ (fun _=>xS) r L).foldl (Kg a (gO a)) b
theorem aRQ (a:Arms) (r:Nat) (L:List Slot) (b:Sk):sF a (r+1) L b=xS.foldl (fun b s=>sF a r (L++[s]) b) b:=by
 unfold sF;rw[NQ,List.foldl_flatMap]
theorem aJx {a:Arms} {b:Sk} {L:List Slot} (h:bM b=true):bM (Kg a (gO a) b L)=true:=by
 unfold Kg;split
 ·rename_i c;have:=c.1;unfold aar at this;rw[Bool.and_eq_true] at this;exact this.1
 ·exact h
theorem aSF {a:Arms} {r:Nat} {L:List Slot} {b:Sk} (h:bM b=true):bM (sF a r L b)=true:=by
 unfold sF;generalize NQ (fun _=>xS) r L=C
 induction C generalizing b with
 | nil=>exact h
 | cons c C ih=>rw[List.foldl_cons];exact ih (aJx h)
set_option maxHeartbeats 2000000 in
theorem aLz (a:Arms) (ha:arms a=true) (L:List Slot) (best:Sk) (hb:bM best=true) (hl:L.length=(jI a).length):jA Tryz.prog EC [] [dj a,.ro 2 (L.map eX),eSk best] (fun r k nw=>r=eSk (Kg a (gO a) best L)/\k=[]/\nw=none):=by
 have ho:=Z7 ha;have hn:=r8 a;have hle:=uV a;have hP:Kg a (gO a) best L=if aar a (gO a) L=true/\nS (bH ⟨gO a,L⟩) (bH best)=true then ⟨gO a,L⟩ else best:=rfl
 have hgk:aar a (gO a) L=(bM ⟨gO a,L⟩&&decide (nJ ⟨gO a,L⟩=some a)):=rfl;refine jA.of aeE (by simp) ?_;simp[Tn,Ng,Nh];refine al (aa.ag (ayR a ho)) ?_;simp;refine⟨fun _=>?_,fun h=>by omega⟩;simp[abW];refine aZ (aa.ag (aDK a ho)) ?_;obtain ⟨k,hk⟩:∃ k:Sk,⟨gO a,L⟩=k:=⟨_,rfl⟩;rw[hk] at hP hgk;simp[abX];refine al (aa.arg (aDL k) (by simp[<- hk])) ?_;cases h1:bM k with
 | false =>
   rw[h1,Bool.false_and] at hgk;rw[hgk,if_neg (by simp)] at hP;simp[abY];exact A9 (by simp) (by simp) (by simp[hP])
 | true =>
   rw[h1,Bool.true_and] at hgk;simp[abZ];refine bB (aa.arg (aAC k h1) (by simp[<- hk])) rfl (.inl (by simp)) (by simp) ?_;simp[ab0,uf];cases h2:nJ k with
   | none =>
     rw[h2] at hgk;rw[hgk,if_neg (by simp)] at hP;simp;refine⟨a7 (by simp[uf]) (by simp),?_⟩;simp[FA];exact A9 (by simp) (by simp) (by simp[hP])
   | some b =>
     rw[h2] at hgk;by_cases hab:b=a
     ·subst hab;simp;refine iV (aa.arg (Vm k h1) (by simp[<- hk])) ?_ ?_ ?_
      ·simp
      ·simp
      simp;refine cF (aa.ag (Vm best hb)) ?_;simp;refine cF (aa.ag (aLy (bH k) (bH best))) ?_;rw[hgk] at hP;cases hbt:nS (bH k) (bH best) with
      | true =>
        rw[hbt] at hP;simp at hP;simp;refine⟨a7 (by simp[uf]) (by simp),?_⟩;simp[ab1];exact A9 (by simp) (by simp) (by simp[hP,<- hk])
      | false =>
        rw[hbt] at hP;simp at hP;simp;refine⟨a7 (by simp[uf]) (by simp),?_⟩;simp[FA];exact A9 (by simp) (by simp) (by simp[hP])
     ·have hg2:aar a (gO a) L=false:=by rw[hgk];simpa using hab
      rw[hg2,if_neg (by simp)] at hP;simp;refine⟨fun e1 e2 e3 e4 e5 e6 e7 e8 e9 e10 e11 e12 e13 e14 e15=>absurd (asU e1 e2 e3 e4 e5 e6 e7 e8 e9 e10 e11 e12 e13 e14 e15) hab,fun _=>⟨a7 (by simp[uf]) (by simp),?_⟩⟩;simp[FA];exact A9 (by simp) (by simp) (by simp[hP])
def slM (L:List Int) (i:Nat):List Slot:=(L.take i).map fun x=>⟨1,x⟩
theorem ang (a:Arms) (h:arms a=true):di Iz [dj a] (.agg (cy (gO a) (.own 2 ((fq a).slots.map eX)))):=by
 have ho:=Z7 h;have hn:=asc a;have hle:(jy a).length<=3:=by rw[hn,<- r8];exact uV a
 have hp:(fq a).slots=(jy a).map fun x=>⟨1,x⟩:=rfl;rw[hp];have ht:(fa a.field).length<=2:=by unfold fa;split<;>simp
 refine aa.of aGF (by simp) ?_;simp[azv,aqZ,aq0,aq1,aq2,an5];refine aZ (aa.ag (aDK a ho)) ?_;simp;refine aZ (aa.ag (aET a ho)) ?_;simp;refine aZ (aa.ag (Hn a.field)) ?_;generalize fa a.field=T at ht ⊢;generalize jy a=L at hle ⊢;generalize gO a=b;simp;have hsM:∀ i,i<=L.length->(slM L i).length=i:=fun i h=>by unfold slM;simp;omega
 refine dl (fun i:Nat=>⟨[(2,.ref 2 0 0),(3,.ref 3 0 0),(4,.sl 11 0 (T.length+L.length)),(5,I ((T.length:Int)+i))],[(2,⟨16,[.agg (cy a00 nM)]⟩),(3,⟨16,[.agg (cy b (.sl 8 0 i))]⟩),(8,⟨2,(slM L i).map eX⟩),(11,⟨1,mi (T++L)⟩)],[]⟩) (fun i=>L.length - i) (fun i=>i<=L.length) 0 (Wk.list rfl (by simp) (by simp[cy,slM])) (by simp) ?_;intro i hi K hN hR hE;have hsl:=hsM i hi;have htk:List.take i ((slM L i).map eX)=(slM L i).map eX:=List.take_of_length_le (by rw[List.length_map];omega);by_cases hlt:i < L.length
 ·obtain ⟨x,hx⟩:∃ x,L[i]=x:=⟨_,rfl⟩;have hg:(T++L)[T.length+i]?=some x:=by rw[List.getElem?_append_right (by omega),Nat.add_sub_cancel_left,List.getElem?_eq_getElem hlt,hx]
  have hlt':(i:Int) < L.length:=by omega
  have e1:((T.length:Int)+i).toNat=T.length+i:=by omega
  simp[ZV,aq4,hlt'];simp[cy,aq3,Zw];simp only[e1];rw[<- List.map_append,List.getElem?_map,hg];simp;have hnx:slM L (i+1)=slM L i++[⟨1,x⟩]:=by unfold slM;rw[dP hlt,hx];simp
  refine⟨⟨by omega,hlt⟩,⟨by omega,by unfold bR;omega⟩,a7 (by simp[Zw]) (by simp),?_⟩;rw[htk];rw[aD (by omega)];refine hN (i+1) _ (by omega) (by omega) (Wk.trans (Wk.ren 30 8 (by decide) (by simp)) (Wk.list rfl ?_ ?_))
  ·simp;omega
  ·simp[cy,hnx]
 ·obtain rfl:i=L.length:=by omega
  simp[ZV];refine hE _ _ ?_;simp[cy,aq5,htk];simp[slM]
set_option maxHeartbeats 2000000 in
theorem axp (a:Arms) (ha:arms a=true):∀ (r:Nat) (L:List Slot) (best:Sk),bM best=true->L.length+r=(jI a).length->jA Tryz.prog EC [] [dj a,.ro 2 (L.map eX),eSk best] (fun res k nw=>res=eSk (sF a r L best)/\k=[]/\nw=none)
 | 0,L,best,hb,hl=>aLz a ha L best hb hl
 | r+1,L,best,hb,hl=>by
   have ho:=Z7 ha;have hn:=r8 a;have hle:=uV a;have h15:xS.length=15:=rfl;have hcs:xS=eT++[fX]:=rfl;have h14:eT.length=14:=rfl;have ih:=axp a ha r;rw[aRQ];refine jA.of aeE (by simp) ?_;simp[Tn,Ng,Nh];refine al (aa.ag (ayR a ho)) ?_;simp;refine⟨fun h=>by omega,fun _=>?_⟩;simp[ab2];refine aZ (aa.ag aFO) ?_;simp[h14];refine⟨by decide,?_⟩;simp[XQ,Wj];have hcl:List.map eX xS=List.take 14 (List.map eX eT)++[.agg [I 5,I 0]]:=rfl;rw[<- hcl];refine dl (fun p:Nat×Sk=>⟨[(1,.ro 2 (L.map eX)),(3,.ref 3 0 0),(5,.ref 5 0 0),(6,.ref 6 0 0),(10,.sl 48 0 15),(11,I p.1)],[(48,⟨2,List.map eX xS⟩),(6,⟨16,[.agg (cy a00 nM)]⟩),(5,⟨16,[eSk p.2]⟩),(3,⟨15,[dj a]⟩)],[]⟩) (fun p=>15 - p.1) (fun p=>p.1<=15/\bM p.2=true/\p.2=(xS.take p.1).foldl (fun b s=>sF a r (L++[s]) b) best) (0,best) (Wk.list rfl (by simp) (by simp[cy])) ⟨by simp,hb,by simp⟩ ?_;rintro ⟨i,b⟩ ⟨hi,hbk,hbe⟩ K hN hR hE;dsimp only at hi hbk hbe;by_cases hlt:i < 15
   ·obtain ⟨x,hx⟩:∃ x,xS[i]'(by omega)=x:=⟨_,rfl⟩;have hg:xS[i]?=some x:=by rw[<- hx];exact List.getElem?_eq_getElem (by omega)
    have hlt':(i:Int) < 15:=by omega
    simp[Lk,XS,hlt'];simp[XR,Kf,hg];refine⟨by unfold bR;omega,hlt',by unfold bR;omega,?_⟩;refine aBC [] [64] (jA.arg (ih (L++[x]) b hbk (by simp;omega)) (by simp[List.take_of_length_le])) (by simp) (by simp) (by simp) (by simp) rfl (by simp) (by simp) (by simp) (by simp) ?_;simp;refine⟨a7 (by simp[Kf]) (by simp),?_⟩;rw[aD (by omega)];refine hN (i+1,sF a r (L++[x]) b) _ (by dsimp only;omega) ⟨by dsimp only;omega,aSF hbk,?_⟩ (Wk.list rfl ?_ ?_)
    ·dsimp only;rw[dP (by omega),List.foldl_append,<- hbe,hx];rfl
    ·simp
    ·simp
   ·obtain rfl:i=15:=by omega
    simp[Lk];refine hE _ _ ?_;rw[List.take_of_length_le (by omega)] at hbe;simp[XT,<- hbe];exact A9 (by simp) (by simp) (by simp)
theorem aLA (a:Arms) (ha:arms a=true):bH (sF a (jI a).length [] (fq a))=amq a:=by
 have e:pN (fun _=>xS) a=sF a (jI a).length [] (fq a):=by
  unfold pN sF;rw[ac6,List.length_map]
 rw[<- e];exact(aEU ha).symm
end Go.Proofs.YtnjjimhkbpdpgaaGreatDoor
