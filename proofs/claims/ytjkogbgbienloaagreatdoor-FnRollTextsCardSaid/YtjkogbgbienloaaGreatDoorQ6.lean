/- Parts of the proof that several claims share, part 6. -/
import Derived.ProofKit
import Derived.JoinedCond
import Derived.WideKeyArgs
import Derived.Carry
import Derived.Test.YtjkogbgbienloaaGreatDoorQ5
set_option linter.unusedVariables false
set_option linter.unusedSimpArgs false
namespace Go.Proofs.YtjkogbgbienloaaGreatDoor
open Go.Abs
set_option maxRecDepth 100000
open Tryz
def dR:=[om 10 1,fv 11 10 1,om 8 11]
def dS:=[om 12 8,om 13 2,bM 14 .lss 12 13]
def dT:=[om 17 8,om 9 17]
def dU:=[om 18 9,om 19 1,bM 20 .gtr 18 19,om 21 20,oT 21 22 (.mv (.t 3)),oT 21 23 (.mv (.t 0)),oT 21 24 (.mv (.t 9)),oT 21 25 (.iaddr 18 (.t 23) (.t 24)),oT 21 26 (.ld true 18 (.t 25)),oT 21 27 (.mv (.t 0)),oT 21 28 (.mv (.t 9)),oT 21 29 (.bin .sub .none (.t 28) (xI 1)),oT 21 30 (.iaddr 18 (.t 27) (.t 29)),oT 21 31 (.ld true 18 (.t 30)),oT 21 32 (.callv (.t 22) [.t 26,.t 31]),oT 21 33 (.bin .lss .none (.t 32) (xI 0)),oo 34 (.pick (.t 21) (.t 33) (xB false))]
def bL:List (List Nat):=[[],[],[0,1],[0,1,2],[0,1,2,3],[0,1,2,3],[0,1,2,3],[0,1,2,3,5,6],[0,1,2,3,5,6,7],[0,1,2,3],[0,1,2,3],[0,1,2,3,10],[0,1,2,3,9,10,11],[0,1,2,3,9,10,11,12],[0,1,2,3,4,5,6,7,8,9,10,11,12,13],[0,1,2,3,4,5,6,7,8,9,10,11,12,13,14],[0,1,2,3,4,5,6,7,8,9,10,11,12,13,14,15]]
def dV:=[om 37 0,om 38 9,om 39 0,om 40 9,cD 41 .sub 40 1,om 42 0,om 43 9,cD 44 .sub 43 1,ep 45 18 42 44,cm 46 18 45,om 47 0,om 48 9,ep 49 18 47 48,cm 50 18 49,ep 51 18 37 38,cy 18 51 46,ep 52 18 39 41,cy 18 52 50]
def cu:List (List Nat):=[[],[],[],[],[3],[],[],[6],[5,6,7],[5,6,7,8],[],[],[10,11],[10,11,12],[0,1,5,6,7,8,9,10,11,12,13],[0,1,5,6,7,8,9,10,11,12,13,14],[0,1,2,3,4,5,6,7,8,9,10,11,12,13,14,15],[0,1,2,3,4,5,6,7,8,9,10,11,12,13,14,15,16]]
def dW:=[om 35 9,cD 36 .sub 35 1,om 9 36]
def dN:C:=(ss (ss (.regD dU bL [0,1,2,3,8,9,34]) (sc 34 .skip (.exit 2))) (ss (.block 3 (.regD dV cu [0,1,2,3,8,9])) (.reg dW [0,1,2,3,8,9])))
def cv:=[om 15 8,fv 16 15 1,om 8 16]
def dO:C:=(ss (sr dS [0,1,2,3,8,14] (sc 14 .skip (.exit 0))) (ss (.block 1 (sr dT [0,1,2,3,8,9] (.block 2 (.loop dN)))) (.reg cv [0,1,2,3,8])))
def eu:C:=(sr dR [0,1,2,3,8] (.block 0 (.loop dO)))
def jV:Nat->List Nat
 | 0=>[0,1,2,3,8]
 | 1=>[0,1,2,3,8,14]
 | 3=>[0,1,2,3,8,9]
 | 4=>[0,1,2,3,8,9,34]
 | 6=>[0,1,2,3,8,9]
 | 5=>[0,1,2,3,8,9]
 | 2=>[0,1,2,3,8]
 | _=>[]
theorem jy:cz bW eu [] 53 :=
 ⟨Tryz.f140,_,jV,func140,rfl,by kernel_rfl,by kernel_rfl,by kernel_rfl,rfl⟩
def gc:=[ok 6 (vI 20)]
def gd:=[om 10 6,ok 7 (vI 0),om 8 10]
def gf:=[om 11 8,om 12 1,bM 13 .leq 11 12]
def nz:=[om 14 0,om 15 7,om 16 8,om 17 2,oo 18 (.call bW [.t 14,.t 15,.t 16,.t 17])]
def nA:=[om 19 8,om 7 19]
def nB:=[om 20 8,om 21 6,bM 22 .add 20 21,om 8 22]
def fK:C:=(ss (sr gf [0,1,2,6,7,8,13] (sc 13 .skip (.exit 0))) (.block 1 (sr nz [0,1,2,6,8] (sr nA [0,1,2,6,7,8] (.reg nB [0,1,2,6,7,8])))))
def gg:=[om 23 0,om 24 7,om 25 1,om 26 2,oo 27 (.call bW [.t 23,.t 24,.t 25,.t 26])]
def gh:=[om 28 6,om 29 1,bM 30 .lss 28 29]
def nC:=[om 31 6,oo 32 (.bin .mul .none (xI 2) (.t 31)),ok 7 (vI 0),om 8 32]
def ma:=[om 33 8,om 34 1,bM 35 .leq 33 34]
def mb:=[om 36 0,om 37 7,om 38 7,om 39 6,bM 40 .add 38 39,om 41 8,om 42 2,oo 43 (.call fN [.t 36,.t 37,.t 40,.t 41,.t 42])]
def mc:=[om 44 8,om 7 44]
def md:=[om 45 8,om 46 6,oo 47 (.bin .mul .none (xI 2) (.t 46)),bM 48 .add 45 47,om 8 48]
def l9:C:=(ss (sr ma [0,1,2,6,7,8,35] (sc 35 .skip (.exit 4))) (.block 5 (sr mb [0,1,2,6,8] (sr mc [0,1,2,6,7,8] (.reg md [0,1,2,6,7,8])))))
def me:=[om 49 7,om 50 6,bM 51 .add 49 50,om 9 51]
def mf:=[om 52 9,om 53 1,bM 54 .lss 52 53]
def mg:=[om 55 0,om 56 7,om 57 9,om 58 1,om 59 2,oo 60 (.call fN [.t 55,.t 56,.t 57,.t 58,.t 59])]
def mh:=[om 61 6,cD 62 .mul 61 2,om 6 62]
def fB:C:=(ss (sr gh [0,1,2,6,30] (sc 30 .skip (.exit 2))) (.block 3 (sr nC [0,1,2,6,7,8] (ss (.block 4 (.loop l9)) (ss (sr me [0,1,2,6,7,9] (sr mf [0,1,2,6,7,9,54] (sc 54 (.reg mg [0,1,2,6]) .skip))) (.reg mh [0,1,2,6]))))))
def gT:C:=(sr gc [0,1,2,6] (sr gd [0,1,2,6,7,8] (ss (.block 0 (.loop fK)) (sr gg [0,1,2,6] (.block 2 (.loop fB))))))
theorem nQ:cz dJ gT [] 63:=dh func95 rfl
def dC:=[om 4 0,om 5 0,oo 6 (.len false (.t 5)),om 7 1,oo 8 (.call dJ [.t 4,.t 6,.t 7])]
def dL:C:=(.reg dC [])
theorem iY:cz bK dL [] 9:=dh func58 rfl
def mP (P R:List Grant) (x:Grant) (j:Nat):List Grant:=P.take j++x::(P.drop j++R)
theorem aay {P R:List Grant} {x:Grant} {j:Nat} (hj:j<=P.length):(mP P R x j).length=P.length+1+R.length:=by
 simp[mP];omega
theorem acz {P R:List Grant} {x:Grant} {j:Nat} (hj:j<=P.length):(mP P R x j)[j]?=some x:=by
 unfold mP;rw[List.getElem?_append_right (by rw[List.length_take];omega),List.length_take,Nat.min_eq_left hj,Nat.sub_self];rfl
theorem U7 {P R:List Grant} {x:Grant} {j:Nat} (hj:j<=P.length) (h0:0 < j):(mP P R x j)[j - 1]?=some (P[j - 1]'(by omega)):=by
 unfold mP;rw[List.getElem?_append_left (by simp;omega),List.getElem?_take,if_pos (by omega),List.getElem?_eq_getElem (by omega)]
theorem YD {P R:List Grant} {x:Grant} {j:Nat} (hj:j<=P.length) (h0:0 < j):((mP P R x j).set j (P[j - 1]'(by omega))).set (j - 1) x=mP P R x (j - 1):=by
 obtain ⟨k,rfl⟩:∃ k,j=k+1:=⟨j - 1,by omega⟩;simp only[Nat.add_sub_cancel];have hk:k < P.length:=by omega
 have e1:P.take (k+1)=P.take k++[P[k]]:=br hk;have e2:P.drop k=P[k]::P.drop (k+1):=List.drop_eq_getElem_cons hk;have hl:(P.take k).length=k:=by rw[List.length_take];omega
 unfold mP;rw[e1,e2,List.append_assoc,List.singleton_append,List.set_append_right _ _ (by omega),hl,show k+1 - k=1 by omega];rw[List.set_append_right _ _ (by omega),hl,Nat.sub_self];rfl
theorem YC {P R:List Grant} {x:Grant}:mP P R x P.length=P++x::R:=by simp[mP]
theorem aax {P R:List Grant} {x:Grant} {j:Nat}:mP P R x j=(P.take j++x::P.drop j)++R:=by simp[mP]
def Xl (lt:Grant->Grant->Bool) (l:List Grant) (i:Nat):List Grant:=js lt (l.take i)++l.drop i
theorem acM (lt:Grant->Grant->Bool) (l:List Grant):Xl lt l 1=l:=by
 cases l with
 | nil=>rfl
 | cons x l=>rfl
theorem acL (lt:Grant->Grant->Bool) (l:List Grant) {i:Nat} (h:l.length<=i):Xl lt l i=js lt l:=by
 rw[Xl,List.take_of_length_le h,List.drop_of_length_le h,List.append_nil]
set_option maxHeartbeats 1000000 in
theorem EN (l:List Grant) (lt:Grant->Grant->Bool) (c:Grant->Grant->Int) (g:Nat) (hl:l.length<=20) (hg:∀ x ∈ l,∀ y ∈ l,cJ g [aY x,aY y] (I (c x y))) (hc:∀ x ∈ l,∀ y ∈ l,(c x y < 0↔lt x y=true)) :
  x4 bW [⟨18,l.map aY⟩] [.sl (gL 0) 0 l.length,I 0,I l.length,.clo g []] (.tup []) [some ⟨18,(js lt l).map aY⟩]:=by
 refine ac.of jy (by simp) rfl (by simp) ?_;have h0:=acM lt l;simp[eu,dR];rw[am (n:=1) (by omega)];refine ci (fun i:Nat=>⟨[(0,.sl 1000000 0 l.length),(1,I 0),(2,I l.length),(3,.clo g []),(8,I i)],[(1000000,⟨18,(Xl lt l i).map aY⟩)],[1000000]⟩) (fun i=>l.length - i) (fun i=>1<=i/\(i<=l.length\/i=1)) 1 (Wk.list rfl (by simp) (by simp[h0])) (by simp) ?_;rintro i ⟨hi0,hi⟩ K hN hR hE;simp[dO,dS];refine⟨fun hlt=>?_,fun hge=>?_⟩
 ·obtain ⟨P,hP⟩:∃ P,js lt (l.take i)=P:=⟨_,rfl⟩;obtain ⟨R,hR'⟩:∃ R,l.drop (i+1)=R:=⟨_,rfl⟩;obtain ⟨x,hx⟩:∃ x,l[i]=x:=⟨_,rfl⟩;have hPl:P.length=i:=by rw[<- hP,sH,List.length_take];omega
  have hRl:R.length=l.length - (i+1):=by rw[<- hR',List.length_drop]
  have hrow:Xl lt l i=mP P R x i:=by
   have e:=YC (P:=P) (R:=R) (x:=x);rw[hPl] at e;rw[e,Xl,hP,<- hx,<- hR',List.drop_eq_getElem_cons hlt]
  have hxm:x ∈ l:=hx▸List.getElem_mem _;have hPm:∀ y ∈ P,y ∈ l:=fun y hy=>List.mem_of_mem_take (AY.1 (by rw[hP];exact hy))
  have hnext:∀ j,D8 (lt x) x P=P.take j++x::P.drop j->Xl lt l (i+1)=mP P R x j:=fun j e=>by
   rw[aax,<- e,Xl,br hlt,iD,hP,hx,hR']
  rw[hrow];simp[dT];refine ci (fun j:Nat=>⟨[(0,.sl 1000000 0 l.length),(1,I 0),(2,I l.length),(3,.clo g []),(8,I i),(9,I j)],[(1000000,⟨18,(mP P R x j).map aY⟩)],[1000000]⟩) (fun j=>j) (fun j=>j<=i/\∀ q (h:q < P.length),j<=q->lt x P[q]=true) i Wk.li ⟨Nat.le_refl _,fun q h h'=>by omega⟩ ?_;rintro j ⟨hj,hpj⟩ K2 hN2 hR2 hE2;have hlen:(mP P R x j).length=l.length:=by rw[aay (by omega)];omega
  have hat:=acz (P:=P) (R:=R) (x:=x) (j:=j) (by omega);simp[dN,dU,bL];refine⟨fun h1=>?_,fun h1=>?_⟩
  ·have hlj:j < l.length:=by omega
   have hwr:IntKind.i64.wrap ((j:Int) - 1)=((j - 1:Nat):Int):=by rw[am (by omega)];omega
   have hbf:=U7 (R:=R) (x:=x) (show j<=P.length by omega) h1;have hj1:j - 1 < l.length:=by omega
   have hjP:j - 1 < P.length:=by omega
   have hcc:=hc x hxm P[j - 1] (hPm _ (List.getElem_mem _));simp[hat,hlj,hwr,hbf,hj1];refine bu (aa.ag (hg x hxm P[j - 1] (hPm _ (List.getElem_mem _)))) ?_;simp;refine⟨aO (by simp[bL]) (by simp),fun hneg=>?_,fun hpos=>?_⟩
   ·have hatE:∀ h,(mP P R x j)[j]'h=x:=fun h=>by rw[List.getElem_eq_iff];exact hat
    have hbfE:∀ h,(mP P R x j)[j - 1]'h=P[j - 1]:=fun h=>by rw[List.getElem_eq_iff];exact hbf
    have hne:¬j=j - 1:=by omega
    simp[dV,cu,hlj,hwr,hj1,hlen,hatE,hbfE,List.getElem_set,hne];have hsw:=YD (R:=R) (x:=x) (show j<=P.length by omega) h1;refine⟨aO (by simp[cu]) (by simp),?_⟩;simp[dW];rw[hwr];refine hN2 (j - 1) _ (by omega) ⟨by omega,fun q h h'=>?_⟩ (Wk.list rfl (by simp) (by simp[<- hsw]));by_cases e:q=j - 1
    ·subst e;exact hcc.1 hneg
    ·exact hpj q h (by omega)
   ·have hF:lt x P[j - 1]=false:=Bool.eq_false_iff.2 fun e=>by have:=hcc.2 e;omega
    have hins:D8 (lt x) x P=P.take j++x::P.drop j:=QA (by omega) (fun q h h'=>hpj q h h') (fun _=>hF);refine hE2 _ _ ?_;simp only[aL];simp[cv];rw[am (by omega)];refine hN (i+1) _ (by omega) ⟨by omega,.inl (by omega)⟩ (Wk.list rfl (by simp) (by simp[hnext j hins]))
  ·subst h1;have hins:D8 (lt x) x P=P.take 0++x::P.drop 0:=QA (by omega) (fun q h h'=>hpj q h h') (fun h=>by omega);refine⟨aO (by simp[bL]) (by simp),?_⟩;refine hE2 _ _ ?_;simp only[aL];simp[cv];rw[am (by omega)];refine hN (i+1) _ (by omega) ⟨by omega,.inl (by omega)⟩ (Wk.list rfl (by simp) (by simp[hnext 0 hins]))
 ·refine hE _ _ ?_;simp only[aL];simp[acL lt l hge]
theorem OB (l:List Grant) (lt:Grant->Grant->Bool) (c:Grant->Grant->Int) (g:Nat) (hl:l.length < 20) (hg:∀ x ∈ l,∀ y ∈ l,cJ g [aY x,aY y] (I (c x y))) (hc:∀ x ∈ l,∀ y ∈ l,(c x y < 0↔lt x y=true)) :
  x4 dJ [⟨18,l.map aY⟩] [.sl (gL 0) 0 l.length,I l.length,.clo g []] (.tup []) [some ⟨18,(js lt l).map aY⟩]:=by
 refine ac.of nQ (by simp) rfl (by simp) ?_;have h1:¬(20:Int)<=l.length:=by omega
 have h2:¬(20:Int) < l.length:=by omega
 simp[gT,gc,gd];refine ci (fun _:Unit=>⟨[(0,.sl 1000000 0 l.length),(1,I l.length),(2,.clo g []),(6,I 20),(7,I 0),(8,I 20)],[(1000000,⟨18,l.map aY⟩)],[1000000]⟩) (fun _=>0) (fun _=>True) () Wk.li trivial ?_;rintro _ _ K hN hR hE;simp[fK,gf,h1];refine hE _ _ ?_;simp only[aL];simp[gg];refine Qy [1000000] (ac.arg (EN l lt c g (by omega) hg hc) (by simp)) (by simp) (by simp) (by simp) (by simp) rfl rfl (by simp) ?_;simp;refine ci (fun _:Unit=>⟨[(0,.sl 1000000 0 l.length),(1,I l.length),(2,.clo g []),(6,I 20)],[(1000000,⟨18,(js lt l).map aY⟩)],[1000000]⟩) (fun _=>0) (fun _=>True) () Wk.li trivial ?_;rintro _ _ K hN hR hE;simp[fB,gh,h2];refine hE _ _ ?_;simp only[aL];simp
theorem xb (l:List Grant) (lt:Grant->Grant->Bool) (c:Grant->Grant->Int) (g:Nat) (hl:l.length < 20) (hg:∀ x ∈ l,∀ y ∈ l,cJ g [aY x,aY y] (I (c x y))) (hc:∀ x ∈ l,∀ y ∈ l,(c x y < 0↔lt x y=true)) :
  x4 bK [⟨18,l.map aY⟩] [.sl (gL 0) 0 l.length,.clo g []] (.tup []) [some ⟨18,(js lt l).map aY⟩]:=by
 refine ac.of iY (by simp) rfl (by simp) ?_;simp[dL,dC];refine Qy [1000000] (ac.arg (OB l lt c g hl hg hc) (by simp)) (by simp) (by simp) (by simp) (by simp) rfl rfl (by simp) ?_;simp
theorem J1:∀ (a b:List UInt8),Lib.compareBytes a b < 0↔a < b
 | [],[]=>by simp[Lib.compareBytes]
 | [],_::_=>by simp[Lib.compareBytes]
 | _::_,[]=>by simp[Lib.compareBytes]
 | a::xs,b::ys=>by
   have ih:=J1 xs ys;rw[Lib.compareBytes,List.cons_lt_cons_iff];by_cases h1:a < b
   ·simp[h1]
   ·by_cases h2:b < a
    ·have:a≠b:=by rintro rfl;exact h1 h2
     simp[h1,h2,this]
    ·have:a=b:=UInt8.le_antisymm (UInt8.not_lt.1 h2) (UInt8.not_lt.1 h1);subst this;simp[h1,ih]
theorem WJ:∀ {x y:List UInt8},Op.bytesLess x y=true↔x < y
 | [],[]=>by simp[Op.bytesLess]
 | [],y::ys=>by simp[Op.bytesLess]
 | x::xs,[]=>by simp[Op.bytesLess]
 | x::xs,y::ys=>by
   have ih:=@WJ xs ys;rw[Op.bytesLess];rw[List.cons_lt_cons_iff];simp[ih]
theorem Zu (x y:List UInt8):Op.bytesLess x y=decide (x < y):=by rw[Bool.eq_iff_iff,WJ,decide_eq_true_iff]
theorem DY (a b:List UInt8):cJ mN [S a,S b] (I (Lib.compareBytes a b)) :=
 aa.same (vs:=[.string (bs a),.string (bs b)]) (y:=.int .i64 (Lib.compareBytes a b)) (by kernel_rfl) (fun _ _=>iX rfl) (fun w _ _=>Tryz.strings_Compare (bs a) (bs b) w)
theorem EL (a b:Grant):cJ eW [aY a,aY b] (I (Lib.compareBytes a.name b.name)):=by
 refine aa.of yn (by simp) ?_;simp[mn,kx,ky];refine af (aa.ag (DY a.name b.name)) ?_;simp
theorem EM (a b:Grant) (ha:arms a.arms=true) (hb:arms b.arms=true):cJ eX [aY a,aY b] (I (Lib.compareBytes (cI a.arms) (cI b.arms))):=by
 refine aa.of yo (by simp) ?_;simp[mo,kz,kA,gB];refine bu (aa.ag (EJ a.arms ha)) ?_;simp;refine bu (aa.ag (EJ b.arms hb)) ?_;simp;refine bu (aa.ag (DY (cI a.arms) (cI b.arms))) ?_;simp;exact aO (by simp[gB]) (by simp)
theorem sY (l:aZ) (y:Int) (h:b8 l=true):cJ fL [be l,I y] (.own 18 ((ey y l).map aY)):=by
 have hl:=d5 h;have harm:∀ g ∈ l,arms g.arms=true:=fun g hg=>(fI (dz h g hg)).2.2.2;refine aa.of D5 (by simp) ?_;simp[pI,nb,nc,nd];refine⟨by unfold ba;omega,?_⟩;by_cases h2:y=2
 ·have e:ey y l=js (fun a b=>decide (a.name < b.name)) l:=by rw[ey];congr 1;funext a b;simp[R0,h2]
  rw[e];simp[eY,nf,h2];refine Qy [9] (ac.arg (xb l (fun a b=>decide (a.name < b.name)) (fun a b=>Lib.compareBytes a.name b.name) eW (by omega) (fun x _ y _=>EL x y) (fun x _ y _=>by simp[J1])) (by simp)) (by simp) (by simp) (by simp) (by simp) rfl rfl (by simp) ?_;simp[eZ,sH]
 ·by_cases h3:y=3
  ·have e:ey y l=js (fun a b=>decide (cI a.arms < cI b.arms)) l:=by rw[ey];congr 1;funext a b;simp[R0,h3]
   rw[e];simp[eY,ix,ng,h3];refine Qy [9] (ac.arg (xb l (fun a b=>decide (cI a.arms < cI b.arms)) (fun a b=>Lib.compareBytes (cI a.arms) (cI b.arms)) eX (by omega) (fun x hx y hy=>EM x y (harm x hx) (harm y hy)) (fun x _ y _=>by simp[J1])) (by simp)) (by simp) (by simp) (by simp) (by simp) rfl rfl (by simp) ?_;simp[eZ,sH]
  ·have e:ey y l=l:=YQ (fun a b=>by simp[R0,h2,h3]) l;rw[e];simp[eY,ix,eZ,h2,h3]
theorem ad7 (y:Int):cJ Oq [I y] (B (fu y 1 3)):=by
 refine aa.of Yf (by simp) ?_;simp[To,PL,PM];exact af (nM ..) (by simp)
theorem Xs (a b:Grant) (y:Int) (ha:arms a.arms=true) (hb:arms b.arms=true):cJ xt [aY a,aY b,I y] (B (jQ y a b)):=by
 refine aa.of Ru (by simp) ?_;simp[H6,Dy,Dz];by_cases h2:y=2
 ·simp[ll,DA,h2,Zu,jQ];refine⟨fun hle=>⟨fun e=>?_,fun e=>⟨hle,fun h=>absurd h e⟩⟩,fun h=>.inl h⟩;have hn:¬a.name < b.name:=List.not_lt.2 hle;rw[decide_eq_false hn,decide_eq_true e,Bool.false_or,Bool.true_and]
 ·by_cases h3:y=3
  ·simp[ll,qO,DB,qE,h3,jQ];refine bu (aa.ag (Sm a.arms ha)) ?_;simp;refine bu (aa.ag (Sm b.arms hb)) ?_;simp[Zu];exact⟨aO (by simp[qE]) (by simp),by simp[jQ,h3]⟩
  ·simp[ll,qO,DC,h2,h3,jQ]
abbrev PY (i:Nat):V:=I (i:Int)
def NR (y:Int) (l:List Grant) (i:Nat):List Nat:=js (fun i j=>jQ y (l.getD i jz) (l.getD j jz)) (List.range i)
theorem UP (y:Int) (l:List Grant) (i:Nat):(NR y l i).length=i:=by rw[NR,sH,List.length_range]
theorem afh {y:Int} {l:List Grant} {i:Nat}:∀ q ∈ NR y l i,q < i:=fun q hq=>List.mem_range.1 (AY.1 hq)
theorem WE {y:Int} {l:List Grant} {i k:Nat} (hk:k<=i) (h1:∀ q (h:q < (NR y l i).length),k<=q->jQ y (l.getD i jz) (l.getD (NR y l i)[q] jz)=true)
  (h2:∀ h:0 < k,jQ y (l.getD i jz) (l.getD ((NR y l i)[k - 1]'(by rw[UP];omega)) jz)=false):NR y l (i+1)=(NR y l i).take k++i::(NR y l i).drop k:=by
 have e:NR y l (i+1)=D8 ((fun i j=>jQ y (l.getD i jz) (l.getD j jz)) i) i (NR y l i):=by rw[NR,List.range_succ,iD];rfl
 rw[e];exact QA (by rw[UP];exact hk) h1 h2
theorem adM {R:List Nat} {k i:Nat} (hk:k<=R.length) (hi:R.length=i):List.take (k+1) (List.take k (List.take k (List.map PY R))++[I i])++List.take (i - k) (List.drop k (List.map PY R))=(R.take k++i::R.drop k).map PY:=by
 have e1:List.take (k+1) (List.take k (List.map PY R)++[I i])=List.take k (List.map PY R)++[I i]:=List.take_of_length_le (by simp only[List.length_append,List.length_take,List.length_map,List.length_singleton];omega);have e2:List.take (i - k) (List.drop k (List.map PY R))=List.drop k (List.map PY R):=List.take_of_length_le (by simp only[List.length_drop,List.length_map];omega);rw[List.take_take,Nat.min_self,e1,e2,List.map_append,List.map_cons,List.map_take,List.map_drop,List.append_assoc];rfl
set_option maxHeartbeats 1000000 in
theorem YO (l:aZ) (y:Int) (h:b8 l=true):cJ Bo [be l,I y] (.own 1 ((xX y l).map PY)):=by
 have hl:=d5 h;have harm:∀ g ∈ l,arms g.arms=true:=fun g hg=>(fI (dz h g hg)).2.2.2;refine aa.of SR (by simp) ?_;simp[La,Gk,Gl,Gm];refine ci (fun i:Nat=>⟨[(1,I y),(2,.ref 2 0 0),(5,.sl 8 0 i),(6,I i)],[(2,⟨1,[be l]⟩),(8,⟨1,(NR y l i).map PY⟩)],[]⟩) (fun i=>l.length - i) (fun i=>i<=l.length) 0 (Wk.list rfl (by simp) (by simp[NR,js])) (by simp) ?_;intro i hi K hN hR hE;have hxl:=UP y l i;simp[CA,Gn];refine⟨fun hlt=>?_,fun hge=>?_⟩
 ·simp[Gp];refine ci (fun k:Nat=>⟨[(1,I y),(2,.ref 2 0 0),(5,.sl 8 0 i),(6,I i),(7,I k)],[(2,⟨1,[be l]⟩),(8,⟨1,(NR y l i).map PY⟩)],[]⟩) (fun k=>k) (fun k=>k<=i/\∀ q (h:q < (NR y l i).length),k<=q->jQ y (l.getD i jz) (l.getD (NR y l i)[q] jz)=true) i Wk.li ⟨Nat.le_refl _,fun q h h'=>by omega⟩ ?_;rintro k ⟨hk,hq⟩ K2 hN2 hR2 hE2;simp[ER,Gq,jI]
  have SC:(NR y l (i+1)=(NR y l i).take k++i::(NR y l i).drop k)->K2 (.exit 2) ⟨[(1,I y),(2,.ref 2 0 0),(5,.sl 8 0 i),(6,I i),(7,I k),(37,B false)],[(2,⟨1,[be l]⟩),(8,⟨1,(NR y l i).map PY⟩)],[]⟩:=fun e=>by
   refine hE2 _ _ ?_;simp only[aL];have hk':k<=(NR y l i).length:=by omega
   simp[Gs,tA,Gt,hxl,hk];have hm:∀ d,a7 d (List.take k (List.take k (List.map PY (NR y l i))))=false:=fun d=>RP (RP (by simp));refine⟨by unfold ba;omega,by unfold ba;omega,W6 (W5 (by simp)),by unfold ba;omega,aO (by simp[tA,hm]) (by simp),?_⟩;rw[am (by omega),adM hk' hxl,<- e,show k+1+(i - k)=i+1 by omega]
   have hT:∀ s,Wk s ⟨[(1,I y),(2,.ref 2 0 0),(5,.sl 51 0 (i+1)),(6,I ((i:Int)+1))],[(51,⟨1,(NR y l (i+1)).map PY⟩),(2,⟨1,[be l]⟩)],[]⟩->Wk s ⟨[(1,I y),(2,.ref 2 0 0),(5,.sl 8 0 (i+1)),(6,I ((i+1:Nat):Int))],[(2,⟨1,[be l]⟩),(8,⟨1,(NR y l (i+1)).map PY⟩)],[]⟩ :=
    fun s h=>Wk.trans h <| Wk.trans (Wk.ren 51 8 (by decide) (by simp)) (Wk.list rfl (by simp[AS.ren,B8,B7]) (by simp[AS.ren,B8,B7,su]))
   exact hN (i+1) _ (by omega) (by omega) (hT _ Wk.li)
  refine⟨fun h1=>⟨hlt,?_⟩,fun h1=>?_⟩
  ·have hwr:IntKind.i64.wrap ((k:Int) - 1)=((k - 1:Nat):Int):=by rw[am (by omega)];omega
   have hqk:k - 1 < (NR y l i).length:=by omega
   obtain ⟨q,hqd⟩:∃ q,(NR y l i)[k - 1]=q:=⟨_,rfl⟩;have hqi:q < i:=afh q (hqd▸List.getElem_mem _);have hql:q < List.length l:=by omega
   have hgi:List.getD l i jz=l[i]:=by simp[hlt]
   have hgq:List.getD l q jz=l[q]:=by simp[hql]
   have hki:k - 1 < i:=by omega
   have hqE:(NR y l i)[k - 1]?=some q:=by rw[List.getElem?_eq_getElem hqk,hqd]
   simp[hlt,hwr,hqE,hql,hki];refine bu (aa.ag (Xs l[i] l[q] y (harm _ (List.getElem_mem _)) (harm _ (List.getElem_mem _)))) ?_;cases hb:jQ y l[i] l[q] with
   | true =>
     simp;refine⟨aO (by simp[jI]) (by simp),?_⟩;simp[Gr];rw[hwr];refine hN2 (k - 1) _ (by omega) ⟨by omega,fun p hp h'=>?_⟩ Wk.li;by_cases e:p=k - 1
     ·subst e;rw[hqd,hgi,hgq];exact hb
     ·exact hq p hp (by omega)
   | false =>
     simp;exact⟨aO (by simp[jI]) (by simp),SC (WE hk hq fun _=>by rw[hqd,hgi,hgq];exact hb)⟩
  ·subst h1;exact⟨aO (by simp[jI]) (by simp),SC (WE hk hq fun h=>by omega)⟩
 ·obtain rfl:i=List.length l:=by omega
  refine hE _ _ ?_;simp only[aL];simp[DG,hxl];rfl
abbrev U8 (p:List (List UInt8)):V:=.own 1 (p.map S)
abbrev roS (p:List (List UInt8)):V:=.ro 1 (p.map S)
@[simp] theorem abp (hp:Nat->Option Blk) (k:Nat) (l:List (List (List UInt8))):List.map (aP hp (k+2)∘U8) l=l.map roS:=by simp[Function.comp_def]
@[simp] theorem aci (hp:Nat->Option Blk) (k:Nat) (l:List (List (List UInt8))):List.map (aP hp (k+1)∘roS) l=l.map roS:=by simp[Function.comp_def]
theorem S0 (x:Roll):cJ qz [d6 x] (B (jK x)):=by
 refine aa.of N3 (by simp) ?_;simp[Ck,vF,vG];refine af (fJ ..) ?_;cases h1:fu x.by_ 1 3 with
 | false=>simp[jK,h1]
 | true =>
 simp;refine af (fJ ..) ?_;cases h2:fu x.width 20 60 with
 | false=>simp[jK,h1,h2]
 | true =>
 simp;refine af (fJ ..) ?_;simp[jK,h1,h2]
def Ie (P:List (List Grant)):List Int:=(Bw 0 P).map fun k:Nat=>(k:Int)
theorem U6 (P:List (List Grant)):(Ie P).length=P.flatten.length:=by rw[Ie,List.length_map,W7]
theorem act (D:List (List Grant)) (C:List Grant) (g:Grant):Ie (D++[C++[g]])=Ie (D++[C])++[((D.length+1:Nat):Int)]:=by
 unfold Ie;rw[vl,vl];simp[Bw,List.replicate_succ']
theorem aau (D:List (List Grant)):Ie (D++[[]])=Ie D:=by
 unfold Ie;rw[vl];simp[Bw]
def ofL (l:List Grant) (x:Roll):List Int:=Ie ((gH l x).getD [])
abbrev Fe (x:Roll) (p:List Grant):V:=U8 (cY x p)
theorem WO (x:Roll) (p:List Grant) (g:Grant):cY x (p++[g])=cY x p++eV x.width g:=by simp[cY]
def szE (x:Roll) (g:Grant):Nat:=(eV x.width g).length
theorem TE {u v:V} (h:KK u v):∀ xs:List V,(∀ a ∈ xs,KK a a)->pN (xs++[u]) (xs++[v])
 | [],_=>by simp[h]
 | a::xs,ha=>by
   have ih:=TE h xs fun b hb=>ha b (by simp[hb]);simp[ha a (by simp),ih]
def rU (x:Roll) (L:List Grant) (k:Nat) (D:List (List Grant)) (C E:List (List UInt8)) (F:List Int):AS :=
 ⟨[(3,.ref 3 0 0),(7,.sl 22 0 (D.length+1)),(8,.sl 23 0 k),(11,.sl 36 0 E.length),(27,.sl 27 0 L.length),(28,I L.length),(29,I k)],[(3,⟨3,[d6 x]⟩),(22,⟨1,D.map (Fe x)++[.sl 500 0 C.length]⟩),(500,⟨1,C.map S⟩),(23,⟨1,gu F⟩),(36,⟨1,E.map S⟩),(27,⟨18,L.map aY⟩)],[]⟩
theorem Pm {x:Roll} {L:List Grant} {k:Nat} {P:List (List Grant)} {E:List (List UInt8)} {F:List Int} {s:AS}
  (h:Wk s ⟨[(3,.ref 3 0 0),(7,.sl 62 0 (P.length+1)),(8,.sl 23 0 k),(11,.sl 36 0 E.length),(27,.sl 27 0 L.length),(28,I L.length),(29,I k)],[(62,⟨1,P.map (Fe x)++[.v (.slice none 0 0)]⟩),(3,⟨3,[d6 x]⟩),(23,⟨1,gu F⟩),(36,⟨1,E.map S⟩),(27,⟨18,L.map aY⟩)],[]⟩) :
  Wk s (rU x L k P [] E F):=by
 have hl:(P.map (Fe x)).length=P.length:=List.length_map ..;refine Wk.trans h <| Wk.trans (Wk.le 62 (P.map (Fe x)++[.own 1 []]) (by rfl) (TE (u:=.v (.slice none 0 0)) (v:=.own 1 []) (by simp) _ fun a ha=>?_)) <| Wk.trans (Wk.unfold1 62 P.length 500 (sz:=1) (es:=[]) (by rfl) (bU hl) (by simp)) <| Wk.trans (Wk.ren 62 22 (by decide) ?_) (Wk.list rfl ?_ ?_)
 ·obtain ⟨p,_,rfl⟩:=List.mem_map.1 ha;simp
 ·simp[bV hl]
 ·simp[rU,AS.ren,B8,B7]
 ·simp[rU,AS.ren,B8,B7,su,bV hl]
structure Fill (x:Roll) (L:List Grant) (k:Nat) (g:Grant) (D:List (List Grant)) (C:List Grant) (F:List Int):Prop where
 num:F=Ie (D++[C])
 at_:gM (szE x) x.height.toNat L (k+1) (D++[C++[g]])
 flat:(D++[C++[g]]).flatten.length=k+1
 few:D.length<=k
 low:∀ q ∈ D++[C++[g]],(cY x q).length<=x.height.toNat
set_option maxHeartbeats 4000000 in
theorem UO (l:aZ) (x:Roll):cJ yN [be l,d6 x] (.tup [.own 1 ((dn l x).map U8),.own 1 (gu (ofL l x)),B (dd l x)]):=by
 refine aa.ofN Yd (by simp) ?_;simp[Tm,Pw,Px];refine af (aa.ag (u4 l)) ?_;cases h1:b8 l with
 | false=>simp[Fx,dn,ofL,Ie,Bw,dd,gH,mi,h1]
 | true =>
 simp;refine af (aa.ag (S0 x)) ?_;cases h2:jK x with
 | false=>simp[Fx,dn,ofL,Ie,Bw,dd,gH,mi,h1,h2]
 | true =>
 obtain ⟨k1,k2,k3⟩:=iC h2;have hl:=d5 h1;have hL:=jL x.by_ l;have hLg:∀ g ∈ ey x.by_ l,cb g=true:=fun g hg=>dz h1 g (qm.1 hg);have hask:gH l x=pQ (szE x) x.height.toNat (ey x.by_ l):=by simp only[gH,mi,h1,h2];rfl
 have hpl:dn l x=((pQ (szE x) x.height.toNat (ey x.by_ l)).getD []).map (cY x):=by rw[dn,hask]
 have hol:ofL l x=Ie ((pQ (szE x) x.height.toNat (ey x.by_ l)).getD []):=by rw[ofL,hask]
 have htk:dd l x=(pQ (szE x) x.height.toNat (ey x.by_ l)).isSome:=by rw[dd,hask]
 simp[Py,Pz];refine bN (aa.ag (sY l x.by_ h1)) ?_;rw[hpl,hol,htk];generalize ey x.by_ l=L at hL hLg ⊢;simp
 refine ci (fun p:List (List Grant)×Nat=>⟨[(3,.ref 3 0 0),(7,.sl 22 0 p.1.length),(8,.sl 23 0 p.2),(27,.sl 27 0 L.length),(28,I L.length),(29,I p.2)],[(3,⟨3,[d6 x]⟩),(22,⟨1,p.1.map (Fe x)⟩),(23,⟨1,gu (Ie p.1)⟩),(27,⟨18,L.map aY⟩)],[]⟩) (fun p=>L.length - p.2)
  (fun p=>p.2<=L.length/\gM (szE x) x.height.toNat L p.2 p.1/\p.1.flatten.length=p.2/\p.1.length<=p.2/\∀ q ∈ p.1,(cY x q).length<=x.height.toNat) ([],0) (Wk.list rfl (by simp) (by simp[Ie,Bw])) (by simp[gM]) ?_
 rintro ⟨P,k⟩ ⟨hk,hP,hfl,hPl,hPs⟩ K hN hR hE;dsimp only at hk hP hfl hPl hPs ⊢;have hof:=U6 P;simp[Lu,PA];refine⟨fun hlt=>?_,fun hge=>?_⟩
 ·obtain ⟨g,hg⟩:∃ g,L[k]=g:=⟨_,rfl⟩;have hgo:cb g=true:=hLg g (hg▸List.getElem_mem _);have hEl:=J3 x.width g;simp[PB,hlt,hg];simp[PC];refine bN (aa.ag (Zp g x.width hgo k2)) ?_;have hsz:szE x g=(eV x.width g).length:=rfl;have hls:=WO x;obtain ⟨E,hEe⟩:∃ E,eV x.width g=E:=⟨_,rfl⟩;rw[hEe] at hEl hsz ⊢;simp[PD];refine⟨fun hbig=>?_,fun hfit=>?_⟩
  ·have hnone:=hP.fail hlt (by rw[hg,hsz];omega);simp[PE];refine hR _ ?_;simp[hnone,Ie,Bw]
  ·simp[Me]
   have hcase:P=[]\/∃ done cur,P=done++[cur]:=by
    rcases hP with ⟨_,h⟩ | ⟨d,c,h,_⟩
    ·exact .inl h
    ·exact .inr ⟨d,c,h⟩
   have hfitL:¬x.height.toNat < szE x L[k]:=by rw[hg,hsz];omega
   rcases hcase with rfl | ⟨done,cur,rfl⟩
   case' inl =>
    refine dY _ (Wk.refl _) ?_;simp[BH,mU];refine⟨aO (by simp[mU]) (by simp),?_⟩;simp[BI];refine⟨by unfold ba;omega,?_⟩
    have hfill:Fill x L k g [] [] (Ie []):=⟨rfl,by have:=hP.new hlt hfitL (.inl rfl);rw[hg] at this;simpa using this,by simp at hfl;simp[<- hfl],by simp,by
     intro q hq;simp at hq;subst hq;rw[show ([g]:List Grant)=[]++[g] from rfl,hls,List.length_append,hEe,show cY x []=[] from rfl,List.length_nil];omega⟩
    have hl0:cY x []=[]:=rfl;refine dY (rU x L k [] (cY x []) E (Ie [])) (Pm Wk.li) ?_;generalize ([]:List (List Grant))=D at hfill ⊢;generalize Ie _=F at hfill ⊢;generalize ([]:List Grant)=C at hfill ⊢
   case' inr =>
    have hdl:(done.map (Fe x)).length=done.length:=List.length_map ..;simp only[List.map_append,List.map_cons,List.map_nil];refine dY _ (Wk.unfold1 22 done.length 500 (sz:=1) (es:=(cY x cur).map S) (by rfl) (bU hdl) (by simp)) ?_;have hdb:done.length+1<=k:=by simpa using hPl
    have hw:IntKind.i64.wrap (done.length:Int)=done.length:=am (by omega);have hnz:¬((done.length:Int)+1=0):=by omega
    have hcl:=hPs cur (by simp);have hsc:gj (szE x) cur=(cY x cur).length:=(RI x cur).symm;simp[BH,mU,bV hdl,bU hdl,hw,hnz];rw[am (n:=((cY x cur).length:Int)+E.length) (by omega)];refine⟨by omega,aO (by simp[mU]) (by simp),fun hover=>?over,fun hfits=>?fits⟩
    case' over =>
     simp[BI,bU hdl]
     have hfill:Fill x L k g (done++[cur]) [] (Ie (done++[cur])):=⟨(aau _).symm,by have:=hP.new hlt hfitL (.inr ⟨done,cur,rfl,by rw[hsc,hg,hsz];omega⟩);rw[hg] at this;simpa using this,by simp at hfl;simp;omega,by simpa using hPl,by
      intro q hq;rcases List.mem_append.1 hq with hq | hq
      ·exact hPs q hq
      simp at hq;subst hq;rw[show ([g]:List Grant)=[]++[g] from rfl,hls,List.length_append,hEe,show cY x []=[] from rfl,List.length_nil];omega⟩
     have ht2:List.take (done.length+1) (List.map (Fe x) done++[V.sl 500 0 (cY x cur).length])=List.map (Fe x) done++[V.sl 500 0 (cY x cur).length]:=List.take_of_length_le (by simp);rw[ht2];refine⟨by unfold ba;omega,?_⟩;have hl0:cY x []=[]:=rfl;refine dY (rU x L k (done++[cur]) (cY x []) E (Ie (done++[cur]))) (Pm (Wk.trans (Wk.fold1 62 done.length 500 (n:=(cY x cur).length) (by rfl) (by rfl) (by rw[List.append_assoc];exact bU hdl) (by simp) (by simp) (by simp)) (Wk.list rfl (by simp) (by simp[bV hdl])))) ?_;generalize Ie _=F at hfill ⊢;generalize done++[cur]=D at hfill ⊢;generalize ([]:List Grant)=C at hfill ⊢
    case' fits =>
     have hfill:Fill x L k g done cur (Ie (done++[cur])):=⟨rfl,by have:=hP.add hlt hfitL (by rw[hsc,hg,hsz];omega);rw[hg] at this;exact this,by simp at hfl;simp;omega,by omega,by
      intro q hq;rcases List.mem_append.1 hq with hq | hq
      ·exact hPs q (by simp[hq])
      simp at hq;subst hq;rw[hls,List.length_append,hEe];omega⟩
     refine dY (rU x L k done (cY x cur) E (Ie (done++[cur]))) (Wk.list rfl (by simp[rU]) (by simp[rU])) ?_;generalize Ie _=F at hfill ⊢;generalize done=D at hfill ⊢;generalize cur=C at hfill ⊢
   all_goals
    have hFl:F.length=k:=by
     have h1:=hfill.flat;rw[hfill.num,U6];simp at h1 ⊢;omega
    have hfew:=hfill.few;have hCl:=hfill.low (C++[g]) (by simp);rw[hls,List.length_append,hEe] at hCl;have hdl2:(D.map (Fe x)).length=D.length:=List.length_map ..;have hw2:IntKind.i64.wrap (D.length:Int)=D.length:=am (by omega);simp[rU,Mf];simp[Mg,hw2,bU hdl2];refine⟨by omega,by unfold ba;omega,by omega,?_⟩;have htF:List.take k (gu F)=gu F:=List.take_of_length_le (by rw[List.length_map];omega);have hoi:Ie (D++[C++[g]])=F++[((D.length+1:Nat):Int)]:=by rw[act,hfill.num]
    simp[Mh,hFl,htF];refine⟨by unfold ba;omega,?_⟩;simp[Mi];rw[am (n:=(D.length:Int)+1) (by omega),am (n:=(k:Int)+1) (by omega)]
    have hT:∀ s,Wk s ⟨[(3,.ref 3 0 0),(7,.sl 22 0 (D.length+1)),(8,.sl 79 0 (k+1)),(27,.sl 27 0 L.length),(28,I L.length),(29,I ((k:Int)+1))],[(3,⟨3,[d6 x]⟩),(22,⟨1,D.map (Fe x)++[.sl 73 0 ((cY x C).length+E.length)]⟩),(73,⟨1,(cY x C).map S++E.map S⟩),(79,⟨1,gu F++[I ((D.length:Int)+1)]⟩),(27,⟨18,L.map aY⟩)],[]⟩ ->
      Wk s ⟨[(3,.ref 3 0 0),(7,.sl 22 0 (D++[C++[g]]).length),(8,.sl 23 0 (k+1)),(27,.sl 27 0 L.length),(28,I L.length),(29,I ((k+1:Nat):Int))],[(3,⟨3,[d6 x]⟩),(22,⟨1,(D++[C++[g]]).map (Fe x)⟩),(23,⟨1,gu (Ie (D++[C++[g]]))⟩),(27,⟨18,L.map aY⟩)],[]⟩:=fun s h =>
     Wk.trans h <| Wk.trans (Wk.fold1 22 D.length 73 (n:=(cY x C).length+E.length) (by rfl) (by rfl) (bU hdl2) (by simp) (by simp) (by simp)) <| Wk.trans (Wk.ren 79 23 (by decide) (by simp[bV hdl2])) (Wk.list rfl (by simp[AS.ren,B8,B7]) (by simp[AS.ren,B8,B7,su,bV hdl2,hoi,hls,hEe]))
    exact hN (D++[C++[g]],k+1) _ (by dsimp only;omega) ⟨by dsimp only;omega,hfill.at_,hfill.flat,by simp;omega,hfill.low⟩ (hT _ Wk.li)
 ·obtain rfl:k=L.length:=by omega
  refine hE _ _ ?_;simp only[aL];simp[Mj,hP.done,hof,hfl]
abbrev LF (p:List Nat):V:=.own 1 (p.map PY)
abbrev roX (p:List Nat):V:=.ro 1 (p.map PY)
theorem aaN (x:Roll):cJ E1 [d6 x] (B (jK x)):=by
 refine aa.of Uy (by simp) ?_;simp[OQ,IM,IP];refine af (ad7 ..) ?_;cases h1:fu x.by_ 1 3 with
 | false=>simp[jK,h1]
 | true =>
 simp;refine af (nM ..) ?_;cases h2:fu x.width 20 60 with
 | false=>simp[jK,h1,h2]
 | true =>
 simp;refine af (nM ..) ?_;simp[jK,h1,h2]
def YW (x:Roll) (l:aZ) (i:Nat):Nat:=(eV x.width (List.getD l i jz)).length
def NO (x:Roll) (l:aZ) (P:List (List Nat)):Nat:=gj (YW x l) (P.getLast?.getD [])
theorem Sx (x:Roll) (l:aZ) (D:List (List Nat)) (C:List Nat):NO x l (D++[C])=gj (YW x l) C:=by simp[NO]
theorem Xd (x:Roll) (l:aZ):LI x l=pQ (YW x l) x.height.toNat (xX x.by_ l):=rfl
def nO (x:Roll) (l:aZ) (L:List Nat) (k:Nat) (D:List (List Nat)) (C:List Nat) (u m:Int):AS :=
 ⟨[(2,.ref 2 0 0),(3,.ref 3 0 0),(6,.sl 12 0 (D.length+1)),(7,I u),(8,.sl 16 0 L.length),(9,I k),(10,I m)],[(2,⟨1,[be l]⟩),(3,⟨3,[d6 x]⟩),(12,⟨1,D.map LF++[.sl 500 0 C.length]⟩),(500,⟨1,C.map PY⟩),(16,⟨1,L.map PY⟩)],[]⟩
theorem NK {x:Roll} {l:aZ} {L:List Nat} {k:Nat} {P:List (List Nat)} {m:Int} {s:AS}
  (h:Wk s ⟨[(2,.ref 2 0 0),(3,.ref 3 0 0),(6,.sl 54 0 (P.length+1)),(7,I 0),(8,.sl 16 0 L.length),(9,I k),(10,I m)],[(54,⟨1,P.map LF++[.sl 52 0 0]⟩),(52,⟨1,[]⟩),(2,⟨1,[be l]⟩),(3,⟨3,[d6 x]⟩),(16,⟨1,L.map PY⟩)],[]⟩):Wk s (nO x l L k P [] 0 m):=by
 refine Wk.trans h <| Wk.trans (Wk.ren 54 12 (by decide) ?_) <| Wk.trans (Wk.ren 52 500 (by decide) ?_) (Wk.list rfl ?_ ?_)
 ·simp
 ·simp[AS.ren,B8,B7,su]
 ·simp[nO,AS.ren,B8,B7]
 ·simp[nO,AS.ren,B8,B7,su]
structure FillX (x:Roll) (l:aZ) (L:List Nat) (k q:Nat) (D:List (List Nat)) (C:List Nat) (u:Nat):Prop where
 num:u=gj (YW x l) C
 at_:gM (YW x l) x.height.toNat L (k+1) (D++[C++[q]])
 flat:(D++[C++[q]]).flatten.length=k+1
 few:D.length<=k
 low:u+YW x l q<=x.height.toNat
set_option maxHeartbeats 4000000 in
theorem YP (l:aZ) (x:Roll) (h1:b8 l=true) (h2:jK x=true):cJ Bp [be l,d6 x] (.tup [.own 1 (((LI x l).getD []).map LF),B (LI x l).isSome]):=by
 obtain ⟨k1,k2,k3⟩:=iC h2;have hl:=d5 h1;have hL:=Sc x.by_ l;have hLm:∀ q ∈ xX x.by_ l,q < List.length l:=TX;refine aa.of SS (by simp) ?_;simp[Lb,Gu,Gv,Gw,Gx];refine bN (aa.ag (YO l x.by_ h1)) ?_;rw[Xd];generalize xX x.by_ l=L at hL hLm ⊢;simp[Gy]
 refine ci (fun p:List (List Nat)×Nat=>⟨[(2,.ref 2 0 0),(3,.ref 3 0 0),(6,.sl 12 0 p.1.length),(7,I (NO x l p.1)),(8,.sl 16 0 L.length),(9,I p.2)],[(2,⟨1,[be l]⟩),(3,⟨3,[d6 x]⟩),(12,⟨1,p.1.map LF⟩),(16,⟨1,L.map PY⟩)],[]⟩) (fun p=>L.length - p.2)
  (fun p=>p.2<=L.length/\gM (YW x l) x.height.toNat L p.2 p.1/\p.1.flatten.length=p.2/\p.1.length<=p.2/\NO x l p.1<=x.height.toNat) ([],0) (Wk.list rfl (by simp[NO,gj]) (by simp)) (by simp[gM,NO,gj]) ?_
 rintro ⟨P,k⟩ ⟨hk,hP,hfl,hPl,hu⟩ K hN hR hE;dsimp only at hk hP hfl hPl hu ⊢;simp[CB,Gz];refine⟨fun hlt=>?_,fun hge=>?_⟩
 ·obtain ⟨q,hq⟩:∃ q,L[k]=q:=⟨_,rfl⟩;have hql:q < List.length l:=hLm q (hq▸List.getElem_mem _);have hqd:List.getD l q jz=l[q]:=by simp[hql]
  have hgo:cb l[q]=true:=dz h1 _ (List.getElem_mem _);have hEl:=J3 x.width l[q];have hsz:YW x l q=(eV x.width l[q]).length:=by rw[YW,hqd]
  simp[GA,tB,hlt,hq,hql];refine ft (aa.ag (KH l[q] x.width hgo k2)) ?_;simp;refine⟨aO (by simp[tB]) (by simp),?_⟩;generalize (eV x.width l[q]).length=m at hEl hsz ⊢;simp[GB];refine⟨fun hbig=>?_,fun hfit=>?_⟩
  ·have hnone:=hP.fail hlt (by rw[hq,hsz];omega);simp[GC];refine hR _ ?_;simp[hnone]
  ·have hcase:P=[]\/∃ done cur,P=done++[cur]:=by
    rcases hP with ⟨_,h⟩ | ⟨d,c,h,_⟩
    ·exact .inl h
    ·exact .inr ⟨d,c,h⟩
   have hfitL:¬x.height.toNat < YW x l L[k]:=by rw[hq,hsz];omega
   rcases hcase with rfl | ⟨done,cur,rfl⟩
   case' inl =>
    have hu0:NO x l []=0:=rfl;obtain ⟨C,hC0⟩:∃ C:List Nat,C=[]:=⟨_,rfl⟩;obtain ⟨u,hu1⟩:∃ u:Nat,u=0:=⟨_,rfl⟩;have hfill:FillX x l L k q [] C u:=by subst hC0 hu1;exact⟨rfl,by have:=hP.new hlt hfitL (.inl rfl);rw[hq] at this;simpa using this,by simp at hfl;simp[<- hfl],by simp,by rw[hsz];omega⟩
    simp[ue];simp[qP,qQ];refine⟨by unfold ba;omega,?_⟩;refine dY (nO x l L k [] C u m) (by subst hC0 hu1;exact NK Wk.li) ?_;generalize ([]:List (List Nat))=D at hfill ⊢
   case' inr =>
    have hdl:(done.map LF).length=done.length:=List.length_map ..;have hdb:done.length+1<=k:=by simpa using hPl
    have hus:=Sx x l done cur;have hub:gj (YW x l) cur<=x.height.toNat:=by rw[<- hus];exact hu
    have hnz:¬((done.length:Int)+1=0):=by omega
    simp[ue,hus,hnz];rw[am (n:=(gj (YW x l) cur:Int)+m) (by omega)];refine⟨fun hover=>?over,fun hfits=>?fits⟩
    case' over =>
     obtain ⟨C,hC0⟩:∃ C:List Nat,C=[]:=⟨_,rfl⟩;obtain ⟨u,hu1⟩:∃ u:Nat,u=0:=⟨_,rfl⟩;have hfill:FillX x l L k q (done++[cur]) C u:=by subst hC0 hu1;exact⟨rfl,by have:=hP.new hlt hfitL (.inr ⟨done,cur,rfl,by rw[hq,hsz];omega⟩);rw[hq] at this;simpa using this,by simp at hfl;simp;omega,by simpa using hPl,by rw[hsz];omega⟩
     simp[qP,qQ];have ht2:List.take (done.length+1) (List.map LF done++[LF cur])=List.map LF done++[LF cur]:=List.take_of_length_le (by simp);rw[ht2];refine⟨by unfold ba;omega,?_⟩;refine dY (nO x l L k (done++[cur]) C u m) (by subst hC0 hu1;exact NK Wk.li) ?_;generalize done++[cur]=D at hfill ⊢
    case' fits =>
     have hfill:FillX x l L k q done cur (gj (YW x l) cur):=⟨rfl,by have:=hP.add hlt hfitL (by rw[hq,hsz];omega);rw[hq] at this;exact this,by simp at hfl;simp;omega,by omega,by rw[hsz];omega⟩;refine dY (nO x l L k done cur (gj (YW x l) cur) m) (Wk.trans (Wk.unfold1 12 done.length 500 (sz:=1) (es:=cur.map PY) (by rfl) (bU hdl) (by simp)) (Wk.list rfl (by simp[nO]) (by simp[nO,bV hdl]))) ?_;generalize gj (YW x l) cur=u at hfill ⊢;generalize done=D at hfill ⊢;generalize cur=C at hfill ⊢
   all_goals
    have hfew:=hfill.few;have hlow:=hfill.low
    have hCk:C.length<=k:=by
     have h1:=hfill.flat;simp at h1;omega
    have hdl2:(D.map LF).length=D.length:=List.length_map ..;have hw2:IntKind.i64.wrap (D.length:Int)=D.length:=am (by omega);simp[nO,DH];simp[DI,qF,hw2,bU hdl2,bV hdl2,hlt,hq];refine⟨by omega,by unfold ba;omega,by omega,aO (by simp[qF,bV hdl2,bU hdl2]) (by simp[bV hdl2,bU hdl2]),?_⟩;have hus2:NO x l (D++[C++[q]])=u+m:=by rw[Sx,Sn,<- hfill.num,hsz]
    simp[DJ,DK];rw[am (n:=(u:Int)+m) (by omega),am (n:=(k:Int)+1) (by omega)]
    have hT:∀ s,Wk s ⟨[(2,.ref 2 0 0),(3,.ref 3 0 0),(6,.sl 12 0 (D.length+1)),(7,I ((u:Int)+m)),(8,.sl 16 0 L.length),(9,I ((k:Int)+1))],[(2,⟨1,[be l]⟩),(3,⟨3,[d6 x]⟩),(12,⟨1,D.map LF++[.sl 69 0 (C.length+1)]⟩),(69,⟨1,C.map PY++[PY q]⟩),(16,⟨1,L.map PY⟩)],[]⟩ ->
      Wk s ⟨[(2,.ref 2 0 0),(3,.ref 3 0 0),(6,.sl 12 0 (D++[C++[q]]).length),(7,I (NO x l (D++[C++[q]]))),(8,.sl 16 0 L.length),(9,I ((k+1:Nat):Int))],[(2,⟨1,[be l]⟩),(3,⟨3,[d6 x]⟩),(12,⟨1,(D++[C++[q]]).map LF⟩),(16,⟨1,L.map PY⟩)],[]⟩:=fun s h =>
     Wk.trans h <| Wk.trans (Wk.fold1 12 D.length 69 (n:=C.length+1) (by rfl) (by rfl) (bU hdl2) (by simp) (by simp) (by simp)) (Wk.list rfl (by simp[hus2]) (by simp[bV hdl2]))
    exact hN (D++[C++[q]],k+1) _ (by dsimp only;omega) ⟨by dsimp only;omega,hfill.at_,hfill.flat,by simp;omega,by dsimp only;omega⟩ (hT _ Wk.li)
 ·obtain rfl:k=L.length:=by omega
  refine hE _ _ ?_;simp only[aL];simp[DL,hP.done]
theorem Sk (l:aZ) (x:Roll):cJ rS [be l,d6 x] (.tup [.own 1 (((jf l x).getD []).map LF),B (jf l x).isSome]):=by
 refine aa.of SP (by simp) ?_;simp[K8,F8,F9];refine af (aa.ag (TZ l)) ?_;cases h1:b8 l with
 | false=>simp[uc,jf,mi,h1]
 | true =>
 simp;refine af (aa.ag (aaN x)) ?_;cases h2:jK x with
 | false=>simp[uc,jf,mi,h1,h2]
 | true =>
 simp[Ga];refine bN (aa.ag (YP l x h1 h2)) ?_;simp[jf,mi,h1,h2]
theorem aaE {ps:List (List Grant)} {L:List Grant} (hf:ps.flatten=L) {k:Nat} (hk:k < L.length) (hF:k < (Ie ps).length):∃ h:k < (dp 0 ps).length,(dp 0 ps)[k]=(L[k].name,(Ie ps)[k]):=by
 have hl:=tC 0 ps;rw[hf] at hl;refine⟨by omega,?_⟩;have hz:=R4 0 ps
 have e:(dp 0 ps)[k]?=some (L[k].name,(Ie ps)[k]):=by
  rw[<- hz,List.getElem?_zip_eq_some];refine⟨?_,?_⟩
  ·rw[hf,List.getElem?_map,List.getElem?_eq_getElem hk];rfl
  ·exact List.getElem?_eq_getElem hF
 rw[List.getElem?_eq_getElem (by omega)] at e;exact Option.some.inj e
theorem Wt {m:gK} {n:T8} {p:Int} (h:dZ n m=none):jU m (n,p)=dD n (some [p]) m:=by
 unfold jU;rw[h];rfl
theorem Wu {m:gK} {n:T8} {p:Int} {r:List Int} (h:dZ n m=some (some r)):jU m (n,p)=dD n (some (r++[p])) (dD n none m):=by
 unfold jU;rw[h,TK];rfl
theorem Ln {m:gK} {n:T8} {p:Int}:(jU m (n,p)).map (·.1)=if (dZ n m).isSome then m.map (·.1) else m.map (·.1)++[n]:=HG ..
set_option maxHeartbeats 4000000 in
theorem O7 (l:aZ) (x:Roll):cJ ku [be l,d6 x] (.tup [.own 1 ((vj l x).map S),B (dd l x)]):=by
 have hP:=UO l x;refine aa.ofN Rl (by simp) ?_;simp[HY,CP,CQ];refine bN (aa.ag hP) ?_;unfold dd ofL vj TN;cases hx:gH l x with
 | none=>simp[qG,CS,Ie,Bw,E8,dp,eD]
 | some ps =>
 obtain ⟨h1,h2,_⟩:=jP hx;have hf:=sL hx;have hl:=d5 h1;have hL:=jL x.by_ l;have hol:=U6 ps;have hpc:=Ej hx;have hLg:∀ g ∈ ey x.by_ l,cb g=true:=fun g hg=>dz h1 g (qm.1 hg);simp[qG,CT];refine⟨by simp,fun b=>?_⟩;simp[CU];refine bN (aa.ag (sY l x.by_ h1)) ?_;have hat:=@aaE ps _ hf;have hzl:=tC 0 ps;have hzs:=(KA 0 ps).1;rw[hf] at hol hzl;generalize ey x.by_ l=L at hL hol hzl hat hLg hf ⊢;generalize Ie ps=F at hol hat ⊢;generalize hZ:dp 0 ps=Z at hzl hat hzs ⊢;simp
 refine ci (fun p:Nat×List T8×gK=>⟨[(7,.sl 1024 0 F.length),(9,.v (.map (some b))),(10,.sl 31 0 p.2.1.length),(35,.sl 35 0 L.length),(36,I L.length),(37,I p.1)],[(35,⟨18,L.map aY⟩),(1024,⟨1,gu F⟩),(31,⟨1,p.2.1.map S⟩),(5000,bo b p.2.2)],[]⟩)
  (fun p=>L.length - p.1) (fun p=>p.1<=L.length/\p.2.2=TA (Z.take p.1)/\p.2.1=p.2.2.map (·.1)) (0,[],[]) Wk.li (by simp[TA]) ?_
 rintro ⟨k,N,m⟩ ⟨hk,hm,hN⟩ K hN' hR hE;dsimp only at hk hm hN ⊢;simp[yz,CW];refine⟨fun hlt=>?_,fun hge=>?_⟩
 ·obtain ⟨g,hg⟩:∃ g,L[k]=g:=⟨_,rfl⟩;have hFk:k < F.length:=by omega
  obtain ⟨p,hp⟩:∃ p,F[k]=p:=⟨_,rfl⟩;obtain ⟨hkz,hzk⟩:=hat hlt hFk;rw[hg,hp] at hzk;simp[CX,hlt,hg];simp[CY];refine WQ (m:=m) (by simp) ?_;have htk:Z.take (k+1)=Z.take k++[(g.name,p)]:=by rw[br hkz,hzk]
  have hm':TA (Z.take (k+1))=jU m (g.name,p):=by rw[htk,Lo,hm]
  have hNl:N.length<=12:=by
   have h5:=Zo (Z.take k);rw[List.length_take] at h5;rw[hN,List.length_map,hm];omega
  have hgg:dZ g.name m=none\/∃ r,dZ g.name m=some (some r)/\r.length<=12:=by
   have h6:=NC g.name (Z.take k);rw[List.length_take] at h6;rw[hm,UJ];split
   ·exact .inr ⟨_,rfl,by omega⟩
   ·exact .inl rfl
  rcases hgg with hkn | ⟨r,hkn,hrl⟩
  ·have e1:=Wt (p:=p) hkn;have e2:=Ln (m:=m) (n:=g.name) (p:=p);rw[hkn,if_neg (by simp),<- hN] at e2;simp[hkn,qH,zh];refine⟨by unfold ba;omega,?_⟩;refine dY ⟨[(7,.sl 1024 0 F.length),(9,.v (.map (some b))),(10,.sl 31 0 (N++[g.name]).length),(11,I k),(12,.ref 12 0 0),(35,.sl 35 0 L.length),(36,I L.length),(37,I k)],[(12,⟨18,[aY g]⟩),(35,⟨18,L.map aY⟩),(1024,⟨1,gu F⟩),(31,⟨1,(N++[g.name]).map S⟩),(5000,bo b m)],[]⟩ (Wk.trans (Wk.ren 55 31 (by decide) (by simp)) Wk.li) ?_;simp[pb,gY,hFk,hp];refine aag (m:=m) (by simp) hkn ?_;simp[hFk,hp];refine⟨by unfold ba;omega,WY (m:=m) [p] (by simp) (by simp) (by simp) ?_⟩;simp;refine⟨aO (by simp[gY]) (by simp),?_⟩;simp[pc];rw[am (by omega)];exact hN' (k+1,N++[g.name],jU m (g.name,p)) _ (by dsimp only;omega) ⟨by dsimp only;omega,hm'.symm,e2.symm⟩ (Wk.list rfl (by simp) (by simp[e1]))
  ·have e1:=Wu (p:=p) hkn;have e2:=Ln (m:=m) (n:=g.name) (p:=p);rw[hkn,if_pos (by simp),<- hN] at e2;simp[hkn,qH];refine dY ⟨[(7,.sl 1024 0 F.length),(9,.v (.map (some b))),(10,.sl 31 0 N.length),(11,I k),(12,.ref 12 0 0),(35,.sl 35 0 L.length),(36,I L.length),(37,I k)],[(12,⟨18,[aY g]⟩),(35,⟨18,L.map aY⟩),(1024,⟨1,gu F⟩),(31,⟨1,N.map S⟩),(5000,bo b m)],[]⟩ Wk.li ?_;simp[pb,gY,hFk,hp];refine aah (m:=m) r (by simp) hkn ?_;simp[hFk,hp];refine⟨by unfold ba;omega,WY (m:=dD g.name none m) (r++[p]) (by simp) (by simp) (by simp) ?_⟩;simp;refine⟨aO (by simp[gY]) (by simp),?_⟩;simp[pc];rw[am (by omega)];exact hN' (k+1,N,jU m (g.name,p)) _ (by dsimp only;omega) ⟨by dsimp only;omega,hm'.symm,e2.symm⟩ (Wk.list rfl (by simp) (by simp[e1]))
 ·obtain rfl:k=L.length:=by omega
  have hNl:N.length<=12:=by
   have h5:=Zo (Z.take L.length);rw[List.length_take] at h5;rw[hN,List.length_map,hm];omega
  refine hE _ _ ?_;simp only[aL];rw[List.take_of_length_le (by omega)] at hm;clear hN' hR hE;have hsort:=aaP Z;rw[<- hm,<- hN] at hsort;simp[zi];have hS:=uN N (by omega);rw[hsort] at hS;refine bJ [31] [] (ac.ag hS) ?_;have hAl:(eD (Z.map (·.1))).length=N.length:=by rw[<- hsort,T2]
  have hAs:=xg (Z.map (·.1));have hAm:=ta (Z.map (·.1));have hzn:=rV 0 ps;rw[hZ,hf] at hzn
  have hname:∀ n,n ∈ eD (Z.map (·.1))->n.length<=12:=fun n hn=>by
   rw[hAm,hzn] at hn;obtain ⟨g,hg,rfl⟩:=List.mem_map.1 hn;exact(tv (fI (hLg g hg)).2.1).2
  have hrow:∀ n,n ∈ eD (Z.map (·.1))->dZ n m=some (some (fy n Z)):=fun n hn=>by
   rw[hAm] at hn;rw[hm,UJ,if_pos hn]
  have hfin:E8 (dp 0 ps)=(eD (Z.map (·.1))).map fun n=>va n (fy n Z):=by rw[hZ];rfl
  rw[hfin];generalize eD (Z.map (·.1))=A at hS hAl hAs hname hrow ⊢;rw[<- hAl];simp[zj,zk];clear hat hP hS hsort
  refine ci (fun p:Nat×List T8×gK=>⟨[(9,.v (.map (some b))),(15,.sl 72 0 p.2.1.length),(73,.sl 31 0 A.length),(74,I A.length),(75,I p.1)],[(72,⟨1,p.2.1.map S⟩),(31,⟨1,A.map S⟩),(5000,bo b p.2.2)],[]⟩)
   (fun p=>A.length - p.1) (fun p=>p.1<=A.length/\p.2.2=Sr (A.take p.1) m/\p.2.1=(A.take p.1).map fun n=>va n (fy n Z)) (0,[],m) Wk.li (by simp[Sr]) ?_
  rintro ⟨i,out,c⟩ ⟨hi,hc,ho⟩ K hN' hR hE;dsimp only at hi hc ho ⊢;have hol2:out.length=i:=by rw[ho,List.length_map,List.length_take];omega
  simp[yB,zl];refine⟨fun hlt=>?_,fun hge=>?_⟩
  ·obtain ⟨n,hn⟩:∃ n,A[i]=n:=⟨_,rfl⟩;have hnA:n ∈ A:=hn▸List.getElem_mem _;have hnl:=hname n hnA
   have hnot:n ∉ A.take i:=by
    intro h;obtain ⟨j,hj,e⟩:=List.getElem_of_mem h;rw[List.length_take] at hj;rw[List.getElem_take] at e;have:=List.pairwise_iff_getElem.1 hAs j i (by omega) hlt (by omega);exact this.2 (by rw[e,hn])
   have hget:dZ n c=some (some (fy n Z)):=by rw[hc,aba m hnot,hrow n hnA]
   have hR12:=NC n Z
   have hRm:∀ p ∈ fy n Z,0<=p/\p<=99:=fun p hp=>by
    unfold fy at hp;obtain ⟨z,hz,rfl⟩:=List.mem_map.1 hp;have:=hzs z (List.mem_filter.1 hz).1;omega
   have htk:A.take (i+1)=A.take i++[n]:=by rw[br hlt,hn]
   have hc':Sr (A.take (i+1)) m=dD n none c:=by rw[htk,Su,hc]
   have ho':((A.take (i+1)).map fun n=>va n (fy n Z))=out++[va n (fy n Z)]:=by rw[htk,List.map_append,ho];rfl
   simp[zm,zn,hlt,hn];simp[zo];refine aai (m:=c) (fy n Z) (by simp) hget (by simp) ?_;simp;refine bN (aa.ag (abV (fy n Z) (by omega))) ?_;have hFl:=HC (fy n Z);have hFm:∀ p ∈ cK (fy n Z),0<=p/\p<=99:=fun p hp=>hRm p (Bb hp);have hline:va n (fy n Z)=n++32::Lib.join (nW (cK (fy n Z))) [44,32]:=rfl;generalize cK (fy n Z)=Fs at hFl hFm hline ⊢;simp
   refine ci (fun q:Nat×List T8=>⟨[(9,.v (.map (some b))),(15,.sl 72 0 out.length),(17,S n),(18,.sl 79 0 q.2.length),(73,.sl 31 0 A.length),(74,I A.length),(75,I i),(83,.sl 83 0 Fs.length),(84,I Fs.length),(85,I q.1)],
     [(83,⟨1,gu Fs⟩),(79,⟨1,q.2.map S⟩),(72,⟨1,out.map S⟩),(31,⟨1,A.map S⟩),(5000,bo b (dD n none c))],[]⟩)
    (fun q=>Fs.length - q.1) (fun q=>q.1<=Fs.length/\q.2=nW (Fs.take q.1)) (0,[]) Wk.li (by simp[nW]) ?_
   rintro ⟨j,W⟩ ⟨hj,hW⟩ K2 hN2 hR2 hE2;dsimp only at hj hW ⊢;have hWl:W.length=j:=by rw[hW,nW,List.length_map,List.length_take];omega
   simp[yA,zp];refine⟨fun hlt2=>?_,fun hge2=>?_⟩
   ·obtain ⟨p,hp⟩:∃ p,Fs[j]=p:=⟨_,rfl⟩;have hpb:=hFm p (hp▸List.getElem_mem _);have htk2:nW (Fs.take (j+1))=W++[cW p.toNat]:=by rw[br hlt2,hW,hp];simp[nW]
    simp[zq,zr,hlt2,hp];refine af (aa.ag (RE p ⟨by omega,by omega⟩)) ?_;simp;refine⟨by unfold ba;omega,?_⟩;simp[zt];rw[am (by omega)];exact hN2 (j+1,W++[cW p.toNat]) _ (by dsimp only;omega) ⟨by dsimp only;omega,htk2.symm⟩ (Wk.trans (Wk.ren 93 79 (by decide) (by simp)) Wk.li)
   ·obtain rfl:j=Fs.length:=by omega
    rw[List.take_of_length_le (Nat.le_refl _)] at hW;have hws:=TR hFm;have hjl:=WF (sep:=[44,32]) (l:=W) (m:=4) (by rw[hW];exact hws);simp only[List.length_cons,List.length_nil] at hjl;rw[<- hW] at hline;refine hE2 _ _ ?_;simp only[aL];simp[zu];refine⟨by omega,?_⟩;refine af (aa.ag (Qr [44,32] W (by omega) (by omega))) ?_;generalize Lib.join W [44,32]=J at hjl hline ⊢;simp;refine⟨by omega,by unfold ba;omega,?_⟩;simp[zv];rw[am (by omega)];exact hN' (i+1,out++[va n (fy n Z)],dD n none c) _ (by dsimp only;omega) ⟨by dsimp only;omega,hc'.symm,ho'.symm⟩ (Wk.trans (Wk.ren 102 72 (by decide) (by simp)) (Wk.list rfl (by simp) (by simp[hline])))
  ·obtain rfl:i=A.length:=by omega
   rw[List.take_of_length_le (Nat.le_refl _)] at ho;refine hE _ _ ?_;simp only[aL];have e3:A.map (S∘fun n=>va n (fy n Z))=out.map S:=by rw[ho,List.map_map]
   rw[e3];simp[zw]
def Da:=[fc 2 1 0,fc 3 3 1,ok 4 vN,ok 5 (vB false)]
def Db:=[oo 17 (.bslice 1 (vS []) 0 []),om 6 17]
def Dc:=[cm 19 1 2,cm 20 3 3,eo 21 rS 19 20,om 18 21,sE 22 18 0,sE 23 18 1,om 7 22,om 8 23]
def qJ:=[om 24 8,oo 25 (.un .not (.t 24))]
def Dd:=[om 26 6,om 4 26,ok 5 (vB false)]
def De:=[oo 27 (.bslice 1 (vS []) 0 []),om 9 27]
def Df:=[ok 10 (vI 0)]
def Dg:=[om 28 10,aJ 29 0 2,bd 30 1 29,oo 31 (.len false (.t 30)),bM 32 .lss 28 31]
def Dh:=[om 35 9,aJ 36 0 2,bd 37 1 36,om 38 10,ep 39 18 37 38,aJ 40 1 39,bd 41 1 40,eo 42 Bn 35 41,om 9 42]
def qK:=[om 33 10,fv 34 33 1,om 10 34]
def yC:C:=(ss (sr Dg [2,6,7,9,10,32] (sc 32 .skip (.exit 0))) (ss (.block 1 (.reg Dh [2,6,7,9,10])) (.reg qK [2,6,7,9,10])))
def zC:=[ok 11 (vI 0)]
def zD:=[om 43 11,om 44 9,oo 45 (.len false (.t 44)),bM 46 .lss 43 45]
def zE:=[oo 49 (.bslice 1 (vI 0) 0 []),om 12 49]
def zF:=[ok 13 (vI 0)]
def zG:=[om 50 13,om 51 7,oo 52 (.len false (.t 51)),bM 53 .lss 50 52]
def zH:=[ok 14 (vI 0)]
def zI:=[om 56 14,om 57 7,om 58 13,ep 59 1 57 58,bd 60 1 59,oo 61 (.len false (.t 60)),bM 62 .lss 56 61]
def zJ:=[aJ 65 0 2,bd 66 1 65,om 67 7,om 68 13,ep 69 1 67 68,bd 70 1 69,om 71 14,ep 72 1 70 71,bd 73 1 72,ep 74 18 66 73,aJ 75 1 74,bd 76 1 75,om 77 9,om 78 11,ep 79 1 77 78,bd 80 1 79,bM 81 .eql 76 80]
def oY:List (List Nat):=[[],[0],[],[],[2,3],[2,3,4],[],[2,3,4,5,6],[2,3,4,5,6,7],[0,1,2,3,4,5,6,7,8],[0,1,2,3,4,5,6,7,8,9],[0,1,2,3,4,5,6,7,8,9,10],[],[],[12,13],[12,13,14],[0,1,2,3,4,5,6,7,8,9,10,11,12,13,14,15]]
def zK:=[om 82 12,om 83 13,fv 84 83 1,eo 85 HJ 82 84,om 12 85]
def jX:=[om 63 14,fv 64 63 1,om 14 64]
def yD:C:=(ss (sr zI [2,6,7,9,11,12,13,14,62] (sc 62 .skip (.exit 6))) (ss (.block 7 (ss (.regD zJ oY [2,6,7,9,11,12,13,14,81]) (sc 81 (.reg zK [2,6,7,9,11,12,13,14]) .skip))) (.wk (.reg jX [2,6,7,9,11,12,13,14]))))
def zL:=[om 54 13,fv 55 54 1,om 13 55]
def yE:C:=(ss (sr zG [2,6,7,9,11,12,13,53] (sc 53 .skip (.exit 4))) (ss (.block 5 (sr zH [2,6,7,9,11,12,13,14] (.block 6 (.loop yD)))) (.reg zL [2,6,7,9,11,12,13])))
def zM:=[om 86 9,om 87 11,ep 88 1 86 87,bd 89 1 88,oo 90 (.bin .add .none (.t 89) (.k (vS [32]))),om 15 90]
def zN:=[ok 16 (vI 0)]
def zO:=[om 91 16,om 92 12,oo 93 (.len false (.t 92)),bM 94 .lss 91 93]
def pe:=[om 97 16,cD 98 .gtr 97 0]
def zP:=[om 99 15,oo 100 (.bin .add .none (.t 99) (.k (vS [44,32]))),om 15 100]
def pf:=[om 101 15,om 102 12,om 103 16,ep 104 1 102 103,bd 105 1 104,di 106 iV 105,bM 107 .add 101 106,om 15 107]
def ph:=[om 95 16,fv 96 95 1,om 16 96]
def yF:C:=(ss (sr zO [2,6,7,9,11,12,15,16,94] (sc 94 .skip (.exit 8))) (ss (.block 9 (ss (sr pe [2,6,7,9,11,12,15,16,98] (sc 98 (.reg zP [2,6,7,9,11,12,15,16]) .skip)) (.wk (.reg pf [2,6,7,9,11,12,15,16])))) (.reg ph [2,6,7,9,11,12,15,16])))
def zQ:=[om 108 6,om 109 15,oo 110 (.bslice 1 (vS []) 1 [(0,(.t 109))]),oo 111 (.app 1 16 (.t 108) (.t 110)),om 6 111]
def zR:=[om 47 11,fv 48 47 1,om 11 48]
def yG:C:=(ss (sr zD [2,6,7,9,11,46] (sc 46 .skip (.exit 2))) (ss (.block 3 (sr zE [2,6,7,9,11,12] (ss (sr zF [2,6,7,9,11,12,13] (.block 4 (.loop yE))) (sr zM [2,6,7,9,11,12,15] (ss (sr zN [2,6,7,9,11,12,15,16] (.block 8 (.loop yF))) (.reg zQ [2,6,7,9,11])))))) (.reg zR [2,6,7,9,11])))
def zS:=[om 112 6,om 4 112,ok 5 (vB true)]
def H3:C:=(sr Da [2,3] (sr Db [2,3,6] (sr Dc [2,6,7,8] (ss (sr qJ [2,6,7,25] (sc 25 (sr Dd [4,5] .ret) .skip)) (sr De [2,6,7,9] (ss (sr Df [2,6,7,9,10] (.block 0 (.loop yC))) (ss (sr zC [2,6,7,9,11] (.block 2 (.loop yG))) (sr zS [4,5] .ret))))))))
def S2:Nat->List Nat
 | 0=>[2,3]
 | 1=>[2,3,6]
 | 2=>[2,6,7,8]
 | 3=>[2,6,7,25]
 | 4=>[4,5]
 | 5=>[2,6,7,9]
 | 6=>[2,6,7,9,10]
 | 7=>[2,6,7,9,10,32]
 | 9=>[2,6,7,9,10]
 | 8=>[2,6,7,9,10]
 | 10=>[2,6,7,9,11]
 | 11=>[2,6,7,9,11,46]
 | 13=>[2,6,7,9,11,12]
 | 14=>[2,6,7,9,11,12,13]
 | 15=>[2,6,7,9,11,12,13,53]
 | 17=>[2,6,7,9,11,12,13,14]
 | 18=>[2,6,7,9,11,12,13,14,62]
 | 20=>[2,6,7,9,11,12,13,14,81]
 | 21=>[2,6,7,9,11,12,13,14]
 | 19=>[999999,2,6,7,9,11,12,13,14]
 | 16=>[2,6,7,9,11,12,13]
 | 22=>[2,6,7,9,11,12,15]
 | 23=>[2,6,7,9,11,12,15,16]
 | 24=>[2,6,7,9,11,12,15,16,94]
 | 26=>[2,6,7,9,11,12,15,16,98]
 | 27=>[2,6,7,9,11,12,15,16]
 | 28=>[999999,2,6,7,9,11,12,15,16]
 | 25=>[2,6,7,9,11,12,15,16]
 | 29=>[2,6,7,9,11]
 | 12=>[2,6,7,9,11]
 | 30=>[4,5]
 | _=>[]
theorem Rq:cz pB H3 [(.tmp 4),(.tmp 5)] 113 :=
 ⟨Tryz.f6,_,S2,func6,rfl,by kernel_rfl,by kernel_rfl,by kernel_rfl,rfl⟩
theorem YE {α:Type} (p:α->Bool):∀ L:List α,∃ k,k<=L.length/\(∀ j (h:j < k) (h':j < L.length),p L[j]=true)/\∀ h:k < L.length,p L[k]=false
 | []=>⟨0,by simp,by simp,by simp⟩
 | a::L=>by
   cases ha:p a with
   | false=>exact⟨0,by simp,by simp,fun _=>ha⟩
   | true =>
     obtain ⟨k,h1,h2,h3⟩:=YE p L;refine⟨k+1,by simpa using h1,fun j h h'=>?_,fun h=>?_⟩
     ·cases j with
      | zero=>exact ha
      | succ j=>exact h2 j (by omega) (by simpa using h')
     ·exact h3 (by simpa using h)
theorem R3:∀ (k:Nat) (ps:List (List Grant)) (a b:Nat) (ha:a < ps.length) (hb:b < ps[a].length),(dp k ps)[(ps.take a).flatten.length+b]?=some (ps[a][b].name,((k+a+1:Nat):Int))
 | k,[],a,b,ha,_=>by simp at ha
 | k,p::ps,0,b,ha,hb=>by
   simp only[List.getElem_cons_zero] at hb;simp only[dp,List.take_zero,List.flatten_nil,List.length_nil,Nat.zero_add,List.getElem_cons_zero];rw[List.getElem?_append_left (by simpa using hb),List.getElem?_map,List.getElem?_eq_getElem hb];rfl
 | k,p::ps,a+1,b,ha,hb=>by
   simp only[List.getElem_cons_succ] at hb;have ih:=R3 (k+1) ps a b (by simpa using ha) hb;simp only[dp,List.take_succ_cons,List.flatten_cons,List.length_append,List.getElem_cons_succ];rw[List.getElem?_append_right (by simp;omega),List.length_map,show p.length+(ps.take a).flatten.length+b - p.length=(ps.take a).flatten.length+b by omega,ih,show k+1+a+1=k+(a+1)+1 by omega]
theorem aaK {n:T8} {Z:List (T8×Int)} {t:Nat} {e:T8×Int} (h:Z[t]?=some e):fy n (Z.take (t+1))=if e.1=n then fy n (Z.take t)++[e.2] else fy n (Z.take t):=by
 obtain ⟨ht,rfl⟩:=List.getElem?_eq_some_iff.1 h;rw[br ht,TY]
theorem aab (sep:T8) (y:T8):∀ xs:List T8,Lib.join (xs++[y]) sep=if xs=[] then y else Lib.join xs sep++(sep++y)
 | []=>by simp[Lib.join_cons,Lib.joinTail]
 | x::xs=>by
   rw[if_neg (by simp),List.cons_append,Lib.join_cons,Lib.join_cons];simp[Lib.joinTail]
theorem acC (x:Roll) (l:aZ):∀ p:List Nat,p.length<=(gv x l p).length
 | []=>by simp
 | q::p=>by
   have ih:=acC x l p;have:=J4 x.width (List.getD l q jz);simp only[gv,List.flatMap_cons,List.length_append,List.length_cons] at ih ⊢;omega
def oJ (n:T8) (L:List Int) (j:Nat):T8:=n++32::Lib.join (nW (L.take j)) [44,32]
theorem WL (n:T8) (L:List Int):oJ n L 0=n++[32]:=by simp[oJ,nW,Lib.join]
theorem UY (n:T8) {L:List Int} (h:0 < L.length):oJ n L 1=oJ n L 0++cW L[0].toNat:=by
 unfold oJ;rw[br h];simp[nW,Lib.join,Lib.join_cons,Lib.joinTail]
theorem WK (n:T8) {L:List Int} {j:Nat} (h:j+1 < L.length):oJ n L (j+2)=oJ n L (j+1)++[44,32]++cW L[j+1].toNat:=by
 unfold oJ;rw[br h];have e:nW (L.take (j+1)++[L[j+1]])=nW (L.take (j+1))++[cW L[j+1].toNat]:=by unfold nW;rw[List.map_append];rfl
 have hne:nW (L.take (j+1))≠[]:=by
  intro h0;have:=congrArg List.length h0;rw[nW,List.length_map,List.length_take] at this;simp only[List.length_nil] at this;omega
 rw[e,aab,if_neg hne];simp
theorem Yq {n:T8} {L:List Int} (j:Nat) (hn:n.length<=12) (h:∀ p ∈ L,0<=p/\p<=99) (hl:L.length<=12):(oJ n L j).length<=100:=by
 have h1:=TR (l:=L.take j) fun p hp=>h p (List.mem_of_mem_take hp);have h2:=WF (sep:=[44,32]) h1;have h3:(nW (L.take j)).length<=12:=by rw[nW,List.length_map,List.length_take];omega
 simp only[List.length_cons,List.length_nil] at h2;simp only[oJ,List.length_append,List.length_cons];omega
theorem Sj (p:Int) (h:0<=p/\p<=1000):cJ iV [I p] (S (cW p.toNat)) :=
 aa.arg (Vi p.toNat (by omega)) (by rw[Int.toNat_of_nonneg h.1])
@[simp] theorem ah5 (i:Nat) (blk:Blk) (ps:List (List Nat)):yu i blk (ps.map roX)=ps.map roX:=Rw fun _=>rfl
@[simp] theorem aiY (i:Nat) (blk:Blk) (l:List T8):yu i blk (l.map S)=l.map S:=Rw fun _=>rfl
theorem Wq {i:Nat} {blk:Blk}:∀ ps:List (List Nat),yu i blk (ps.map (aP (fun _=>none) 3∘LF))=ps.map roX
 | []=>rfl
 | p::ps=>by
   have ih:=@Wq i blk ps;simp only[List.map_cons,yu,ih];congr 1;simp[Z3]
set_option maxHeartbeats 4000000 in
theorem PP (l:aZ) (x:Roll):cJ pB [be l,d6 x] (.tup [.own 1 ((vj l x).map S),B (dd l x)]):=by
 rw[T4];have hP:=Sk l x;refine aa.of Rq (by simp) ?_;simp[H3,Da,Db];simp[Dc];refine bN (aa.ag hP) ?_;cases hx:jf l x with
 | none =>
   have hn:vj l x=[]:=by simp[vj,TN,HA,hx,dp,E8,eD]
   simp[qJ,Dd,hn]
 | some ps =>
 obtain ⟨h1,h2,hq,hn,hls,hxa⟩:=Ei hx;have hl:=d5 h1;have hnT:vj l x=E8 (dp 0 (ps.map (·.map fun q=>List.getD l q jz))):=by simp[vj,TN,hxa]
 obtain ⟨pG,hpG⟩:∃ pG,ps.map (·.map fun q=>List.getD l q jz)=pG:=⟨_,rfl⟩;have hpl:pG.length=ps.length:=by rw[<- hpG,List.length_map]
 have hpg:∀ (a:Nat) (ha:a < ps.length) (ha':a < pG.length),pG[a]=ps[a].map fun q=>List.getD l q jz:=fun a ha ha'=>by
  simp only[<- hpG,List.getElem_map]
 rw[hpG] at hnT hxa;rw[hnT];simp[qJ,De,Df]
 refine ci (fun p:Nat×List T8=>⟨[(2,.ref 2 0 0),(6,.sl 17 0 0),(7,.sl 21 0 ps.length),(9,.ro 1 (p.2.map S)),(10,I p.1)],[(2,⟨1,[be l]⟩),(17,⟨1,[]⟩),(21,⟨1,ps.map roX⟩)],[]⟩)
  (fun p=>List.length l - p.1) (fun p=>p.1<=List.length l/\p.2=eD ((List.take p.1 l).map (·.name))) (0,[])
  (Wk.trans (Wk.roes 21 3 (by rfl) (by simp)) (Wk.trans (Wk.frz 27 ⟨1,[]⟩ (by rfl) (by simp) (by simp)) (Wk.list rfl (by simp) (by simp[Wq])))) (by simp[eD]) ?_
 rintro ⟨i,Nm⟩ ⟨hi,hNm⟩ K hN' hR hE;dsimp only at hi hNm ⊢
 have hNl:Nm.length<=i:=by
  have:=Kg ((List.take i l).map (·.name));rw[List.length_map,List.length_take] at this;rw[hNm];omega
 simp[yC,Dg];refine⟨fun hlt=>?_,fun hge=>?_⟩
 ·obtain ⟨g,hg⟩:∃ g,l[i]=g:=⟨_,rfl⟩
  have hst:eD ((List.take (i+1) l).map (·.name))=uM g.name Nm:=by
   rw[br hlt,hg,List.map_append,List.map_singleton,Pa,hNm]
  obtain ⟨k,hk,hk1,hk2⟩:=YE (fun y:T8=>decide (y < g.name)) Nm;have hins:=Zs (x:=g.name) (l:=Nm) hk (fun j h h'=>by simpa using hk1 j h h') (fun h=>by simpa using hk2 h);simp[Dh,hlt,hg];by_cases he:∃ h:k < Nm.length,Nm[k]=g.name
  ·obtain ⟨hkl,he⟩:=he;rw[List.getElem?_eq_getElem hkl,he,if_pos rfl] at hins;refine Lg (aa.ag (S8 Nm g.name k (by omega) hkl he fun j h=>by simpa using hk1 j h (by omega))) ?_;simp[qK];rw[am (by omega)];exact hN' (i+1,Nm) _ (by dsimp only;omega) ⟨by dsimp only;omega,by dsimp only;rw[hst,hins]⟩ Wk.li
  ·have hne:Nm[k]?≠some g.name:=fun e=>by
    obtain ⟨hkl,e⟩:=List.getElem?_eq_some_iff.1 e;exact he ⟨hkl,e⟩
   rw[if_neg hne] at hins;refine bN (aa.ag (Vg Nm g.name k (by omega) hk (fun j h=>by simpa using hk1 j h (by omega)) fun h=>⟨by simpa using hk2 h,fun e=>he ⟨h,e⟩⟩)) ?_;rw[<- hins];simp[qK];rw[am (by omega)]
   exact hN' (i+1,uM g.name Nm) _ (by dsimp only;omega) ⟨by dsimp only;omega,by dsimp only;rw[hst]⟩
    (Wk.trans (Wk.frz 42 ⟨1,(uM g.name Nm).map S⟩ (by rfl) (by simp) (by simp)) Wk.li)
 ·obtain rfl:i=List.length l:=by omega
  refine hE _ _ ?_;simp only[aL];clear hN' hR hE;rw[List.take_of_length_le (Nat.le_refl _)] at hNm;have hflat:=sL hxa;have hpn:=Ej hxa;have hzl:=tC 0 pG;have hzn:=rV 0 pG;obtain ⟨hzlow,hzr⟩:=KA 0 pG;have hzg:=R3 0 pG;rw[hflat,jL] at hzl;rw[hflat] at hzn
  have hNz:Nm=eD ((dp 0 pG).map (·.1)):=by
   rw[hNm,hzn];refine WB fun y=>?_;simp only[List.mem_map];constructor
   ·rintro ⟨g,hg,rfl⟩;exact⟨g,qm.2 hg,rfl⟩
   ·rintro ⟨g,hg,rfl⟩;exact⟨g,qm.1 hg,rfl⟩
  have hname:∀ n ∈ Nm,n.length<=12:=fun n hn=>by
   rw[hNm,ta] at hn;obtain ⟨g,hg,rfl⟩:=List.mem_map.1 hn;exact(tv (fI (dz h1 g hg)).2.1).2
  have hfin:E8 (dp 0 pG)=Nm.map fun n=>va n (fy n (dp 0 pG)):=by rw[hNz];rfl
  rw[hfin];clear hNm hNz hzn;generalize dp 0 pG=Z at hzl hzlow hzr hzg ⊢
  have hoffs:∀ a (ha:a < ps.length),(pG.take (a+1)).flatten.length=(pG.take a).flatten.length+ps[a].length:=fun a ha=>by
   rw[br (by omega),List.flatten_append,List.flatten_singleton,List.length_append,hpg a ha,List.length_map]
  have hall:(pG.take ps.length).flatten.length=Z.length:=by
   rw[List.take_of_length_le (by omega),hflat,jL,hzl]
  have hz99:∀ n:T8,∀ p ∈ fy n Z,0<=p/\p<=99:=fun n p hp=>by
   unfold fy at hp;obtain ⟨z,hz,rfl⟩:=List.mem_map.1 hp;have:=hzlow z (List.mem_filter.1 hz).1;omega
  have hmany:=fun a (ha:a < ps.length)=>acC x l ps[a];have hpl2:=fun a (ha:a < ps.length)=>hls ps[a] (List.getElem_mem _);have hNl2:Nm.length<=12:=by omega
  simp[zC]
  refine ci (fun p:Nat×List T8=>⟨[(2,.ref 2 0 0),(6,.sl 17 0 p.2.length),(7,.sl 21 0 ps.length),(9,.ro 1 (Nm.map S)),(11,I p.1)],[(2,⟨1,[be l]⟩),(17,⟨1,p.2.map S⟩),(21,⟨1,ps.map roX⟩)],[]⟩)
   (fun p=>Nm.length - p.1) (fun p=>p.1<=Nm.length/\p.2=(Nm.take p.1).map fun n=>va n (fy n Z)) (0,[]) Wk.li (by simp) ?_
  rintro ⟨i,out⟩ ⟨hi,ho⟩ K hN' hR hE;dsimp only at hi ho ⊢;have hol2:out.length=i:=by rw[ho,List.length_map,List.length_take];omega
  simp[yG,zD];refine⟨fun hlt=>?_,fun hge=>?_⟩
  ·obtain ⟨n,hn⟩:∃ n,Nm[i]=n:=⟨_,rfl⟩;have hnl:=hname n (hn▸List.getElem_mem _);have htk:Nm.take (i+1)=Nm.take i++[n]:=by rw[br hlt,hn]
   have ho':((Nm.take (i+1)).map fun n=>va n (fy n Z))=out++[va n (fy n Z)]:=by rw[htk,List.map_append,ho];rfl
   simp[zE,zF]
   refine ci (fun q:Nat×List Int=>⟨[(2,.ref 2 0 0),(6,.sl 17 0 out.length),(7,.sl 21 0 ps.length),(9,.ro 1 (Nm.map S)),(11,I i),(12,.ro 1 (gu q.2)),(13,I q.1)],[(2,⟨1,[be l]⟩),(17,⟨1,out.map S⟩),(21,⟨1,ps.map roX⟩)],[]⟩)
    (fun q=>ps.length - q.1) (fun q=>q.1<=ps.length/\q.2=cK (fy n (Z.take (pG.take q.1).flatten.length))) (0,[])
    (Wk.trans (Wk.frz 49 ⟨1,[]⟩ (by rfl) (by simp) (by simp)) Wk.li) (by simp[fy,cK]) ?_
   rintro ⟨a,L0⟩ ⟨ha,hL0⟩ K2 hN2 hR2 hE2;dsimp only at ha hL0 ⊢;simp[yE,zG];refine⟨fun halt=>?_,fun hage=>?_⟩
   ·obtain ⟨pg,hpa⟩:∃ pg,ps[a]=pg:=⟨_,rfl⟩;have hoff:=hoffs a halt;have hm1:=hmany a halt;have hm2:=hpl2 a halt;have hpq:=hq pg (hpa▸List.getElem_mem _);have hpgA:=hpg a halt (by omega);have hzgA:=hzg a;rw[hpa] at hoff hm1 hm2 hpgA;simp[zH]
    refine ci (fun q:Nat×List Int=>⟨[(2,.ref 2 0 0),(6,.sl 17 0 out.length),(7,.sl 21 0 ps.length),(9,.ro 1 (Nm.map S)),(11,I i),(12,.ro 1 (gu q.2)),(13,I a),(14,I q.1)],[(2,⟨1,[be l]⟩),(17,⟨1,out.map S⟩),(21,⟨1,ps.map roX⟩)],[]⟩)
     (fun q=>pg.length - q.1) (fun q=>q.1<=pg.length/\q.2=cK (fy n (Z.take ((pG.take a).flatten.length+q.1)))) (0,L0)
     Wk.li (by simp[hL0]) ?_
    rintro ⟨c,L1⟩ ⟨hc,hL1⟩ K3 hN3 hR3 hE3;dsimp only at hc hL1 ⊢
    have hL1l:L1.length<=12:=by
     have e1:=HC (fy n (Z.take ((pG.take a).flatten.length+c)));have e2:=NC n (Z.take ((pG.take a).flatten.length+c));rw[List.length_take] at e2;rw[hL1];omega
    simp[yD,zI,halt,hpa];refine⟨fun hclt=>?_,fun hcge=>?_⟩
    ·obtain ⟨q,hqd⟩:∃ q,pg[c]=q:=⟨_,rfl⟩;have hql:q < List.length l:=hpq q (hqd▸List.getElem_mem _);have hgd:List.getD l q jz=l[q]:=by simp[hql]
     have hze:Z[(pG.take a).flatten.length+c]?=some (l[q].name,((a+1:Nat):Int)):=by
      have hca:c < pG[a].length:=by rw[hpgA,List.length_map];exact hclt
      rw[hzgA c (by omega) hca]
      have:pG[a][c]=l[q]:=by
       simp only[hpgA,List.getElem_map,hqd,hgd]
      rw[this,Nat.zero_add]
     have hstep:=aaK (n:=n) hze;simp[zJ,oY,halt,hpa,hclt,hqd,hql,hlt,hn];refine⟨aO (by simp[oY]) (by simp),fun heq=>?_,fun hne=>?_⟩
     ·rw[if_pos heq] at hstep
      have hrise:(fy n (Z.take ((pG.take a).flatten.length+c))++[((a+1:Nat):Int)]).Pairwise (·<=·):=by
       rw[<- hstep];exact aaJ (hzr.sublist ((List.take_sublist _ _).map _))
      have hput:=Xh hrise;rw[<- hL1,<- hstep] at hput;obtain ⟨k,hk,hk1,hk2⟩:=YE (fun y:Int=>decide (y < ((a+1:Nat):Int))) L1;have hk1':∀ j (h:j < k),L1[j]'(by omega) < ((a+1:Nat):Int):=fun j h=>by have h3:=hk1 j h (by omega);exact of_decide_eq_true h3
      have hk2':∀ h:k < L1.length,¬L1[k] < ((a+1:Nat):Int):=fun h=>by have h3:=hk2 h;exact of_decide_eq_false h3
      have hpat:=Vb hk hk1' hk2';unfold acD at hput;simp only[hpat] at hput;simp[zK];rw[am (by omega)];by_cases he:∃ h:k < L1.length,L1[k]=((a+1:Nat):Int)
      ·obtain ⟨hkl,he⟩:=he;rw[List.getElem?_eq_getElem hkl,he,if_pos rfl] at hput;refine Lg (aa.ag (Vj L1 ((a+1:Nat):Int) k (by omega) hkl he hk1')) ?_;simp;refine dY _ (Wk.refl _) ?_;simp[jX];rw[am (by omega)];exact hN3 (c+1,L1) _ (by dsimp only;omega) ⟨by dsimp only;omega,hput⟩ Wk.li
      ·have hne:L1[k]?≠some ((a+1:Nat):Int):=fun e=>by
        obtain ⟨hkl,e⟩:=List.getElem?_eq_some_iff.1 e;exact he ⟨hkl,e⟩
       rw[if_neg hne] at hput;refine bN (aa.ag (Xr L1 ((a+1:Nat):Int) k (by omega) hk hk1' fun h=>by have h3:=hk2' h;have h4:L1[k]≠((a+1:Nat):Int):=fun e=>he ⟨h,e⟩;omega)) ?_;rw[hput];obtain ⟨L2,hL2⟩:∃ L2,cK (fy n (Z.take ((pG.take a).flatten.length+c+1)))=L2:=⟨_,rfl⟩;rw[hL2];simp;refine dY _ (Wk.frz 85 ⟨1,gu L2⟩ (by rfl) (by simp) (by simp)) ?_;simp[jX];rw[am (by omega)];exact hN3 (c+1,L2) _ (by dsimp only;omega) ⟨by dsimp only;omega,hL2.symm⟩ Wk.li
     ·rw[if_neg hne] at hstep;refine dY _ (Wk.refl _) ?_;simp[jX];rw[am (by omega)];exact hN3 (c+1,L1) _ (by dsimp only;omega) ⟨by dsimp only;omega,by dsimp only;rw[<- Nat.add_assoc,hstep];exact hL1⟩ Wk.li
    ·obtain rfl:c=pg.length:=by omega
     refine hE3 _ _ ?_;simp only[aL];simp[zL];rw[am (by omega)];exact hN2 (a+1,L1) _ (by dsimp only;omega) ⟨by dsimp only;omega,by dsimp only;rw[hoff];exact hL1⟩ Wk.li
   ·obtain rfl:a=ps.length:=by omega
    rw[hall,List.take_of_length_le (Nat.le_refl _)] at hL0;refine hE2 _ _ ?_;simp only[aL]
    have hL0l:L0.length<=12:=by
     have e1:=HC (fy n Z);have e2:=NC n Z;rw[hL0];omega
    have hL0m:∀ p ∈ L0,0<=p/\p<=99:=fun p hp=>hz99 n p (by rw[hL0] at hp;exact Bb hp);have hlen:=fun j=>Yq j hnl hL0m hL0l
    have hline:va n (fy n Z)=oJ n L0 L0.length:=by
     unfold oJ;rw[List.take_of_length_le (Nat.le_refl _),hL0];rfl
    have hz0:=WL n L0;have hf1:=@UY n L0;have hn1:=@WK n L0;rw[hline] at ho';clear hL0 hline;generalize oJ n L0=T at hlen ho' hz0 hf1 hn1;simp[zM,hlt,hn];refine⟨by omega,?_⟩;simp[zN]
    refine ci (fun j:Nat=>⟨[(2,.ref 2 0 0),(6,.sl 17 0 out.length),(7,.sl 21 0 ps.length),(9,.ro 1 (Nm.map S)),(11,I i),(12,.ro 1 (gu L0)),(15,S (T j)),(16,I j)],[(2,⟨1,[be l]⟩),(17,⟨1,out.map S⟩),(21,⟨1,ps.map roX⟩)],[]⟩)
     (fun j=>L0.length - j) (fun j=>j<=L0.length) 0 (Wk.list rfl (by simp[hz0]) (by simp)) (by simp) ?_
    intro j hj K4 hN4 hR4 hE4;have hTj:=hlen j;simp[yF,zO];refine⟨fun hjlt=>?_,fun hjge=>?_⟩
    ·obtain ⟨v,hv⟩:∃ v,L0[j]=v:=⟨_,rfl⟩;have hvb:=hL0m v (hv▸List.getElem_mem _);have hdl:=eC 3 v.toNat (by omega);cases j with
     | zero =>
       have hT1:=hf1 hjlt;rw[hv] at hT1;simp[pe];refine dY _ (Wk.refl _) ?_;simp[pf,hjlt,hv];refine af (aa.ag (Sj v ⟨by omega,by omega⟩)) ?_;simp;refine⟨by omega,?_⟩;simp[ph];rw[am (n:=1) (by omega)];exact hN4 1 _ (by omega) (by omega) (Wk.list rfl (by simp[hT1]) (by simp))
     | succ j =>
       have hT1:=hn1 hjlt;rw[hv] at hT1;have hpos:(0:Int) < (j:Int)+1:=by omega
       have hj2:¬((j:Int)+1 < 0):=by omega
       simp[pe,hpos];simp[zP];refine⟨by omega,?_⟩;refine dY _ (Wk.refl _) ?_;have hix:((j:Int)+1).toNat=j+1:=by omega
       simp[pf,hjlt,hv,hix];refine⟨by omega,?_⟩;refine af (aa.ag (Sj v ⟨by omega,by omega⟩)) ?_;simp;refine⟨by omega,?_⟩;simp[ph];rw[am (by omega)];exact hN4 (j+2) _ (by omega) (by omega) (Wk.list rfl (by simp[hT1];omega) (by simp))
    ·obtain rfl:j=L0.length:=by omega
     refine hE4 _ _ ?_;simp only[aL];simp[zQ];refine⟨by unfold ba;omega,?_⟩;simp[zR];rw[am (by omega)];exact hN' (i+1,out++[T L0.length]) _ (by dsimp only;omega) ⟨by dsimp only;omega,ho'.symm⟩ (Wk.trans (Wk.ren 111 17 (by decide) (by simp)) Wk.li)
  ·obtain rfl:i=Nm.length:=by omega
   rw[List.take_of_length_le (Nat.le_refl _)] at ho;refine hE _ _ ?_;simp only[aL];have e3:Nm.map (S∘fun n=>va n (fy n Z))=out.map S:=by rw[ho,List.map_map]
   rw[e3];simp[zS]
end Go.Proofs.YtjkogbgbienloaaGreatDoor
namespace Go.Proofs.YtjkogbgbienloaaGreatDoor
structure Log where
 durable:List UInt8
 pending:List UInt8
 count:Int
 deriving DecidableEq
end Go.Proofs.YtjkogbgbienloaaGreatDoor
namespace Go.Proofs.YtjkogbgbienloaaGreatDoor
open Go.Abs
structure Console where
 grants:List Grant
 log:Log
 deriving DecidableEq
theorem TM (l:aZ) (x:Roll):(vj l x).length<=12:=by
 unfold vj E8 TN;rw[List.length_map];have h1:=Kg ((dp 0 ((gH l x).getD [])).map (·.1));rw[List.length_map,tC] at h1;cases h:gH l x with
 | none=>simp[h,dp,eD]
 | some ps =>
   have h2:=sL h;have h3:=d5 (jP h).1;rw[h] at h1;simp only[Option.getD_some] at h1 ⊢;rw[h2,jL] at h1;omega
end Go.Proofs.YtjkogbgbienloaaGreatDoor
namespace Go.Abs
open Go.ChangeShapes Go.WideShapes Go.ChangeAt Go.RowKit
def Old (w:World) (b:Nat):Prop:=b < w.heap.size
mutual
def bulk {H:Type}:DataW H->Nat
 | .lit (.string bytes)=>bytes.length+1
 | .lit _=>1
 | .nil=>1
 | .ptr d=>bulk d+1
 | .slice elems spare=>mj elems+mj spare+1
 | .agg parts=>mj parts+1
 | .iface _ d=>bulk d+1
 | .map entries=>OL entries+1
 | .held _=>1
def mj {H:Type}:List (DataW H)->Nat
 | []=>0
 | d::r=>bulk d+mj r
def OL {H:Type}:List (Lit×DataW H)->Nat
 | []=>0
 | x::r=>ZM x+OL r
def ZM {H:Type}:Lit×DataW H->Nat
 | (.string bytes,d)=>bytes.length+bulk d+1
 | (_,d)=>bulk d+1
end
mutual
def D1:V->Nat
 | .v (.string b)=>b.size+1
 | .v _=>1
 | .ro _ es=>eG es+1
 | .rp _ es _ _=>eG es+1
 | .own _ es=>eG es+1
 | .agg cs=>eG cs
 | .tup cs=>eG cs
 | _=>0
def eG:List V->Nat
 | []=>0
 | c::cs=>D1 c+eG cs
end
theorem JT:∀ (a b:List V),eG (a++b)=eG a+eG b
 | [],b=>by simp[eG]
 | x::a,b=>by simp only[List.cons_append,eG];rw[JT a b];omega
theorem Ic:∀ (a b:List V),aC (a++b)=(aC a&&aC b)
 | [],b=>by simp[aC]
 | x::a,b=>by simp only[List.cons_append,aC];rw[Ic a b,Bool.and_assoc]
theorem VQ {v:V} {vs:List V} (h:bx v=some vs) (hn:bR v=true):aC vs=true:=by
 cases v<;>simp only[bx,Option.some.injEq,reduceCtorEq] at h<;>rw[<- h]<;>first | exact hn | (simp only[aC,Bool.and_true];exact hn)
theorem Y1 (v:V):eG [v]=D1 v:=by simp only[eG,Nat.add_zero]
theorem X5 {v:V} {vs:List V} (h:bx v=some vs):eG vs=D1 v:=by
 have key:vs=[v]\/v=.agg vs:=by
  cases v<;>simp only[bx,Option.some.injEq,reduceCtorEq] at h<;>rw[<- h]<;>simp
 rcases key with rfl | rfl
 ·exact Y1 v
 ·simp only[D1]
def ju (P:Program) (t:TypeId) (agg:Bool) (n:Nat) (S:V->Prop):Prop :=
 ∀ (H:Type) (enc:TypeId×Value->H) (w:World) (held:Bool) (fuel:Nat) (cs:List Value) (x:DataW H×List MemPlace),DataW.trod enc P w 0 (fun _=>true) held fuel t cs=some x ->
  cs.length=n/\cs.all one=true/\∃ v vs,S v/\cC v=agg/\bx v=some vs/\cg w (Old w) vs (fun _=>none) cs []/\bR v=true/\D1 v<=bulk x.1
theorem ju.imp {P:Program} {t:TypeId} {agg:Bool} {n:Nat} {S S':V->Prop} (h:ju P t agg n S) (hs:∀ v,S v->S' v):ju P t agg n S':=fun H enc w held fuel cs x hx=>by
 obtain ⟨h1,h2,v,vs,h3,h4⟩:=h H enc w held fuel cs x hx;exact⟨h1,h2,v,vs,hs v h3,h4⟩
theorem QK {w:World} {D:Nat->Prop} {v:V} {φ:Nat->Option Pl} {x:Value} (h:cg w D [v] φ [x] []):CV w D v φ x []:=by
 simp only[cg] at h;obtain ⟨y,ys,f1,f2,e,hf,h1,h2,_⟩:=h;cases e;have:=List.append_eq_nil_iff.1 hf.symm;rw[this.1] at h1;exact h1
theorem Zc {w:World} {D:Nat->Prop} {φ:Nat->Option Pl}:∀ (vs:List V) (xs:List Value) (f:List Nat),cg w D vs φ xs f->xs.length=vs.length
 | [],xs,f,h=>by simp only[cg] at h;rw[h.1];rfl
 | v::vs,xs,f,h=>by
   simp only[cg] at h;obtain ⟨y,ys,f1,f2,rfl,_,_,h2⟩:=h;simp[Zc vs ys f2 h2]
theorem Ht {w:World} {D:Nat->Prop} {v:V} {vs:List V} {cs:List Value} (hc:bx v=some vs) (h1:cs.all one=true) (h:cg w D vs (fun _=>none) cs []) :
  ∃ x:Value,x.cells.toList=cs/\CV w D v (fun _=>none) x []/\(cC v=true->x=.agg cs.toArray):=by
 cases v with
 | agg cs' =>
   simp only[bx,Option.some.injEq] at hc;subst hc;exact⟨.agg cs.toArray,by simp[Value.cells],by simp only[CV];exact⟨_,rfl,by simpa using h⟩,fun _=>rfl⟩
 | undef=>simp[bx] at hc
 | tup _=>simp[bx] at hc
 | _ =>
   simp only[bx,Option.some.injEq] at hc;subst hc;have hl:=Zc _ _ _ h
   match cs,hl with
   | [x],_ =>
     have ho:one x=true:=by simpa using h1
     exact⟨x,by rw[Ot ho],QK h,fun e=>by simp[cC] at e⟩
section
variable {P : Program} {t : TypeId}
theorem ju.int {k:IntKind} (ht:P.underlying t=some (.int k)):ju P t false 1 (fun v=>∃ n,v=.v (.int k n)/\(Lit.int k n).wf=true):=fun H enc w held fuel cs x hx=>by
 obtain ⟨n,rfl,rfl,hw⟩:=DataW.trod_int ht hx;refine⟨rfl,rfl,.v (.int k n),[.v (.int k n)],⟨n,rfl,hw⟩,rfl,rfl,?_,rfl,by simp[D1,bulk]⟩;exact la (by simp[CV,one])
theorem ju.bool (ht:P.underlying t=some .bool):ju P t false 1 (fun v=>∃ b,v=.v (.bool b)):=fun H enc w held fuel cs x hx=>by
 obtain ⟨n,rfl,rfl⟩:=DataW.trod_bool ht hx;refine⟨rfl,rfl,.v (.bool n),[.v (.bool n)],⟨n,rfl⟩,rfl,rfl,?_,rfl,by simp[D1,bulk]⟩;exact la (by simp[CV,one])
theorem ju.string (ht:P.underlying t=some .string):ju P t false 1 (fun v=>∃ b:ByteArray,v=.v (.string b)/\b.size<=maxLen):=fun H enc w held fuel cs x hx=>by
 obtain ⟨s,rfl,rfl,hs⟩:=DataW.trod_string ht hx;have ho:s.size<=9223372036854775807:=by unfold maxLen at hs;omega
 refine⟨rfl,by simpa [one] using ho,.v (.string s),[.v (.string s)],⟨s,rfl,hs⟩,rfl,rfl,?_,rfl,?_⟩
 ·exact la (by simpa [CV,one] using ho)
 ·show s.size+1<=s.data.toList.length+1;rw[Array.length_toList];exact Nat.le_refl _
theorem Zb {w:World} {D:Nat->Prop} {φ:Nat->Option Pl}:∀ (vs us:List V) (xs ys:List Value),cg w D vs φ xs []->cg w D us φ ys []->cg w D (vs++us) φ (xs++ys) []
 | [],us,xs,ys,h,h'=>by simp only[cg] at h;rw[h.1];exact h'
 | v::vs,us,xs,ys,h,h'=>by
   simp only[cg] at h;obtain ⟨y,zs,f1,f2,rfl,hf,h1,h2⟩:=h;have:=List.append_eq_nil_iff.1 hf.symm;obtain ⟨rfl,rfl⟩:=this;simp only[List.cons_append,cg];exact⟨y,zs++ys,[],[],rfl,rfl,h1,Zb vs us zs ys h2 h'⟩
def XZ (P:Program):Nat->List Field->List (Bool×Nat×(V->Prop))->Prop
 | _,[],[]=>True
 | off,f::fs,(b,n,S)::Ss=>f.offset=off/\P.cellsOf f.type=n/\ju P f.type b n S/\XZ P (off+n) fs Ss
 | _,_,_=>False
def Each:List (Bool×Nat×(V->Prop))->List V->Prop
 | [],[]=>True
 | (b,_,S)::Ss,v::vs=>(S v/\cC v=b)/\Each Ss vs
 | _,_=>False
theorem Each.cons {b:Bool} {n:Nat} {S:V->Prop} {Ss:List (Bool×Nat×(V->Prop))} {vs:List V} (h:Each ((b,n,S)::Ss) vs):∃ v vs',vs=v::vs'/\S v/\Each Ss vs':=by
 cases vs with
 | nil=>exact h.elim
 | cons v vs=>exact⟨v,vs,rfl,h.1.1,h.2⟩
theorem Each.nil {vs:List V} (h:Each [] vs):vs=[]:=by
 cases vs with
 | nil=>rfl
 | cons v vs=>exact h.elim
def NY (v:V):List V:=(bx v).getD []
theorem O3 {H:Type} {enc:TypeId×Value->H} {w:World} {held:Bool} {m:Nat} {cs:List Value}:∀ (fs:List Field) (Ss:List (Bool×Nat×(V->Prop))) (off:Nat) (xs:List (DataW H×List MemPlace)),XZ P off fs Ss->xs.length=fs.length ->
  (∀ (i:Nat) (f:Field),fs[i]?=some f->DataW.trod enc P w 0 (fun _=>true) held m f.type ((cs.drop f.offset).take (P.cellsOf f.type))=xs[i]?)->off<=cs.length ->
  ∃ vs,Each Ss vs/\off+(Ss.map (·.2.1)).sum<=cs.length/\((cs.drop off).take (Ss.map (·.2.1)).sum).all one=true /\
   cg w (Old w) (vs.flatMap NY) (fun _=>none) ((cs.drop off).take (Ss.map (·.2.1)).sum) []/\aC (vs.flatMap NY)=true/\eG (vs.flatMap NY)<=mj (xs.map (·.1))
 | [],[],off,xs,_,hl,_,hle=>⟨[],trivial,by simpa using hle,by simp,by simp[cg],rfl,by simp[eG]⟩
 | f::fs,(b,n,S)::Ss,off,xs,hF,hl,h,hle=>by
   obtain ⟨rfl,rfl,hr,hF⟩:=hF
   match xs,hl with
   | x::xs,hl =>
     have h0:=h 0 f rfl;simp only[List.getElem?_cons_zero] at h0;obtain ⟨g1,g2,v,vs,g3,g4,g5,g6,g7,g8⟩:=hr H enc w held m _ x h0
     have hlen:f.offset+P.cellsOf f.type<=cs.length:=by
      rw[List.length_take,List.length_drop] at g1;omega
     obtain ⟨us,k1,k2,k3,k4,k5,k6⟩:=O3 fs Ss _ xs hF (by simpa using hl) (fun i f' hf'=>by
      have:=h (i+1) f' (by simpa using hf');simpa using this) hlen
     have hsplit:(cs.drop f.offset).take (P.cellsOf f.type+(Ss.map (·.2.1)).sum)=(cs.drop f.offset).take (P.cellsOf f.type)++(cs.drop (f.offset+P.cellsOf f.type)).take (Ss.map (·.2.1)).sum:=by
      rw[List.take_add,List.drop_drop]
     have hcv:NY v=vs:=by simp[NY,g5]
     refine⟨v::us,⟨⟨g3,g4⟩,k1⟩,?_,?_,?_,?_,?_⟩
     ·simp only[List.map_cons,List.sum_cons];omega
     ·simp only[List.map_cons,List.sum_cons];rw[hsplit,List.all_append,g2,k3];rfl
     ·simp only[List.map_cons,List.sum_cons,List.flatMap_cons];rw[hsplit,hcv];exact Zb _ _ _ _ g6 k4
     ·rw[List.flatMap_cons,Ic,k5,hcv,Bool.and_true];exact VQ g5 g7
     ·rw[List.flatMap_cons,JT,hcv];have:eG vs=D1 v:=X5 g5;simp only[List.map_cons,mj];omega
 | [],_::_,off,xs,hF,_,_,_=>hF.elim
 | _::_,[],off,xs,hF,_,_,_=>hF.elim
theorem ju.struct {fs:Array Field} {Ss:List (Bool×Nat×(V->Prop))} {n:Nat} (ht:P.underlying t=some (.struct fs)) (hF:XZ P 0 fs.toList Ss) (hn:(Ss.map (·.2.1)).sum=n) (hc:P.cellsOf t=n) :
  ju P t true n (fun v=>∃ vs,Each Ss vs/\v=.agg (vs.flatMap NY)):=fun H enc w held fuel cs x hx=>by
 obtain ⟨xs,m,rfl,rfl,hl,hxl,hx⟩:=DataW.trod_struct ht hx;obtain ⟨vs,h1,h2,h3,h4,h5,h6⟩:=O3 fs.toList Ss 0 xs hF (by simpa using hxl) (fun i f hf=>hx i f (by simpa using hf)) (Nat.zero_le _)
 have htk:(cs.drop 0).take (Ss.map (·.2.1)).sum=cs:=by
  rw[List.drop_zero,hn,List.take_of_length_le (by omega)]
 rw[htk] at h3 h4;refine⟨by omega,h3,_,_,⟨vs,h1,rfl⟩,rfl,rfl,h4,by simpa [bR] using h5,?_⟩;simp only[D1,bulk];omega
theorem X8 {α:Type} (l cs:List α) (k n:Nat) (hl:cs.length=n) (h:∀ j,j < n->l[k+j]?=cs[j]?):l.drop k=cs++l.drop (k+n):=by
 apply List.ext_getElem?;intro i;rw[List.getElem?_drop];by_cases hi:i < n
 ·rw[List.getElem?_append_left (by omega)];exact h i hi
 ·rw[List.getElem?_append_right (by omega),List.getElem?_drop,hl];congr 1;omega
theorem ju.slice {e:TypeId} {b:Bool} {n:Nat} {S:V->Prop} (ht:P.underlying t=some (.slice e)) (he:P.cellsOf e=n) (hn:0 < n) (hr:ju P e b n S) :
  ju P t false 1 (fun v=>∃ es,v=.ro n es/\(∀ e ∈ es,S e/\cC e=b)/\es.length<=maxLen):=fun H enc w held fuel cs x hx=>by
 rcases DataW.trod_slice ht hx with ⟨rfl,rfl⟩ | ⟨a,len,cap,elems,rest,m,rfl,rfl,rfl,_,hl,hm,hlen,hel,_,_⟩
 ·refine⟨rfl,rfl,.ro n [],[.ro n []],⟨[],rfl,by simp,by simp⟩,rfl,rfl,la ?_,rfl,by simp[D1,eG,bulk]⟩;simp only[CV];exact⟨trivial,.inl ⟨trivial,_,_,rfl,by simp⟩⟩
 ·rw[he] at hel;obtain ⟨ab,ao,asp⟩:=a
  have key:∀ (k i:Nat),i+k=len->∃ es:List V,es.length=k/\(∀ e ∈ es,S e/\cC e=b)/\aC es=true/\eG es<=mj ((elems.drop i).map (·.1)) /\
    (0 < k->asp=none/\ab < w.heap.size/\∃ arr,Ek w ab=some arr/\CR w (Old w) n es (fun _=>none) (arr.toList.drop (ao+i * n)) []):=by
   intro k
   induction k with
   | zero=>exact fun i hi=>⟨[],rfl,by simp,rfl,by simp[eG],fun h=>absurd h (Nat.lt_irrefl 0)⟩
   | succ k ih =>
     intro i hi;obtain ⟨es,h1,h2,h3,h4,h5⟩:=ih (i+1) (by omega);have hi':=hel i (by omega);have hget:i < elems.length:=by omega
     rw[List.getElem?_eq_getElem hget,Option.bind_eq_some_iff] at hi';obtain ⟨cs',hcs,htr⟩:=hi';obtain ⟨_,hcl,hcell⟩:=World.cells?_some hcs;obtain ⟨g1,g2,v,vs,g3,g4,g5,g6,g7,g8⟩:=hr H enc w held m _ _ htr;have hc0:=hcell 0 (by omega)
     have hc0':∃ y,w.cell? (((⟨ab,ao,asp⟩:Addr).add (i * n)).add 0)=some y:=by
      rw[hc0,List.getElem?_eq_getElem (by omega)];exact⟨_,rfl⟩
     obtain ⟨y,hy⟩:=hc0';have hadd0:((⟨ab,ao,asp⟩:Addr).add (i * n)).add 0=(⟨ab,ao,asp⟩:Addr).add (i * n):=by simp[Addr.add]
     rw[hadd0] at hy
     have hblk:∃ arr,Ek w ab=some arr/\ab < w.heap.size:=by
      have hb:((⟨ab,ao,asp⟩:Addr).add (i * n)).block=ab:=block_add _ _;unfold World.cell? at hy;rw[hb] at hy;unfold Ek;cases hh:w.heap[ab]? with
      | none=>rw[hh] at hy;simp at hy
      | some bk =>
        rw[hh] at hy;cases bk with
        | cells c ty fr=>exact⟨c,rfl,(Array.getElem?_eq_some_iff.1 hh).1⟩
        | _=>simp at hy
     obtain ⟨arr,harr,hlt⟩:=hblk
     have hspot:asp=none:=by
      by_cases hi0:i * n=0
      ·have:=World.cell?_spot hy;simpa [Addr.add,hi0] using this
      ·
       have h00:=hel 0 (by omega);rw[List.getElem?_eq_getElem (by omega),Option.bind_eq_some_iff] at h00;obtain ⟨cs0,hcs0,_⟩:=h00;obtain ⟨_,hcl0,hcell0⟩:=World.cells?_some hcs0;have:=hcell0 0 (by omega);rw[List.getElem?_eq_getElem (by omega)] at this;have:=World.cell?_spot this;simpa [Addr.add] using this
     subst hspot;refine⟨v::es,by simp[h1],fun e he=>?_,by simp[aC,g7,h3],?_,fun _=>⟨rfl,hlt,arr,harr,?_⟩⟩
     ·rcases List.mem_cons.1 he with rfl | he
      ·exact⟨g3,g4⟩
      ·exact h2 e he
     ·rw[List.drop_eq_getElem_cons hget];simp only[List.map_cons,mj,eG];omega
     ·obtain ⟨x',hx1,hx2,_⟩:=Ht g5 g2 g6
      have hd:arr.toList.drop (ao+i * n)=cs'++arr.toList.drop (ao+i * n+n):=by
       refine X8 _ _ _ _ g1 fun j hj=>?_;have:=hcell j hj;rw[add_plain,add_plain] at this;rw[<- this];unfold World.cell?;unfold Ek at harr;cases hh:w.heap[ab]? with
       | none=>rw[hh] at harr;simp at harr
       | some bk =>
         rw[hh] at harr;cases bk with
         | cells c ty fr=>simp only[Option.some.injEq] at harr;subst harr;simp
         | _=>simp at harr
      rw[hd];simp only[CR];refine⟨x',_,[],[],by rw[hx1],⟨?_,by rw[hx1];exact g2⟩,rfl,hx2,?_⟩
      ·rw[<- Array.length_toList,hx1];exact g1
      ·cases k with
       | zero =>
         match es,h1 with
         | [],_=>simp[CR]
       | succ k =>
         obtain ⟨_,_,arr',harr',hcr⟩:=h5 (by omega);rw[harr] at harr';cases harr';have e1:ao+(i+1) * n=ao+i * n+n:=by rw[Nat.add_mul];omega
         rw[e1] at hcr;exact hcr
  obtain ⟨es,h1,h2,h3,h4,h5⟩:=key len 0 (by omega);have hone:one (.slice (some ⟨ab,ao,asp⟩) len cap)=true:=rfl;refine⟨rfl,by simp[hone],.ro n es,[.ro n es],⟨es,rfl,h2,by omega⟩,rfl,rfl,la ?_,rfl,?_⟩
  ·simp only[CV];refine⟨trivial,?_⟩;rcases Nat.eq_zero_or_pos len with h0 | hpos
   ·subst h0
    match es,h1 with
    | [],_=>exact .inl ⟨rfl,_,_,rfl,hm⟩
   ·obtain ⟨rfl,hlt,arr,harr,hcr⟩:=h5 hpos;rw[Nat.zero_mul,Nat.add_zero] at hcr;exact .inr ⟨ab,ao,cap,arr,by rw[h1],by omega,hm,hlt,harr,hcr,h3⟩
  ·rw[List.drop_zero] at h4;simp only[D1,bulk];omega
end
end Go.Abs
namespace Go.Abs
open Go.ChangeShapes Go.WideShapes Go.ChangeAt Go.RowKit
variable [GI]
omit [GI] in
theorem ju.str {P:Program} {t:TypeId} (ht:P.underlying t=some .string):ju P t false 1 (fun v=>∃ b:List UInt8,v=S b/\b.length<=maxLen) :=
 (ju.string ht).imp fun v hv=>by
  obtain ⟨b,rfl,hb⟩:=hv;refine⟨b.data.toList,by rw[S,<- adx],?_⟩;simpa using hb
omit [GI] in
theorem ju.byte {P:Program} {t:TypeId} (ht:P.underlying t=some (.int .u8)):ju P t false 1 (fun v=>∃ b:UInt8,v=Y b) :=
 (ju.int ht).imp fun v hv=>by
  obtain ⟨n,rfl,hn⟩:=hv;simp[Lit.wf,IntKind.min,IntKind.max,IntKind.signed,IntKind.bits] at hn;obtain ⟨m,rfl⟩:=Int.eq_ofNat_of_zero_le (by omega:0<=n);refine⟨UInt8.ofNat m,?_⟩;simp only[Y];congr 2;simp;omega
def Uf (P:Program):List TypeId->List (Bool×Nat×(V->Prop))->Prop
 | [],[]=>True
 | t::ts,(b,n,S)::Ss=>(ju P t b n S/\(P.readableRec t=true/\t < P.types.size) /\
   (match P.underlying t with | some (.struct _)=>b=true | some (.int _)=>b=false | some .string=>b=false | some .bool=>b=false | some (.slice _)=>b=false | _=>False))/\Uf P ts Ss
 | _,_=>False
section
variable {P : Program} {H : Type} {enc : TypeId × Value → H} {W : World}
omit [GI] in
theorem abz {t:TypeId} {b:Bool} {n base:Nat} {S:V->Prop} {x:Value} {d:DataW H} {ps:List MemPlace} (hr:ju P t b n S)
  (ho:match P.underlying t with | some (.struct _)=>b=true | some (.int _)=>b=false | some .string=>b=false | some .bool=>b=false | some (.slice _)=>b=false | _=>False)
  (hval:Value.okWide P W .any base t x) (h:DataW.Trod enc P W 0 (fun _=>true) true t x d ps) :
  ∃ v,(S v/\cC v=b)/\CV W (Old W) v (fun _=>none) x []/\D1 v<=bulk d:=by
 obtain ⟨fuel,h⟩:=h;obtain ⟨g1,g2,v,vs,g3,g4,g5,g6,g7,g8⟩:=hr H enc W true fuel _ _ h;obtain ⟨y,h1,h2,h3⟩:=Ht g5 g2 g6;refine⟨v,⟨g3,g4⟩,?_,g8⟩
 have plain:x.cells=#[x]->b=false->CV W (Old W) v (fun _=>none) x []:=fun hx hb=>by
  have hv:vs=[v]:=by
   rw[hb] at g4;cases v<;>simp_all [bx,cC]
  rw[hv,hx] at g6;exact QK g6
 split at ho
 ·rename_i ht;obtain ⟨cs,rfl,_⟩:=okWide_struct ht hval;have e:=h3 (by rw[g4];exact ho);subst e;simpa [Value.cells] using h2
 ·rename_i ht;obtain ⟨m,rfl⟩:=okWide_int ht hval;exact plain rfl ho
 ·rename_i ht;obtain ⟨m,rfl⟩:=okWide_string ht hval;exact plain rfl ho
 ·rename_i ht;obtain ⟨m,rfl⟩:=okWide_bool ht hval;exact plain rfl ho
 ·rename_i ht;obtain ⟨a,l,c,rfl⟩:=okWide_slice ht hval;exact plain rfl ho
 ·exact ho.elim
omit [GI] in
theorem Ti {base:Nat}:∀ (ts:List TypeId) (Ss:List (Bool×Nat×(V->Prop))) (args:List Value) (ds:List (DataW H)) (ps:List MemPlace),Uf P ts Ss ->
  (∀ (j:Nat) t v,ts[j]?=some t->args[j]?=some v->Value.okWide P W .any base t v)->DataW.TrodAll enc P W 0 (fun _=>true) true ts args ds ps ->
  ∃ vs,Each Ss vs/\cg W (Old W) vs (fun _=>none) args []/\eG vs<=mj ds
 | [],[],args,ds,ps,_,_,h=>by
   cases args<;>cases ds<;>simp[DataW.TrodAll] at h;exact⟨[],trivial,by simp[cg],by simp[eG]⟩
 | t::ts,(b,n,S)::Ss,args,ds,ps,hp,hval,h=>by
   obtain ⟨v,vs,d,ds',p,q,rfl,rfl,rfl,hd,hrest⟩:=trodAll_cons h;obtain ⟨⟨hr,_,ho⟩,hp⟩:=hp;obtain ⟨y,h1,h2,h3⟩:=abz hr ho (hval 0 t v rfl rfl) hd;obtain ⟨ys,k1,k2,k3⟩:=Ti ts Ss vs ds' q hp (fun j t' v' hj hv=>hval (j+1) t' v' (by simpa using hj) (by simpa using hv)) hrest;exact⟨y::ys,⟨h1,k1⟩,by simp only[cg];exact⟨v,vs,[],[],rfl,rfl,h2,k2⟩,by simp only[eG,mj];omega⟩
 | [],_::_,_,_,_,hp,_,_=>hp.elim
 | _::_,[],_,_,_,hp,_,_=>hp.elim
omit [GI] in
theorem Tj {W':World} {sp:Nat->Bool} (hl:laidOutB P=true) (hb:Below W.heap.size W W'):∀ (ts:List TypeId) (Ss:List (Bool×Nat×(V->Prop))) (args:List Value) (ds:List (DataW H)) (ps:List MemPlace),Uf P ts Ss ->
  (∀ p ∈ ps,p.block < W.heap.size)->(∀ p ∈ ps,sp p.block=true)->DataW.TrodAll enc P W 0 (fun _=>true) true ts args ds ps->DataW.TrodAll enc P W' 0 sp true ts args ds ps
 | [],[],args,ds,ps,_,_,_,h=>by
   cases args<;>cases ds<;>simp[DataW.TrodAll] at h ⊢;exact h
 | t::ts,(b,n,S)::Ss,args,ds,ps,hp,hlt,hsp,h=>by
   obtain ⟨v,vs,d,ds',p,q,rfl,rfl,rfl,hd,hrest⟩:=trodAll_cons h;obtain ⟨⟨_,hr,_⟩,hp⟩:=hp
   exact⟨p,q,WideElems.Trod_stays hl hr.1 hr.2 hd (fun x hx=>hb.same (hlt x (List.mem_append_left _ hx))) (fun x hx=>hsp x (List.mem_append_left _ hx)),
    Tj hl hb ts Ss vs ds' q hp (fun x hx=>hlt x (List.mem_append_right _ hx)) (fun x hx=>hsp x (List.mem_append_right _ hx)) hrest,rfl⟩
 | [],_::_,_,_,_,hp,_,_,_=>hp.elim
 | _::_,[],_,_,_,hp,_,_,_=>hp.elim
omit [GI] in
theorem Grow.below {w w':World} {D D':Nat->Prop} (h:Grow w D [] w' D'):Below w.heap.size w w' :=
 ⟨h.os,h.tape,h.output,h.size,fun k hk=>h.old k hk List.not_mem_nil⟩
omit [GI] in
theorem Oh {w w':World} (h:Below w.heap.size w w') (may:MemPlace->Prop):w.keptBut w' may:=by
 refine⟨h.os,h.output,fun i hi=>?_⟩;have e:=h.block i hi;split
 ·rename_i h1 h2;rw[e,h1] at h2;simp only[Option.some.injEq,Obj.cells.injEq] at h2;obtain ⟨rfl,rfl,rfl⟩:=h2;exact⟨rfl,rfl,rfl,fun _ _=>rfl⟩
 ·rename_i h1 h2;rw[e,h1] at h2;simp only[Option.some.injEq,Obj.map.injEq] at h2;obtain ⟨rfl,rfl⟩:=h2;exact .inr ⟨rfl,rfl⟩
 ·exact e
omit [GI] in
theorem YF {f:Func} {s:ChangeSpec} {apart fresh handsOn again:Bool} {W':World} {args:Array Value} {v:Value} {ds gs:List (DataW H)} {pa:List MemPlace}
  (hW:DataW.Whole enc P f.params.toList s.vars apart W args.toList ds gs pa) (hb:Below W.heap.size W W')
  (hres:∀ (b:Nat) (sp:Nat->Bool) (hd:Bool),DataW.TrodAll enc P W' b sp hd f.resultTypes.toList (v.resultList f.resultTypes.size) (s.fn H (ds++gs)).results [])
  (hargs:∀ sp:Nat->Bool,(∀ p ∈ pa,sp p.block=true)->DataW.TrodAll enc P W' 0 sp true f.params.toList args.toList (s.fn H (ds++gs)).args pa)
  (hvars:∀ sp:Nat->Bool,(∀ p ∈ pa,sp p.block=true)->DataW.TrodVars enc P W' sp s.vars (s.fn H (ds++gs)).vars [])
  (hok:∀ (j:Nat) (t:TypeId) (r:Value),f.resultTypes[j]?=some t->(v.resultList f.resultTypes.size)[j]?=some r->Value.okWide P W' .any 0 t r) :
  s.post enc P f apart fresh handsOn again W args v W':=by
 have hlt:=hW.lt;have hold:∀ p ∈ pa,(fun b=>decide (b < W.heap.size)) p.block=true:=fun p hp=>by simpa using hlt p hp
 obtain ⟨_,_,_,_,_,hz,hn⟩:=id hW;refine⟨ds,gs,pa,[],pa,[],hW,hres _ _ _,hargs _ hold,hvars _ hold,Oh hb _,fun _=>⟨hok,_,_,([]++pa)++[],⟨[]++pa,[],trodAll_append (hargs _ (fun _ _=>rfl)) (hres _ _ _),hvars _ (fun _ _=>rfl),rfl,?_,?_⟩,?_⟩⟩
 ·intro b off hp;have hp':MemPlace.cell b off ∈ pa:=by simpa using hp
  have e:=hb.block b (hlt _ hp');have hz':=hz b off hp';unfold World.frozen? at hz' ⊢;rw[e];exact hz'
 ·intro ha;simpa using hn ha
 ·intro p hp _;simpa using hp
end
theorem af6 {P:Program} {f tb:Nat} {fn:Func} {s:ChangeSpec} {Ss:List (Bool×Nat×(V->Prop))} {small:Nat->Prop} (hl:laidOutB P=true) (hv:s.vars=[])
  (hfn:∀ (H:Type) (ds:List (DataW H)),ds.length=fn.params.size->s.fn H ds={ results:=[.lit (.bool true)],args:=ds })
  (hres:fn.resultTypes=#[tb]) (hb:P.underlying tb=some .bool) (hp:Uf P fn.params.toList Ss)
  (hP:∀ vs,Each Ss vs->(∃ m,small m/\eG vs<=m)->aa P f vs (.v (.bool true)))
  (H:Type) (enc:TypeId×Value->H) (W:World) (base:Nat) (args:Array Value) (ds gs:List (DataW H)) (before:List MemPlace)
  (hval:∀ (j:Nat) t v,fn.params[j]?=some t->args[j]?=some v->Value.okWide P W .any base t v)
  (hW:DataW.Whole enc P fn.params.toList s.vars false W args.toList ds gs before) (hsm:small (mj ds)) (hgi:GI.holds W (Old W)) :
  Calls P f args W fun e W'=>∃ v,e=.returned v/\s.post enc P fn false true false false W args v W':=by
 have hW':=hW;obtain ⟨p,q,hA,hV,rfl,_,_⟩:=hW;rw[hv] at hV;obtain ⟨rfl,rfl⟩:=trodVars_none hV;obtain ⟨vs,h1,h2,h3⟩:=Ti fn.params.toList Ss args.toList ds p hp (fun j t v hj hx=>hval j t v (by simpa using hj) (by simpa using hx)) hA;have hcall:=(hP vs h1 ⟨_,hsm,h3⟩).2 W (Old W) args.toList (fun _ h=>h) hgi h2;rw[Array.toArray_toList] at hcall;refine hcall.mono ?_;rintro e W' ⟨y,D',fp,rfl,hg,hcv,_,_⟩;have hy:y=.bool true:=by simp only[CV] at hcv;exact hcv.1
 subst hy;have hbl:=Grow.below hg;have hlt:∀ x ∈ p,x.block < W.heap.size:=fun x hx=>hW'.lt x (by simpa using hx)
 have hlen:∀ (ts:List TypeId) (vs:List Value) (ds:List (DataW H)) (ps:List MemPlace),DataW.TrodAll enc P W 0 (fun _=>true) true ts vs ds ps->ds.length=ts.length:=by
  intro ts
  induction ts with
  | nil=>intro vs ds ps h;cases vs<;>cases ds<;>simp[DataW.TrodAll] at h;rfl
  | cons t ts ih =>
    intro vs ds ps h;obtain ⟨v,vs,d,ds',p,q,rfl,rfl,rfl,_,hr⟩:=trodAll_cons h;simp[ih _ _ _ hr]
 have hds:ds.length=fn.params.size:=by rw[hlen _ _ _ _ hA];simp
 have hs:=hfn H ds hds;rw[List.append_nil] at hW';refine⟨_,rfl,YF hW' hbl (fun b sp hd=>?_) (fun sp hsp=>?_) (fun sp _=>?_) (ok_one hres rfl (okWide_bool_mk hb _))⟩
 ·rw[List.append_nil,hs,hres];exact trodAll_mk1 (shut_bool hb _)
 ·rw[List.append_nil,hs];exact Tj hl hbl fn.params.toList Ss args.toList ds p hp hlt hsp hA
 ·rw[List.append_nil,hs,hv];rfl
end Go.Abs
