/- Parts of the proof, part 2. -/
import Derived.Test.YtnjjimhkbpdpgaaGreatDoorPReplay1
set_option linter.unusedVariables false
set_option linter.unusedSimpArgs false
namespace Go.Proofs.YtnjjimhkbpdpgaaGreatDoor
open Go.Abs
set_option maxRecDepth 100000
def Bb:=[eF 2 1 0,eF 3 3 1,ok 4 (vI 0),ok 5 (vB false)]
def Bc:=[bu 15 1 2,cg 16 qo 15,om 14 16,cJ 17 14 0,cJ 18 14 1,dD 6 4 (.agg [vN,vS [],vS [],vI 0]),bg 4 6 17,om 7 18]
def Bd:=[bu 20 3 3,cg 21 kD 20,om 19 21,cJ 22 19 0,cJ 23 19 1,om 8 22,om 9 23]
def Be:=[om 24 7,oo 25 (.un .not (.t 24)),om 26 25,oF 26 27 (.mv (.t 9)),oF 26 28 (.un .not (.t 27)),oo 29 (.pick (.t 26) (xB true) (.t 28))]
def rN:=[ok 4 (vI 0),ok 5 (vB false)]
def Bf:=[om 30 8,oo 31 (.len false (.t 30)),ok 32 (vI 0)]
def Bg:=[cI 33 .lss 32 31]
def Bh:=[om 34 32,ft 35 2 30 32,bu 36 2 35,dD 11 2 (.agg [vS [],vS []]),om 10 34,bg 2 11 36]
def Bi:=[bu 38 4 6,aL 39 0 11,bl 40 1 39,dK 41 ia 38 40,om 37 41,cJ 42 37 0,cJ 43 37 1,dD 12 4 (.agg [vN,vS [],vS [],vI 0]),bg 4 12 42,om 13 43]
def Bj:=[om 44 13,aL 45 1 11,bl 46 1 45,cI 47 .neq 44 46]
def yF:=[om 48 10,om 4 48,ok 5 (vB true)]
def yG:=[bu 49 4 12,bg 4 6 49]
def yH:=[fL 50 32 1,om 32 50]
def yn:C:=(sr Bg [6,8,30,31,32,33] (ss (sc 33 .skip (.exit 0)) (ss (.block 1 (sr Bh [6,8,10,11,30,31,32] (sr Bi [6,8,10,11,12,13,30,31,32] (ss (sr Bj [6,8,10,12,30,31,32,47] (sc 47 (sr yF [4,5] .ret) .skip)) (.reg yG [6,8,30,31,32]))))) (.reg yH [6,8,30,31,32]))))
def yI:=[om 51 8,oo 52 (.len false (.t 51)),om 4 52,ok 5 (vB true)]
def Gm:C:=(sr Bb [2,3] (sr Bc [3,6,7] (sr Bd [6,7,8,9] (ss (sr Be [6,8,29] (sc 29 (sr rN [4,5] .ret) .skip)) (ss (sr Bf [6,8,30,31,32] (.block 0 (.loop yn))) (sr yI [4,5] .ret))))))
theorem Ts:cE pT Gm [(.tmp 4),(.tmp 5)] 53:=dE Tryz.func24 rfl
def BK:=[eF 2 1 0,eF 3 3 1,ok 4 (vI 0),ok 5 (vB false)]
def BL:=[bu 13 1 2,cg 14 ff 13,om 12 14,cJ 15 12 0,cJ 16 12 1,dD 6 4 (.agg [vN,vS [],vS [],vI 0]),bg 4 6 15,om 7 16]
def BM:=[om 17 7,oo 18 (.un .not (.t 17)),om 19 18,oF 19 20 (.ld true 3 (.t 3)),oF 19 21 (.call ux [.t 20]),oF 19 22 (.un .not (.t 21)),oo 23 (.pick (.t 19) (xB true) (.t 22))]
def rP:=[ok 4 (vI 0),ok 5 (vB false)]
def BN:=[bu 25 3 3,cg 26 uw 25,om 24 26,cJ 27 24 0,cJ 28 24 1,om 8 27,om 9 28]
def BO:=[ok 10 (vS [])]
def BP:=[ok 11 (vI 0)]
def BQ:=[om 29 11,om 30 8,oo 31 (.len false (.t 30)),cI 32 .lss 29 31]
def BR:=[bu 36 4 6,om 37 8,om 38 11,ft 39 2 37 38,aL 40 0 39,bl 41 1 40,dK 42 fT 36 41,om 35 42,cJ 43 35 0,cJ 44 35 1,bg 4 6 43,om 10 44]
def rJ:List (List Nat):=[[],[],[],[1,2],[1,2,3],[1,2,3,4],[0,1,2,3,4,5],[0,1,2,3,4,5,6],[0,1,2,3,4,5,6,7],[0,1,2,3,4,5,6,7],[0,1,2,3,4,5,6,7,8],[0,1,2,3,4,5,6,7,8,9,10]]
def BS:=[om 45 10,om 46 8,om 47 11,ft 48 2 46 47,aL 49 1 48,bl 50 1 49,cI 51 .neq 45 50]
def yV:=[om 52 11,om 4 52,ok 5 (vB true)]
def yW:=[om 33 11,fL 34 33 1,om 11 34]
def yp:C:=(ss (sr BQ [6,8,11,32] (sc 32 .skip (.exit 0))) (ss (.block 1 (ss (.regD BR rJ [6,8,10,11]) (sr BS [6,8,11,51] (sc 51 (sr yV [4,5] .ret) .skip)))) (.reg yW [6,8,11])))
def yX:=[om 53 8,oo 54 (.len false (.t 53)),om 4 54,ok 5 (vB true)]
def Gq:C:=(sr BK [2,3] (sr BL [3,6,7] (ss (sr BM [3,6,23] (sc 23 (sr rP [4,5] .ret) .skip)) (sr BN [6,8] (sr BO [6,8] (ss (sr BP [6,8,11] (.block 0 (.loop yp))) (sr yX [4,5] .ret)))))))
def Zc:Nat->List Nat
 | 0=>[2,3]
 | 1=>[3,6,7]
 | 2=>[3,6,23]
 | 3=>[4,5]
 | 4=>[6,8]
 | 5=>[6,8]
 | 6=>[6,8,11]
 | 7=>[6,8,11,32]
 | 9=>[6,8,10,11]
 | 10=>[6,8,11,51]
 | 11=>[4,5]
 | 8=>[6,8,11]
 | 12=>[4,5]
 | _=>[]
theorem Tu:cE xu Gq [(.tmp 4),(.tmp 5)] 55 :=
 ⟨Tryz.f25,_,Zc,Tryz.func25,rfl,by kernel_rfl,by kernel_rfl,by kernel_rfl,rfl⟩
@[simp] theorem ar6 (i:Nat) (blk:Blk) (l:List (List UInt8)):Jy i blk (l.map S)=l.map S:=nY fun _=>rfl
@[simp] theorem aFn (i:Nat) (blk:Blk) (l:List LogRecord):Jy i blk (l.map dc)=l.map dc:=nY fun _=>rfl
def fH (r:aT) (l:Log):Bool:=bx r&&fx l
def AM (r:aT) (l:Log):Nat:=if fH r l=true then kp (oj r) (df l) else 0
def vb (l:List LogRecord):List (List UInt8):=l.map (·.command)
theorem Pf {c:Console} {l:List LogRecord} {i:Nat} {e:LogRecord} (h:l[i]?=some e) :
  kp c (l.drop i)=if (gN c e.command).2=e.reply then kp (gN c e.command).1 (l.drop (i+1))+1 else 0:=by
 obtain ⟨hi,rfl⟩:=List.getElem?_eq_some_iff.1 h;rw[List.drop_eq_getElem_cons hi];rfl
theorem S6 (r:aT):iw (oj r).log/\(oj r).grants.length<=1048576:=by
 have:=aDd r;refine⟨?_,by omega⟩;unfold oj iw;split<;>simp
theorem NV (r:aT) (l:Log) (hf:iw l) (hl:r.length<=1048576):di pT [bn r,rA l] (.tup [I (AM r l),B (fH r l)]):=by
 have hE:AM r l=if fH r l=true then kp (oj r) (df l) else 0:=rfl
 have hO:fH r l=(bx r&&fx l):=rfl;have hrl:=oV l;have hrec:=JC l hf;refine aa.of Ts (by simp) ?_;simp[Gm,Bb,Bc];refine aZ (aa.ag (Sv r hl)) ?_;simp[Bd];refine aZ (aa.ag hrec) ?_;generalize df l=L at hE hrl hrec;simp[Be];cases hr:bx r with
 | false =>
   have hO:fH r l=false:=by rw[hO,hr];rfl
   rw[if_neg (by simp[hO])] at hE;simp[rN,hE,hO]
 | true =>
   cases hg:fx l with
   | false =>
     have hO:fH r l=false:=by rw[hO,hg,Bool.and_false]
     rw[if_neg (by simp[hO])] at hE;simp[rN,hE,hO]
   | true =>
     have hO:fH r l=true:=by rw[hO,hg,hr];rfl
     rw[if_pos hO] at hE;obtain ⟨hcf,hcl⟩:=S6 r;have hfs:=ry (vb L) hcf hcl;generalize oj r=c0 at hE hcf hcl hfs;simp[Bf,yn]
     refine dl (fun i:Nat=>⟨[(6,.ref 6 0 0),(8,.sl 21 0 L.length),(30,.sl 21 0 L.length),(31,I L.length),(32,I i)],[(6,⟨4,[co (eD c0 (vb L) i)]⟩),(21,⟨2,L.map dc⟩)],[]⟩) (fun i=>L.length - i)
      (fun i=>i<=L.length/\kp c0 L=i+kp (eD c0 (vb L) i) (L.drop i)) 0 (Wk.trans (Wk.frz 16 ⟨18,c0.grants.map bd⟩ (by simp) (by simp) (by simp)) (Wk.list rfl (by simp) (by simp[kh,List.take_of_length_le]))) (by simp[kh]) ?_
     rintro i ⟨hi,hj⟩ K hN hR hE';simp[Bg,yH];refine⟨fun hlt=>?_,fun hge=>?_⟩
     ·have hcs:=rz (c:=c0) (L:=vb L) (k:=i) (by simpa [vb] using hlt);have hcm:(vb L)[i]'(by simpa [vb] using hlt)=L[i].command:=by simp[vb]
      rw[hcm] at hcs;have hg:L[i]?=some L[i]:=List.getElem?_eq_getElem hlt;rw[Pf hg] at hj;have hI:=pH (eD c0 (vb L) i) L[i].command (hfs i).1 (hfs i).2;have hk:=(vg L[i].command (hfs i).1 (hfs i).2).2;generalize L[i]=e at hcs hg hj hI hk;obtain ⟨p,hp⟩:∃ p,gN (eD c0 (vb L) i) e.command=p:=⟨_,rfl⟩;rw[hp] at hcs hI hk hj;obtain ⟨d,t⟩:=p;dsimp only at hcs hI hk hj;generalize eD c0 (vb L) i=ci at hI hp ⊢;simp[Bh,hg];refine⟨hlt,?_⟩;simp[Bi];refine aZ (aa.ag hI) ?_;simp[Bj];refine⟨fun hne=>?_,fun heq=>?_⟩
      ·rw[if_neg hne] at hj;simp[yF];refine hR _ ?_;simp[hO,hE,hj]
      ·rw[if_pos heq] at hj;simp[yG];rw[aD (by omega)];refine hN (i+1) _ (by omega) ⟨by omega,by rw[hcs,hj];omega⟩ (Wk.trans (Wk.frz 41 ⟨18,d.grants.map bd⟩ (by simp) (by simp) (by simp)) (Wk.list rfl ?_ ?_))
       ·simp
       ·simp[hcs,List.take_of_length_le]
     ·obtain rfl:i=L.length:=by omega
      rw[List.drop_of_length_le (Nat.le_refl _)] at hj;refine hE' _ _ ?_;simp[yI,hO,hE,hj,kp]
theorem amm (r:aT) (l:Log) (hf:iw l) (hl:r.length<=1048576):di xu [bn r,rA l] (.tup [I (AM r l),B (fH r l)]):=by
 have hE:AM r l=if fH r l=true then kp (oj r) (df l) else 0:=rfl
 have hO:fH r l=(bx r&&fx l):=rfl;have hrl:=oV l;have hrec:=ad6 l hf;refine aa.of Tu (by simp) ?_;simp[Gq,BK,BL];refine aZ (aa.ag (p8 r hl)) ?_;simp[BM];cases hr:bx r with
 | false =>
   have hO:fH r l=false:=by rw[hO,hr];rfl
   rw[if_neg (by simp[hO])] at hE;simp[rP,hE,hO]
 | true =>
   simp;refine al (aa.ag (LM l hf)) ?_;cases hg:fx l with
   | false =>
     have hO:fH r l=false:=by rw[hO,hg,Bool.and_false]
     rw[if_neg (by simp[hO])] at hE;simp[rP,hE,hO]
   | true =>
     have hO:fH r l=true:=by rw[hO,hg,hr];rfl
     rw[if_pos hO] at hE;obtain ⟨hcf,hcl⟩:=S6 r;simp[BN];refine aZ (aa.ag hrec) ?_;generalize df l=L at hE hrl hrec;have hfs:=ry (vb L) hcf hcl;generalize oj r=c0 at hE hcf hcl hfs;simp[BO,BP,yp]
     refine dl (fun i:Nat=>⟨[(6,.ref 6 0 0),(8,.sl 26 0 L.length),(11,I i)],[(6,⟨4,[co (eD c0 (vb L) i)]⟩),(26,⟨2,L.map dc⟩)],[]⟩) (fun i=>L.length - i)
      (fun i=>i<=L.length/\kp c0 L=i+kp (eD c0 (vb L) i) (L.drop i)) 0 (Wk.trans (Wk.frz 14 ⟨18,c0.grants.map bd⟩ (by simp) (by simp) (by simp)) (Wk.list rfl (by simp) (by simp[kh,List.take_of_length_le]))) (by simp[kh]) ?_
     rintro i ⟨hi,hj⟩ K hN hR hE';simp[BQ,yW];refine⟨fun hlt=>?_,fun hge=>?_⟩
     ·have hcs:=rz (c:=c0) (L:=vb L) (k:=i) (by simpa [vb] using hlt);have hcm:(vb L)[i]'(by simpa [vb] using hlt)=L[i].command:=by simp[vb]
      rw[hcm] at hcs;have hg:L[i]?=some L[i]:=List.getElem?_eq_getElem hlt;rw[Pf hg] at hj;have hI:=jJ (eD c0 (vb L) i) L[i].command (hfs i).1 (hfs i).2;obtain ⟨e,he⟩:∃ e,L[i]=e:=⟨_,rfl⟩;have hgE:∀ h,L[i]'h=e:=fun _=>he;rw[he] at hcs hg hj hI;obtain ⟨p,hp⟩:∃ p,gN (eD c0 (vb L) i) e.command=p:=⟨_,rfl⟩;rw[hp] at hcs hI hj;obtain ⟨d,t⟩:=p;dsimp only at hcs hI hj;generalize eD c0 (vb L) i=ci at hI hp ⊢;simp[BR,rJ,hg,hlt,hgE];refine Hv (aa.ag hI) ?_;simp;refine⟨a7 (by simp[rJ]) (by simp),?_⟩;simp[BS,hg,hlt,hgE];refine⟨fun hne=>?_,fun heq=>?_⟩
      ·rw[if_neg hne] at hj;simp[yV];refine hR _ ?_;simp[hO,hE,hj]
      ·rw[if_pos heq] at hj;rw[aD (by omega)];refine hN (i+1) _ (by omega) ⟨by omega,by rw[hcs,hj];omega⟩ (Wk.list rfl ?_ ?_)
       ·first | rfl | simp
       ·simp[hcs]
     ·obtain rfl:i=L.length:=by omega
      rw[List.drop_of_length_le (Nat.le_refl _)] at hj;refine hE' _ _ ?_;simp[yX,hO,hE,hj,kp]
theorem ZY (t:List UInt8) (ht:t.length<=4000):di rF [S t,S [10]] (.tup [.own 1 ((parts 10 t).map S),B true]):=by
 have n4:¬4000 < (t.length:Int):=by omega
 refine aa.ofN MI (by simp) ?_;simp[AU,vW,vX,n4];simp[vY];refine aZ (aa.ag (Ni t 10 (by omega))) ?_;simp
theorem auh (c:UInt8):∀ s:List UInt8,(parts c s).length<=s.length+1
 | []=>by simp[parts]
 | x::s=>by
   obtain ⟨p,ps,h1,h2⟩:=ayG (c:=c) (x:=x) (s:=s);have ih:=auh c s;rw[h1,List.length_cons] at ih;rw[h2];split
   ·simp only[List.length_cons];omega
   ·simp only[List.length_cons];omega
theorem aQE (r:aT):aEc (oj r) (oj r):=by
 unfold aEc
 have:df (oj r).log=[]:=by
  unfold oj;split<;>(show df ⟨[],[],0⟩=[];decide +kernel)
 rw[this];rfl
set_option maxHeartbeats 4000000 in
theorem aTW (code:List UInt8):di at7 [.ro 1 (code.map Y)] (B true):=by
 obtain ⟨r,l,hrl,hlf,hD⟩:=aBm code;obtain ⟨cx,tx,_,htx,hD2⟩:=Qf code;have hI1:=NV r l hlf (by omega);have hS1:=amm r l hlf (by omega);generalize AM r l=n1 at hI1 hS1;generalize fH r l=b1 at hI1 hS1;have hNI:=Sv r (by omega);have hNS:=p8 r (by omega);have hsp:=ZY tx htx;obtain ⟨L,hL⟩:∃ L,parts 10 tx=L:=⟨_,rfl⟩;rw[hL] at hsp
 have hpl:L.length<=5000:=by
  have:=auh 10 tx;rw[hL] at this;omega
 obtain ⟨hcf,hcl⟩:=S6 r;have hfs:=ry L hcf hcl;have hT:=aR0 L (aQE r);have hok:bx r=true->∀ k,dC (eD (oj r) L k)=true:=fun h=>aO2 L (lp.2 ⟨by unfold oj;rw[if_pos h];exact h,by unfold oj;rw[if_pos h];exact(show fx ⟨[],[],0⟩=true by decide +kernel)⟩);obtain ⟨c0,hc0⟩:∃ c0,oj r=c0:=⟨_,rfl⟩;rw[hc0] at hNI hNS hcf hcl hfs hT hok;refine aa.of aEG (by simp) ?_;simp[atp,alX,alY];refine al (aa.ag (aD5 code)) ?_;simp;refine⟨fun _=>by simp[alZ],fun _=>?_⟩;simp[al0];refine aZ (aa.ag hD) ?_;simp[al1];refine aZ (aa.at hI1) ?_;simp[al2];refine aZ (aa.at hS1) ?_;simp[al3];simp[al4];refine Ac (aa.ag hD2) ?_;simp[al5];refine aZ (aa.at hNI) ?_;simp[agB];refine aZ (aa.at hNS) ?_;simp[agC];refine al (aa.at (aeh c0)) ?_;simp;simp[agD];cases hr:bx r with
 | false=>simp[agE]
 | true =>
   have hok:=hok hr;simp[agF];refine aZ (aa.ag hsp) ?_;simp[agG,aeN]
   refine dl (fun i:Nat=>⟨[(3,.ref 3 0 0),(11,.ref 11 0 0),(15,.sl 82 0 L.length),(17,I i)],[(3,⟨1,[.agg [.sl 31 0 (List.length r)]]⟩),(31,⟨18,r.map bd⟩),(11,⟨4,[co (eD c0 L i)]⟩),(82,⟨1,L.map S⟩)],[]⟩) (fun i=>L.length - i) (fun i=>i<=L.length) 0
    (Wk.trans (Wk.frz 61 ⟨18,c0.grants.map bd⟩ (by simp) (by simp) (by simp)) (Wk.list rfl (by simp) (by simp[kh,List.take_of_length_le]))) (by simp) ?_
   intro i hi K hN hR hE;simp[agH,agJ];refine⟨fun hlt=>?_,fun hge=>?_⟩
   ·have hcs:=rz (c:=c0) hlt;have hI:=pH (eD c0 L i) L[i] (hfs i).1 (hfs i).2;obtain ⟨x,hx⟩:∃ x,L[i]=x:=⟨_,rfl⟩;have hg:L[i]?=some x:=by rw[<- hx];exact List.getElem?_eq_getElem hlt
    have hgE:∀ h,L[i]'h=x:=fun _=>hx;rw[hx] at hcs hI;obtain ⟨p,hp⟩:∃ p,gN (eD c0 L i) x=p:=⟨_,rfl⟩;rw[hp] at hcs hI;obtain ⟨d,q⟩:=p;dsimp only at hcs hI;generalize eD c0 L i=ci at hI hp ⊢;simp[agI,PM,hlt,hg,hgE];refine gm (aa.ag hI) ?_;simp;refine⟨a7 (by simp[PM]) (by simp),?_⟩;rw[aD (by omega)];refine hN (i+1) _ (by omega) (by omega) (Wk.trans (Wk.frz 97 ⟨18,d.grants.map bd⟩ (by simp) (by simp) (by simp)) (Wk.list rfl ?_ ?_))
    ·simp
    ·simp[hcs,List.take_of_length_le]
   ·obtain rfl:i=L.length:=by omega
    have hTn:=hT L.length;have hokn:=hok L.length;have hfn:=(hfs L.length).1;generalize eD c0 L L.length=c at hTn hokn hfn;obtain ⟨_,hlok⟩:=lp.1 hokn;have hlf:=MP hlok;obtain ⟨n,hn⟩:∃ n:Int,(c.log.pending.length:Int) - (c.log.pending.length:Int).tmod 7=n:=⟨_,rfl⟩
    have hnb:0<=n/\n<=c.log.pending.length:=by
     rw[Int.tmod_eq_emod_of_nonneg (by omega)] at hn;omega
    have hcr:Jl c.log n=true:=by
     unfold Jl;rw[hlok,db.2 ⟨by omega,by omega⟩];rfl
    obtain ⟨cb1,_,w,cb2⟩:=aMP (b:=false) hcr;have hfix:=aAz (MD c.log n false) cb1;have hrr:=aBl (MD c.log n false) cb1;have hcrash:=aKM c.log n false hfn;have hrecov:=aGM (MD c.log n false);rw[hcr] at hcrash;generalize MD c.log n false=by1 at cb1 cb2 hfix hrr hcrash hrecov;have hpl2:=MP hfix.1;have hpc:=NE hfix.1
    have hRA:AM r c.log=(df c.log).length:=by
     unfold AM fH;rw[hr,hlok,hc0];exact asE _ _ _ hTn
    have hRB:AM r (pF by1)=(df (pF by1)).length:=by
     unfold AM fH;rw[hr,hfix.1,hc0,hrr.1];unfold aEc at hTn;rw[cb2] at hTn;exact aLm hTn
    have hOA:fH r c.log=true:=by unfold fH;rw[hr,hlok];rfl
    have hOB:fH r (pF by1)=true:=by unfold fH;rw[hr,hfix.1];rfl
    have hA:=NV r c.log hfn (by omega);have hB:=NV r (pF by1) (by unfold iw;omega) (by omega);have hca:=NE hlok;rw[hRA,hOA] at hA;rw[hRB,hOB] at hB;generalize pF by1=part at hrecov hB hpc;refine hE _ _ ?_;simp only[cv];simp[agK];refine aZ (aa.at hA) ?_;simp[agL];rw[hn,aD (n:=n) (by omega)];refine aZ (aa.ag hcrash) ?_;simp[agM];refine aZ (aa.ag hrecov) ?_;simp[agN];refine aZ (aa.at hB) ?_;simp[agO,hca,hpc,cb1]
end Go.Proofs.YtnjjimhkbpdpgaaGreatDoor
