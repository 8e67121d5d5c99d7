/- Parts of the proof that several claims share, part 5. -/
import Derived.Lib.IndexMore
import Derived.Test.YtnjjimhkbpdpgaaGreatDoorQ4
set_option linter.unusedVariables false
set_option linter.unusedSimpArgs false
namespace Go.Proofs.YtnjjimhkbpdpgaaGreatDoor
open Go.Abs
open Tryz
theorem aFc:∀ i,i < 6->(32:UInt8) ∉ ahN.getD i []:=by decide +kernel
theorem aJb:∀ i,i < 8->(32:UInt8) ∉ FJ.getD i []:=by decide +kernel
theorem aMu:∀ i,i < 7->(32:UInt8) ∉ EH.getD i []:=by decide +kernel
theorem aPu:∀ i,i < 8->FJ.getD i [] ∉ EH/\FJ.getD i []++[115] ∉ EH:=by decide +kernel
theorem aRN:∀ i,i < 7->EH.contains (EH.getD i [])=true/\(EH.getD i []=Y0↔i=6):=by decide +kernel
theorem I7 {a b c:List UInt8} (ha:(32:UInt8) ∉ a) (hb:(32:UInt8) ∉ b):second (a++32::b)=some b/\second (a++32::(b++32::c))=some b:=by
 unfold second;constructor
 ·rw[eW,eC ha,eC hb];rfl
 ·rw[eW,eW,eC ha,eC hb];rfl
theorem aHO {g:Group} (h:bQ g=true) (x:List UInt8):second (jK g)=some (rl g.kind g.count)/\second (jK g++32::x)=some (rl g.kind g.count)/\rl g.kind g.count ∉ EH:=by
 obtain ⟨h1,h2,h3,h4⟩:=jM h
 have hc:(32:UInt8) ∉ mO g.count g.kind:=by
  unfold mO;split
  ·decide
  ·exact aFc _ (by omega)
 have hk:(32:UInt8) ∉ rl g.kind g.count:=by
  unfold rl;have:=aJb (g.kind - 1).toNat (by omega);split
  ·simp only[List.mem_append,List.mem_singleton];rintro (h | h)
   ·exact this h
   ·exact absurd h (by decide)
  ·simpa using this
 refine⟨?_,?_,?_⟩
 ·unfold jK;split
  ·exact(I7 hc hk).2
  ·rw[List.append_nil];exact(I7 hc hk (c:=[])).1
 ·unfold jK;split
  ·rw[List.append_assoc,List.cons_append,List.append_assoc];exact(I7 hc hk).2
  ·rw[List.append_nil,List.append_assoc,List.cons_append];exact(I7 hc hk).2
 ·have:=aPu (g.kind - 1).toNat (by omega);unfold rl;split
  ·exact this.2
  ·rw[List.append_nil];exact this.1
theorem TJ {g:Group} (h:bQ g=true) (x:List UInt8):vF (jK g)=false/\vF (jK g++32::x)=false:=by
 obtain ⟨h1,h2,h3⟩:=aHO h x;unfold vF;rw[h1,h2];have:EH.contains (rl g.kind g.count)=false:=by rw[Bool.eq_false_iff];intro e;exact h3 (List.contains_iff_mem.1 e)
 exact⟨this,this⟩
theorem aiB {o l:Int} (ho:1<=o/\o<=7) (x:List UInt8):second (rI o l)=some (PH o)/\second (rI o l++32::x)=some (PH o):=by
 have hw:(32:UInt8) ∉ PH o:=aMu (o - 1).toNat (by omega);have h1:(32:UInt8) ∉ ([97]:List UInt8):=by decide
 have e:rI o l=[97]++32::PH o\/rI o l=[97]++32::(PH o++32::L0 l):=by
  unfold rI C0;split
  ·exact .inl rfl
  ·exact .inr (by simp)
 rcases e with e | e<;>rw[e]
 ·refine⟨(I7 h1 hw (c:=[])).1,?_⟩;have:=(I7 h1 hw (c:=x)).2;simpa using this
 ·refine⟨(I7 h1 hw).2,?_⟩;have:=(I7 h1 hw (c:=L0 l++32::x)).2;simpa using this
theorem ayF {o:Int} (ho:1<=o/\o<=7):EH.contains (PH o)=true/\decide (o=7)=decide (some (PH o)=some Y0):=by
 obtain ⟨h1,h2⟩:=aRN (o - 1).toNat (by omega);refine⟨h1,?_⟩
 have:(o=7)↔PH o=Y0:=by
  show _↔EH.getD (o - 1).toNat []=Y0;rw[h2];omega
 simp only[this,Option.some.injEq]
theorem LQ {f o n r:List UInt8} {k l:Int} {x:List UInt8} (hf:ky f) (hk:k=0\/(1<=k/\k<=7)) (hl:0<=l/\l<=4) (ho:(k=0/\o=[]/\n=[])\/(k≠0/\(o=rI k l\/(o=rI k l++32::x/\ky x))))
  (hn:n=[]\/ky n) (hr:r=[]\/(ky r/\vF r=false)):bI (lY f o n r (decide (k=7)))=⟨f,o,n,r,decide (k=7)⟩:=by
 refine aLJ hf (hr.imp id And.left) hn (fun h=>?_) (fun h=>?_)
 ·rcases ho with ⟨h0,_,h2⟩ | ⟨h0,h1⟩
  ·refine⟨h2,by simp[h0],?_⟩;rcases hr with rfl | hr
   ·rfl
   ·exact hr.2
  ·exfalso;have hne:rI k l≠[]:=by unfold rI C0;split<;>simp
   rcases h1 with h1 | h1
   ·exact hne (h1.symm.trans h)
   ·rw[h1.1] at h;simp at h
 ·rcases ho with ⟨_,h1,_⟩ | ⟨h0,h1⟩
  ·exact absurd h1 h
  ·have hk:=hk.resolve_left h0;obtain ⟨g1,g2⟩:=aiB (l:=l) hk x;obtain ⟨g3,g4⟩:=ayF hk;have hv:=aHz hk hl;rcases h1 with rfl | ⟨rfl,hx⟩
   ·refine⟨hv,?_,?_⟩
    ·unfold vF;rw[g1];exact g3
    ·rw[g1];exact g4
   ·refine⟨hv.two hx,?_,?_⟩
    ·unfold vF;rw[g2];exact g3
    ·rw[g2];exact g4
theorem atN {g:Group} (h:g0 g=false->bQ g=true):rU g=[]\/(ky (rU g)/\vF (rU g)=false):=by
 unfold rU;split
 ·exact .inl rfl
 ·rename_i e;have hg:=h (by simpa using e);have ht:=(jM hg).2.2.1;rw[V5];exact .inr ⟨(aD3 hg).two (amF ht),(TJ hg _).2⟩
theorem aLI {a:Arms} (h:arms a=true):bI (nL a)=⟨dS a.field,H5 a,rU a.on,rU a.around,decide (a.ordinary=7)⟩:=by
 obtain ⟨ho,hn,hr⟩:=mM h;rw[Sl h];by_cases h0:a.ordinary=0
 ·refine LQ (k:=a.ordinary) (l:=0) (x:=[]) (S8 (gM h)) (.inl h0) (by omega) (.inl ⟨h0,by simp[H5,h0],by simp[rU,ho.2.2.1 h0]⟩) ((atN hn).imp id And.left) (atN hr)
 ·obtain ⟨g2,g3⟩:=ho.2.2.2 h0;refine LQ (k:=a.ordinary) (l:=a.line) (x:=eL a.tincture) (S8 (gM h)) (.inr (by omega)) g2 (.inr ⟨h0,.inr ⟨by simp[H5,h0],amF g3⟩⟩) ((atN hn).imp id And.left) (atN hr)
def xo (l:List (List UInt8)) (s:List UInt8):Int:=match l.findIdx? (·==s) with | some i=>(i:Int)+1 | none=>0
def rv (s:List UInt8):Int:=xo ua s
theorem aOq:∀ i,i < 9->xo ua (ua.getD i [])=(i:Int)+1:=by decide +kernel
theorem aNn:∀ i,i < 4->xo sK (sK.getD i [])=(i:Int)+1:=by decide +kernel
theorem aPX:∀ i,i < 7->xo EH (EH.getD i [])=(i:Int)+1:=by decide +kernel
theorem aOT:∀ k:Nat,k < 8->∀ i,i < 2->(i < (cY ((k:Int)+1)).length->xo (cY ((k:Int)+1)) ((cY ((k:Int)+1)).getD i [])=(i:Int)+1):=by decide +kernel
theorem Vv {x:Int} (h:fV x 1 9=true):rv (eL x)=x:=by
 have:=db.1 h;have e:=aOq (x - 1).toNat (by omega);unfold rv eL;omega
def Ki:Int->List (List UInt8)->List UInt8->Option (Int×List UInt8)
 | _,[],_=>none
 | i,w::ws,s=>if (w++[32]).isPrefixOf s then some (i,s.drop (w.length+1)) else Ki (i+1) ws s
def ahP (s:List UInt8):Option (Int×List UInt8):=Ki 1 Y4 s
def uU (s:List UInt8):Int×List UInt8:=(Ki 1 sK s).getD (0,s)
def NH:List UInt8:=[32,97,110,100,32]
def FV (s:List UInt8):Field :=
 match ahP s with
 | some (d,r)=>⟨d,(uU r).1,rv (me NH (uU r).2),rv (jB NH (uU r).2)⟩
 | none=>⟨0,0,rv (me NH s),rv (jB NH s)⟩
theorem aKz (r:List UInt8):∀ d,d < 7->ahP (Y4.getD d []++32::r)=some ((d:Int)+1,r)
 | 0,_=>rfl | 1,_=>rfl | 2,_=>rfl | 3,_=>rfl | 4,_=>rfl | 5,_=>rfl | 6,_=>rfl
 | _+7,h=>absurd h (by omega)
theorem aJe (r:List UInt8):∀ d,d < 4->uU (sK.getD d []++32::r)=((d:Int)+1,r)
 | 0,_=>rfl | 1,_=>rfl | 2,_=>rfl | 3,_=>rfl
 | _+4,h=>absurd h (by omega)
theorem aG2 (r:List UInt8):∀ d,d < 9->uU (ua.getD d []++32::r)=(0,ua.getD d []++32::r)
 | 0,_=>rfl | 1,_=>rfl | 2,_=>rfl | 3,_=>rfl | 4,_=>rfl | 5,_=>rfl | 6,_=>rfl | 7,_=>rfl | 8,_=>rfl
 | _+9,h=>absurd h (by omega)
theorem aQX {a:Int} (h:fV a 1 9=true) (b:List UInt8):me NH (eL a++NH++b)=eL a/\jB NH (eL a++NH++b)=b:=by
 have hi:=db.1 h;refine Ip ?_
 have hn:[97,110,100] ∉ parts 32 (eL a):=by
  rw[acx h];have:∀ i,i < 9->([97,110,100]:List UInt8)≠ua.getD i []:=by decide +kernel
  exact fun hm=>this (a - 1).toNat (by omega) (List.mem_singleton.1 hm)
 have:=aDf (w:=[97,110,100]) (c:=NH) (a:=eL a) (b:=[97,110,100,32]++b) (by decide) (List.prefix_refl _) hn;simpa [NH] using this
theorem aTe:∀ i,i < 9->FV (ua.getD i [])=⟨0,0,(i:Int)+1,0⟩:=by decide +kernel
theorem aFh {f:Field} (h:cN f=true):FV (dS f)=f:=by
 simp only[cN,Bool.and_eq_true,db] at h;obtain ⟨⟨⟨a1,a2⟩,a3⟩,a4⟩:=h;obtain ⟨d,l,x,y⟩:=f;dsimp only at *;by_cases d0:d=0
 ·rw[if_pos d0] at a4;simp only[Bool.and_eq_true,beq_iff_eq] at a4;obtain ⟨rfl,rfl⟩:=a4;subst d0;show FV (ua.getD (x - 1).toNat [])=_;rw[aTe _ (by omega)];simp only[Field.mk.injEq,true_and,and_true];omega
 ·rw[if_neg d0] at a4;simp only[Bool.and_eq_true,db] at a4
  have e1:ahP (dS ⟨d,l,x,y⟩)=some (d,(if l=0 then [] else L0 l++[32])++(eL x++NH++eL y)):=by
   have e:dS ⟨d,l,x,y⟩=Y4.getD (d - 1).toNat []++32::((if l=0 then [] else L0 l++[32])++(eL x++NH++eL y)):=by
    unfold dS C0;rw[if_neg d0];split<;>simp[axS,NH]
   rw[e,aKz _ _ (by omega)];simp only[Option.some.injEq,Prod.mk.injEq,and_true];omega
  have e2:uU ((if l=0 then [] else L0 l++[32])++(eL x++NH++eL y))=(l,eL x++NH++eL y):=by
   by_cases l0:l=0
   ·rw[if_pos l0,List.nil_append];have:=aG2 ([97,110,100,32]++eL y) (x - 1).toNat (by omega);have e:eL x++NH++eL y=ua.getD (x - 1).toNat []++32::([97,110,100,32]++eL y):=by simp[eL,NH]
    rw[e,this,l0]
   ·rw[if_neg l0];have:=aJe (eL x++NH++eL y) (l - 1).toNat (by omega);have e:L0 l++[32]++(eL x++NH++eL y)=sK.getD (l - 1).toNat []++32::(eL x++NH++eL y):=by simp[L0]
    rw[e,this];simp only[Prod.mk.injEq,and_true];omega
  obtain ⟨c1,c2⟩:=aQX (db.2 a3) (eL y);unfold FV;rw[e1];dsimp only;rw[e2];dsimp only;rw[c1,c2,Vv (db.2 a3),Vv (db.2 a4.1)]
def ckL:List (Int×Int):=[1,2,3,4,5,6].flatMap fun c=>[1,2,3,4,5,6,7,8].map fun k=>(c,k)
def ckP (u v:List UInt8):Int×Int:=ckL.foldl (fun g p=>if mO p.1 p.2=u/\rl p.2 p.1=v then p else g) (0,0)
theorem aRa:∀ c:Nat,c < 6->∀ k:Nat,k < 8->ckP (mO ((c:Int)+1) ((k:Int)+1)) (rl ((k:Int)+1) ((c:Int)+1))=((c:Int)+1,(k:Int)+1):=by decide +kernel
def HQ (ws:List (List UInt8)):Group :=
 let p:=ckP (ws.getD 0 []) (ws.getD 1 [])
 ⟨p.1,p.2,if ws.length=4 then xo (cY p.2) (ws.getD 2 []) else 0,rv (ws.getD (ws.length - 1) [])⟩
theorem aKy (c k:Int) (h:1<=c/\c<=6):(32:UInt8) ∉ mO c k:=by
 unfold mO;split
 ·decide
 ·exact aFc _ (by omega)
theorem aNl (k c:Int) (h:1<=k/\k<=8):(32:UInt8) ∉ rl k c:=by
 have:=aJb (k - 1).toNat (by omega);unfold rl;split
 ·simp only[List.mem_append,List.mem_singleton];rintro (h | h)
  ·exact this h
  ·exact absurd h (by decide)
 ·simpa using this
theorem aQ2:∀ k:Nat,k < 8->∀ i,i < 2->(32:UInt8) ∉ (cY ((k:Int)+1)).getD i []:=by decide +kernel
theorem aIL {g:Group} (h:bQ g=true):parts 32 (mP g)=mO g.count g.kind::rl g.kind g.count::((if 0 < g.attitude then [(cY g.kind).getD (g.attitude - 1).toNat []] else [])++[eL g.tincture]):=by
 obtain ⟨h1,h2,h3,h4⟩:=jM h;have hc:=aKy g.count g.kind h1;have hk:=aNl g.kind g.count h2
 have ha:(32:UInt8) ∉ (cY g.kind).getD (g.attitude - 1).toNat []:=by
  have:=aQ2 (g.kind - 1).toNat (by omega) (g.attitude - 1).toNat (by omega);rw[show (((g.kind - 1).toNat:Nat):Int)+1=g.kind by omega] at this;exact this
 unfold mP;split
 ·have e:mO g.count g.kind++32::(rl g.kind g.count++32::(cY g.kind).getD (g.attitude - 1).toNat []++32::eL g.tincture)=mO g.count g.kind++32::(rl g.kind g.count++32::((cY g.kind).getD (g.attitude - 1).toNat []++32::eL g.tincture)):=by simp
  rw[e,eW,eW,eW,eC hc,eC hk,eC ha,acx h3];rfl
 ·rw[List.append_nil,eW,eW,eC hc,eC hk,acx h3];rfl
theorem aQ1 {g:Group} (h:bQ g=true):(0 < g.attitude/\(g.attitude - 1).toNat < (cY g.kind).length)\/g.attitude=0:=by
 by_cases ha:0 < g.attitude
 ·exact .inl ⟨ha,(aBA h ha).1⟩
 ·have:=(jM h).2.2.2;exact .inr (by omega)
theorem aM9 {g:Group} (h:bQ g=true):(parts 32 (mP g)).length=(if 0 < g.attitude then 4 else 3)/\HQ (parts 32 (mP g))=g:=by
 obtain ⟨h1,h2,h3,h4⟩:=jM h
 have hp:ckP (mO g.count g.kind) (rl g.kind g.count)=(g.count,g.kind):=by
  have:=aRa (g.count - 1).toNat (by omega) (g.kind - 1).toNat (by omega);rw[show (((g.kind - 1).toNat:Nat):Int)+1=g.kind by omega,show (((g.count - 1).toNat:Nat):Int)+1=g.count by omega] at this;exact this
 rw[aIL h];unfold HQ;obtain ⟨c,k,a,t⟩:=g;dsimp only at *;rcases aQ1 h with ⟨ha,hl⟩ | ha
 ·have:=aOT (k - 1).toNat (by omega) (a - 1).toNat (by omega);rw[show (((k - 1).toNat:Nat):Int)+1=k by omega] at this;have:=this hl
  replace ha:0 < a:=ha
  simp only[if_pos ha,List.cons_append,List.nil_append,List.length_cons,List.length_nil,List.getD_cons_zero,List.getD_cons_succ,hp,Vv h3,this,if_true,true_and];simp only[Group.mk.injEq,true_and,and_true];omega
 ·replace ha:a=0:=ha
  have ha':¬(0:Int) < a:=by omega
  simp only[if_neg ha',List.cons_append,List.nil_append,List.length_cons,List.length_nil,List.getD_cons_zero,List.getD_cons_succ,hp,Vv h3,true_and];simp[ha]
def aiz (ws:List (List UInt8)):Int×Int×Int :=
 (xo EH (ws.getD 1 []),if ws.length=4 then xo sK (ws.getD 2 []) else 0,rv (ws.getD (ws.length - 1) []))
theorem aRK {o l x:Int} (ho:1<=o/\o<=7) (hl:0<=l/\l<=4) (hx:fV x 1 9=true) :
  (parts 32 (rI o l++32::eL x)).length=(if l=0 then 3 else 4)/\aiz (parts 32 (rI o l++32::eL x))=(o,l,x):=by
 have hw:(32:UInt8) ∉ PH o:=aMu (o - 1).toNat (by omega);have h1:(32:UInt8) ∉ ([97]:List UInt8):=by decide
 have e1:xo EH (PH o)=o:=by
  have:=aPX (o - 1).toNat (by omega);unfold PH;omega
 unfold rI C0 aiz;by_cases l0:l=0
 ·rw[if_pos l0];have e:[97,32]++PH o++32::eL x=[97]++32::(PH o++32::eL x):=by simp
  rw[e,eW,eW,eC h1,eC hw,acx hx];simp[e1,Vv hx,l0]
 ·rw[if_neg l0]
  have hln:(32:UInt8) ∉ L0 l:=by
   have:∀ i,i < 4->(32:UInt8) ∉ sK.getD i []:=by decide +kernel
   exact this (l - 1).toNat (by omega)
  have e2:xo sK (L0 l)=l:=by
   have:=aNn (l - 1).toNat (by omega);unfold L0;omega
  have e:[97,32]++PH o++32::L0 l++32::eL x=[97]++32::(PH o++32::(L0 l++32::eL x)):=by simp
  rw[e,eW,eW,eW,eC h1,eC hw,eC hln,acx hx];simp[e1,e2,Vv hx,l0]
theorem aMp {P:Program} {b:C} {Q:Exit->AS->Prop} {s:AS} {α:Type} (St:α->AS) (m:α->Nat) (ok:α->Prop) (a0:α) (h0:Wk s (St a0)) (h1:ok a0) (E:AS->Prop) (id:Nat) (hE:∀ s,E s->Q (.exit id) s)
  (step:∀ a,ok a->∀ K:Exit->AS->Prop,(∀ a' s,m a' < m a->ok a'->Wk s (St a')->K .normal s)->(∀ s,Q .ret s->K .ret s)->(∀ s,E s->K (.exit id) s)->Z4 P b K (St a)):aJf (Z4 P b) Q s :=
 dl St m ok a0 h0 h1 fun a ha K hN hR hX=>step a ha K hN hR fun s hs=>hX id s (hE s hs)
theorem aKC {α:Type} (p:α->Bool) (l:List α):l.findIdx? p=if l.findIdx p < l.length then some (l.findIdx p) else none:=by
 induction l with
 | nil=>rfl
 | cons a l ih =>
   rw[List.findIdx?_cons,List.findIdx_cons,ih];cases h:p a with
   | true=>simp
   | false =>
     simp only[Bool.false_eq_true,if_false,cond_false,List.length_cons,Nat.add_lt_add_iff_right];split<;>rfl
theorem ay2 (l:List (List UInt8)) (x:List UInt8):idx (fun y=>y==x) l=xo l x - 1:=by
 unfold idx xo;rw[aKC];by_cases h:l.findIdx (fun y=>y==x) < l.length
 ·rw[if_pos h,if_pos h];simp
 ·rw[if_neg h,if_neg h];rfl
theorem amM (l:List (List UInt8)) (s:List UInt8):0<=xo l s/\xo l s<=l.length:=by
 unfold xo;cases h:l.findIdx? (·==s) with
 | none=>simp
 | some i =>
   have:=(List.findIdx?_eq_some_iff_findIdx_eq.1 h).1;simp;omega
theorem ll (l:List (List UInt8)) (x:List UInt8):di fU [.ro 1 (l.map S),S x] (I (xo l x - 1)):=by
 rw[<- ay2];refine aa.ofL NS (by simp) fun hl=>?_;simp at hl;simp[AW,zd,ze,zk];refine GJ (fun i:Nat=>⟨[(0,.ro 1 (l.map S)),(1,S x),(7,I l.length),(8,I i)],[],[]⟩) (fun i=>l.length - i) (fun i=>i<=l.length/\∀ j (_:j < i) (hj:j < l.length),(l[j]==x)=false) 0 Wk.li (by simp) ?_;rintro i ⟨hi,hj⟩;simp[zf,yr];refine⟨fun hlt=>?_,fun hge=>?_⟩
 ·simp[zg,zh,hlt];refine⟨fun ht=>?_,fun hf=>?_⟩
  ·simp[zi];exact(ac2 hlt (fun j h=>hj j h (by omega)) (by simpa using ht.symm)).symm
  ·simp[zj];rw[aD (by omega)];refine FD (i+1) (by omega) ⟨by omega,fun j h h'=>?_⟩ Wk.li;by_cases e:j=i
   ·subst e;simpa using fun h=>hf h.symm
   ·simpa using hj j (by omega) h'
 ·have:idx (fun y=>y==x) l = -1:=JD fun j h=>hj j (by omega) h;simp[this]
theorem aDZ (s p:List UInt8):(Lib.trimSuffix s p).length<=s.length:=by
 unfold Lib.trimSuffix;split
 ·rw[List.length_take];omega
 ·exact Nat.le_refl _
theorem axy (s p:List UInt8) (hs:s.length<=1000000):di Qq [S s,S p] (.tup [S (Lib.trimSuffix s p),B (Lib.hasSuffix s p)]):=by
 have h:=fun w=>Tryz.strings_CutSuffix (bs s) (bs p) w (by rw[aBB];omega);rw[Fm,Fm] at h;refine aa.same (vs:=[.string (bs s),.string (bs p)]) (y:=.tuple #[.string (bs (Lib.trimSuffix s p)),.bool (Lib.hasSuffix s p)]) (by kernel_rfl) (fun w D=>?_) (fun w _ _=>h w);have h1:=ayA (s:=Lib.trimSuffix s p) (by have:=aDZ s p;omega);simp only[CV,iU];exact⟨_,rfl,_,_,[],[],rfl,rfl,⟨rfl,h1,rfl⟩,_,_,[],[],rfl,rfl,⟨rfl,rfl,rfl⟩,rfl,rfl⟩
theorem aix {s c:List UInt8} {i:Nat}:Lib.occAt s c i=((s.drop i).take c.length==c):=by
 unfold Lib.occAt;rw[Bool.eq_iff_iff,List.isPrefixOf_iff_prefix,beq_iff_eq];exact⟨fun ⟨t,h⟩=>by rw[<- h,List.take_left],aLj⟩
theorem aCZ (s c:List UInt8):Lib.index s c=match Z8 c s with | some i=>(i:Int) | none => -1:=by
 unfold Z8;cases h:(List.range (s.length+1)).find? (fun i=>(s.drop i).take c.length==c) with
 | none =>
   refine Lib.index_none fun j hj=>?_;rw[aix];have:=List.find?_eq_none.1 h j (List.mem_range.2 (by omega));simpa using this
 | some i =>
   obtain ⟨h1,ul,ur,h2,h3⟩:=List.find?_eq_some_iff_append.1 h;have hi:i < s.length+1:=List.mem_range.1 (by rw[h2];simp)
   have hl:ul.length=i:=by
    have h4:(List.range (s.length+1))[ul.length]?=some i:=by rw[h2];simp
    have hlt:=(List.getElem?_eq_some_iff.1 h4).1;rw[List.length_range] at hlt;rw[List.getElem?_range hlt] at h4;exact Option.some.inj h4
   refine Lib.index_first (by omega) (by rw[aix];exact h1) fun j hj=>?_;rw[aix]
   have hm:j ∈ ul:=by
    have h5:(List.range (s.length+1))[j]?=some j:=List.getElem?_range (by omega);rw[h2,List.getElem?_append_left (by omega)] at h5;exact List.mem_of_getElem? h5
   have:=h3 j hm;simpa using this
theorem aS8 (s c:List UInt8):Lib.cut s c=(me c s,jB c s,(Z8 c s).isSome):=by
 unfold Lib.cut me jB;rw[aCZ];cases Z8 c s with
 | none=>simp
 | some i=>simp
theorem ye (c s:List UInt8):(me c s).length<=s.length:=by
 unfold me;split<;>simp;omega
theorem qi (c s:List UInt8):(jB c s).length<=s.length:=by
 unfold jB;split<;>simp
theorem AO (s c:List UInt8) (hs:s.length<=1000000):di gL [S s,S c] (.tup [S (me c s),S (jB c s),B (Z8 c s).isSome]):=by
 refine aa.drawn (vs:=[.string (bs s),.string (bs c)]) (y:=.tuple #[.string (bs (me c s)),.string (bs (jB c s)),.bool (Z8 c s).isSome]) (by kernel_rfl) (fun w D=>?_) (fun w D hg=>?_)
 ·have h1:=ayA (s:=me c s) (by have:=ye c s;omega);have h2:=ayA (s:=jB c s) (by have:=qi c s;omega);simp only[CV,iU];exact⟨_,rfl,_,_,[],[],rfl,rfl,⟨rfl,h1,rfl⟩,_,_,[],[],rfl,rfl,⟨rfl,h2,rfl⟩,_,_,[],[],rfl,rfl,⟨rfl,rfl,rfl⟩,rfl,rfl⟩
 ·obtain ⟨m,hm⟩:=hg.2.2.1.1;have h:=Tryz.strings_Cut (bs s) (bs c) m w (by rw[aBB];omega) hm;rw[Fm,Fm,aS8] at h;refine h.mono ?_;rintro e w' ⟨rfl,n,rfl⟩;exact⟨rfl,rfl,rfl,rfl,rfl⟩
theorem ad9 (s c:List UInt8) (hs:s.length<=1000000) (hc:c.length<=1000) (hc0:c≠[]):di Fw [S s,S c] (.tup [S (me c s),S (jB c s),B (Z8 c s).isSome]):=by
 have hp:0 < c.length:=List.length_pos_iff.2 hc0;refine aa.of aKJ (by simp) ?_;simp[aE7,aAt,aAu,ak9];refine dl (fun i:Nat=>⟨[(0,S s),(1,S c),(7,I i)],[],[]⟩) (fun i=>s.length+1 - i) (fun i=>i<=s.length/\∀ j,j < i->Lib.occAt s c j=false) 0 Wk.li (by simp) ?_;rintro i ⟨hi,hj⟩ K hN hR hE;simp[aAv,azR];rw[aD (by omega)];refine⟨fun hlt=>?_,fun hge=>?_⟩
 ·simp[aAw];rw[aD (by omega)];rw[show ((i:Int)+c.length).toNat - i=c.length by omega];refine⟨by omega,?_⟩;refine⟨fun ht=>?_,fun hf=>?_⟩
  ·have hix:Lib.index s c=i:=Lib.index_first (by omega) (by rw[aix];simpa using ht) hj;rw[aCZ] at hix
   have ha:Z8 c s=some i:=by
    cases e:Z8 c s with
    | none=>rw[e] at hix;simp at hix
    | some k=>rw[e] at hix;simp at hix;exact congrArg some (by omega)
   have e1:me c s=s.take i:=by unfold me;rw[ha]
   have e2:jB c s=s.drop (i+c.length):=by unfold jB;rw[ha]
   simp[aAx,azX];rw[aD (by omega),show ((i:Int)+c.length).toNat=i+c.length by omega];refine⟨by omega,by omega,a7 (by first | kernel_rfl | simp) (by first | kernel_rfl | simp),hR _ ?_⟩;rw[e1,e2,ha];simp;exact List.take_of_length_le (by simp)
  ·simp[aAy];rw[aD (by omega)];refine hN (i+1) _ (by omega) ⟨by omega,fun j h=>?_⟩ Wk.li;by_cases e:j=i
   ·subst e;rw[aix];simpa using hf
   ·exact hj j (by omega)
 ·refine hE _ _ ?_
  have hix:Lib.index s c = -1:=Lib.index_none fun j hjl=>by
   by_cases e:j < i
   ·exact hj j e
   ·have hnr:Lib.occAt s c j≠true:=fun h=>by
     rcases Lib.occAt_room h with h | h
     ·omega
     ·exact hc0 h
    simpa using hnr
  rw[aCZ] at hix
  have ha:Z8 c s=none:=by
   cases e:Z8 c s with
   | none=>rfl
   | some k=>rw[e] at hix;simp at hix
  have e1:me c s=s:=by unfold me;rw[ha]
  have e2:jB c s=[]:=by unfold jB;rw[ha]
  rw[e1,e2,ha];simp[ak9]
def axT (s:List UInt8):Field:=if cN (FV s)=true/\dS (FV s)=s then FV s else ⟨0,0,0,0⟩
def TE (s:List UInt8):Group :=
 if ((parts 32 s).length=3\/(parts 32 s).length=4)/\bQ (HQ (parts 32 s))=true/\mP (HQ (parts 32 s))=s then HQ (parts 32 s) else ⟨0,0,0,0⟩
def aue (c:Int×Int×Int):Bool:=fV c.1 1 7&&fV c.2.1 0 4&&fV c.2.2 1 9
def aNF (c:Int×Int×Int):List UInt8:=rI c.1 c.2.1++32::eL c.2.2
def auf (s:List UInt8):Int×Int×Int :=
 if ((parts 32 s).length=3\/(parts 32 s).length=4)/\aue (aiz (parts 32 s))=true/\aNF (aiz (parts 32 s))=s then aiz (parts 32 s) else (0,0,0)
theorem aM1 {f:Field} (h:cN f=true):axT (dS f)=f:=by
 unfold axT;rw[aFh h,if_pos ⟨h,rfl⟩]
theorem aNa {g:Group} (h:bQ g=true):TE (mP g)=g:=by
 obtain ⟨h1,h2⟩:=aM9 h;unfold TE;rw[h2,if_pos ⟨by rw[h1];split<;>simp,h,rfl⟩]
theorem aRL {o l x:Int} (ho:1<=o/\o<=7) (hl:0<=l/\l<=4) (hx:fV x 1 9=true):auf (rI o l++32::eL x)=(o,l,x):=by
 obtain ⟨h1,h2⟩:=aRK ho hl hx;unfold auf;rw[h2,if_pos ⟨by rw[h1];split<;>simp,by simp only[aue,Bool.and_eq_true,db];exact⟨⟨ho,hl⟩,db.1 hx⟩,rfl⟩]
theorem aKK:TE []=⟨0,0,0,0⟩:=by decide +kernel
theorem aPZ:auf []=(0,0,0):=by decide +kernel
def anz (s:List UInt8):Arms :=
 ⟨axT (bI s).field,(auf (bI s).ord).1,(auf (bI s).ord).2.1,(auf (bI s).ord).2.2,TE (bI s).on,TE (bI s).around⟩
def ael (s:List UInt8):Option Arms:=if arms (anz s)=true/\nL (anz s)=s then some (anz s) else none
theorem azJ {g:Group} (h:g0 g=false->bQ g=true):TE (rU g)=g:=by
 unfold rU;split
 ·rename_i e;rw[aKK];simp only[g0,Bool.and_eq_true,beq_iff_eq] at e;exact(Group.eq_iff _ _).2 ⟨e.1.symm,e.2.1.symm,e.2.2.1.symm,e.2.2.2.symm⟩
 ·rename_i e;exact aNa (h (by simpa using e))
theorem amR {a:Arms} (ha:arms a=true) (h0:a.ordinary=0):a.line=0/\a.tincture=0/\g0 a.on=true:=by
 simp only[arms,Bool.and_eq_true] at ha;have:=ha.2;rw[if_pos h0] at this;simp only[Bool.and_eq_true,beq_iff_eq] at this;exact⟨this.1.1,this.1.2,this.2⟩
theorem aOQ {a:Arms} (h:arms a=true):anz (nL a)=a:=by
 obtain ⟨ho,hn,hr⟩:=mM h;unfold anz;rw[aLI h];dsimp only;rw[aM1 (gM h),azJ hn,azJ hr];by_cases h0:a.ordinary=0
 ·obtain ⟨z1,z2,_⟩:=amR h h0;rw[show H5 a=[] from if_pos h0,aPZ];exact(Arms.eq_iff _ _).2 ⟨rfl,h0.symm,z1.symm,z2.symm,rfl,rfl⟩
 ·obtain ⟨g2,g3⟩:=ho.2.2.2 h0;rw[show H5 a=rI a.ordinary a.line++32::eL a.tincture from if_neg h0,aRL (by omega) g2 g3]
theorem aMH {s:List UInt8} {a:Arms}:ael s=some a↔arms a=true/\nL a=s:=by
 unfold ael;constructor
 ·intro h;split at h
  ·rename_i e;injection h with h
   subst h;exact e
  ·cases h
 ·rintro ⟨h1,rfl⟩;rw[aOQ h1,if_pos ⟨h1,rfl⟩]
structure Slot where
 mode:Int
 number:Int
 deriving DecidableEq
def dF (s:Slot):Bool:=if s.mode=1 then fV s.number 1 9 else if s.mode=3 then fV s.number 1 3 else fV s.mode 2 5&&s.number==0
def aNz:List (List UInt8):=[[102,105,114,115,116],[115,101,99,111,110,100],[116,104,105,114,100]]
def aob:List UInt8:=[111,102,32,116,104,101,32]
def D8 (s:Slot):List UInt8 :=
 if s.mode=1 then eL s.number else if s.mode=2 then aob++[102,105,101,108,100] else if s.mode=3 then aob++aNz.getD (s.number - 1).toNat [] else aob++[108,97,115,116]
def dR (s:Slot):List UInt8:=if fV s.mode 1 4 then 32::D8 s else []
def jv:List Slot:=[⟨1,1⟩,⟨1,2⟩,⟨1,3⟩,⟨1,4⟩,⟨1,5⟩,⟨1,6⟩,⟨1,7⟩,⟨1,8⟩,⟨1,9⟩]
def jF:List Slot:=[⟨2,0⟩,⟨3,1⟩,⟨3,2⟩,⟨3,3⟩,⟨4,0⟩]
theorem axt {s:Slot} (h:dF s=true) (h5:s.mode≠5):s ∈ jv\/s ∈ jF:=by
 obtain ⟨m,n⟩:=s;unfold dF at h;dsimp only at h h5;split at h
 ·rename_i e;subst e;have hn:=db.1 h;have:∀ i:Nat,i < 9->(⟨1,(i:Int)+1⟩:Slot) ∈ jv:=by decide
  have:=this (n - 1).toNat (by omega);rw[show (((n - 1).toNat:Nat):Int)+1=n by omega] at this;exact .inl this
 ·split at h
  ·rename_i e;subst e;have hn:=db.1 h;have:∀ i:Nat,i < 3->(⟨3,(i:Int)+1⟩:Slot) ∈ jF:=by decide
   have:=this (n - 1).toNat (by omega);rw[show (((n - 1).toNat:Nat):Int)+1=n by omega] at this;exact .inr this
  ·simp only[Bool.and_eq_true,beq_iff_eq] at h;obtain ⟨h1,rfl⟩:=h;have hm:=db.1 h1;have:m=2\/m=4:=by omega
   rcases this with rfl | rfl<;>exact .inr (by decide)
def NY (s:List UInt8):List UInt8:=(parts 32 s).getLastD []
theorem aK0 {u w:List UInt8} (h:(32:UInt8) ∉ w):NY (u++32::w)=w:=by
 unfold NY;rw[eW,eC h,List.getLastD_concat]
theorem aNZ:(jv++jF).all (fun s=>(dR s==((dR s).take ((dR s).length - (NY (D8 s)).length - 1))++32::NY (D8 s))&&!((NY (D8 s)).contains 32))=true:=by decide +kernel
theorem aLB:(jv++jF).all (fun s=>(jv++jF).all fun t=>(NY (D8 s) != NY (D8 t))||s==t)=true:=by decide +kernel
theorem aC6 {s:Slot} (h:s ∈ jv++jF) (u:List UInt8):NY (u++dR s)=NY (D8 s):=by
 have:=List.all_eq_true.1 aNZ s h;simp only[Bool.and_eq_true,beq_iff_eq,Bool.not_eq_true',List.contains_eq_mem,decide_eq_false_iff_not] at this;rw[this.1,<- List.append_assoc];exact aK0 this.2
def aLd (x:List UInt8):Prop:=∀ s ∈ jv++jF,NY x≠NY (D8 s)
def lE (L:List Slot) (p:List UInt8):List UInt8×Slot :=
 match L.find? (fun s=>(dR s).isSuffixOf p) with
 | some s=>(p.take (p.length - (dR s).length),s)
 | none=>(p,⟨5,0⟩)
theorem aBD {L:List Slot} (hL:∀ s,s ∈ L↔s ∈ jv++jF) {x:List UInt8} (hx:aLd x) {s:Slot} (hs:dF s=true):lE L (x++dR s)=(x,s):=by
 unfold lE
 have huniq:∀ t ∈ L,(dR t).isSuffixOf (x++dR s)=true->NY (x++dR s)=NY (D8 t):=fun t ht h=>by
  obtain ⟨u,hu⟩:=List.isSuffixOf_iff_suffix.1 h;rw[<- hu];exact aC6 ((hL t).1 ht) u
 by_cases h5:s.mode=5
 ·have e:dR s=[]:=by unfold dR;rw[h5];rfl
  have es:s=⟨5,0⟩:=by
   obtain ⟨m,n⟩:=s;dsimp only at h5;subst h5;have hs:fV 5 2 5=true/\n=0:=by simpa [dF] using hs
   simp only[Slot.mk.injEq,true_and];exact hs.2
  rw[e,List.append_nil] at huniq ⊢
  have:L.find? (fun s=>(dR s).isSuffixOf x)=none:=by
   refine List.find?_eq_none.2 fun t ht h=>?_;exact hx t ((hL t).1 ht) (huniq t ht h)
  rw[this,es]
 ·have hm:s ∈ jv++jF:=List.mem_append.2 (axt hs h5);cases hf:L.find? (fun t=>(dR t).isSuffixOf (x++dR s)) with
  | none =>
    exact absurd (List.isSuffixOf_iff_suffix.2 (List.suffix_append x (dR s))) (List.find?_eq_none.1 hf s ((hL s).2 hm))
  | some t =>
    have ht:=List.mem_of_find?_eq_some hf;have h1:=huniq t ht (List.find?_some (p:=fun t=>(dR t).isSuffixOf (x++dR s)) hf);rw[aC6 hm] at h1;have h2:=List.all_eq_true.1 (List.all_eq_true.1 aLB s hm) t ((hL t).1 ht);rw[Bool.or_eq_true] at h2
    have h3:s=t:=by
     rcases h2 with h2 | h2
     ·simp[h1] at h2
     ·simpa using h2
    subst h3;simp
theorem aMK:((List.range 6).all fun c=>(List.range 8).all fun k=>(List.range 3).all fun a=>(jv++jF).all fun s=>NY (aBN c k a) != NY (D8 s))=true:=by decide +kernel
theorem aP0:((List.range 7).all fun d=>(List.range 5).all fun l=>(jv++jF).all fun s=>NY (aPU d l) != NY (D8 s))=true:=by decide +kernel
theorem azV {g:Group} (h:bQ g=true):aLd (jK g):=by
 obtain ⟨h1,h2,h3,h4⟩:=jM h;intro s hs;have:=List.all_eq_true.1 (pM (pM (pM aMK (i:=(g.count - 1).toNat) (by omega)) (i:=(g.kind - 1).toNat) (by omega)) (i:=g.attitude.toNat) (by omega)) s hs
 have e:aBN (g.count - 1).toNat (g.kind - 1).toNat g.attitude.toNat=jK g:=by
  unfold aBN jK;dsimp only;rw[show (((g.kind - 1).toNat:Nat):Int)+1=g.kind by omega,show (((g.count - 1).toNat:Nat):Int)+1=g.count by omega,show ((g.attitude.toNat:Nat):Int)=g.attitude by omega]
 rw[e] at this;simpa using this
theorem aDe {o l:Int} (ho:1<=o/\o<=7) (hl:0<=l/\l<=4):aLd (rI o l):=by
 intro s hs;have:=List.all_eq_true.1 (pM (pM aP0 (i:=(o - 1).toNat) (by omega)) (i:=l.toNat) (by omega)) s hs
 have e:aPU (o - 1).toNat l.toNat=rI o l:=by
  unfold aPU rI;rw[show ((l.toNat:Nat):Int)=l by omega];rfl
 rw[e] at this;simpa using this
structure Sk where
 arms:Arms
 slots:List Slot
 deriving DecidableEq
def nO (a:Arms):Nat:=if a.ordinary=0 then 0 else 1
def nN (a:Arms):Nat:=if g0 a.on=true then 0 else 1
def nR (a:Arms):Nat:=if g0 a.around=true then 0 else 1
def fX:Slot:=⟨5,0⟩
def ahZ (a:Arms):Bool:=(a.ordinary==0||a.tincture==1)&&(g0 a.on||a.on.tincture==1)&&(g0 a.around||a.around.tincture==1)
def bM (k:Sk):Bool:=arms k.arms&&(k.slots.all dF&&(decide (k.slots.length=nO k.arms+nN k.arms+nR k.arms)&&(ahZ k.arms&&!(k.slots.length != 0&&(k.slots.getLastD fX).mode==5))))
def oP (a:Arms) (s:Slot):List UInt8:=if a.ordinary=0 then [] else rI a.ordinary a.line++dR s
def gP (g:Group) (s:Slot):List UInt8:=if g0 g=true then [] else jK g++dR s
def Z1 (k:Sk):List UInt8:=oP k.arms (k.slots.getD 0 fX)
def skN (k:Sk):List UInt8:=gP k.arms.on (k.slots.getD (nO k.arms) fX)
def VD (k:Sk):List UInt8:=gP k.arms.around (k.slots.getD (nO k.arms+nN k.arms) fX)
def bH (k:Sk):List UInt8:=lY (dS k.arms.field) (Z1 k) (skN k) (VD k) (decide (k.arms.ordinary=7))
theorem aD4 {s:Slot} (h:dF s=true):dR s=[]\/∃ x,dR s=32::x/\ky x:=by
 by_cases h5:s.mode=5
 ·left;unfold dR;rw[h5];rfl
 ·right;have hm:=List.mem_append.2 (axt h h5);have:∀ s ∈ jv++jF,dR s=32::D8 s/\∀ w ∈ parts 32 (D8 s),w ∈ axC:=by decide +kernel
  exact⟨_,this s hm⟩
theorem aBO (g:Group):jK g≠[]:=by simp[jK]
theorem aG7 (o l:Int):rI o l≠[]:=by unfold rI C0;split<;>simp
theorem aGI {g:Group} {s:Slot} (h:g0 g=false->bQ g=true/\dF s=true):gP g s=[]\/(ky (gP g s)/\vF (gP g s)=false):=by
 unfold gP;split
 ·exact .inl rfl
 ·rename_i e;obtain ⟨hg,hs⟩:=h (by simpa using e);right;rcases aD4 hs with e | ⟨x,e,hx⟩
  ·rw[e,List.append_nil];exact⟨aD3 hg,(TJ hg []).1⟩
  ·rw[e];exact⟨(aD3 hg).two hx,(TJ hg x).2⟩
theorem uR {k:Sk} (h:bM k=true):arms k.arms=true/\(∀ s ∈ k.slots,dF s=true)/\k.slots.length=nO k.arms+nN k.arms+nR k.arms/\ahZ k.arms=true/\(k.slots≠[]->(k.slots.getLastD fX).mode≠5):=by
 simp only[bM,Bool.and_eq_true,List.all_eq_true,decide_eq_true_eq,Bool.not_eq_true',Bool.and_eq_false_iff,bne_eq_false_iff_eq,beq_eq_false_iff_ne] at h;obtain ⟨h1,h2,h3,h4,h5⟩:=h;refine⟨h1,h2,h3,h4,fun hne=>?_⟩;rcases h5 with h5 | h5
 ·exact absurd (List.eq_nil_of_length_eq_zero h5) hne
 ·exact h5
theorem Ho {l:List Slot} (h:∀ s ∈ l,dF s=true) {i:Nat} (hi:i < l.length):dF (l.getD i fX)=true:=by
 rw[List.getD_eq_getElem?_getD,List.getElem?_eq_getElem hi];exact h _ (List.getElem_mem hi)
theorem aHs {k:Sk} (h:bM k=true):bI (bH k)=⟨dS k.arms.field,Z1 k,skN k,VD k,decide (k.arms.ordinary=7)⟩:=by
 obtain ⟨ha,hs,hl,_,_⟩:=uR h;obtain ⟨ho,hn,hr⟩:=mM ha;have hN:skN k=[]\/(ky (skN k)/\vF (skN k)=false):=aGI fun e=>⟨hn e,Ho hs (by rw[hl];unfold nN;simp[e];omega)⟩;have hR:VD k=[]\/(ky (VD k)/\vF (VD k)=false):=aGI fun e=>⟨hr e,Ho hs (by rw[hl];unfold nR;simp[e])⟩;unfold bH;by_cases h0:k.arms.ordinary=0
 ·refine LQ (k:=k.arms.ordinary) (l:=0) (x:=[]) (S8 (gM ha)) (.inl h0) (by omega) (.inl ⟨h0,by simp[Z1,oP,h0],by simp[skN,gP,ho.2.2.1 h0]⟩) (hN.imp id And.left) hR
 ·obtain ⟨g2,g3⟩:=ho.2.2.2 h0;have hso:=Ho hs (i:=0) (by rw[hl];unfold nO;simp[h0];omega);have e0:Z1 k=rI k.arms.ordinary k.arms.line++dR (k.slots.getD 0 fX):=if_neg h0;rcases aD4 hso with e | ⟨x,e,hx⟩
  ·exact LQ (k:=k.arms.ordinary) (l:=k.arms.line) (x:=[]) (S8 (gM ha)) (.inr (by omega)) g2 (.inr ⟨h0,.inl (by rw[e0,e,List.append_nil])⟩) (hN.imp id And.left) hR
  ·exact LQ (k:=k.arms.ordinary) (l:=k.arms.line) (x:=x) (S8 (gM ha)) (.inr (by omega)) g2 (.inr ⟨h0,.inr ⟨by rw[e0,e],hx⟩⟩) (hN.imp id And.left) hR
def iX:List Slot:=jF++jv
def o6:List UInt8:=[32,103,111,108,100]
def fS (p:List UInt8):List UInt8:=if p=[] then [] else (lE iX p).1++o6
def lQ (p:List UInt8):List Slot:=if p=[] then [] else [(lE iX p).2]
def skC (s:List UInt8):Sk :=
 ⟨(ael (lY (bI s).field (fS (bI s).ord) (fS (bI s).on) (fS (bI s).around) (bI s).chief)).getD ⟨⟨0,0,0,0⟩,0,0,0,⟨0,0,0,0⟩,⟨0,0,0,0⟩⟩,
   lQ (bI s).ord++lQ (bI s).on++lQ (bI s).around⟩
theorem aDO (s:Slot):s ∈ iX↔s ∈ jv++jF:=by
 unfold iX;rw[List.mem_append,List.mem_append];exact or_comm
theorem aIK {g:Group} {s:Slot} (h:g0 g=false->bQ g=true/\dF s=true) (hg:(g0 g||g.tincture==1)=true):fS (gP g s)=rU g/\lQ (gP g s)=if g0 g=true then [] else [s]:=by
 unfold gP fS lQ rU;cases e:g0 g with
 | true=>simp
 | false =>
   obtain ⟨h1,h2⟩:=h e;rw[e,Bool.false_or,beq_iff_eq] at hg;have hne:¬jK g++dR s=[]:=fun hh=>aBO g (List.append_eq_nil_iff.1 hh).1;simp only[Bool.false_eq_true,if_false,if_neg hne,aBD aDO (azV h1) h2,V5,hg];exact⟨rfl,trivial⟩
theorem aPk {a:Arms} {s:Slot} (h:a.ordinary≠0->(1<=a.ordinary/\a.ordinary<=7)/\(0<=a.line/\a.line<=4)/\dF s=true) (hg:(a.ordinary==0||a.tincture==1)=true) :
  fS (oP a s)=H5 a/\lQ (oP a s)=if a.ordinary=0 then [] else [s]:=by
 unfold oP fS lQ H5;by_cases e:a.ordinary=0
 ·simp[e]
 ·obtain ⟨h1,h2,h3⟩:=h e;have hg:a.tincture=1:=by simpa [e] using hg
  have hne:¬rI a.ordinary a.line++dR s=[]:=fun hh=>aG7 _ _ (List.append_eq_nil_iff.1 hh).1;simp only[e,if_false,if_neg hne,aBD aDO (aDe h1 h2) h3,hg];exact⟨rfl,trivial⟩
theorem aTS {k:Sk} (h:bM k=true):skC (bH k)=k:=by
 obtain ⟨ha,hs,hl,hg,_⟩:=uR h;obtain ⟨ho,hn,hr⟩:=mM ha;simp only[ahZ,Bool.and_eq_true] at hg;obtain ⟨⟨g1,g2⟩,g3⟩:=hg;obtain ⟨o1,o2⟩:=aPk (a:=k.arms) (s:=k.slots.getD 0 fX) (fun h0=>⟨by omega,(ho.2.2.2 h0).1,Ho hs (by rw[hl];unfold nO;simp[h0];omega)⟩) g1;obtain ⟨n1,n2⟩:=aIK (g:=k.arms.on) (s:=k.slots.getD (nO k.arms) fX) (fun e=>⟨hn e,Ho hs (by rw[hl];unfold nN;simp[e];omega)⟩) g2;obtain ⟨r1,r2⟩:=aIK (g:=k.arms.around) (s:=k.slots.getD (nO k.arms+nN k.arms) fX) (fun e=>⟨hr e,Ho hs (by rw[hl];unfold nR;simp[e])⟩) g3;unfold skC;rw[aHs h];dsimp only[Z1,skN,VD];rw[o1,n1,r1,o2,n2,r2,<- Sl ha,aMH.2 ⟨ha,rfl⟩];obtain ⟨a,l⟩:=k;dsimp only at *;rw[Option.getD_some];congr 1;unfold nO nN nR at *;by_cases e1:a.ordinary=0<;>by_cases e2:g0 a.on=true<;>by_cases e3:g0 a.around=true<;>simp only[e1,e2,e3,if_true,if_false] at hl ⊢
 all_goals (rcases l with _ | ⟨x,_ | ⟨y,_ | ⟨z,_ | ⟨w,t⟩⟩⟩⟩<;>first | rfl | (exfalso;simp at hl;done) | (exfalso;simp only[List.length_cons,List.length_nil] at hl;omega))
def xY (s:List UInt8):Option Sk:=if bM (skC s)=true/\bH (skC s)=s then some (skC s) else none
theorem ams {s:List UInt8} {k:Sk}:xY s=some k↔bM k=true/\bH k=s:=by
 unfold xY;constructor
 ·intro h;split at h
  ·rename_i e;injection h with h
   subst h;exact e
  ·cases h
 ·rintro ⟨h1,rfl⟩;rw[aTS h1,if_pos ⟨h1,rfl⟩]
def rB (s:List UInt8):Option Field:=if cN (FV s)=true/\dS (FV s)=s then some (FV s) else none
theorem Tq {s:List UInt8} {f:Field}:rB s=some f↔cN f=true/\dS f=s:=by
 unfold rB;constructor
 ·intro h;split at h
  ·rename_i e;injection h with h
   subst h;exact e
  ·cases h
 ·rintro ⟨h1,rfl⟩;rw[aFh h1,if_pos ⟨h1,rfl⟩]
def aHN:List Group:=((List.range 6).flatMap fun c:Nat=>(List.range 8).flatMap fun k:Nat=>(List.range 3).map fun a:Nat=>(⟨(c:Int)+1,(k:Int)+1,(a:Int),1⟩:Group)).filter bQ
theorem axM {g:Group}:g ∈ aHN↔bQ g=true/\g.tincture=1:=by
 unfold aHN;rw[List.mem_filter];constructor
 ·rintro ⟨h1,h2⟩;refine⟨h2,?_⟩;simp only[List.mem_flatMap,List.mem_map] at h1;obtain ⟨_,_,_,_,_,_,rfl⟩:=h1;rfl
 ·rintro ⟨h1,h2⟩;refine⟨?_,h1⟩;obtain ⟨c1,c2,c3,c4⟩:=jM h1;simp only[List.mem_flatMap,List.mem_map,List.mem_range];refine⟨(g.count - 1).toNat,by omega,(g.kind - 1).toNat,by omega,g.attitude.toNat,by omega,?_⟩;obtain ⟨c,k,a,t⟩:=g;dsimp only at *;simp only[Group.mk.injEq];omega
def Eg (s:List UInt8):Option Group:=aHN.find? fun g=>jK g==s
theorem aE0 {s:List UInt8} {g:Group}:Eg s=some g↔(bQ g=true/\g.tincture=1)/\jK g=s:=by
 unfold Eg;constructor
 ·intro h;have h1:=List.find?_some h;exact⟨axM.1 (List.mem_of_find?_eq_some h),by simpa using h1⟩
 ·rintro ⟨h1,h2⟩;cases e:aHN.find? (fun g=>jK g==s) with
  | none=>exact absurd (by simpa using h2) (List.find?_eq_none.1 e g (axM.2 h1))
  | some m =>
    have m1:=axM.1 (List.mem_of_find?_eq_some e);have m2:=List.find?_some e;have m3:jK m=jK g:=by rw[h2];simpa using m2
    obtain ⟨e1,e2,e3⟩:=aOV m1.1 h1.1 m3;congr 1;exact(Group.eq_iff _ _).2 ⟨e1,e2,e3,m1.2.trans h1.2.symm⟩
def aiA:List (Int×Int):=(List.range 7).flatMap fun o:Nat=>(List.range 5).map fun l:Nat=>((o:Int)+1,(l:Int))
theorem ayD {p:Int×Int}:p ∈ aiA↔(1<=p.1/\p.1<=7)/\(0<=p.2/\p.2<=4):=by
 unfold aiA;simp only[List.mem_flatMap,List.mem_map,List.mem_range];constructor
 ·rintro ⟨o,ho,l,hl,rfl⟩;dsimp only;omega
 ·rintro ⟨h1,h2⟩;refine⟨(p.1 - 1).toNat,by omega,p.2.toNat,by omega,?_⟩;obtain ⟨a,b⟩:=p;dsimp only at *;simp only[Prod.mk.injEq];omega
def aLf (s:List UInt8):Option (Int×Int):=aiA.find? fun p=>rI p.1 p.2==s
theorem aPW {s:List UInt8} {p:Int×Int}:aLf s=some p↔((1<=p.1/\p.1<=7)/\(0<=p.2/\p.2<=4))/\rI p.1 p.2=s:=by
 unfold aLf;constructor
 ·intro h;have h1:=List.find?_some h;exact⟨ayD.1 (List.mem_of_find?_eq_some h),by simpa using h1⟩
 ·rintro ⟨h1,h2⟩;cases e:aiA.find? (fun p=>rI p.1 p.2==s) with
  | none=>exact absurd (by simpa using h2) (List.find?_eq_none.1 e p (ayD.2 h1))
  | some m =>
    have m1:=ayD.1 (List.mem_of_find?_eq_some e);have m2:=List.find?_some e;have m3:rI m.1 m.2=rI p.1 p.2:=by rw[h2];simpa using m2
    obtain ⟨e1,e2⟩:=aRM m1.1 m1.2 h1.1 h1.2 m3;congr 1;exact Prod.ext e1 e2
def acU (c s:List UInt8):List UInt8×List UInt8×Bool:=(me c s,jB c s,(Z8 c s).isSome)
abbrev ary:List UInt8:=32::(kq++[32])
abbrev aAN:List UInt8:=32::(qa++[32])
abbrev chC:List UInt8:=32::(pA++32::(Sj++[32]))
def LZ (s:List UInt8):List UInt8×List UInt8×Bool:=if (Z8 ary s).isSome=true then acU ary s else acU aAN s
theorem aS7 {o n:List UInt8} (ho:ky o):acU chC (o++onS n)=(o,n,decide (n≠[])):=by
 have hc:pA ∉ parts 32 o:=fun h=>YV.2.2.1 (ho _ h);unfold onS;split
 ·rename_i h;subst h;have h0:=Wy (w:=pA) (c:=chC) (s:=o) (by decide) ⟨Sj++[32],by simp⟩ hc;rw[List.append_nil];unfold acU me jB;rw[h0];rfl
 ·rename_i hne
  have hf:∀ i,i < o.length->¬chC <+: (o++chC++n).drop i:=by
   have:=aDf (w:=pA) (c:=chC) (a:=o) (b:=pA++32::(Sj++[32])++n) (by decide) ⟨Sj++[32],by simp⟩ hc;simpa using this
  have h0:=Te hf;have h1:=Ip hf;unfold acU;simp only[List.append_assoc,List.cons_append,List.nil_append] at h0 h1 ⊢;rw[h1.1,h1.2,h0];simp[hne]
theorem aO6 {o n r:List UInt8} {c:Bool} (ho:ky o) (hn:n=[]\/ky n) (hr:r=[]\/ky r):LZ (o++onS n++arS c r)=(o++onS n,r,decide (r≠[])):=by
 have hw:=aKf ho hn
 have ha:qa ∉ parts 32 (o++onS n):=fun h=>by
  rcases hw _ h with h | h | h
  ·exact YV.2.1 h
  ·exact absurd h (by decide)
  ·exact absurd h (by decide)
 have hb:kq ∉ parts 32 (o++onS n):=fun h=>by
  rcases hw _ h with h | h | h
  ·exact YV.1 h
  ·exact absurd h (by decide)
  ·exact absurd h (by decide)
 generalize o++onS n=t at ha hb ⊢;unfold arS;split
 ·rename_i h;subst h;have h1:=Wy (w:=qa) (c:=aAN) (s:=t) (by decide) ⟨[],by simp⟩ ha;have h2:=Wy (w:=kq) (c:=ary) (s:=t) (by decide) ⟨[],by simp⟩ hb;rw[List.append_nil];unfold LZ acU me jB;rw[h1,h2];rfl
 ·rename_i hne;cases c with
  | false =>
    have hf:∀ i,i < t.length->¬ary <+: (t++ary++r).drop i:=by
     have:=aDf (w:=kq) (c:=ary) (a:=t) (b:=kq++32::r) (by decide) ⟨[],by simp⟩ hb;simpa using this
    have h0:=Te hf;have h1:=Ip hf;unfold LZ acU;simp only[List.append_assoc,List.cons_append,List.nil_append,Bool.false_eq_true,if_false] at h0 h1 ⊢;rw[h0,h1.1,h1.2];simp[hne]
  | true =>
    have hn2:kq ∉ parts 32 (t++32::(qa++32::r)):=by
     rw[eW,eW];simp only[List.mem_append];rintro (h | h | h)
     ·exact hb h
     ·exact absurd h (by decide)
     ·exact YV.1 (hr.resolve_left hne _ h)
    have h2:=Wy (w:=kq) (c:=ary) (by decide) ⟨[],by simp⟩ hn2
    have hf:∀ i,i < t.length->¬aAN <+: (t++aAN++r).drop i:=by
     have:=aDf (w:=qa) (c:=aAN) (a:=t) (b:=qa++32::r) (by decide) ⟨[],by simp⟩ ha;simpa using this
    have h0:=Te hf;have h1:=Ip hf;unfold LZ acU;simp only[List.append_assoc,List.cons_append,List.nil_append,if_true] at h0 h1 h2 ⊢;rw[h2,h0,h1.1,h1.2];simp[hne]
theorem aQ0 {c s:List UInt8} {i:Nat} (h:Z8 c s=some i):s=me c s++c++jB c s:=by
 have h1:=List.find?_some h;have h1:(s.drop i).take c.length=c:=by simpa using h1
 unfold me jB;rw[h];dsimp only
 conv=>lhs;rw[<- List.take_append_drop i s,<- List.take_append_drop c.length (s.drop i),h1,List.drop_drop]
 rw[List.append_assoc]
theorem aMR (L:List Slot) (p:List UInt8):(lE L p).1++dR (lE L p).2=p:=by
 unfold lE;split
 ·rename_i s h;have h1:=List.find?_some (p:=fun s=>(dR s).isSuffixOf p) h;obtain ⟨u,hu⟩:=List.isSuffixOf_iff_suffix.1 h1;dsimp only;rw[<- hu];simp
 ·dsimp only;rw[show dR (⟨5,0⟩:Slot)=[] from rfl,List.append_nil]
def eT:List Slot:=jv++jF
theorem aDP (s:Slot):s ∈ eT↔s ∈ jv++jF:=Iff.rfl
def LI (s:List UInt8):Option (Group×Slot):=(Eg (lE eT s).1).map fun g=>(g,(lE eT s).2)
abbrev noG:Group:=⟨0,0,0,0⟩
def aAO (b:Bool) (t:List UInt8):Option (Group×List Slot):=if b=true then (LI t).map fun p=>(p.1,[p.2]) else some (noG,[])
def acQ (s:List UInt8) (k:Sk):Option Sk:=if bM k=true/\bH k=s then some k else none
def aFK (f:Field) (s rest:List UInt8):Option Sk :=
 (aLf (lE eT (acU chC (LZ rest).1).1).1).bind fun p =>
  (aAO (acU chC (LZ rest).1).2.2 (acU chC (LZ rest).1).2.1).bind fun q =>
   (aAO (LZ rest).2.2 (LZ rest).2.1).bind fun r =>
    acQ s ⟨⟨f,p.1,p.2,1,q.1,r.1⟩,[(lE eT (acU chC (LZ rest).1).1).2]++q.2++r.2⟩
def vf (s:List UInt8):Option Sk :=
 if 240 < s.length then none else
  (rB (me [44,32] s)).bind fun f =>
   if Z8 [44,32] s=none then some ⟨⟨f,0,0,0,noG,noG⟩,[]⟩ else
    match LI (jB [44,32] s) with
    | some p=>if bM ⟨⟨f,0,0,0,noG,p.1⟩,[p.2]⟩=true then some ⟨⟨f,0,0,0,noG,p.1⟩,[p.2]⟩ else none
    | none=>aFK f s (jB [44,32] s)
theorem aFJ {g:Group} {x:Slot} (hg:bQ g=true) (h1:g.tincture=1) (hx:dF x=true):LI (jK g++dR x)=some (g,x):=by
 unfold LI;rw[aBD aDP (azV hg) hx,aE0.2 ⟨⟨hg,h1⟩,rfl⟩];rfl
theorem aAB {t:List UInt8} {p:Group×Slot} (h:LI t=some p):(bQ p.1=true/\p.1.tincture=1)/\t=jK p.1++dR p.2:=by
 unfold LI at h;cases e:Eg (lE eT t).1 with
 | none=>rw[e] at h;cases h
 | some g =>
   rw[e] at h;injection h with h
   subst h;obtain ⟨h1,h2⟩:=aE0.1 e;refine⟨h1,?_⟩;dsimp only;rw[h2];exact(aMR _ _).symm
theorem aHV {s:List UInt8} {k m:Sk} (h:acQ s m=some k):bM k=true/\bH k=s:=by
 unfold acQ at h;split at h
 ·rename_i e;injection h with h
  subst h;exact e
 ·cases h
theorem aHg {s:List UInt8} {k:Sk} (h:vf s=some k):bM k=true/\bH k=s:=by
 unfold vf at h;split at h
 ·cases h
 cases e:rB (me [44,32] s) with
 | none=>rw[e] at h;cases h
 | some f =>
   obtain ⟨f1,f2⟩:=Tq.1 e;rw[e] at h;dsimp only[Option.bind] at h;split at h
   ·rename_i hn;injection h with h
    subst h;have e1:me [44,32] s=s:=by unfold me;rw[hn]
    refine⟨?_,?_⟩
    ·simp[bM,arms,f1,g0,nO,nN,nR,ahZ]
    ·simp only[bH,Z1,skN,VD,oP,gP,g0,lY];simp[f2,e1]
   ·rename_i hn;cases ha:Z8 [44,32] s with
    | none=>exact absurd ha hn
    | some i =>
    have es:=aQ0 ha;split at h
    ·rename_i p hp;split at h
     ·rename_i hok;injection h with h
      subst h;obtain ⟨⟨p1,p2⟩,p3⟩:=aAB hp;refine⟨hok,?_⟩
      have hg:g0 p.1=false:=by
       have:=(jM p1).1;unfold g0;rw[Bool.and_eq_false_iff];left;simp;omega
      have hne:¬jK p.1++dR p.2=[]:=fun hh=>aBO _ (List.append_eq_nil_iff.1 hh).1;simp only[bH,Z1,skN,VD,oP,gP,hg,lY,nO,nN];simp only[if_true,Bool.false_eq_true,if_false,show g0 noG=true from rfl,Nat.add_zero,List.getD_cons_zero,if_neg hne,f2];rw[<- p3];exact es.symm
     ·cases h
    ·unfold aFK at h;obtain ⟨p,hp,h⟩:=Option.bind_eq_some_iff.1 h;obtain ⟨q,hq,h⟩:=Option.bind_eq_some_iff.1 h;obtain ⟨r,hr,h⟩:=Option.bind_eq_some_iff.1 h;exact aHV h
theorem aMf {g:Group} (h:g0 g=true):g=noG:=by
 simp only[g0,Bool.and_eq_true,beq_iff_eq] at h;exact(Group.eq_iff _ _).2 ⟨h.1,h.2.1,h.2.2.1,h.2.2.2⟩
theorem aMg {g:Group} {x:Slot} (h:g0 g=false):gP g x≠[]:=by
 unfold gP;rw[h];exact fun hh=>aBO g (List.append_eq_nil_iff.1 (by simpa using hh)).1
theorem aL5 {g:Group} {x:Slot} (h:g0 g=false->bQ g=true/\dF x=true) (hg:(g0 g||g.tincture==1)=true):aAO (decide (gP g x≠[])) (gP g x)=some (g,if g0 g=true then [] else [x]):=by
 cases e:g0 g with
 | true =>
   have:=aMf e;subst this;rfl
 | false =>
   obtain ⟨h1,h2⟩:=h e;rw[e,Bool.false_or,beq_iff_eq] at hg;unfold aAO;rw[if_pos (decide_eq_true (aMg e))];have:gP g x=jK g++dR x:=by unfold gP;rw[e];rfl
   rw[this,aFJ h1 hg h2];rfl
theorem aNY (x:Slot):dR x=[]\/∃ y,dR x=32::y:=by
 unfold dR;split
 ·exact .inr ⟨_,rfl⟩
 ·exact .inl rfl
theorem aNW (x:Slot):(D8 x).length<=13:=by
 have h1:(eL x.number).length<=12:=mc _;have h2:(aNz.getD (x.number - 1).toNat []).length<=6:=um (by decide) _;have h3:aob.length=7:=rfl;unfold D8;split
 ·omega
 ·split
  ·simp[h3]
  ·split
   ·rw[List.length_append];omega
   ·simp[h3]
theorem ug (x:Slot):(dR x).length<=14:=by
 have:=aNW x;unfold dR;split
 ·simp only[List.length_cons];omega
 ·simp
theorem aeb (k:Sk):(bH k).length<=240:=by
 have t1:∀ x,(eL x).length<=6:=fun x=>um (by decide) _;have t2:∀ x,(L0 x).length<=9:=fun x=>um (by decide) _;have t3:∀ x,(axS x).length<=11:=fun x=>um (by decide) _;have t4:∀ x,(PH x).length<=7:=fun x=>um (by decide) _
 have t5:∀ t x,(C0 t x).length<=t.length+10:=fun t x=>by
  have:=t2 x;unfold C0;split
  ·omega
  ·simp only[List.length_append,List.length_cons];omega
 have t6:(dS k.arms.field).length<=39:=by
  unfold dS;have:=t1 k.arms.field.first
  have:=t1 k.arms.field.second;have:=t3 k.arms.field.division;have:=t5 (axS k.arms.field.division) k.arms.field.line;split
  ·omega
  ·simp only[List.length_append,List.length_cons,List.length_nil];omega
 have t7:∀ o l,(rI o l).length<=19:=fun o l=>by
  unfold rI;have:=t4 o;have:=t5 ([97,32]++PH o) l;simp only[List.length_append,List.length_cons,List.length_nil] at this;omega
 have t8:∀ g,(jK g).length<=40:=fun g=>by
  unfold jK;have:=acT g.count g.kind;have:=aau g.kind g.count;have:=asV g.kind (g.attitude - 1).toNat;split<;>simp only[List.length_append,List.length_cons,List.length_nil]<;>omega
 have t9:(Z1 k).length<=33:=by
  unfold Z1 oP;have:=ug (k.slots.getD 0 fX);have:=t7 k.arms.ordinary k.arms.line;split
  ·simp
  ·rw[List.length_append];omega
 have t10:∀ g x,(gP g x).length<=54:=fun g x=>by
  unfold gP;have:=ug x;have:=t8 g;split
  ·simp
  ·rw[List.length_append];omega
 have t11:=t10 k.arms.on (k.slots.getD (nO k.arms) fX);have t12:=t10 k.arms.around (k.slots.getD (nO k.arms+nN k.arms) fX);unfold bH lY
 change (skN k).length<=54 at t11
 change (VD k).length<=54 at t12
 split
 ·split
  ·omega
  ·simp only[List.length_append,List.length_cons,List.length_nil];omega
 ·split<;>split<;>(try split)<;>simp only[List.length_append,List.length_cons,List.length_nil]<;>omega
theorem aNO {k:Sk} (h:bM k=true):vf (bH k)=some k:=by
 obtain ⟨ha,hs,hl,hg,hlast⟩:=uR h;obtain ⟨ho,hn,hr⟩:=mM ha;simp only[ahZ,Bool.and_eq_true] at hg;obtain ⟨⟨g1,g2⟩,g3⟩:=hg;have hfv:=S8 (gM ha);have hcm:=aJp hfv;have hN0:g0 k.arms.on=false->bQ k.arms.on=true/\dF (k.slots.getD (nO k.arms) fX)=true:=fun e=>⟨hn e,Ho hs (by rw[hl];unfold nN;simp[e];omega)⟩;have hR0:g0 k.arms.around=false->bQ k.arms.around=true/\dF (k.slots.getD (nO k.arms+nN k.arms) fX)=true:=fun e=>⟨hr e,Ho hs (by rw[hl];unfold nR;simp[e])⟩;have hN:skN k=[]\/(ky (skN k)/\vF (skN k)=false):=aGI hN0;have hR:VD k=[]\/(ky (VD k)/\vF (VD k)=false):=aGI hR0;have hfo:rB (dS k.arms.field)=some k.arms.field:=Tq.2 ⟨gM ha,rfl⟩;unfold vf;rw[if_neg (by have:=aeb k;omega)];by_cases h0:k.arms.ordinary=0
 ·obtain ⟨z1,z2,z3⟩:=amR ha h0;have eO:Z1 k=[]:=if_pos h0;have eN:skN k=[]:=if_pos z3;cases e:g0 k.arms.around with
  | true =>
    have eR:VD k=[]:=if_pos e;have et:bH k=dS k.arms.field:=by unfold bH lY;rw[eO,eR];rfl
    have hnone:=aCs hcm;have e1:me [44,32] (bH k)=dS k.arms.field:=by unfold me;rw[et,hnone]
    rw[e1,hfo,et,hnone];dsimp only[Option.bind];rw[if_pos rfl];have:=aMf e;have:=aMf z3
    have e0:k.slots=[]:=by
     apply List.eq_nil_of_length_eq_zero;rw[hl];simp[nO,nN,nR,h0,z3,e]
    obtain ⟨a,l⟩:=k;dsimp only at *;subst e0;congr 2;exact(Arms.eq_iff _ _).2 ⟨rfl,h0.symm,z1.symm,z2.symm,by simp_all,by simp_all⟩
  | false =>
    obtain ⟨r1,r2⟩:=hR0 e;rw[e,Bool.false_or,beq_iff_eq] at g3
    have eR:VD k=jK k.arms.around++dR (k.slots.getD 0 fX):=by
     unfold VD gP nO nN;rw[e,if_pos h0,if_pos z3];rfl
    have eR0:VD k≠[]:=aMg e;have et:bH k=dS k.arms.field++[44,32]++VD k:=by unfold bH lY;rw[eO,if_pos rfl,if_neg eR0]
    have hat:=att (b:=VD k) hcm;have e1:me [44,32] (bH k)=dS k.arms.field:=by unfold me;rw[et,hat];simp
    have e2:jB [44,32] (bH k)=VD k:=by unfold jB;rw[et,hat];simp
    have r2':dF (k.slots.getD 0 fX)=true:=by
     have:nO k.arms+nN k.arms=0:=by simp[nO,nN,h0,z3]
     rw[this] at r2;exact r2
    rw[e1,e2,hfo,et,hat,eR,aFJ r1 g3 r2'];dsimp only[Option.bind];rw[if_neg (by simp)]
    have ek:(⟨⟨k.arms.field,0,0,0,noG,k.arms.around⟩,[k.slots.getD 0 fX]⟩:Sk)=k:=by
     have hl1:k.slots.length=1:=by rw[hl];simp[nO,nN,nR,h0,z3,e]
     have:=aMf z3;obtain ⟨a,l⟩:=k;dsimp only at *;obtain ⟨x,rfl⟩:=List.length_eq_one_iff.1 hl1;congr 1;exact(Arms.eq_iff _ _).2 ⟨rfl,h0.symm,z1.symm,z2.symm,this.symm,rfl⟩
    rw[ek,if_pos h]
 ·obtain ⟨q2,q3⟩:=ho.2.2.2 h0;have hoo:1<=k.arms.ordinary/\k.arms.ordinary<=7:=by omega
  have hso:=Ho hs (i:=0) (by rw[hl];unfold nO;simp[h0];omega);have eO:Z1 k=rI k.arms.ordinary k.arms.line++dR (k.slots.getD 0 fX):=if_neg h0;have eO0:Z1 k≠[]:=fun hh=>aG7 _ _ (List.append_eq_nil_iff.1 (eO▸hh)).1
  have hvo:ky (Z1 k)/\vF (Z1 k)=true:=by
   rw[eO];rcases aD4 hso with e | ⟨x,e,hx⟩
   ·rw[e,List.append_nil];refine⟨aHz hoo q2,?_⟩;unfold vF;rw[(aiB hoo []).1];exact(ayF hoo).1
   ·rw[e];refine⟨(aHz hoo q2).two hx,?_⟩;unfold vF;rw[(aiB hoo x).2];exact(ayF hoo).1
  have h2o:=aFq hvo.2;generalize hc:decide (k.arms.ordinary=7)=c;have et:bH k=dS k.arms.field++[44,32]++(Z1 k++onS (skN k)++arS c (VD k)):=by unfold bH;rw[hc];exact auj _ _ _ _ _ eO0
  have hat:=att (b:=Z1 k++onS (skN k)++arS c (VD k)) hcm;have e1:me [44,32] (bH k)=dS k.arms.field:=by unfold me;rw[et,hat];simp
  have e2:jB [44,32] (bH k)=Z1 k++onS (skN k)++arS c (VD k):=by unfold jB;rw[et,hat];simp
  have hio:vF (Z1 k++onS (skN k)++arS c (VD k))=true:=by
   have hsec:second (Z1 k++onS (skN k)++arS c (VD k))=second (Z1 k):=by
    unfold onS arS;split<;>split
    ·simp
    ·rw[List.append_nil,Nk h2o]
    ·rw[List.append_nil,Nk h2o]
    ·rw[List.append_assoc,List.cons_append,Nk h2o]
   unfold vF;rw[hsec];exact hvo.2
  have hno:LI (Z1 k++onS (skN k)++arS c (VD k))=none:=by
   cases hsg:LI (Z1 k++onS (skN k)++arS c (VD k)) with
   | none=>rfl
   | some p =>
     obtain ⟨⟨p1,_⟩,p3⟩:=aAB hsg;rw[p3] at hio;rcases aNY p.2 with e | ⟨y,e⟩
     ·rw[e,List.append_nil,(TJ p1 []).1] at hio;cases hio
     ·rw[e,(TJ p1 y).2] at hio;cases hio
  rw[e1,e2,hfo,hno];dsimp only[Option.bind];rw[if_neg (by rw[et,hat];simp)];unfold aFK;rw[aO6 hvo.1 (hN.imp id And.left) (hR.imp id And.left)];dsimp only;rw[aS7 hvo.1];dsimp only;have a1:aAO (decide (skN k≠[])) (skN k)=_:=aL5 hN0 g2;have a2:aAO (decide (VD k≠[])) (VD k)=_:=aL5 hR0 g3;rw[a1,a2,eO,aBD aDP (aDe hoo q2) hso];dsimp only;rw[(aPW (p:=(k.arms.ordinary,k.arms.line))).2 ⟨⟨hoo,q2⟩,rfl⟩];dsimp only[Option.bind];have gt:k.arms.tincture=1:=by simpa [h0] using g1
  have ek:(⟨⟨k.arms.field,k.arms.ordinary,k.arms.line,1,k.arms.on,k.arms.around⟩,[k.slots.getD 0 fX]++(if g0 k.arms.on=true then [] else [k.slots.getD (nO k.arms) fX])++(if g0 k.arms.around=true then [] else [k.slots.getD (nO k.arms+nN k.arms) fX])⟩:Sk)=k:=by
   clear hc et hat e1 e2 hio hno a1 a2 eO eO0 hvo h2o hN hR;obtain ⟨a,l⟩:=k;dsimp only at *;congr 1
   ·exact(Arms.eq_iff _ _).2 ⟨rfl,rfl,rfl,gt.symm,rfl,rfl⟩
   ·unfold nO nN nR at *;by_cases e2:g0 a.on=true<;>by_cases e3:g0 a.around=true<;>simp only[h0,e2,e3,if_true,if_false] at hl ⊢
    all_goals (rcases l with _ | ⟨x,_ | ⟨y,_ | ⟨z,_ | ⟨w,t⟩⟩⟩⟩<;>first | rfl | (exfalso;simp at hl;done) | (exfalso;simp only[List.length_cons,List.length_nil] at hl;omega))
  rw[ek];unfold acQ;rw[if_pos ⟨h,rfl⟩]
theorem aDl (s:List UInt8):vf s=xY s:=by
 cases e:xY s with
 | some k =>
   obtain ⟨h1,rfl⟩:=ams.1 e;exact aNO h1
 | none =>
   cases e2:vf s with
   | none=>rfl
   | some k =>
     rw[ams.2 (aHg e2)] at e;cases e
abbrev eX (s:Slot):V:=.agg [I s.mode,I s.number]
theorem aPq (s:Slot):di asg [eX s] (B (dF s)):=by
 obtain ⟨m,n⟩:=s;refine aa.of aIg (by simp) ?_;simp[aBZ,auP,auQ];by_cases h1:m=1
 ·subst h1;simp[AJ,auR];refine al (aa.ag (JA n)) ?_;simp[dF]
 ·by_cases h3:m=3
  ·subst h3;simp[AJ,Fy,auS];refine al (aa.ag (vE n 1 3)) ?_;simp[dF]
  ·by_cases h2:m=2
   ·subst h2;simp[AJ,Fy,K9,SJ,dF,fV]
   ·by_cases h4:m=4
    ·subst h4;simp[AJ,Fy,K9,SI,SJ,dF,fV]
    ·by_cases h5:m=5
     ·subst h5;simp[AJ,Fy,K9,SI,adN,SJ,dF,fV]
     ·have hr:fV m 2 5=false:=by rw[am0];omega
      simp[AJ,Fy,K9,SI,adN,aoS,dF,hr,h1,h2,h3,h4,h5]
theorem aQk (s:Slot):di asq [eX s] (B (dF s)):=by
 obtain ⟨m,n⟩:=s;refine aa.of aIF (by simp) ?_;simp[aCl,awE,awF];by_cases h1:m=1
 ·subst h1;simp[SY,awG];refine al (aa.ag (acq n)) ?_;simp[dF]
 ·by_cases h3:m=3
  ·subst h3;simp[SY,ad0,awH];refine al (aa.ag (LL n 1 3)) ?_;simp[dF]
  ·simp[SY,ad0,awI,h1,h3];refine al (aa.ag (LL m 2 5)) ?_;cases hr:fV m 2 5 with
   | false=>simp[dF,hr,h1,h3]
   | true=>simp[dF,hr,h1,h3]
theorem aNX {n:Int} (h:1<=n/\n<=3):([S [102,105,114,115,116],S [115,101,99,111,110,100],S [116,104,105,114,100]]:List V)[(n - 1).toNat]?=some (S (aNz.getD (n - 1).toNat [])):=by
 obtain rfl | rfl | rfl:n=1\/n=2\/n=3:=by omega
 all_goals rfl
theorem Wa (s:Slot) (h:dF s=true):di Nt [eX s] (S (dR s)):=by
 obtain ⟨m,n⟩:=s;refine aa.of aCF (by simp) ?_;simp[anG,afr,afs];unfold dF at h;dsimp only at h;by_cases h1:m=1
 ·subst h1;simp at h;have:=mc n;simp[vk,aft];refine al (aa.ag (HT n h)) ?_;simp[dR,D8,fV];omega
 ·by_cases h2:m=2
  ·subst h2;simp[vk,Bt,afu,dR,D8,aob,fV]
  ·by_cases h3:m=3
   ·subst h3;simp[fV] at h;have hn:=aNX h;have hl:(aNz.getD (n - 1).toNat []).length<=6:=um (by decide) _;have e:dR ⟨3,n⟩=32::(aob++aNz.getD (n - 1).toNat []):=by simp[dR,D8,fV]
    rw[e];generalize aNz.getD (n - 1).toNat []=w at hn hl ⊢;simp[vk,Bt,HE,afv];rw[aD (by omega),hn];simp[aob];omega
   ·by_cases h4:m=4
    ·subst h4;simp[vk,Bt,HE,PR,afw,dR,D8,aob,fV]
    ·have h5:fV m 1 4=false:=by rw[am0];simp[h1,h3,fV] at h;omega
     simp[vk,Bt,HE,PR,abt,dR,h5,h1,h2,h3,h4]
theorem aNV {n:Int} (h:1<=n/\n<=3):([S [32,111,102,32,116,104,101,32,102,105,114,115,116],S [32,111,102,32,116,104,101,32,115,101,99,111,110,100],S [32,111,102,32,116,104,101,32,116,104,105,114,100]]:List V)[(n - 1).toNat]?=some (S (dR ⟨3,n⟩)):=by
 obtain rfl | rfl | rfl:n=1\/n=2\/n=3:=by omega
 all_goals rfl
theorem axq (s:Slot) (h:dF s=true):di MW [eX s] (S (dR s)):=by
 obtain ⟨m,n⟩:=s;refine aa.of aIH (by simp) ?_;simp[aCn,awT,awU];unfold dF at h;dsimp only at h;by_cases h1:m=1
 ·subst h1;simp at h;have:=mc n;simp[FB,awV];refine al (aa.ag (LN n h)) ?_;simp[dR,D8,fV];omega
 ·by_cases h2:m=2
  ·subst h2;simp[FB,Ll,awW,dR,D8,aob,fV]
  ·by_cases h3:m=3
   ·subst h3;simp[fV] at h;have hn:=aNV h;simp[FB,Ll,SZ,awX];rw[aD (by omega),hn];simp;omega
   ·by_cases h4:m=4
    ·subst h4;simp[FB,Ll,SZ,ad1,awY,dR,D8,aob,fV]
    ·have h5:fV m 1 4=false:=by rw[am0];simp[h1,h3,fV] at h;omega
     simp[FB,Ll,SZ,ad1,ars,dR,h5,h1,h2,h3,h4]
@[simp] theorem aTN (a b:Nat) (l:List Slot):Jd a b (l.map eX)=l.map eX:=by induction l<;>simp_all [Jd,ren]
theorem aJS:∀ i:Nat,i < 9->iX.take (5+(i+1))=iX.take (5+i)++[⟨1,(i:Int)+1⟩]:=by decide +kernel
theorem aOo {i:Nat} (h:i<=14):(iX.take i).length=i:=by rw[List.length_take];exact Nat.min_eq_left h
theorem aFS {i:Nat} (h:i<=14):(eT.take i).length=i:=by rw[List.length_take];exact Nat.min_eq_left h
theorem asa:di Sx [] (.own 2 (iX.map eX)):=by
 refine aa.of aEj (by simp) ?_;simp[as3,aiX,aiY,aiZ,ah9];refine dl (fun p:Nat×List Slot=>⟨[(1,.sl 8 0 p.2.length),(2,I ((p.1:Int)+1))],[(8,⟨2,p.2.map eX⟩)],[]⟩) (fun p=>9 - p.1) (fun p=>p.1<=9/\p.2=iX.take (5+p.1)) (0,jF) (Wk.list rfl (by simp[jF]) (by simp[jF])) (by simp[jF,iX]) ?_;rintro ⟨i,L⟩ ⟨hi,hL⟩ K hN hR hE;dsimp only at hi hL;have hl:L.length=5+i:=by rw[hL];exact aOo (by omega)
 simp[ai0,ai2];refine⟨fun hlt=>?_,fun hge=>?_⟩
 ·have ht:=aJS i (by omega);rw[<- hL] at ht;simp[ai1];rw[aD (by omega)];refine⟨by simp[bR];omega,?_⟩;refine hN (i+1,L++[⟨1,(i:Int)+1⟩]) _ (by dsimp only;omega) ⟨by dsimp only;omega,ht.symm⟩ (Wk.trans (Wk.ren 17 8 (by decide) (by simp)) (Wk.list rfl ?_ ?_))
  ·simp
  ·simp
 ·refine hE _ _ ?_;obtain rfl:i=9:=by omega
  have e:L=iX:=hL;rw[e];simp[ai3]
theorem aHk:∀ i:Nat,i < 9->eT.take (i+1)=eT.take i++[⟨1,(i:Int)+1⟩]:=by decide +kernel
theorem aHl:∀ i:Nat,i < 3->eT.take (10+(i+1))=eT.take (10+i)++[⟨3,(i:Int)+1⟩]:=by decide +kernel
theorem aFO:di Wv [] (.own 2 (eT.map eX)):=by
 refine aa.of aGG (by simp) ?_;simp[azw,aq6,aq7,aq8,an6];refine dl (fun p:Nat×List Slot=>⟨[(1,.sl 4 0 p.2.length),(2,I ((p.1:Int)+1))],[(4,⟨2,p.2.map eX⟩)],[]⟩) (fun p=>9 - p.1) (fun p=>p.1<=9/\p.2=eT.take p.1) (0,[]) Wk.li (by simp) ?_;rintro ⟨i,L⟩ ⟨hi,hL⟩ K hN hR hE;dsimp only at hi hL;have hl:L.length=i:=by rw[hL];exact aFS (by omega)
 simp[aq9,arb];refine⟨fun hlt=>?_,fun hge=>?_⟩
 ·have ht:=aHk i (by omega);rw[<- hL] at ht;simp[ara];rw[aD (by omega)];refine⟨by simp[bR];omega,?_⟩;refine hN (i+1,L++[⟨1,(i:Int)+1⟩]) _ (by dsimp only;omega) ⟨by dsimp only;omega,ht.symm⟩ (Wk.trans (Wk.ren 13 4 (by decide) (by simp)) (Wk.list rfl ?_ ?_))
  ·simp
  ·simp
 ·refine hE _ _ ?_;obtain rfl:i=9:=by omega
  have e:L=jv:=hL;subst e;simp[arc,ard,aik];refine⟨by decide,?_⟩;refine dl (fun p:Nat×List Slot=>⟨[(1,.sl 17 0 p.2.length),(3,I ((p.1:Int)+1))],[(17,⟨2,p.2.map eX⟩)],[]⟩) (fun p=>3 - p.1) (fun p=>p.1<=3/\p.2=eT.take (10+p.1)) (0,jv++[⟨2,0⟩]) (Wk.list rfl (by simp[jv]) (by simp[jv])) (by decide) ?_;rintro ⟨i,L⟩ ⟨hi,hL⟩ K hN hR hE;dsimp only at hi hL;have hl:L.length=10+i:=by rw[hL];exact aFS (by omega)
  simp[arf,alI];refine⟨fun hlt=>?_,fun hge=>?_⟩
  ·have ht:=aHl i (by omega);rw[<- hL] at ht;simp[alH];rw[aD (by omega)];refine⟨by simp[bR];omega,?_⟩;refine hN (i+1,L++[⟨3,(i:Int)+1⟩]) _ (by dsimp only;omega) ⟨by dsimp only;omega,ht.symm⟩ (Wk.trans (Wk.ren 26 17 (by decide) (by simp)) (Wk.list rfl ?_ ?_))
   ·simp
   ·simp
  ·refine hE _ _ ?_;obtain rfl:i=3:=by omega
   have e:L=eT.take 13:=hL;have e2:eT=L++[⟨4,0⟩]:=by rw[e];rfl
   rw[e2];simp[alJ];simp[bR];omega
def dO (a:Arms):List V:=[I a.field.division,I a.field.line,I a.field.first,I a.field.second,I a.ordinary,I a.line,I a.tincture,I a.on.count,I a.on.kind,I a.on.attitude,I a.on.tincture,I a.around.count,I a.around.kind,I a.around.attitude,I a.around.tincture]
def jI (a:Arms):List Nat:=(if a.ordinary=0 then [] else [6])++(if g0 a.on=true then [] else [10])++(if g0 a.around=true then [] else [14])
section
variable (a : Arms) (n : Nat) (x : List V)
abbrev ayT (n:Nat) (a:Arms) (x:List V) (o:Nat):V:=.rp n [.agg (dO a++x)] 0 o
def acv (l:List Nat):AS:=⟨[(0,ayT n a x 0),(3,.sl 3 0 l.length)],[(3,⟨1,l.map (ayT n a x)⟩)],[]⟩
@[simp] theorem aVX (i j n:Nat) (a:Arms) (x:List V) (l:List Nat):Jd i j (l.map (ayT n a x))=l.map (ayT n a x):=by induction l<;>simp_all [Jd,ren]
set_option maxHeartbeats 1000000 in
theorem asb:di lw [ayT n a x 0] (.own 1 ((jI a).map (ayT n a x))):=by
 refine aa.of Is (by simp) ?_;simp[Aa,xE,xF];refine cp (acv a n x []) (Wk.trans (Wk.ren 4 3 (by decide) (by simp)) (Wk.list rfl (by simp[acv]) (by simp[acv]))) ?_;simp[acv,dO,xG];have hl:∀ l:List Nat,l.length<=3->l.length+1<=bR:=fun l h=>by unfold bR;omega
 obtain ⟨l1,e1⟩:∃ l1:List Nat,(if a.ordinary=0 then [] else [6])=l1:=⟨_,rfl⟩;have b1:l1.length<=1:=by rw[<- e1];split<;>simp
 rcases Classical.em (a.ordinary=0) with h0 | h0
 case' inl =>
  rw[if_pos h0] at e1;simp[h0];refine cp (acv a n x l1) (Wk.list rfl (by simp[acv,dO,<- e1]) (by simp[acv,dO,<- e1])) ?_
 case' inr =>
  rw[if_neg h0] at e1;simp[h0,xH];refine⟨by decide,?_⟩;refine cp (acv a n x l1) (Wk.trans (Wk.ren 15 3 (by decide) (by simp)) (Wk.list rfl (by simp[acv,dO,<- e1]) (by simp[acv,dO,<- e1]))) ?_
 all_goals
  obtain ⟨l2,e2⟩:∃ l2:List Nat,l1++(if g0 a.on=true then [] else [10])=l2:=⟨_,rfl⟩;have b2:l2.length<=2:=by rw[<- e2,List.length_append];split<;>simp<;>omega
  rcases h1:g0 a.on with _ | _
  case' true =>
   rw[h1,if_pos rfl,List.append_nil] at e2;have h1':(a.on.count==0&&(a.on.kind==0&&(a.on.attitude==0&&a.on.tincture==0)))=true:=h1;simp[acv,dO,mn,h1'];refine cp (acv a n x l2) (Wk.list rfl (by simp[acv,dO,<- e2]) (by simp[acv,dO,<- e2])) ?_
  case' false =>
   rw[h1,if_neg (by simp)] at e2;have h1':(a.on.count==0&&(a.on.kind==0&&(a.on.attitude==0&&a.on.tincture==0)))=false:=h1;simp[acv,dO,mn,h1'];simp[xJ];refine⟨hl l1 (by omega),?_⟩;refine cp (acv a n x l2) (Wk.trans (Wk.ren 28 3 (by decide) (by simp)) (Wk.list rfl (by simp[acv,dO,<- e2]) (by simp[acv,dO,<- e2]))) ?_
  all_goals
   obtain ⟨l3,e3⟩:∃ l3:List Nat,l2++(if g0 a.around=true then [] else [14])=l3:=⟨_,rfl⟩;have hO:jI a=l3:=by unfold jI;rw[<- e3,<- e2,<- e1,h1];simp[h0]
   rw[hO];rcases h2:g0 a.around with _ | _
   case' true =>
    rw[h2,if_pos rfl,List.append_nil] at e3;have h2':(a.around.count==0&&(a.around.kind==0&&(a.around.attitude==0&&a.around.tincture==0)))=true:=h2;simp[acv,dO,mo,h2'];simp[<- e3,mp]
   case' false =>
    rw[h2,if_neg (by simp)] at e3;have h2':(a.around.count==0&&(a.around.kind==0&&(a.around.attitude==0&&a.around.tincture==0)))=false:=h2;simp[acv,dO,mo,h2'];simp[<- e3,xK,mp];exact hl l2 (by omega)
mutual
theorem aK2 (g:Nat->Nat):∀ v:V,gV v=true->ahh g v=v
 | .ref _ _ _,h | .sl _ _ _,h=>by simp at h
 | .undef,_ | .v _,_ | .rp _ _ _ _,_ | .ro _ _,_ | .own _ _,_=>by simp
 | .agg cs,h | .tup cs,h | .clo _ cs,h=>by simp[ain g cs (by simpa using h)]
theorem ain (g:Nat->Nat):∀ vs:List V,bN vs=true->L2 g vs=vs
 | [],_=>by simp
 | v::vs,h=>by
   simp at h;simp[aK2 g v h.1,ain g vs h.2]
end
mutual
theorem aNN (i j:Nat):∀ v:V,gV v=true->ren i j v=v
 | .ref _ _ _,h | .sl _ _ _,h=>by simp at h
 | .undef,_ | .v _,_ | .rp _ _ _ _,_ | .ro _ _,_ | .own _ _,_=>by simp
 | .agg cs,h | .tup cs,h | .clo _ cs,h=>by simp[ami i j cs (by simpa using h)]
theorem ami (i j:Nat):∀ vs:List V,bN vs=true->Jd i j vs=vs
 | [],_=>by simp
 | v::vs,h=>by
   simp at h;simp[aNN i j v h.1,ami i j vs h.2]
end
theorem asD {i j:Nat} {vs:List V} (h:bN vs=true):Jd i j vs=vs:=ami i j vs h
@[simp] theorem aNp (g:Nat->Nat):∀ a b:List V,L2 g (a++b)=L2 g a++L2 g b
 | [],b=>rfl
 | x::a,b=>by simp[aNp g a b]
abbrev aLk (o:Nat):V:=.ref (mG 0) 0 o
def stN (l:List Nat):AS:=⟨[(0,aLk 0),(3,.sl 3 0 l.length)],[(mG 0,⟨n,[.agg (dO a++x)]⟩),(3,⟨1,l.map aLk⟩)],[mG 0]⟩
@[simp] theorem aUC (i:Nat) (l:List Nat):Jd i 3 (l.map aLk)=l.map (fun o=>.ref (if mG 0=i then 3 else mG 0) 0 o):=by induction l<;>simp_all [Jd,ren]
@[simp] theorem aTg (l:List Nat):fu (l.map aLk)=l.map fun _=>mG 0:=by induction l<;>simp_all
@[simp] theorem aTn (g:Nat->Nat) (l:List Nat):L2 g (l.map aLk)=l.map fun o=>.ref (g (mG 0)) 0 o:=by induction l<;>simp_all
set_option maxHeartbeats 1000000 in
theorem Wb (hx:bN x=true) (hx2:cO x=true):jA Tryz.prog lw [⟨n,[.agg (dO a++x)]⟩] [aLk 0]
  (fun r k nw=>r=.sl (mG 1) 0 (jI a).length/\k=[⟨n,[.agg (dO a++x)]⟩]/\nw=some ⟨1,(jI a).map aLk⟩):=by
 have hxi:=azL hx;have hxm:=fun g=>ain g x hx;refine jA.of Is (by simp) ?_;have hxd:=fun d=>jO d x hx;simp[Aa,xE,xF,dO,hxd];refine cp (stN a n x []) (Wk.trans (Wk.ren 4 3 (by decide) (by simp[hxd])) (Wk.list rfl (by simp[stN]) (by simp[stN,dO,asD hx]))) ?_;simp[stN,dO,xG,hx2];have hl:∀ l:List Nat,l.length<=3->l.length+1<=bR:=fun l h=>by unfold bR;omega
 obtain ⟨l1,e1⟩:∃ l1:List Nat,(if a.ordinary=0 then [] else [6])=l1:=⟨_,rfl⟩;have b1:l1.length<=1:=by rw[<- e1];split<;>simp
 rcases Classical.em (a.ordinary=0) with h0 | h0
 case' inl =>
  rw[if_pos h0] at e1;simp[h0];refine cp (stN a n x l1) (Wk.list rfl (by simp[stN,dO,<- e1]) (by simp[stN,dO,<- e1,h0])) ?_
 case' inr =>
  rw[if_neg h0] at e1;simp[h0,xH,hxd];refine⟨by decide,?_⟩;refine cp (stN a n x l1) (Wk.trans (Wk.ren 15 3 (by decide) (by simp[hxd])) (Wk.list rfl (by simp[stN,dO,<- e1]) (by simp[stN,dO,<- e1,asD hx]))) ?_
 all_goals
  obtain ⟨l2,e2⟩:∃ l2:List Nat,l1++(if g0 a.on=true then [] else [10])=l2:=⟨_,rfl⟩;have b2:l2.length<=2:=by rw[<- e2,List.length_append];split<;>simp<;>omega
  rcases h1:g0 a.on with _ | _
  case' true =>
   rw[h1,if_pos rfl,List.append_nil] at e2;have h1':(a.on.count==0&&(a.on.kind==0&&(a.on.attitude==0&&a.on.tincture==0)))=true:=h1;simp[stN,dO,mn,h1',hx2];refine cp (stN a n x l2) (Wk.list rfl (by simp[stN,dO,<- e2]) (by simp[stN,dO,<- e2])) ?_
  case' false =>
   rw[h1,if_neg (by simp)] at e2;have h1':(a.on.count==0&&(a.on.kind==0&&(a.on.attitude==0&&a.on.tincture==0)))=false:=h1;simp[stN,dO,mn,h1',hx2];simp[xJ,hxd];refine⟨hl l1 (by omega),?_⟩;refine cp (stN a n x l2) (Wk.trans (Wk.ren 28 3 (by decide) (by simp[hxd])) (Wk.list rfl (by simp[stN,dO,<- e2]) (by simp[stN,dO,<- e2,asD hx]))) ?_
  all_goals
   obtain ⟨l3,e3⟩:∃ l3:List Nat,l2++(if g0 a.around=true then [] else [14])=l3:=⟨_,rfl⟩;have hO:jI a=l3:=by unfold jI;rw[<- e3,<- e2,<- e1,h1];simp[h0]
   rw[hO];rcases h2:g0 a.around with _ | _
   case' true =>
    rw[h2,if_pos rfl,List.append_nil] at e3;have h2':(a.around.count==0&&(a.around.kind==0&&(a.around.attitude==0&&a.around.tincture==0)))=true:=h2;simp[stN,dO,mo,h2',hx2];simp[<- e3,mp];refine aSw 3 rfl (by decide) (by simp) (by simp[hxi]) (by simp) ?_;simp[dO,hxm]
   case' false =>
    rw[h2,if_neg (by simp)] at e3;have h2':(a.around.count==0&&(a.around.kind==0&&(a.around.attitude==0&&a.around.tincture==0)))=false:=h2;simp[stN,dO,mo,h2',hx2];simp[<- e3,xK,mp,hxd];refine⟨hl l2 (by omega),?_⟩;refine aSw 41 rfl (by decide) (by simp) (by simp[hxi]) (by simp[ac1]) ?_;simp[dO,hxm]
end
abbrev cy (a:Arms) (v:V):List V:=[I a.field.division,I a.field.line,I a.field.first,I a.field.second,I a.ordinary,I a.line,I a.tincture,I a.on.count,I a.on.kind,I a.on.attitude,I a.on.tincture,I a.around.count,I a.around.kind,I a.around.attitude,I a.around.tincture,v]
abbrev nM:V:=.v (.slice none 0 0)
abbrev eSk (k:Sk):V:=.agg (cy k.arms (.ro 2 (k.slots.map eX)))
theorem Nl (l:List Slot) (p:Slot->Bool) (g:Nat) (caps:List V) (hc:∀ hp,caps.map (cz hp 6)=caps) (hp:∀ x ∈ l,di g (eX x::caps) (B (p x))) :
  di oe [.ro 2 (l.map eX),.clo g caps] (I (idx p l)):=by
 refine aa.ofL Jc (by simp) fun hl=>?_;simp at hl;simp[vt,uF,uG,uM];refine GJ (fun i:Nat=>⟨[(0,.ro 2 (l.map eX)),(1,.clo g caps),(7,I l.length),(8,I i)],[],[]⟩) (fun i=>l.length - i) (fun i=>i<=l.length/\∀ j (_:j < i) (hj:j < l.length),p l[j]=false) 0 Wk.li (by simp) ?_;rintro i ⟨hi,hj⟩;simp[uH,ut];refine⟨fun hlt=>?_,fun hge=>?_⟩
 ·simp[uI,uJ,hlt];refine al (aa.arg (hp l[i] (List.getElem_mem _)) (by simp[hc])) ?_;simp;refine⟨fun ht=>?_,fun hf=>?_⟩
  ·simp[uK];exact(ac2 hlt (fun j h=>hj j h (by omega)) ht).symm
  ·simp[uL];rw[aD (by omega)];refine FD (i+1) (by omega) ⟨by omega,fun j h h'=>?_⟩ Wk.li;by_cases e:j=i
   ·subst e;exact hf
   ·exact hj j (by omega) h'
 ·have:idx p l = -1:=JD fun j h=>hj j (by omega) h;simp[this]
theorem VE (l:List Slot) (p:Slot->Bool) (g:Nat) (caps:List V) (hc:∀ hp,caps.map (cz hp 6)=caps) (hc5:∀ hp,caps.map (cz hp 5)=caps) (hp:∀ x ∈ l,di g (eX x::caps) (B (p x))) :
  di ml [.ro 2 (l.map eX),.clo g caps] (B (l.any p)):=by
 refine aa.of FW (by simp) ?_;simp[sH,rq,rr];refine al (aa.arg (Nl l p g caps hc hp) (by simp[hc5])) ?_;simp[<- amZ]
theorem atR (s:Slot):di xU [eX s] (B (!dF s)):=by
 refine aa.of ahW (by simp) ?_;simp[Qi,Mi,Mj];refine al (aa.ag (aPq s)) ?_;simp
def atO (a:Arms) (o:Nat):Int:=if o=6 then a.tincture else if o=10 then a.on.tincture else a.around.tincture
theorem auc {a:Arms} {o:Nat} (h:o ∈ jI a):o=6\/o=10\/o=14:=by
 unfold jI at h;simp only[List.mem_append] at h;rcases h with (h | h) | h<;>(split at h<;>simp at h<;>omega)
theorem r8 (a:Arms):(jI a).length=nO a+nN a+nR a:=by
 unfold jI nO nN nR;simp only[List.length_append];split<;>split<;>split<;>rfl
theorem uV (a:Arms):(jI a).length<=3:=by
 rw[r8];unfold nO nN nR;split<;>split<;>split<;>simp
theorem aFA (a:Arms):(jI a).any (fun o=>atO a o != 1)=!ahZ a:=by
 unfold jI ahZ atO;rcases h0:(a.ordinary==0) with _ | _<;>cases h1:g0 a.on<;>cases h2:g0 a.around<;>simp at h0<;>simp[h0,bne,Bool.or_assoc]
theorem V7 (n:Nat) (a:Arms) (x:List V) (o:Nat) (ho:o=6\/o=10\/o=14) (hn:n=15+x.length):di rY [ayT n a x o] (B (atO a o != 1)):=by
 refine aa.of ahX (by simp) ?_;rcases ho with rfl | rfl | rfl
 all_goals
  simp[Qj,Mk,Ml,dO,atO]
theorem anw (n:Nat) (a:Arms) (x:List V) (l:List Nat) (p:Nat->Bool) (g:Nat) (hp:∀ o ∈ l,di g [ayT n a x o] (B (p o))) :
  di uz [.ro 1 (l.map (ayT n a x)),.clo g []] (I (idx p l)):=by
 refine aa.ofL Sr (by simp) fun hl=>?_;simp at hl;simp[El,B5,B6,Cc];refine GJ (fun i:Nat=>⟨[(0,.ro 1 (l.map (ayT n a x))),(1,.clo g []),(7,I l.length),(8,I i)],[],[]⟩) (fun i=>l.length - i) (fun i=>i<=l.length/\∀ j (_:j < i) (hj:j < l.length),p l[j]=false) 0 Wk.li (by simp) ?_;rintro i ⟨hi,hj⟩;simp[B7,A5];refine⟨fun hlt=>?_,fun hge=>?_⟩
 ·simp[B8,B9,hlt];refine al (aa.ag (hp l[i] (List.getElem_mem _))) ?_;simp;refine⟨fun ht=>?_,fun hf=>?_⟩
  ·simp[Ca];exact(ac2 hlt (fun j h=>hj j h (by omega)) ht).symm
  ·simp[Cb];rw[aD (by omega)];refine FD (i+1) (by omega) ⟨by omega,fun j h h'=>?_⟩ Wk.li;by_cases e:j=i
   ·subst e;exact hf
   ·exact hj j (by omega) h'
 ·have:idx p l = -1:=JD fun j h=>hj j (by omega) h;simp[this]
theorem LO (n:Nat) (a:Arms) (x:List V) (l:List Nat) (p:Nat->Bool) (g:Nat) (hp:∀ o ∈ l,di g [ayT n a x o] (B (p o))) :
  di qt [.ro 1 (l.map (ayT n a x)),.clo g []] (B (l.any p)):=by
 refine aa.of MJ (by simp) ?_;simp[zE,xP,xQ];refine al (aa.ag (anw n a x l p g hp)) ?_;simp[<- amZ]
theorem aDQ {l:List Slot} (h:l≠[]):l[l.length - 1]?=some (l.getLastD fX):=by
 have h1:=List.length_pos_iff.2 h;rw[List.getLastD_eq_getLast?,List.getLast?_eq_getElem?,List.getElem?_eq_getElem (by omega)];rfl
theorem aeF (k:Sk):di DA [eSk k] (B (bM k)):=by
 refine aa.of arL (by simp) ?_;simp[VM,QC,QD];refine al (aa.ag (GB k.arms)) ?_;have hS:bM k=(arms k.arms&&(k.slots.all dF&&(decide (k.slots.length=nO k.arms+nN k.arms+nR k.arms)&&(ahZ k.arms&&!(k.slots.length != 0&&(k.slots.getLastD fX).mode==5))))):=rfl;rw[<- r8] at hS;cases ha:arms k.arms with
 | false =>
   rw[ha,Bool.false_and] at hS;simp[Ga,hS]
 | true =>
   rw[ha,Bool.true_and] at hS;simp;refine al (aa.ag (VE k.slots (fun s=>!dF s) xU [] (by simp) (by simp) fun s _=>atR s)) ?_;have hany:k.slots.any (fun s=>!dF s)=!k.slots.all dF:=by rw[List.all_eq_not_any_not,Bool.not_not]
   rw[hany];cases hs:k.slots.all dF with
   | false =>
     rw[hs,Bool.false_and] at hS;simp[Ga,hS]
   | true =>
     rw[hs,Bool.true_and] at hS;simp;refine cp _ (Wk.frz 1 ⟨16,[eSk k]⟩ (by simp) (by simp) (by simp)) ?_;simp[QE];refine bB (aa.arg (asb k.arms 16 [.ro 2 (k.slots.map eX)]) (by simp[ayT,dO])) rfl (.inr (by simp)) (by simp) ?_;simp[QF];refine⟨fun e1=>⟨fun e2=>?_,fun e2=>?_⟩,fun e1=>?_⟩
     ·have hne:k.slots≠[]:=fun h=>by rw[h] at e1;simp only[List.length_nil] at e1;omega
      have hl:=aDQ hne;have hle:=uV k.arms;have hlen:k.slots.length=(jI k.arms).length:=by omega
      have e3:((jI k.arms).length - 1:Int).toNat=k.slots.length - 1:=by omega
      have d1:decide (k.slots.length=(jI k.arms).length)=true:=by simpa using hlen
      have d2:(k.slots.length != 0)=true:=by simpa using hne
      rw[d1,d2] at hS;rw[aD (by omega),e3,hl];simp;refine⟨by omega,?_⟩;by_cases e5:(k.slots.getLastD fX).mode=5
      ·rw[e5] at hS;simp at hS;simp[List.getLastD_eq_getLast?] at e5 ⊢;simp[e5,Gb,hS]
      ·have d3:((k.slots.getLastD fX).mode==5)=false:=by simpa using e5
       rw[d3] at hS;simp at hS;simp[List.getLastD_eq_getLast?] at e5 ⊢;simp[e5];simp[Gc];refine al (aa.ag (LO 16 k.arms [.ro 2 (k.slots.map eX)] (jI k.arms) (fun o=>atO k.arms o != 1) rY fun o ho=>V7 16 k.arms [.ro 2 (k.slots.map eX)] o (auc ho) (by simp))) ?_;rw[aFA,hS];simp
     ·have hlen:k.slots.length=(jI k.arms).length:=by omega
      have d1:decide (k.slots.length=(jI k.arms).length)=true:=by simpa using hlen
      have d2:(k.slots.length != 0)=false:=by rw[hlen,e2];rfl
      rw[d1,d2] at hS;simp at hS;simp[Gc];refine al (aa.ag (LO 16 k.arms [.ro 2 (k.slots.map eX)] (jI k.arms) (fun o=>atO k.arms o != 1) rY fun o ho=>V7 16 k.arms [.ro 2 (k.slots.map eX)] o (auc ho) (by simp))) ?_;rw[aFA,hS];simp
     ·have d1:decide (k.slots.length=(jI k.arms).length)=false:=by simp;omega
      rw[d1] at hS;simp[Gb,hS]
def iv (l:List Int):List Int:=l.foldl (fun out x=>if out.contains x then out else out++[x]) []
def Mz (f:Field) (m:List Int) (s:Slot):Option Int :=
 if s.mode=5 then some 0 else if s.mode=1 then some s.number else if s.mode=2 then (if f.division=0 then some f.first else none)
 else if s.mode=3 then (if s.number<=(iv m).length then some ((iv m).getD (s.number - 1).toNat 0) else none) else some (m.getLastD 0)
def jz (f:Field):List Int->List Slot->Option (List Int)
 | _,[]=>some []
 | m,s::ss=>(Mz f m s).bind fun t=>(jz f (if s.mode=5 then m else m++[t]) ss).map (t::·)
def gU:List Int->List Int
 | []=>[]
 | x::xs=>(if x=0 then (gU xs).headD 0 else x)::gU xs
def zM (g:Group) (t:Int):Group:=if g0 g=true then g else ⟨g.count,g.kind,g.attitude,t⟩
def Ir (a:Arms) (l:List Int):Arms :=
 ⟨a.field,a.ordinary,a.line,if a.ordinary=0 then a.tincture else l.getD 0 0,zM a.on (l.getD (nO a) 0),zM a.around (l.getD (nO a+nN a) 0)⟩
def nJ (k:Sk):Option Arms:=(jz k.arms.field (fa k.arms.field) k.slots).map fun l=>Ir k.arms (gU l)
def gO (a:Arms):Arms:=Ir a [1,1,1]
def jy (a:Arms):List Int:=(if a.ordinary=0 then [] else [a.tincture])++(if g0 a.on=true then [] else [a.on.tincture])++(if g0 a.around=true then [] else [a.around.tincture])
def fq (a:Arms):Sk:=⟨gO a,(jy a).map fun x=>⟨1,x⟩⟩
theorem Vs {f:Field}:∀ {ss:List Slot} {m l:List Int},jz f m ss=some l->l.length=ss.length
 | [],m,l,h=>by injection h with h;subst h;rfl
 | s::ss,m,l,h=>by
   unfold jz at h;obtain ⟨t,_,h⟩:=Option.bind_eq_some_iff.1 h;obtain ⟨l',h1,rfl⟩:=Option.map_eq_some_iff.1 h;simp[Vs h1]
theorem EE:∀ l:List Int,(gU l).length=l.length
 | []=>rfl
 | x::xs=>by simp[gU,EE xs]
theorem aAK {f:Field}:∀ {ss:List Slot} {m l:List Int} {j:Nat} {s:Slot},jz f m ss=some l->ss[j]?=some s->s.mode=1->s.number≠0->(gU l)[j]?=some s.number
 | [],_,_,_,_,_,hj,_,_=>by simp at hj
 | t::ss,m,l,j,s,h,hj,hm,hn=>by
   unfold jz at h;obtain ⟨x,hx,h⟩:=Option.bind_eq_some_iff.1 h;obtain ⟨l',h1,rfl⟩:=Option.map_eq_some_iff.1 h;cases j with
   | zero =>
     simp only[List.getElem?_cons_zero,Option.some.injEq] at hj;subst hj
     have:x=t.number:=by
      have:Mz f m t=some t.number:=by unfold Mz;simp[hm]
      rw[this] at hx;injection hx with hx
      exact hx.symm
     subst this;simp[gU,hn]
   | succ j =>
     simp only[List.getElem?_cons_succ] at hj;simpa [gU] using aAK h1 hj hm hn
theorem atz {g:Group} (h:g0 g=false->bQ g=true) (t:Int):g0 (zM g t)=g0 g:=by
 unfold zM;cases e:g0 g with
 | true=>rw[if_pos rfl,e]
 | false =>
   have:=(jM (h e)).1;rw[if_neg (by simp)];unfold g0;rw[Bool.and_eq_false_iff];left;simp;omega
theorem aJc {a:Arms} (ha:arms a=true) {l:List Int} (hl:l.length=nO a+nN a+nR a):jy (Ir a l)=l:=by
 obtain ⟨ho,hn,hr⟩:=mM ha;have e1:=atz hn (l.getD (nO a) 0);have e2:=atz hr (l.getD (nO a+nN a) 0);unfold jy;simp only[Ir,e1,e2];unfold zM nO nN nR at *;by_cases h0:a.ordinary=0<;>by_cases h1:g0 a.on=true<;>by_cases h2:g0 a.around=true<;>simp only[h0,h1,h2,if_true,if_false] at hl ⊢
 all_goals (rcases l with _ | ⟨x,_ | ⟨y,_ | ⟨z,_ | ⟨w,t⟩⟩⟩⟩<;>first | rfl | (exfalso;simp at hl;done) | (exfalso;simp only[List.length_cons,List.length_nil] at hl;omega))
theorem asc (a:Arms):(jy a).length=nO a+nN a+nR a:=by
 unfold jy nO nN nR;split<;>split<;>split<;>rfl
def nS (a b:List UInt8):Bool:=decide (a.length < b.length)||(a.length==b.length&&decide (a < b))
theorem aBQ {a b:List UInt8} (h1:nS a b=false) (h2:nS b a=false):a=b:=by
 simp only[nS,Bool.or_eq_false_iff,decide_eq_false_iff_not,Bool.and_eq_false_iff,beq_eq_false_iff_ne] at h1 h2;have hl:a.length=b.length:=by omega
 have n1:=h1.2.resolve_left (by omega);have n2:=h2.2.resolve_left (by omega);exact List.le_antisymm n2 n1
theorem aBP (a:List UInt8):nS a a=false:=by
 simp[nS,List.lt_irrefl]
theorem asX {a b c:List UInt8} (h1:nS a b=true) (h2:nS b c=true):nS a c=true:=by
 simp only[nS,Bool.or_eq_true,decide_eq_true_eq,Bool.and_eq_true,beq_iff_eq] at *;rcases h1 with h1 | ⟨h1,h3⟩<;>rcases h2 with h2 | ⟨h2,h4⟩
 ·exact .inl (by omega)
 ·exact .inl (by omega)
 ·exact .inl (by omega)
 ·exact .inr ⟨by omega,List.lt_trans h3 h4⟩
def aar (a b:Arms) (l:List Slot):Bool:=bM ⟨b,l⟩&&decide (nJ ⟨b,l⟩=some a)
def Kg (a b:Arms) (best:Sk) (l:List Slot):Sk:=if aar a b l=true/\nS (bH ⟨b,l⟩) (bH best)=true then ⟨b,l⟩ else best
def NQ (L:Nat->List Slot):Nat->List Slot->List (List Slot)
 | 0,d=>[d]
 | n+1,d=>(L d.length).flatMap fun s=>NQ L n (d++[s])
def pN (L:Nat->List Slot) (a:Arms):Sk:=(NQ L (jy a).length []).foldl (Kg a (gO a)) (fq a)
theorem asu (a b:Arms):∀ (C:List (List Slot)) (s:Sk),let r:=C.foldl (Kg a b) s
  (r=s\/∃ c ∈ C,aar a b c=true/\r=⟨b,c⟩)/\nS (bH s) (bH r)=false/\∀ c ∈ C,aar a b c=true->nS (bH ⟨b,c⟩) (bH r)=false
 | [],s=>⟨.inl rfl,aBP _,fun c hc=>by simp at hc⟩
 | c::C,s=>by
   obtain ⟨h1,h2,h3⟩:=asu a b C (Kg a b s c);dsimp only[List.foldl_cons] at h1 h2 h3 ⊢;generalize C.foldl (Kg a b) (Kg a b s c)=r at h1 h2 h3 ⊢
   have key:nS (bH s) (bH r)=false/\(aar a b c=true->nS (bH ⟨b,c⟩) (bH r)=false):=by
    unfold Kg at h2;split at h2
    ·rename_i hh;refine⟨?_,fun _=>h2⟩;cases e:nS (bH s) (bH r) with
     | false=>rfl
     | true=>rw[asX hh.2 e] at h2;cases h2
    ·rename_i hh;refine⟨h2,fun hg=>?_⟩
     have hnb:nS (bH ⟨b,c⟩) (bH s)=false:=by
      cases e:nS (bH ⟨b,c⟩) (bH s) with
      | false=>rfl
      | true=>exact absurd ⟨hg,e⟩ hh
     cases e:nS (bH ⟨b,c⟩) (bH r) with
     | false=>rfl
     | true =>
       by_cases e2:nS (bH r) (bH s)=true
       ·rw[asX e e2] at hnb;cases hnb
       ·have:=aBQ h2 (by simpa using e2);rw[<- this] at e;rw[e] at hnb;cases hnb
   refine⟨?_,key.1,fun d hd hg=>?_⟩
   ·rcases h1 with h1 | ⟨d,hd,hg,h1⟩
    ·unfold Kg at h1;split at h1
     ·rename_i hh;exact .inr ⟨c,by simp,hh.1,h1⟩
     ·exact .inl h1
    ·exact .inr ⟨d,List.mem_cons_of_mem _ hd,hg,h1⟩
   ·rcases List.mem_cons.1 hd with rfl | hd
    ·exact key.2 hg
    ·exact h3 d hd hg
theorem amV (L:Nat->List Slot):∀ (n:Nat) (d c:List Slot),c ∈ NQ L n d↔∃ e,c=d++e/\e.length=n/\∀ j (h:j < e.length),e[j] ∈ L (d.length+j)
 | 0,d,c=>by
   simp only[NQ,List.mem_singleton];constructor
   ·rintro rfl;exact⟨[],by simp,rfl,fun j h=>by simp at h⟩
   ·rintro ⟨e,rfl,he,_⟩;rw[List.eq_nil_of_length_eq_zero he,List.append_nil]
 | n+1,d,c=>by
   simp only[NQ,List.mem_flatMap];constructor
   ·rintro ⟨s,hs,hc⟩;obtain ⟨e,rfl,he,hj⟩:=(amV L n (d++[s]) c).1 hc;refine⟨s::e,by simp,by simp[he],fun j h=>?_⟩;cases j with
    | zero=>simpa using hs
    | succ j =>
      have:=hj j (by simpa using h);simp only[List.length_append,List.length_cons,List.length_nil] at this;rw[List.getElem_cons_succ,show d.length+(j+1)=d.length+(0+1)+j by omega];exact this
   ·rintro ⟨e,rfl,he,hj⟩;cases e with
    | nil=>simp at he
    | cons s e =>
      refine⟨s,by have:=hj 0 (by simp);simpa only[List.getElem_cons_zero,Nat.add_zero] using this,(amV L n (d++[s]) _).2 ⟨e,by simp,by simpa using he,fun j h=>?_⟩⟩;have:=hj (j+1) (by simpa using h);simp only[List.length_append,List.length_cons,List.length_nil];rw[List.getElem_cons_succ,show d.length+(j+1)=d.length+(0+1)+j by omega] at this;exact this
def vx (a:Arms) (j:Nat):List Slot:=[(fq a).slots.getD j fX,fX]++jF
def xS:List Slot:=jv++jF++[fX]
theorem acW {g:Group} (h:g0 g=false->bQ g=true) {t:Int} (ht:fV t 1 9=true):(g0 (zM g t)||bQ (zM g t))=true:=by
 unfold zM;cases e:g0 g with
 | true=>rw[if_pos rfl,e];rfl
 | false =>
   have:=h e;rw[if_neg (by simp),Bool.or_eq_true];right;unfold bQ at this ⊢;dsimp only;rw[ht];simp only[Bool.and_eq_true] at this ⊢
   simp_all
theorem aE1 {a:Arms} (ha:arms a=true):arms (gO a)=true/\nO (gO a)=nO a/\nN (gO a)=nN a/\nR (gO a)=nR a:=by
 obtain ⟨ho,hn,hr⟩:=mM ha;have one:∀ i,i < 3->fV (([1,1,1]:List Int).getD i 0) 1 9=true:=by decide
 have i1:nO a < 3:=by unfold nO;split<;>omega
 have i2:nO a+nN a < 3:=by unfold nO nN;split<;>split<;>omega
 have f1:=acW hn (one _ i1);have f2:=acW hr (one _ i2);have e1:=atz hn (([1,1,1]:List Int).getD (nO a) 0);have e2:=atz hr (([1,1,1]:List Int).getD (nO a+nN a) 0);refine⟨?_,rfl,?_,?_⟩
 ·unfold arms gO Ir;dsimp only;rw[gM ha,f2,Bool.true_and,Bool.true_and];by_cases h0:a.ordinary=0
  ·obtain ⟨z1,z2,z3⟩:=amR ha h0;rw[if_pos h0,if_pos h0,e1,z1,z2,z3];rfl
  ·obtain ⟨q1,q2⟩:=ho.2.2.2 h0;have:=one 0 (by omega);rw[if_neg h0,if_neg h0,f1,this,db.2 q1,show fV a.ordinary 1 7=true from db.2 (by omega)];rfl
 ·unfold nN gO Ir;dsimp only;rw[e1]
 ·unfold nR gO Ir;dsimp only;rw[e2]
theorem aFs {a:Arms} (ha:arms a=true):∀ x ∈ jy a,fV x 1 9=true:=by
 obtain ⟨ho,hn,hr⟩:=mM ha;intro x hx;simp only[jy,List.mem_append] at hx;rcases hx with (hx | hx) | hx
 ·split at hx
  ·simp at hx
  ·rename_i h0;rw[List.mem_singleton.1 hx];exact(ho.2.2.2 h0).2
 ·split at hx
  ·simp at hx
  ·rename_i e;rw[List.mem_singleton.1 hx];exact(jM (hn (by simpa using e))).2.2.1
 ·split at hx
  ·simp at hx
  ·rename_i e;rw[List.mem_singleton.1 hx];exact(jM (hr (by simpa using e))).2.2.1
theorem aHc {a:Arms} (ha:arms a=true) {l:List Slot} (h:aar a (gO a) l=true):bM ⟨gO a,l⟩=true/\∃ t,jz (gO a).field (fa (gO a).field) l=some t/\gU t=jy a:=by
 simp only[aar,Bool.and_eq_true,decide_eq_true_eq] at h;obtain ⟨h1,h2⟩:=h;refine⟨h1,?_⟩;obtain ⟨t,ht,he⟩:=Option.map_eq_some_iff.1 h2;refine⟨t,ht,?_⟩;obtain ⟨b1,b2,b3,b4⟩:=aE1 ha;have hl:=(uR h1).2.2.1;dsimp only at he hl;rw[<- he,aJc b1];rw[EE,Vs ht,hl]
theorem ats {a:Arms} (ha:arms a=true) {c:List Slot} (hg:aar a (gO a) c=true):c ∈ NQ (vx a) (jy a).length []↔c ∈ NQ (fun _=>xS) (jy a).length []:=by
 obtain ⟨h1,t,ht,hn⟩:=aHc ha hg;have hs:=(uR h1).2.1;dsimp only at hs;rw[amV,amV];have hlok:=aFs ha;constructor
 ·rintro ⟨e,rfl,he,hj⟩;refine⟨c,rfl,he,fun j h=>?_⟩;have hso:=hs c[j] (by simp);by_cases h5:c[j].mode=5
  ·have:c[j]=fX:=by
    generalize c[j]=s at hso h5;obtain ⟨m,n⟩:=s;dsimp only at h5;subst h5;have hso:fV 5 2 5=true/\n=0:=by simpa [dF] using hso
    rw[hso.2];rfl
   rw[this];simp[xS]
  ·exact List.mem_append.2 (.inl (List.mem_append.2 (axt hso h5)))
 ·rintro ⟨e,rfl,he,hj⟩;refine⟨c,rfl,he,fun j h=>?_⟩;have hso:=hs c[j] (by simp);simp only[vx,List.mem_append];by_cases h5:c[j].mode=5
  ·have:c[j]=fX:=by
    generalize c[j]=s at hso h5;obtain ⟨m,n⟩:=s;dsimp only at h5;subst h5;have hso:fV 5 2 5=true/\n=0:=by simpa [dF] using hso
    rw[hso.2];rfl
   rw[this];simp
  ·rcases axt hso h5 with hm | hm
   ·left;have hm1:∀ s ∈ jv,s.mode=1/\s.number≠0:=by decide
    obtain ⟨m1,m2⟩:=hm1 _ hm;have:=aAK ht (j:=j) (s:=c[j]) (by simp[h]) m1 m2;rw[hn] at this
    have hsl:(fq a).slots.getD (([]:List Slot).length+j) fX=c[j]:=by
     have e1:(fq a).slots[j]?=some ⟨1,c[j].number⟩:=by
      show ((jy a).map fun x=>(⟨1,x⟩:Slot))[j]?=_;rw[List.getElem?_map,this];rfl
     rw[List.length_nil,Nat.zero_add,List.getD_eq_getElem?_getD,e1,Option.getD_some];generalize c[j]=s at m1;obtain ⟨m,n⟩:=s;dsimp only at m1;rw[m1]
    rw[hsl];simp
   ·exact .inr hm
theorem aEU {a:Arms} (ha:arms a=true):bH (pN (vx a) a)=bH (pN (fun _=>xS) a):=by
 obtain ⟨p1,p2,p3⟩:=asu a (gO a) (NQ (vx a) (jy a).length []) (fq a);obtain ⟨q1,q2,q3⟩:=asu a (gO a) (NQ (fun _=>xS) (jy a).length []) (fq a);unfold pN;generalize (NQ (vx a) (jy a).length []).foldl (Kg a (gO a)) (fq a)=r at p1 p2 p3 ⊢;generalize (NQ (fun _=>xS) (jy a).length []).foldl (Kg a (gO a)) (fq a)=q at q1 q2 q3 ⊢;refine aBQ ?_ ?_
 ·rcases p1 with rfl | ⟨c,hc,hg,rfl⟩
  ·exact q2
  ·exact q3 c ((ats ha hg).1 hc) hg
 ·rcases q1 with rfl | ⟨c,hc,hg,rfl⟩
  ·exact p2
  ·exact p3 c ((ats ha hg).2 hc) hg
theorem aG3 {l:List Int} {i:Nat} (h:i < l.length):l[i]?=some (l.getD i 0):=by rw[List.getD_eq_getElem?_getD,List.getElem?_eq_getElem h];rfl
def lfS (L:List Int) (b:Arms) (i:Nat):AS:=⟨[(1,.ro 1 (mi L)),(2,.ref 2 0 0),(4,.ref 4 0 0),(5,I i)],[(2,⟨15,[dj b]⟩),(4,⟨15,[dj ⟨⟨0,0,0,0⟩,0,0,0,noG,noG⟩]⟩)],[]⟩
set_option maxHeartbeats 1000000 in
theorem aJO (a:Arms) (L:List Int) (hL:nO a+nN a+nR a<=L.length) (h0:0<=a.ordinary):di adu [dj a,.ro 1 (mi L)] (dj (Ir a L)):=by
 refine aa.of aIC (by simp) ?_;have d0:Ir a L=⟨a.field,a.ordinary,a.line,if a.ordinary=0 then a.tincture else L.getD 0 0,zM a.on (L.getD (nO a) 0),zM a.around (L.getD (nO a+nN a) 0)⟩:=rfl;obtain ⟨t,ht⟩:∃ t,(if a.ordinary=0 then a.tincture else L.getD 0 0)=t:=⟨_,rfl⟩;obtain ⟨g,hg⟩:∃ g,zM a.on (L.getD (nO a) 0)=g:=⟨_,rfl⟩;rw[ht,hg] at d0;have e0:nO a=if a.ordinary=0 then 0 else 1:=rfl
 have eN:nN a=if g0 a.on=true then 0 else 1:=rfl
 have eR:nR a=if g0 a.around=true then 0 else 1:=rfl
 simp[aCi,awf,awg,awh];rcases Classical.em (a.ordinary=0) with c0 | c0
 case' inl =>
  rw[if_pos c0] at ht e0;have c0':¬0 < a.ordinary:=by omega
  simp[c0'];refine fun _=>?_;refine cp (lfS L ⟨a.field,a.ordinary,a.line,t,a.on,a.around⟩ (nO a)) (Wk.list rfl (by simp[lfS,e0]) (by simp[lfS,ht])) ?_
 case' inr =>
  rw[if_neg c0] at ht e0;have c0':0 < a.ordinary:=by omega
  have hl:=aG3 (l:=L) (i:=0) (by omega);rw[ht] at hl;simp[c0'];simp[awi,awj,hl];refine⟨⟨by omega,?_⟩,fun h=>by omega⟩;refine cp (lfS L ⟨a.field,a.ordinary,a.line,t,a.on,a.around⟩ (nO a)) (Wk.list rfl (by simp[lfS,e0];decide) (by simp[lfS])) ?_
 all_goals
  simp[lfS,awk];refine al (aa.ag (iT a.on)) ?_;rcases c1:g0 a.on with _ | _
  case' true =>
   rw[c1,if_pos rfl] at eN;have hg':a.on=g:=by rw[<- hg];unfold zM;rw[c1];rfl
   simp;refine cp (lfS L ⟨a.field,a.ordinary,a.line,t,g,a.around⟩ (nO a+nN a)) (Wk.list rfl (by simp[lfS,eN]) (by simp[lfS,<- hg'])) ?_
  case' false =>
   rw[c1,if_neg (by simp)] at eN;have hl:=aG3 (l:=L) (i:=nO a) (by omega);have hg':(⟨a.on.count,a.on.kind,a.on.attitude,L.getD (nO a) 0⟩:Group)=g:=by rw[<- hg];unfold zM;rw[c1];rfl
   obtain ⟨x,hx⟩:∃ x,L.getD (nO a) 0=x:=⟨_,rfl⟩;rw[hx] at hl hg';simp[awl,awm,hl];refine⟨by omega,?_⟩;rw[aD (by omega)];refine cp (lfS L ⟨a.field,a.ordinary,a.line,t,g,a.around⟩ (nO a+nN a)) (Wk.list rfl (by simp[lfS,eN]) (by simp[lfS,<- hg'])) ?_
  all_goals
   simp[lfS,awn];refine al (aa.ag (iT a.around)) ?_;rw[d0];rcases c2:g0 a.around with _ | _
   case' true =>
    have hr:zM a.around (L.getD (nO a+nN a) 0)=a.around:=by unfold zM;rw[c2];rfl
    rw[hr];simp[ZU]
   case' false =>
    rw[c2,if_neg (by simp)] at eR;have hl:=aG3 (l:=L) (i:=nO a+nN a) (by omega);have hr:zM a.around (L.getD (nO a+nN a) 0)=⟨a.around.count,a.around.kind,a.around.attitude,L.getD (nO a+nN a) 0⟩:=by unfold zM;rw[c2];rfl
    rw[hr];generalize L.getD (nO a+nN a) 0=x at hl ⊢;obtain ⟨w,hw⟩:∃ w:Nat,nO a+nN a=w:=⟨_,rfl⟩;have hw':(nO a:Int)+nN a=w:=by omega
    rw[hw] at hl;simp[hw',awo,ZU,hl];omega
theorem aDK (a:Arms) (h0:0<=a.ordinary):di TY [dj a] (dj (gO a)):=by
 have hb:gO a=Ir a [1,1,1]:=rfl;rw[hb];refine aa.of aIB (by simp) ?_;simp[aCh,awd,awe];have hn:nO a+nN a+nR a<=([1,1,1]:List Int).length:=by rw[<- r8];exact uV a
 refine aZ (aa.ag (aJO a [1,1,1] hn h0)) ?_;simp
theorem aG1 (a:Arms):TP a=1+nO a+nN a+nR a:=by
 unfold TP nO nN nR bit;by_cases c0:a.ordinary=0<;>cases c1:g0 a.on<;>cases c2:g0 a.around<;>simp[c0]
theorem ayR (a:Arms) (h0:0<=a.ordinary):di Wu [dj a] (I (nO a+nN a+nR a)):=by
 have hn:nO a+nN a+nR a<=3:=by rw[<- r8];exact uV a
 refine aa.of aGC (by simp) ?_;simp[azs,aqJ,aqK];refine al (aa.ag (aLx a h0)) ?_;rw[aG1];simp;rw[aD (by omega)];omega
set_option maxRecDepth 100000
def DR:=[ok 4 (vB false)]
def DS:=[om 5 0,om 6 1,dK 7 Am 5 6,cn 8 .geq 7 0,om 4 8]
def FG:C:=(sr DR [0,1] (sr DS [4] .ret))
theorem Tw:cE vd FG [(.tmp 4)] 9:=dE func332 rfl
def aus:=[ok 2 vN]
def aut:=[oo 6 (.bslice 1 (vI 0) 0 []),om 3 6]
def auu:=[om 7 0,oo 8 (.len false (.t 7)),ok 9 (vI 0)]
def auv:=[cI 10 .lss 9 8]
def auw:=[ft 11 1 7 9,bl 12 1 11,om 5 12]
def aux:=[om 13 3,om 14 5,dK 15 vd 13 14,oo 16 (.un .not (.t 15))]
def auy:=[om 17 3,om 18 5,oo 19 (.bslice 1 (vI 0) 1 [(0,(.t 18))]),oo 20 (.app 1 8 (.t 17) (.t 19)),om 3 20]
def auz:=[fL 21 9 1,om 9 21]
def atX:C:=(sr auv [3,7,8,9,10] (ss (sc 10 .skip (.exit 0)) (ss (.block 1 (sr auw [3,5,7,8,9] (sr aux [3,5,7,8,9,16] (sc 16 (.reg auy [3,7,8,9]) .skip)))) (.reg auz [3,7,8,9]))))
def auA:=[om 22 3,om 2 22]
def aBU:C:=(sr aus [0] (sr aut [0,3] (ss (sr auu [3,7,8,9] (.block 0 (.loop atX))) (sr auA [2] .ret))))
theorem aIb:cE ase aBU [(.tmp 2)] 23:=dE func294 rfl
def Mm:=[eF 1 16 0,ok 2 vN,ok 3 vN,ok 4 (vB false)]
def Mn:=[aL 12 0 1,aL 13 0 12,bu 14 4 13,cg 15 rX 14,aL 16 15 1,bl 17 1 16,oo 18 (.len false (.t 17)),oo 19 (.mks 1 (vI 0) 8 (.t 18) (.t 18)),aL 20 15 1,bl 21 1 20,oo 22 (.len false (.t 21)),oo 23 (.mks 1 (vI 0) 8 (.t 22) (.t 22)),om 5 15,om 6 19,om 7 23]
def Dh:List (List Nat):=[[],[0],[0,1],[0,1,2],[],[4],[4,5],[4,5,6],[],[8],[8,9],[8,9,10],[0,1,2,3],[0,1,2,3,4,5,6,7,12],[0,1,2,3,4,5,6,7,8,9,10,11,12,13]]
def Mo:=[aL 24 15 1,bl 25 1 24,oo 26 (.len false (.t 25)),ok 27 (vI 0)]
def Mp:=[cI 28 .lss 27 26]
def Mq:=[om 29 27,ft 30 2 25 27,bu 31 2 30,dD 9 2 (.agg [vI 0,vI 0]),om 8 29,bg 2 9 31]
def Mr:=[om 32 7,om 33 8,om 34 5,om 35 5,oo 36 (.len false (.t 35)),cn 37 .sub 36 1,ft 38 1 34 37,bl 39 1 38,ft 40 1 32 33,bg 1 40 39]
def Ms:=[om 41 5,cg 42 ase 41,om 10 42]
def Mt:=[aL 43 0 9,bl 44 1 43]
def Mu:=[cn 46 .eql 44 5,om 45 46]
def pE:=[cn 48 .eql 44 1,om 47 48]
def KM:=[om 49 6,om 50 8,aL 51 1 9,bl 52 1 51,ft 53 1 49 50,bg 1 53 52]
def sC:=[cn 55 .eql 44 2,om 54 55]
def KN:=[aL 56 0 1,aL 57 0 56,aL 58 0 57,bl 59 1 58,cn 60 .neq 59 0]
def KO:=[ok 2 vN,ok 3 vN,ok 4 (vB false)]
def KP:=[om 61 6,om 62 8,aL 63 0 1,aL 64 0 63,aL 65 2 64,bl 66 1 65,ft 67 1 61 62,bg 1 67 66]
def AC:=[cn 69 .eql 44 3,om 68 69]
def KQ:=[aL 70 1 9,bl 71 1 70,om 72 10,oo 73 (.len false (.t 72)),cI 74 .gtr 71 73]
def KR:=[ok 2 vN,ok 3 vN,ok 4 (vB false)]
def KS:=[om 75 6,om 76 8,om 77 10,aL 78 1 9,bl 79 1 78,cn 80 .sub 79 1,ft 81 1 77 80,bl 82 1 81,ft 83 1 75 76,bg 1 83 82]
def KT:=[cn 85 .eql 44 4,om 84 85]
def KU:=[om 86 6,om 87 8,om 88 7,om 89 8,ft 90 1 88 89,bl 91 1 90,ft 92 1 86 87,bg 1 92 91]
def oB:=[om 93 5,om 94 6,om 95 8,ft 96 1 94 95,bl 97 1 96,oo 98 (.bslice 1 (vI 0) 1 [(0,(.t 97))]),oo 99 (.app 1 8 (.t 93) (.t 98)),om 5 99]
def AD:=[fL 100 27 1,om 27 100]
def JM:C:=(sr Mp [1,5,6,7,25,26,27,28] (ss (sc 28 .skip (.exit 0)) (ss (.block 1 (sr Mq [1,5,6,7,8,9,25,26,27] (sr Mr [1,5,6,7,8,9,25,26,27] (sr Ms [1,5,6,7,8,9,10,25,26,27] (ss (sr Mt [1,5,6,7,8,9,10,25,26,27,44] (.block 2 (sr Mu [1,5,6,7,8,9,10,25,26,27,44,45] (sc 45 (.exit 1) (sr pE [1,5,6,7,8,9,10,25,26,27,44,47] (sc 47 (.reg KM [1,5,6,7,8,25,26,27]) (sr sC [1,5,6,7,8,9,10,25,26,27,44,54] (sc 54 (ss (sr KN [1,5,6,7,8,25,26,27,60] (sc 60 (sr KO [2,3,4] .ret) .skip)) (.reg KP [1,5,6,7,8,25,26,27])) (sr AC [1,5,6,7,8,9,10,25,26,27,44,68] (sc 68 (ss (sr KQ [1,5,6,7,8,9,10,25,26,27,74] (sc 74 (sr KR [2,3,4] .ret) .skip)) (.reg KS [1,5,6,7,8,25,26,27])) (sr KT [1,5,6,7,8,25,26,27,84] (sc 84 (.reg KU [1,5,6,7,8,25,26,27]) .skip)))))))))))) (.wk (.reg oB [1,5,6,7,25,26,27]))))))) (.reg AD [1,5,6,7,25,26,27]))))
def KV:=[om 101 6,oo 102 (.len false (.t 101)),cn 103 .sub 102 2,om 11 103]
def KW:=[om 104 11,cn 105 .geq 104 0]
def KX:=[aL 108 15 1,bl 109 1 108,om 110 11,ft 111 2 109 110,aL 112 0 111,bl 113 1 112,cn 114 .eql 113 5]
def KY:=[om 115 6,om 116 11,om 117 6,om 118 11,fL 119 118 1,ft 120 1 117 119,bl 121 1 120,ft 122 1 115 116,bg 1 122 121]
def KZ:=[om 106 11,cn 107 .sub 106 1,om 11 107]
def JN:C:=(ss (sr KW [1,6,7,11,105] (sc 105 .skip (.exit 3))) (ss (.block 4 (sr KX [1,6,7,11,114] (sc 114 (.reg KY [1,6,7,11]) .skip))) (.reg KZ [1,6,7,11])))
def K0:=[om 123 6,om 124 7,om 2 123,om 3 124,ok 4 (vB true)]
def Qk:C:=(sr Mm [1] (ss (.regD Mn Dh [1,5,6,7]) (ss (sr Mo [1,5,6,7,25,26,27] (.block 0 (.loop JM))) (ss (ss (.wk (.reg KV [1,6,7,11])) (.block 3 (.loop JN))) (sr K0 [2,3,4] .ret)))))
def ans:Nat->List Nat
 | 0=>[1]
 | 1=>[1,5,6,7]
 | 2=>[1,5,6,7,25,26,27]
 | 3=>[1,5,6,7,25,26,27,28]
 | 4=>[1,5,6,7,8,9,25,26,27]
 | 5=>[1,5,6,7,8,9,25,26,27]
 | 6=>[1,5,6,7,8,9,10,25,26,27]
 | 7=>[1,5,6,7,8,9,10,25,26,27,44]
 | 8=>[1,5,6,7,8,9,10,25,26,27,44,45]
 | 9=>[1,5,6,7,8,9,10,25,26,27,44,47]
 | 10=>[1,5,6,7,8,25,26,27]
 | 11=>[1,5,6,7,8,9,10,25,26,27,44,54]
 | 12=>[1,5,6,7,8,25,26,27,60]
 | 13=>[2,3,4]
 | 14=>[1,5,6,7,8,25,26,27]
 | 15=>[1,5,6,7,8,9,10,25,26,27,44,68]
 | 16=>[1,5,6,7,8,9,10,25,26,27,74]
 | 17=>[2,3,4]
 | 18=>[1,5,6,7,8,25,26,27]
 | 19=>[1,5,6,7,8,25,26,27,84]
 | 20=>[1,5,6,7,8,25,26,27]
 | 21=>[999999,1,5,6,7,25,26,27]
 | 22=>[1,5,6,7,25,26,27]
 | 23=>[999999,1,6,7,11]
 | 24=>[1,6,7,11,105]
 | 26=>[1,6,7,11,114]
 | 27=>[1,6,7,11]
 | 25=>[1,6,7,11]
 | 28=>[2,3,4]
 | _=>[]
theorem ahY:cE FX Qk [(.tmp 2),(.tmp 3),(.tmp 4)] 125 :=
 ⟨Tryz.f227,_,ans,func227,rfl,by kernel_rfl,by kernel_rfl,by kernel_rfl,rfl⟩
def JO:List UInt8:=[108,105,115,116]
def ML:List UInt8:=[103,114,97,110,116]
def AN:List UInt8:=[114,101,118,111,107,101]
def lA:List UInt8:=[116,114,97,110,115,102,101,114]
def Vo:List UInt8:=[115,104,111,119]
def Fk:List UInt8:=[115,104,111,114,116]
def ofW:List UInt8:=[111,102]
def rk:List UInt8:=[100,105,102,102,101,114]
def jw:List UInt8:=[99,111,110,102,108,105,99,116,115]
def Jn:List UInt8:=[102,105,110,100]
def Vu:List UInt8:=[116,101,120,116]
def okW:List UInt8:=[111,107]
def quW:List UInt8:=[63]
def aJq:List UInt8:=[110,111,110,101]
def FL (l:List Int):List UInt8:=if l=[] then aJq else A4 (l.map Lib.itoa)
def FR (s:List UInt8):List UInt8:=me [32] s
def Eb (s:List UInt8):List UInt8:=jB [32] s
def spQ (s:List UInt8):Bool:=(Z8 [32] s).isSome
theorem S2 {s:List UInt8} (h:(32:UInt8) ∉ s):FR s=s/\Eb s=[]/\spQ s=false/\parts 32 s=[s]:=by
 have:Z8 [32] s=none:=by
  refine aF3 (by simp) fun i hi hp=>h ?_;obtain ⟨t,ht⟩:=hp;exact List.mem_of_mem_drop (i:=i) (by rw[<- ht];simp)
 unfold FR Eb spQ me jB;rw[this];exact⟨rfl,rfl,rfl,eC h⟩
theorem YR {a b:List UInt8} (h:(32:UInt8) ∉ a):FR (a++32::b)=a/\Eb (a++32::b)=b/\spQ (a++32::b)=true/\parts 32 (a++32::b)=a::parts 32 b:=by
 have hf:∀ i,i < a.length->¬([32]:List UInt8) <+: (a++[32]++b).drop i:=fun i hi hp=>by
  obtain ⟨t,ht⟩:=hp
  have e:(a++[32]++b)[i]?=some 32:=by
   have:=congrArg (fun l=>l[0]?) ht;simp only[List.getElem?_drop,Nat.add_zero] at this;rw[<- this];rfl
  rw[List.append_assoc,List.getElem?_append_left hi] at e;exact h (List.mem_of_getElem? e)
 have h0:=Te hf;have h1:=Ip hf;simp only[List.append_assoc,List.cons_append,List.nil_append] at h0 h1;unfold FR Eb spQ;rw[h0,h1.1,h1.2,eW,eC h];exact⟨rfl,rfl,rfl,rfl⟩
theorem Ph (s:List UInt8):(32:UInt8) ∉ s\/∃ a b,s=a++32::b/\(32:UInt8) ∉ a:=by
 by_cases h:(32:UInt8) ∈ s
 ·obtain ⟨a,b,e,h⟩:=List.eq_append_cons_of_mem h;exact .inr ⟨a,b,e,h⟩
 ·exact .inl h
def ic (s:List UInt8):List (List UInt8) :=
 if spQ s=false then [s] else if spQ (Eb s)=false then [FR s,Eb s] else if spQ (Eb (Eb s))=false then [FR s,FR (Eb s),Eb (Eb s)] else [FR s,FR (Eb s),FR (Eb (Eb s)),Eb (Eb (Eb s))]
def Gl (s:List UInt8):Option Arms:=(xY s).bind nJ
def amq (a:Arms):List UInt8:=bH (pN (vx a) a)
def kk (l:aT):Int:=if l=[] then 1 else (List.getLastD l Dz).number+1
def yj (l:aT) (name:List UInt8) (y:Int) (a:Arms):Option (aT×Int):=if bx (l++[⟨kk l,name,y,a⟩])=true then some (l++[⟨kk l,name,y,a⟩],kk l) else none
def xD (l:aT) (n:Int):Option Nat:=l.findIdx? fun g=>g.number==n
def D7 (l:aT) (n:Int):Option aT:=(xD l n).map fun i=>l.eraseIdx i
def D6 (l:aT) (i:Nat) (name:List UInt8):aT:=l.set i ⟨(l.getD i Dz).number,name,(l.getD i Dz).year,(l.getD i Dz).arms⟩
def oX (l:aT) (n:Int) (name:List UInt8):Option aT:=(xD l n).bind fun i=>if mR name=true then some (D6 l i name) else none
def nQ (l:aT) (s:List UInt8):Option Arms:=(ol s).bind fun n=>(xD l n).map fun i=>(l.getD i Dz).arms
def V3 (l:aT) (a:Arms):List Int:=l.filterMap fun g=>if kx g.arms a < 2 then some g.number else none
def ofL (l:aT) (s:List UInt8):List Int:=l.filterMap fun g=>if g.name=s then some g.number else none
def NR (l:aT) (a:Arms):Option Int:=(l.find? fun g=>decide (g.arms=a)).map (·.number)
def reply (l:aT) (o:Option (aT×List UInt8)):aT×List UInt8:=o.getD (l,quW)
def ar8 (l:aT) (r:List UInt8):Option (aT×List UInt8) :=
 if spQ r=true/\spQ (Eb r)=true then
  (ol (FR (Eb r))).bind fun y=>(Gl (Eb (Eb r))).bind fun a=>(yj l (FR r) y a).map fun p=>(p.1,Lib.itoa p.2)
 else none
def ahQ (l:aT) (ws:List (List UInt8)):Option (aT×List UInt8) :=
 (ol (ws.getD 1 [])).bind fun n =>
  if ws.getD 0 []=AN/\ws.length=2 then (D7 l n).map fun k=>(k,okW)
  else if ws.getD 0 []=lA/\ws.length=3 then (oX l n (ws.getD 2 [])).map fun k=>(k,okW) else none
def axL (l:aT) (ws:List (List UInt8)):Option (List UInt8) :=
 (nQ l (ws.getD 1 [])).bind fun a =>
  if ws.getD 0 []=Vo/\ws.length=2 then some (nL a)
  else if ws.getD 0 []=Fk/\ws.length=2 then some (amq a)
  else if ws.getD 0 []=rk/\ws.length=3 then (nQ l (ws.getD 2 [])).map fun b=>Lib.itoa (kx a b) else none
def axH (l:aT) (w r:List UInt8):Option (List UInt8) :=
 (Gl r).bind fun a=>if w=jw then some (FL (V3 l a)) else if w=Jn then (NR l a).map Lib.itoa else some (nL a)
def aJ5 (l:aT) (w r:List UInt8):Option (List UInt8) :=
 if w=ofW then (if mR r=true then some (FL (ofL l r)) else none) else axH l w r
def ad5 (l:aT) (s:List UInt8):aT×List UInt8 :=
 if s=JO then (l,FL (l.map (·.number)))
 else if spQ s=false then (l,quW)
 else if FR s=ML then reply l (ar8 l (Eb s))
 else if FR s=AN\/FR s=lA then reply l (ahQ l (parts 32 s))
 else if FR s=Vo\/FR s=Fk\/FR s=rk then (l,(axL l (parts 32 s)).getD quW)
 else if FR s=ofW\/FR s=jw\/FR s=Jn\/FR s=Vu then (l,(aJ5 l (FR s) (Eb s)).getD quW)
 else (l,quW)
def nV (l:aT) (s:List UInt8):Option (aT×List UInt8) :=
 if (ic s).getD 0 []=ML/\(ic s).length=4 then
  (ol ((ic s).getD 2 [])).bind fun y=>(Gl ((ic s).getD 3 [])).bind fun a=>(yj l ((ic s).getD 1 []) y a).map fun p=>(p.1,Lib.itoa p.2)
 else if (ic s).getD 0 []=AN/\(ic s).length=2 then (ol ((ic s).getD 1 [])).bind fun n=>(D7 l n).map fun k=>(k,okW)
 else if (ic s).getD 0 []=lA/\(ic s).length=3 then (ol ((ic s).getD 1 [])).bind fun n=>(oX l n ((ic s).getD 2 [])).map fun k=>(k,okW)
 else none
def sA (l:aT) (s:List UInt8):Option (List UInt8) :=
 if FR s=JO then (if s=JO then some (FL (l.map (·.number))) else none)
 else if FR s=Vo then (nQ l (Eb s)).map nL
 else if FR s=Fk then (nQ l (Eb s)).map amq
 else if FR s=ofW then (if mR (Eb s)=true then some (FL (ofL l (Eb s))) else none)
 else if FR s=rk then (nQ l (FR (Eb s))).bind fun a=>(nQ l (Eb (Eb s))).map fun b=>Lib.itoa (kx a b)
 else (Gl (Eb s)).bind fun a=>if FR s=jw then some (FL (V3 l a)) else if FR s=Jn then (NR l a).map Lib.itoa else if FR s=Vu then some (nL a) else none
def aLo (l:aT) (s:List UInt8):aT×List UInt8 :=
 (nV l s).getD (l,(sA l s).getD quW)
theorem aKT (n:Int):(32:UInt8) ∉ Lib.itoa n:=by
 have key:∀ m,(32:UInt8) ∉ Lib.decDigits m:=fun m h=>by
  have:=Jm m 32 h;exact absurd this.1 (by decide)
 unfold Lib.itoa;split
 ·intro h;rcases List.mem_cons.1 h with h | h
  ·exact absurd h (by decide)
  ·exact key _ h
 ·exact key _
theorem aNA {s:List UInt8} (h:(32:UInt8) ∈ s):ol s=none:=by
 cases e:ol s with
 | none=>rfl
 | some n=>exact absurd h (by rw[<- (aua.1 e).2];exact aKT n)
theorem aRA:ol []=none:=by decide +kernel
theorem axK (l:aT):nQ l []=none:=by unfold nQ;rw[aRA];rfl
theorem aht (l:aT) {s:List UInt8} (h:(32:UInt8) ∈ s):nQ l s=none:=by unfold nQ;rw[aNA h];rfl
theorem aMG:Gl []=none:=by
 unfold Gl;have:xY []=none:=by decide +kernel
 rw[this];rfl
theorem aNI (s:List UInt8):1<=(parts 32 s).length:=by
 rcases Ph s with h | ⟨a,b,rfl,h⟩
 ·rw[(S2 h).2.2.2];simp
 ·rw[(YR h).2.2.2];simp
theorem MC {α β:Type} (o:Option α):(o.bind fun _=>(none:Option β))=none:=by cases o<;>rfl
theorem aSH (w r:List UInt8) (hw:(32:UInt8) ∉ w) :
  ((32:UInt8) ∉ r/\ic (w++32::r)=[w,r]/\parts 32 (w++32::r)=[w,r]/\spQ r=false/\FR r=r/\Eb r=[])
  \/ (∃ a b,r=a++32::b/\(32:UInt8) ∉ b/\ic (w++32::r)=[w,a,b]/\parts 32 (w++32::r)=[w,a,b]/\spQ r=true/\FR r=a/\Eb r=b/\spQ b=false)
  \/ (∃ a c d,r=a++32::(c++32::d)/\ic (w++32::r)=[w,a,c,d]/\parts 32 (w++32::r)=w::a::c::parts 32 d/\spQ r=true/\FR r=a/\Eb r=c++32::d/\spQ (c++32::d)=true/\FR (c++32::d)=c/\Eb (c++32::d)=d):=by
 obtain ⟨e1,e2,e3,e4⟩:=YR (b:=r) hw;rcases Ph r with h | ⟨a,b,rfl,ha⟩
 ·obtain ⟨f1,f2,f3,f4⟩:=S2 h;refine .inl ⟨h,?_,by rw[e4,f4],f3,f1,f2⟩;unfold ic;rw[e1,e2,e3,f3];rfl
 ·obtain ⟨f1,f2,f3,f4⟩:=YR (b:=b) ha;rcases Ph b with h | ⟨c,d,rfl,hc⟩
  ·obtain ⟨g1,g2,g3,g4⟩:=S2 h;refine .inr (.inl ⟨a,b,rfl,h,?_,by rw[e4,f4,g4],f3,f1,f2,g3⟩);unfold ic;rw[e1,e2,e3,f1,f2,f3,g3];rfl
  ·obtain ⟨g1,g2,g3,g4⟩:=YR (b:=d) hc;refine .inr (.inr ⟨a,c,d,rfl,?_,by rw[e4,f4,g4],f3,f1,f2,g3,g1,g2⟩);unfold ic;rw[e1,e2,e3,f1,f2,f3,g1,g2,g3];rfl
theorem axu (a b:List UInt8):(32:UInt8) ∈ a++32::b:=by simp
def aHB:List (List UInt8):=[JO,ML,AN,lA,Vo,Fk,ofW,rk,jw,Jn,Vu]
def JJ (w:List UInt8):Nat:=aHB.findIdx (·==w)
theorem ym {w:List UInt8} {i:Nat} (h:i < 11) (e:JJ w=i):w=aHB.getD i []:=by
 subst e;have hl:aHB.findIdx (·==w) < aHB.length:=h;have:=List.findIdx_getElem (w:=hl);rw[List.getD_eq_getElem?_getD,JJ,List.getElem?_eq_getElem hl,Option.getD_some];exact(eq_of_beq this).symm
theorem k0 {w:List UInt8}:w=JO↔JJ w=0:=⟨by rintro rfl;decide +kernel,fun h=>ym (by omega) h⟩
theorem k1 {w:List UInt8}:w=ML↔JJ w=1:=⟨by rintro rfl;decide +kernel,fun h=>ym (by omega) h⟩
theorem k2 {w:List UInt8}:w=AN↔JJ w=2:=⟨by rintro rfl;decide +kernel,fun h=>ym (by omega) h⟩
theorem k3 {w:List UInt8}:w=lA↔JJ w=3:=⟨by rintro rfl;decide +kernel,fun h=>ym (by omega) h⟩
theorem k4 {w:List UInt8}:w=Vo↔JJ w=4:=⟨by rintro rfl;decide +kernel,fun h=>ym (by omega) h⟩
theorem k5 {w:List UInt8}:w=Fk↔JJ w=5:=⟨by rintro rfl;decide +kernel,fun h=>ym (by omega) h⟩
theorem k6 {w:List UInt8}:w=ofW↔JJ w=6:=⟨by rintro rfl;decide +kernel,fun h=>ym (by omega) h⟩
theorem k7 {w:List UInt8}:w=rk↔JJ w=7:=⟨by rintro rfl;decide +kernel,fun h=>ym (by omega) h⟩
theorem k8 {w:List UInt8}:w=jw↔JJ w=8:=⟨by rintro rfl;decide +kernel,fun h=>ym (by omega) h⟩
theorem k9 {w:List UInt8}:w=Jn↔JJ w=9:=⟨by rintro rfl;decide +kernel,fun h=>ym (by omega) h⟩
theorem k10 {w:List UInt8}:w=Vu↔JJ w=10:=⟨by rintro rfl;decide +kernel,fun h=>ym (by omega) h⟩
theorem aJI (l:aT) (s:List UInt8):aLo l s=ad5 l s:=by
 rcases Ph s with h | ⟨w,r,rfl,hw⟩
 ·obtain ⟨e1,e2,e3,e4⟩:=S2 h;have e5:ic s=[s]:=by unfold ic;rw[e3];rfl
  have hc:nV l s=none:=by unfold nV;rw[e5];simp
  unfold aLo ad5;rw[hc];by_cases hl:s=JO
  ·subst hl;simp[sA,e1]
  ·have:sA l s=none:=by
    unfold sA;rw[e1,e2,if_neg hl,axK,aMG,(S2 (s:=[]) (by simp)).1,axK];simp[show mR []=false from rfl]
   rw[if_neg hl,e3,this];rfl
 ·obtain ⟨e1,e2,e3,e4⟩:=YR (b:=r) hw;have hs:¬w++32::r=JO:=fun e=>absurd (e▸axu w r:(32:UInt8) ∈ JO) (by decide)
  have hn3:∀ d:List UInt8,¬(parts 32 d).length+1+1+1=2/\¬(parts 32 d).length+1+1+1=3:=fun d=>by
   have:=aNI d;omega
  unfold aLo ad5 nV sA ar8 ahQ axL aJ5 axH reply;rw[e1,e2,e3,if_neg hs,if_neg hs];have hp0:(parts 32 (w++32::r)).getD 0 []=w:=by rw[e4];rfl
  rw[hp0]
  have h40:(ic (w++32::r)).getD 0 []=w:=by
   rcases aSH w r hw with ⟨h,s4,pt,q,a1,b1⟩ | ⟨a,b,rfl,h,s4,pt,q,a1,b1,q2⟩ | ⟨a,c,d,rfl,s4,pt,q,a1,b1,q2,a2,b2⟩<;>rw[s4]<;>rfl
  rw[h40];simp only[k0,k1,k2,k3,k4,k5,k6,k7,k8,k9,k10];generalize JJ w=k;have hk:k=0\/k=1\/k=2\/k=3\/k=4\/k=5\/k=6\/k=7\/k=8\/k=9\/k=10\/11<=k:=by omega
  rcases aSH w r hw with ⟨h,s4,pt,q,a1,b1⟩ | ⟨a,b,rfl,h,s4,pt,q,a1,b1,q2⟩ | ⟨a,c,d,rfl,s4,pt,q,a1,b1,q2,a2,b2⟩
  ·rw[s4,pt,q,a1,b1];rcases hk with rfl | rfl | rfl | rfl | rfl | rfl | rfl | rfl | rfl | rfl | rfl | hk
   all_goals simp[MC,axK]
   all_goals first | (cases nQ l r<;>rfl) | (have n0:k≠0:=by omega
                                             have n1:k≠1:=by omega
                                             have n2:k≠2:=by omega
                                             have n3:k≠3:=by omega
                                             have n4:k≠4:=by omega
                                             have n5:k≠5:=by omega
                                             have n6:k≠6:=by omega
                                             have n7:k≠7:=by omega
                                             have n8:k≠8:=by omega
                                             have n9:k≠9:=by omega
                                             have n10:k≠10:=by omega
                                             simp[n0,n1,n2,n3,n4,n5,n6,n7,n8,n9,n10,MC])
  ·rw[s4,pt,q,a1,b1,q2];rcases hk with rfl | rfl | rfl | rfl | rfl | rfl | rfl | rfl | rfl | rfl | rfl | hk
   all_goals simp[MC,aht l (axu a b)]
   all_goals first | (cases nQ l r<;>rfl) | (have n0:k≠0:=by omega
                                             have n1:k≠1:=by omega
                                             have n2:k≠2:=by omega
                                             have n3:k≠3:=by omega
                                             have n4:k≠4:=by omega
                                             have n5:k≠5:=by omega
                                             have n6:k≠6:=by omega
                                             have n7:k≠7:=by omega
                                             have n8:k≠8:=by omega
                                             have n9:k≠9:=by omega
                                             have n10:k≠10:=by omega
                                             simp[n0,n1,n2,n3,n4,n5,n6,n7,n8,n9,n10,MC])
  ·rw[s4,pt,q,a1,b1,q2,a2,b2];rcases hk with rfl | rfl | rfl | rfl | rfl | rfl | rfl | rfl | rfl | rfl | rfl | hk
   all_goals simp[MC,hn3,aht l (axu a (c++32::d)),aht l (axu c d)]
   all_goals first | (cases nQ l r<;>rfl) | (have n0:k≠0:=by omega
                                             have n1:k≠1:=by omega
                                             have n2:k≠2:=by omega
                                             have n3:k≠3:=by omega
                                             have n4:k≠4:=by omega
                                             have n5:k≠5:=by omega
                                             have n6:k≠6:=by omega
                                             have n7:k≠7:=by omega
                                             have n8:k≠8:=by omega
                                             have n9:k≠9:=by omega
                                             have n10:k≠10:=by omega
                                             simp[n0,n1,n2,n3,n4,n5,n6,n7,n8,n9,n10,MC])
def ag8 (x:Int):Prop:=fV x 1 9=true
theorem aCz:∀ (l out:List Int),∀ x ∈ l.foldl (fun out x=>if out.contains x then out else out++[x]) out,x ∈ out\/x ∈ l
 | [],out,x,h=>.inl h
 | y::l,out,x,h=>by
   rcases aCz l _ x h with h | h
   ·dsimp only at h;split at h
    ·exact .inl h
    ·rcases List.mem_append.1 h with h | h
     ·exact .inl h
     ·exact .inr (by rw[List.mem_singleton.1 h];simp)
   ·exact .inr (List.mem_cons_of_mem _ h)
theorem aQp {f:Field} (hf:cN f=true) {m:List Int} (hm:m≠[]) (hv:∀ x ∈ m,ag8 x) {s:Slot} (hs:dF s=true) {t:Int} (h:Mz f m s=some t):(s.mode=5/\t=0)\/(s.mode≠5/\ag8 t):=by
 unfold Mz at h;split at h
 ·rename_i e;injection h with h
  exact .inl ⟨e,h.symm⟩
 ·rename_i e;refine .inr ⟨e,?_⟩;split at h
  ·rename_i e1;injection h with h
   subst h;unfold dF at hs;rw[if_pos e1] at hs;exact hs
  ·split at h
   ·split at h
    ·injection h with h
     subst h;simp only[cN,Bool.and_eq_true] at hf;exact hf.1.2
    ·cases h
   ·split at h
    ·rename_i e3;split at h
     ·rename_i hl;injection h with h
      subst h;unfold dF at hs;rw[if_neg (by omega),if_pos e3] at hs;have:=db.1 hs;have hi:(s.number - 1).toNat < (iv m).length:=by omega
      rw[List.getD_eq_getElem?_getD,List.getElem?_eq_getElem hi,Option.getD_some];rcases aCz m [] _ (List.getElem_mem hi) with h | h
      ·simp at h
      ·exact hv _ h
     ·cases h
    ·injection h with h
     subst h;rw[List.getLastD_eq_getLast?,List.getLast?_eq_some_getLast hm,Option.getD_some];exact hv _ (List.getLast_mem hm)
theorem ayV {f:Field} (hf:cN f=true):∀ {ss:List Slot} {m l:List Int},m≠[]->(∀ x ∈ m,ag8 x)->(∀ s ∈ ss,dF s=true)->jz f m ss=some l->∀ j (h:j < ss.length) (h':j < l.length),(ss[j].mode=5/\l[j]=0)\/(ss[j].mode≠5/\ag8 l[j])
 | [],_,_,_,_,_,_,j,h,_=>absurd h (by simp)
 | s::ss,m,l,hm,hv,hs,e,j,h,h'=>by
   unfold jz at e;obtain ⟨t,ht,e⟩:=Option.bind_eq_some_iff.1 e;obtain ⟨l',e1,rfl⟩:=Option.map_eq_some_iff.1 e;have h0:=aQp hf hm hv (hs s (by simp)) ht;cases j with
   | zero=>simpa using h0
   | succ j =>
     have key:(if s.mode=5 then m else m++[t])≠[]/\∀ x ∈ (if s.mode=5 then m else m++[t]),ag8 x:=by
      split
      ·exact⟨hm,hv⟩
      ·rename_i e5;refine⟨by simp,fun x hx=>?_⟩;rcases List.mem_append.1 hx with hx | hx
       ·exact hv x hx
       ·rw[List.mem_singleton.1 hx];rcases h0 with h0 | h0
        ·exact absurd h0.1 e5
        ·exact h0.2
     have:=ayV hf key.1 key.2 (fun x hx=>hs x (List.mem_cons_of_mem _ hx)) e1 j (by simpa using h) (by simpa using h');simpa using this
theorem aMs:∀ {l:List Int},(∀ x ∈ l,x=0\/ag8 x)->(l≠[]->l.getLastD 0≠0)->∀ x ∈ gU l,ag8 x
 | [],_,_,x,h=>by simp[gU] at h
 | [y],hv,hl,x,h=>by
   have hy:=hv y (by simp);have:=hl (by simp);simp only[gU,List.mem_cons,List.headD_nil] at h;simp only[List.getLastD_cons,List.getLastD_nil] at this;rw[if_neg this] at h;rcases h with rfl | h
   ·exact hy.resolve_left this
   ·simp at h
 | y::z::l,hv,hl,x,h=>by
   have ih:=aMs (l:=z::l) (fun x hx=>hv x (List.mem_cons_of_mem _ hx)) (fun _=>by have:=hl (by simp);simpa using this);rw[gU] at h;rcases List.mem_cons.1 h with rfl | h
   ·split
    ·have hne:gU (z::l)≠[]:=by simp[gU]
     refine ih _ ?_;cases e:gU (z::l) with
     | nil=>exact absurd e hne
     | cons a b=>simp
    ·rename_i e;exact(hv y (by simp)).resolve_left e
   ·exact ih x h
theorem aM2 {a:Arms} (ha:arms a=true) {l:List Int} (hl:nO a+nN a+nR a<=l.length) (hv:∀ x ∈ l,ag8 x):arms (Ir a l)=true:=by
 obtain ⟨ho,hn,hr⟩:=mM ha
 have get:∀ i,i < l.length->ag8 (l.getD i 0):=fun i h=>by
  rw[List.getD_eq_getElem?_getD,List.getElem?_eq_getElem h,Option.getD_some];exact hv _ (List.getElem_mem h)
 have f1:(g0 (zM a.on (l.getD (nO a) 0))||bQ (zM a.on (l.getD (nO a) 0)))=true:=by
  cases e:g0 a.on with
  | true=>unfold zM;rw[if_pos e,e];rfl
  | false=>exact acW hn (get _ (by unfold nN at hl;simp[e] at hl;omega))
 have f2:(g0 (zM a.around (l.getD (nO a+nN a) 0))||bQ (zM a.around (l.getD (nO a+nN a) 0)))=true:=by
  cases e:g0 a.around with
  | true=>unfold zM;rw[if_pos e,e];rfl
  | false=>exact acW hr (get _ (by unfold nR at hl;simp[e] at hl;omega))
 have e1:=atz hn (l.getD (nO a) 0);unfold arms Ir;dsimp only;rw[gM ha,f2,Bool.true_and,Bool.true_and];by_cases h0:a.ordinary=0
 ·obtain ⟨z1,z2,z3⟩:=amR ha h0;rw[if_pos h0,if_pos h0,e1,z1,z2,z3];rfl
 ·obtain ⟨q1,q2⟩:=ho.2.2.2 h0;have g:fV (l.getD 0 0) 1 9=true:=get 0 (by unfold nO at hl;simp[h0] at hl;omega);rw[if_neg h0,if_neg h0,f1,g,db.2 q1,show fV a.ordinary 1 7=true from db.2 (by omega)];rfl
theorem acy {f:Field} (h:cN f=true):fa f≠[]/\∀ x ∈ fa f,ag8 x:=by
 simp only[cN,Bool.and_eq_true] at h;unfold fa;by_cases h0:f.division=0
 ·rw[if_pos h0];refine⟨by simp,fun x hx=>?_⟩;rw[List.mem_singleton.1 hx];exact h.1.2
 ·have h2:=h.2;rw[if_neg h0] at h2 ⊢;rw[Bool.and_eq_true] at h2;refine⟨by simp,fun x hx=>?_⟩;rcases List.mem_cons.1 hx with rfl | hx
  ·exact h.1.2
  ·rw[List.mem_singleton.1 hx];exact h2.1
theorem aHb {k:Sk} {a:Arms} (h:bM k=true) (e:nJ k=some a):arms a=true:=by
 obtain ⟨ha,hs,hl,hg,hlast⟩:=uR h;obtain ⟨l,e1,rfl⟩:=Option.map_eq_some_iff.1 e;have hf:=gM ha;obtain ⟨t1,t2⟩:=acy hf;have hst:=ayV hf t1 t2 hs e1;have hlen:=Vs e1;refine aM2 ha (by rw[EE,hlen,hl];omega) (aMs (fun x hx=>?_) fun hne=>?_)
 ·obtain ⟨j,hj,rfl⟩:=List.getElem_of_mem hx;rcases hst j (by omega) hj with h | h
  ·exact .inl h.2
  ·exact .inr h.2
 ·have hne2:k.slots≠[]:=fun h0=>hne (List.eq_nil_of_length_eq_zero (by rw[hlen,h0];rfl));have hm:=hlast hne2;have hp:=List.length_pos_iff.2 hne;have:=hst (l.length - 1) (by omega) (by omega);rw[List.getLastD_eq_getLast?,List.getLast?_eq_getElem?] at hm ⊢;rw[<- hlen,List.getElem?_eq_getElem (show l.length - 1 < k.slots.length by omega),Option.getD_some] at hm;rw[List.getElem?_eq_getElem (show l.length - 1 < l.length by omega),Option.getD_some];rcases this with h | h
  ·exact absurd h.1 hm
  ·intro h0;have:=db.1 h.2;omega
theorem aBM {s:List UInt8} {a:Arms} (h:Gl s=some a):arms a=true:=by
 obtain ⟨k,h1,h2⟩:=Option.bind_eq_some_iff.1 h;exact aHb (ams.1 h1).1 h2
theorem atu (l:List Int) (x:Int):l.contains x=decide (0<=idx (fun y=>decide (y=x)) l):=by
 rw[amZ,Bool.eq_iff_iff,List.contains_iff_mem,List.any_eq_true];simp
theorem amt (l:List Int) (x:Int):di vd [.ro 1 (mi l),I x] (B (l.contains x)):=by
 refine aa.of Tw (by simp) ?_;simp[FG,DR,DS];refine al (aa.ag (amv l x)) ?_;rw[atu];simp
theorem azF (l:List Int) {i:Nat} (h:i < l.length):iv (l.take (i+1))=if (iv (l.take i)).contains l[i] then iv (l.take i) else iv (l.take i)++[l[i]]:=by
 unfold iv;rw[dP h,List.foldl_append];rfl
theorem aFj (l:List Int):(iv l).length<=l.length:=by
 unfold iv
 have:∀ (l out:List Int),(l.foldl (fun out x=>if out.contains x then out else out++[x]) out).length<=out.length+l.length:=fun l=>by
  induction l with
  | nil=>intro out;simp
  | cons x l ih =>
    intro out;rw[List.foldl_cons,List.length_cons];have h1:=ih (if out.contains x then out else out++[x]);have h2:(if out.contains x then out else out++[x]).length<=out.length+1:=by split<;>simp
    omega
 simpa using this l []
theorem aPo (l:List Int) (hl:l.length<=1000000):di ase [.ro 1 (mi l)] (.own 1 (mi (iv l))):=by
 refine aa.of aIb (by simp) ?_;simp[aBU,aus,aut,auu,atX];refine dl (fun p:Nat×List Int=>⟨[(3,.sl 6 0 p.2.length),(7,.ro 1 (mi l)),(8,I l.length),(9,I p.1)],[(6,⟨1,mi p.2⟩)],[]⟩) (fun p=>l.length - p.1) (fun p=>p.1<=l.length/\p.2=iv (l.take p.1)) (0,[]) Wk.li (by simp[iv]) ?_;rintro ⟨i,L⟩ ⟨hi,hL⟩ K hN hR hE;dsimp only at hi hL;have hle:=aFj (l.take i);rw[<- hL,List.length_take] at hle;simp[auv,auz];refine⟨fun hlt=>?_,fun hge=>?_⟩
 ·have hst:=azF l hlt;rw[<- hL] at hst;simp[auw,aux,hlt];refine al (aa.ag (amt L l[i])) ?_;cases hc:L.contains l[i] with
  | true =>
    rw[hc,if_pos rfl] at hst;simp;rw[aD (by omega)];exact hN (i+1,L) _ (by dsimp only;omega) ⟨by dsimp only;omega,hst.symm⟩ Wk.li
  | false =>
    rw[hc,if_neg (by simp)] at hst;simp[auy];refine⟨by unfold bR;omega,?_⟩;rw[aD (by omega)];refine hN (i+1,L++[l[i]]) _ (by dsimp only;omega) ⟨by dsimp only;omega,hst.symm⟩ (Wk.trans (Wk.ren 20 6 (by decide) (by simp)) (Wk.list rfl ?_ ?_))
    ·simp
    ·simp
 ·refine hE _ _ ?_;obtain rfl:i=l.length:=by omega
  rw[List.take_of_length_le (by omega)] at hL;simp[auA,hL]
theorem aAF {l:List Int} (h:l≠[]):l[l.length - 1]?=some (l.getLastD 0):=by
 have h1:=List.length_pos_iff.2 h;rw[List.getLastD_eq_getLast?,List.getLast?_eq_getElem?,List.getElem?_eq_getElem (by omega)];rfl
def aaA (f:Field) (m:List Int) (s:Slot):List Int:=match Mz f m s with | some t=>if s.mode=5 then m else m++[t] | none=>m
def ac5 (f:Field):List Int->List Slot->List Int
 | _,[]=>[]
 | m,s::ss=>m.getLastD 0::ac5 f (aaA f m s) ss
theorem rf {f:Field} {m:List Int} {s:Slot} {ss:List Slot} {t:Int} (h:Mz f m s=some t):jz f m (s::ss)=(jz f (aaA f m s) ss).map (t::·):=by
 have hn:aaA f m s=if s.mode=5 then m else m++[t]:=by unfold aaA;rw[h]
 rw[jz,h,Option.bind_some,hn]
theorem Pk {f:Field} {m:List Int} {s:Slot} {ss:List Slot} (h:Mz f m s=none):jz f m (s::ss)=none:=by
 rw[jz,h];rfl
structure RS where
 i:Nat
 m:List Int
 o:List Int
 ls:List Int
def ahj (k:Sk) (x:RS):AS:=⟨[(1,.ref 1 0 0),(5,.sl 15 0 x.m.length),(6,.sl 19 0 k.slots.length),(7,.sl 23 0 k.slots.length),(25,.ro 2 (k.slots.map eX)),(26,I k.slots.length),(27,I x.i)],
 [(1,⟨16,[eSk k]⟩),(15,⟨1,mi x.m⟩),(19,⟨1,mi x.o++List.replicate (k.slots.length - x.i) (I 0)⟩),(23,⟨1,mi x.ls++List.replicate (k.slots.length - x.i) (I 0)⟩)],[]⟩
def aVV (k:Sk) (x:RS):Prop:=x.i<=k.slots.length/\x.o.length=x.i/\x.ls.length=x.i/\x.m≠[]/\x.m.length<=2+x.i/\jz k.arms.field (fa k.arms.field) k.slots=(jz k.arms.field x.m (k.slots.drop x.i)).map (x.o++·) /\
 ac5 k.arms.field (fa k.arms.field) k.slots=x.ls++ac5 k.arms.field x.m (k.slots.drop x.i)
def axg (k:Sk):V:=match jz k.arms.field (fa k.arms.field) k.slots with
 | some l=>.tup [.own 1 (mi (gU l)),.own 1 (mi (ac5 k.arms.field (fa k.arms.field) k.slots)),B true]
 | none=>.tup [.own 1 [],.own 1 [],B false]
def Sg (k:Sk) (x:RS) (t u:Int):AS:=⟨[(1,.ref 1 0 0),(5,.sl 15 0 x.m.length),(6,.sl 19 0 k.slots.length),(7,.sl 23 0 k.slots.length),(8,I x.i),(25,.ro 2 (k.slots.map eX)),(26,I k.slots.length),(27,I x.i)],
 [(1,⟨16,[eSk k]⟩),(15,⟨1,mi x.m⟩),(19,⟨1,mi x.o++I t::List.replicate (k.slots.length - (x.i+1)) (I 0)⟩),(23,⟨1,mi x.ls++I u::List.replicate (k.slots.length - (x.i+1)) (I 0)⟩)],[]⟩
@[simp] theorem aVW (i j n:Nat) (v:V):Jd i j (List.replicate n v)=List.replicate n (ren i j v):=by induction n<;>simp_all [List.replicate_succ]
theorem aNf {β:Type} {xs:List β} {z:β} {n i:Nat} (h:i < n):xs++List.replicate (n - i) z=xs++z::List.replicate (n - (i+1)) z:=by
 rw[show n - i=(n - (i+1))+1 by omega,List.replicate_succ]
theorem aFy {l:List Int} {j:Nat} (h:j < l.length):gU (l.drop j)=(if l[j]=0 then (gU (l.drop (j+1))).headD 0 else l[j])::gU (l.drop (j+1)):=by
 rw[yf h,gU]
set_option maxHeartbeats 2000000 in
theorem V9 (k:Sk) (h:bM k=true):di FX [eSk k] (axg k):=by
 obtain ⟨q1,q2,q3,q4,q5⟩:=uR h;have hq:k.slots.length<=3:=by rw[q3,<- r8];exact uV _
 have ht0:=(acy (gM q1)).1;have ht1:(fa k.arms.field).length<=2:=by unfold fa;split<;>simp
 refine aa.ofN ahY (by simp) ?_;simp[Qk,Mm,Mn,Dh];refine gm (aa.ag (Jz k.arms.field)) ?_;simp;refine⟨by simp[bR];omega,?_⟩;refine⟨a7 (by simp[Dh]) (by simp),?_⟩;simp[Mo,JM]
 refine aMp (ahj k) (fun x=>k.slots.length - x.i) (aVV k) ⟨0,fa k.arms.field,[],[]⟩ (Wk.list rfl (by simp[ahj]) (by simp[ahj])) ⟨by simp,rfl,rfl,ht0,by simpa using ht1,by simp,by simp⟩
  (fun s'=>∃ x,aVV k x/\x.i=k.slots.length/\Wk s' (ahj k x)) 0 ?_ ?_
 ·rintro s' ⟨x,hx,hxi,hw⟩;simp;refine cp _ hw ?_;obtain ⟨i,m,l,ls⟩:=x;obtain ⟨r1,r2,r3,r4,r5,r6,r7⟩:=hx;dsimp only at r1 r2 r3 r4 r5 r6 r7 hxi;subst hxi;rw[List.drop_of_length_le (Nat.le_refl _)] at r6 r7
  have hres:axg k=.tup [.own 1 (mi (gU l)),.own 1 (mi ls),B true]:=by
   unfold axg;rw[r6,r7];simp[jz,ac5]
  have hst:jz k.arms.field (fa k.arms.field) k.slots=some l:=by rw[r6];simp[jz]
  have hz:=ayV (gM q1) ht0 (acy (gM q1)).2 q2 hst;rw[hres];simp[ahj,KV,JN]
  refine dl (fun p:Int×List Int=>⟨[(1,.ref 1 0 0),(6,.sl 19 0 k.slots.length),(7,.sl 23 0 k.slots.length),(11,I p.1)],[(1,⟨16,[eSk k]⟩),(19,⟨1,mi p.2⟩),(23,⟨1,mi ls⟩)],[]⟩) (fun p=>(p.1+1).toNat)
   (fun p => -2<=p.1/\p.2.length=k.slots.length/\(p.1 < 0->p.2=gU l)/\(0<=p.1->p.1+2<=k.slots.length/\p.2=l.take (p.1.toNat+1)++gU (l.drop (p.1.toNat+1)))) ((k.slots.length:Int) - 2,l) (Wk.list rfl (by simp;exact aD (by omega)) (by simp)) ⟨by dsimp only;omega,r2,fun h=>?_,fun h=>⟨by dsimp only;omega,?_⟩⟩ ?_
  ·dsimp only at h ⊢;rcases l with _ | ⟨x,_ | ⟨y,l⟩⟩
   ·rfl
   ·simp[gU]
   ·simp only[List.length_cons] at r2;omega
  ·dsimp only at h ⊢;have e:((k.slots.length:Int) - 2).toNat+1=l.length - 1:=by omega
   rw[e]
   have hd:l.drop (l.length - 1)=[l[l.length - 1]'(by omega)]:=by
    rw[yf (by omega),List.drop_of_length_le (by omega)]
   rw[hd];have h1:∀ x:Int,gU [x]=[x]:=fun x=>by simp[gU];intro h;exact h.symm
   rw[h1,<- hd];exact(List.take_append_drop _ _).symm
  ·rintro ⟨j,o⟩ ⟨s1,s2,s3,s4⟩ K hN hR hE;dsimp only at s1 s2 s3 s4;simp[KW,KZ];refine⟨fun hge=>?_,fun hlt=>?_⟩
   ·obtain ⟨b1,b2⟩:=s4 hge;obtain ⟨n,rfl⟩:∃ n:Nat,j=n:=⟨j.toNat,by omega⟩;have hn:n < k.slots.length:=by omega
    have hnl:n < l.length:=by omega
    obtain ⟨sl,hsl⟩:∃ sl,k.slots[n]=sl:=⟨_,rfl⟩;have hg:k.slots[n]?=some sl:=by rw[<- hsl];exact List.getElem?_eq_getElem hn
    have hzn:=hz n hn hnl;rw[hsl] at hzn;obtain ⟨md,nu⟩:=sl;have hnd:=aFy hnl;simp only[Int.toNat_natCast] at b2
    have ho1:o[n+1]?=some ((gU (l.drop (n+1))).headD 0):=by
     have h1:0 < (gU (l.drop (n+1))).length:=by rw[EE,List.length_drop];omega
     rw[b2,List.getElem?_append_right (by rw[List.length_take];omega),List.length_take,Nat.min_eq_left (by omega),Nat.sub_self];cases e:gU (l.drop (n+1)) with
     | nil=>rw[e] at h1;simp at h1
     | cons a r=>rfl
    have hok:∀ o':List Int,o'=l.take n++gU (l.drop n) -> -2<=(n:Int) - 1/\o'.length=k.slots.length/\((n:Int) - 1 < 0->o'=gU l)/\(0<=(n:Int) - 1->(n:Int) - 1+2<=k.slots.length/\o'=l.take (((n:Int) - 1).toNat+1)++gU (l.drop (((n:Int) - 1).toNat+1))):=fun o' e=>by
     refine⟨by omega,?_,fun h=>?_,fun h=>⟨by omega,?_⟩⟩
     ·rw[e,List.length_append,EE,List.length_take,List.length_drop];omega
     ·have:n=0:=by omega
      subst this;simpa using e
     ·rw[show ((n:Int) - 1).toNat+1=n by omega];exact e
    have htk:l.take (n+1)=l.take n++[l[n]]:=dP hnl;have hgo:=hN;simp[KX,hg];refine⟨by omega,?_⟩;rcases hzn with ⟨z1,z2⟩ | ⟨z1,z2⟩
    ·dsimp only at z1
     have hset:o.set n ((gU (l.drop (n+1))).headD 0)=l.take n++gU (l.drop n):=by
      rw[hnd,z2,if_pos rfl,b2,htk,List.append_assoc,List.singleton_append,fK (by rw[List.length_take];omega)]
     simp[z1,KY];rw[aD (by omega)];have e1:((n:Int)+1).toNat=n+1:=by omega
     simp only[e1,ho1];have hlo:n < o.length:=by omega
     simp
     repeat (refine⟨by omega,?_⟩)
     simp[hlo]
     repeat (refine⟨by omega,?_⟩)
     rw[aD (by omega)];refine hN ((n:Int) - 1,o.set n ((gU (l.drop (n+1))).headD 0)) _ (by dsimp only;omega) (hok _ hset) (Wk.list rfl (by simp) ?_);simp
    ·dsimp only at z1;have hz0:l[n]≠0:=fun h=>by rw[h] at z2;exact absurd z2 (by unfold ag8;decide)
     have ho2:o=l.take n++gU (l.drop n):=by rw[hnd,if_neg hz0,b2,htk,List.append_assoc,List.singleton_append]
     simp[z1];rw[aD (by omega)];exact hN ((n:Int) - 1,o) _ (by dsimp only;omega) (hok o ho2) Wk.li
   ·refine hE _ _ ?_;have e:=s3 (by omega);subst e;simp[K0];exact⟨by rw[EE];exact r2.symm,r3.symm⟩
 ·rintro ⟨i,m,o,ls⟩ ⟨r1,r2,r3,r4,r5,r6,r7⟩ K hN hR hE;dsimp only at r1 r2 r3 r4 r5 r6 r7;simp[ahj,Mp,AD];refine⟨fun hlt=>?_,fun hge=>?_⟩
  ·rw[yf hlt] at r6 r7;have hsok:=q2 k.slots[i] (List.getElem_mem hlt);obtain ⟨sl,hsl⟩:∃ sl,k.slots[i]=sl:=⟨_,rfl⟩;have hg:k.slots[i]?=some sl:=by rw[<- hsl];exact List.getElem?_eq_getElem hlt
   rw[hsl] at r6 r7 hsok;obtain ⟨md,nu⟩:=sl;have hlast:=aAF r4;have hol:(mi o).length=i:=by simp[r2]
   have hll:(mi ls).length=i:=by simp[r3]
   simp[Mq,hg];simp[Mr];rw[aD (by omega)];have e3:((m.length:Int) - 1).toNat=m.length - 1:=by omega
   have hmp:=List.length_pos_iff.2 r4;simp[e3,hlast,vD hll hlt,rV hll hlt]
   repeat (refine⟨by omega,?_⟩)
   obtain ⟨u,hu⟩:∃ u,m.getLastD 0=u:=⟨_,rfl⟩;have hu2:m.getLast?.getD 0=u:=by rw[<- hu,List.getLastD_eq_getLast?]
   simp only[hu2];simp[Ms];refine aZ (aa.ag (aPo m (by omega))) ?_;simp[Mt,Mu];have hL:ac5 k.arms.field m (⟨md,nu⟩::List.drop (i+1) k.slots)=u::ac5 k.arms.field (aaA k.arms.field m ⟨md,nu⟩) (List.drop (i+1) k.slots):=by rw[ac5,hu]
   rw[hL] at r7;by_cases m5:md=5
   ·subst m5;have hv:Mz k.arms.field m ⟨5,nu⟩=some 0:=rfl;have hn:aaA k.arms.field m ⟨5,nu⟩=m:=rfl;rw[rf hv,hn] at r6;rw[hn] at r7;simp[AD];rw[aD (by omega)];refine hN ⟨i+1,m,o++[0],ls++[u]⟩ _ (by dsimp only;omega) ⟨by dsimp only;omega,by simp[r2],by simp[r3],r4,by dsimp only;omega,?_,?_⟩ (Wk.list rfl ?_ ?_)
    ·rw[r6,Option.map_map];congr 1;funext z;simp
    ·rw[r7];simp
    ·simp[ahj]
    ·simp[ahj,aNf hlt]
   ·have hval:∀ t,Mz k.arms.field m ⟨md,nu⟩=some t->aaA k.arms.field m ⟨md,nu⟩=m++[t]:=fun t hv=>by unfold aaA;rw[hv];simp[m5]
    obtain ⟨ov,hov⟩:∃ ov,Mz k.arms.field m ⟨md,nu⟩=ov:=⟨_,rfl⟩
    have hdef:ov=if md=5 then some 0 else if md=1 then some nu else if md=2 then (if k.arms.field.division=0 then some k.arms.field.first else none)
     else if md=3 then (if nu<=(iv m).length then some ((iv m).getD (nu - 1).toNat 0) else none) else some (m.getLastD 0):=by rw[<- hov];rfl
    rw[if_neg m5] at hdef;unfold dF at hsok;dsimp only at hsok;by_cases m1:md=1
    ·subst m1;rw[if_pos rfl] at hdef;simp[pE,KM,vD hol hlt,rV hol hlt]
     repeat (refine⟨by omega,?_⟩)
     refine cp (Sg k ⟨i,m,o,ls⟩ nu u) (Wk.list rfl (by simp[Sg]) (by simp[Sg])) ?_;have hn:=hval nu (by rw[hov,hdef]);rw[rf (t:=nu) (by rw[hov,hdef]),hn] at r6;rw[hn] at r7;simp[Sg,oB,fJ hol]
     repeat (refine⟨by first | omega | (unfold bR;omega),?_⟩)
     rw[aD (by omega)];refine hN ⟨i+1,m++[nu],o++[nu],ls++[u]⟩ _ (by dsimp only;omega) ⟨by dsimp only;omega,by simp[r2],by simp[r3],by simp,by simp;omega,?_,?_⟩ (Wk.trans (Wk.ren 99 15 (by decide) (by simp)) (Wk.list rfl ?_ ?_))
     ·rw[r6,Option.map_map];congr 1;funext z;simp
     ·rw[r7];simp
     ·simp[ahj]
     ·simp[ahj]
    ·rw[if_neg m1] at hdef;by_cases m2:md=2
     ·subst m2;rw[if_pos rfl] at hdef;simp[pE,sC,KN];by_cases hd:k.arms.field.division=0
      ·rw[if_pos hd] at hdef;simp[hd,KP,vD hol hlt,rV hol hlt]
       repeat (refine⟨by omega,?_⟩)
       refine cp (Sg k ⟨i,m,o,ls⟩ k.arms.field.first u) (Wk.list rfl (by simp[Sg]) (by simp[Sg])) ?_;have hn:=hval k.arms.field.first (by rw[hov,hdef])
       rw[rf (t:=k.arms.field.first) (by rw[hov,hdef]),hn] at r6;rw[hn] at r7;simp[Sg,oB,fJ hol]
       repeat (refine⟨by first | omega | (unfold bR;omega),?_⟩)
       rw[aD (by omega)];refine hN ⟨i+1,m++[k.arms.field.first],o++[k.arms.field.first],ls++[u]⟩ _ (by dsimp only;omega) ⟨by dsimp only;omega,by simp[r2],by simp[r3],by simp,by simp;omega,?_,?_⟩ (Wk.trans (Wk.ren 99 15 (by decide) (by simp)) (Wk.list rfl ?_ ?_))
       ·rw[r6,Option.map_map];congr 1;funext z;simp
       ·rw[r7];simp
       ·simp[ahj]
       ·simp[ahj]
      ·rw[if_neg hd] at hdef;simp[hd,KO];refine hR _ ?_;have hnone:jz k.arms.field (fa k.arms.field) k.slots=none:=by rw[r6,Pk (by rw[hov,hdef])];rfl
       simp[axg,hnone]
     ·rw[if_neg m2] at hdef;by_cases m3:md=3
      ·subst m3;rw[if_pos rfl] at hdef;simp[fV] at hsok;simp[pE,sC,AC,KQ];by_cases hd:nu<=(iv m).length
       ·rw[if_pos hd] at hdef
        have hfg:(iv m)[(nu - 1).toNat]?=some ((iv m).getD (nu - 1).toNat 0):=by
         rw[List.getD_eq_getElem?_getD,List.getElem?_eq_getElem (by omega)];rfl
        have hd':¬((iv m).length:Int) < nu:=by omega
        obtain ⟨fv,hfv⟩:∃ fv,(iv m).getD (nu - 1).toNat 0=fv:=⟨_,rfl⟩;rw[hfv] at hfg hdef;simp[hd',KS];refine fun _=>?_;rw[aD (by omega)];have e5:(nu - 1).toNat=nu.toNat - 1:=by omega
        rw[e5] at hfg;simp[hfg,vD hol hlt,rV hol hlt]
        repeat (refine⟨by omega,?_⟩)
        refine cp (Sg k ⟨i,m,o,ls⟩ fv u) (Wk.list rfl (by simp[Sg]) (by simp[Sg])) ?_;have hn:=hval fv (by rw[hov,hdef]);rw[rf (t:=fv) (by rw[hov,hdef]),hn] at r6;rw[hn] at r7;simp[Sg,oB,fJ hol]
        repeat (refine⟨by first | omega | (unfold bR;omega),?_⟩)
        rw[aD (by omega)];refine hN ⟨i+1,m++[fv],o++[fv],ls++[u]⟩ _ (by dsimp only;omega) ⟨by dsimp only;omega,by simp[r2],by simp[r3],by simp,by simp;omega,?_,?_⟩ (Wk.trans (Wk.ren 99 15 (by decide) (by simp)) (Wk.list rfl ?_ ?_))
        ·rw[r6,Option.map_map];congr 1;funext z;simp
        ·rw[r7];simp
        ·simp[ahj]
        ·simp[ahj]
       ·rw[if_neg hd] at hdef;have hd':((iv m).length:Int) < nu:=by omega
        simp[hd',KR];refine⟨hR _ ?_,fun h=>by omega⟩;have hnone:jz k.arms.field (fa k.arms.field) k.slots=none:=by rw[r6,Pk (by rw[hov,hdef])];rfl
        simp[axg,hnone]
      ·rw[if_neg m3] at hdef;have m4:md=4:=by simp[m1,m3,fV] at hsok;omega
       subst m4;simp[pE,sC,AC,KT,KU,vD hol hlt,rV hol hlt];simp[fJ hll,vD hol hlt,rV hol hlt]
       repeat (refine⟨by omega,?_⟩)
       rw[hu] at hdef;refine cp (Sg k ⟨i,m,o,ls⟩ u u) (Wk.list rfl (by simp[Sg]) (by simp[Sg])) ?_;have hn:=hval u (by rw[hov,hdef]);rw[rf (t:=u) (by rw[hov,hdef]),hn] at r6;rw[hn] at r7;simp[Sg,oB,fJ hol]
       repeat (refine⟨by first | omega | (unfold bR;omega),?_⟩)
       rw[aD (by omega)];refine hN ⟨i+1,m++[u],o++[u],ls++[u]⟩ _ (by dsimp only;omega) ⟨by dsimp only;omega,by simp[r2],by simp[r3],by simp,by simp;omega,?_,?_⟩ (Wk.trans (Wk.ren 99 15 (by decide) (by simp)) (Wk.list rfl ?_ ?_))
       ·rw[r6,Option.map_map];congr 1;funext z;simp
       ·rw[r7];simp
       ·simp[ahj]
       ·simp[ahj]
  ·refine hE _ ⟨⟨i,m,o,ls⟩,⟨r1,r2,r3,r4,r5,r6,r7⟩,by dsimp only;omega,Wk.list rfl (by simp[ahj]) (by simp[ahj])⟩
theorem aRR (l:List Int) (x:Int):di ayt [.ro 1 (mi l),I x] (B (l.contains x)):=by
 refine aa.ofL aKG (by simp) fun hl=>?_;simp at hl;rw[atu,amZ];simp[aE4,az9,aAa,azP];refine dl (fun i:Nat=>⟨[(0,.ro 1 (mi l)),(1,I x),(5,I i)],[],[]⟩) (fun i=>l.length - i) (fun i=>i<=l.length/\(l.take i).any (fun y=>decide (y=x))=false) 0 Wk.li (by simp) ?_;rintro i ⟨hi,hj⟩ K hN hR hE;simp[aAb,aAe];refine⟨fun hlt=>?_,fun hge=>?_⟩
 ·simp[aAc,hlt];refine⟨fun ht=>?_,fun hf=>?_⟩
  ·simp[aAd];refine hR _ ?_;have e:l.any (fun y=>decide (y=x))=true:=List.any_eq_true.2 ⟨l[i],List.getElem_mem _,by simpa using ht⟩;rw[e];simp
  ·rw[aD (by omega)];refine hN (i+1) _ (by omega) ⟨by omega,?_⟩ Wk.li;rw[dP hlt,List.any_append,hj];simpa using hf
 ·refine hE _ _ ?_;have e:i=l.length:=by omega
  rw[e,List.take_of_length_le (Nat.le_refl _)] at hj;rw[hj];simp[aAf]
theorem aNR (l:List Int) (hl:l.length<=1000000):di ait [.ro 1 (mi l)] (.own 1 (mi (iv l))):=by
 refine aa.of aGx (by simp) ?_;simp[azn,aqe,aqf,aqg,an3];refine dl (fun p:Nat×List Int=>⟨[(0,.ro 1 (mi l)),(3,.sl 5 0 p.2.length),(4,I p.1)],[(5,⟨1,mi p.2⟩)],[]⟩) (fun p=>l.length - p.1) (fun p=>p.1<=l.length/\p.2=iv (l.take p.1)) (0,[]) Wk.li (by simp[iv]) ?_;rintro ⟨i,L⟩ ⟨hi,hL⟩ K hN hR hE;dsimp only at hi hL;have hle:=aFj (l.take i);rw[<- hL,List.length_take] at hle;simp[aqh,aqk];refine⟨fun hlt=>?_,fun hge=>?_⟩
 ·have hst:=azF l hlt;rw[<- hL] at hst;simp[aqi,hlt];refine al (aa.ag (aRR L l[i])) ?_;cases hc:L.contains l[i] with
  | true =>
    rw[hc,if_pos rfl] at hst;simp;rw[aD (by omega)];exact hN (i+1,L) _ (by dsimp only;omega) ⟨by dsimp only;omega,hst.symm⟩ Wk.li
  | false =>
    rw[hc,if_neg (by simp)] at hst;simp[aqj,hlt];refine⟨by unfold bR;omega,?_⟩;rw[aD (by omega)];refine hN (i+1,L++[l[i]]) _ (by dsimp only;omega) ⟨by dsimp only;omega,hst.symm⟩ (Wk.trans (Wk.ren 25 5 (by decide) (by simp)) (Wk.list rfl ?_ ?_))
    ·simp
    ·simp
 ·refine hE _ _ ?_;obtain rfl:i=l.length:=by omega
  rw[List.take_of_length_le (by omega)] at hL;simp[aql,hL]
theorem aRS (l:List Int) (hl:l.length<=1000000):di ayu [.ro 1 (mi l)] (.own 1 (mi l)):=by
 refine aa.of aKH (by simp) ?_;simp[aE5,aAk,aAl];unfold bR;omega
theorem aQj (l:List Int) (hl:l.length<=1000):di aso [.ro 1 (mi l)] (.own 1 (mi (gU l))):=by
 refine aa.of aIE (by simp) ?_;simp[aCk,aww,awx,awy,at2];refine aZ (aa.ag (aRS l (by omega))) ?_;simp
 refine dl (fun p:Int×List Int=>⟨[(3,.sl 6 0 l.length),(4,I p.1)],[(6,⟨1,mi p.2⟩)],[]⟩) (fun p=>(p.1+1).toNat)
   (fun p => -2<=p.1/\p.2.length=l.length/\(p.1 < 0->p.2=gU l)/\(0<=p.1->p.1+2<=l.length/\p.2=l.take (p.1.toNat+1)++gU (l.drop (p.1.toNat+1)))) ((l.length:Int) - 2,l) (Wk.list rfl (by simp;exact aD (by omega)) (by simp)) ⟨by dsimp only;omega,rfl,fun h=>?_,fun h=>⟨by dsimp only;omega,?_⟩⟩ ?_
 ·dsimp only at h ⊢;rcases l with _ | ⟨x,_ | ⟨y,l⟩⟩
  ·rfl
  ·simp[gU]
  ·simp only[List.length_cons] at h;omega
 ·dsimp only at h ⊢;have e:((l.length:Int) - 2).toNat+1=l.length - 1:=by omega
  rw[e]
  have hd:l.drop (l.length - 1)=[l[l.length - 1]'(by omega)]:=by
   rw[yf (by omega),List.drop_of_length_le (by omega)]
  rw[hd];have h1:∀ x:Int,gU [x]=[x]:=fun x=>by simp[gU];intro h;exact h.symm
  rw[h1,<- hd];exact(List.take_append_drop _ _).symm
 ·rintro ⟨j,o⟩ ⟨s1,s2,s3,s4⟩ K hN hR hE;dsimp only at s1 s2 s3 s4;simp[awz,awC];refine⟨fun hge=>?_,fun hlt=>?_⟩
  ·obtain ⟨b1,b2⟩:=s4 hge;obtain ⟨n,rfl⟩:∃ n:Nat,j=n:=⟨j.toNat,by omega⟩;have hnl:n < l.length:=by omega
   have hnd:=aFy hnl;simp only[Int.toNat_natCast] at b2
   have ho1:o[n+1]?=some ((gU (l.drop (n+1))).headD 0):=by
    have h1:0 < (gU (l.drop (n+1))).length:=by rw[EE,List.length_drop];omega
    rw[b2,List.getElem?_append_right (by rw[List.length_take];omega),List.length_take,Nat.min_eq_left (by omega),Nat.sub_self];cases e:gU (l.drop (n+1)) with
    | nil=>rw[e] at h1;simp at h1
    | cons a r=>rfl
   have ho0:o[n]?=some l[n]:=by
    rw[b2,List.getElem?_append_left (by rw[List.length_take];omega),List.getElem?_take];simp
   have hok:∀ o':List Int,o'=l.take n++gU (l.drop n) -> -2<=(n:Int) - 1/\o'.length=l.length/\((n:Int) - 1 < 0->o'=gU l)/\(0<=(n:Int) - 1->(n:Int) - 1+2<=l.length/\o'=l.take (((n:Int) - 1).toNat+1)++gU (l.drop (((n:Int) - 1).toNat+1))):=fun o' e=>by
    refine⟨by omega,?_,fun h=>?_,fun h=>⟨by omega,?_⟩⟩
    ·rw[e,List.length_append,EE,List.length_take,List.length_drop];omega
    ·have:n=0:=by omega
     subst this;simpa using e
    ·rw[show ((n:Int) - 1).toNat+1=n by omega];exact e
   have htk:l.take (n+1)=l.take n++[l[n]]:=dP hnl;simp[awA,ho0];refine⟨by omega,?_⟩;by_cases z:l[n]=0
   ·have hset:o.set n ((gU (l.drop (n+1))).headD 0)=l.take n++gU (l.drop n):=by
     rw[hnd,z,if_pos rfl,b2,htk,List.append_assoc,List.singleton_append,fK (by rw[List.length_take];omega)]
    simp[z,awB];rw[aD (by omega)];have e1:((n:Int)+1).toNat=n+1:=by omega
    simp only[e1,ho1];have hlo:n < o.length:=by omega
    simp
    repeat (refine⟨by omega,?_⟩)
    simp[hlo]
    repeat (refine⟨by omega,?_⟩)
    rw[aD (by omega)];refine hN ((n:Int) - 1,o.set n ((gU (l.drop (n+1))).headD 0)) _ (by dsimp only;omega) (hok _ hset) (Wk.list rfl (by simp) ?_);simp
   ·have ho2:o=l.take n++gU (l.drop n):=by rw[hnd,if_neg z,b2,htk,List.append_assoc,List.singleton_append]
    simp[z];rw[aD (by omega)];exact hN ((n:Int) - 1,o) _ (by dsimp only;omega) (hok _ ho2) Wk.li
  ·refine hE _ _ ?_;simp[awD,s3 hlt];exact(EE l).symm
def HK (f:Field):List Int->List Slot->List Int
 | _,[]=>[]
 | m,s::ss=>match Mz f m s with | some t=>t::HK f (aaA f m s) ss | none=>[]
theorem FE {f:Field} {m:List Int} {s:Slot} {ss:List Slot} {t:Int} (h:Mz f m s=some t):HK f m (s::ss)=t::HK f (aaA f m s) ss:=by
 rw[HK,h]
theorem axx {f:Field} {m:List Int} {s:Slot} {ss:List Slot} (h:Mz f m s=none):HK f m (s::ss)=[]:=by
 rw[HK,h]
theorem aDT {f:Field}:∀ {ss:List Slot} {m l:List Int},jz f m ss=some l->HK f m ss=l
 | [],m,l,h=>by injection h
 | s::ss,m,l,h=>by
   cases e:Mz f m s with
   | none=>rw[Pk e] at h;cases h
   | some t =>
     rw[rf e] at h;obtain ⟨l',h1,rfl⟩:=Option.map_eq_some_iff.1 h;rw[FE e,aDT h1]
theorem aKE {l:List Int} {x:Int} (h:x ∈ iv l):x ∈ l:=by
 have:∀ (l out:List Int),x ∈ l.foldl (fun out x=>if out.contains x then out else out++[x]) out->x ∈ out\/x ∈ l:=fun l=>by
  induction l with
  | nil=>intro out h;exact .inl h
  | cons y l ih =>
    intro out h;rw[List.foldl_cons] at h;rcases ih _ h with h | h
    ·split at h
     ·exact .inl h
     ·rcases List.mem_append.1 h with h | h
      ·exact .inl h
      ·exact .inr (by rw[List.mem_singleton.1 h];simp)
    ·exact .inr (List.mem_cons_of_mem _ h)
 rcases this l [] h with h | h
 ·simp at h
 ·exact h
structure ST where
 i:Nat
 m:List Int
 o:List Int
def axw (k:Sk) (x:ST):AS:=⟨[(1,.ref 1 0 0),(4,.sl 13 0 x.m.length),(5,.sl 14 0 x.o.length),(6,I x.i)],[(1,⟨16,[eSk k]⟩),(13,⟨1,mi x.m⟩),(14,⟨1,mi x.o⟩)],[]⟩
def I8 (k:Sk) (x:ST) (t:Int):AS:=⟨[(1,.ref 1 0 0),(4,.sl 13 0 x.m.length),(5,.sl 14 0 x.o.length),(6,I x.i),(8,I t)],[(1,⟨16,[eSk k]⟩),(13,⟨1,mi x.m⟩),(14,⟨1,mi x.o⟩)],[]⟩
def aXG (k:Sk) (x:ST):Prop:=x.i<=k.slots.length/\x.o.length=x.i/\x.m.length<=2+x.i/\HK k.arms.field (fa k.arms.field) k.slots=x.o++HK k.arms.field x.m (k.slots.drop x.i) /\
 jz k.arms.field (fa k.arms.field) k.slots=(jz k.arms.field x.m (k.slots.drop x.i)).map (x.o++·)/\(∀ t ∈ x.m,0 < t)/\x.m≠[]
def aAI (k:Sk):V:=.tup [.own 1 (mi (HK k.arms.field (fa k.arms.field) k.slots)),B (jz k.arms.field (fa k.arms.field) k.slots).isSome]
set_option maxHeartbeats 2000000 in
theorem aDM (k:Sk) (h:bM k=true):di adv [eSk k] (aAI k):=by
 obtain ⟨q1,q2,q3,q4,q5⟩:=uR h;have hq:k.slots.length<=3:=by rw[q3,<- r8];exact uV _
 have ht0:=(acy (gM q1)).1
 have htp:∀ t ∈ fa k.arms.field,0 < t:=fun t ht=>by
  have:=(acy (gM q1)).2 t ht;unfold ag8 at this;simp[fV] at this;omega
 have ht1:(fa k.arms.field).length<=2:=by unfold fa;split<;>simp
 refine aa.ofN aEF (by simp) ?_;simp[ato,alL,alM];refine aZ (aa.ag (Hn k.arms.field)) ?_;simp[alN,alO,aeM];refine dl (axw k) (fun x=>k.slots.length - x.i) (aXG k) ⟨0,fa k.arms.field,[]⟩ (Wk.list rfl (by simp[axw]) (by simp[axw])) ⟨by simp,rfl,by simpa using ht1,by simp,by simp,htp,ht0⟩ ?_;rintro ⟨i,m,o⟩ ⟨r1,r2,r3,r4,r5,r6,r7⟩ K hN hR hE;dsimp only at r1 r2 r3 r4 r5 r6 r7;simp[axw,alP,rQ];refine⟨fun hlt=>?_,fun hge=>?_⟩
 ·obtain ⟨⟨md,nu⟩,hsl⟩:∃ sl,k.slots[i]=sl:=⟨_,rfl⟩;have hg:k.slots[i]?=some ⟨md,nu⟩:=by rw[<- hsl];exact List.getElem?_eq_getElem hlt
  have hsok:dF ⟨md,nu⟩=true:=by rw[<- hsl];exact q2 _ (List.getElem_mem _)
  rw[yf hlt,hsl] at r4 r5;simp[alQ,hg]
  repeat (refine⟨by omega,?_⟩)
  simp[alR,alS,alT];have hval:∀ t,Mz k.arms.field m ⟨md,nu⟩=some t->aaA k.arms.field m ⟨md,nu⟩=if md=5 then m else m++[t]:=fun t hv=>by unfold aaA;rw[hv]
  obtain ⟨ov,hov⟩:∃ ov,Mz k.arms.field m ⟨md,nu⟩=ov:=⟨_,rfl⟩
  have hdef:ov=if md=5 then some 0 else if md=1 then some nu else if md=2 then (if k.arms.field.division=0 then some k.arms.field.first else none)
   else if md=3 then (if nu<=(iv m).length then some ((iv m).getD (nu - 1).toNat 0) else none) else some (m.getLastD 0):=by rw[<- hov];rfl
  unfold dF at hsok;dsimp only at hsok;by_cases m5:md=5
  ·subst m5;have hv:Mz k.arms.field m ⟨5,nu⟩=some 0:=rfl;have hn:aaA k.arms.field m ⟨5,nu⟩=m:=rfl;rw[FE hv,hn] at r4;rw[rf hv,hn] at r5;simp[B3,HI,PW];refine cp (I8 k ⟨i,m,o⟩ 0) (Wk.list rfl (by simp[I8]) (by simp[I8])) ?_;simp[I8,vo,vp,rQ]
   repeat (refine⟨by first | omega | (unfold bR;omega),?_⟩)
   rw[aD (by omega)];refine hN ⟨i+1,m,o++[0]⟩ _ (by dsimp only;omega) ⟨by dsimp only;omega,by simp[r2],by dsimp only;omega,?_,?_,r6,r7⟩ (Wk.trans (Wk.ren 78 14 (by decide) (by simp)) (Wk.list rfl ?_ ?_))
   ·rw[r4];simp
   ·rw[r5,Option.map_map];congr 1;funext z;simp
   ·simp[axw]
   ·simp[axw]
  ·rw[if_neg m5] at hdef;by_cases m1:md=1
   ·subst m1;rw[if_pos rfl] at hdef;have hp:0 < nu:=by simp[fV] at hsok;omega
    simp[alU];refine cp (I8 k ⟨i,m,o⟩ nu) (Wk.list rfl (by simp[I8]) (by simp[I8])) ?_;have hn:=hval nu (by rw[hov,hdef]);rw[if_neg (by decide)] at hn;rw[FE (t:=nu) (by rw[hov,hdef]),hn] at r4;rw[rf (t:=nu) (by rw[hov,hdef]),hn] at r5;simp[I8,vo,B4,hp]
    repeat (refine⟨by first | omega | (unfold bR;omega),?_⟩)
    simp[vp,rQ]
    repeat (refine⟨by first | omega | (unfold bR;omega),?_⟩)
    rw[aD (by omega)];refine hN ⟨i+1,m++[nu],o++[nu]⟩ _ (by dsimp only;omega) ⟨by dsimp only;omega,by simp[r2],by simp;omega,?_,?_,?_,by simp⟩ (Wk.trans (Wk.ren 74 13 (by decide) (by simp)) (Wk.trans (Wk.ren 78 14 (by decide) (by simp)) (Wk.list rfl ?_ ?_)))
    ·rw[r4];simp
    ·rw[r5,Option.map_map];congr 1;funext z;simp
    ·intro x hx;rcases List.mem_append.1 hx with hx | hx
     ·exact r6 x hx
     ·rw[List.mem_singleton.1 hx];exact hp
    ·simp[axw]
    ·simp[axw]
   ·rw[if_neg m1] at hdef;by_cases m2:md=2
    ·subst m2;rw[if_pos rfl] at hdef;simp[B3,agh];by_cases hd:k.arms.field.division=0
     ·rw[if_pos hd] at hdef;have hp:0 < k.arms.field.first:=htp _ (by unfold fa;rw[if_pos hd];simp)
      simp[hd,agj];refine cp (I8 k ⟨i,m,o⟩ k.arms.field.first) (Wk.list rfl (by simp[I8]) (by simp[I8])) ?_;have hn:=hval k.arms.field.first (by rw[hov,hdef])
      rw[if_neg (by decide)] at hn;rw[FE (t:=k.arms.field.first) (by rw[hov,hdef]),hn] at r4;rw[rf (t:=k.arms.field.first) (by rw[hov,hdef]),hn] at r5;simp[I8,vo,B4,hp]
      repeat (refine⟨by first | omega | (unfold bR;omega),?_⟩)
      simp[vp,rQ]
      repeat (refine⟨by first | omega | (unfold bR;omega),?_⟩)
      rw[aD (by omega)];refine hN ⟨i+1,m++[k.arms.field.first],o++[k.arms.field.first]⟩ _ (by dsimp only;omega) ⟨by dsimp only;omega,by simp[r2],by simp;omega,?_,?_,?_,by simp⟩ (Wk.trans (Wk.ren 74 13 (by decide) (by simp)) (Wk.trans (Wk.ren 78 14 (by decide) (by simp)) (Wk.list rfl ?_ ?_)))
      ·rw[r4];simp
      ·rw[r5,Option.map_map];congr 1;funext z;simp
      ·intro x hx;rcases List.mem_append.1 hx with hx | hx
       ·exact r6 x hx
       ·rw[List.mem_singleton.1 hx];exact hp
      ·simp[axw]
      ·simp[axw]
     ·rw[if_neg hd] at hdef;simp[hd,agi];refine hR _ ?_;rw[axx (by rw[hov,hdef])] at r4;rw[Pk (by rw[hov,hdef])] at r5;simp at r4 r5;simp[aAI,r4,r5]
    ·rw[if_neg m2] at hdef;by_cases m3:md=3
     ·subst m3;rw[if_pos rfl] at hdef;simp[fV] at hsok;simp[B3,HI,agk];refine aZ (aa.ag (aNR m (by omega))) ?_;simp[agl];by_cases hd:nu<=(iv m).length
      ·rw[if_pos hd] at hdef
       have hfg:(iv m)[(nu - 1).toNat]?=some ((iv m).getD (nu - 1).toNat 0):=by
        rw[List.getD_eq_getElem?_getD,List.getElem?_eq_getElem (by omega)];rfl
       have hd':¬((iv m).length:Int) < nu:=by omega
       obtain ⟨fv,hfv⟩:∃ fv,(iv m).getD (nu - 1).toNat 0=fv:=⟨_,rfl⟩;rw[hfv] at hfg hdef;have hp:0 < fv:=r6 fv (aKE (List.mem_of_getElem? hfg));simp[hd',agn];refine fun _=>?_;rw[aD (by omega)];have e5:(nu - 1).toNat=nu.toNat - 1:=by omega
       rw[e5] at hfg;simp[hfg]
       repeat (refine⟨by omega,?_⟩)
       refine cp (I8 k ⟨i,m,o⟩ fv) (Wk.list rfl (by simp[I8]) (by simp[I8])) ?_;have hn:=hval fv (by rw[hov,hdef]);rw[if_neg (by decide)] at hn;rw[FE (t:=fv) (by rw[hov,hdef]),hn] at r4;rw[rf (t:=fv) (by rw[hov,hdef]),hn] at r5;simp[I8,vo,B4,hp]
       repeat (refine⟨by first | omega | (unfold bR;omega),?_⟩)
       simp[vp,rQ]
       repeat (refine⟨by first | omega | (unfold bR;omega),?_⟩)
       rw[aD (by omega)];refine hN ⟨i+1,m++[fv],o++[fv]⟩ _ (by dsimp only;omega) ⟨by dsimp only;omega,by simp[r2],by simp;omega,?_,?_,?_,by simp⟩ (Wk.trans (Wk.ren 74 13 (by decide) (by simp)) (Wk.trans (Wk.ren 78 14 (by decide) (by simp)) (Wk.list rfl ?_ ?_)))
       ·rw[r4];simp
       ·rw[r5,Option.map_map];congr 1;funext z;simp
       ·intro x hx;rcases List.mem_append.1 hx with hx | hx
        ·exact r6 x hx
        ·rw[List.mem_singleton.1 hx];exact hp
       ·simp[axw]
       ·simp[axw]
      ·rw[if_neg hd] at hdef;have hd':((iv m).length:Int) < nu:=by omega
       simp[hd',agm];refine⟨hR _ ?_,fun h=>by omega⟩;rw[axx (by rw[hov,hdef])] at r4;rw[Pk (by rw[hov,hdef])] at r5;simp at r4 r5;simp[aAI,r4,r5]
     ·rw[if_neg m3] at hdef;have m4:md=4:=by simp[m1,m3,fV] at hsok;omega
      subst m4;have hml:=List.length_pos_iff.2 r7;have hlast:=aAF r7;obtain ⟨u,hu⟩:∃ u,m.getLastD 0=u:=⟨_,rfl⟩;rw[hu] at hdef hlast;have hp:0 < u:=r6 u (List.mem_of_getElem? hlast);simp[B3,HI,PW,ago];rw[aD (by omega)];have e3:((m.length:Int) - 1).toNat=m.length - 1:=by omega
      simp only[e3,hlast];simp
      repeat (refine⟨by omega,?_⟩)
      refine cp (I8 k ⟨i,m,o⟩ u) (Wk.list rfl (by simp[I8]) (by simp[I8])) ?_;have hn:=hval u (by rw[hov,hdef]);rw[if_neg (by decide)] at hn;rw[FE (t:=u) (by rw[hov,hdef]),hn] at r4;rw[rf (t:=u) (by rw[hov,hdef]),hn] at r5;simp[I8,vo,B4,hp]
      repeat (refine⟨by first | omega | (unfold bR;omega),?_⟩)
      simp[vp,rQ]
      repeat (refine⟨by first | omega | (unfold bR;omega),?_⟩)
      rw[aD (by omega)];refine hN ⟨i+1,m++[u],o++[u]⟩ _ (by dsimp only;omega) ⟨by dsimp only;omega,by simp[r2],by simp;omega,?_,?_,?_,by simp⟩ (Wk.trans (Wk.ren 74 13 (by decide) (by simp)) (Wk.trans (Wk.ren 78 14 (by decide) (by simp)) (Wk.list rfl ?_ ?_)))
      ·rw[r4];simp
      ·rw[r5,Option.map_map];congr 1;funext z;simp
      ·intro x hx;rcases List.mem_append.1 hx with hx | hx
       ·exact r6 x hx
       ·rw[List.mem_singleton.1 hx];exact hp
      ·simp[axw]
      ·simp[axw]
 ·refine hE _ _ ?_;obtain rfl:i=k.slots.length:=by omega
  rw[List.drop_of_length_le (by omega)] at r4 r5;simp[HK,jz] at r4 r5;simp[agp,aAI,r4,r5]
def aqt:=[dD 2 4 xR,ok 3 (vB false)]
def aqu:=[oo 11 (.build xR []),dD 4 4 xR,bg 4 4 11]
def aqv:=[om 12 0,oo 13 (.call o9 [.t 12,(.k (.v (.int .u8 (32))))]),om 5 13]
def aqw:=[om 14 5,oo 15 (.len false (.t 14)),om 6 15]
def aqx:=[om 16 0,cg 17 N2 16,om 7 17]
def aqy:=[om 18 7,cn 19 .gtr 18 0]
def aqz:=[om 20 7,oo 21 (.build xR [(2,(1,(.t 20)))]),bg 4 2 21,ok 3 (vB true)]
def aqA:=[om 22 0,oo 23 (.len true (.t 22)),cn 24 .gtr 23 60,om 25 24,oF 25 26 (.mv (.t 6)),oF 25 27 (.bin .lss .none (.t 26) (xI 4)),oo 28 (.pick (.t 25) (xB true) (.t 27))]
def ZT:=[bu 29 4 4,bg 4 2 29,ok 3 (vB false)]
def aqB:=[ok 8 (vI 1)]
def akM:=[om 30 8,cn 31 .leq 30 7]
def akN:=[ok 9 (vI 0)]
def akO:=[om 34 9,cn 35 .leq 34 4]
def akP:=[om 38 8,om 39 9,om 40 5,om 41 6,cn 42 .sub 41 3,ft 43 1 40 42,bl 44 1 43,cg 45 N2 44,om 46 5,om 47 6,cn 48 .sub 47 1,ft 49 1 46 48,bl 50 1 49,cg 51 N2 50,oo 52 (.build xR [(0,(1,(.t 38))),(1,(1,(.t 39))),(2,(1,(.t 45))),(3,(1,(.t 51)))]),dD 10 4 xR,bg 4 10 52]
def Ua:List (List Nat):=[[],[],[],[],[3],[2,3,4],[2,3,4,5],[2,3,4,5,6],[],[],[9],[8,9,10],[8,9,10,11],[2,3,4,5,6,7,8,9,10,11,12],[0,1,2,3,4,5,6,7,8,9,10,11,12,13],[],[0,1,2,3,4,5,6,7,8,9,10,11,12,13,14,15]]
def akQ:=[bu 53 4 10,cg 54 adn 53,om 55 54,oT 55 56 (.ld true 4 (.t 10)),oT 55 57 (.call TX [.t 56]),oT 55 58 (.mv (.t 0)),oT 55 59 (.bin .eql .none (.t 57) (.t 58)),oo 60 (.pick (.t 55) (.t 59) (xB false))]
def akR:=[bu 61 4 10,bg 4 2 61,ok 3 (vB true)]
def akS:=[om 36 9,fL 37 36 1,om 9 37]
def aii:C:=(ss (sr akO [0,2,4,5,6,8,9,35] (sc 35 .skip (.exit 2))) (ss (.block 3 (ss (.regD akP Ua [0,2,4,5,6,8,9,10]) (sr akQ [0,2,4,5,6,8,9,10,60] (sc 60 (sr akR [2,3] .ret) .skip)))) (.reg akS [0,2,4,5,6,8,9])))
def akT:=[om 32 8,fL 33 32 1,om 8 33]
def aij:C:=(ss (sr akM [0,2,4,5,6,8,31] (sc 31 .skip (.exit 0))) (ss (.block 1 (sr akN [0,2,4,5,6,8,9] (.block 2 (.loop aii)))) (.reg akT [0,2,4,5,6,8])))
def akU:=[bu 62 4 4,bg 4 2 62,ok 3 (vB false)]
def azp:C:=(sr aqt [0,2] (sr aqu [0,2,4] (sr aqv [0,2,4,5] (sr aqw [0,2,4,5,6] (ss (sr aqx [0,2,4,5,6,7] (sr aqy [0,2,4,5,6,7,19] (sc 19 (sr aqz [2,3] .ret) .skip))) (ss (sr aqA [0,2,4,5,6,28] (sc 28 (sr ZT [2,3] .ret) .skip)) (ss (sr aqB [0,2,4,5,6,8] (.block 0 (.loop aij))) (sr akU [2,3] .ret))))))))
def aI7:Nat->List Nat
 | 0=>[0,2]
 | 1=>[0,2,4]
 | 2=>[0,2,4,5]
 | 3=>[0,2,4,5,6]
 | 4=>[0,2,4,5,6,7]
 | 5=>[0,2,4,5,6,7,19]
 | 6=>[2,3]
 | 7=>[0,2,4,5,6,28]
 | 8=>[2,3]
 | 9=>[0,2,4,5,6,8]
 | 10=>[0,2,4,5,6,8,31]
 | 12=>[0,2,4,5,6,8,9]
 | 13=>[0,2,4,5,6,8,9,35]
 | 15=>[0,2,4,5,6,8,9,10]
 | 16=>[0,2,4,5,6,8,9,10,60]
 | 17=>[2,3]
 | 14=>[0,2,4,5,6,8,9]
 | 11=>[0,2,4,5,6,8]
 | 18=>[2,3]
 | _=>[]
theorem aGz:cE aiu azp [(.cell 2 true 4),(.tmp 3)] 63 :=
 ⟨Tryz.f263,_,aI7,func263,rfl,by kernel_rfl,by kernel_rfl,by kernel_rfl,rfl⟩
def arh:=[ok 2 (vS []),dD 3 2 (.agg [vI 0,vI 0])]
def ari:=[oo 8 (.call Wv []),om 4 8]
def arj:=[ok 5 (vI 0)]
def ZW:=[om 9 5,om 10 4,oo 11 (.len false (.t 10)),cI 12 .lss 9 11]
def ark:=[om 15 4,om 16 5,ft 17 2 15 16,bu 18 2 17,cg 19 MW 18,om 6 19]
def arl:=[om 20 0,oo 21 (.len true (.t 20)),om 22 6,oo 23 (.len true (.t 22)),cI 24 .sub 21 23,om 7 24]
def arm:=[om 25 7,cn 26 .geq 25 0,om 27 26,oT 27 28 (.mv (.t 0)),oT 27 29 (.mv (.t 7)),oT 27 30 (.slc none (.t 28) (some (.t 29)) none),oT 27 31 (.mv (.t 6)),oT 27 32 (.bin .eql .none (.t 30) (.t 31)),oo 33 (.pick (.t 27) (.t 32) (xB false))]
def arn:=[om 34 0,om 35 7,oo 36 (.slc none (.t 34) none (some (.t 35))),om 37 4,om 38 5,ft 39 2 37 38,bu 40 2 39,om 2 36,bg 2 3 40]
def Zx:List (List Nat):=[[],[],[0,1],[],[],[3,4],[3,4,5],[0,1,2],[0,1,2,3,4,5,6,7]]
def aro:=[om 13 5,fL 14 13 1,om 5 14]
def an7:C:=(ss (sr ZW [0,3,4,5,12] (sc 12 .skip (.exit 0))) (ss (.block 1 (sr ark [0,3,4,5,6] (sr arl [0,3,4,5,6,7] (sr arm [0,3,4,5,7,33] (sc 33 (ss (.regD arn Zx [2,3]) .ret) .skip))))) (.reg aro [0,3,4,5])))
def alK:=[om 41 0,oo 42 (.build (.agg [vI 0,vI 0]) [(0,(1,(xI 5)))]),om 2 41,bg 2 3 42]
def azx:C:=(sr arh [0,3] (sr ari [0,3,4] (ss (sr arj [0,3,4,5] (.block 0 (.loop an7))) (sr alK [2,3] .ret))))
def aJa:Nat->List Nat
 | 0=>[0,3]
 | 1=>[0,3,4]
 | 2=>[0,3,4,5]
 | 3=>[0,3,4,5,12]
 | 5=>[0,3,4,5,6]
 | 6=>[0,3,4,5,6,7]
 | 7=>[0,3,4,5,7,33]
 | 8=>[2,3]
 | 4=>[0,3,4,5]
 | 9=>[2,3]
 | _=>[]
theorem aGH:cE Ww azx [(.tmp 2),(.cell 3 true 2)] 43 :=
 ⟨Tryz.f265,_,aJa,func265,rfl,by kernel_rfl,by kernel_rfl,by kernel_rfl,rfl⟩
def aqm:=[ok 2 (vI 0)]
def aqn:=[ok 3 (vI 1)]
def aqo:=[om 4 3,cn 5 .leq 4 9]
def aqp:=[om 8 3,cg 9 Aj 8,om 10 0,cI 11 .eql 9 10]
def aqq:=[om 12 3,om 2 12]
def aqr:=[om 6 3,fL 7 6 1,om 3 7]
def an4:C:=(ss (sr aqo [0,3,5] (sc 5 .skip (.exit 0))) (ss (.block 1 (sr aqp [0,3,11] (sc 11 (sr aqq [2] .ret) .skip))) (.reg aqr [0,3])))
def aqs:=[ok 2 (vI 0)]
def azo:C:=(sr aqm [0] (ss (sr aqn [0,3] (.block 0 (.loop an4))) (sr aqs [2] .ret)))
def aI6:Nat->List Nat
 | 0=>[0]
 | 1=>[0,3]
 | 2=>[0,3,5]
 | 4=>[0,3,11]
 | 5=>[2]
 | 3=>[0,3]
 | 6=>[2]
 | _=>[]
theorem aGy:cE N2 azo [(.tmp 2)] 13 :=
 ⟨Tryz.f312,_,aI6,func312,rfl,by kernel_rfl,by kernel_rfl,by kernel_rfl,rfl⟩
def akV:=[dD 2 4 xR,ok 3 (vB false)]
def akW:=[ok 4 (vI 1)]
def akX:=[om 8 4,cn 9 .leq 8 6]
def akY:=[ok 5 (vI 1)]
def akZ:=[om 12 5,cn 13 .leq 12 8]
def ak0:=[ok 6 (vI 0)]
def ak1:=[om 16 6,cn 17 .leq 16 2]
def ak2:=[om 20 4,om 21 5,om 22 6,oo 23 (.build xR [(0,(1,(.t 20))),(1,(1,(.t 21))),(2,(1,(.t 22))),(3,(1,(xI 1)))]),dD 7 4 xR,bg 4 7 23]
def ak3:=[bu 24 4 7,cg 25 N3 24,om 26 25,oT 26 27 (.ld true 4 (.t 7)),oT 26 28 (.call MU [.t 27]),oT 26 29 (.mv (.t 0)),oT 26 30 (.bin .eql .none (.t 28) (.t 29)),oo 31 (.pick (.t 26) (.t 30) (xB false))]
def ak4:=[bu 32 4 7,bg 4 2 32,ok 3 (vB true)]
def af8:=[om 18 6,fL 19 18 1,om 6 19]
def aeJ:C:=(ss (sr ak1 [0,2,4,5,6,17] (sc 17 .skip (.exit 4))) (ss (.block 5 (sr ak2 [0,2,4,5,6,7] (sr ak3 [0,2,4,5,6,7,31] (sc 31 (sr ak4 [2,3] .ret) .skip)))) (.reg af8 [0,2,4,5,6])))
def af9:=[om 14 5,fL 15 14 1,om 5 15]
def aeK:C:=(ss (sr akZ [0,2,4,5,13] (sc 13 .skip (.exit 2))) (ss (.block 3 (sr ak0 [0,2,4,5,6] (.block 4 (.loop aeJ)))) (.reg af9 [0,2,4,5])))
def aga:=[om 10 4,fL 11 10 1,om 4 11]
def aeL:C:=(ss (sr akX [0,2,4,9] (sc 9 .skip (.exit 0))) (ss (.block 1 (sr akY [0,2,4,5] (.block 2 (.loop aeK)))) (.reg aga [0,2,4])))
def agb:=[oo 33 (.build xR []),bg 4 2 33,ok 3 (vB false)]
def atl:C:=(sr akV [0,2] (ss (sr akW [0,2,4] (.block 0 (.loop aeL))) (sr agb [2,3] .ret)))
def aGX:Nat->List Nat
 | 0=>[0,2]
 | 1=>[0,2,4]
 | 2=>[0,2,4,9]
 | 4=>[0,2,4,5]
 | 5=>[0,2,4,5,13]
 | 7=>[0,2,4,5,6]
 | 8=>[0,2,4,5,6,17]
 | 10=>[0,2,4,5,6,7]
 | 11=>[0,2,4,5,6,7,31]
 | 12=>[2,3]
 | 9=>[0,2,4,5,6]
 | 6=>[0,2,4,5]
 | 3=>[0,2,4]
 | 13=>[2,3]
 | _=>[]
theorem aEC:cE adq atl [(.cell 2 true 4),(.tmp 3)] 34 :=
 ⟨Tryz.f313,_,aGX,func313,rfl,by kernel_rfl,by kernel_rfl,by kernel_rfl,rfl⟩
def U3:=[ok 2 (vI 0),ok 3 (vI 0),ok 4 (vB false)]
def U4:=[ok 5 (vI 1)]
def U5:=[om 7 5,cn 8 .leq 7 7]
def U6:=[ok 6 (vI 0)]
def U7:=[om 11 6,cn 12 .leq 11 4]
def U8:=[om 15 5,om 16 6,dK 17 EA 15 16,om 18 0,cI 19 .eql 17 18]
def U9:=[om 20 5,om 21 6,om 2 20,om 3 21,ok 4 (vB true)]
def Va:=[om 13 6,fL 14 13 1,om 6 14]
def TO:C:=(ss (sr U7 [0,5,6,12] (sc 12 .skip (.exit 2))) (ss (.block 3 (sr U8 [0,5,6,19] (sc 19 (sr U9 [2,3,4] .ret) .skip))) (.reg Va [0,5,6])))
def Vb:=[om 9 5,fL 10 9 1,om 5 10]
def Qp:C:=(ss (sr U5 [0,5,8] (sc 8 .skip (.exit 0))) (ss (.block 1 (sr U6 [0,5,6] (.block 2 (.loop TO)))) (.reg Vb [0,5])))
def Sf:=[ok 2 (vI 0),ok 3 (vI 0),ok 4 (vB false)]
def aag:C:=(sr U3 [0] (ss (sr U4 [0,5] (.block 0 (.loop Qp))) (sr Sf [2,3,4] .ret)))
def ayk:Nat->List Nat
 | 0=>[0]
 | 1=>[0,5]
 | 2=>[0,5,8]
 | 4=>[0,5,6]
 | 5=>[0,5,6,12]
 | 7=>[0,5,6,19]
 | 8=>[2,3,4]
 | 6=>[0,5,6]
 | 3=>[0,5]
 | 9=>[2,3,4]
 | _=>[]
theorem atJ:cE MV aag [(.tmp 2),(.tmp 3),(.tmp 4)] 22 :=
 ⟨Tryz.f266,_,ayk,func266,rfl,by kernel_rfl,by kernel_rfl,by kernel_rfl,rfl⟩
theorem atA {α:Type} {p:α->Bool} {L:List α} {i:Nat} {x:α} (h:L[i]?=some x):(L.drop i).find? p=if p x then some x else (L.drop (i+1)).find? p:=by
 obtain ⟨hi,e⟩:=List.getElem?_eq_some_iff.1 h;rw[yf hi,e,List.find?_cons];cases p x<;>rfl
theorem ayQ (s:List UInt8):di N2 [S s] (I (rv s)):=by
 have e0:rv s=idx (fun y=>y==s) ua+1:=by rw[ay2];unfold rv;omega
 have h9:ua.length=9:=rfl;refine aa.of aGy (by simp) ?_;simp[azo,aqm,aqn,an4];refine dl (fun i:Nat=>⟨[(0,S s),(3,I ((i:Int)+1))],[],[]⟩) (fun i=>9 - i) (fun i=>i<=9/\∀ j (_:j < i) (hj:j < ua.length),(ua[j]==s)=false) 0 Wk.li (by simp) ?_;rintro i ⟨hi,hj⟩ K hN hR hE;simp[aqo,aqr];refine⟨fun hlt=>?_,fun hge=>?_⟩
 ·have hw:eL ((i:Int)+1)=ua[i]'(by omega):=by
   unfold eL;rw[show ((i:Int)+1 - 1).toNat=i by omega,List.getD_eq_getElem?_getD,List.getElem?_eq_getElem (by omega)];rfl
  simp[aqp];refine al (aa.ag (LN ((i:Int)+1) (db.2 (by omega)))) ?_;rw[hw];simp;refine⟨fun ht=>?_,fun hf=>?_⟩
  ·simp[aqq];refine hR _ ?_;have e1:=ac2 (p:=fun y=>y==s) (l:=ua) (i:=i) (by omega) (fun j h=>hj j h (by omega)) (by simpa using ht);rw[e0,e1];simp
  ·rw[aD (by omega)];refine hN (i+1) _ (by omega) ⟨by omega,fun j h h'=>?_⟩ Wk.li;by_cases e:j=i
   ·subst e;simpa using hf
   ·exact hj j (by omega) h'
 ·refine hE _ _ ?_;have e1:idx (fun y=>y==s) ua = -1:=JD fun j h=>hj j (by omega) h;rw[e0,e1];simp[aqs]
def aG9:List Group:=(List.range 6).flatMap fun c:Nat=>(List.range 8).flatMap fun k:Nat=>(List.range 3).map fun a:Nat=>(⟨(c:Int)+1,(k:Int)+1,(a:Int),1⟩:Group)
theorem aP2:∀ i:Nat,i < 6->∀ j:Nat,j < 8->∀ m:Nat,m < 3->aG9[24 * i+3 * j+m]?=some ⟨(i:Int)+1,(j:Int)+1,(m:Int),1⟩:=by decide +kernel
def JE (s:List UInt8) (g:Group):Bool:=bQ g&&jK g==s
theorem aMJ (s:List UInt8):Eg s=aG9.find? (JE s):=by
 unfold Eg aHN;rw[List.find?_filter]
 have hp:(fun a:Group=>decide (bQ a=true/\(jK a==s)=true))=JE s:=by
  funext g;unfold JE;rw[Bool.eq_iff_iff];simp
 rw[hp];rfl
def amS (o:Option Group):V:=.tup [ib (o.getD noG),B o.isSome]
set_option maxHeartbeats 1000000 in
theorem aLw (s:List UInt8):di adq [S s] (amS (Eg s)):=by
 rw[aMJ];refine aa.of aEC (by simp) ?_;simp[atl,akV,akW,aeL];refine dl (fun i:Nat=>⟨[(0,S s),(2,.ref 2 0 0),(4,I ((i:Int)+1))],[(2,⟨4,[ib noG]⟩)],[]⟩) (fun i=>6 - i) (fun i=>i<=6/\aG9.find? (JE s)=(aG9.drop (24 * i)).find? (JE s)) 0 Wk.li (by simp) ?_;rintro i ⟨hi,hj⟩ K hN hR hE;simp[akX,aga];refine⟨fun hlt=>?_,fun hge=>?_⟩
 ·simp[akY,aeK];refine dl (fun j:Nat=>⟨[(0,S s),(2,.ref 2 0 0),(4,I ((i:Int)+1)),(5,I ((j:Int)+1))],[(2,⟨4,[ib noG]⟩)],[]⟩) (fun j=>8 - j) (fun j=>j<=8/\aG9.find? (JE s)=(aG9.drop (24 * i+3 * j)).find? (JE s)) 0 Wk.li ⟨by simp,hj⟩ ?_;rintro j ⟨hi2,hj2⟩ K2 hN2 hR2 hE2;simp[akZ,af9];refine⟨fun hlt2=>?_,fun hge2=>?_⟩
  ·simp[ak0,aeJ];refine dl (fun m:Nat=>⟨[(0,S s),(2,.ref 2 0 0),(4,I ((i:Int)+1)),(5,I ((j:Int)+1)),(6,I m)],[(2,⟨4,[ib noG]⟩)],[]⟩) (fun m=>3 - m) (fun m=>m<=3/\aG9.find? (JE s)=(aG9.drop (24 * i+3 * j+m)).find? (JE s)) 0 Wk.li ⟨by simp,hj2⟩ ?_;rintro m ⟨hi3,hj3⟩ K3 hN3 hR3 hE3;simp[ak1,af8];refine⟨fun hlt3=>?_,fun hge3=>?_⟩
   ·have hfa:=atA (p:=JE s) (aP2 i (by omega) j (by omega) m (by omega));obtain ⟨g,hgd⟩:∃ g:Group,(⟨(i:Int)+1,(j:Int)+1,(m:Int),1⟩:Group)=g:=⟨_,rfl⟩;have hib:JE s g=(bQ g&&jK g==s):=rfl;rw[hgd] at hfa;simp[ak2,ak3];refine al (aa.arg (anf g) (by simp[<- hgd])) ?_;cases hok:bQ g with
    | false =>
      rw[hok,Bool.false_and] at hib;rw[hib,if_neg (by simp),<- hj3] at hfa;simp;rw[aD (by omega)];exact hN3 (m+1) _ (by omega) ⟨by omega,hfa⟩ Wk.li
    | true =>
      simp;refine al (aa.arg (axo g hok) (by simp[<- hgd])) ?_;by_cases ht:jK g=s
      ·have:JE s g=true:=by rw[hib,hok,ht];simp
       rw[this,if_pos rfl,<- hj3] at hfa;simp[ht,ak4];refine hR3 _ (hR2 _ (hR _ ?_));rw[hfa];simp[amS,<- hgd]
      ·have:JE s g=false:=by rw[hib,hok];simp[ht]
       rw[this,if_neg (by simp),<- hj3] at hfa;simp[ht];rw[aD (by omega)];exact hN3 (m+1) _ (by omega) ⟨by omega,hfa⟩ Wk.li
   ·refine hE3 _ _ ?_;obtain rfl:m=3:=by omega
    simp;rw[aD (by omega)];exact hN2 (j+1) _ (by omega) ⟨by omega,hj3⟩ Wk.li
  ·refine hE2 _ _ ?_;obtain rfl:j=8:=by omega
   simp;rw[aD (by omega)];exact hN (i+1) _ (by omega) ⟨by omega,hj2⟩ Wk.li
 ·refine hE _ _ ?_;obtain rfl:i=6:=by omega
  have e:aG9.find? (JE s)=none:=by rw[hj];rfl
  rw[e];simp[agb,amS]
theorem aNE:∀ i:Nat,i < 7->∀ j:Nat,j < 5->aiA[5 * i+j]?=some ((i:Int)+1,(j:Int)):=by decide +kernel
def ac3 (s:List UInt8) (p:Int×Int):Bool:=rI p.1 p.2==s
def ayE (o:Option (Int×Int)):V:=.tup [I (o.getD (0,0)).1,I (o.getD (0,0)).2,B o.isSome]
theorem aDJ (s:List UInt8):di MV [S s] (ayE (aLf s)):=by
 have e0:aLf s=aiA.find? (ac3 s):=rfl;rw[e0];refine aa.of atJ (by simp) ?_;simp[aag,U3,U4,Qp];refine dl (fun i:Nat=>⟨[(0,S s),(5,I ((i:Int)+1))],[],[]⟩) (fun i=>7 - i) (fun i=>i<=7/\aiA.find? (ac3 s)=(aiA.drop (5 * i)).find? (ac3 s)) 0 Wk.li (by simp) ?_;rintro i ⟨hi,hj⟩ K hN hR hE;simp[U5,Vb];refine⟨fun hlt=>?_,fun hge=>?_⟩
 ·simp[U6,TO];refine dl (fun j:Nat=>⟨[(0,S s),(5,I ((i:Int)+1)),(6,I j)],[],[]⟩) (fun j=>5 - j) (fun j=>j<=5/\aiA.find? (ac3 s)=(aiA.drop (5 * i+j)).find? (ac3 s)) 0 Wk.li ⟨by simp,hj⟩ ?_;rintro j ⟨hi2,hj2⟩ K2 hN2 hR2 hE2;simp[U7,Va];refine⟨fun hlt2=>?_,fun hge2=>?_⟩
  ·have hfa:=atA (p:=ac3 s) (aNE i (by omega) j (by omega));have hio:ac3 s ((i:Int)+1,(j:Int))=(rI ((i:Int)+1) (j:Int)==s):=rfl;simp[U8];refine al (aa.ag (aea ((i:Int)+1) j (by omega) (by omega))) ?_;by_cases ht:rI ((i:Int)+1) (j:Int)=s
   ·rw[hio,ht,beq_self_eq_true,if_pos rfl,<- hj2] at hfa;simp[ht,U9];refine hR2 _ (hR _ ?_);rw[hfa];simp[ayE]
   ·have hio':ac3 s ((i:Int)+1,(j:Int))=false:=by rw[hio];simpa using ht
    rw[hio',if_neg (by simp),<- hj2] at hfa;simp[ht];rw[aD (by omega)];exact hN2 (j+1) _ (by omega) ⟨by omega,hfa⟩ Wk.li
  ·refine hE2 _ _ ?_;obtain rfl:j=5:=by omega
   simp;rw[aD (by omega)];exact hN (i+1) _ (by omega) ⟨by omega,hj2⟩ Wk.li
 ·refine hE _ _ ?_;obtain rfl:i=7:=by omega
  have e:aiA.find? (ac3 s)=none:=by rw[hj];rfl
  rw[e];simp[Sf,ayE]
def afe:=[eF 1 4 0,ok 2 (vS []),ok 3 (vB false)]
def aff:=[bu 4 4 1,cg 5 Fs 4,oo 6 (.un .not (.t 5))]
def afg:=[ok 2 (vS []),ok 3 (vB false)]
def afh:=[bu 7 4 1,cg 8 Ey 7,om 2 8,ok 3 (vB true)]
def anE:C:=(sr afe [1] (ss (sr aff [1,6] (sc 6 (sr afg [2,3] .ret) .skip)) (sr afh [2,3] .ret)))
theorem aCD:cE Zi anE [(.tmp 2),(.tmp 3)] 9:=dE func329 rfl
def Uw:=[ok 6 (vS []),ok 7 (vB false)]
def Ux:=[om 8 0,om 9 1,om 10 2,oo 11 (.call JX [.t 8,.t 9,.t 10]),oo 12 (.un .not (.t 11))]
def Uy:=[ok 6 (vS []),ok 7 (vB false)]
def Uz:=[om 13 0,om 14 1,dK 15 DD 13 14,oo 16 (.bin .add .none (.t 15) (.k (vS [32]))),oo 17 (.call vQ []),om 18 2,cn 19 .sub 18 1,ft 20 1 17 19,bl 21 1 20,cI 22 .add 16 21,om 6 22,ok 7 (vB true)]
def aac:C:=(sr Uw [0,1,2] (ss (sr Ux [0,1,2,12] (sc 12 (sr Uy [6,7] .ret) .skip)) (sr Uz [6,7] .ret)))
theorem atF:cE MT aac [(.tmp 6),(.tmp 7)] 23:=dE func328 rfl
def aa9:=[dD 2 4 xR,ok 3 (vB false)]
def aba:=[om 10 0,oo 11 (.call rH [.t 10,(.k (vS [32]))]),om 4 11]
def abb:=[om 12 4,oo 13 (.len false (.t 12)),cn 14 .lss 13 3,om 15 14,oF 15 16 (.mv (.t 4)),oF 15 17 (.len false (.t 16)),oF 15 18 (.bin .gtr .none (.t 17) (xI 4)),oo 19 (.pick (.t 15) (xB true) (.t 18))]
def Nd:=[oo 20 (.build xR []),bg 4 2 20,ok 3 (vB false)]
def abc:=[oo 21 (.build xR []),dD 5 4 xR,bg 4 5 21]
def abd:=[ok 6 (vI 1)]
def abe:=[om 22 6,cn 23 .leq 22 6]
def abf:=[ok 7 (vI 1)]
def abg:=[om 26 7,cn 27 .leq 26 8]
def abh:=[om 30 4,oo 31 (.iaddr 1 (.t 30) (xI 0)),bl 32 1 31,om 33 6,om 34 7,dK 35 Nu 33 34,cI 36 .eql 32 35,om 37 36,oT 37 38 (.mv (.t 4)),oT 37 39 (.iaddr 1 (.t 38) (xI 1)),oT 37 40 (.ld false 1 (.t 39)),oT 37 41 (.mv (.t 7)),oT 37 42 (.mv (.t 6)),oT 37 43 (.call SB [.t 41,.t 42]),oT 37 44 (.bin .eql .none (.t 40) (.t 43)),oo 45 (.pick (.t 37) (.t 44) (xB false))]
def Fx:List (List Nat):=[[],[0],[0,1],[],[],[3,4],[0,1,2,3,4,5],[0,1,2,3,4,5,6],[0,1,2,3,4,5,6,7],[0,1,2,3,4,5,6,7,8],[0,1,2,3,4,5,6,7,8,9],[0,1,2,3,4,5,6,7],[0,1,2,3,4,5,6,7],[0,1,2,3,4,5,6,7,11,12],[0,1,2,3,4,5,6,7,8,9,10,11,12,13],[0,1,2,3,4,5,6,7,8,9,10,11,12,13,14]]
def WV:=[om 46 6,om 47 7,aL 48 0 5,bg 1 48 46,aL 49 1 5,bg 1 49 47]
def DG:=[om 28 7,fL 29 28 1,om 7 29]
def We:C:=(ss (sr abg [0,2,4,5,6,7,27] (sc 27 .skip (.exit 2))) (ss (.block 3 (ss (.regD abh Fx [0,2,4,5,6,7,45]) (sc 45 (.reg WV [0,2,4,5,6,7]) .skip))) (.reg DG [0,2,4,5,6,7])))
def WW:=[om 24 6,fL 25 24 1,om 6 25]
def Wf:C:=(ss (sr abe [0,2,4,5,6,23] (sc 23 .skip (.exit 0))) (ss (.block 1 (sr abf [0,2,4,5,6,7] (.block 2 (.loop We)))) (.wk (.reg WW [0,2,4,5,6]))))
def WX:=[om 50 4,oo 51 (.len false (.t 50)),cn 52 .eql 51 4]
def WY:=[aL 53 1 5,bl 54 1 53,cg 55 GK 54,om 56 4,oo 57 (.iaddr 1 (.t 56) (xI 2)),bl 58 1 57,dK 59 fU 55 58,fL 60 59 1,aL 61 2 5,bg 1 61 60]
def J8:List (List Nat):=[[],[0],[0,1],[],[3],[3,4],[0,1,2,3,4,5],[0,1,2,3,4,5,6],[0,1,2,3,4,5,6,7],[0,1,2,3,4,5,6,7,8]]
def WZ:=[om 63 4,om 64 4,oo 65 (.len false (.t 64)),cn 66 .sub 65 1,ft 67 1 63 66,bl 68 1 67,cg 69 rm 68,om 62 69,cJ 70 62 0,cJ 71 62 1,aL 72 3 5,bg 1 72 70]
def W0:=[bu 74 4 5,cg 75 Zi 74,om 73 75,cJ 76 73 0,cJ 77 73 1,om 8 76,om 9 77]
def W2:=[om 78 9,oo 79 (.un .not (.t 78)),om 80 79,oF 80 81 (.mv (.t 8)),oF 80 82 (.mv (.t 0)),oF 80 83 (.bin .neq .none (.t 81) (.t 82)),oo 84 (.pick (.t 80) (xB true) (.t 83))]
def Kr:=[oo 85 (.build xR []),bg 4 2 85,ok 3 (vB false)]
def W3:=[bu 86 4 5,bg 4 2 86,ok 3 (vB true)]
def ahB:C:=(sr aa9 [0,2] (sr aba [0,2,4] (ss (sr abb [0,2,4,19] (sc 19 (sr Nd [2,3] .ret) .skip)) (sr abc [0,2,4,5] (ss (sr abd [0,2,4,5,6] (.block 0 (.loop Wf))) (ss (ss (.wk (.reg WX [0,2,4,5,52])) (sc 52 (.regD WY J8 [0,2,4,5]) .skip)) (ss (.wk (.reg WZ [0,2,5])) (ss (sr W0 [0,2,5,8,9] (sr W2 [2,5,84] (sc 84 (sr Kr [2,3] .ret) .skip))) (sr W3 [2,3] .ret)))))))))
def aC3:Nat->List Nat
 | 0=>[0,2]
 | 1=>[0,2,4]
 | 2=>[0,2,4,19]
 | 3=>[2,3]
 | 4=>[0,2,4,5]
 | 5=>[0,2,4,5,6]
 | 6=>[0,2,4,5,6,23]
 | 8=>[0,2,4,5,6,7]
 | 9=>[0,2,4,5,6,7,27]
 | 11=>[0,2,4,5,6,7,45]
 | 12=>[0,2,4,5,6,7]
 | 10=>[0,2,4,5,6,7]
 | 7=>[999999,0,2,4,5,6]
 | 13=>[999999,0,2,4,5,52]
 | 14=>[0,2,4,5]
 | 15=>[999999,0,2,5]
 | 16=>[0,2,5,8,9]
 | 17=>[2,5,84]
 | 18=>[2,3]
 | 19=>[2,3]
 | _=>[]
theorem aAV:cE JT ahB [(.cell 2 true 4),(.tmp 3)] 87 :=
 ⟨Tryz.f287,_,aC3,func287,rfl,by kernel_rfl,by kernel_rfl,by kernel_rfl,rfl⟩
def QP:=[ok 2 (vI 0),ok 3 (vB false)]
def QQ:=[oo 5 (.call vQ []),om 6 0,dK 7 fU 5 6,om 4 7]
def QR:=[om 8 4,fL 9 8 1,om 10 4,cn 11 .geq 10 0,om 2 9,om 3 11]
def VO:C:=(sr QP [0] (sr QQ [4] (sr QR [2,3] .ret)))
theorem arN:cE rm VO [(.tmp 2),(.tmp 3)] 12:=dE func325 rfl
def aov:=[ok 2 (vS []),ok 3 (vI 0)]
def aow:=[oo 8 (.call GL []),oo 9 (.len false (.t 8)),ok 10 (vI 0)]
def aox:=[cI 11 .lss 10 9]
def aoy:=[om 12 10,ft 13 1 8 10,bl 14 1 13,om 4 12,om 5 14]
def aoz:=[om 16 0,om 17 5,oo 18 (.bin .add .none (.t 17) (.k (vS [32]))),dK 19 FY 16 18,om 15 19,cJ 20 15 0,cJ 21 15 1,om 6 20,om 7 21]
def aoA:=[om 22 7]
def aoB:=[om 23 6,om 24 4,fL 25 24 1,om 2 23,om 3 25]
def aoC:=[fL 26 10 1,om 10 26]
def anU:C:=(sr aox [0,8,9,10,11] (ss (sc 11 .skip (.exit 0)) (ss (.block 1 (sr aoy [0,4,5,8,9,10] (sr aoz [0,4,6,7,8,9,10] (sr aoA [0,4,6,8,9,10,22] (sc 22 (sr aoB [2,3] .ret) .skip))))) (.reg aoC [0,8,9,10]))))
def aoD:=[om 27 0,om 2 27,ok 3 (vI 0)]
def ay8:C:=(sr aov [0] (ss (sr aow [0,8,9,10] (.block 0 (.loop anU))) (sr aoD [2,3] .ret)))
theorem aGh:cE aio ay8 [(.tmp 2),(.tmp 3)] 28:=dE func324 rfl
def ae0:=[eF 1 4 0,ok 2 (vS []),ok 3 (vB false)]
def ae1:=[bu 4 4 1,cg 5 ud 4,oo 6 (.un .not (.t 5))]
def ae2:=[ok 2 (vS []),ok 3 (vB false)]
def ae3:=[bu 7 4 1,cg 8 JR 7,om 2 8,ok 3 (vB true)]
def anC:C:=(sr ae0 [1] (ss (sr ae1 [1,6] (sc 6 (sr ae2 [2,3] .ret) .skip)) (sr ae3 [2,3] .ret)))
theorem aCB:cE Zg anC [(.tmp 2),(.tmp 3)] 9:=dE func326 rfl
def aaZ:=[dD 2 4 xR,ok 3 (vB false)]
def aa0:=[oo 15 (.build xR []),om 16 0,dD 4 4 xR,bg 4 4 15,om 5 16]
def aa1:=[oo 17 (.call DC []),oo 18 (.len false (.t 17)),ok 19 (vI 0)]
def aa2:=[cI 20 .lss 19 18]
def aa3:=[om 21 19,ft 22 1 17 19,bl 23 1 22,om 6 21,om 7 23]
def aa4:=[om 25 0,om 26 7,oo 27 (.bin .add .none (.t 26) (.k (vS [32]))),dK 28 FY 25 27,om 24 28,cJ 29 24 0,cJ 30 24 1,om 8 29,om 9 30]
def aa5:=[om 31 9]
def aa6:=[om 32 6,fL 33 32 1,aL 34 0 4,bg 1 34 33]
def aa7:=[om 36 8,cg 37 aio 36,om 35 37,cJ 38 35 0,cJ 39 35 1,om 5 38,aL 40 1 4,bg 1 40 39]
def aa8:=[fL 41 19 1,om 19 41]
def Wd:C:=(sr aa2 [0,2,4,5,17,18,19,20] (ss (sc 20 .skip (.exit 0)) (ss (.block 1 (sr aa3 [0,2,4,5,6,7,17,18,19] (sr aa4 [0,2,4,5,6,8,9,17,18,19] (sr aa5 [0,2,4,5,6,8,17,18,19,31] (sc 31 (sr aa6 [0,2,4,8] (sr aa7 [0,2,4,5] (.exit 0))) .skip))))) (.reg aa8 [0,2,4,5,17,18,19]))))
def WP:=[om 43 5,oo 44 (.call gL [.t 43,(.k (vS [32,97,110,100,32]))]),om 42 44,cJ 45 42 0,cJ 46 42 1,cJ 47 42 2,om 10 45,om 11 46,om 12 47]
def WQ:=[om 49 10,cg 50 rm 49,om 48 50,cJ 51 48 0,cJ 52 48 1,aL 53 2 4,bg 1 53 51]
def WR:=[om 55 11,cg 56 rm 55,om 54 56,cJ 57 54 0,cJ 58 54 1,aL 59 3 4,bg 1 59 57]
def WS:=[bu 61 4 4,cg 62 Zg 61,om 60 62,cJ 63 60 0,cJ 64 60 1,om 13 63,om 14 64]
def WT:=[om 65 14,oo 66 (.un .not (.t 65)),om 67 66,oF 67 68 (.mv (.t 13)),oF 67 69 (.mv (.t 0)),oF 67 70 (.bin .neq .none (.t 68) (.t 69)),oo 71 (.pick (.t 67) (xB true) (.t 70))]
def Kq:=[oo 72 (.build xR []),bg 4 2 72,ok 3 (vB false)]
def WU:=[bu 73 4 4,bg 4 2 73,ok 3 (vB true)]
def ahA:C:=(sr aaZ [0,2] (sr aa0 [0,2,4,5] (ss (sr aa1 [0,2,4,5,17,18,19] (.block 0 (.loop Wd))) (ss (.wk (.reg WP [0,2,4,10,11])) (sr WQ [0,2,4,11] (sr WR [0,2,4] (ss (sr WS [0,2,4,13,14] (sr WT [2,4,71] (sc 71 (sr Kq [2,3] .ret) .skip))) (sr WU [2,3] .ret))))))))
theorem aAU:cE TS ahA [(.cell 2 true 4),(.tmp 3)] 74:=dE func285 rfl
theorem Hy (s:List UInt8):di rm [S s] (.tup [I (rv s),B (decide (0<=rv s - 1))]):=by
 have hb:=amM ua s;have hl:ua.length=9:=rfl;refine aa.of arN (by simp) ?_;simp[VO,QP,QQ];refine bB Px rfl (.inl (by simp)) (by simp) ?_;simp;refine al (aa.ag (ll ua s)) ?_;simp[QR];rw[aD (by omega)];simp[rv]
theorem az0 {k:Int} {l:List (List UInt8)} {i:Nat} (s:List UInt8) (hi:i < l.length):Ki k (l.drop i) s=if (l[i]++[32]).isPrefixOf s then some (k,s.drop (l[i].length+1)) else Ki (k+1) (l.drop (i+1)) s:=by
 rw[yf hi,Ki]
theorem aDX {s w:List UInt8} (h:(w++[32]).isPrefixOf s=true):Lib.trimPrefix s (w++[32])=s.drop (w.length+1):=by
 unfold Lib.trimPrefix Lib.hasPrefix;rw[if_pos h];simp
theorem aNg (s:List UInt8) (hs:s.length<=1000000):di aio [S s] (.tup [S (uU s).2,I (uU s).1]):=by
 have hl:sK.length=4:=rfl;refine aa.of aGh (by simp) ?_;simp[ay8,aov,aow,anU];refine bB ah6 rfl (.inl (by simp)) (by simp) ?_;simp[hl];refine dl (fun i:Nat=>⟨[(0,S s),(8,.sl 8 0 4),(9,I 4),(10,I i)],[(8,⟨1,sK.map S⟩)],[]⟩) (fun i=>4 - i) (fun i=>i<=4/\Ki 1 sK s=Ki (i+1) (sK.drop i) s) 0 Wk.li (by simp) ?_;rintro i ⟨hi,hj⟩ K hN hR hE;simp[aox,aoC];refine⟨fun hlt=>?_,fun hge=>?_⟩
 ·have hlen:sK[i].length<=12:=(by decide:∀ x ∈ sK,x.length<=12) _ (List.getElem_mem _);have hpd:=az0 (k:=i+1) s (l:=sK) (i:=i) (by omega);have hg:sK[i]?=some sK[i]:=List.getElem?_eq_getElem (by omega);simp[aoy,hlt,hg];simp[aoz];refine⟨by omega,?_⟩;refine aZ (aa.ag (YT s (sK[i]++[32]) hs)) ?_;simp[aoA];cases hp:(sK[i]++[32]).isPrefixOf s with
  | true =>
    rw[hp,if_pos rfl,<- hj] at hpd;have e:uU s=((i:Int)+1,s.drop (sK[i].length+1)):=by unfold uU;rw[hpd];rfl
    simp[Lib.hasPrefix,hp,aoB];rw[aD (by omega),aDX hp];refine hR _ ?_;rw[e];simp
  | false =>
    rw[hp,if_neg (by simp),<- hj] at hpd;simp[Lib.hasPrefix,hp];rw[aD (by omega)];exact hN (i+1) _ (by omega) ⟨by omega,by rw[hpd];push_cast;rfl⟩ Wk.li
 ·refine hE _ _ ?_;have e:i=4:=by omega
  subst e;have e2:uU s=(0,s):=by unfold uU;rw[hj];rfl
  rw[e2];simp[aoD]
theorem aIN (f:Field):di Zg [jC f] (.tup [S (if cN f=true then dS f else []),B (cN f)]):=by
 refine aa.of aCB (by simp) ?_;simp[anC,ae0,ae1];refine al (aa.ag (JB f)) ?_;cases h:cN f with
 | false=>simp[ae2]
 | true =>
   simp[ae3];refine al (aa.ag (atQ f h)) ?_;simp
def ahR (s:List UInt8):Int×Int×List UInt8:=match ahP s with | some (d,r)=>(d,(uU r).1,(uU r).2) | none=>(0,0,s)
theorem aCy (s:List UInt8):FV s=⟨(ahR s).1,(ahR s).2.1,rv (me NH (ahR s).2.2),rv (jB NH (ahR s).2.2)⟩:=by
 unfold FV ahR;cases ahP s with
 | none=>rfl
 | some p=>rfl
theorem asA:∀ (k:Int) (l:List (List UInt8)) (s:List UInt8) (p:Int×List UInt8),Ki k l s=some p->p.2.length<=s.length
 | _,[],_,_,h=>by simp[Ki] at h
 | k,w::ws,s,p,h=>by
   rw[Ki] at h;split at h
   ·injection h with h;subst h;simp
   ·exact asA _ ws s p h
theorem aJd (s:List UInt8):(uU s).2.length<=s.length:=by
 unfold uU;cases h:Ki 1 sK s with
 | none=>simp
 | some p=>exact asA _ _ _ _ h
theorem aPg (s:List UInt8):(ahR s).2.2.length<=s.length:=by
 unfold ahR;cases h:ahP s with
 | none=>simp
 | some p =>
   have h1:=asA _ _ _ _ h;have h2:=aJd p.2;dsimp only;omega
theorem aRh {s:List UInt8} {d:Int} {r:List UInt8} (h:ahP s=some (d,r)):ahR s=(d,(uU r).1,(uU r).2):=by unfold ahR;rw[h]
theorem aMY {s:List UInt8} (h:ahP s=none):ahR s=(0,0,s):=by unfold ahR;rw[h]
def aLg (s:List UInt8):AS:=⟨[(0,S s),(2,.ref 2 0 0),(4,.ref 4 0 0),(5,S (ahR s).2.2)],[(2,⟨4,[.agg [I 0,I 0,I 0,I 0]]⟩),(4,⟨4,[.agg [I (ahR s).1,I (ahR s).2.1,I 0,I 0]]⟩)],[]⟩
theorem aGL (s:List UInt8) (hs:s.length<=1000000):di TS [S s] (.tup [jC ((rB s).getD ⟨0,0,0,0⟩),B (rB s).isSome]):=by
 have hl:Y4.length=7:=rfl;have hcl:=aPg s;refine aa.of aAU (by simp) ?_;simp[ahA,aaZ,aa0,aa1,Wd];refine bB aeG rfl (.inl (by simp)) (by simp) ?_;simp[hl]
 refine aMp (fun i:Nat=>⟨[(0,S s),(2,.ref 2 0 0),(4,.ref 4 0 0),(5,S s),(17,.sl 17 0 7),(18,I 7),(19,I i)],[(2,⟨4,[.agg [I 0,I 0,I 0,I 0]]⟩),(4,⟨4,[.agg [I 0,I 0,I 0,I 0]]⟩),(17,⟨1,Y4.map S⟩)],[]⟩) (fun i=>7 - i)
  (fun i=>i<=7/\Ki 1 Y4 s=Ki (i+1) (Y4.drop i) s) 0 Wk.li (by simp) (fun s'=>Wk s' (aLg s)) 0 ?_ ?_
 ·intro s' hw;simp;refine cp (aLg s) hw ?_;simp[aLg,WP];refine bB (aa.arg (AO (ahR s).2.2 NH (by omega)) (by simp[NH])) rfl (.inl (by simp)) (by simp) ?_;simp[WQ];refine aZ (aa.ag (Hy (me NH (ahR s).2.2))) ?_;simp[WR];refine aZ (aa.ag (Hy (jB NH (ahR s).2.2))) ?_;simp[WS];refine bB (aa.arg (aIN (FV s)) (by simp[aCy])) rfl (.inl (by simp)) (by simp) ?_;simp[WT];cases hok:cN (FV s) with
  | false =>
    have e:rB s=none:=by unfold rB;rw[hok];simp
    simp[Kq,e]
  | true =>
    by_cases ht:dS (FV s)=s
    ·have e:rB s=some (FV s):=by unfold rB;rw[if_pos ⟨hok,ht⟩]
     simp[WU,ht,e];simp[aCy]
    ·have e:rB s=none:=by unfold rB;rw[if_neg (fun h=>ht h.2)]
     simp[Kq,ht,e]
 ·rintro i ⟨hi,hj⟩ K hN hR hE;simp[aa2,aa8];refine⟨fun hlt=>?_,fun hge=>?_⟩
  ·have hlen:Y4[i].length<=12:=(by decide:∀ x ∈ Y4,x.length<=12) _ (List.getElem_mem _);have hpd:=az0 (k:=i+1) s (l:=Y4) (i:=i) (by omega);have hg:Y4[i]?=some Y4[i]:=List.getElem?_eq_getElem (by omega);simp[aa3,hlt,hg];simp[aa4];refine⟨by omega,?_⟩;refine aZ (aa.ag (YT s (Y4[i]++[32]) hs)) ?_;simp[aa5];cases hp:(Y4[i]++[32]).isPrefixOf s with
   | true =>
     rw[hp,if_pos rfl,<- hj] at hpd;have e:=aRh (s:=s) hpd;simp[Lib.hasPrefix,hp,aa6];rw[aD (by omega),aDX hp];simp[aa7];refine aZ (aa.ag (aNg (s.drop (Y4[i].length+1)) (by simp;omega))) ?_;simp;refine hE _ (Wk.list rfl ?_ ?_)
     ·simp[aLg,e]
     ·simp[aLg,e]
   | false =>
     rw[hp,if_neg (by simp),<- hj] at hpd;simp[Lib.hasPrefix,hp];rw[aD (by omega)];exact hN (i+1) _ (by omega) ⟨by omega,by rw[hpd];push_cast;rfl⟩ Wk.li
  ·have e:i=7:=by omega
   subst e;have e2:=aMY (s:=s) hj;refine hE _ (Wk.list rfl ?_ ?_)
   ·simp[aLg,e2]
   ·simp[aLg,e2]
end Go.Proofs.YtnjjimhkbpdpgaaGreatDoor
