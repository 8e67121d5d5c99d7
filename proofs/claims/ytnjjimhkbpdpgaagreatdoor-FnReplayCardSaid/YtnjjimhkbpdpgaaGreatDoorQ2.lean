/- Parts of the proof that several claims share, part 2. -/
import Derived.Test.YtnjjimhkbpdpgaaGreatDoorProg
import Derived.KernelRfl
import Derived.Lib.ItoaNum
import Derived.Lib.LaidTab
import Derived.Test.YtnjjimhkbpdpgaaGreatDoorQ1
set_option linter.unusedVariables false
set_option linter.unusedSimpArgs false
namespace Go.Abs
variable [GI]
def mG (k:Nat):Nat:=1000000+k
def plM (N:Nat) (p0:Nat->Option Pl) (id:Nat):Option Pl:=if 1000000<=id/\id < 1000000+N then p0 (id - 1000000) else none
def flM (N:Nat) (F0:Nat->List Nat) (id:Nat):List Nat:=if 1000000<=id/\id < 1000000+N then F0 (id - 1000000) else []
omit [GI] in
theorem Kh {N k:Nat} (p0:Nat->Option Pl) (h:k < N):plM N p0 (mG k)=p0 k:=by
 have e:mG k - 1000000=k:=by unfold mG;omega
 unfold plM;rw[if_pos (by unfold mG;omega),e]
omit [GI] in
theorem aGf {N k:Nat} (F0:Nat->List Nat) (h:k < N):flM N F0 (mG k)=F0 k:=by
 have e:mG k - 1000000=k:=by unfold mG;omega
 unfold flM;rw[if_pos (by unfold mG;omega),e]
def pR:List (Option Blk)->Nat->List Nat
 | [],_=>[]
 | some _::l,k=>k::pR l (k+1)
 | none::l,k=>pR l (k+1)
omit [GI] in
theorem S5:∀ (l:List (Option Blk)) (k j:Nat),j ∈ pR l k↔k<=j/\∃ b,l[j - k]?=some (some b)
 | [],k,j=>by simp[pR]
 | some b::l,k,j=>by
   simp only[pR,List.mem_cons,S5 l (k+1) j];constructor
   ·rintro (rfl | ⟨h1,b',h2⟩)
    ·exact⟨Nat.le_refl _,b,by simp⟩
    ·refine⟨by omega,b',?_⟩;rw[show j - k=(j - (k+1))+1 from by omega];simpa using h2
   ·rintro ⟨h1,b',h2⟩;by_cases e:j=k
    ·exact .inl e
    ·refine .inr ⟨by omega,b',?_⟩;rw[show j - k=(j - (k+1))+1 from by omega] at h2;simpa using h2
 | none::l,k,j=>by
   simp only[pR,S5 l (k+1) j];constructor
   ·rintro ⟨h1,b',h2⟩;refine⟨by omega,b',?_⟩;rw[show j - k=(j - (k+1))+1 from by omega];simpa using h2
   ·rintro ⟨h1,b',h2⟩;by_cases e:j=k
    ·subst e;simp at h2
    ·refine⟨by omega,b',?_⟩;rw[show j - k=(j - (k+1))+1 from by omega] at h2;simpa using h2
omit [GI] in
theorem amy:∀ (l:List (Option Blk)) (k:Nat),(pR l k).Nodup
 | [],k=>List.nodup_nil
 | some b::l,k=>by
   simp only[pR,List.nodup_cons,S5];exact⟨fun h=>by omega,amy l (k+1)⟩
 | none::l,k=>amy l (k+1)
def ac (P:Program) (f:Nat) (H0:List Blk) (args:List V) (res:V) (H1:List (Option Blk)):Prop :=
 pz P f=true/\H1.length=H0.length/\∀ (w:World) (D:Nat->Prop) (xs:List Value) (p0:Nat->Option Pl) (F0:Nat->List Nat),(∀ b,D b->b < w.heap.size)->GI.holds w D ->
  (∀ k blk,H0[k]?=some blk->p9 w D (fun _=>p0 k) 0 blk (F0 k))->((List.range H0.length).flatMap F0).Nodup->(∀ b,b ∈ (List.range H0.length).flatMap F0->¬D b/\b < w.heap.size) ->
  iU w D args (plM H0.length p0) xs [] ->
  Calls P f xs.toArray w fun e w'=>∃ y D' fp F1,e=.returned y/\Grow w D ((List.range H0.length).flatMap F0) w' D'/\CV w' D' res (fun _=>none) y fp /\
   (∀ k blk,H1[k]?=some (some blk)->p9 w' D' (fun _=>p0 k) 0 blk (F1 k))/\(fp++(pR H1 0).flatMap F1).Nodup /\
   ∀ b,b ∈ fp++(pR H1 0).flatMap F1->(w.heap.size<=b\/b ∈ (List.range H0.length).flatMap F0)/\b < w'.heap.size/\¬D' b
def Pn (P:Program) (f:Nat) (H0:List Blk) (args:List V) (R:V->List Blk->Prop):Prop :=
 pz P f=true/\∀ (w:World) (D:Nat->Prop) (xs:List Value) (p0:Nat->Option Pl) (F0:Nat->List Nat),(∀ b,D b->b < w.heap.size)->GI.holds w D ->
  (∀ k blk,H0[k]?=some blk->p9 w D (fun _=>p0 k) 0 blk (F0 k))->((List.range H0.length).flatMap F0).Nodup->(∀ b,b ∈ (List.range H0.length).flatMap F0->¬D b/\b < w.heap.size) ->
  iU w D args (plM H0.length p0) xs [] ->
  Calls P f xs.toArray w fun e w'=>∃ res l,R res l/\l.length=H0.length/\∃ y D' fp F1,e=.returned y/\Grow w D ((List.range H0.length).flatMap F0) w' D'/\CV w' D' res (fun _=>none) y fp /\
   (∀ k blk,l[k]?=some blk->p9 w' D' (fun _=>p0 k) 0 blk (F1 k))/\(fp++(List.range H0.length).flatMap F1).Nodup /\
   ∀ b,b ∈ fp++(List.range H0.length).flatMap F1->(w.heap.size<=b\/b ∈ (List.range H0.length).flatMap F0)/\b < w'.heap.size/\¬D' b
omit [GI] in
theorem Vt:∀ (l:List Blk) (k:Nat),pR (l.map some) k=List.range' k l.length
 | [],k=>rfl
 | b::l,k=>by simp[pR,Vt l (k+1),List.range'_succ]
omit [GI] in
theorem Ec {w:World} {D:Nat->Prop} {φ φ':Nat->Option Pl} {id id':Nat} {blk:Blk} {f:List Nat} (hn:bN blk.es=true) (hφ:φ' id'=φ id) (h:p9 w D φ id blk f):p9 w D φ' id' blk f:=by
 rcases h with ⟨h1,h2,h3⟩ | ⟨p,arr,ty,f',h1,h2,h3,h4,h5,h6⟩
 ·exact .inl ⟨hφ.trans h1,h2,h3⟩
 ·exact .inr ⟨p,arr,ty,f',hφ.trans h1,h2,h3,h4,h5,lv (fun _ hb=>hb) _ _ _ _ _ _ (fun _ _=>rfl) (fun i hm=>by rw[jO i _ hn] at hm;cases hm) h6⟩
def A3 (M:List Nat) (id:Nat):Option Nat:=match M with
 | []=>none
 | m::M=>if m=id then some 0 else (A3 M id).map (·+1)
omit [GI] in
theorem C4:∀ (M:List Nat) (id k:Nat),A3 M id=some k->M[k]?=some id
 | [],id,k,h=>by simp[A3] at h
 | m::M,id,k,h=>by
   simp only[A3] at h;split at h
   ·rename_i e;simp only[Option.some.injEq] at h;subst h;subst e;rfl
   ·simp only[Option.map_eq_some_iff] at h;obtain ⟨j,hj,rfl⟩:=h;simpa using C4 M id j hj
omit [GI] in
theorem MO:∀ (M:List Nat) (id:Nat),A3 M id=none->id ∉ M
 | [],id,h=>by simp
 | m::M,id,h=>by
   simp only[A3] at h;split at h
   ·cases h
   ·rename_i e;simp only[Option.map_eq_none_iff] at h;simp only[List.mem_cons,not_or];exact⟨fun e'=>e e'.symm,MO M id h⟩
omit [GI] in
theorem aCY:∀ (M:List Nat) (k id:Nat),M.Nodup->M[k]?=some id->A3 M id=some k
 | [],k,id,_,h=>by simp at h
 | m::M,k,id,hn,h=>by
   simp only[List.nodup_cons] at hn;cases k with
   | zero=>simp at h;subst h;simp[A3]
   | succ k =>
     simp only[List.getElem?_cons_succ] at h;have hm:id ∈ M:=(List.mem_iff_getElem?).2 ⟨k,h⟩;have:m≠id:=fun e=>hn.1 (e▸hm);simp[A3,this,aCY M k id hn.2 h]
def aBf (M:List Nat) (hp:Nat->Option Blk) (id:Nat):Option Blk:=if (A3 M id).isSome then none else hp id
def aC7 (M:List Nat) (hp:Nat->Option Blk) (k:Nat):V->V
 | .sl id i n=>match A3 M id with | some j=>.sl (mG j) i n | none=>cz (aBf M hp) k (.sl id i n)
 | .ref id i j=>match A3 M id with | some m=>.ref (mG m) i j | none=>cz (aBf M hp) k (.ref id i j)
 | v=>cz (aBf M hp) k v
def vc (M:List Nat) (hp:Nat->Option Blk):Nat->V->V
 | k+1,.agg cs=>.agg (cs.map (aC7 M hp k))
 | k,v=>aC7 M hp k v
section
variable {X : Ctx} {s : St} {a : Act} {w : World} {D : Nat → Prop} {φ : Nat → Option Pl} {F : Nat → List Nat}
omit [GI] in
theorem aC8 {D':Nat->Prop} {M:List Nat} {hp:Nat->Option Blk} {k:Nat} {p0:Nat->Option Pl} (hp0:∀ j id,M[j]?=some id->p0 j=φ id) (hD:∀ b,D b->D' b) (hF:∀ id b,id ∉ M->b ∈ F id->D' b)
  (hb:∀ id blk,hp id=some blk->p9 w D φ id blk (F id)) (v:V) (x:Value) (h:CV w D v φ x []):CV w D' (aC7 M hp k v) (plM M.length p0) x []:=by
 have hoff:∀ id blk,aBf M hp id=some blk->p9 w D φ id blk (if id ∈ M then [] else F id):=fun id blk hbl=>by
  unfold aBf at hbl;split at hbl
  ·cases hbl
  ·rename_i hi;have:id ∉ M:=MO M id (by simpa using hi);rw[if_neg this];exact hb id blk hbl
 have plain:∀ v,CV w D v φ x []->CV w D' (cz (aBf M hp) k v) (plM M.length p0) x []:=fun v h=>by
  have h1:=amU (F:=fun id=>if id ∈ M then [] else F id) hD (fun id b hbm=>by
   split at hbm
   ·cases hbm
   ·rename_i hi;exact hF id b hi hbm) hoff k φ (.inl rfl) v x [] (by simp) h
  exact pS (fun _ hb=>hb) _ _ _ _ _ (fun _ _=>rfl) (fun id hm=>by rw[Ag id _ (z8 _ k v)] at hm;cases hm) h1
 have lt:∀ j id,M[j]?=some id->j < M.length:=fun j id hj=>(List.getElem?_eq_some_iff.1 hj).1;cases v with
 | sl id i n =>
   simp only[aC7];split
   ·rename_i j hj;have hj':=C4 M id j hj;have e:plM M.length p0 (mG j)=φ id:=by rw[Kh p0 (lt j id hj'),hp0 j id hj']
    simp only[CV] at h ⊢;rw[e];exact h
   ·exact plain _ h
 | ref id i j =>
   simp only[aC7];split
   ·rename_i m hm;have hm':=C4 M id m hm;have e:plM M.length p0 (mG m)=φ id:=by rw[Kh p0 (lt m id hm'),hp0 m id hm']
    simp only[CV] at h ⊢;rw[e];exact h
   ·exact plain _ h
 | _=>exact plain _ h
omit [GI] in
theorem aEX {D':Nat->Prop} {M:List Nat} {hp:Nat->Option Blk} {k:Nat} {p0:Nat->Option Pl} (hp0:∀ j id,M[j]?=some id->p0 j=φ id) (hD:∀ b,D b->D' b) (hF:∀ id b,id ∉ M->b ∈ F id->D' b)
  (hb:∀ id blk,hp id=some blk->p9 w D φ id blk (F id)):∀ (vs:List V) (xs:List Value),iU w D vs φ xs []->iU w D' (vs.map (aC7 M hp k)) (plM M.length p0) xs []
 | [],xs,h=>by simpa [iU] using h
 | v::vs,xs,h=>by
   simp only[iU] at h;obtain ⟨x,xs',f1,f2,rfl,hf,h1,h2⟩:=h;obtain ⟨rfl,rfl⟩:=List.append_eq_nil_iff.1 hf.symm;simp only[List.map_cons,iU];exact⟨x,xs',[],[],rfl,rfl,aC8 hp0 hD hF hb v x h1,aEX hp0 hD hF hb vs xs' h2⟩
omit [GI] in
theorem aRq {D':Nat->Prop} {M:List Nat} {hp:Nat->Option Blk} {p0:Nat->Option Pl} (hp0:∀ j id,M[j]?=some id->p0 j=φ id) (hD:∀ b,D b->D' b) (hF:∀ id b,id ∉ M->b ∈ F id->D' b)
  (hb:∀ id blk,hp id=some blk->p9 w D φ id blk (F id)):∀ (k:Nat) (v:V) (x:Value),CV w D v φ x []->CV w D' (vc M hp k v) (plM M.length p0) x []
 | k+1,.agg cs,x,h=>by
   simp only[CV,vc] at h ⊢;obtain ⟨xs,h1,h2⟩:=h;exact⟨xs,h1,aEX (k:=k) hp0 hD hF hb cs _ h2⟩
 | 0,v,x,h=>by simp only[vc];exact aC8 hp0 hD hF hb v x h
 | k+1,.undef,x,h | k+1,.v _,x,h | k+1,.ref _ _ _,x,h | k+1,.sl _ _ _,x,h | k+1,.rp _ _ _ _,x,h | k+1,.ro _ _,x,h | k+1,.own _ _,x,h | k+1,.tup _,x,h | k+1,.clo _ _,x,h=>by
   simp only[vc];exact aC8 hp0 hD hF hb _ x h
omit [GI] in
theorem asP {D':Nat->Prop} {M:List Nat} {hp:Nat->Option Blk} {k:Nat} {p0:Nat->Option Pl} (hp0:∀ j id,M[j]?=some id->p0 j=φ id) (hD:∀ b,D b->D' b) (hF:∀ id b,id ∉ M->b ∈ F id->D' b)
  (hb:∀ id blk,hp id=some blk->p9 w D φ id blk (F id)):∀ (vs:List V) (xs:List Value),iU w D vs φ xs []->iU w D' (vs.map (vc M hp k)) (plM M.length p0) xs []
 | [],xs,h=>by simpa [iU] using h
 | v::vs,xs,h=>by
   simp only[iU] at h;obtain ⟨x,xs',f1,f2,rfl,hf,h1,h2⟩:=h;obtain ⟨rfl,rfl⟩:=List.append_eq_nil_iff.1 hf.symm;simp only[List.map_cons,iU];exact⟨x,xs',[],[],rfl,rfl,aRq hp0 hD hF hb k v x h1,asP hp0 hD hF hb vs xs' h2⟩
def St.wrote (s:St) (M:List Nat) (H1:List (Option Blk)):St:={ s with hp:=fun id=>match A3 M id with | some k=>(H1[k]?).join | none=>s.hp id }
omit [GI] in
theorem Hm (M:List Nat) (F:Nat->List Nat):(List.range M.length).flatMap (fun k=>F (M.getD k 0))=M.flatMap F:=by
 rw[<- List.flatMap_map];congr 1;apply List.ext_getElem?;intro i;by_cases h:i < M.length
 ·simp[List.getD,h]
 ·simp[h]
theorem RelD.wrote (h:RelD X s a w D φ F []) {M:List Nat} (hM:M.Nodup) {H1:List (Option Blk)} (hl:H1.length=M.length) {w':World} {D':Nat->Prop} {fp:List Nat} {F1:Nat->List Nat} (hg:Grow w D (M.flatMap F) w' D')
  (hno:∀ (k:Nat) (blk:Blk),H1[k]?=some (some blk)->bN blk.es=true) (hb:∀ (k:Nat) (blk:Blk),H1[k]?=some (some blk)->p9 w' D' (fun _=>φ (M.getD k 0)) 0 blk (F1 k)) (hn:(fp++(pR H1 0).flatMap F1).Nodup)
  (hf:∀ b,b ∈ fp++(pR H1 0).flatMap F1->(w.heap.size<=b\/b ∈ M.flatMap F)/\b < w'.heap.size/\¬D' b) :
  RelD X (s.wrote M H1) a w' D' φ (fun id=>match A3 M id with | some k=>(match (H1[k]?).join with | some _=>F1 k | none=>[]) | none=>F id) fp:=by
 have ltM:∀ k id,M[k]?=some id->k < M.length:=fun k id hk=>(List.getElem?_eq_some_iff.1 hk).1;have getD:∀ k id,M[k]?=some id->M.getD k 0=id:=fun k id hk=>by simp[List.getD,hk]
 have inM:∀ id k,A3 M id=some k->id ∈ M:=fun id k hk=>List.mem_iff_getElem?.2 ⟨k,C4 M id k hk⟩
 have stays:∀ b,(D b\/∃ id,id ∉ M/\b ∈ F id)->w'.heap[b]?=w.heap[b]?:=fun b hb=>by
  refine hg.old b ?_ fun hm=>?_
  ·rcases hb with hb | ⟨id,_,hb⟩
   ·exact h.Dlt b hb
   ·exact(h.notD id b hb).2.1
  ·obtain ⟨j,hj,hbj⟩:=List.mem_flatMap.1 hm;rcases hb with hb | ⟨id,hid,hb⟩
   ·exact(h.notD j b hbj).1 hb
   ·exact h.sep id j (fun e=>hid (e▸hj)) b hb hbj
 have notD':∀ b,b < w.heap.size->b ∉ M.flatMap F->¬D b->¬D' b:=fun b hb hm hn hd=>by
  rcases hg.Ddn b hd with e | e | e
  ·exact hn e
  ·omega
  ·exact hm e
 have from1:∀ id k,A3 M id=some k->∀ b,b ∈ (match (H1[k]?).join with | some _=>F1 k | none=>[])->k ∈ pR H1 0/\b ∈ F1 k:=fun id k hk b hb=>by
  split at hb
  ·rename_i blk hbl;refine⟨(S5 H1 0 k).2 ⟨Nat.zero_le _,blk,?_⟩,hb⟩;rw[Nat.sub_zero];cases hh:H1[k]? with
   | none=>rw[hh] at hbl;cases hbl
   | some o=>rw[hh] at hbl;simp only[Option.join_some] at hbl;rw[hbl]
  ·cases hb
 have fresh1:∀ id k,A3 M id=some k->∀ b,b ∈ (match (H1[k]?).join with | some _=>F1 k | none=>[])->(w.heap.size<=b\/b ∈ M.flatMap F)/\b < w'.heap.size/\¬D' b:=fun id k hk b hb=>by
  have:=from1 id k hk b hb;exact hf b (List.mem_append_right _ (List.mem_flatMap.2 ⟨k,this.1,this.2⟩))
 have oldOk:∀ b,(w.heap.size<=b\/b ∈ M.flatMap F)->X.w0.heap.size<=b\/b ∈ X.W:=fun b hb=>by
  rcases hb with hb | hb
  ·exact .inl (Nat.le_trans h.size hb)
  ·obtain ⟨j,_,hbj⟩:=List.mem_flatMap.1 hb;exact(h.notD j b hbj).2.2
 have aBf:∀ id,id ∉ M->∀ b,b ∈ F id->¬(w.heap.size<=b\/b ∈ M.flatMap F):=fun id hid b hb hx=>by
  rcases hx with hx | hx
  ·have:=(h.notD id b hb).2.1;omega
  ·obtain ⟨j,hj,hbj⟩:=List.mem_flatMap.1 hx;exact h.sep id j (fun e=>hid (e▸hj)) b hb hbj
 have n1:=List.nodup_append.1 hn
 have sep1:∀ (l:List Nat),l.Nodup->(l.flatMap F1).Nodup->(∀ k,k ∈ l->(F1 k).Nodup)/\∀ k j,k ∈ l->j ∈ l->k≠j->∀ b,b ∈ F1 k->b ∉ F1 j:=by
  intro l
  induction l with
  | nil=>exact fun _ _=>⟨fun _ hk=>absurd hk List.not_mem_nil,fun _ _ hk=>absurd hk List.not_mem_nil⟩
  | cons m l ih =>
    intro hnd hfl;rw[List.nodup_cons] at hnd;rw[List.flatMap_cons,List.nodup_append] at hfl;obtain ⟨g1,g2⟩:=ih hnd.2 hfl.2.1;refine⟨fun k hk=>?_,fun k j hk hj hne b hb hb'=>?_⟩
    ·rcases List.mem_cons.1 hk with rfl | hk
     ·exact hfl.1
     ·exact g1 k hk
    ·rcases List.mem_cons.1 hk with ek | hk1
     ·rcases List.mem_cons.1 hj with ej | hj1
      ·exact hne (ek.trans ej.symm)
      ·exact hfl.2.2 b (ek▸hb) b (List.mem_flatMap.2 ⟨j,hj1,hb'⟩) rfl
     ·rcases List.mem_cons.1 hj with ej | hj1
      ·exact hfl.2.2 b (ej▸hb') b (List.mem_flatMap.2 ⟨k,hk1,hb⟩) rfl
      ·exact g2 k j hk1 hj1 hne b hb hb'
 obtain ⟨g1,g2⟩:=sep1 (pR H1 0) (amy H1 0) n1.2.1;refine { os:=hg.os.trans h.os,tape:=hg.tape.trans h.tape,output:=hg.output.trans h.output,size:=Nat.le_trans h.size hg.size,old:=fun b hb hW=>?_,Dup:=fun b hb=>hg.Dup b (h.Dup b hb),Ddn:=fun b hb=>?_,Dlt:=hg.Dlt,defers:=h.defers,ntmps:=h.ntmps,slots:=fun t=>?_,blks:=fun id blk hbl=>?_,nob:=fun id hid=>?_,nodup:=fun id=>?_,sep:=fun i j hij b hbi=>?_,notD:=fun id b hbi=>?_,pins:=h.pins,gnodup:=n1.1,gsep:=fun i b hbi hm=>?_,gnotD:=fun b hbm=>?_,gi:=GI.mono h.gi hg.Dup fun b hb=>stays b (.inl hb) }
 ·rw[hg.old b (Nat.lt_of_lt_of_le hb h.size) fun hm=>?_]
  ·exact h.old b hb hW
  ·obtain ⟨j,_,hbj⟩:=List.mem_flatMap.1 hm;rcases (h.notD j b hbj).2.2 with e | e
   ·omega
   ·exact hW e
 ·rcases hg.Ddn b hb with e | e
  ·exact h.Ddn b e
  ·exact .inr (oldOk b e)
 ·exact pS hg.Dup _ _ _ _ _ (fun b hb=>stays b (hb.elim .inl (by simp))) (fun _ _=>rfl) (h.slots t)
 ·simp only[St.wrote] at hbl;split at hbl
  ·rename_i k hk
   have hbl':H1[k]?=some (some blk):=by
    cases hh:H1[k]? with
    | none=>rw[hh] at hbl;cases hbl
    | some o=>rw[hh] at hbl;simp only[Option.join_some] at hbl;rw[hbl]
   have hid:=C4 M id k hk;have:=hb k blk hbl';rw[getD k id hid] at this;simp only[hbl',Option.join_some];exact Ec (φ:=fun _=>φ id) (id:=0) (hno k blk hbl') rfl this
  ·rename_i hk;have hid:=MO M id hk;rcases h.blks id blk hbl with e | ⟨p,arr,ty,f',h1,h2,h3,h4,h5,h6⟩
   ·exact .inl e
   ·refine .inr ⟨p,arr,ty,f',h1,h2,h3,?_,h5,lv hg.Dup _ _ _ _ _ _ (fun b hb'=>stays b (hb'.imp (fun hx=>hx) fun hm=>⟨_,hid,by rw[h5];exact List.mem_cons_of_mem _ hm⟩)) (fun _ _=>rfl) h6⟩;exact h4.congr (stays p.b (.inr ⟨_,hid,by rw[h5];exact List.mem_cons_self⟩))
 ·simp only[St.wrote] at hid;split at hid
  ·rename_i k hk;simp only[hid]
  ·exact h.nob id hid
 ·show (match A3 M id with | some k=>(match (H1[k]?).join with | some _=>F1 k | none=>[]) | none=>F id).Nodup;split
  ·rename_i k hk;split
   ·rename_i blk hbl;refine g1 k ((S5 H1 0 k).2 ⟨Nat.zero_le _,blk,?_⟩);rw[Nat.sub_zero];cases hh:H1[k]? with
    | none=>rw[hh] at hbl;cases hbl
    | some o=>rw[hh] at hbl;simp only[Option.join_some] at hbl;rw[hbl]
   ·exact List.nodup_nil
  ·exact h.nodup id
 ·intro hbj;cases hi:A3 M i with
  | some ki =>
    rw[hi] at hbi;cases hj:A3 M j with
    | some kj =>
      rw[hj] at hbj;have a1:=from1 i ki hi b hbi;have a2:=from1 j kj hj b hbj;refine g2 ki kj a1.1 a2.1 (fun e=>hij ?_) b a1.2 a2.2;have e1:=C4 M i ki hi;have e2:=C4 M j kj hj;rw[e,e2] at e1;exact(Option.some.inj e1).symm
    | none =>
      rw[hj] at hbj;exact aBf j (MO M j hj) b hbj (fresh1 i ki hi b hbi).1
  | none =>
    rw[hi] at hbi;cases hj:A3 M j with
    | some kj =>
      rw[hj] at hbj;exact aBf i (MO M i hi) b hbi (fresh1 j kj hj b hbj).1
    | none =>
      rw[hj] at hbj;exact h.sep i j hij b hbi hbj
 ·cases hi:A3 M id with
  | some ki =>
    rw[hi] at hbi;have:=fresh1 id ki hi b hbi;exact⟨this.2.2,this.2.1,oldOk b this.1⟩
  | none =>
    rw[hi] at hbi;have:=h.notD id b hbi;exact⟨notD' b this.2.1 (fun hm=>aBf id (MO M id hi) b hbi (.inr hm)) this.1,Nat.lt_of_lt_of_le this.2.1 hg.size,this.2.2⟩
 ·cases hi:A3 M i with
  | some ki =>
    rw[hi] at hbi;have a1:=from1 i ki hi b hbi;exact n1.2.2 b hm b (List.mem_flatMap.2 ⟨ki,a1.1,a1.2⟩) rfl
  | none =>
    rw[hi] at hbi;exact aBf i (MO M i hi) b hbi (hf b (List.mem_append_left _ hm)).1
 ·have:=hf b (List.mem_append_left _ hbm);exact⟨this.2.2,this.2.1,oldOk b this.1⟩
theorem aPG {P:Program} {f d k:Nat} {vs:List V} {res:V} {xs:List Value} {M:List Nat} {H0:List Blk} {H1:List (Option Blk)} (hP:ac P f H0 (vs.map (vc M s.hp k)) res H1) (h:Rel X s a w)
  (hM:M.Nodup) (hH:M.map s.hp=H0.map some) (hn0:∀ blk ∈ H0,bN blk.es=true) (hn1:∀ (j:Nat) (blk:Blk),H1[j]?=some (some blk)->bN blk.es=true)
  (hv:∀ D φ F,RelD X s a w D φ F []->iU w D vs φ xs []) (hd:d < X.n) (hres:fW res=true) (hro:u5 res=true) (hro1:∀ (j:Nat) (blk:Blk),H1[j]?=some (some blk)->pO blk.es=true)
  (hf:∀ i,i < (ix d 0 res).2.2->Fresh (s.wrote M H1) (d+1000 * i)/\d+1000 * i ∉ X.pin) :
  Calls P f xs.toArray w fun e w'=>∃ y,e=.returned y/\Rel X ((s.wrote M H1).took d res) (a.put (some d) y) w':=by
 obtain ⟨D,φ,F,h⟩:=h;have hvs:=hv D φ F h
 have hlen:H0.length=M.length:=by
  have:=congrArg List.length hH;simpa using this.symm
 have get:∀ (j:Nat) (blk:Blk),H0[j]?=some blk->∃ id,M[j]?=some id/\s.hp id=some blk:=fun j blk hj=>by
  have h1:(M.map s.hp)[j]?=some (some blk):=by rw[hH];simp[hj]
  rw[List.getElem?_map,Option.map_eq_some_iff] at h1;exact h1
 let D2:Nat->Prop:=fun b=>b < w.heap.size/\b ∉ M.flatMap F
 have hD2:∀ b,D b->D2 b:=fun b hb=>⟨h.Dlt b hb,fun hm=>by
  obtain ⟨j,_,hbj⟩:=List.mem_flatMap.1 hm;exact(h.notD j b hbj).1 hb⟩
 have hargs:=asP (M:=M) (hp:=s.hp) (k:=k) (p0:=fun j=>φ (M.getD j 0)) (D':=D2) (fun j id hj=>by simp[List.getD,hj]) hD2
  (fun id b hid hb=>⟨(h.notD id b hb).2.1,fun hm=>by
   obtain ⟨j,hj,hbj⟩:=List.mem_flatMap.1 hm;exact h.sep id j (fun e=>hid (e▸hj)) b hb hbj⟩) h.blks vs xs hvs
 have hfm:(List.range H0.length).flatMap (fun j=>F (M.getD j 0))=M.flatMap F:=by rw[hlen];exact Hm M F
 have hl1:H1.length=M.length:=hP.2.1.trans hlen
 have hcall:=hP.2.2 w D2 xs (fun j=>φ (M.getD j 0)) (fun j=>F (M.getD j 0)) (fun b hb=>hb.1) (GI.mono h.gi hD2 fun _ _=>rfl) (fun j blk hj=>by
  obtain ⟨id,hid,hbl⟩:=get j blk hj;have e:M.getD j 0=id:=by simp[List.getD,hid]
  rw[e];have hno:=hn0 blk (List.mem_iff_getElem?.2 ⟨j,hj⟩);rcases h.blks id blk hbl with g | ⟨p,arr,ty,f',h1,h2,h3,h4,h5,h6⟩
  ·exact .inl g
  ·exact .inr ⟨p,arr,ty,f',h1,h2,h3,h4,h5,lv hD2 _ _ _ _ _ _ (fun _ _=>rfl) (fun i hm=>by rw[jO i _ hno] at hm;cases hm) h6⟩)
  (by rw[hfm];exact mg h M hM) (fun b hb=>by
   rw[hfm] at hb;obtain ⟨j,_,hbj⟩:=List.mem_flatMap.1 hb;exact⟨fun hx=>hx.2 hb,(h.notD j b hbj).2.1⟩) (by rw[hlen];exact hargs)
 refine hcall.mono ?_;rintro e w' ⟨y,D',fp,F1,rfl,hg,hc,hb1,hnd,hfr⟩;rw[hfm] at hg hfr;refine⟨y,rfl,?_⟩
 let D3:Nat->Prop:=fun b=>D b\/(w.heap.size<=b/\D' b)
 have hg3:Grow w D (M.flatMap F) w' D3 :=
  { hg with Dup:=fun b hb=>.inl hb,Ddn:=fun b hb=>hb.imp (fun hx=>hx) fun h=>.inl h.1,Dlt:=fun b hb=>hb.elim (fun hb=>Nat.lt_of_lt_of_le (h.Dlt b hb) hg.size) (fun hb=>hg.Dlt b hb.2) }
 have hfr3:∀ b,b ∈ fp++(pR H1 0).flatMap F1->(w.heap.size<=b\/b ∈ M.flatMap F)/\b < w'.heap.size/\¬D3 b:=fun b hb=>by
  have:=hfr b hb;refine⟨this.1,this.2.1,fun hx=>?_⟩;rcases hx with hx | hx
  ·exact this.2.2 (hg.Dup b (hD2 b hx))
  ·exact this.2.2 hx.2
 have hw:=h.wrote hM hl1 (fp:=fp) (F1:=F1) hg3 hn1 (fun j blk hj=>by
  rcases hb1 j blk hj with g | ⟨p,arr,ty,f',h1,h2,h3,h4,h5,h6⟩
  ·exact .inl g
  ·refine .inr ⟨p,arr,ty,f',h1,h2,h3,h4,h5,?_⟩;exact aBv _ blk.es _ _ _ (hro1 j blk hj) h6) hnd hfr3
 have hc3:CV w' D3 res (fun _=>none) y fp:=asO res _ _ _ hro hc;rw[<- List.append_nil fp] at hw;obtain ⟨φ',F',t1,t2,_⟩:=aee (d:=d) res 0 (s.wrote M H1) φ _ y fp [] hres hw hc3 (fun i _ hi=>hf i hi);exact⟨D3,φ',F',t1.rel.put d hd _ _ t2⟩
theorem aNs {P:Program} {f d k:Nat} {vs:List V} {xs:List Value} {M:List Nat} {H0:List Blk} {R:V->List Blk->Prop} (hP:Pn P f H0 (vs.map (vc M s.hp k)) R) (h:Rel X s a w)
  (hM:M.Nodup) (hH:M.map s.hp=H0.map some) (hn0:∀ blk ∈ H0,bN blk.es=true) (hv:∀ D φ F,RelD X s a w D φ F []->iU w D vs φ xs []) (hd:d < X.n)
  (hR:∀ res l,R res l->l.length=H0.length->fW res=true/\u5 res=true/\(∀ (j:Nat) (blk:Blk),(l.map some)[j]?=some (some blk)->bN blk.es=true/\pO blk.es=true) /\
   ∀ i,i < (ix d 0 res).2.2->Fresh (s.wrote M (l.map some)) (d+1000 * i)/\d+1000 * i ∉ X.pin) :
  Calls P f xs.toArray w fun e w'=>∃ y res l,R res l/\l.length=H0.length/\e=.returned y/\Rel X ((s.wrote M (l.map some)).took d res) (a.put (some d) y) w':=by
 obtain ⟨D,φ,F,h⟩:=h;have hvs:=hv D φ F h
 have hlen:H0.length=M.length:=by
  have:=congrArg List.length hH;simpa using this.symm
 have get:∀ (j:Nat) (blk:Blk),H0[j]?=some blk->∃ id,M[j]?=some id/\s.hp id=some blk:=fun j blk hj=>by
  have h1:(M.map s.hp)[j]?=some (some blk):=by rw[hH];simp[hj]
  rw[List.getElem?_map,Option.map_eq_some_iff] at h1;exact h1
 let D2:Nat->Prop:=fun b=>b < w.heap.size/\b ∉ M.flatMap F
 have hD2:∀ b,D b->D2 b:=fun b hb=>⟨h.Dlt b hb,fun hm=>by
  obtain ⟨j,_,hbj⟩:=List.mem_flatMap.1 hm;exact(h.notD j b hbj).1 hb⟩
 have hargs:=asP (M:=M) (hp:=s.hp) (k:=k) (p0:=fun j=>φ (M.getD j 0)) (D':=D2) (fun j id hj=>by simp[List.getD,hj]) hD2
  (fun id b hid hb=>⟨(h.notD id b hb).2.1,fun hm=>by
   obtain ⟨j,hj,hbj⟩:=List.mem_flatMap.1 hm;exact h.sep id j (fun e=>hid (e▸hj)) b hb hbj⟩) h.blks vs xs hvs
 have hfm:(List.range H0.length).flatMap (fun j=>F (M.getD j 0))=M.flatMap F:=by rw[hlen];exact Hm M F
 have hcall:=hP.2 w D2 xs (fun j=>φ (M.getD j 0)) (fun j=>F (M.getD j 0)) (fun b hb=>hb.1) (GI.mono h.gi hD2 fun _ _=>rfl) (fun j blk hj=>by
  obtain ⟨id,hid,hbl⟩:=get j blk hj;have e:M.getD j 0=id:=by simp[List.getD,hid]
  rw[e];have hno:=hn0 blk (List.mem_iff_getElem?.2 ⟨j,hj⟩);rcases h.blks id blk hbl with g | ⟨p,arr,ty,f',h1,h2,h3,h4,h5,h6⟩
  ·exact .inl g
  ·exact .inr ⟨p,arr,ty,f',h1,h2,h3,h4,h5,lv hD2 _ _ _ _ _ _ (fun _ _=>rfl) (fun i hm=>by rw[jO i _ hno] at hm;cases hm) h6⟩)
  (by rw[hfm];exact mg h M hM) (fun b hb=>by
   rw[hfm] at hb;obtain ⟨j,_,hbj⟩:=List.mem_flatMap.1 hb;exact⟨fun hx=>hx.2 hb,(h.notD j b hbj).2.1⟩) (by rw[hlen];exact hargs)
 refine hcall.mono ?_;rintro e w' ⟨res,l,hRR,hll,y,D',fp,F1,rfl,hg,hc,hb1',hnd,hfr⟩;obtain ⟨hres,hro,hbs,hf⟩:=hR res l hRR hll;have hst:pR (l.map some) 0=List.range H0.length:=by rw[Vt,hll,List.range_eq_range']
 have hl1:(l.map some).length=M.length:=by rw[List.length_map,hll,hlen]
 have hn1:∀ (j:Nat) (blk:Blk),(l.map some)[j]?=some (some blk)->bN blk.es=true:=fun j blk hj=>(hbs j blk hj).1;have hro1:∀ (j:Nat) (blk:Blk),(l.map some)[j]?=some (some blk)->pO blk.es=true:=fun j blk hj=>(hbs j blk hj).2;have hb1:∀ k blk,(l.map some)[k]?=some (some blk)->p9 w' D' (fun _=>φ (M.getD k 0)) 0 blk (F1 k):=fun k blk hk=>hb1' k blk (by rw[List.getElem?_map] at hk;cases hlk:l[k]?<;>simp_all);rw[<- hst] at hnd hfr;rw[hst] at hfr;rw[hfm] at hg hfr;rw[<- hst] at hfr;refine⟨y,res,l,hRR,hll,rfl,?_⟩
 let D3:Nat->Prop:=fun b=>D b\/(w.heap.size<=b/\D' b)
 have hg3:Grow w D (M.flatMap F) w' D3 :=
  { hg with Dup:=fun b hb=>.inl hb,Ddn:=fun b hb=>hb.imp (fun hx=>hx) fun h=>.inl h.1,Dlt:=fun b hb=>hb.elim (fun hb=>Nat.lt_of_lt_of_le (h.Dlt b hb) hg.size) (fun hb=>hg.Dlt b hb.2) }
 have hfr3:∀ b,b ∈ fp++(pR (l.map some) 0).flatMap F1->(w.heap.size<=b\/b ∈ M.flatMap F)/\b < w'.heap.size/\¬D3 b:=fun b hb=>by
  have:=hfr b hb;refine⟨this.1,this.2.1,fun hx=>?_⟩;rcases hx with hx | hx
  ·exact this.2.2 (hg.Dup b (hD2 b hx))
  ·exact this.2.2 hx.2
 have hw:=h.wrote hM hl1 (fp:=fp) (F1:=F1) hg3 hn1 (fun j blk hj=>by
  rcases hb1 j blk hj with g | ⟨p,arr,ty,f',h1,h2,h3,h4,h5,h6⟩
  ·exact .inl g
  ·refine .inr ⟨p,arr,ty,f',h1,h2,h3,h4,h5,?_⟩;exact aBv _ blk.es _ _ _ (hro1 j blk hj) h6) hnd hfr3
 have hc3:CV w' D3 res (fun _=>none) y fp:=asO res _ _ _ hro hc;rw[<- List.append_nil fp] at hw;obtain ⟨φ',F',t1,t2,_⟩:=aee (d:=d) res 0 (s.wrote M (l.map some)) φ _ y fp [] hres hw hc3 (fun i _ hi=>hf i hi);exact⟨D3,φ',F',t1.rel.put d hd _ _ t2⟩
def pc (Z:List Nat) (hp:Nat->Option Blk) (id:Nat):Option Blk:=if id ∈ Z then hp id else none
def St.sunk (s:St) (Z:List Nat):St:={ s with hp:=fun id=>if id ∈ Z then none else s.hp id }
theorem RelD.sunk {G:List Nat} (h:RelD X s a w D φ F G) (Z:List Nat):RelD X (s.sunk Z) a w (fun b=>D b\/∃ z,z ∈ Z/\b ∈ F z) φ (fun k=>if k ∈ Z then [] else F k) G:=by
 have sub:∀ k b,b ∈ (if k ∈ Z then [] else F k)->k ∉ Z/\b ∈ F k:=fun k b hb=>by
  split at hb
  ·cases hb
  ·rename_i e;exact⟨e,hb⟩
 have mono:∀ (v:V) (x:Value) (fp:List Nat),CV w D v φ x fp->CV w (fun b=>D b\/∃ z,z ∈ Z/\b ∈ F z) v φ x fp:=fun v x fp hv=>pS (fun _ h=>.inl h) v φ φ x fp (fun _ _=>rfl) (fun _ _=>rfl) hv;refine { h with Dup:=fun b hb=>.inl (h.Dup b hb),Ddn:=fun b hb=>?_,Dlt:=fun b hb=>?_,slots:=fun t=>mono _ _ _ (h.slots t),blks:=fun id b hb'=>?_,nob:=fun id hid=>?_,nodup:=fun id=>?_,sep:=fun k k' hkk b hb1 hb2=>?_,notD:=fun id b hb1=>?_,gsep:=fun k b hb1=>?_,gnotD:=fun b hb1=>?_,gi:=GI.mono h.gi (fun _ h=>.inl h) fun _ _=>rfl }
 ·rcases hb with hb | ⟨z,_,hb⟩
  ·exact h.Ddn b hb
  ·exact .inr (h.notD z b hb).2.2
 ·rcases hb with hb | ⟨z,_,hb⟩
  ·exact h.Dlt b hb
  ·exact(h.notD z b hb).2.1
 ·simp only[St.sunk] at hb';split at hb'
  ·cases hb'
  ·rename_i e;rw[if_neg e];rcases h.blks id b hb' with h0 | ⟨p,arr,ty,f',h1,h2,h3,h4,h5,h6⟩
   ·exact .inl h0
   ·exact .inr ⟨p,arr,ty,f',h1,h2,h3,h4,h5,lv (fun _ h=>.inl h) _ _ _ _ _ _ (fun _ _=>rfl) (fun _ _=>rfl) h6⟩
 ·simp only[St.sunk] at hid;split
  ·rfl
  ·rename_i e;rw[if_neg e] at hid;exact h.nob id hid
 ·split
  ·exact List.nodup_nil
  ·exact h.nodup id
 ·obtain ⟨_,g1⟩:=sub k b hb1;obtain ⟨_,g2⟩:=sub k' b hb2;exact h.sep k k' hkk b g1 g2
 ·obtain ⟨g0,g1⟩:=sub id b hb1;have:=h.notD id b g1;refine⟨fun hd=>?_,this.2⟩;rcases hd with hd | ⟨z,hz,hd⟩
  ·exact this.1 hd
  ·exact h.sep id z (fun e=>g0 (e▸hz)) b g1 hd
 ·obtain ⟨_,g1⟩:=sub k b hb1;exact h.gsep k b g1
 ·have:=h.gnotD b hb1;refine⟨fun hd=>?_,this.2⟩;rcases hd with hd | ⟨z,_,hd⟩
  ·exact this.1 hd
  ·exact h.gsep z b hd hb1
omit [GI] in
theorem axF {M Z:List Nat} {hp:Nat->Option Blk} {k:Nat} {p0:Nat->Option Pl} (hp0:∀ j id,M[j]?=some id->p0 j=φ id) (hb:∀ id blk,hp id=some blk->p9 w D φ id blk (F id)) (vs:List V) (xs:List Value) (h:iU w D vs φ xs []) :
  iU w (fun b=>D b\/∃ z,z ∈ Z/\b ∈ F z) (vs.map (vc M (pc Z hp) k)) (plM M.length p0) xs []:=by
 refine asP (F:=fun id=>if id ∈ Z then F id else []) hp0 (fun _ h=>.inl h) (fun id b _ hb=>?_) (fun id blk hbl=>?_) vs xs h
 ·split at hb
  ·rename_i hz;exact .inr ⟨id,hz,hb⟩
  ·cases hb
 ·unfold pc at hbl;split at hbl
  ·rename_i hz;rw[if_pos hz];exact hb id blk hbl
  ·cases hbl
theorem aFw {P:Program} {f d k:Nat} {vs:List V} {res:V} {xs:List Value} {M Z:List Nat} {H0:List Blk} {H1:List (Option Blk)} (hP:ac P f H0 (vs.map (vc M (pc Z s.hp) k)) res H1) (h:Rel X s a w)
  (hM:M.Nodup) (hMZ:∀ z ∈ Z,z ∉ M) (hH:M.map s.hp=H0.map some) (hn0:∀ blk ∈ H0,bN blk.es=true) (hn1:∀ (j:Nat) (blk:Blk),H1[j]?=some (some blk)->bN blk.es=true)
  (hv:∀ D φ F,RelD X s a w D φ F []->iU w D vs φ xs []) (hd:d < X.n) (hres:fW res=true)
  (hf:∀ i,i < (ix d 0 res).2.2->Fresh ((s.sunk Z).wrote M H1) (d+1000 * i)/\d+1000 * i ∉ X.pin) :
  Calls P f xs.toArray w fun e w'=>∃ y,e=.returned y/\Rel X (((s.sunk Z).wrote M H1).took d res) (a.put (some d) y) w':=by
 obtain ⟨D0,φ,F0,h0⟩:=h;have hvs:=hv D0 φ F0 h0;have hargs:=axF (w:=w) (D:=D0) (F:=F0) (M:=M) (Z:=Z) (hp:=s.hp) (k:=k) (p0:=fun j=>φ (M.getD j 0)) (fun j id hj=>by simp[List.getD,hj]) h0.blks vs xs hvs;have h:=h0.sunk Z
 have hlen:H0.length=M.length:=by
  have:=congrArg List.length hH;simpa using this.symm
 have get:∀ (j:Nat) (blk:Blk),H0[j]?=some blk->∃ id,M[j]?=some id/\(s.sunk Z).hp id=some blk:=fun j blk hj=>by
  have h1:(M.map s.hp)[j]?=some (some blk):=by rw[hH];simp[hj]
  rw[List.getElem?_map,Option.map_eq_some_iff] at h1;obtain ⟨id,h2,h3⟩:=h1;refine⟨id,h2,?_⟩;have:id ∉ Z:=fun hz=>hMZ id hz (List.mem_iff_getElem?.2 ⟨j,h2⟩);simp only[St.sunk,if_neg this];exact h3
 generalize (fun b=>D0 b\/∃ z,z ∈ Z/\b ∈ F0 z)=D at h hargs;generalize (fun k=>if k ∈ Z then [] else F0 k)=F at h;have hfm:(List.range H0.length).flatMap (fun j=>F (M.getD j 0))=M.flatMap F:=by rw[hlen];exact Hm M F
 have hl1:H1.length=M.length:=hP.2.1.trans hlen
 have hcall:=hP.2.2 w D xs (fun j=>φ (M.getD j 0)) (fun j=>F (M.getD j 0)) h.Dlt h.gi (fun j blk hj=>by
  obtain ⟨id,hid,hbl⟩:=get j blk hj;have e:M.getD j 0=id:=by simp[List.getD,hid]
  rw[e];exact Ec (φ:=φ) (id:=id) (hn0 blk (List.mem_iff_getElem?.2 ⟨j,hj⟩)) rfl (h.blks id blk hbl))
  (by rw[hfm];exact mg h M hM) (fun b hb=>by
   rw[hfm] at hb;obtain ⟨j,_,hbj⟩:=List.mem_flatMap.1 hb;exact⟨(h.notD j b hbj).1,(h.notD j b hbj).2.1⟩) (by rw[hlen];exact hargs)
 refine hcall.mono ?_;rintro e w' ⟨y,D',fp,F1,rfl,hg,hc,hb1,hnd,hfr⟩;rw[hfm] at hg hfr;refine⟨y,rfl,?_⟩;have hw:=h.wrote hM hl1 (fp:=fp) (F1:=F1) hg hn1 hb1 hnd hfr;rw[<- List.append_nil fp] at hw;obtain ⟨φ',F',t1,t2,_⟩:=aee (d:=d) res 0 ((s.sunk Z).wrote M H1) φ _ y fp [] hres hw hc (fun i _ hi=>hf i hi);exact⟨D',φ',F',t1.rel.put d hd _ _ t2⟩
theorem aK4 {P:Program} {f d k:Nat} {vs:List V} {xs:List Value} {M Z:List Nat} {H0:List Blk} {R:V->List Blk->Prop} (hP:Pn P f H0 (vs.map (vc M (pc Z s.hp) k)) R) (h:Rel X s a w)
  (hM:M.Nodup) (hMZ:∀ z ∈ Z,z ∉ M) (hH:M.map s.hp=H0.map some) (hn0:∀ blk ∈ H0,bN blk.es=true) (hv:∀ D φ F,RelD X s a w D φ F []->iU w D vs φ xs []) (hd:d < X.n)
  (hR:∀ res l,R res l->l.length=H0.length->fW res=true/\(∀ (j:Nat) (blk:Blk),(l.map some)[j]?=some (some blk)->bN blk.es=true) /\
   ∀ i,i < (ix d 0 res).2.2->Fresh ((s.sunk Z).wrote M (l.map some)) (d+1000 * i)/\d+1000 * i ∉ X.pin) :
  Calls P f xs.toArray w fun e w'=>∃ y res l,R res l/\l.length=H0.length/\e=.returned y/\Rel X (((s.sunk Z).wrote M (l.map some)).took d res) (a.put (some d) y) w':=by
 obtain ⟨D0,φ,F0,h0⟩:=h;have hvs:=hv D0 φ F0 h0;have hargs:=axF (w:=w) (D:=D0) (F:=F0) (M:=M) (Z:=Z) (hp:=s.hp) (k:=k) (p0:=fun j=>φ (M.getD j 0)) (fun j id hj=>by simp[List.getD,hj]) h0.blks vs xs hvs;have h:=h0.sunk Z
 have hlen:H0.length=M.length:=by
  have:=congrArg List.length hH;simpa using this.symm
 have get:∀ (j:Nat) (blk:Blk),H0[j]?=some blk->∃ id,M[j]?=some id/\(s.sunk Z).hp id=some blk:=fun j blk hj=>by
  have h1:(M.map s.hp)[j]?=some (some blk):=by rw[hH];simp[hj]
  rw[List.getElem?_map,Option.map_eq_some_iff] at h1;obtain ⟨id,h2,h3⟩:=h1;refine⟨id,h2,?_⟩;have:id ∉ Z:=fun hz=>hMZ id hz (List.mem_iff_getElem?.2 ⟨j,h2⟩);simp only[St.sunk,if_neg this];exact h3
 generalize (fun b=>D0 b\/∃ z,z ∈ Z/\b ∈ F0 z)=D at h hargs;generalize (fun k=>if k ∈ Z then [] else F0 k)=F at h;have hfm:(List.range H0.length).flatMap (fun j=>F (M.getD j 0))=M.flatMap F:=by rw[hlen];exact Hm M F
 have hcall:=hP.2 w D xs (fun j=>φ (M.getD j 0)) (fun j=>F (M.getD j 0)) h.Dlt h.gi (fun j blk hj=>by
  obtain ⟨id,hid,hbl⟩:=get j blk hj;have e:M.getD j 0=id:=by simp[List.getD,hid]
  rw[e];exact Ec (φ:=φ) (id:=id) (hn0 blk (List.mem_iff_getElem?.2 ⟨j,hj⟩)) rfl (h.blks id blk hbl))
  (by rw[hfm];exact mg h M hM) (fun b hb=>by
   rw[hfm] at hb;obtain ⟨j,_,hbj⟩:=List.mem_flatMap.1 hb;exact⟨(h.notD j b hbj).1,(h.notD j b hbj).2.1⟩) (by rw[hlen];exact hargs)
 refine hcall.mono ?_;rintro e w' ⟨res,l,hRR,hll,y,D',fp,F1,rfl,hg,hc,hb1',hnd,hfr⟩;obtain ⟨hres,hn1,hf⟩:=hR res l hRR hll;have hst:pR (l.map some) 0=List.range H0.length:=by rw[Vt,hll,List.range_eq_range']
 have hl1:(l.map some).length=M.length:=by rw[List.length_map,hll,hlen]
 have hb1:∀ k blk,(l.map some)[k]?=some (some blk)->p9 w' D' (fun _=>φ (M.getD k 0)) 0 blk (F1 k):=fun k blk hk=>hb1' k blk (by rw[List.getElem?_map] at hk;cases hlk:l[k]?<;>simp_all);rw[<- hst] at hnd hfr;rw[hst] at hfr;rw[hfm] at hg hfr;rw[<- hst] at hfr;refine⟨y,res,l,hRR,hll,rfl,?_⟩;have hw:=h.wrote hM hl1 (fp:=fp) (F1:=F1) hg hn1 hb1 hnd hfr;rw[<- List.append_nil fp] at hw;obtain ⟨φ',F',t1,t2,_⟩:=aee (d:=d) res 0 ((s.sunk Z).wrote M (l.map some)) φ _ y fp [] hres hw hc (fun i _ hi=>hf i hi);exact⟨D',φ',F',t1.rel.put d hd _ _ t2⟩
end
end Go.Abs
namespace Go.Abs
variable [GI]
mutual
def ahh (g:Nat->Nat):V->V
 | .ref k a b=>.ref (g k) a b
 | .sl k a n=>.sl (g k) a n
 | .agg cs=>.agg (L2 g cs)
 | .tup cs=>.tup (L2 g cs)
 | .clo f cs=>.clo f (L2 g cs)
 | .undef=>.undef
 | .v x=>.v x
 | .rp s es a b=>.rp s es a b
 | .ro s es=>.ro s es
 | .own s es=>.own s es
def L2 (g:Nat->Nat):List V->List V
 | []=>[]
 | c::cs=>ahh g c::L2 g cs
end
attribute [simp] ahh L2
def NZ (g:Nat->Nat) (b:Blk):Blk:=⟨b.s,L2 g b.es⟩
attribute [simp] NZ
section
variable {w : World} {D : Nat → Prop} {φ φ' : Nat → Option Pl} {g : Nat → Nat}
omit [GI] in
mutual
theorem aBx:∀ (v:V) (x:Value) (fp:List Nat),(∀ id,gj id v=true->φ' (g id)=φ id)->CV w D v φ x fp->CV w D (ahh g v) φ' x fp
 | .undef,x,fp,_,h=>by simpa [CV] using h
 | .v y,x,fp,_,h=>by simpa [CV] using h
 | .rp _ _ _ _,x,fp,_,h=>by simpa [CV] using h
 | .ro _ _,x,fp,_,h=>by simpa [CV] using h
 | .own _ _,x,fp,_,h=>by simpa [CV] using h
 | .ref k a b,x,fp,hm,h=>by
   simp only[ahh,CV] at h ⊢;rw[hm k (by simp[gj])];exact h
 | .sl k a n,x,fp,hm,h=>by
   simp only[ahh,CV] at h ⊢;rw[hm k (by simp[gj])];exact h
 | .agg cs,x,fp,hm,h=>by
   simp only[ahh,CV] at h ⊢;obtain ⟨xs,rfl,h⟩:=h;exact⟨xs,rfl,asR cs _ _ (fun id hi=>hm id (by simpa [gj] using hi)) h⟩
 | .tup cs,x,fp,hm,h=>by
   simp only[ahh,CV] at h ⊢;obtain ⟨xs,rfl,h⟩:=h;exact⟨xs,rfl,asR cs _ _ (fun id hi=>hm id (by simpa [gj] using hi)) h⟩
 | .clo f cs,x,fp,hm,h=>by
   simp only[ahh,CV] at h ⊢;obtain ⟨xs,rfl,h⟩:=h;exact⟨xs,rfl,asR cs _ _ (fun id hi=>hm id (by simpa [gj] using hi)) h⟩
theorem asR:∀ (cs:List V) (xs:List Value) (fp:List Nat),(∀ id,da id cs=true->φ' (g id)=φ id)->iU w D cs φ xs fp->iU w D (L2 g cs) φ' xs fp
 | [],xs,fp,_,h=>by simpa [iU] using h
 | c::cs,xs,fp,hm,h=>by
   simp only[L2,iU] at h ⊢;obtain ⟨x,xs',f1,f2,rfl,rfl,h1,h2⟩:=h;exact⟨x,xs',f1,f2,rfl,rfl,aBx c _ _ (fun id hi=>hm id (by simp[da,hi])) h1,asR cs _ _ (fun id hi=>hm id (by simp[da,hi])) h2⟩
end
omit [GI] in
theorem aLU {s:Nat}:∀ (cs:List V) (xs:List Value) (fp:List Nat),(∀ id,da id cs=true->φ' (g id)=φ id)->CR w D s cs φ xs fp->CR w D s (L2 g cs) φ' xs fp
 | [],xs,fp,_,h=>by simpa [CR] using h
 | c::cs,xs,fp,hm,h=>by
   simp only[L2,CR] at h ⊢;obtain ⟨x,rest,f1,f2,rfl,hs,rfl,h1,h2⟩:=h;exact⟨x,rest,f1,f2,rfl,hs,rfl,aBx c _ _ (fun id hi=>hm id (by simp[da,hi])) h1,aLU cs _ _ (fun id hi=>hm id (by simp[da,hi])) h2⟩
omit [GI] in
theorem aNq:∀ cs:List V,L2 g cs=[]↔cs=[]
 | []=>by simp
 | c::cs=>by simp
omit [GI] in
theorem S9 {id id':Nat} {blk:Blk} {f:List Nat} (hid:φ' id'=φ id) (hm:∀ i,da i blk.es=true->φ' (g i)=φ i) (h:p9 w D φ id blk f):p9 w D φ' id' (NZ g blk) f:=by
 rcases h with ⟨h1,h2,h3⟩ | ⟨p,arr,ty,f',h1,h2,h3,h4,h5,h6⟩
 ·exact .inl ⟨hid.trans h1,(aNq _).2 h2,h3⟩
 ·exact .inr ⟨p,arr,ty,f',hid.trans h1,h2,h3,h4,h5,aLU _ _ _ hm h6⟩
variable {X : Ctx} {s : St} {a : Act} {F : Nat → List Nat} {G f : List Nat}
theorem RelD.settle_back (h:RelD X s a w D φ F (f++G)) (d:Nat) (hd:s.hp d=none) (blk:Blk) (hb:p9 w D φ d blk f) :
  RelD X { s with hp:=oY s.hp d (some blk) } a w D φ (oY F d f) G:=by
 have hF:F d=[]:=h.nob d hd;refine { h with blks:=fun id b' hb'=>?_,nob:=fun id hn=>?_,nodup:=fun id=>?_,sep:=fun i j hij b hbf=>?_,notD:=fun id b hb=>?_,gnodup:=(List.nodup_append.1 h.gnodup).2.1,gsep:=fun i b hb=>?_,gnotD:=fun b hb=>h.gnotD b (List.mem_append_right _ hb) }
 ·by_cases e:id=d
  ·subst e;simp at hb';subst hb';simpa using hb
  ·simp only[oY,e,if_false] at hb' ⊢;exact h.blks id b' hb'
 ·by_cases e:id=d
  ·subst e;simp at hn
  ·simp only[oY,e,if_false] at hn ⊢;exact h.nob id hn
 ·by_cases e:id=d
  ·subst e;simp only[ju];exact(List.nodup_append.1 h.gnodup).1
  ·simp only[oY,e,if_false];exact h.nodup id
 ·by_cases e:i=d
  ·subst e;simp only[ju] at hbf;rw[gZ _ _ (Ne.symm hij)];exact fun hm=>h.gsep j b hm (List.mem_append_left _ hbf)
  ·rw[gZ _ _ e] at hbf;by_cases e2:j=d
   ·subst e2;simp only[ju];exact fun hm=>h.gsep i b hbf (List.mem_append_left _ hm)
   ·rw[gZ _ _ e2];exact h.sep i j hij b hbf
 ·by_cases e:id=d
  ·subst e;simp only[ju] at hb;exact h.gnotD b (List.mem_append_left _ hb)
  ·rw[gZ _ _ e] at hb;exact h.notD id b hb
 ·by_cases e:i=d
  ·subst e;simp only[ju] at hb;exact fun hm=>(List.nodup_append.1 h.gnodup).2.2 b hb b hm rfl
  ·rw[gZ _ _ e] at hb;exact fun hm=>h.gsep i b hb (List.mem_append_right _ hm)
theorem RelD.swap (h:RelD X s a w D φ F G) {w':World} {D':Nat->Prop} {G':List Nat} (hg:Grow w D G w' D') (hn:G'.Nodup)
  (hf:∀ b,b ∈ G'->(w.heap.size<=b\/b ∈ G)/\b < w'.heap.size/\¬D' b):RelD X s a w' D' φ F G':=by
 have stayD:∀ b,D b->w'.heap[b]?=w.heap[b]?:=fun b hb=>hg.old b (h.Dlt b hb) fun hm=>(h.gnotD b hm).1 hb;have stayF:∀ id b,b ∈ F id->w'.heap[b]?=w.heap[b]?:=fun id b hb=>hg.old b (h.notD id b hb).2.1 (h.gsep id b hb)
 have oldOk:∀ b,(w.heap.size<=b\/b ∈ G)->X.w0.heap.size<=b\/b ∈ X.W:=fun b hb=>by
  rcases hb with hb | hb
  ·exact .inl (Nat.le_trans h.size hb)
  ·exact(h.gnotD b hb).2.2
 refine { os:=hg.os.trans h.os,tape:=hg.tape.trans h.tape,output:=hg.output.trans h.output,size:=Nat.le_trans h.size hg.size,old:=fun b hb hW=>?_,Dup:=fun b hb=>hg.Dup b (h.Dup b hb),Ddn:=fun b hb=>?_,Dlt:=hg.Dlt,defers:=h.defers,ntmps:=h.ntmps,slots:=fun t=>?_,blks:=fun id blk hbl=>?_,nob:=h.nob,nodup:=h.nodup,sep:=h.sep,notD:=fun id b hb=>?_,pins:=h.pins,gnodup:=hn,gsep:=fun i b hb hm=>?_,gnotD:=fun b hb=>?_,gi:=GI.mono h.gi hg.Dup stayD }
 ·rw[hg.old b (Nat.lt_of_lt_of_le hb h.size) fun hm=>?_]
  ·exact h.old b hb hW
  ·rcases (h.gnotD b hm).2.2 with e | e
   ·omega
   ·exact hW e
 ·rcases hg.Ddn b hb with e | e
  ·exact h.Ddn b e
  ·exact .inr (oldOk b e)
 ·exact pS hg.Dup _ _ _ _ _ (fun b hb=>hb.elim (stayD b) (by simp)) (fun _ _=>rfl) (h.slots t)
 ·rcases h.blks id blk hbl with e | ⟨p,arr,ty,f',h1,h2,h3,h4,h5,h6⟩
  ·exact .inl e
  ·refine .inr ⟨p,arr,ty,f',h1,h2,h3,h4.congr (stayF id p.b (by rw[h5];exact List.mem_cons_self)),h5,lv hg.Dup _ _ _ _ _ _ (fun b hb=>hb.elim (stayD b) fun hm=>stayF id b (by rw[h5];exact List.mem_cons_of_mem _ hm)) (fun _ _=>rfl) h6⟩
 ·have h1:=h.notD id b hb;refine⟨fun hd=>?_,Nat.lt_of_lt_of_le h1.2.1 hg.size,h1.2.2⟩;rcases hg.Ddn b hd with e | e | e
  ·exact h1.1 e
  ·omega
  ·exact h.gsep id b hb e
 ·have h1:=h.notD i b hb;rcases (hf b hm).1 with e | e
  ·omega
  ·exact h.gsep i b hb e
 ·have h1:=hf b hb;exact⟨h1.2.2,h1.2.1,oldOk b h1.1⟩
def St.off (s:St) (M:List Nat):St:={ s with hp:=fun id=>if id ∈ M then none else s.hp id }
theorem RelD.releases:∀ (M:List Nat) {s:St} {F:Nat->List Nat} {G:List Nat},M.Nodup->RelD X s a w D φ F G->RelD X (s.off M) a w D φ (fun id=>if id ∈ M then [] else F id) (M.flatMap F++G)
 | [],s,F,G,_,h=>by simpa [St.off] using h
 | m::M,s,F,G,hM,h=>by
   rw[List.nodup_cons] at hM;have h1:=RelD.releases M hM.2 (h.release m)
   have e1:(St.off { s with hp:=oY s.hp m none } M)=s.off (m::M):=by
    unfold St.off;congr 1;funext id;by_cases e:id=m
    ·subst e;simp
    ·simp[oY,e]
   have e2:(fun id=>if id ∈ M then [] else oY F m [] id)=fun id=>if id ∈ m::M then [] else F id:=by
    funext id;by_cases e:id=m
    ·subst e;simp
    ·simp[oY,e]
   have e3:M.flatMap (oY F m [])=M.flatMap F:=by
    have:∀ l:List Nat,m ∉ l->l.flatMap (oY F m [])=l.flatMap F:=fun l=>by
     induction l with
     | nil=>exact fun _=>rfl
     | cons x l ih =>
       intro hx;rw[List.mem_cons,not_or] at hx;rw[List.flatMap_cons,List.flatMap_cons,ih hx.2,gZ _ _ (fun e=>hx.1 e.symm)]
    exact this M hM.1
   rw[e1,e2,e3] at h1;refine h1.gperm ?_;rw[List.flatMap_cons,<- List.append_assoc];exact List.Perm.append_right _ List.perm_append_comm
theorem RelD.settles:∀ (L:List (Nat×Blk)) {fs:List (List Nat)} {s:St} {F:Nat->List Nat} {G:List Nat},(L.map (·.1)).Nodup->(∀ p ∈ L,s.hp p.1=none)->fs.length=L.length ->
  (∀ (k:Nat) (p:Nat×Blk) (f:List Nat),L[k]?=some p->fs[k]?=some f->p9 w D φ p.1 p.2 f)->RelD X s a w D φ F (fs.flatten++G)->∃ F',RelD X { s with hp:=VF s.hp L } a w D φ F' G
 | [],fs,s,F,G,_,_,hl,_,h=>by
   have:fs=[]:=List.eq_nil_of_length_eq_zero hl;subst this;exact⟨F,by simpa [VF] using h⟩
 | (d,blk)::L,fs,s,F,G,hn,hno,hl,hb,h=>by
   cases fs with
   | nil=>simp at hl
   | cons f fs =>
     rw[List.map_cons,List.nodup_cons] at hn;rw[List.flatten_cons,List.append_assoc] at h;have h1:=h.settle_back d (hno (d,blk) (by simp)) blk (hb 0 _ f rfl rfl)
     exact RelD.settles L hn.2 (fun p hp=>by
      have hne:p.1≠d:=fun e=>hn.1 (by rw[<- e];exact List.mem_map.2 ⟨p,hp,rfl⟩);simp only[oY,hne,if_false];exact hno p (List.mem_cons_of_mem _ hp)) (by simpa using hl) (fun k p g hk hg=>hb (k+1) p g hk hg) h1
def jA (P:Program) (f:Nat) (H0:List Blk) (args:List V) (R:V->List Blk->Option Blk->Prop):Prop :=
 pz P f=true/\∀ (w:World) (D:Nat->Prop) (xs:List Value) (p0:Nat->Option Pl) (F0:Nat->List Nat),(∀ b,D b->b < w.heap.size)->GI.holds w D ->
  (∀ k blk,H0[k]?=some blk->p9 w D (plM H0.length p0) (mG k) blk (F0 k))->((List.range H0.length).flatMap F0).Nodup->(∀ b,b ∈ (List.range H0.length).flatMap F0->¬D b/\b < w.heap.size) ->
  iU w D args (plM H0.length p0) xs [] ->
  Calls P f xs.toArray w fun e w'=>∃ res l nw,R res l nw/\l.length=H0.length/\∃ (y:Value) (D':Nat->Prop) (p1:Nat->Option Pl) (fs:List (List Nat)) (fn:List Nat),e=.returned y/\Grow w D ((List.range H0.length).flatMap F0) w' D'/\(∀ k,k < H0.length->p1 k=p0 k) /\
   CV w' D' res (plM (H0.length+1) p1) y []/\fs.length=l.length/\(∀ (k:Nat) (blk:Blk) (g:List Nat),l[k]?=some blk->fs[k]?=some g->p9 w' D' (plM (H0.length+1) p1) (mG k) blk g) /\
   (match nw with | some blk=>p9 w' D' (plM (H0.length+1) p1) (mG H0.length) blk fn | none=>fn=[])/\(fn++fs.flatten).Nodup /\
   ∀ b,b ∈ fn++fs.flatten->(w.heap.size<=b\/b ∈ (List.range H0.length).flatMap F0)/\b < w'.heap.size/\¬D' b
def upI (M:List Nat) (id:Nat):Nat:=match A3 M id with | some k=>mG k | none=>id
def dnI (M:List Nat) (d id:Nat):Nat:=if 1000000<=id/\id < 1000000+M.length then M.getD (id - 1000000) 0 else if id=1000000+M.length then d else id
def at5 (n:Nat) (v:V):Prop:=∀ id,gj id v=true->1000000<=id/\id < 1000000+n
def MR (n:Nat) (vs:List V):Prop:=∀ id,da id vs=true->1000000<=id/\id < 1000000+n
def St.back (s:St) (M:List Nat) (d:Nat) (l:List Blk) (nw:Option Blk):St :=
 { s with hp:=VF (match nw with | some b=>oY (s.off M).hp d (some (NZ (dnI M d) b)) | none=>(s.off M).hp) (M.zip (l.map (NZ (dnI M d)))) }
theorem aJj {P:Program} {f d k:Nat} {vs:List V} {xs:List Value} {M Z:List Nat} {H0:List Blk} {R:V->List Blk->Option Blk->Prop} (hP:jA P f H0 (vs.map (vc M (pc Z s.hp) k)) R) (h:Rel X s a w)
  (hM:M.Nodup) (hMZ:∀ z ∈ Z,z ∉ M) (hH:M.map (fun id=>(s.hp id).map (NZ (upI M)))=H0.map some) (hin:∀ id ∈ M,∀ blk,s.hp id=some blk->∀ i,da i blk.es=true->i ∈ M)
  (hv:∀ D φ F,RelD X s a w D φ F []->iU w D vs φ xs []) (hd:d < X.n)
  (hR:∀ res l nw,R res l nw->l.length=H0.length->at5 (H0.length+if nw.isSome then 1 else 0) res/\(∀ blk ∈ l,MR (H0.length+if nw.isSome then 1 else 0) blk.es)/\(∀ blk,nw=some blk->MR H0.length blk.es/\Fresh (s.sunk Z) d/\d ∉ X.pin)) :
  Calls P f xs.toArray w fun e w'=>∃ y res l nw,R res l nw/\l.length=H0.length/\e=.returned y/\Rel X { (s.sunk Z).back M d l nw with sl:=oY s.sl d (ahh (dnI M d) res) } (a.put (some d) y) w':=by
 obtain ⟨D0,φ,F0,h0⟩:=h;have hvs:=hv D0 φ F0 h0;have hargs:=axF (w:=w) (D:=D0) (F:=F0) (M:=M) (Z:=Z) (hp:=s.hp) (k:=k) (p0:=fun j=>φ (M.getD j 0)) (fun j id hj=>by simp[List.getD,hj]) h0.blks vs xs hvs;have h:=h0.sunk Z
 have hlen:H0.length=M.length:=by
  have:=congrArg List.length hH;simpa using this.symm
 have get:∀ (j:Nat) (blk:Blk),H0[j]?=some blk->∃ id b0,M[j]?=some id/\(s.sunk Z).hp id=some b0/\s.hp id=some b0/\blk=NZ (upI M) b0:=fun j blk hj=>by
  have h1:(M.map (fun id=>(s.hp id).map (NZ (upI M))))[j]?=some (some blk):=by rw[hH];simp[hj]
  rw[List.getElem?_map,Option.map_eq_some_iff] at h1;obtain ⟨id,h2,h3⟩:=h1;obtain ⟨b0,h4,h5⟩:=Option.map_eq_some_iff.1 h3;refine⟨id,b0,h2,?_,h4,h5.symm⟩;have:id ∉ Z:=fun hz=>hMZ id hz (List.mem_iff_getElem?.2 ⟨j,h2⟩);simp only[St.sunk,if_neg this];exact h4
 generalize (fun b=>D0 b\/∃ z,z ∈ Z/\b ∈ F0 z)=D at h hargs;generalize (fun k=>if k ∈ Z then [] else F0 k)=F at h;have hfm:(List.range H0.length).flatMap (fun j=>F (M.getD j 0))=M.flatMap F:=by rw[hlen];exact Hm M F
 have hup:∀ id ∈ M,plM M.length (fun j=>φ (M.getD j 0)) (upI M id)=φ id:=fun id hid=>by
  obtain ⟨j,hj⟩:=List.mem_iff_getElem?.1 hid;have hjl:=(List.getElem?_eq_some_iff.1 hj).1;unfold upI;rw[aCY M j id hM hj];dsimp only;rw[Kh _ hjl];simp[List.getD,hj]
 have hcall:=hP.2 w D xs (fun j=>φ (M.getD j 0)) (fun j=>F (M.getD j 0)) h.Dlt h.gi (fun j blk hj=>by
  obtain ⟨id,b0,hid,hbl,hbs,rfl⟩:=get j blk hj;have e:M.getD j 0=id:=by simp[List.getD,hid]
  have hm:id ∈ M:=List.mem_iff_getElem?.2 ⟨j,hid⟩;rw[e,hlen];refine S9 (id:=id) ?_ (fun i hi=>hup i (hin id hm b0 hbs i hi)) (h.blks id b0 hbl);have:=hup id hm;unfold upI at this;rw[aCY M j id hM hid] at this;exact this)
  (by rw[hfm];exact mg h M hM) (fun b hb=>by
   rw[hfm] at hb;obtain ⟨j,_,hbj⟩:=List.mem_flatMap.1 hb;exact⟨(h.notD j b hbj).1,(h.notD j b hbj).2.1⟩) (by rw[hlen];exact hargs)
 refine hcall.mono ?_;rintro e w' ⟨res,l,nw,hRR,hll,y,D',p1,fs,fn,rfl,hg,hp1,hc,hfl,hbs,hnw,hnd,hfr⟩;rw[hfm] at hg hfr;obtain ⟨q1,q2,q3⟩:=hR res l nw hRR hll;refine⟨y,res,l,nw,hRR,hll,rfl,?_⟩;have r1:=(RelD.releases M hM h).swap (w':=w') (D':=D') (G':=fn++fs.flatten) (by rw[List.append_nil];exact hg) hnd (by rw[List.append_nil];exact hfr)
 have hMd:∀ blk,nw=some blk->∀ id ∈ M,id≠d:=fun blk hb id hid e=>by
  obtain ⟨j,hj⟩:=List.mem_iff_getElem?.1 hid;have hjl:=(List.getElem?_eq_some_iff.1 hj).1;obtain ⟨id',b0,h1,h2,_⟩:=get j (H0[j]'(by omega)) (List.getElem?_eq_getElem _);rw[hj] at h1;injection h1 with h1
  have:=(q3 blk hb).2.1.no;rw[<- e,h1,h2] at this;cases this
 have hdn:∀ φf:Nat->Option Pl,(∀ id ∈ M,φf id=φ id)->∀ id,1000000<=id/\id < 1000000+H0.length->φf (dnI M d id)=plM (H0.length+1) p1 id:=fun φf hφ id hid=>by
  have hk:id - 1000000 < M.length:=by omega
  have e1:dnI M d id=M.getD (id - 1000000) 0:=by unfold dnI;rw[if_pos (by omega)]
  have e2:plM (H0.length+1) p1 id=p1 (id - 1000000):=by unfold plM;rw[if_pos (by omega)]
  have hm:M.getD (id - 1000000) 0 ∈ M:=by
   rw[List.getD_eq_getElem?_getD,List.getElem?_eq_getElem hk,Option.getD_some];exact List.getElem_mem hk
  rw[e1,e2,hp1 _ (by omega),hφ _ hm]
 have key:∃ φf F3,(∀ id ∈ M,φf id=φ id)/\(∀ blk,nw=some blk->φf d=p1 H0.length) /\
   RelD X { (s.sunk Z).off M with hp:=(match nw with | some b=>oY ((s.sunk Z).off M).hp d (some (NZ (dnI M d) b)) | none=>((s.sunk Z).off M).hp) } a w' D' φf F3 fs.flatten:=by
  cases nw with
  | none =>
    simp only at hnw;subst hnw;exact⟨φ,_,fun _ _=>rfl,fun _ hb=>(by cases hb),r1⟩
  | some blk =>
    obtain ⟨t1,t2,t3⟩:=q3 blk rfl
    have hf2:Fresh ((s.sunk Z).off M) d:=⟨t2.sl,fun id b hb=>by
     simp only[St.off] at hb;split at hb
     ·cases hb
     ·exact t2.hp id b hb,by simp only[St.off];split<;>first | rfl | exact t2.no⟩
    have hφ:∀ id ∈ M,oY φ d (p1 H0.length) id=φ id:=fun id hid=>gZ _ _ (hMd blk rfl id hid);refine⟨oY φ d (p1 H0.length),_,hφ,fun _ _=>by simp,r1.settle d hf2 t3 (p1 H0.length) (NZ (dnI M d) blk) ?_⟩;refine S9 (id:=mG H0.length) ?_ (fun i hi=>hdn _ hφ i (t1 i hi)) hnw;rw[Kh _ (by omega)];simp
 obtain ⟨φf,F3,k1,k2,k3⟩:=key
 have hdn2:∀ id,(1000000<=id/\id < 1000000+(H0.length+if nw.isSome then 1 else 0))->φf (dnI M d id)=plM (H0.length+1) p1 id:=fun id hid=>by
  by_cases hlt:id < 1000000+H0.length
  ·exact hdn φf k1 id ⟨hid.1,hlt⟩
  ·cases nw with
   | none=>simp at hid;omega
   | some blk =>
     simp only[Option.isSome_some,if_true] at hid;have e:id=1000000+H0.length:=by omega
     have e1:dnI M d id=d:=by unfold dnI;rw[if_neg (by omega),if_pos (by omega)]
     have e2:plM (H0.length+1) p1 id=p1 H0.length:=by
      unfold plM;rw[if_pos (by omega),show id - 1000000=H0.length by omega]
     rw[e1,e2,k2 blk rfl]
 rw[<- List.append_nil fs.flatten] at k3
 obtain ⟨F4,k4⟩:=RelD.settles (M.zip (l.map (NZ (dnI M d)))) (fs:=fs) (by
  rw[List.map_fst_zip (by rw[List.length_map];omega)];exact hM) (fun p hp=>by
   have hm:p.1 ∈ M:=(List.of_mem_zip hp).1;cases nw with
   | none=>simp only[St.off];rw[if_pos hm]
   | some blk =>
     simp only[St.off];rw[gZ _ _ (hMd blk rfl p.1 hm)];rw[if_pos hm]) (by rw[List.length_zip,List.length_map];omega) (fun j p g hj hg=>by
   rw[List.getElem?_zip_eq_some] at hj;obtain ⟨hj1,hj2⟩:=hj;rw[List.getElem?_map,Option.map_eq_some_iff] at hj2;obtain ⟨b0,hb0,hb1⟩:=hj2;have hjl:=(List.getElem?_eq_some_iff.1 hj1).1;rw[<- hb1];refine S9 (id:=mG j) ?_ (fun i hi=>hdn2 i (q2 b0 (List.mem_iff_getElem?.2 ⟨j,hb0⟩) i hi)) (hbs j b0 g hb0 hg);have hjm:1000000<=mG j/\mG j < 1000000+H0.length:=⟨Nat.le_add_right _ _,Nat.add_lt_add_left (by omega) _⟩;have:=hdn φf k1 (mG j) hjm;rw[<- this];congr 1;have e1:mG j - 1000000=j:=Nat.add_sub_cancel_left _ _;unfold dnI;rw[if_pos ⟨hjm.1,hlen▸hjm.2⟩,e1,List.getD_eq_getElem?_getD,hj1,Option.getD_some]) k3
 exact⟨D',φf,F4,k4.put d hd _ _ (aBx res y [] (fun id hi=>hdn2 id (q1 id hi)) hc)⟩
end
end Go.Abs
namespace Go.Abs
variable [GI]
def lk:List (Nat×V)->Nat->V
 | [],_=>.undef
 | (k,v)::l,i=>if i=k then v else lk l i
def fy:List (Nat×Blk)->Nat->Option Blk
 | [],_=>none
 | (k,b)::l,i=>if i=k then some b else fy l i
def rmb (i:Nat):List (Nat×Blk)->List (Nat×Blk)
 | []=>[]
 | (k,b)::l=>if k=i then rmb i l else (k,b)::rmb i l
structure AS where
 sl:List (Nat×V)
 hp:List (Nat×Blk)
 pin:List Nat
def AS.den (s:AS):St:={ sl:=lk s.sl,hp:=fy s.hp }
def AS.ev (s:AS):X->V
 | .t n=>lk s.sl n
 | .k v=>v
omit [GI] in
theorem AS.ev_eq (s:AS):s.den.ev=s.ev:=by
 funext x;cases x<;>rfl
omit [GI] in
theorem ac7 (k:Nat) (v:V) (l:List (Nat×V)):lk ((k,v)::l)=oY (lk l) k v:=by
 funext i;simp[lk,oY]
omit [GI] in
theorem aav (k:Nat) (b:Blk) (l:List (Nat×Blk)):fy ((k,b)::l)=oY (fy l) k (some b):=by
 funext i;simp[fy,oY]
omit [GI] in
theorem am3 (k:Nat):∀ l:List (Nat×Blk),fy (rmb k l)=oY (fy l) k none
 | []=>by funext i;simp[fy,rmb,oY]
 | (j,b)::l=>by
   funext i;have ih:=congrFun (am3 k l) i;simp only[rmb,fy];by_cases e:j=k
   ·subst e;simp only[if_true];rw[ih];unfold oY;split<;>simp_all
   ·simp only[e,if_false,fy];rw[ih];unfold oY;split<;>simp_all
def AS.put (s:AS) (d:Option Nat) (v:V):AS :=
 match d with
 | some d=>{ s with sl:=(d,v)::s.sl }
 | none=>s
def AS.wrt (s:AS):Option (Nat×Blk)->AS
 | some (i,b)=>{ s with hp:=(i,b)::rmb i s.hp }
 | none=>s
def AS.del (s:AS):Option Nat->AS
 | some i=>{ s with hp:=rmb i s.hp }
 | none=>s
def AS.new (s:AS) (d:Nat):Option Blk->AS
 | some b=>{ s with hp:=(d,b)::s.hp }
 | none=>s
def AS.app (s:AS) (d:Option Nat) (δ:Dl):AS:=(((s.wrt δ.wr).del δ.del).new (d.getD 0) δ.new).put d δ.v
omit [GI] in
theorem aR1 {α:Type} (f:Nat->α) (k:Nat) (x y:α):oY (oY f k x) k y=oY f k y:=by
 funext i;unfold oY;split<;>rfl
omit [GI] in
theorem AS.wrt_hp (s:AS) (wr:Option (Nat×Blk)):fy (s.wrt wr).hp=hpW (fy s.hp) wr:=by
 cases wr with
 | none=>rfl
 | some p=>obtain ⟨i,b⟩:=p;simp only[AS.wrt,hpW];rw[aav,am3,aR1]
omit [GI] in
theorem AS.del_hp (s:AS) (del:Option Nat):fy (s.del del).hp=hpD (fy s.hp) del:=by
 cases del with
 | none=>rfl
 | some i=>simp only[AS.del,hpD];rw[am3]
omit [GI] in
theorem AS.wrt_sl (s:AS) (wr:Option (Nat×Blk)):(s.wrt wr).sl=s.sl:=by cases wr<;>rfl
omit [GI] in
theorem AS.del_sl (s:AS) (del:Option Nat):(s.del del).sl=s.sl:=by cases del<;>rfl
omit [GI] in
theorem AS.den_app (s:AS) (d:Option Nat) (δ:Dl) (h:δ.new.isSome=true->d.isSome=true):(s.app d δ).den=δ.app d s.den:=by
 obtain ⟨v,new,del,wr⟩:=δ;unfold AS.app Dl.app Dl.hp AS.den;cases d with
 | none =>
   cases new with
   | none=>simp only[AS.new,AS.put,AS.del_hp,AS.wrt_hp,AS.del_sl,AS.wrt_sl,hpN]
   | some b=>simp at h
 | some d =>
   cases new with
   | none=>simp only[AS.new,AS.put,ac7,AS.del_hp,AS.wrt_hp,AS.del_sl,AS.wrt_sl,hpN]
   | some b=>simp only[AS.new,AS.put,ac7,aav,AS.del_hp,AS.wrt_hp,AS.del_sl,AS.wrt_sl,Option.getD_some,hpN]
omit [GI] in
theorem AS.app_pin (s:AS) (d:Option Nat) (δ:Dl):(s.app d δ).pin=s.pin:=by
 obtain ⟨v,new,del,wr⟩:=δ;unfold AS.app;cases d<;>cases new<;>cases del<;>cases wr<;>rfl
def AS.fresh (s:AS) (d:Nat):Bool :=
 s.sl.all (fun p=>!gj d p.2)&&s.hp.all (fun p=>p.1 != d&&!da d p.2.es)&&!s.pin.contains d
omit [GI] in
theorem aPC:∀ (l:List (Nat×V)) (i:Nat),lk l i=.undef\/∃ k,(k,lk l i) ∈ l
 | [],i=>.inl rfl
 | (k,v)::l,i=>by
   simp only[lk];split
   ·exact .inr ⟨k,by simp⟩
   ·rcases aPC l i with h | ⟨j,h⟩
    ·exact .inl h
    ·exact .inr ⟨j,List.mem_cons_of_mem _ h⟩
omit [GI] in
theorem aBH:∀ (l:List (Nat×Blk)) (i:Nat) (b:Blk),fy l i=some b->(i,b) ∈ l
 | [],i,b,h=>by simp[fy] at h
 | (k,c)::l,i,b,h=>by
   simp only[fy] at h;split at h
   ·rename_i e;cases h;subst e;simp
   ·exact List.mem_cons_of_mem _ (aBH l i b h)
omit [GI] in
theorem AS.fresh_ok {s:AS} {d:Nat} (h:s.fresh d=true):Fresh s.den d/\d ∉ s.pin:=by
 simp only[AS.fresh,Bool.and_eq_true,List.all_eq_true,Bool.not_eq_true',bne_iff_ne,ne_eq] at h;obtain ⟨⟨h1,h2⟩,h3⟩:=h;refine⟨⟨fun t=>?_,fun id blk hb=>?_,?_⟩,by simpa using h3⟩
 ·show gj d (lk s.sl t)=false;rcases aPC s.sl t with e | ⟨k,e⟩
  ·rw[e];rfl
  ·exact h1 _ e
 ·exact(h2 _ (aBH _ _ _ hb)).2
 ·show fy s.hp d=none;cases hb:fy s.hp d with
  | none=>rfl
  | some b=>exact absurd rfl (h2 _ (aBH _ _ _ hb)).1
def AS.took (s:AS) (d:Nat) (res:V):AS:={ s with sl:=(d,(ix d 0 res).1)::s.sl,hp:=(ix d 0 res).2.1.reverse++s.hp }
omit [GI] in
theorem TR:∀ (l:List (Nat×Blk)) (h:List (Nat×Blk)),fy (l.reverse++h)=VF (fy h) l
 | [],h=>rfl
 | (i,b)::l,h=>by
   simp only[List.reverse_cons,List.append_assoc,List.singleton_append,VF];rw[TR l,aav]
omit [GI] in
theorem AS.den_took (s:AS) (d:Nat) (res:V):(s.took d res).den=s.den.took d res:=by
 simp only[AS.took,AS.den,St.took,ac7,TR]
def ay3:List Nat->List (Option Blk)->List (Nat×Blk)->List (Nat×Blk)
 | m::M,some b::H,hp=>ay3 M H ((m,b)::rmb m hp)
 | m::M,none::H,hp=>ay3 M H (rmb m hp)
 | _,_,hp=>hp
def AS.wrote (s:AS) (M:List Nat) (H1:List (Option Blk)):AS:={ s with hp:=ay3 M H1 s.hp }
omit [GI] in
theorem aDa:∀ (M:List Nat) (H:List (Option Blk)) (hp:List (Nat×Blk)),M.Nodup->H.length=M.length->fy (ay3 M H hp)=fun id=>match A3 M id with | some k=>(H[k]?).join | none=>fy hp id
 | [],[],hp,_,_=>rfl
 | m::M,o::H,hp,hn,hl=>by
   rw[List.nodup_cons] at hn
   have key:∀ hp':List (Nat×Blk),(∀ id,fy hp' id=if id=m then o else fy hp id)->fy (ay3 M H hp')=fun id=>match A3 (m::M) id with | some k=>((o::H)[k]?).join | none=>fy hp id:=fun hp' hh=>by
    rw[aDa M H hp' hn.2 (by simpa using hl)];funext id;simp only[A3];by_cases e:m=id
    ·subst e
     have:A3 M m=none:=by
      cases hi:A3 M m with
      | none=>rfl
      | some k=>exact absurd (List.mem_iff_getElem?.2 ⟨k,C4 M m k hi⟩) hn.1
     rw[this,if_pos rfl];simp[hh m]
    ·rw[if_neg e];cases hi:A3 M id with
     | some k=>simp
     | none =>
       show fy hp' id=fy hp id;rw[hh id,if_neg (fun e'=>e e'.symm)]
   cases o with
   | some b =>
     refine key _ fun id=>?_;rw[aav,am3];unfold oY;split<;>simp_all
   | none =>
     refine key _ fun id=>?_;rw[am3];rfl
 | [],_::_,hp,_,hl=>by simp at hl
 | _::_,[],hp,_,hl=>by simp at hl
omit [GI] in
theorem AS.den_wrote (s:AS) {M:List Nat} {H1:List (Option Blk)} (hn:M.Nodup) (hl:H1.length=M.length):(s.wrote M H1).den=s.den.wrote M H1:=by
 simp only[AS.wrote,AS.den,St.wrote];rw[aDa M H1 s.hp hn hl]
 try rfl
def WA:List (Option Blk)->Bool
 | []=>true
 | some b::l=>bN b.es&&pO b.es&&WA l
 | none::l=>WA l
omit [GI] in
theorem aaC:∀ (l:List (Option Blk)) (j:Nat) (b:Blk),WA l=true->l[j]?=some (some b)->bN b.es=true/\pO b.es=true
 | [],j,b,_,h=>by simp at h
 | o::l,0,b,h,hj=>by
   simp only[List.getElem?_cons_zero,Option.some.injEq] at hj;subst hj;simp only[WA,Bool.and_eq_true] at h;exact h.1
 | some c::l,j+1,b,h,hj=>by
   simp only[WA,Bool.and_eq_true] at h;exact aaC l j b h.2 (by simpa using hj)
 | none::l,j+1,b,h,hj=>aaC l j b (by simpa [WA] using h) (by simpa using hj)
def aUX (P:Program) (f:Nat) (vs:List V) (s:AS) (d:Nat) (K:AS->Prop):Prop :=
 ∃ res,aa P f (vs.map (cz (fy s.hp) 6)) res/\fW res=true/\(u5 res=true\/(bN vs=true/\cO vs=true)) /\
  (List.range (ix d 0 res).2.2).all (fun i=>s.fresh (d+1000 * i))=true/\K (s.took d res)
def aUV (P:Program) (f:Nat) (vs:List V) (s:AS) (d:Nat) (K:AS->Prop):Prop :=
 ∃ (M:List Nat) (H0:List Blk) (res:V) (H1:List (Option Blk)),ac P f H0 (vs.map (vc M (fy s.hp) 6)) res H1/\M.Nodup/\M.map (fy s.hp)=H0.map some/\(∀ blk ∈ H0,bN blk.es=true)/\WA H1=true /\
  fW res=true/\u5 res=true/\(List.range (ix d 0 res).2.2).all (fun i=>(s.wrote M H1).fresh (d+1000 * i))=true/\K ((s.wrote M H1).took d res)
def aUY (P:Program) (f:Nat) (vs:List V) (s:AS) (d:Nat) (K:AS->Prop):Prop :=
 ∃ (M:List Nat) (H0:List Blk) (R:V->List Blk->Prop),Pn P f H0 (vs.map (vc M (fy s.hp) 6)) R/\M.Nodup/\M.map (fy s.hp)=H0.map some/\(∀ blk ∈ H0,bN blk.es=true) /\
  ∀ res l,R res l->l.length=H0.length->WA (l.map some)=true/\fW res=true/\u5 res=true/\(List.range (ix d 0 res).2.2).all (fun i=>(s.wrote M (l.map some)).fresh (d+1000 * i))=true/\K ((s.wrote M (l.map some)).took d res)
def aJE (ids:List Nat) (l:List (Nat×Blk)):List (Nat×Blk):=l.filter fun q=>!ids.contains q.1
omit [GI] in
theorem aC9 (ids:List Nat):∀ (l:List (Nat×Blk)) (k:Nat),fy (aJE ids l) k=if k ∈ ids then none else fy l k
 | [],k=>by simp[aJE,fy]
 | (j,b)::l,k=>by
   have ih:=aC9 ids l k;simp only[aJE,List.filter_cons] at ih ⊢;by_cases hj:j ∈ ids
   ·simp only[List.contains_eq_mem,hj,decide_true,Bool.not_true,Bool.false_eq_true,if_false,fy];simp only[List.contains_eq_mem] at ih;rw[ih];by_cases e:k=j
    ·subst e;simp[hj]
    ·simp[e]
   ·simp only[List.contains_eq_mem,hj,decide_false,Bool.not_false,if_true,fy];simp only[List.contains_eq_mem] at ih;rw[ih];by_cases e:k=j
    ·subst e;simp[hj]
    ·simp[e]
def AS.sunk (s:AS) (Z:List Nat):AS:={ s with hp:=aJE Z s.hp }
omit [GI] in
theorem AS.den_sunk (s:AS) (Z:List Nat):(s.sunk Z).den=s.den.sunk Z:=by
 simp only[AS.sunk,AS.den,St.sunk];congr 1;funext id;exact aC9 Z s.hp id
def pJ:List (Option Blk)->Bool
 | []=>true
 | some b::l=>bN b.es&&pJ l
 | none::l=>pJ l
omit [GI] in
theorem M1:∀ (l:List (Option Blk)) (j:Nat) (b:Blk),pJ l=true->l[j]?=some (some b)->bN b.es=true
 | [],j,b,_,h=>by simp at h
 | o::l,0,b,h,hj=>by
   simp only[List.getElem?_cons_zero,Option.some.injEq] at hj;subst hj;simp only[pJ,Bool.and_eq_true] at h;exact h.1
 | some c::l,j+1,b,h,hj=>by
   simp only[pJ,Bool.and_eq_true] at h;exact M1 l j b h.2 (by simpa using hj)
 | none::l,j+1,b,h,hj=>M1 l j b (by simpa [pJ] using h) (by simpa using hj)
def aSU (P:Program) (f:Nat) (vs:List V) (s:AS) (d:Nat) (K:AS->Prop):Prop :=
 ∃ (M Z:List Nat) (H0:List Blk) (res:V) (H1:List (Option Blk)),ac P f H0 (vs.map (vc M (pc Z (fy s.hp)) 6)) res H1/\M.Nodup/\(Z.all fun z=>!M.contains z)=true/\M.map (fy s.hp)=H0.map some/\(∀ blk ∈ H0,bN blk.es=true)/\pJ H1=true /\
  fW res=true/\(List.range (ix d 0 res).2.2).all (fun i=>((s.sunk Z).wrote M H1).fresh (d+1000 * i))=true/\K (((s.sunk Z).wrote M H1).took d res)
def aSV (P:Program) (f:Nat) (vs:List V) (s:AS) (d:Nat) (K:AS->Prop):Prop :=
 ∃ (M Z:List Nat) (H0:List Blk) (R:V->List Blk->Prop),Pn P f H0 (vs.map (vc M (pc Z (fy s.hp)) 6)) R/\M.Nodup/\(Z.all fun z=>!M.contains z)=true/\M.map (fy s.hp)=H0.map some/\(∀ blk ∈ H0,bN blk.es=true) /\
  ∀ res l,R res l->l.length=H0.length->pJ (l.map some)=true/\fW res=true/\(List.range (ix d 0 res).2.2).all (fun i=>((s.sunk Z).wrote M (l.map some)).fresh (d+1000 * i))=true/\K (((s.sunk Z).wrote M (l.map some)).took d res)
def AS.back (s:AS) (M:List Nat) (d:Nat) (res:V) (l:List Blk) (nw:Option Blk):AS :=
 { s with sl:=(d,ahh (dnI M d) res)::s.sl,hp:=(M.zip (l.map (NZ (dnI M d)))).reverse++(match nw with | some b=>(d,NZ (dnI M d) b)::aJE M s.hp | none=>aJE M s.hp) }
omit [GI] in
theorem AS.den_back (s:AS) (M:List Nat) (d:Nat) (res:V) (l:List Blk) (nw:Option Blk):(s.back M d res l nw).den={ s.den.back M d l nw with sl:=oY s.den.sl d (ahh (dnI M d) res) }:=by
 have e:fy (aJE M s.hp)=(s.den.off M).hp:=by funext k;rw[aC9];rfl
 unfold AS.back AS.den St.back;dsimp only;rw[ac7,TR];cases nw with
 | none=>dsimp only;rw[e];rfl
 | some b=>dsimp only;rw[aav,e];rfl
def aUW (P:Program) (f:Nat) (vs:List V) (s:AS) (d:Nat) (K:AS->Prop):Prop :=
 ∃ (M Z:List Nat) (H0:List Blk) (R:V->List Blk->Option Blk->Prop),jA P f H0 (vs.map (vc M (pc Z (fy s.hp)) 6)) R/\M.Nodup/\(Z.all fun z=>!M.contains z)=true/\M.map (fun id=>(fy s.hp id).map (NZ (upI M)))=H0.map some /\
  (∀ id ∈ M,∀ blk,fy s.hp id=some blk->∀ i,da i blk.es=true->i ∈ M) /\
  ∀ res l nw,R res l nw->l.length=H0.length->at5 (H0.length+if nw.isSome then 1 else 0) res/\(∀ blk ∈ l,MR (H0.length+if nw.isSome then 1 else 0) blk.es)/\(∀ blk,nw=some blk->MR H0.length blk.es)/\(nw.isSome=true->(s.sunk Z).fresh d=true)/\K ((s.sunk Z).back M d res l nw)
def vw (P:Program) (f:Nat) (vs:List V) (s:AS) (d:Nat) (K:AS->Prop):Prop:=aUX P f vs s d K\/aUV P f vs s d K\/aUY P f vs s d K\/aSU P f vs s d K\/aSV P f vs s d K\/aUW P f vs s d K
def aP9:List (Nat×V)->Nat->V->List (Nat×V)
 | [],_,_=>[]
 | (k,v)::l,t,x=>if t=k then (k,x)::l else (k,v)::aP9 l t x
omit [GI] in
theorem aRr {l:List (Nat×V)} {t:Nat} {x:V} (h:lk l t=x):lk (aP9 l t x)=lk l:=by
 funext i
 induction l with
 | nil=>rfl
 | cons p l ih =>
   obtain ⟨k,v⟩:=p;simp only[lk] at h;simp only[aP9];split
   ·rename_i e;rw[if_pos e] at h;subst h;simp only[lk]
   ·rename_i e;rw[if_neg e] at h;simp only[lk];rw[ih h]
def AS.mark (s:AS) (t:Nat) (x:V):AS:={ s with sl:=aP9 s.sl t x }
def rg (P:Program) (c:CO) (K:AS->Prop) (s:AS):Prop :=
 match c.o with
 | .call f xs=>vw P f (xs.map s.ev) s (c.d.getD 0) K
 | .callv x xs=>match s.ev x with
   | .clo f caps=>vw P f (xs.map s.ev++caps) s (c.d.getD 0) K
   | _=>False
 | o=>match eff s.ev (fy s.hp) (c.d.getD 0) o with
   | some (p,δ)=>p/\(δ.new.isSome=true->s.fresh (c.d.getD 0)=true)/\K (s.app c.d δ)
   | none=>False
def wpO (P:Program):List CO->(AS->Prop)->AS->Prop
 | [],K,s=>K s
 | c::cs,K,s=>match c.g with
   | none=>rg P c (wpO P cs K) s
   | some (t,b)=>match lk s.sl t with
     | .v (.bool v)=>(v=b->rg P c (wpO P cs K) (s.mark t (.v (.bool b))))/\(v=!b->wpO P cs K ((s.mark t (.v (.bool !b))).put c.d (.tup [])))
     | .tup []=>wpO P cs K (s.put c.d (.tup []))
     | _=>False
omit [GI] in
theorem AS.den_same {s:AS} {t:Nat} {v:V} (h:lk s.sl t=v):(s.mark t v).den=s.den:=by
 simp only[AS.mark,AS.den];rw[aRr h]
def YX (P:Program) (ops:Array Oper) (n:Nat):List Oper->Option (List CO)
 | []=>some []
 | o::os=>match aBS P ops n o,YX P ops n os with
   | some c,some cs=>some (c::cs)
   | _,_=>none
section
variable {P : Program} {X : Ctx} {Q : Exit → Act → World → Prop}
theorem aD6 {o:Oper} {a:Act} {w:World} {s':St} {K:Act->World->Prop} (h:Ee P o X a w s') (hK:∀ a' w',Rel X s' a' w'->K a' w'):o.wp P a w K Q:=by
 obtain ⟨nx,x,w',hr,hnx,hrel⟩:=h;unfold Oper.wp;rw[hr];rcases hnx with rfl | ⟨rfl,rfl⟩
 ·exact hK _ _ hrel
 ·exact hK _ _ hrel
omit [GI] in
theorem ahw {ops:Array Oper} {n:Nat} {o:Oper} {c:CO} (h:aBS P ops n o=some c):VB P o.op=some c.o/\c.d=o.dst/\(∀ d,o.dst=some d->d < n)/\(aIX c.o=true->o.dst=none) /\
  (aIX c.o=false->∃ d,o.dst=some d)/\((o.guard=none/\c.g=none)\/∃ j b t,o.guard=some (j,b)/\c.g=some (t,b)/\(ops[j]?).bind (·.dst)=some t):=by
 unfold aBS at h;cases hq:VB P o.op with
 | none=>simp[hq] at h
 | some q =>
   simp only[hq] at h;split at h
   ·rename_i hd
    have hg:∃ g,c=⟨g,o.dst,q⟩/\((o.guard=none/\g=none)\/∃ j b t,o.guard=some (j,b)/\g=some (t,b)/\(ops[j]?).bind (·.dst)=some t):=by
     split at h
     ·rename_i hgd;simp only[Option.some.injEq] at h;exact⟨none,h.symm,.inl ⟨hgd,rfl⟩⟩
     ·rename_i j b hgd;split at h
      ·rename_i t ht;simp only[Option.some.injEq] at h;exact⟨_,h.symm,.inr ⟨j,b,t,hgd,rfl,ht⟩⟩
      ·cases h
    obtain ⟨g,rfl,hg⟩:=hg;cases hs:aIX q with
    | true =>
      rw[hs] at hd;unfold dOk at hd;cases hdst:o.dst with
      | none=>exact⟨rfl,rfl,fun d e=>(by cases e),fun _=>rfl,fun e=>(by cases e),hg⟩
      | some d=>rw[hdst] at hd;simp at hd
    | false =>
      rw[hs] at hd;unfold dOk at hd;cases hdst:o.dst with
      | none=>rw[hdst] at hd;simp at hd
      | some d=>rw[hdst] at hd;exact⟨rfl,rfl,fun d' e=>(by cases e;simpa using hd),fun e=>(by cases e),fun _=>⟨d,rfl⟩,hg⟩
   ·cases h
omit [GI] in
theorem Sn {f:Nat} (h:pz P f=true) (args:Array Value) (w:World):(callFunc f args).run P w=.ok (.enter f args) w:=by
 unfold pz at h;simp only[beq_iff_eq,Option.map_eq_some_iff,Bool.and_eq_true,bne_iff_ne,ne_eq] at h;obtain ⟨fn,h1,h2,h3⟩:=h;have hb:fn.body≠none:=by cases hb:fn.body<;>simp_all
 simp[callFunc,h1,h3,hb]
omit [GI] in
theorem AR {o:Oper} {a:Act} {w:World} {f:Nat} {args:Array Value} {K:Act->World->Prop} (hr:(execOp a.eval o).run P w=.ok (.enter f args) w)
  (h:Calls P f args w fun e w'=>∃ y,e=.returned y/\K (a.put o.dst y) w'):o.wp P a w K Q:=by
 unfold Oper.wp;rw[hr,Oper.upon_enter];refine h.mono ?_;rintro e w' ⟨y,rfl,hk⟩;exact hk
theorem aHR {X:Ctx} {s:AS} {a:Act} {w:World} {ys:Array Operand} {xs:List Abs.X} (hx:cXs ys.toList=some xs):∀ D φ F,RelD X s.den a w D φ F []->iU w D (xs.map s.ev) φ (ys.map a.eval).toList []:=fun D φ F h=>by
 have:=axP h hx;rw[AS.ev_eq] at this;simpa using this
def ayh:O->Bool
 | .call _ _=>true
 | .callv _ _=>true
 | _=>false
omit [GI] in
theorem Af {α:Type} {x:Option α} {f:α->O} {q:O} (h:x.map f=some q) (hf:∀ y,ayh (f y)=false):ayh q=false:=by
 simp only[Option.map_eq_some_iff] at h;obtain ⟨y,_,rfl⟩:=h;exact hf y
omit [GI] in
set_option maxHeartbeats 1000000 in
theorem acN {op:Op} {q:O} (h:VB P op=some q) (hq:ayh q=true):∃ c,op=.call c:=by
 have no:ayh q≠false:=by rw[hq];simp
 cases op with
 | call c=>exact⟨c,rfl⟩
 | move x=>exact absurd (Af h (fun _=>rfl)) no
 | assign x=>exact absurd (Af h (fun _=>rfl)) no
 | unOp a b x=>exact absurd (Af h (fun _=>rfl)) no
 | nilCheck x=>exact absurd (Af h (fun _=>rfl)) no
 | extract x i=>exact absurd (Af h (fun _=>rfl)) no
 | build t ps =>
   simp only[VB] at h;split at h
   ·split at h
    ·exact absurd (Af h (fun _=>rfl)) no
    ·cases h
   ·cases h
 | makeFunc fn first cs =>
   cases fn<;>simp only[VB,reduceCtorEq] at h;split at h
   ·exact absurd (Af h (fun _=>rfl)) no
   ·cases h
 | slice t x lo hi mx =>
   cases mx<;>simp only[VB,reduceCtorEq] at h;split at h
   ·cases h;cases hq
   ·split at h
    ·cases h;cases hq
    ·cases h
   ·cases h
 | pick a b c=>simp only[VB] at h;split at h<;>cases h;cases hq
 | box t x=>simp only[VB] at h;split at h<;>cases h;cases hq
 | load t x=>simp only[VB] at h;split at h<;>cases h;cases hq
 | store t x y=>simp only[VB] at h;split at h<;>cases h;cases hq
 | binOp a t x y u=>simp only[VB] at h;split at h<;>cases h;cases hq
 | convert s d x=>simp only[VB] at h;split at h<;>cases h;cases hq
 | indexAddr t x i=>simp only[VB] at h;split at h<;>cases h;cases hq
 | index t x i=>simp only[VB] at h;split at h<;>cases h;cases hq
 | alloc t=>simp only[VB] at h;split at h<;>first | (split at h<;>cases h;cases hq;done) | cases h
 | buildSlice t n ps=>simp only[VB] at h;split at h<;>first | (split at h<;>cases h;cases hq;done) | cases h
 | makeSlice t l c=>simp only[VB] at h;split at h<;>first | (split at h<;>cases h;cases hq;done) | cases h
 | field t x f=>simp only[VB] at h;split at h<;>first | (split at h<;>first | (split at h<;>cases h;cases hq;done) | cases h) | cases h
 | fieldAddr t x f=>simp only[VB] at h;split at h<;>first | (split at h<;>first | (split at h<;>first | (split at h<;>cases h;cases hq;done) | cases h) | cases h) | cases h
 | _=>cases h
omit [GI] in
theorem asZ {c:Call} {q:O} (h:VB P (.call c)=some q) (hq:ayh q=true):(∃ f xs,q=.call f xs/\c.callee=.value (.func f)/\cXs c.args.toList=some xs)\/(∃ t xs,q=.callv (.t t) xs/\c.callee=.value (.tmp t)/\cXs c.args.toList=some xs):=by
 have no:ayh q≠false:=by rw[hq];simp
 simp only[VB] at h;split at h
 ·split at h
  ·split at h<;>cases h<;>cases hq
  ·cases h
 ·split at h
  ·split at h
   ·split at h
    ·cases h;cases hq
    ·cases h
   ·cases h
  ·cases h
 ·exact absurd (Af h (fun _=>rfl)) no
 ·exact absurd (Af h (fun _=>rfl)) no
 ·rename_i f hcal;simp only[Option.map_eq_some_iff] at h;obtain ⟨xs,hx,rfl⟩:=h;exact .inl ⟨f,xs,rfl,hcal,hx⟩
 ·rename_i t hcal;simp only[Option.map_eq_some_iff] at h;obtain ⟨xs,hx,rfl⟩:=h;exact .inr ⟨t,xs,rfl,hcal,hx⟩
 ·cases h
theorem aQA {ops:Array Oper} {o:Oper} {c:CO} {s:AS} {a:Act} {w:World} {K:AS->Prop} {K':Act->World->Prop} (hc:aBS P ops X.n o=some c) (h:Rel X s.den a w) (hpin:X.pin=s.pin) (hs:rg P c K s)
  (hK:∀ s' a' w',K s'->s'.pin=s.pin->Rel X s'.den a' w'->K' a' w'):o.wp P a w K' Q:=by
 obtain ⟨hq,hdst,hdn,hst,hns,_⟩:=ahw hc
 have callRule:∀ (f:Nat) (vs:List V) (d:Nat) (args:Array Value),vw P f vs s d K->o.dst=some d->(∀ D φ F,RelD X s.den a w D φ F []->iU w D vs φ args.toList []) ->
   (pz P f=true->(execOp a.eval o).run P w=.ok (.enter f args) w)->o.wp P a w K' Q:=by
  intro f vs d args hcall hd hv hr;rcases hcall with hcall | hcall | hcall | hcall | hcall | hcall
  rotate_left;rotate_left
  ·obtain ⟨M,H0,R,hP,hM,hH,hn0,hall⟩:=hcall
   have hlen:H0.length=M.length:=by
    have:=congrArg List.length hH;rw[List.length_map,List.length_map] at this;exact this.symm
   have hl1:∀ l:List Blk,l.length=H0.length->(l.map some).length=M.length:=fun l hl=>by rw[List.length_map,hl,hlen]
   refine AR (hr hP.1) ?_
   have:=aNs (k:=6) (d:=d) hP h hM hH hn0 hv (hdn d hd) (fun res l hR hl=>by
    obtain ⟨hout,hres,hro,hfr,_⟩:=hall res l hR hl;refine⟨hres,hro,fun j blk hj=>aaC _ j blk hout hj,fun i hi=>?_⟩;have:=AS.fresh_ok (List.all_eq_true.1 hfr i (List.mem_range.2 hi));rw[AS.den_wrote s hM (hl1 l hl)] at this;exact⟨this.1,by rw[hpin];exact this.2⟩)
   rw[Array.toArray_toList] at this;refine this.mono ?_;rintro e w' ⟨y,res,l,hR,hl,rfl,hrel⟩;rw[hd];exact⟨y,rfl,hK ((s.wrote M (l.map some)).took d res) _ _ (hall res l hR hl).2.2.2.2 rfl (by rw[AS.den_took,AS.den_wrote s hM (hl1 l hl)];exact hrel)⟩
  ·obtain ⟨M,Z,H0,res,H1,hP,hM,hMZ,hH,hn0,hout,hres,hfr,hk⟩:=hcall
   have hlen:H1.length=M.length:=by
    have:=congrArg List.length hH;rw[List.length_map,List.length_map] at this;exact hP.2.1.trans this.symm
   have hMZ':∀ z ∈ Z,z ∉ M:=fun z hz=>by simpa using List.all_eq_true.1 hMZ z hz
   refine AR (hr hP.1) ?_
   have hfr':∀ i,i < (ix d 0 res).2.2->Fresh ((s.den.sunk Z).wrote M H1) (d+1000 * i)/\d+1000 * i ∉ X.pin:=fun i hi=>by
    have:=AS.fresh_ok (List.all_eq_true.1 hfr i (List.mem_range.2 hi));rw[AS.den_wrote _ hM hlen,AS.den_sunk] at this;exact⟨this.1,by rw[hpin];exact this.2⟩
   have:=aFw (k:=6) (d:=d) hP h hM hMZ' hH hn0 (fun j blk hj=>M1 H1 j blk hout hj) hv (hdn d hd) hres hfr';rw[Array.toArray_toList] at this;refine this.mono ?_;rintro e w' ⟨y,rfl,hrel⟩;rw[hd];exact⟨y,rfl,hK (((s.sunk Z).wrote M H1).took d res) _ _ hk rfl (by rw[AS.den_took,AS.den_wrote _ hM hlen,AS.den_sunk];exact hrel)⟩
  ·obtain ⟨M,Z,H0,R,hP,hM,hMZ,hH,hn0,hall⟩:=hcall
   have hlen:H0.length=M.length:=by
    have:=congrArg List.length hH;rw[List.length_map,List.length_map] at this;exact this.symm
   have hl1:∀ l:List Blk,l.length=H0.length->(l.map some).length=M.length:=fun l hl=>by rw[List.length_map,hl,hlen]
   have hMZ':∀ z ∈ Z,z ∉ M:=fun z hz=>by simpa using List.all_eq_true.1 hMZ z hz
   refine AR (hr hP.1) ?_
   have:=aK4 (k:=6) (d:=d) hP h hM hMZ' hH hn0 hv (hdn d hd) (fun res l hR hl=>by
    obtain ⟨hout,hres,hfr,_⟩:=hall res l hR hl;refine⟨hres,fun j blk hj=>M1 _ j blk hout hj,fun i hi=>?_⟩;have:=AS.fresh_ok (List.all_eq_true.1 hfr i (List.mem_range.2 hi));rw[AS.den_wrote _ hM (hl1 l hl),AS.den_sunk] at this;exact⟨this.1,by rw[hpin];exact this.2⟩)
   rw[Array.toArray_toList] at this;refine this.mono ?_;rintro e w' ⟨y,res,l,hR,hl,rfl,hrel⟩;rw[hd];exact⟨y,rfl,hK (((s.sunk Z).wrote M (l.map some)).took d res) _ _ (hall res l hR hl).2.2.2 rfl (by rw[AS.den_took,AS.den_wrote _ hM (hl1 l hl),AS.den_sunk];exact hrel)⟩
  ·obtain ⟨M,Z,H0,R,hP,hM,hMZ,hH,hin,hall⟩:=hcall;have hMZ':∀ z ∈ Z,z ∉ M:=fun z hz=>by simpa using List.all_eq_true.1 hMZ z hz
   refine AR (hr hP.1) ?_
   have:=aJj (k:=6) (d:=d) hP h hM hMZ' hH hin hv (hdn d hd) (fun res l nw hR hl=>by
    obtain ⟨q1,q2,q3,q4,_⟩:=hall res l nw hR hl;refine⟨q1,q2,fun blk hb=>?_⟩;have:=AS.fresh_ok (q4 (by rw[hb];rfl));rw[AS.den_sunk] at this;exact⟨q3 blk hb,this.1,by rw[hpin];exact this.2⟩)
   rw[Array.toArray_toList] at this;refine this.mono ?_;rintro e w' ⟨y,res,l,nw,hR,hl,rfl,hrel⟩;rw[hd];exact⟨y,rfl,hK ((s.sunk Z).back M d res l nw) _ _ (hall res l nw hR hl).2.2.2.2 rfl (by rw[AS.den_back,AS.den_sunk];exact hrel)⟩
  rotate_left
  ·obtain ⟨M,H0,res,H1,hP,hM,hH,hn0,hout,hres,hro,hfr,hk⟩:=hcall
   have hlen:H1.length=M.length:=by
    have:=congrArg List.length hH;rw[List.length_map,List.length_map] at this;exact hP.2.1.trans this.symm
   refine AR (hr hP.1) ?_
   have hfr':∀ i,i < (ix d 0 res).2.2->Fresh (s.den.wrote M H1) (d+1000 * i)/\d+1000 * i ∉ X.pin:=fun i hi=>by
    have:=AS.fresh_ok (List.all_eq_true.1 hfr i (List.mem_range.2 hi));rw[AS.den_wrote s hM hlen] at this;exact⟨this.1,by rw[hpin];exact this.2⟩
   have:=aPG (k:=6) (d:=d) hP h hM hH hn0 (fun j blk hj=>(aaC H1 j blk hout hj).1) hv (hdn d hd) hres hro (fun j blk hj=>(aaC H1 j blk hout hj).2) hfr';rw[Array.toArray_toList] at this;refine this.mono ?_;rintro e w' ⟨y,rfl,hrel⟩;rw[hd];exact⟨y,rfl,hK ((s.wrote M H1).took d res) _ _ hk rfl (by rw[AS.den_took,AS.den_wrote s hM hlen];exact hrel)⟩
  obtain ⟨res,hP,hres,hro,hfr,hk⟩:=hcall;refine AR (hr hP.1) ?_
  have hfr':∀ i,i < (ix d 0 res).2.2->Fresh s.den (d+1000 * i)/\d+1000 * i ∉ X.pin:=fun i hi=>by
   have:=AS.fresh_ok (List.all_eq_true.1 hfr i (List.mem_range.2 hi));exact⟨this.1,by rw[hpin];exact this.2⟩
  have:=aMa (k:=6) (d:=d) hP h hv (hdn d hd) hres hro hfr';rw[Array.toArray_toList] at this;refine this.mono ?_;rintro e w' ⟨y,rfl,hrel⟩;rw[hd];exact⟨y,rfl,hK (s.took d res) _ _ hk rfl (by rw[AS.den_took];exact hrel)⟩
 unfold rg at hs;split at hs
 ·
  rename_i f xs hco;rw[hco] at hq;obtain ⟨d,hd⟩:=hns (by rw[hco];rfl);rw[hdst,hd] at hs;obtain ⟨cl,hop⟩:=acN hq rfl;rw[hop] at hq;rcases asZ hq rfl with ⟨f',xs',e,hcal,hx⟩ | ⟨t,xs',e,hcal,hx⟩
  ·cases e;refine callRule f _ d (cl.args.map a.eval) hs hd (aHR hx) fun hcb=>?_;simp[execOp,hop,resolve,hcal,Act.eval,Deferred.ofValue,invoke,Sn hcb]
  ·cases e
 ·
  rename_i x xs hco;rw[hco] at hq;obtain ⟨d,hd⟩:=hns (by rw[hco];rfl);rw[hdst,hd] at hs;obtain ⟨cl,hop⟩:=acN hq rfl;rw[hop] at hq;rcases asZ hq rfl with ⟨f',xs',e,hcal,hx⟩ | ⟨t,xs',e,hcal,hx⟩
  ·cases e
  ·cases e;split at hs
   ·rename_i f caps hclo;obtain ⟨D,φ,F,hrel⟩:=h;have hslot:=hrel.slots t;have hcl:s.den.sl t=.clo f caps:=hclo;rw[hcl] at hslot;simp only[CV] at hslot;obtain ⟨ys,hys,_⟩:=hslot;refine callRule f _ d (cl.args.map a.eval++ys) hs hd (fun D φ F hr=>?_) fun hcb=>?_
    ·rw[Array.toList_append];have h2:=hr.slots t;rw[hcl,hys] at h2;simp only[CV] at h2;obtain ⟨zs,hz,hcv⟩:=h2;cases hz;exact HL (aHR hx D φ F hr) hcv
    ·have he:a.eval (.tmp t)=.func (.func f) #[] ys:=hys;simp[execOp,hop,resolve,hcal,he,Deferred.ofValue,invoke,Sn hcb]
   ·exact hs.elim
 ·rename_i hno1 hno2;split at hs
  ·rename_i p δ he;obtain ⟨hp,hfr,hk⟩:=hs;obtain ⟨D,φ,F,hrel⟩:=h
   have hnew:δ.new.isSome=true->c.d.isSome=true:=fun hn=>by
    cases hd:c.d with
    | some d=>rfl
    | none =>
      rw[hd] at hdst;cases hst':aIX c.o with
      | true =>
        cases hco:c.o<;>rw[hco] at hst'<;>simp[aIX] at hst';rename_i k x y;rw[hco] at he;simp only[eff] at he;unfold vst at he;split at he
        ·split at he
         ·split at he
          ·split at he
           ·split at he
            ·simp only[Option.some.injEq,Prod.mk.injEq] at he;obtain ⟨_,rfl⟩:=he;cases hn
            ·cases he
           ·cases he
          ·cases he
         ·cases he
        ·cases he
      | false =>
        obtain ⟨d,hd'⟩:=hns hst';rw[hd'] at hdst;cases hdst
   have hruns:Ee P o X a w (δ.app o.dst s.den):=by
    refine aPb hq hrel hdn hst hns (p:=p) ?_ hp fun hn d hd=>?_
    ·rw[AS.ev_eq,<- hdst];exact he
    ·have:=AS.fresh_ok (hfr hn);rw[hdst,hd] at this;exact⟨this.1,by rw[hpin];exact this.2⟩
   refine aD6 hruns fun a' w' hr=>hK (s.app c.d δ) a' w' hk (AS.app_pin _ _ _) ?_;rw[AS.den_app _ _ _ hnew,hdst];exact hr
  ·exact hs.elim
end
section
variable {P : Program} {X : Ctx} {Q : Exit → Act → World → Prop}
omit [GI] in
theorem aD7 {ops:Array Oper} {a:Act} {j t:Nat} {v:Bool} (hj:(ops[j]?).bind (·.dst)=some t) (hv:a.tmps.getD t undef=.bool v):yielded ops a.tmps j=some v:=by
 unfold yielded;rw[hj];simp only[Option.bind_some];rw[Array.getD_eq_getD_getElem?] at hv;cases h:a.tmps[t]? with
 | none=>rw[h] at hv;simp[undef] at hv
 | some x=>rw[h] at hv;simp at hv;simp[hv]
omit [GI] in
theorem aLX {w:World} {D:Nat->Prop} {φ:Nat->Option Pl} {x:Value} {f:List Nat} (h:CV w D (.tup []) φ x f):x=undef:=by
 simp only[CV,iU] at h;obtain ⟨xs,rfl,h,_⟩:=h;simp only[undef];congr 1;exact Array.toList_inj.1 h
omit [GI] in
theorem acK {w:World} {D:Nat->Prop} {φ:Nat->Option Pl}:CV w D (.tup []) φ undef []:=by
 simp only[CV,iU];exact⟨#[],by simp[undef]⟩
omit [GI] in
theorem arw {ops:Array Oper} {a:Act} {j t:Nat} (hj:(ops[j]?).bind (·.dst)=some t) (hv:a.tmps.getD t undef=undef):yielded ops a.tmps j=none:=by
 unfold yielded;rw[hj];simp only[Option.bind_some];rw[Array.getD_eq_getD_getElem?] at hv;cases h:a.tmps[t]? with
 | none=>rfl
 | some x=>rw[h] at hv;simp only[Option.getD_some] at hv;subst hv;rfl
theorem aHC {ops:Array Oper} {K:AS->Prop}:∀ (os:List Oper) (cs:List CO) (s:AS) (a:Act) (w:World),YX P ops X.n os=some cs->Rel X s.den a w->X.pin=s.pin->wpO P cs K s ->
  (∀ s' a' w',K s'->s'.pin=s.pin->Rel X s'.den a' w'->Q .normal a' w')->wpList P ops Q os a w
 | [],cs,s,a,w,hc,h,hpin,hs,hK=>by
   simp only[YX,Option.some.injEq] at hc;subst hc;exact hK s a w hs rfl h
 | o::os,cs,s,a,w,hc,h,hpin,hs,hK=>by
   unfold YX at hc;split at hc
   ·rename_i c cs' hco hcs;simp only[Option.some.injEq] at hc;subst hc;obtain ⟨_,hdst,_,_,_,hg⟩:=ahw hco;unfold wpList
    have run:∀ s1:AS,s1.den=s.den->s1.pin=s.pin->rg P c (wpO P cs' K) s1->o.wp P a w (wpList P ops Q os) Q:=fun s1 hd1 hp1 hst =>
     aQA hco (by rw[hd1];exact h) (by rw[hp1];exact hpin) hst fun s' a' w' hk hp hr=>aHC os cs' s' a' w' hcs hr (by rw[hpin,hp,hp1]) hk fun s2 a2 w2 k2 p2=>hK s2 a2 w2 k2 (by rw[p2,hp,hp1])
    unfold wpO at hs;rcases hg with ⟨hg1,hg2⟩ | ⟨j,b,t,hg1,hg2,hj⟩
    ·rw[hg2] at hs;rw[if_pos (by simp[Region.wanted,hg1])];exact .inl (run s rfl rfl hs)
    ·rw[hg2] at hs;simp only at hs;split at hs
     ·rename_i v hv;obtain ⟨D,φ,F,hrel⟩:=h;have hslot:=hrel.slots t;have hv':s.den.sl t=.v (.bool v):=hv;rw[hv'] at hslot;have hy:=aD7 (ops:=ops) hj (De hslot);by_cases e:v=b
      ·rw[if_pos (by simp[Region.wanted,hg1,hy,e])];subst e;exact .inl (run _ (AS.den_same hv) rfl (hs.1 rfl))
      ·rw[if_neg (by simp[Region.wanted,hg1,hy,e])];have e':v=!b:=by cases v<;>cases b<;>simp_all
       have hds:(s.mark t (.v (.bool !b))).den=s.den:=AS.den_same (by rw[hv,e']);refine aHC os cs' ((s.mark t (.v (.bool !b))).put c.d (.tup [])) _ w hcs ?_ (by rw[hpin];cases c.d<;>rfl) (hs.2 e') fun s2 a2 w2 k2 p2=>hK s2 a2 w2 k2 (by rw[p2];cases c.d<;>rfl);refine⟨D,φ,F,?_⟩;rw[hdst];cases hd:o.dst with
       | none =>
         have:((s.mark t (.v (.bool !b))).put none (.tup [])).den=s.den:=hds;rw[this];exact hrel
       | some d =>
         by_cases hlt:d < X.n
         ·have:=hrel.put d hlt (.tup []) undef acK
          have e2:((s.mark t (.v (.bool !b))).put (some d) (.tup [])).den={ s.den with sl:=oY s.den.sl d (.tup []) }:=by
           rw[<- hds];simp only[AS.put,AS.den,ac7]
          rw[e2];exact this
         ·exact absurd ((ahw hco).2.2.1 d hd) hlt
     ·rename_i hv;obtain ⟨D,φ,F,hrel⟩:=h;have hslot:=hrel.slots t;have hv':s.den.sl t=.tup []:=hv;rw[hv'] at hslot;have hy:=arw (ops:=ops) hj (aLX hslot);rw[if_neg (by simp[Region.wanted,hg1,hy])];refine aHC os cs' (s.put c.d (.tup [])) _ w hcs ?_ (by rw[hpin];cases c.d<;>rfl) hs fun s2 a2 w2 k2 p2=>hK s2 a2 w2 k2 (by rw[p2];cases c.d<;>rfl);refine⟨D,φ,F,?_⟩;rw[hdst];cases hd:o.dst with
      | none=>exact hrel
      | some d =>
        by_cases hlt:d < X.n
        ·have:=hrel.put d hlt (.tup []) undef acK
         have e2:(s.put (some d) (.tup [])).den={ s.den with sl:=oY s.den.sl d (.tup []) }:=by
          simp only[AS.put,AS.den,ac7]
         rw[e2];exact this
        ·exact absurd ((ahw hco).2.2.1 d hd) hlt
     ·exact hs.elim
   ·cases hc
end
end Go.Abs
namespace Go.Abs
variable [GI]
structure Tr where
 v:V
 hp:List (Nat×Option Blk)
 news:List Nat
def Il (f:Nat->Option Blk):List (Nat×Option Blk)->Nat->Option Blk
 | []=>f
 | (i,b)::l=>Il (oY f i b) l
def Tr.ap (tr:Tr) (d:Option Nat) (s:St):St:={ sl:=match d with | some d=>oY s.sl d tr.v | none=>s.sl,hp:=Il s.hp tr.hp }
def aHu (δ:Dl) (d:Option Nat):Tr :=
 { v:=δ.v,
   hp:=(match δ.wr with | some (i,b)=>[(i,some b)] | none=>[])++(match δ.del with | some i=>[(i,none)] | none=>[])++(match δ.new,d with | some b,some d=>[(d,some b)] | _,_=>[]),
   news:=match δ.new,d with | some _,some d=>[d] | _,_=>[] }
omit [GI] in
theorem aMz (δ:Dl) (d:Option Nat) (s:St):(aHu δ d).ap d s=δ.app d s:=by
 obtain ⟨v,new,del,wr⟩:=δ;cases wr with
 | none=>cases del<;>cases new<;>cases d<;>rfl
 | some p=>obtain ⟨i,b⟩:=p;cases del<;>cases new<;>cases d<;>rfl
def Ik (d:Nat) (res:V):Tr:={ v:=(ix d 0 res).1,hp:=(ix d 0 res).2.1.map fun p=>(p.1,some p.2),news:=(List.range (ix d 0 res).2.2).map (d+1000 * ·) }
omit [GI] in
theorem axA (f:Nat->Option Blk):∀ l:List (Nat×Blk),Il f (l.map fun p=>(p.1,some p.2))=VF f l
 | []=>rfl
 | (i,b)::l=>by simp only[List.map_cons,Il,VF];exact axA _ l
omit [GI] in
theorem aFT (d:Nat) (res:V) (s:St):(Ik d res).ap (some d) s=s.took d res:=by
 simp only[Ik,Tr.ap,St.took,axA]
mutual
def mh:V->List Nat
 | .ref id _ _=>[id]
 | .sl id _ _=>[id]
 | .agg cs=>fu cs
 | .tup cs=>fu cs
 | .clo _ cs=>fu cs
 | _=>[]
def fu:List V->List Nat
 | []=>[]
 | c::cs=>mh c++fu cs
end
def xsO:O->List X
 | .mv x=>[x]
 | .pick c a b=>[c,a,b]
 | .box _ x=>[x]
 | .build _ ps=>ps.map (·.2.2)
 | .bslice _ _ _ ps=>ps.map (·.2)
 | .ld _ _ x=>[x]
 | .st _ a x=>[a,x]
 | .bin _ _ x y=>[x,y]
 | .un _ x=>[x]
 | .conv _ x=>[x]
 | .clo _ cs=>cs
 | .mks _ _ _ l c=>[l,c]
 | .slc _ x lo hi=>x::(lo.toList++hi.toList)
 | .faddr _ x=>[x]
 | .fld _ _ _ x=>[x]
 | .iaddr _ x i=>[x,i]
 | .idx x i=>[x,i]
 | .ext x _=>[x]
 | .len _ x=>[x]
 | .app _ _ x y=>[x,y]
 | .mm _ xs=>xs
 | .call _ xs=>xs
 | .callv x xs=>x::xs
def rdS (c:CO):List Nat:=(match c.g with | some (t,_)=>[t] | none=>[])++(xsO c.o).filterMap fun | .t n=>some n | .k _=>none
mutual
def u7:V->Bool
 | .ref _ _ _=>false
 | .sl _ _ _=>false
 | .agg cs=>mf cs
 | .tup cs=>mf cs
 | .clo _ cs=>mf cs
 | .own _ es=>mf es
 | _=>true
def mf:List V->Bool
 | []=>true
 | c::cs=>u7 c&&mf cs
end
def aSY (P:Program) (f:Nat) (vs:List V) (s:St) (d:Nat) (tr:Tr):Prop :=
 ∃ res,aa P f (vs.map (cz s.hp 6)) res/\fW res=true/\(u5 res=true\/(bN vs=true/\cO vs=true))/\tr=Ik d res/\cO vs=true/\(∀ id,id ∈ fu vs->∀ b,s.hp id=some b->mf b.es=true)
def trM (d:Nat) (M Z:List Nat) (l:List Blk) (res:V):Tr :=
 { v:=(ix d 0 res).1,hp:=(Z.map fun z=>(z,none))++(M.zip (l.map some)++((ix d 0 res).2.1.map fun p=>(p.1,some p.2))),news:=(List.range (ix d 0 res).2.2).map (d+1000 * ·) }
def aSW (P:Program) (f:Nat) (vs:List V) (s:St) (d:Nat) (tr:Tr):Prop :=
 ∃ (M Z:List Nat) (H0 l:List Blk) (res:V),ac P f H0 (vs.map (vc M (pc Z s.hp) 6)) res (l.map some)/\M.Nodup/\(∀ z ∈ Z,z ∉ M)/\M.map s.hp=H0.map some/\(∀ blk ∈ H0,bN blk.es=true)/\pJ (l.map some)=true/\fW res=true /\
  (M.all fun id=>(fu vs).contains id)=true/\(Z.all fun id=>(fu vs).contains id)=true/\tr=trM d M Z l res
omit [GI] in
mutual
theorem aJh (id:Nat):∀ v:V,gj id v=true->id ∈ mh v
 | .ref k _ _,h | .sl k _ _,h=>by
   simp only[gj,beq_iff_eq] at h;simp only[mh,List.mem_singleton];exact h.symm
 | .undef,h | .v _,h | .rp _ _ _ _,h | .ro _ _,h | .own _ _,h=>by simp[gj] at h
 | .agg cs,h | .tup cs,h | .clo _ cs,h=>by
   simp only[gj] at h;simp only[mh];exact aax id cs h
theorem aax (id:Nat):∀ cs:List V,da id cs=true->id ∈ fu cs
 | [],h=>by simp[da] at h
 | c::cs,h=>by
   simp only[da,Bool.or_eq_true] at h;simp only[fu,List.mem_append];exact h.imp (aJh id c) (aax id cs)
end
def Hw (M:List Nat) (look:Nat->Option Blk):List Nat->Bool
 | []=>true
 | id::l=>(match look id with | some b=>(fu b.es).all fun i=>M.contains i | none=>true)&&Hw M look l
omit [GI] in
theorem acS {M:List Nat} {look:Nat->Option Blk}:∀ {l:List Nat},Hw M look l=true->∀ id ∈ l,∀ blk,look id=some blk->∀ i,da i blk.es=true->i ∈ M
 | [],_,id,h,_,_,_,_=>by cases h
 | k::l,h,id,hid,blk,hb,i,hi=>by
   simp only[Hw,Bool.and_eq_true] at h;rcases List.mem_cons.1 hid with rfl | hid
   ·have:=h.1;rw[hb] at this;simp only[List.all_eq_true] at this;simpa using this i (aax i _ hi)
   ·exact acS h.2 id hid blk hb i hi
def trN (d:Nat) (M Z:List Nat) (l:List Blk) (res:V):Tr :=
 { v:=ahh (dnI M d) res,hp:=(Z.map fun z=>(z,none))++((M.map fun z=>(z,none))++((M.zip (l.map (NZ (dnI M d)))).map fun p=>(p.1,some p.2))),news:=[] }
def aSX (P:Program) (f:Nat) (vs:List V) (s:St) (d:Nat) (tr:Tr):Prop :=
 ∃ (M Z:List Nat) (H0 l:List Blk) (res:V),jA P f H0 (vs.map (vc M (pc Z s.hp) 6)) (fun r k nw=>r=res/\k=l/\nw=none)/\M.Nodup/\(∀ z ∈ Z,z ∉ M)/\M.map (fun id=>(s.hp id).map (NZ (upI M)))=H0.map some/\Hw M s.hp M=true/\l.length=H0.length /\
  at5 H0.length res/\(∀ blk ∈ l,MR H0.length blk.es)/\(M.all fun id=>(fu vs).contains id)=true/\(Z.all fun id=>(fu vs).contains id)=true/\tr=trN d M Z l res
def aE8 (P:Program) (f:Nat) (vs:List V) (s:St) (d:Nat) (tr:Tr):Prop:=aSY P f vs s d tr\/aSW P f vs s d tr\/aSX P f vs s d tr
omit [GI] in
theorem amD (f:Nat->Option Blk):∀ (a b:List (Nat×Option Blk)),Il f (a++b)=Il (Il f a) b
 | [],b=>rfl
 | (i,x)::a,b=>by simp only[List.cons_append,Il];exact amD _ a b
omit [GI] in
theorem aJ6:∀ (M:List Nat) (l:List Blk) (f:Nat->Option Blk),M.Nodup->l.length=M.length->Il f (M.zip (l.map some))=fun id=>match A3 M id with | some k=>((l.map some)[k]?).join | none=>f id
 | [],l,f,_,_=>by funext id;simp[Il,A3]
 | m::M,[],f,_,h=>by simp at h
 | m::M,b::l,f,hn,h=>by
   have hn':=List.nodup_cons.1 hn;have ih:=aJ6 M l (oY f m (some b)) hn'.2 (by simpa using h);simp only[List.map_cons,List.zip_cons_cons,Il];rw[ih];funext id;by_cases e:m=id
   ·subst e
    have:A3 M m=none:=by
     cases hi:A3 M m with
     | none=>rfl
     | some k=>exact absurd (List.mem_iff_getElem?.2 ⟨k,C4 M m k hi⟩) hn'.1
    rw[this];simp[A3,oY]
   ·have e':¬id=m:=fun h=>e h.symm;simp only[A3,if_neg e];cases hi:A3 M id with
    | none=>simp[oY,e']
    | some k=>simp
omit [GI] in
theorem ay0:∀ (Z:List Nat) (f:Nat->Option Blk),Il f (Z.map fun z=>(z,none))=fun id=>if id ∈ Z then none else f id
 | [],f=>by funext id;simp[Il]
 | z::Z,f=>by
   simp only[List.map_cons,Il];rw[ay0 Z];funext id;by_cases e:id ∈ Z
   ·simp[e]
   ·by_cases e2:id=z
    ·simp[e2,oY]
    ·simp[e,e2,oY]
omit [GI] in
theorem aQF (d:Nat) {M Z:List Nat} {l:List Blk} (res:V) (s:St) (hn:M.Nodup) (hl:l.length=M.length):(trM d M Z l res).ap (some d) s=((s.sunk Z).wrote M (l.map some)).took d res:=by
 simp only[trM,Tr.ap,St.took,amD,axA,ay0,aJ6 M l _ hn hl];rfl
omit [GI] in
theorem aQG (d:Nat) {M Z:List Nat} {l:List Blk} (res:V) (s:St):(trN d M Z l res).ap (some d) s={ (s.sunk Z).back M d l none with sl:=oY s.sl d (ahh (dnI M d) res) }:=by
 simp only[trN,Tr.ap,St.back,St.off,St.sunk,amD,axA,ay0]
def gN (P:Program) (c:CO) (s:St) (tr:Tr):Prop :=
 match c.o with
 | .call f xs=>∃ d,c.d=some d/\aE8 P f (xs.map s.ev) s d tr
 | .callv x xs=>∃ d,c.d=some d/\match s.ev x with
   | .clo f caps=>aE8 P f (xs.map s.ev++caps) s d tr
   | _=>False
 | o=>∃ p δ,eff s.ev s.hp (c.d.getD 0) o=some (p,δ)/\p/\tr=aHu δ c.d
def ex (P:Program) (c:CO) (s:St) (tr:Tr):Prop :=
 match c.g with
 | none=>gN P c s tr
 | some (t,b)=>(∃ v,s.sl t=.v (.bool v)/\((v=b/\gN P c s tr)\/(v≠b/\tr=⟨.tup [],[],[]⟩)))\/(s.sl t=.tup []/\tr=⟨.tup [],[],[]⟩)
section
variable {P : Program} {X : Ctx} {Q : Exit → Act → World → Prop}
omit [GI] in
theorem aH3 {s s2:St} {xs:List Abs.X} (h:∀ t,t ∈ (xs.filterMap fun | .t n=>some n | .k _=>none:List Nat)->s2.sl t=s.sl t):∀ x ∈ xs,s2.ev x=s.ev x:=by
 intro x hx;cases x with
 | k v=>rfl
 | t n=>exact h n (List.mem_filterMap.2 ⟨.t n,hx,rfl⟩)
omit [GI] in
theorem aFv {s s2:St} {xs:List Abs.X} (h:∀ x ∈ xs,s2.ev x=s.ev x):xs.map s2.ev=xs.map s.ev:=List.map_congr_left h
omit [GI] in
theorem aOv {look look2:Nat->Option Blk} {agg:Bool} {n:Nat} {v:V} (h:∀ id ∈ mh v,look2 id=look id):vld agg n look2 v=vld agg n look v:=by
 cases v<;>simp only[vld];rename_i id i j;rw[h id (by simp[mh])]
omit [GI] in
theorem aOx {look look2:Nat->Option Blk} {n:Nat} {v u:V} (h:∀ id ∈ mh u,look2 id=look id):vst n look2 v u=vst n look v u:=by
 cases u<;>simp only[vst];rename_i id i j;rw[h id (by simp[mh])]
omit [GI] in
theorem aHx {look look2:Nat->Option Blk} {n:Nat} {v u:V} (h:∀ id ∈ mh v,look2 id=look id):Vw n look2 v u=Vw n look v u:=by
 unfold Vw;split
 ·rw[h _ (by simp[mh])]
 ·rfl
 ·rfl
omit [GI] in
theorem aAH {look look2:Nat->Option Blk} {n:Nat} {v:V} (h:∀ id ∈ mh v,look2 id=look id):Vr n look2 v=Vr n look v:=by
 unfold Vr;split
 ·rw[h _ (by simp[mh])]
 ·rfl
 ·rfl
 ·rfl
omit [GI] in
theorem aLN {look look2:Nat->Option Blk} {n b d:Nat} {v u:V} (h:∀ id ∈ mh v,look2 id=look id) (h':∀ id ∈ mh u,look2 id=look id):aBu n b look2 d v u=aBu n b look d v u:=by
 have hs:=aAH (n:=n) h;unfold aBu;split
 ·rw[hs]
 ·rename_i id i m;rw[hs,h' id (by simp[mh])]
 ·rfl
omit [GI] in
theorem aKd {look look2:Nat->Option Blk} {n:Nat} {v:V} {lo hi:Option V} (h:∀ id ∈ mh v,look2 id=look id):aAM n look2 v lo hi=aAM n look v lo hi:=by
 cases v<;>simp only[aAM];rename_i id i j;rw[h id (by simp[mh])]
omit [GI] in
theorem aAD {ev ev2:Abs.X->V}:∀ {ps:List (Nat×Nat×Abs.X)} {cs:List V},(∀ x ∈ ps.map (·.2.2),ev2 x=ev x)->axr ev2 cs ps=axr ev cs ps
 | [],cs,h=>rfl
 | (off,n,x)::ps,cs,h=>by
   simp only[axr];rw[h x (by simp)];split
   ·split
    ·exact aAD fun y hy=>h y (List.mem_cons_of_mem _ hy)
    ·rfl
   ·rfl
omit [GI] in
theorem aAE {ev ev2:Abs.X->V} {s:Nat}:∀ {ps:List (Nat×Abs.X)} {es:List V},(∀ x ∈ ps.map (·.2),ev2 x=ev x)->ag6 ev2 s es ps=ag6 ev s es ps
 | [],es,h=>rfl
 | (i,x)::ps,es,h=>by
   simp only[ag6];rw[h x (by simp)];split
   ·exact aAE fun y hy=>h y (List.mem_cons_of_mem _ hy)
   ·rfl
omit [GI] in
theorem aMV {ev ev2:Abs.X->V} {look look2:Nat->Option Blk} {d:Nat} {q:O} (h:∀ x ∈ xsO q,ev2 x=ev x) (hl:∀ x ∈ xsO q,∀ id ∈ mh (ev x),look2 id=look id):eff ev2 look2 d q=eff ev look d q:=by
 cases q<;>simp only[xsO,List.mem_cons,List.not_mem_nil,or_false,forall_eq_or_imp,forall_eq] at h hl<;>simp only[eff]
 case mv x=>rw[h]
 case pick c a b=>rw[h.1,h.2.1,h.2.2]
 case box n x=>rw[h]
 case build z ps=>unfold aef;cases z<;>simp only;rw[aAD h]
 case bslice s z n ps=>unfold NF;rw[aAE h]
 case ld b n x=>rw[h];exact aOv hl
 case st n a x=>rw[h.1,h.2];exact aOx hl.1
 case bin op k x y=>rw[h.1,h.2]
 case un op x=>rw[h]
 case conv c x =>
  rw[h];have hs:=aAH (n:=1) hl;unfold axB;split
  ·rfl
  ·rfl
  ·rw[hs]
 case clo f cs=>rw[List.map_congr_left h]
 case mks s z b l c=>rw[h.1,h.2]
 case slc s x lo hi =>
  have h1:lo.map ev2=lo.map ev:=by cases lo<;>simp_all
  have h2:hi.map ev2=hi.map ev:=by cases hi<;>simp_all
  cases s<;>simp only[eff]<;>rw[h.1,h1,h2];exact aKd hl.1
 case faddr off x=>rw[h]
 case fld b off n x=>rw[h]
 case iaddr s x i=>rw[h.1,h.2];exact aHx hl.1
 case idx x i=>rw[h.1,h.2]
 case ext x i=>rw[h]
 case len b x=>rw[h]
 case app s b x y=>rw[h.1,h.2];exact aLN hl.2 hl.1
 case mm m xs=>rw[List.map_congr_left h]
omit [GI] in
mutual
theorem aIW (id:Nat):∀ v:V,id ∈ mh v->gj id v=true
 | .ref k _ _,h=>by simp only[mh,List.mem_singleton] at h;simp[gj,h]
 | .sl k _ _,h=>by simp only[mh,List.mem_singleton] at h;simp[gj,h]
 | .agg cs,h=>by simp only[gj];exact MN id cs (by simpa [mh] using h)
 | .tup cs,h=>by simp only[gj];exact MN id cs (by simpa [mh] using h)
 | .clo _ cs,h=>by simp only[gj];exact MN id cs (by simpa [mh] using h)
 | .undef,h | .v _,h | .rp _ _ _ _,h | .ro _ _,h | .own _ _,h=>by simp[mh] at h
theorem MN (id:Nat):∀ cs:List V,id ∈ fu cs->da id cs=true
 | [],h=>by simp[fu] at h
 | c::cs,h=>by
   simp only[fu,List.mem_append] at h;simp only[da,Bool.or_eq_true];exact h.imp (aIW id c) (MN id cs)
end
omit [GI] in
theorem ay5 {hp hp2:Nat->Option Blk}:∀ (k:Nat) (v:V),u7 v=true->cz hp2 k v=cz hp k v
 | 0,v,_=>rfl
 | k+1,v,h=>by
   have hall:∀ cs:List V,mf cs=true->cs.map (cz hp2 k)=cs.map (cz hp k):=by
    intro cs
    induction cs with
    | nil=>intros;rfl
    | cons c cs ih =>
      intro h0;simp only[mf,Bool.and_eq_true] at h0;simp only[List.map_cons];rw[ay5 k c h0.1,ih h0.2]
   cases v with
   | undef=>rfl
   | v y=>rfl
   | rp s es i j=>rfl
   | ro s es=>rfl
   | ref id i j=>simp[u7] at h
   | sl id i n=>simp[u7] at h
   | own s es=>simp only[cz];rw[hall es (by simpa [u7] using h)]
   | agg cs=>simp only[cz];rw[hall cs (by simpa [u7] using h)]
   | tup cs=>simp only[cz];rw[hall cs (by simpa [u7] using h)]
   | clo f cs=>simp only[cz];rw[hall cs (by simpa [u7] using h)]
omit [GI] in
theorem asY {hp hp2:Nat->Option Blk}:∀ (k:Nat) (v:V),g9 v=true->(∀ id ∈ mh v,hp2 id=hp id)->(∀ id ∈ mh v,∀ b,hp id=some b->mf b.es=true)->cz hp2 k v=cz hp k v
 | 0,v,_,_,_=>rfl
 | k+1,v,ho,h,hn=>by
   have hall:∀ cs:List V,cO cs=true->(∀ id ∈ fu cs,hp2 id=hp id)->(∀ id ∈ fu cs,∀ b,hp id=some b->mf b.es=true)->cs.map (cz hp2 k)=cs.map (cz hp k):=by
    intro cs
    induction cs with
    | nil=>intros;rfl
    | cons c cs ih =>
      intro h0 h1 h2;simp only[cO,Bool.and_eq_true] at h0;simp only[List.map_cons];rw[asY k c h0.1 (fun id hi=>h1 id (by simp[fu,hi])) (fun id hi=>h2 id (by simp[fu,hi])),ih h0.2 (fun id hi=>h1 id (by simp[fu,hi])) (fun id hi=>h2 id (by simp[fu,hi]))]
   have hflat:∀ es:List V,mf es=true->es.map (cz hp2 k)=es.map (cz hp k):=fun es hes=>by
    induction es with
    | nil=>rfl
    | cons c cs ih =>
      simp only[mf,Bool.and_eq_true] at hes;simp only[List.map_cons];rw[ay5 k c hes.1,ih hes.2]
   cases v with
   | undef=>rfl
   | v y=>rfl
   | rp s es i j=>rfl
   | ro s es=>rfl
   | ref id i j =>
     simp only[cz];rw[h id (by simp[mh])];split
     ·rename_i b hb;rw[hflat b.es (hn id (by simp[mh]) b hb)]
     ·rfl
   | sl id i n =>
     simp only[cz];rw[h id (by simp[mh])];split
     ·rename_i b hb;have he:=hflat b.es (hn id (by simp[mh]) b hb);split
      ·rw[List.map_take,List.map_drop,he,List.map_take,List.map_drop]
      ·rfl
     ·rfl
   | own s es=>simp[g9] at ho
   | agg cs=>simp only[cz];rw[hall cs (by simpa [g9] using ho) (by simpa [mh] using h) (by simpa [mh] using hn)]
   | tup cs=>simp only[cz];rw[hall cs (by simpa [g9] using ho) (by simpa [mh] using h) (by simpa [mh] using hn)]
   | clo f cs=>simp only[cz];rw[hall cs (by simpa [g9] using ho) (by simpa [mh] using h) (by simpa [mh] using hn)]
omit [GI] in
theorem ac1:∀ (xs ys:List V),fu (xs++ys)=fu xs++fu ys
 | [],ys=>rfl
 | x::xs,ys=>by simp[fu,ac1 xs ys]
omit [GI] in
theorem ayg {α:Type} (f:α->V):∀ xs:List α,fu (xs.map f)=xs.flatMap (fun x=>mh (f x))
 | []=>rfl
 | x::xs=>by simp[fu,ayg f xs]
omit [GI] in
theorem aaw {hp hp2:Nat->Option Blk}:∀ (vs:List V),cO vs=true->(∀ id ∈ fu vs,hp2 id=hp id)->(∀ id ∈ fu vs,∀ b,hp id=some b->mf b.es=true)->vs.map (cz hp2 6)=vs.map (cz hp 6)
 | [],_,_,_=>rfl
 | v::vs,ho,h,hn=>by
   simp only[cO,Bool.and_eq_true] at ho;simp only[List.map_cons];rw[asY 6 v ho.1 (fun id hi=>h id (by simp[fu,hi])) (fun id hi=>hn id (by simp[fu,hi])),aaw vs ho.2 (fun id hi=>h id (by simp[fu,hi])) (fun id hi=>hn id (by simp[fu,hi]))]
def xsT:O->List Abs.X
 | .mv _=>[]
 | o=>xsO o
omit [GI] in
theorem aR5 {o:O}:∀ x ∈ xsT o,x ∈ xsO o:=by
 intro x hx;cases o<;>first | exact hx | cases hx
def tch (c:CO) (s:St):List Nat:=(xsT c.o).flatMap fun x=>mh (s.ev x)
omit [GI] in
theorem anO {M:List Nat} {look look2:Nat->Option Blk}:∀ {l:List Nat},(∀ id ∈ l,look2 id=look id)->Hw M look2 l=Hw M look l
 | [],_=>rfl
 | k::l,h=>by
   simp only[Hw];rw[h k List.mem_cons_self,anO fun id hid=>h id (List.mem_cons_of_mem _ hid)]
theorem azy {f:Nat} {vs:List V} {s s2:St} {d:Nat} {tr:Tr} (h:∀ id ∈ fu vs,s2.hp id=s.hp id) (hc:aE8 P f vs s d tr):aE8 P f vs s2 d tr:=by
 rcases hc with ⟨res,h1,h2,h3,h4,h5,h6⟩ | ⟨M,Z,H0,l,res,h1,h2,h3,h4,h5,h6,h7,h8,h9,h10⟩ | ⟨M,Z,H0,l,res,h1,h2,h3,h4,h5,h6,h7,h8,h9,h10,h11⟩
 ·refine .inl ⟨res,?_,h2,h3,h4,h5,fun id hi b hb=>h6 id hi b (by rw[<- h id hi];exact hb)⟩;rw[aaw vs h5 h h6];exact h1
 ·have hz:pc Z s2.hp=pc Z s.hp:=by
   funext id;unfold pc;split
   ·rename_i hid;exact h id (by simpa using List.all_eq_true.1 h9 id hid)
   ·rfl
  refine .inr <| .inl ⟨M,Z,H0,l,res,by rw[hz];exact h1,h2,h3,?_,h5,h6,h7,h8,h9,h10⟩;rw[<- h4];refine List.map_congr_left fun id hid=>h id ?_;have:=List.all_eq_true.1 h8 id hid;simpa using this
 ·have hz:pc Z s2.hp=pc Z s.hp:=by
   funext id;unfold pc;split
   ·rename_i hid;exact h id (by simpa using List.all_eq_true.1 h10 id hid)
   ·rfl
  have hM:∀ id ∈ M,s2.hp id=s.hp id:=fun id hid=>h id (by simpa using List.all_eq_true.1 h9 id hid);refine .inr <| .inr ⟨M,Z,H0,l,res,by rw[hz];exact h1,h2,h3,?_,by rw[anO (fun id hid=>hM id hid)];exact h5,h6,h7,h8,h9,h10,h11⟩;rw[<- h4];exact List.map_congr_left fun id hid=>by rw[hM id hid]
theorem aH5 {c:CO} {s s2:St} {tr:Tr} (h:ex P c s tr) (hs:∀ t ∈ rdS c,s2.sl t=s.sl t) (hh:∀ id ∈ tch c s,s2.hp id=s.hp id):ex P c s2 tr:=by
 have hev:∀ x ∈ xsO c.o,s2.ev x=s.ev x:=aH3 fun t ht=>hs t (List.mem_append_right _ ht);have hids:∀ x ∈ xsT c.o,∀ id ∈ mh (s.ev x),s2.hp id=s.hp id:=fun x hx id hi=>hh id (List.mem_flatMap.2 ⟨x,hx,hi⟩)
 have exe:gN P c s tr->gN P c s2 tr:=by
  intro he;unfold gN at he ⊢;split
  ·rename_i f xs hco;rw[hco] at he hev hids;obtain ⟨d,hd,hc⟩:=he;refine⟨d,hd,?_⟩;rw[aFv (xs:=xs) hev];refine azy (fun id hi=>?_) hc;rw[ayg] at hi;obtain ⟨x,hx,hi⟩:=List.mem_flatMap.1 hi;exact hids x (by simpa [xsT,xsO] using hx) id hi
  ·rename_i x xs hco;rw[hco] at he hev hids;obtain ⟨d,hd,hc⟩:=he;refine⟨d,hd,?_⟩;rw[hev x (by simp[xsO]),aFv (fun y hy=>hev y (by simp[xsO,hy]))];split at hc
   ·rename_i f caps hclo;refine azy (fun id hi=>?_) hc;rw[ac1,List.mem_append,ayg] at hi;rcases hi with hi | hi
    ·obtain ⟨y,hy,hi⟩:=List.mem_flatMap.1 hi;exact hids y (by simp[xsT,xsO,hy]) id hi
    ·exact hids x (by simp[xsT,xsO]) id (by rw[hclo];simpa [mh] using hi)
   ·exact hc.elim
  ·rename_i hn1 hn2
   have he':∃ p δ,eff s.ev s.hp (c.d.getD 0) c.o=some (p,δ)/\p/\tr=aHu δ c.d:=by
    cases hco:c.o<;>rw[hco] at he hn1 hn2<;>first | exact he | exact absurd rfl (hn1 _ _) | exact absurd rfl (hn2 _ _)
   obtain ⟨p,δ,h1,h2,h3⟩:=he';refine⟨p,δ,?_,h2,h3⟩;cases hco:c.o with
   | mv x =>
     rw[hco] at h1 hev;simpa [eff,hev x (by simp[xsO])] using h1
   | _=>rw[<- hco,aMV hev (fun x hx=>hids x (by rw[hco] at hx ⊢;exact hx))];exact h1
 unfold ex at h ⊢;split
 ·rename_i hg;rw[hg] at h;exact exe h
 ·rename_i t b hg;rw[hg] at h;have ht:=hs t (by simp[rdS,hg]);rcases h with ⟨v,hv,h⟩ | ⟨hv,h⟩
  ·exact .inl ⟨v,by rw[ht];exact hv,h.imp (fun h=>⟨h.1,exe h.2⟩) id⟩
  ·exact .inr ⟨by rw[ht];exact hv,h⟩
def Tr.free (tr:Tr) (ids:List Nat):Bool:=ids.all fun d=>!gj d tr.v&&tr.hp.all fun p=>p.1 != d&&match p.2 with | some b=>!da d b.es | none=>true
omit [GI] in
theorem uT {f:Nat->Option Blk}:∀ {l:List (Nat×Option Blk)} {i:Nat},i ∉ l.map (·.1)->Il f l i=f i
 | [],i,h=>rfl
 | (j,b)::l,i,h=>by
   simp only[List.map_cons,List.mem_cons,not_or] at h;simp only[Il];rw[uT h.2,gZ _ _ h.1]
omit [GI] in
theorem aD1 {f:Nat->Option Blk}:∀ (l:List (Nat×Option Blk)) (i:Nat),Il f l i=f i\/∃ b,(i,b) ∈ l/\Il f l i=b
 | [],i=>.inl rfl
 | (j,b)::l,i=>by
   simp only[Il];rcases aD1 (f:=oY f j b) l i with h | ⟨b',h1,h2⟩
   ·rw[h];by_cases e:i=j
    ·subst e;right;exact⟨b,by simp,by simp⟩
    ·left;exact gZ _ _ e
   ·exact .inr ⟨b',List.mem_cons_of_mem _ h1,h2⟩
omit [GI] in
theorem Tr.free_fresh {tr:Tr} {ids:List Nat} (h:tr.free ids=true) {d:Nat} (hd:d ∈ ids) {c:Option Nat} {s:St} (hf:Fresh s d):Fresh (tr.ap c s) d:=by
 have:=List.all_eq_true.1 h d hd;simp only[Bool.and_eq_true,Bool.not_eq_true',List.all_eq_true,bne_iff_ne,ne_eq] at this;obtain ⟨h1,h2⟩:=this;refine⟨fun t=>?_,fun id blk hb=>?_,?_⟩
 ·cases c with
  | none=>exact hf.sl t
  | some c =>
    simp only[Tr.ap,oY];split
    ·exact h1
    ·exact hf.sl t
 ·rcases aD1 (f:=s.hp) tr.hp id with e | ⟨b,hm,e⟩
  ·exact hf.hp id blk (by rw[<- e];exact hb)
  ·have hb':Il s.hp tr.hp id=some blk:=hb;rw[e] at hb';subst hb';have:=(h2 _ hm).2;simpa using this
 ·show Il s.hp tr.hp d=none;rw[uT]
  ·exact hf.no
  ·intro hm;obtain ⟨p,hp,e⟩:=List.mem_map.1 hm;exact(h2 p hp).1 e
end
end Go.Abs
namespace Go.Abs
variable [GI]
structure It where
 c:CO
 tr:Tr
 i:Nat
 T:List Nat
def It.ap (e:It) (s:St):St:=e.tr.ap e.c.d s
def fin:St->List It->St
 | s,[]=>s
 | s,e::es=>fin (e.ap s) es
def amz (P:Program):St->List It->Prop
 | _,[]=>True
 | s,e::es=>ex P e.c s e.tr/\(∀ id ∈ tch e.c s,id ∈ e.T)/\amz P (e.ap s) es
def aiy (a b:It):Bool:=(match a.c.d with | some d=>!(rdS b.c).contains d | none=>true)
def ind (a b:It):Bool :=
 aiy a b&&aiy b a&&(match a.c.d,b.c.d with | some d,some d'=>d != d' | _,_=>true) &&
 (a.tr.hp.all fun p=>!b.T.contains p.1&&b.tr.hp.all fun q=>q.1 != p.1)&&(b.tr.hp.all fun q=>!a.T.contains q.1)
omit [GI] in
theorem aPr {a b:It} (h:ind a b=true):(∀ d,a.c.d=some d->d ∉ rdS b.c)/\(∀ d,b.c.d=some d->d ∉ rdS a.c)/\(∀ d,a.c.d=some d->b.c.d≠some d) /\
  (∀ p ∈ a.tr.hp,p.1 ∉ b.T/\p.1 ∉ b.tr.hp.map (·.1))/\(∀ q ∈ b.tr.hp,q.1 ∉ a.T):=by
 simp only[ind,Bool.and_eq_true,List.all_eq_true,Bool.not_eq_true',bne_iff_ne,ne_eq] at h;obtain ⟨⟨⟨⟨h1,h2⟩,h3⟩,h4⟩,h5⟩:=h;refine⟨fun d hd=>?_,fun d hd=>?_,fun d hd e=>?_,fun p hp=>⟨?_,fun hm=>?_⟩,fun q hq=>?_⟩
 ·simp only[aiy,hd,Bool.not_eq_true'] at h1;simpa using h1
 ·simp only[aiy,hd,Bool.not_eq_true'] at h2;simpa using h2
 ·rw[hd,e] at h3;simp at h3
 ·simpa using (h4 p hp).1
 ·obtain ⟨q,hq,e⟩:=List.mem_map.1 hm;exact(h4 p hp).2 q hq e
 ·simpa using h5 q hq
section
variable {P : Program}
omit [GI] in
theorem aOs {f:Nat->Option Blk} {l l':List (Nat×Option Blk)} (h:∀ p ∈ l,p.1 ∉ l'.map (·.1)):Il (Il f l) l'=Il (Il f l') l:=by
 have key:∀ (l:List (Nat×Option Blk)) (f g:Nat->Option Blk) (i:Nat),i ∈ l.map (·.1)->Il f l i=Il g l i:=by
  intro l
  induction l with
  | nil=>intro f g i hi;simp at hi
  | cons p l ih =>
    intro f g i hi;obtain ⟨j,b⟩:=p;simp only[Il];by_cases hm:i ∈ l.map (·.1)
    ·exact ih _ _ i hm
    ·have:i=j:=by simp only[List.map_cons,List.mem_cons] at hi;exact hi.resolve_right hm
     subst this;rw[uT hm,uT hm];simp
 funext i;by_cases h1:i ∈ l.map (·.1)
 ·have h2:i ∉ l'.map (·.1):=by
   obtain ⟨p,hp,rfl⟩:=List.mem_map.1 h1;exact h p hp
  rw[uT h2];exact key l _ _ i h1
 ·rw[uT h1];by_cases h2:i ∈ l'.map (·.1)
  ·exact key l' _ _ i h2
  ·rw[uT h2,uT h2,uT h1]
theorem aXH {x e:It} {s:St} (hx:ex P x.c s x.tr) (hxT:∀ id ∈ tch x.c s,id ∈ x.T) (he:ex P e.c (x.ap s) e.tr) (heT:∀ id ∈ tch e.c (x.ap s),id ∈ e.T) (hi:ind x e=true) :
  ex P e.c s e.tr/\(∀ id ∈ tch e.c s,id ∈ e.T)/\ex P x.c (e.ap s) x.tr/\(∀ id ∈ tch x.c (e.ap s),id ∈ x.T)/\e.ap (x.ap s)=x.ap (e.ap s):=by
 obtain ⟨i1,i2,i3,i4,i5⟩:=aPr hi
 have sl1:∀ t ∈ rdS e.c,s.sl t=(x.ap s).sl t:=by
  intro t ht;cases hd:x.c.d with
  | none=>simp only[It.ap,Tr.ap,hd]
  | some d =>
    have:t≠d:=fun e'=>i1 d hd (e'▸ht);simp only[It.ap,Tr.ap,hd];rw[gZ _ _ this]
 have sl2:∀ t ∈ rdS x.c,(e.ap s).sl t=s.sl t:=by
  intro t ht;cases hd:e.c.d with
  | none=>simp only[It.ap,Tr.ap,hd]
  | some d =>
    have:t≠d:=fun e'=>i2 d hd (e'▸ht);simp only[It.ap,Tr.ap,hd];rw[gZ _ _ this]
 have tchEq:∀ {c:CO} {s s2:St},(∀ t ∈ rdS c,s2.sl t=s.sl t)->tch c s2=tch c s:=by
  intro c s s2 h;have hev:=aH3 (xs:=xsO c.o) (s:=s) (s2:=s2) fun t ht=>h t (List.mem_append_right _ ht);simp only[tch]
  have key:∀ xs:List Abs.X,(∀ x ∈ xs,s2.ev x=s.ev x)->xs.flatMap (fun x=>mh (s2.ev x))=xs.flatMap (fun x=>mh (s.ev x)):=by
   intro xs
   induction xs with
   | nil=>intro _;rfl
   | cons y ys ih=>intro h;simp only[List.flatMap_cons];rw[h y (by simp),ih fun z hz=>h z (by simp[hz])]
  exact key _ fun x hx=>hev x (aR5 x hx)
 have t1:tch e.c s=tch e.c (x.ap s):=tchEq sl1;have t2:tch x.c (e.ap s)=tch x.c s:=tchEq sl2;refine⟨aH5 he sl1 fun id hid=>?_,fun id hid=>heT id (by rw[<- t1];exact hid),aH5 hx sl2 fun id hid=>?_,fun id hid=>hxT id (by rw[<- t2];exact hid),?_⟩
 ·show s.hp id=Il s.hp x.tr.hp id;rw[uT];intro hm;obtain ⟨p,hp,rfl⟩:=List.mem_map.1 hm;exact(i4 p hp).1 (heT _ hid)
 ·show Il s.hp e.tr.hp id=s.hp id;rw[uT];intro hm;obtain ⟨p,hp,rfl⟩:=List.mem_map.1 hm;exact i5 p hp (hxT _ hid)
 ·simp only[It.ap,Tr.ap];rw[aOs fun p hp=>(i4 p hp).2];congr 1;cases hd:x.c.d with
  | none=>rfl
  | some d =>
    cases hd':e.c.d with
    | none=>rfl
    | some d' =>
      have hne:d≠d':=fun e'=>i3 d hd (by rw[hd',e']);funext i;simp only[oY];split<;>split<;>simp_all
theorem aSi {e:It}:∀ (l1 l2:List It) (s:St),amz P s (l1++e::l2)->(∀ x ∈ l1,ind x e=true)->amz P s (e::(l1++l2))/\fin s (l1++e::l2)=fin s (e::(l1++l2))
 | [],l2,s,h,_=>⟨h,rfl⟩
 | x::l1,l2,s,h,hi=>by
   simp only[List.cons_append,amz] at h;obtain ⟨h1,h2,h3⟩:=h;obtain ⟨g1,g2⟩:=aSi l1 l2 (x.ap s) h3 (fun y hy=>hi y (by simp[hy]));simp only[amz] at g1;obtain ⟨k1,k2,k3⟩:=g1;obtain ⟨m1,m2,m3,m4,m5⟩:=aXH h1 h2 k1 k2 (hi x (by simp));refine⟨?_,?_⟩
   ·simp only[amz,List.cons_append];exact⟨m1,m2,m3,m4,by rw[<- m5];exact k3⟩
   ·simp only[List.cons_append,fin];rw[g2];simp only[fin];rw[m5]
end
def azN (pl:List (List Nat)) (its:List It):Bool :=
 its.all fun a=>its.all fun b=>if a.i < b.i then a.tr.free b.tr.news&&((pl.getD b.i []).contains a.i||(ind a b&&b.tr.free a.tr.news)) else true
section
variable {P : Program} {X : Ctx} {Q : Exit → Act → World → Prop}
omit [GI] in
theorem Fresh.sunk {s:St} {d:Nat} (h:Fresh s d) (Z:List Nat):Fresh (s.sunk Z) d:=by
 refine⟨h.sl,fun id blk hb=>?_,?_⟩
 ·simp only[St.sunk] at hb;split at hb
  ·cases hb
  ·exact h.hp id blk hb
 ·simp only[St.sunk];split
  ·rfl
  ·exact h.no
omit [GI] in
theorem Fresh.wrote {s:St} {d:Nat} {M:List Nat} {H0:List Blk} {l:List Blk} (h:Fresh s d) (hH:M.map s.hp=H0.map some) (ho:pJ (l.map some)=true):Fresh (s.wrote M (l.map some)) d:=by
 refine⟨h.sl,fun id blk hb=>?_,?_⟩
 ·simp only[St.wrote] at hb;split at hb
  ·rename_i k hk
   have hb':(l.map some)[k]?=some (some blk):=by
    cases hh:(l.map some)[k]? with
    | none=>rw[hh] at hb;cases hb
    | some o=>rw[hh] at hb;simp only[Option.join_some] at hb;rw[hb]
   exact jO d _ (M1 _ k blk ho hb')
  ·exact h.hp id blk hb
 ·simp only[St.wrote];split
  ·rename_i k hk;have h1:=C4 M d k hk;have h2:(M.map s.hp)[k]?=some (s.hp d):=by rw[List.getElem?_map,h1];rfl
   rw[hH,h.no,List.getElem?_map] at h2;cases hk':H0[k]? with
   | none=>rw[hk'] at h2;cases h2
   | some b=>rw[hk'] at h2;cases h2
  ·exact h.no
theorem aU3 {ops:Array Oper} {o:Oper} {i:Nat} {c:CO} {tr:Tr} {s:St} {a:Act} {w:World} {K':Act->World->Prop} (ho:ops[i]?=some o) (hc:aBS P ops X.n o=some c) (h:Rel X s a w) (hex:ex P c s tr)
  (hfr:∀ d ∈ tr.news,Fresh s d/\d ∉ X.pin) (hK:∀ a' w',Rel X (tr.ap c.d s) a' w'->K' a' w'):wpOp P ops Q i K' a w:=by
 obtain ⟨hq,hdst,hdn,hst,hns,hg⟩:=ahw hc
 have callRule:∀ (f:Nat) (vs:List V) (d:Nat) (args:Array Value),aE8 P f vs s d tr->o.dst=some d->(∀ D φ F,RelD X s a w D φ F []->iU w D vs φ args.toList []) ->
   (pz P f=true->(execOp a.eval o).run P w=.ok (.enter f args) w)->o.wp P a w K' Q:=by
  intro f vs d args hcall hd hv hr;rcases hcall with hcall | ⟨M,Z,H0,l,res,hP,hM,hMZ,hH,hn0,hout,hres,_,_,rfl⟩ | ⟨M,Z,H0,l,res,hP,hM,hMZ,hH,hcl,hll,hr1,hr2,_,_,rfl⟩
  rotate_left;rotate_left
  ·refine AR (hr hP.1) ?_
   have:=aJj (k:=6) (d:=d) hP h hM hMZ hH (fun id hid blk hb=>acS hcl id hid blk hb) hv (hdn d hd) (fun _ _ _ ⟨e1,e2,e3⟩ _=>by
    subst e1;subst e2;subst e3;exact⟨hr1,hr2,fun _ e=>(by cases e)⟩)
   rw[Array.toArray_toList] at this;refine this.mono ?_;rintro e w' ⟨y,_,_,_,⟨rfl,rfl,rfl⟩,_,rfl,hrel⟩;rw[hd];refine⟨y,rfl,hK _ _ ?_⟩;rw[hdst,hd,aQG];exact hrel
  rotate_left
  ·have hlH:H0.length=M.length:=by
    have:=congrArg List.length hH;rw[List.length_map,List.length_map] at this;exact this.symm
   have hll:l.length=M.length:=by
    have:=hP.2.1;rw[List.length_map] at this;exact this.trans hlH
   refine AR (hr hP.1) ?_
   have hfr':∀ i,i < (ix d 0 res).2.2->Fresh ((s.sunk Z).wrote M (l.map some)) (d+1000 * i)/\d+1000 * i ∉ X.pin:=fun i hi=>by
    have h1:=hfr _ (List.mem_map.2 ⟨i,List.mem_range.2 hi,rfl⟩);refine⟨(h1.1.sunk Z).wrote (H0:=H0) ?_ hout,h1.2⟩;rw[<- hH];exact List.map_congr_left fun id hid=>by simp only[St.sunk,if_neg (fun hz=>hMZ id hz hid)]
   have:=aFw (k:=6) (d:=d) hP h hM hMZ hH hn0 (fun j blk hj=>M1 _ j blk hout hj) hv (hdn d hd) hres hfr';rw[Array.toArray_toList] at this;refine this.mono ?_;rintro e w' ⟨y,rfl,hrel⟩;rw[hd];refine⟨y,rfl,hK _ _ ?_⟩;rw[hdst,hd,aQF d res s hM hll];exact hrel
  obtain ⟨res,hP,hres,hro,rfl,_,_⟩:=hcall;refine AR (hr hP.1) ?_;have hfr':∀ i,i < (ix d 0 res).2.2->Fresh s (d+1000 * i)/\d+1000 * i ∉ X.pin:=fun i hi=>hfr _ (List.mem_map.2 ⟨i,List.mem_range.2 hi,rfl⟩);have:=aMa (k:=6) (d:=d) hP h hv (hdn d hd) hres hro hfr';rw[Array.toArray_toList] at this;refine this.mono ?_;rintro e w' ⟨y,rfl,hrel⟩;rw[hd];refine⟨y,rfl,hK _ _ ?_⟩;rw[hdst,hd,aFT];exact hrel
 have run:gN P c s tr->o.wp P a w K' Q:=by
  intro hex;unfold gN at hex;split at hex
  ·rename_i f xs hco;rw[hco] at hq;obtain ⟨d,hd,hcall⟩:=hex;rw[hdst] at hd;obtain ⟨cl,hop⟩:=acN hq rfl;rw[hop] at hq;rcases asZ hq rfl with ⟨f',xs',e,hcal,hx⟩ | ⟨t,xs',e,hcal,hx⟩
   ·cases e;refine callRule f _ d (cl.args.map a.eval) hcall hd (fun D φ F hr=>by simpa using axP hr hx) fun hcb=>?_;simp[execOp,hop,resolve,hcal,Act.eval,Deferred.ofValue,invoke,Sn hcb]
   ·cases e
  ·rename_i x xs hco;rw[hco] at hq;obtain ⟨d,hd,hcall⟩:=hex;rw[hdst] at hd;obtain ⟨cl,hop⟩:=acN hq rfl;rw[hop] at hq;rcases asZ hq rfl with ⟨f',xs',e,hcal,hx⟩ | ⟨t,xs',e,hcal,hx⟩
   ·cases e
   ·cases e;split at hcall
    ·rename_i f caps hclo;obtain ⟨D,φ,F,hrel⟩:=h;have hslot:=hrel.slots t;have hcl:s.sl t=.clo f caps:=hclo;rw[hcl] at hslot;simp only[CV] at hslot;obtain ⟨ys,hys,_⟩:=hslot;refine callRule f _ d (cl.args.map a.eval++ys) hcall hd (fun D φ F hr=>?_) fun hcb=>?_
     ·rw[Array.toList_append];have h2:=hr.slots t;rw[hcl,hys] at h2;simp only[CV] at h2;obtain ⟨zs,hz,hcv⟩:=h2;cases hz;have:=HL (axP hr hx) hcv;simpa using this
     ·have he:a.eval (.tmp t)=.func (.func f) #[] ys:=hys;simp[execOp,hop,resolve,hcal,he,Deferred.ofValue,invoke,Sn hcb]
    ·exact hcall.elim
  ·obtain ⟨p,δ,he,hp,rfl⟩:=hex;obtain ⟨D,φ,F,hrel⟩:=h
   have hruns:Ee P o X a w (δ.app o.dst s):=by
    refine aPb hq hrel hdn hst hns (p:=p) (by rw[<- hdst];exact he) hp fun hn d hd=>hfr d ?_;rw[hdst,hd];cases hnew:δ.new with
    | none=>rw[hnew] at hn;cases hn
    | some b=>simp[aHu,hnew]
   exact aD6 hruns fun a' w' hr=>hK a' w' (by rw[aMz,hdst];exact hr)
 unfold wpOp;rw[ho];simp only;unfold ex at hex;rcases hg with ⟨hg1,hg2⟩ | ⟨j,b,t,hg1,hg2,hj⟩
 ·rw[hg2] at hex;rw[if_pos (by simp[Region.wanted,hg1])];exact .inl (run hex)
 ·rw[hg2] at hex;have h':=h;obtain ⟨D,φ,F,hrel⟩:=h';have hslot:=hrel.slots t;rcases hex with ⟨v,hv,hex⟩ | ⟨hv,rfl⟩
  rotate_left
  ·rw[hv] at hslot;have hy:=arw (ops:=ops) hj (aLX hslot);rw[if_neg (by simp[Region.wanted,hg1,hy])];refine hK _ _ ⟨D,φ,F,?_⟩;rw[hdst];cases hd:o.dst with
   | none=>exact hrel
   | some d=>exact hrel.put d (hdn d hd) (.tup []) undef acK
  rw[hv] at hslot;have hy:=aD7 (ops:=ops) hj (De hslot);rcases hex with ⟨e,hex⟩ | ⟨e,rfl⟩
  ·rw[if_pos (by simp[Region.wanted,hg1,hy,e])];exact .inl (run hex)
  ·rw[if_neg (by simp[Region.wanted,hg1,hy,e])];refine hK _ _ ⟨D,φ,F,?_⟩;rw[hdst];cases hd:o.dst with
   | none=>exact hrel
   | some d=>exact hrel.put d (hdn d hd) (.tup []) undef acK
def rem (all:List It) (listed:Array Bool):List It:=all.filter fun e=>!listed.getD e.i true
def aTL (ops:Array Oper) (pl:List (List Nat)):Bool :=
 (List.range ops.size).all fun i=>match ops[i]? with
  | some o=>o.after.all (fun e=>!Region.binds .any e||decide (e.on < i)) &&
    (pl.getD i []).all fun j=>o.after.any fun e=>Region.binds .any e&&(e.on==j||(pl.getD e.on []).contains j)
  | none=>true
omit [GI] in
theorem ayr {ops:Array Oper} {listed:Array Bool} {i:Nat}:i ∈ Region.ready .any ops listed↔i < ops.size/\listed.getD i true=false/\∃ o,ops[i]?=some o/\∀ e ∈ o.after.toList,Region.binds .any e=true->listed.getD e.on false=true:=by
 unfold Region.ready;rw[List.mem_filter,List.mem_range];constructor
 ·rintro ⟨h1,h2⟩;simp only[Bool.and_eq_true,Bool.not_eq_true'] at h2;refine⟨h1,h2.1,?_⟩;cases ho:ops[i]? with
  | none=>rw[ho] at h2;simp at h2
  | some o =>
    rw[ho] at h2;refine⟨o,rfl,fun e he hb=>?_⟩;have h3:=h2.2;simp only[Option.map_some,Option.getD_some,Array.all_eq_true',Bool.or_eq_true,Bool.not_eq_true'] at h3;have:=h3 e (by simpa using he);rw[hb] at this;simpa using this
 ·rintro ⟨h1,h2,o,ho,h3⟩;refine⟨h1,?_⟩;rw[ho];simp only[Bool.and_eq_true,Bool.not_eq_true',Option.map_some,Option.getD_some,Array.all_eq_true',Bool.or_eq_true];refine⟨h2,fun e he=>?_⟩;cases hb:Region.binds .any e with
  | false=>exact .inl rfl
  | true=>exact .inr (h3 e (by simpa using he) hb)
omit [GI] in
theorem aIJ (listed:Array Bool) (i j:Nat) (b d:Bool) (hi:i < listed.size):(listed.setIfInBounds i b).getD j d=if j=i then b else listed.getD j d:=by
 simp only[Array.getD_eq_getD_getElem?,Array.getElem?_setIfInBounds];by_cases e:i=j
 ·subst e;simp[hi]
 ·simp[e,Ne.symm e]
structure Plan (P:Program) (X:Ctx) (ops:Array Oper) (pl:List (List Nat)) (all:List It):Prop where
 len:all.length=ops.size
 at_:∀ (k:Nat) (e:It),all[k]?=some e->e.i=k/\∃ o,ops[k]?=some o/\aBS P ops X.n o=some e.c
 ok:aTL ops pl=true
 apart:azN pl all=true
omit [GI] in
theorem Plan.sorted {ops:Array Oper} {pl:List (List Nat)} {all:List It} (h:Plan P X ops pl all):all.Pairwise (fun a b=>a.i < b.i):=by
 rw[List.pairwise_iff_getElem];intro i j hi hj hij;have h1:=(h.at_ i _ (List.getElem?_eq_getElem hi)).1;have h2:=(h.at_ j _ (List.getElem?_eq_getElem hj)).1;rw[h1,h2];exact hij
theorem aOL {ops:Array Oper} {pl:List (List Nat)} {all:List It} (hp:Plan P X ops pl all):∀ (fuel:Nat) (listed:Array Bool) (s:St) (a:Act) (w:World),listed.size=ops.size->(rem all listed).length=fuel ->
  (∀ i,i < ops.size->listed.getD i true=true->∀ j ∈ pl.getD i [],listed.getD j true=true)->amz P s (rem all listed)->(∀ e ∈ rem all listed,∀ d ∈ e.tr.news,Fresh s d/\d ∉ X.pin)->Rel X s a w ->
  (∀ a' w',Rel X (fin s (rem all listed)) a' w'->Q .normal a' w')->wpAny P .any ops Q fuel listed a w
 | 0,listed,s,a,w,hsz,hlen,hcl,hst,hfr,hrel,hQ=>by
   have hnil:rem all listed=[]:=List.eq_nil_of_length_eq_zero hlen;refine⟨?_,hQ a w (by rw[hnil];exact hrel)⟩;rw[List.eq_nil_iff_forall_not_mem];intro i hi;obtain ⟨h1,h2,_⟩:=ayr.1 hi;have hlt:i < all.length:=by rw[hp.len];exact h1
   have hm:all[i] ∈ rem all listed:=by
    refine List.mem_filter.2 ⟨List.getElem_mem hlt,?_⟩;rw[(hp.at_ i _ (List.getElem?_eq_getElem hlt)).1,h2];rfl
   rw[hnil] at hm;cases hm
 | fuel+1,listed,s,a,w,hsz,hlen,hcl,hst,hfr,hrel,hQ=>by
   have edges:∀ i o,i < ops.size->ops[i]?=some o->∀ e ∈ o.after.toList,Region.binds .any e=true->e.on < i:=by
    intro i o hi ho e he hb;have h:=List.all_eq_true.1 hp.ok i (List.mem_range.2 hi);rw[ho] at h;simp only[Bool.and_eq_true,Array.all_eq_true',Bool.or_eq_true,Bool.not_eq_true',decide_eq_true_eq] at h;have:=h.1 e (by simpa using he);rw[hb] at this;exact this.resolve_left (by simp)
   have closed:∀ i o,i < ops.size->ops[i]?=some o->∀ j ∈ pl.getD i [],∃ e ∈ o.after.toList,Region.binds .any e=true/\(e.on=j\/j ∈ pl.getD e.on []):=by
    intro i o hi ho j hj;have h:=List.all_eq_true.1 hp.ok i (List.mem_range.2 hi);rw[ho] at h;simp only[Bool.and_eq_true,List.all_eq_true,Array.any_eq_true'] at h;obtain ⟨e,he,hb,hor⟩:=h.2 j hj;refine⟨e,by simpa using he,hb,?_⟩;simpa using hor
   refine⟨fun hnone=>?_,fun i hi=>?_⟩
   ·
    exfalso;cases hR:rem all listed with
    | nil=>rw[hR] at hlen;simp at hlen
    | cons e R =>
      have hm:e ∈ rem all listed:=by rw[hR];simp
      obtain ⟨hm1,hm2⟩:=List.mem_filter.1 hm;obtain ⟨k,hk⟩:=List.mem_iff_getElem?.1 hm1;obtain ⟨hi,o,ho,_⟩:=hp.at_ k e hk;have hklt:k < ops.size:=by have:=(List.getElem?_eq_some_iff.1 hk).1;rw[hp.len] at this;exact this
      have hready:k ∈ Region.ready .any ops listed:=by
       refine ayr.2 ⟨hklt,by rw[<- hi];simpa using hm2,o,ho,fun ed hed hb=>?_⟩;have hlt:=edges k o hklt ho ed hed hb;cases hg:listed.getD ed.on false with
       | true=>rfl
       | false =>
         exfalso;have hlt':ed.on < all.length:=by rw[hp.len];omega
         have hei:=(hp.at_ ed.on _ (List.getElem?_eq_getElem hlt')).1
         have hm':all[ed.on] ∈ rem all listed:=by
          refine List.mem_filter.2 ⟨List.getElem_mem hlt',?_⟩;rw[hei]
          have:listed.getD ed.on true=listed.getD ed.on false:=by
           simp only[Array.getD_eq_getD_getElem?];rw[Array.getElem?_eq_getElem (by omega)];rfl
          rw[this,hg];rfl
         rw[hR] at hm'
         have hsort:(e::R).Pairwise (fun a b=>a.i < b.i):=by
          rw[<- hR];exact hp.sorted.sublist List.filter_sublist
         rcases List.mem_cons.1 hm' with e1 | e1
         ·rw[e1,hi] at hei;omega
         ·have:=(List.pairwise_cons.1 hsort).1 _ e1;rw[hei,hi] at this;omega
      rw[hnone] at hready;cases hready
   ·obtain ⟨hilt,hun,o,ho,hed⟩:=ayr.1 hi;have hlt:i < all.length:=by rw[hp.len];exact hilt
    have hat:=hp.at_ i _ (List.getElem?_eq_getElem hlt);obtain ⟨hei,o',ho',hco⟩:=hat;rw[ho] at ho';cases ho';have hm:all[i] ∈ rem all listed:=List.mem_filter.2 ⟨List.getElem_mem hlt,by rw[hei,hun];rfl⟩;generalize he:all[i]=e at *;obtain ⟨l1,l2,hR⟩:=List.append_of_mem hm;have hsort:(l1++e::l2).Pairwise (fun a b=>a.i < b.i):=by rw[<- hR];exact hp.sorted.sublist List.filter_sublist
    have hl1:∀ x ∈ l1,x.i < i:=fun x hx=>by
     have:=(List.pairwise_append.1 hsort).2.2 x hx e (by simp);rw[hei] at this;exact this
    have hl2:∀ x ∈ l2,i < x.i:=fun x hx=>by
     have:=(List.pairwise_cons.1 (List.pairwise_append.1 hsort).2.1).1 x hx;rw[hei] at this;exact this
    have hpre:∀ j ∈ pl.getD i [],listed.getD j true=true:=by
     intro j hj;obtain ⟨ed,hed1,hb,hor⟩:=closed i o hilt ho j hj;have hon:=hed ed hed1 hb;have honlt:=edges i o hilt ho ed hed1 hb
     have hon':listed.getD ed.on true=true:=by
      have:listed.getD ed.on true=listed.getD ed.on false:=by
       simp only[Array.getD_eq_getD_getElem?];rw[Array.getElem?_eq_getElem (by omega)];rfl
      rw[this];exact hon
     rcases hor with rfl | hor
     ·exact hon'
     ·exact hcl ed.on (by omega) hon' j hor
    have hmemR:∀ x ∈ rem all listed,x ∈ all/\listed.getD x.i true=false:=fun x hx=>by
     obtain ⟨g1,g2⟩:=List.mem_filter.1 hx;exact⟨g1,by simpa using g2⟩
    have hpair:∀ a ∈ all,∀ b ∈ all,a.i < b.i->a.tr.free b.tr.news=true/\(a.i ∈ pl.getD b.i []\/(Abs.ind a b=true/\b.tr.free a.tr.news=true)):=by
     intro a ha b hb hab;have:=List.all_eq_true.1 (List.all_eq_true.1 hp.apart a ha) b hb;rw[if_pos hab] at this;simp only[Bool.and_eq_true,Bool.or_eq_true] at this;exact⟨this.1,this.2.imp (fun h=>by simpa using h) id⟩
    have heall:e ∈ all:=(hmemR e hm).1
    have hindep:∀ x ∈ l1,Abs.ind x e=true/\e.tr.free x.tr.news=true:=by
     intro x hx;obtain ⟨g1,g2⟩:=hmemR x (by rw[hR];simp[hx]);rcases (hpair x g1 e heall (by rw[hei];exact hl1 x hx)).2 with g | g
     ·have:=hpre x.i (by rw[hei] at g;exact g);rw[this] at g2;cases g2
     ·exact g
    rw[hR] at hst;obtain ⟨hst',hfin⟩:=aSi l1 l2 s hst fun x hx=>(hindep x hx).1;simp only[amz] at hst';obtain ⟨hex,_,hrest⟩:=hst';refine aU3 ho hco hrel hex (hfr e hm) fun a' w' hr=>?_
    have hrem:rem all (listed.setIfInBounds i true)=l1++l2:=by
     have:rem all (listed.setIfInBounds i true)=(rem all listed).filter fun x=>x.i != i:=by
      unfold rem;rw[List.filter_filter];refine List.filter_congr fun x _=>?_;rw[aIJ _ _ _ _ _ (by omega)];by_cases e1:x.i=i
      ·simp[e1]
      ·simp[e1]
     rw[this,hR,List.filter_append,List.filter_cons];have hne:(e.i != i)=false:=by simp[hei]
     rw[hne];simp only[Bool.false_eq_true,if_false];rw[List.filter_eq_self.2,List.filter_eq_self.2]
     ·intro x hx;have:=hl2 x hx;simp;omega
     ·intro x hx;have:=hl1 x hx;simp;omega
    refine aOL hp fuel _ (e.ap s) a' w' (by simpa using hsz) ?_ ?_ (by rw[hrem];exact hrest) ?_ hr ?_
    ·rw[hrem];rw[hR] at hlen;simp only[List.length_append,List.length_cons] at hlen ⊢;omega
    ·intro k hk hlk j hj;rw[aIJ _ _ _ _ _ (by omega)] at hlk ⊢;split
     ·rfl
     ·split at hlk
      ·rename_i e1;subst e1;exact hpre j hj
      ·exact hcl k hk hlk j hj
    ·intro x hx d hd;rw[hrem] at hx
     have hxR:x ∈ rem all listed:=by
      rw[hR];rcases List.mem_append.1 hx with h | h
      ·simp[h]
      ·simp[h]
     obtain ⟨f1,f2⟩:=hfr x hxR d hd;refine⟨?_,f2⟩;rcases List.mem_append.1 hx with h | h
     ·exact Tr.free_fresh (hindep x h).2 hd f1
     ·exact Tr.free_fresh (hpair e heall x (hmemR x hxR).1 (by rw[hei];exact hl2 x h)).1 hd f1
    ·intro a2 w2 hr2;refine hQ a2 w2 ?_;rw[hR,hfin];rw[hrem] at hr2;exact hr2
end
end Go.Abs
namespace Go.Abs
variable [GI]
def zB (c:CO) (s:AS):List Nat:=(xsT c.o).flatMap fun x=>mh (s.ev x)
def aST (P:Program) (f:Nat) (vs:List V) (s:AS) (d:Nat) (c:CO) (i:Nat) (next:It->AS->Prop):Prop :=
 ∃ res,aa P f (vs.map (cz (fy s.hp) 6)) res/\fW res=true/\(u5 res=true\/(bN vs=true/\cO vs=true))/\cO vs=true /\
  (fu vs).all (fun id=>match fy s.hp id with | some b=>mf b.es | none=>true)=true/\next ⟨c,Ik d res,i,zB c s⟩ (s.took d res)
def aSR (P:Program) (f:Nat) (vs:List V) (s:AS) (d:Nat) (c:CO) (i:Nat) (next:It->AS->Prop):Prop :=
 ∃ (M Z:List Nat) (H0 l:List Blk) (res:V),ac P f H0 (vs.map (vc M (pc Z (fy s.hp)) 6)) res (l.map some)/\M.Nodup/\(Z.all fun z=>!M.contains z)=true/\M.map (fy s.hp)=H0.map some/\(∀ blk ∈ H0,bN blk.es=true)/\pJ (l.map some)=true/\fW res=true /\
  (M.all fun id=>(fu vs).contains id)=true/\(Z.all fun id=>(fu vs).contains id)=true/\next ⟨c,trM d M Z l res,i,zB c s⟩ (((s.sunk Z).wrote M (l.map some)).took d res)
def aSS (P:Program) (f:Nat) (vs:List V) (s:AS) (d:Nat) (c:CO) (i:Nat) (next:It->AS->Prop):Prop :=
 ∃ (M Z:List Nat) (H0 l:List Blk) (res:V),jA P f H0 (vs.map (vc M (pc Z (fy s.hp)) 6)) (fun r k nw=>r=res/\k=l/\nw=none)/\M.Nodup/\(Z.all fun z=>!M.contains z)=true/\M.map (fun id=>(fy s.hp id).map (NZ (upI M)))=H0.map some/\Hw M (fy s.hp) M=true/\l.length=H0.length /\
  at5 H0.length res/\(∀ blk ∈ l,MR H0.length blk.es)/\(M.all fun id=>(fu vs).contains id)=true/\(Z.all fun id=>(fu vs).contains id)=true/\next ⟨c,trN d M Z l res,i,zB c s⟩ ((s.sunk Z).back M d res l none)
def Dw (P:Program) (f:Nat) (vs:List V) (s:AS) (d:Nat) (c:CO) (i:Nat) (next:It->AS->Prop):Prop:=aST P f vs s d c i next\/aSR P f vs s d c i next\/aSS P f vs s d c i next
def ru (P:Program) (c:CO) (i:Nat) (s:AS) (next:It->AS->Prop):Prop :=
 match c.o with
 | .call f xs=>∃ d,c.d=some d/\Dw P f (xs.map s.ev) s d c i next
 | .callv x xs=>∃ d,c.d=some d/\match s.ev x with
   | .clo f caps=>Dw P f (xs.map s.ev++caps) s d c i next
   | _=>False
 | o=>match eff s.ev (fy s.hp) (c.d.getD 0) o with
   | some (p,δ)=>p/\(δ.new.isSome=true->c.d.isSome=true)/\next ⟨c,aHu δ c.d,i,zB c s⟩ (s.app c.d δ)
   | none=>False
def asT (f:List It->AS->Prop) (acc:List It) (it:It) (s:AS):Prop:=f (acc++[it]) s
def wpD (P:Program) (pl:List (List Nat)) (s0:AS) (K:AS->Prop):List CO->Nat->List It->AS->Prop
 | [],_,acc,s=>azN pl acc=true/\(acc.all fun e=>e.tr.news.all s0.fresh)=true/\K s
 | c::cs,i,acc,s=>match c.g with
   | none=>ru P c i s (asT (wpD P pl s0 K cs (i+1)) acc)
   | some (t,b)=>match lk s.sl t with
     | .v (.bool v)=>(v=b->ru P c i (s.mark t (.v (.bool b))) (asT (wpD P pl s0 K cs (i+1)) acc)) /\
       (v=!b->wpD P pl s0 K cs (i+1) (acc++[⟨c,⟨.tup [],[],[]⟩,i,zB c s⟩]) ((s.mark t (.v (.bool !b))).put c.d (.tup [])))
     | .tup []=>wpD P pl s0 K cs (i+1) (acc++[⟨c,⟨.tup [],[],[]⟩,i,zB c s⟩]) (s.put c.d (.tup []))
     | _=>False
section
variable {P : Program} {X : Ctx} {Q : Exit → Act → World → Prop}
omit [GI] in
theorem AS.tch_eq (c:CO) (s:AS):tch c s.den=zB c s:=by
 unfold tch zB;rw[AS.ev_eq]
omit [GI] in
theorem AS.den_put (s:AS) (d:Option Nat):(s.put d (.tup [])).den=Tr.ap ⟨.tup [],[],[]⟩ d s.den:=by
 cases d with
 | none=>rfl
 | some d=>simp only[AS.put,AS.den,Tr.ap,Il,ac7]
theorem aKg {pl:List (List Nat)} {s0:AS} {K:AS->Prop}:∀ (cs:List CO) (i:Nat) (acc:List It) (s:AS),wpD P pl s0 K cs i acc s ->
  ∃ its s',its.map (·.c)=cs/\its.map (·.i)=List.range' i cs.length/\amz P s.den its/\fin s.den its=s'.den/\s'.pin=s.pin/\azN pl (acc++its)=true/\((acc++its).all fun e=>e.tr.news.all s0.fresh)=true/\K s'
 | [],i,acc,s,h=>⟨[],s,rfl,rfl,trivial,rfl,rfl,by simpa using h.1,by simpa using h.2.1,h.2.2⟩
 | c::cs,i,acc,s,h=>by
   have go:∀ (tr:Tr) (s1:AS),ex P c s.den tr->s1.den=tr.ap c.d s.den->s1.pin=s.pin->wpD P pl s0 K cs (i+1) (acc++[⟨c,tr,i,zB c s⟩]) s1 ->
     ∃ its s',its.map (·.c)=c::cs/\its.map (·.i)=List.range' i (c::cs).length/\amz P s.den its/\fin s.den its=s'.den/\s'.pin=s.pin/\azN pl (acc++its)=true/\((acc++its).all fun e=>e.tr.news.all s0.fresh)=true/\K s':=by
    intro tr s1 hex hden hpin hw;obtain ⟨its,s',h1,h2,h3,h4,h5,h6,h7,h8⟩:=aKg cs (i+1) _ s1 hw;refine⟨⟨c,tr,i,zB c s⟩::its,s',by simp[h1],by simp[h2,List.range'_succ],⟨hex,fun id hid=>by rw[AS.tch_eq] at hid;exact hid,?_⟩,?_,h5.trans hpin,by simpa using h6,by simpa using h7,h8⟩
    ·show amz P (tr.ap c.d s.den) its;rw[<- hden];exact h3
    ·show fin (tr.ap c.d s.den) its=s'.den;rw[<- hden];exact h4
   have callGo:∀ (s:AS) (f:Nat) (vs:List V) (d:Nat),c.d=some d->Dw P f vs s d c i (asT (wpD P pl s0 K cs (i+1)) acc) ->
     ∃ tr s1,aE8 P f vs s.den d tr/\s1.den=tr.ap (some d) s.den/\s1.pin=s.pin/\wpD P pl s0 K cs (i+1) (acc++[⟨c,tr,i,zB c s⟩]) s1:=by
    rintro s f vs d hd (⟨res,h1,h2,h3,h4,h5,h6⟩ | ⟨M,Z,H0,l,res,h1,h2,h3,h4,h5,h6,h7,h8,h9,h10⟩ | ⟨M,Z,H0,l,res,h1,h2,h3,h4,h5,h6,h7,h8,h9,h10,h11⟩)
    ·refine⟨Ik d res,s.took d res,.inl ⟨res,h1,h2,h3,rfl,h4,fun id hid b hb=>?_⟩,by rw[AS.den_took,aFT],rfl,h6⟩;have:=List.all_eq_true.1 h5 id hid;have hb':fy s.hp id=some b:=hb;rw[hb'] at this;simpa using this
    ·have hlH:H0.length=M.length:=by
      have:=congrArg List.length h4;rw[List.length_map,List.length_map] at this;exact this.symm
     have hll:(l.map some).length=M.length:=h1.2.1.trans hlH;exact⟨trM d M Z l res,((s.sunk Z).wrote M (l.map some)).took d res,.inr <| .inl ⟨M,Z,H0,l,res,h1,h2,fun z hz=>by simpa using List.all_eq_true.1 h3 z hz,h4,h5,h6,h7,h8,h9,rfl⟩,by rw[AS.den_took,AS.den_wrote _ h2 hll,AS.den_sunk,aQF d res s.den h2 (by rw[<- hll,List.length_map])],rfl,h10⟩
    ·refine⟨trN d M Z l res,(s.sunk Z).back M d res l none,.inr <| .inr ⟨M,Z,H0,l,res,h1,h2,fun z hz=>by simpa using List.all_eq_true.1 h3 z hz,h4,h5,h6,h7,h8,h9,h10,rfl⟩,?_,rfl,h11⟩;rw[AS.den_back,AS.den_sunk,aQG];rfl
   have step:∀ s:AS,(ru P c i s (asT (wpD P pl s0 K cs (i+1)) acc))->∃ tr s1,gN P c s.den tr/\s1.den=tr.ap c.d s.den/\s1.pin=s.pin/\wpD P pl s0 K cs (i+1) (acc++[⟨c,tr,i,zB c s⟩]) s1:=by
    intro s hs;unfold ru at hs;split at hs
    ·rename_i f xs hco;obtain ⟨d,hd,hs⟩:=hs;obtain ⟨tr,s1,h1,h2,h3,h4⟩:=callGo s f _ d hd hs;refine⟨tr,s1,?_,by rw[hd];exact h2,h3,h4⟩;unfold gN;rw[hco];exact⟨d,hd,by rw[AS.ev_eq];exact h1⟩
    ·rename_i x xs hco;obtain ⟨d,hd,hs⟩:=hs;split at hs
     ·rename_i f caps hclo;obtain ⟨tr,s1,h1,h2,h3,h4⟩:=callGo s f _ d hd hs;refine⟨tr,s1,?_,by rw[hd];exact h2,h3,h4⟩;unfold gN;rw[hco];refine⟨d,hd,?_⟩;rw[AS.ev_eq,hclo];exact h1
     ·exact hs.elim
    ·rename_i hn1 hn2;split at hs
     ·rename_i p δ he;obtain ⟨hp,hnew,hs⟩:=hs;refine⟨aHu δ c.d,s.app c.d δ,?_,?_,AS.app_pin _ _ _,hs⟩
      ·unfold gN;split
       ·rename_i f xs hco;exact absurd hco (hn1 f xs)
       ·rename_i x xs hco;exact absurd hco (hn2 x xs)
       ·exact⟨p,δ,by rw[AS.ev_eq];exact he,hp,rfl⟩
      ·rw[AS.den_app _ _ _ hnew,aMz]
     ·exact hs.elim
   unfold wpD at h;split at h
   ·rename_i hg;obtain ⟨tr,s1,h1,h2,h3,h4⟩:=step s h;exact go tr s1 (by unfold ex;rw[hg];exact h1) h2 h3 h4
   ·rename_i t b hg;split at h
    ·rename_i v hv;by_cases e:v=b
     ·obtain ⟨tr,s1,h1,h2,h3,h4⟩:=step _ (h.1 e);have hds:(s.mark t (.v (.bool b))).den=s.den:=AS.den_same (by rw[hv,e]);have htc:zB c (s.mark t (.v (.bool b)))=zB c s:=by rw[<- AS.tch_eq,hds,AS.tch_eq]
      rw[hds] at h1 h2;rw[htc] at h4;exact go tr s1 (by unfold ex;rw[hg];exact .inl ⟨v,hv,.inl ⟨e,h1⟩⟩) h2 h3 h4
     ·have e':v=!b:=by cases v<;>cases b<;>simp_all
      have hds:(s.mark t (.v (.bool !b))).den=s.den:=AS.den_same (by rw[hv,e']);exact go ⟨.tup [],[],[]⟩ _ (by unfold ex;rw[hg];exact .inl ⟨v,hv,.inr ⟨e,rfl⟩⟩) (by rw[AS.den_put,hds]) (by cases c.d<;>rfl) (h.2 e')
    ·rename_i hv;exact go ⟨.tup [],[],[]⟩ _ (by unfold ex;rw[hg];exact .inr ⟨hv,rfl⟩) (by rw[AS.den_put]) (by cases c.d<;>rfl) h
    ·exact h.elim
omit [GI] in
theorem aBT {ops:Array Oper} {n:Nat}:∀ (os:List Oper) (cs:List CO),YX P ops n os=some cs->cs.length=os.length/\∀ (k:Nat) (c:CO),cs[k]?=some c->∃ o,os[k]?=some o/\aBS P ops n o=some c
 | [],cs,h=>by simp only[YX,Option.some.injEq] at h;subst h;exact⟨rfl,by simp⟩
 | o::os,cs,h=>by
   unfold YX at h;split at h
   ·rename_i c cs' h1 h2;simp only[Option.some.injEq] at h;subst h;obtain ⟨g1,g2⟩:=aBT os cs' h2;refine⟨by simp[g1],fun k c' hk=>?_⟩;cases k with
    | zero=>simp at hk;subst hk;exact⟨o,by simp,h1⟩
    | succ k=>simpa using g2 k c' (by simpa using hk)
   ·cases h
theorem aTY {ops:Array Oper} {id:Nat} {cs:List CO} {pl:List (List Nat)} {s:AS} {a:Act} {w:World} {K:AS->Prop} (hm:P.follows .mixedOrders=true) (hpl:aTL ops pl=true) (hc:YX P ops X.n ops.toList=some cs)
  (h:Rel X s.den a w) (hpin:X.pin=s.pin) (hs:wpD P pl s K cs 0 [] s) (hK:∀ s' a' w',K s'->s'.pin=s.pin->Rel X s'.den a' w'->Q .normal a' w'):(Code.region id ops true).wp P Q a w:=by
 obtain ⟨its,s',h1,h2,h3,h4,h5,h6,h7,h8⟩:=aKg cs 0 [] s hs;simp only[List.nil_append] at h6 h7;obtain ⟨g1,g2⟩:=aBT _ _ hc
 have hlen:its.length=ops.size:=by
  have:=congrArg List.length h1;rw[List.length_map] at this;rw[this,g1];simp
 have plan:Plan P X ops pl its:=by
  refine⟨hlen,fun k e hk=>?_,hpl,h6⟩;have hc':cs[k]?=some e.c:=by rw[<- h1,List.getElem?_map,hk];rfl
  obtain ⟨o,ho,hco⟩:=g2 k e.c hc';refine⟨?_,o,by simpa using ho,hco⟩;have hi:(its.map (·.i))[k]?=some e.i:=by rw[List.getElem?_map,hk];rfl
  rw[h2] at hi;have hlt:k < cs.length:=(List.getElem?_eq_some_iff.1 hc').1;rw[List.getElem?_range' hlt] at hi;simpa using hi.symm
 have hrem:rem its (Array.replicate ops.size false)=its:=by
  refine List.filter_eq_self.2 fun e he=>?_;obtain ⟨k,hk⟩:=List.mem_iff_getElem?.1 he;have hi:=(plan.at_ k e hk).1;have hlt:k < ops.size:=by have:=(List.getElem?_eq_some_iff.1 hk).1;omega
  rw[hi,Array.getD_eq_getD_getElem?];simp[hlt]
 obtain ⟨D,φ,F,hrel⟩:=h
 have hrel':Rel X s.den a { w with drawn:=w.drawn+1 }:=by
  have:=hrel.grow { w with drawn:=w.drawn+1 } D [] rfl rfl rfl (Nat.le_refl _) (fun _ _=>rfl) (fun _ hb=>hb) (fun b hb=>⟨.inl hb,hrel.Dlt b hb⟩) List.nodup_nil (by simp);exact⟨D,φ,F,by simpa using this⟩
 refine wp_region_any hm (aOL plan ops.size _ s.den a _ (by simp) (by rw[hrem,hlen]) (fun i hi hg=>?_) (by rw[hrem];exact h3) (fun e he d hd=>?_) hrel' fun a' w' hr=>?_)
 ·simp[Array.getD_eq_getD_getElem?,hi] at hg
 ·rw[hrem] at he;have:=List.all_eq_true.1 (List.all_eq_true.1 h7 e he) d hd;have:=AS.fresh_ok this;exact⟨this.1,by rw[hpin];exact this.2⟩
 ·rw[hrem,h4] at hr;exact hK s' a' w' h8 h5 hr
end
def aVU (ops:Array Oper):List (List Nat) :=
 let b:=Region.before ops
 (List.range ops.size).map fun i=>(List.range ops.size).filter fun j=>(b.getD i 0).testBit j
inductive C where
 | skip
 | reg (cs:List CO) (keep:List Nat)
 | regD (cs:List CO) (pl:List (List Nat)) (keep:List Nat)
 | seq (a b:C)
 | cond (x:X) (a b:C)
 | block (id:Nat) (b:C)
 | loop (b:C)
 | exit (id:Nat)
 | ret
 | wk (b:C)
 | bad
 deriving Inhabited
def aMr (ks:List Nat) (c:List Nat->C):C:=match ks with
 | []=>c []
 | k::l=>if k=999999 then .wk (c l) else c (k::l)
def aSe (P:Program) (n:Nat) (ks:List Nat) (ops:Array Oper) (dr:Bool):C :=
 if dr=true then
  if P.follows .mixedOrders=true/\aTL ops (aVU ops)=true then
   match YX P ops n ops.toList with
   | some cs=>aMr ks (.regD cs (aVU ops))
   | none=>.bad
  else .bad
 else match YX P ops n ops.toList with
  | some cs=>aMr ks (.reg cs)
  | none=>.bad
def Sp (P:Program) (n:Nat) (ks:Nat->List Nat):Code->C
 | .skip=>.skip
 | .region id ops dr=>aSe P n (ks id) ops dr
 | .seq a b=>.seq (Sp P n ks a) (Sp P n ks b)
 | .cond x a b=>match cX x with
   | some x=>.cond x (Sp P n ks a) (Sp P n ks b)
   | none=>.bad
 | .block id b=>.block id (Sp P n ks b)
 | .loop b=>.loop (Sp P n ks b)
 | .exit id=>.exit id
 | .ret=>.ret
 | _=>.bad
def AS.keep (s:AS) (ks:List Nat):AS:={ s with sl:=ks.map fun t=>(t,lk s.sl t) }
def Wk (s s':AS):Prop:=s'.pin=s.pin/\∀ X a w,X.pin=s.pin->Rel X s.den a w->Rel X s'.den a w
theorem Wk.refl (s:AS):Wk s s:=⟨rfl,fun _ _ _ _ h=>h⟩
theorem Wk.trans {s t u:AS} (h:Wk s t) (h':Wk t u):Wk s u:=⟨h'.1.trans h.1,fun X a w hp hr=>h'.2 X a w (hp.trans h.1.symm) (h.2 X a w hp hr)⟩
theorem Wk.of_lk {s s':AS} (hp:s'.pin=s.pin) (h1:∀ t,lk s'.sl t=lk s.sl t\/lk s'.sl t=.undef) (h2:∀ i,fy s'.hp i=fy s.hp i\/fy s'.hp i=none):Wk s s' :=
 ⟨hp,fun X a w _ ⟨D,φ,F,h⟩=>⟨D,φ,_,h.weaken s'.den h1 h2⟩⟩
omit [GI] in
theorem aMl (l:List (Nat×V)):∀ (ks:List Nat) (t:Nat),lk (ks.map fun t=>(t,lk l t)) t=lk l t\/lk (ks.map fun t=>(t,lk l t)) t=.undef
 | [],t=>.inr rfl
 | k::ks,t=>by
   simp only[List.map_cons,lk];split
   ·rename_i e;subst e;exact .inl rfl
   ·exact aMl l ks t
theorem Wk.keep (s:AS) (ks:List Nat):Wk s (s.keep ks):=Wk.of_lk rfl (aMl s.sl ks) fun _=>.inl rfl
def aQl (K:AS->Prop) (Q:Exit->AS->Prop):Exit->AS->Prop
 | .normal=>K
 | e=>Q e
def acL (id:Nat) (Q:Exit->AS->Prop):Exit->AS->Prop
 | .exit i=>if i=id then Q .normal else Q (.exit i)
 | e=>Q e
def aPt (ks:List Nat) (Q:Exit->AS->Prop) (s:AS):Prop:=Q .normal (s.keep ks)
def aHf (I:Nat->AS->Prop) (n:Nat) (Q:Exit->AS->Prop):Exit->AS->Prop
 | .normal=>fun s=>∃ m s',m < n/\Wk s s'/\I m s'
 | e=>Q e
def aJf (acM:(Exit->AS->Prop)->AS->Prop) (Q:Exit->AS->Prop) (s:AS):Prop :=
 ∃ (I:Nat->AS->Prop) (n:Nat) (s0:AS),Wk s s0/\I n s0/\∀ n s,I n s->acM (aHf I n Q) s
def Z4 (P:Program):C->(Exit->AS->Prop)->AS->Prop
 | .skip,Q,s=>Q .normal s
 | .reg cs ks,Q,s=>wpO P cs (aPt ks Q) s
 | .regD cs pl ks,Q,s=>wpD P pl s (aPt ks Q) cs 0 [] s
 | .seq a b,Q,s=>Z4 P a (aQl (Z4 P b Q) Q) s
 | .cond x a b,Q,s=>match s.ev x with
   | .v (.bool t)=>(t=true->Z4 P a Q s)/\(t=false->Z4 P b Q s)
   | _=>False
 | .block id b,Q,s=>Z4 P b (acL id Q) s
 | .loop b,Q,s=>aJf (Z4 P b) Q s
 | .exit id,Q,s=>Q (.exit id) s
 | .ret,Q,s=>Q .ret s
 | .wk b,Q,s=>∃ s',Wk s s'/\Z4 P b Q s'
 | .bad,_,_=>False
theorem Hs {P:Program} {K K':AS->Prop} (h:∀ s,K s->K' s):∀ (cs:List CO) (s:AS),wpO P cs K s->wpO P cs K' s
 | [],s,hs=>h s hs
 | c::cs,s,hs=>by
   have step:∀ s,rg P c (wpO P cs K) s->rg P c (wpO P cs K') s:=by
    intro s hs
    have call:∀ f vs d,vw P f vs s d (wpO P cs K)->vw P f vs s d (wpO P cs K'):=by
     rintro f vs d (⟨res,h1,h2,h3,h4,h5⟩ | ⟨M,H0,res,H1,h1,h2,h3,h4,h5,h6,h7,h8,h9⟩ | ⟨M,H0,R,h1,h2,h3,h4,h5⟩ | ⟨M,Z,H0,res,H1,h1,h2,h3,h4,h5,h6,h7,h8,h9⟩ | ⟨M,Z,H0,R,h1,h2,h3,h4,h5,h6⟩ | ⟨M,Z,H0,R,h1,h2,h3,h4,h5,h6⟩)
     ·exact .inl ⟨res,h1,h2,h3,h4,Hs h cs _ h5⟩
     ·exact .inr (.inl ⟨M,H0,res,H1,h1,h2,h3,h4,h5,h6,h7,h8,Hs h cs _ h9⟩)
     ·exact .inr (.inr (.inl ⟨M,H0,R,h1,h2,h3,h4,fun res l hR hl=>by
       obtain ⟨g1,g2,g3,g4,g5⟩:=h5 res l hR hl;exact⟨g1,g2,g3,g4,Hs h cs _ g5⟩⟩))
     ·exact .inr (.inr (.inr (.inl ⟨M,Z,H0,res,H1,h1,h2,h3,h4,h5,h6,h7,h8,Hs h cs _ h9⟩)))
     ·exact .inr (.inr (.inr (.inr (.inl ⟨M,Z,H0,R,h1,h2,h3,h4,h5,fun res l hR hl=>by
       obtain ⟨g1,g2,g3,g4⟩:=h6 res l hR hl;exact⟨g1,g2,g3,Hs h cs _ g4⟩⟩))))
     ·exact .inr (.inr (.inr (.inr (.inr ⟨M,Z,H0,R,h1,h2,h3,h4,h5,fun res l nw hR hl=>by
       obtain ⟨g1,g2,g3,g4,g5⟩:=h6 res l nw hR hl;exact⟨g1,g2,g3,g4,Hs h cs _ g5⟩⟩))))
    unfold rg at hs ⊢;split at hs
    ·exact call _ _ _ hs
    ·split at hs
     ·exact call _ _ _ hs
     ·exact hs.elim
    ·split at hs
     ·exact⟨hs.1,hs.2.1,Hs h cs _ hs.2.2⟩
     ·exact hs.elim
   unfold wpO at hs ⊢;split at hs
   ·exact step _ hs
   ·split at hs
    ·exact⟨fun e=>step _ (hs.1 e),fun e=>Hs h cs _ (hs.2 e)⟩
    ·exact Hs h cs _ hs
    ·exact hs.elim
theorem amN {P:Program} {pl:List (List Nat)} {s0:AS} {K K':AS->Prop} (h:∀ s,K s->K' s):∀ (cs:List CO) (i:Nat) (acc:List It) (s:AS),wpD P pl s0 K cs i acc s->wpD P pl s0 K' cs i acc s
 | [],i,acc,s,hs=>⟨hs.1,hs.2.1,h s hs.2.2⟩
 | c::cs,i,acc,s,hs=>by
   have step:∀ {s:AS} {n1 n2:It->AS->Prop},(∀ it s,n1 it s->n2 it s)->ru P c i s n1->ru P c i s n2:=by
    intro s n1 n2 hn hs
    have call:∀ f vs d,Dw P f vs s d c i n1->Dw P f vs s d c i n2:=by
     rintro f vs d (⟨res,h1,h2,h3,h4,h5,h6⟩ | ⟨M,Z,H0,l,res,h1,h2,h3,h4,h5,h6,h7,h8,h9,h10⟩ | ⟨M,Z,H0,l,res,h1,h2,h3,h4,h5,h6,h7,h8,h9,h10,h11⟩)
     ·exact .inl ⟨res,h1,h2,h3,h4,h5,hn _ _ h6⟩
     ·exact .inr <| .inl ⟨M,Z,H0,l,res,h1,h2,h3,h4,h5,h6,h7,h8,h9,hn _ _ h10⟩
     ·exact .inr <| .inr ⟨M,Z,H0,l,res,h1,h2,h3,h4,h5,h6,h7,h8,h9,h10,hn _ _ h11⟩
    unfold ru at hs ⊢;split at hs
    ·obtain ⟨d,hd,hs⟩:=hs;exact⟨d,hd,call _ _ _ hs⟩
    ·obtain ⟨d,hd,hs⟩:=hs;refine⟨d,hd,?_⟩;split at hs
     ·exact call _ _ _ hs
     ·exact hs.elim
    ·split at hs
     ·exact⟨hs.1,hs.2.1,hn _ _ hs.2.2⟩
     ·exact hs.elim
   unfold wpD at hs ⊢;split at hs
   ·exact step (fun it s'=>amN h cs _ _ s') hs
   ·split at hs
    ·exact⟨fun e=>step (fun it s'=>amN h cs _ _ s') (hs.1 e),fun e=>amN h cs _ _ _ (hs.2 e)⟩
    ·exact amN h cs _ _ _ hs
    ·exact hs.elim
theorem LV {P:Program}:∀ (c:C) {Q Q':Exit->AS->Prop} (s:AS),(∀ e s,Q e s->Q' e s)->Z4 P c Q s->Z4 P c Q' s
 | .skip,Q,Q',s,h,hs=>h _ _ hs
 | .reg cs ks,Q,Q',s,h,hs=>Hs (fun s hs=>h _ _ hs) cs s hs
 | .regD cs pl ks,Q,Q',s,h,hs=>amN (fun s hs=>h _ _ hs) cs 0 [] s hs
 | .seq a b,Q,Q',s,h,hs=>LV a s (fun e s hs=>by
   cases e with
   | normal=>exact LV b s h hs
   | _=>exact h _ _ hs) hs
 | .cond x a b,Q,Q',s,h,hs=>by
   unfold Z4 at hs ⊢;split at hs
   ·exact⟨fun e=>LV a s h (hs.1 e),fun e=>LV b s h (hs.2 e)⟩
   ·exact hs.elim
 | .block id b,Q,Q',s,h,hs=>LV b s (fun e s hs=>by
   cases e with
   | exit i =>
     simp only[acL] at hs ⊢;split at hs
     ·rename_i e;rw[if_pos e];exact h _ _ hs
     ·rename_i e;rw[if_neg e];exact h _ _ hs
   | _=>exact h _ _ hs) hs
 | .loop b,Q,Q',s,h,hs=>by
   obtain ⟨I,n,s0,h1,h2,h3⟩:=hs
   exact⟨I,n,s0,h1,h2,fun n s hi=>LV b s (fun e s hs=>by
    cases e with
    | normal=>exact hs
    | _=>exact h _ _ hs) (h3 n s hi)⟩
 | .exit id,Q,Q',s,h,hs=>h _ _ hs
 | .ret,Q,Q',s,h,hs=>h _ _ hs
 | .wk b,Q,Q',s,h,⟨s',h1,h2⟩=>⟨s',h1,LV b s' h h2⟩
 | .bad,Q,Q',s,h,hs=>hs.elim
section
variable {P : Program} {X : Ctx}
def aUQ (X:Ctx) (Q:Exit->AS->Prop):Exit->Act->World->Prop:=fun e a w=>∃ s,Rel X s.den a w/\X.pin=s.pin/\Q e s
theorem aJi {ks:List Nat} {f:List Nat->C} {Q:Exit->AS->Prop} {s:AS} (h:Z4 P (aMr ks f) Q s):∃ s' ks',Wk s s'/\Z4 P (f ks') Q s':=by
 unfold aMr at h;split at h
 ·exact⟨s,_,Wk.refl s,h⟩
 ·split at h
  ·obtain ⟨s',h1,h2⟩:=h;exact⟨s',_,h1,h2⟩
  ·exact⟨s,_,Wk.refl s,h⟩
theorem Z3 {ks:Nat->List Nat}:∀ (code:Code) {Q:Exit->AS->Prop} (s:AS) (a:Act) (w:World),Rel X s.den a w->X.pin=s.pin->Z4 P (Sp P X.n ks code) Q s->code.wp P (aUQ X Q) a w
 | .skip,Q,s,a,w,h,hpin,hs=>wp_skip ⟨s,h,hpin,hs⟩
 | .region id ops dr,Q,s,a,w,h,hpin,hs=>by
   simp only[Sp,aSe] at hs;cases dr with
   | true =>
     simp only[if_true] at hs;split at hs
     ·rename_i hcond;split at hs
      ·rename_i cs hcs;obtain ⟨s1,ks',hwk,hs⟩:=aJi hs;have h:=hwk.2 X a w hpin h;have hpin:X.pin=s1.pin:=by rw[hpin,hwk.1]
       exact aTY hcond.1 hcond.2 hcs h hpin hs fun s' a' w' hk hp hr=>⟨s'.keep ks',(Wk.keep s' ks').2 X a' w' (by rw[hpin,hp]) hr,by rw[hpin,<- hp];rfl,hk⟩
      ·exact hs.elim
     ·exact hs.elim
   | false =>
     simp only[Bool.false_eq_true,if_false] at hs;split at hs
     ·rename_i cs hcs;obtain ⟨s1,ks',hwk,hs⟩:=aJi hs;have h:=hwk.2 X a w hpin h;have hpin:X.pin=s1.pin:=by rw[hpin,hwk.1]
      exact wp_region_list (aHC _ cs s1 a w hcs h hpin hs fun s' a' w' hk hp hr=>⟨s'.keep ks',(Wk.keep s' ks').2 X a' w' (by rw[hpin,hp]) hr,by rw[hpin,<- hp];rfl,hk⟩)
     ·exact hs.elim
 | .seq x y,Q,s,a,w,h,hpin,hs=>by
   simp only[Sp] at hs;refine wp_seq (wp_mono (Z3 x s a w h hpin hs) fun e a' w' hq=>?_);obtain ⟨s',hr,hp,hq⟩:=hq;cases e with
   | normal=>exact Z3 y s' a' w' hr hp hq
   | _=>exact⟨s',hr,hp,hq⟩
 | .cond x y z,Q,s,a,w,h,hpin,hs=>by
   simp only[Sp] at hs;split at hs
   ·rename_i cx hx;unfold Z4 at hs;split at hs
    ·rename_i t ht;obtain ⟨D,φ,F,hrel⟩:=h;have hcv:=ri hx hrel;rw[AS.ev_eq,ht] at hcv;refine wp_cond_split (De hcv) (fun e=>Z3 y s a w ⟨D,φ,F,hrel⟩ hpin (hs.1 e)) (fun e=>Z3 z s a w ⟨D,φ,F,hrel⟩ hpin (hs.2 e))
    ·exact hs.elim
   ·exact hs.elim
 | .block id b,Q,s,a,w,h,hpin,hs=>by
   simp only[Sp] at hs;refine wp_block (wp_mono (Z3 b s a w h hpin hs) fun e a' w' hq=>?_);obtain ⟨s',hr,hp,hq⟩:=hq;cases e with
   | exit i =>
     simp only[Exit.inBlock,acL] at hq ⊢;split at hq
     ·rename_i e;rw[if_pos e];exact⟨s',hr,hp,hq⟩
     ·rename_i e;rw[if_neg e];exact⟨s',hr,hp,hq⟩
   | _=>exact⟨s',hr,hp,hq⟩
 | .loop b,Q,s,a,w,h,hpin,hs=>by
   simp only[Sp] at hs;obtain ⟨I,n,s0,hw0,hi0,hround⟩:=hs;intro fb k cs
   have key:∀ n s0 a w,Rel X s0.den a w->X.pin=s0.pin->I n s0->∃ e a' w',aUQ X Q e a' w'/\Arrives P (lone (fb.at a (.code b::.inLoop b::k)) cs w) fb k cs e a' w':=by
    intro n
    induction n using Nat.strongRecOn with
    | _ n ih =>
      intro s0 a w hr hp hi;obtain ⟨e,a1,w1,⟨s1,hr1,hp1,hq1⟩,harr⟩:=Z3 b s0 a w hr hp (hround n s0 hi) fb (.inLoop b::k) cs;cases e with
      | normal =>
        obtain ⟨m,s2,hlt,hwk,hi2⟩:=hq1;obtain ⟨e2,a2,w2,hq2,harr2⟩:=ih m hlt s2 a1 w1 (hwk.2 X a1 w1 hp1 hr1) (by rw[hp1,hwk.1]) hi2;exact⟨e2,a2,w2,hq2,.of_steps (Steps.trans harr (.one step_inLoop)) harr2⟩
      | exit id=>exact⟨_,a1,w1,⟨s1,hr1,hp1,hq1⟩,.pass (x:=.inLoop b) rfl (fun _ _=>.inl (by simp)) harr⟩
      | goto l=>exact⟨_,a1,w1,⟨s1,hr1,hp1,hq1⟩,.pass (x:=.inLoop b) rfl (fun _ _=>.inl (by simp)) harr⟩
      | ret=>exact⟨_,a1,w1,⟨s1,hr1,hp1,hq1⟩,.pass (x:=.inLoop b) rfl (fun _ _=>.inl (by simp)) harr⟩
      | panic ch=>exact⟨_,a1,w1,⟨s1,hr1,hp1,hq1⟩,.pass (x:=.inLoop b) rfl (fun _ _=>.inl (by simp)) harr⟩
      | outgrown=>exact⟨_,a1,w1,⟨s1,hr1,hp1,hq1⟩,.pass (x:=.inLoop b) rfl (fun _ _=>.inl (by simp)) harr⟩
   obtain ⟨e,a',w',hq,harr⟩:=key n s0 a w (hw0.2 X a w hpin h) (by rw[hpin,hw0.1]) hi0;exact⟨e,a',w',hq,.of_steps (.one step_loop) harr⟩
 | .exit id,Q,s,a,w,h,hpin,hs=>wp_exit ⟨s,h,hpin,hs⟩
 | .ret,Q,s,a,w,h,hpin,hs=>wp_ret ⟨s,h,hpin,hs⟩
 | .rangeFunc _ _ _ _,Q,s,a,w,h,hpin,hs=>by simp only[Sp] at hs;exact hs.elim
 | .scope _,Q,s,a,w,h,hpin,hs=>by simp only[Sp] at hs;exact hs.elim
 | .label _,Q,s,a,w,h,hpin,hs=>by simp only[Sp] at hs;exact hs.elim
 | .goto _,Q,s,a,w,h,hpin,hs=>by simp only[Sp] at hs;exact hs.elim
 | .refuse _,Q,s,a,w,h,hpin,hs=>by simp only[Sp] at hs;exact hs.elim
end
inductive RV where
 | tmp (t:Nat)
 | cell (t:Nat) (agg:Bool) (n:Nat)
 deriving Inhabited
def cRV (P:Program):List ResultVar->Option (List RV)
 | []=>some []
 | .tmp t::rs=>(cRV P rs).map (.tmp t::·)
 | .cell t ty::rs=>match aD0 P ty,cRV P rs with
   | some (b,n),some rs=>some (.cell t b n::rs)
   | _,_=>none
def Fh (s:AS):List RV->Option (List V)
 | []=>some []
 | .tmp t::rs=>(Fh s rs).map (lk s.sl t::·)
 | .cell t b n::rs=>match vld b n (fy s.hp) (lk s.sl t),Fh s rs with
   | some (_,δ),some vs=>some (δ.v::vs)
   | _,_=>none
def u6:List V->V
 | [v]=>v
 | vs=>.tup vs
def Ret (rs:List RV) (res:V) (e:Exit) (s:AS):Prop :=
 (match e with | .normal=>True | .ret=>True | _=>False)/\∃ vs p ids,Fh s rs=some vs/\LX (fy s.hp) (u6 vs)=some (p,res,ids)/\p/\ids.Nodup
section
variable {P : Program} {X : Ctx}
def aJJ (tmps:Array Value):ResultVar->Sem Value
 | .tmp t=>pure (tmps.getD t undef)
 | .cell ad t=>do loadVar t (<- asAddr (tmps.getD ad undef))
omit [GI] in
theorem ad4 (fn:Func) (tmps:Array Value):results fn tmps=(do let vs <- fn.results.mapM (aJJ tmps);pure (if h:vs.size=1 then vs[0] else .tuple vs)):=by
 unfold results;congr 1
theorem ana {s:AS} {a:Act} {w:World} {D:Nat->Prop} {φ:Nat->Option Pl} {F:Nat->List Nat} (h:RelD X s.den a w D φ F []):∀ (rvs:List ResultVar) (rs:List RV) (vs:List V),cRV P rvs=some rs->Fh s rs=some vs ->
  ∃ xs,(rvs.mapM (aJJ a.tmps)).run P w=.ok xs w/\iU w D vs φ xs []
 | [],rs,vs,hr,hv=>by
   simp only[cRV,Option.some.injEq] at hr;subst hr;simp only[Fh,Option.some.injEq] at hv;subst hv;exact⟨[],by simp,Je⟩
 | .tmp t::rvs,rs,vs,hr,hv=>by
   simp only[cRV,Option.map_eq_some_iff] at hr;obtain ⟨rs',hr',rfl⟩:=hr;simp only[Fh,Option.map_eq_some_iff] at hv;obtain ⟨vs',hv',rfl⟩:=hv;obtain ⟨xs,h1,h2⟩:=ana h rvs rs' vs' hr' hv';refine⟨a.tmps.getD t undef::xs,?_,?_⟩
   ·simp only[List.mapM_cons,aJJ,Sem.run_bind,Sem.run_pure,Result.andThen_ok,h1]
   ·simp only[iU];exact⟨_,xs,[],[],rfl,rfl,h.slots t,h2⟩
 | .cell t ty::rvs,rs,vs,hr,hv=>by
   simp only[cRV] at hr;split at hr<;>simp only[Option.some.injEq,reduceCtorEq] at hr;rename_i b n rs' ht hr';subst hr;simp only[Fh] at hv;split at hv<;>simp only[Option.some.injEq,reduceCtorEq] at hv;rename_i p δ vs' hld hv';subst hv;obtain ⟨xs,h1,h2⟩:=ana h rvs rs' vs' hr' hv';obtain ⟨ad,y,g1,g2,g3,g4⟩:=aMy (P:=P) h ht (h.slots t) hld;refine⟨y::xs,?_,?_⟩
   ·have ha:(asAddr (a.tmps.getD t undef)).run P w=.ok ad w:=by rw[g1];rfl
    have hb:(aJJ a.tmps (.cell t ty)).run P w=.ok y w:=by simp only[aJJ,Sem.run_bind,ha,Result.andThen_ok,g2]
    simp only[List.mapM_cons,Sem.run_bind,hb,Sem.run_pure,Result.andThen_ok,h1]
   ·simp only[iU];exact⟨_,xs,[],[],rfl,rfl,g4,h2⟩
def AS.init (args:List V):AS:={ sl:=(List.range args.length).zip args,hp:=[],pin:=[] }
omit [GI] in
theorem aPE:∀ (args:List V) (k t:Nat),lk ((List.range' k args.length).zip args) t=if k<=t then (args[t - k]?).getD .undef else .undef
 | [],k,t=>by simp[lk]
 | v::vs,k,t=>by
   simp only[List.length_cons,List.range'_succ,List.zip_cons_cons,lk];rw[aPE vs (k+1) t];by_cases e:t=k
   ·subst e;simp
   ·rw[if_neg e];by_cases hle:k<=t
    ·rw[if_pos (by omega),if_pos hle];obtain ⟨m,rfl⟩:∃ m,t=k+(m+1):=⟨t - k - 1,by omega⟩;rw[show k+(m+1) - k=m+1 from by omega,show k+(m+1) - (k+1)=m from by omega];simp
    ·rw[if_neg (by omega),if_neg hle]
omit [GI] in
theorem AS.lk_init (args:List V) (t:Nat):lk (AS.init args).sl t=(args[t]?).getD .undef:=by
 simp only[AS.init,List.range_eq_range'];rw[aPE];simp
mutual
def leV:V->V->Prop
 | .v x,.own _ es=>x=.slice none 0 0/\es=[]
 | .v x,.ro _ es=>x=.slice none 0 0/\es=[]
 | .tup as_,.tup bs=>ail as_ bs
 | .agg as_,.agg bs=>ail as_ bs
 | .ro _ _,.undef=>True
 | a,b=>a=b
def ail:List V->List V->Prop
 | [],[]=>True
 | a::as_,b::bs=>leV a b/\ail as_ bs
 | _,_=>False
end
omit [GI] in
mutual
theorem aPv {w:World} {D:Nat->Prop} {φ:Nat->Option Pl}:∀ (a b:V) (x:Value) (f:List Nat),leV a b->CV w D a φ x f->CV w D b φ x f
 | a,b,x,f,h,hx=>by
   unfold leV at h;split at h
   ·simp only[CV] at hx ⊢;exact .inl ⟨h.2,hx.1.trans h.1,hx.2.2⟩
   ·simp only[CV] at hx ⊢;exact⟨hx.2.2,.inl ⟨h.2,none,0,hx.1.trans h.1,Nat.zero_le _⟩⟩
   ·simp only[CV] at hx ⊢;obtain ⟨xs,rfl,hx⟩:=hx;exact⟨xs,rfl,aBF _ _ _ _ h hx⟩
   ·simp only[CV] at hx ⊢;obtain ⟨xs,rfl,hx⟩:=hx;exact⟨xs,rfl,aBF _ _ _ _ h hx⟩
   ·simp only[CV] at hx ⊢;exact hx.1
   ·rw[<- h];exact hx
theorem aBF {w:World} {D:Nat->Prop} {φ:Nat->Option Pl}:∀ (as_ bs:List V) (xs:List Value) (f:List Nat),ail as_ bs->iU w D as_ φ xs f->iU w D bs φ xs f
 | [],[],xs,f,_,hx=>hx
 | a::as_,b::bs,xs,f,h,hx=>by
   simp only[ail] at h;simp only[iU] at hx ⊢;obtain ⟨x,xs',f1,f2,rfl,rfl,h1,h2⟩:=hx;exact⟨x,xs',f1,f2,rfl,rfl,aPv a b x f1 h.1 h1,aBF as_ bs xs' f2 h.2 h2⟩
 | [],_::_,_,_,h,_=>by simp[ail] at h
 | _::_,[],_,_,h,_=>by simp[ail] at h
end
def aHK (rs:List RV) (res:V) (e:Exit) (s:AS):Prop :=
 (match e with | .normal=>True | .ret=>True | _=>False)/\∃ vs p r ids,Fh s rs=some vs/\LX (fy s.hp) (u6 vs)=some (p,r,ids)/\p/\ids.Nodup/\leV r res
theorem aa.introL {f:Nat} {fn:Func} {code:Code} {c:C} {rs:List RV} {ks:Nat->List Nat} {args:List V} {res:V} (hf:P.funcs[f]?=some fn) (hb:fn.body=some code) (hname:(fn.name != "runtime.NumGoroutine")=true)
  (hc:Sp P fn.ntmps ks code=c) (hr:cRV P fn.results.toList=some rs) (hlen:args.length<=fn.ntmps) (h:Z4 P c (aHK rs res) (AS.init args)):aa P f args res:=by
 refine⟨by simp[pz,hf,hb,hname],fun w D xs hD hgi hxs=>?_⟩;have hl:=lC hxs
 let X:Ctx:={ w0:=w,W:=[],D0:=D,φ0:=fun _=>none,pin:=[],n:=fn.ntmps }
 have hrel:RelD X (AS.init args).den { tmps:=xs.toArray++Array.replicate (fn.ntmps - xs.toArray.size) undef,defers:=[] } w D (fun _=>none) (fun _=>[]) []:=by
  refine⟨rfl,rfl,rfl,Nat.le_refl _,fun _ _ _=>rfl,fun _ h=>h,fun _ h=>.inl h,hD,rfl,?_,fun t=>?_,fun id blk hb=>?_,fun _ _=>rfl,fun _=>List.nodup_nil,fun _ _ _ _ h=>absurd h List.not_mem_nil,fun _ _ h=>absurd h List.not_mem_nil,fun _ h=>absurd h List.not_mem_nil,List.nodup_nil,fun _ _ h=>absurd h List.not_mem_nil,fun _ h=>absurd h List.not_mem_nil,hgi⟩
  ·show (xs.toArray++Array.replicate (fn.ntmps - xs.toArray.size) undef).size=fn.ntmps;simp;omega
  ·show CV w D (lk (AS.init args).sl t) _ _ [];rw[AS.lk_init];cases ht:args[t]? with
   | none=>simp[CV]
   | some v =>
     obtain ⟨x,f',g1,g2,g3⟩:=VH hxs ht;have:=xr g3;subst this;simp only[Option.getD_some];have hlt:t < xs.length:=(List.getElem?_eq_some_iff.1 g1).1
     have:(xs.toArray++Array.replicate (fn.ntmps - xs.toArray.size) undef).getD t undef=x:=by
      rw[Array.getD_eq_getD_getElem?,Array.getElem?_append_left (by simpa using hlt)];simp[g1]
     rw[this];exact g2
  ·simp[AS.init,AS.den,fy] at hb
 refine calls_of_wp hf hb ?_;refine wp_mono (Z3 (X:=X) (ks:=ks) code (AS.init args) _ w ⟨D,_,_,hrel⟩ rfl (by rw[hc];exact h)) fun e a w' hq=>?_;obtain ⟨s',⟨D',φ',F',hrel'⟩,_,hexit,vs,p,r,ids,h1,h2,h3,h4,hle⟩:=hq;obtain ⟨ys,hrun,hcv⟩:=ana (P:=P) hrel' fn.results.toList rs vs hr h1
 have hres:(results fn a.tmps).run P w'=.ok (if h:ys.toArray.size=1 then ys.toArray[0] else .tuple ys.toArray) w':=by
  rw[ad4,Array.mapM_eq_mapM_toList];simp only[Sem.run_bind,Sem.run_map,hrun,Result.andThen_ok,Sem.run_pure]
 have hcv1:CV w' D' (u6 vs) φ' (if h:ys.toArray.size=1 then ys.toArray[0] else .tuple ys.toArray) []:=by
  have hl':=lC hcv
  match vs,ys,hcv,hl' with
  | [v],[y],hcv,_ =>
    simp only[iU] at hcv;obtain ⟨x,xs',f1,f2,e,hf,g1,_⟩:=hcv;have hf:=List.append_eq_nil_iff.1 hf.symm;obtain ⟨rfl,rfl⟩:=hf;cases e;simpa [u6] using g1
  | [],[],hcv,_=>simp only[u6,CV];exact⟨#[],by simp,Je⟩
  | v1::v2::vs,y1::y2::ys,hcv,_ =>
    simp only[u6,CV];exact⟨(y1::y2::ys).toArray,by simp,by simpa using hcv⟩
 have hgive:=aPv _ _ _ _ hle (aBE (F:=F') hrel'.blks (u6 vs) _ p r ids h2 h3 hcv1)
 have done:a.defers=[]/\∃ v,(results fn a.tmps).run P w'=.ok v w'/\∃ y D'' fp,Ending.returned v=.returned y/\Grow w D [] w' D''/\CV w' D'' res (fun _=>none) y fp/\fp.Nodup/\∀ b,b ∈ fp->w.heap.size<=b/\b < w'.heap.size/\¬D'' b:=by
  refine⟨hrel'.defers,_,hres,_,D',_,rfl,⟨hrel'.os,hrel'.tape,hrel'.output,hrel'.size,fun b hb _=>hrel'.old b hb (by simp[X]),hrel'.Dup,hrel'.Ddn,hrel'.Dlt⟩,hgive,mg hrel' ids h4,fun b hb=>?_⟩;obtain ⟨i,_,hi⟩:=List.mem_flatMap.1 hb;have:=hrel'.notD i b hi;exact⟨this.2.2.resolve_right (by simp[X]),this.2.1,this.1⟩
 cases e with
 | normal=>exact done
 | ret=>exact done
 | _=>exact hexit.elim
omit [GI] in
theorem aPw (a:V):leV a a:=by
 induction a using V.rec (motive_2:=fun l=>ail l l) with
 | undef | v _ | ref _ _ _ | sl _ _ _ | rp _ _ _ _ | ro _ _ | own _ _ | clo _ _=>simp[leV]
 | agg _ h=>simpa [leV] using h
 | tup _ h=>simpa [leV] using h
 | nil=>simp[ail]
 | cons a l h1 h2=>exact⟨h1,h2⟩
theorem aa.intro {f:Nat} {fn:Func} {code:Code} {c:C} {rs:List RV} {ks:Nat->List Nat} {args:List V} {res:V} (hf:P.funcs[f]?=some fn) (hb:fn.body=some code) (hname:(fn.name != "runtime.NumGoroutine")=true)
  (hc:Sp P fn.ntmps ks code=c) (hr:cRV P fn.results.toList=some rs) (hlen:args.length<=fn.ntmps) (h:Z4 P c (Ret rs res) (AS.init args)):aa P f args res :=
 aa.introL hf hb hname hc hr hlen (LV c _ (fun e s ⟨h0,vs,p,ids,h1,h2,h3,h4⟩=>⟨h0,vs,p,res,ids,h1,h2,h3,h4,aPw res⟩) h)
def hpM:Nat->List Blk->List (Nat×Blk)
 | _,[]=>[]
 | k,b::l=>(mG k,b)::hpM (k+1) l
def AS.minit (args:List V) (H0:List Blk) (H1:List (Option Blk)):AS:={ sl:=(List.range args.length).zip args,hp:=hpM 0 H0,pin:=(pR H1 0).map mG }
omit [GI] in
theorem aBG:∀ (l:List Blk) (k id:Nat) (blk:Blk),fy (hpM k l) id=some blk->∃ j,id=mG (k+j)/\l[j]?=some blk
 | [],k,id,blk,h=>by simp[hpM,fy] at h
 | b::l,k,id,blk,h=>by
   simp only[hpM,fy] at h;split at h
   ·rename_i e;simp only[Option.some.injEq] at h;subst h;exact⟨0,e,rfl⟩
   ·obtain ⟨j,h1,h2⟩:=aBG l (k+1) id blk h;exact⟨j+1,by rw[h1];congr 1;omega,by simpa using h2⟩
omit [GI] in
theorem Sw:∀ (l:List Blk) (k id:Nat),fy (hpM k l) id=none->∀ j,j < l.length->id≠mG (k+j)
 | [],k,id,h,j,hj=>by simp at hj
 | b::l,k,id,h,j,hj=>by
   simp only[hpM,fy] at h;split at h
   ·cases h
   ·rename_i e;cases j with
    | zero=>exact e
    | succ j =>
      have:=Sw l (k+1) id h j (by simpa using hj);rw[show k+(j+1)=k+1+j from by omega];exact this
def aec (look:Nat->Option Blk):List (Option Blk)->Nat->Prop
 | [],_=>True
 | some b::l,k=>look (mG k)=some b/\bN b.es=true/\aec look l (k+1)
 | none::l,k=>aec look l (k+1)
omit [GI] in
theorem amx {look:Nat->Option Blk}:∀ (l:List (Option Blk)) (k j:Nat) (b:Blk),aec look l k->l[j]?=some (some b)->look (mG (k+j))=some b/\bN b.es=true
 | [],k,j,b,_,h=>by simp at h
 | o::l,k,0,b,h,hj=>by
   simp only[List.getElem?_cons_zero,Option.some.injEq] at hj;subst hj;exact⟨h.1,h.2.1⟩
 | some c::l,k,j+1,b,h,hj=>by
   have:=amx l (k+1) j b h.2.2 (by simpa using hj);rw[show k+(j+1)=k+1+j from by omega];exact this
 | none::l,k,j+1,b,h,hj=>by
   have:=amx l (k+1) j b h (by simpa using hj);rw[show k+(j+1)=k+1+j from by omega];exact this
def aHI (rs:List RV) (res:V) (H1:List (Option Blk)) (e:Exit) (s:AS):Prop :=
 (match e with | .normal=>True | .ret=>True | _=>False)/\∃ vs p ids,Fh s rs=some vs/\LX (fy s.hp) (u6 vs)=some (p,res,ids)/\p/\(ids++(pR H1 0).map mG).Nodup/\aec (fy s.hp) H1 0
omit [GI] in
theorem acX {F0:Nat->List Nat}:∀ (l:List Nat),l.Nodup->(l.flatMap F0).Nodup->(∀ k,k ∈ l->(F0 k).Nodup)/\∀ k j,k ∈ l->j ∈ l->k≠j->∀ b,b ∈ F0 k->b ∉ F0 j
 | [],_,_=>⟨fun _ hk=>absurd hk List.not_mem_nil,fun _ _ hk=>absurd hk List.not_mem_nil⟩
 | m::l,hnd,hfl=>by
   rw[List.nodup_cons] at hnd;rw[List.flatMap_cons,List.nodup_append] at hfl;obtain ⟨g1,g2⟩:=acX l hnd.2 hfl.2.1;refine⟨fun k hk=>?_,fun k j hk hj hne b hb hb'=>?_⟩
   ·rcases List.mem_cons.1 hk with rfl | hk
    ·exact hfl.1
    ·exact g1 k hk
   ·rcases List.mem_cons.1 hk with ek | hk1
    ·rcases List.mem_cons.1 hj with ej | hj1
     ·exact hne (ek.trans ej.symm)
     ·exact hfl.2.2 b (ek▸hb) b (List.mem_flatMap.2 ⟨j,hj1,hb'⟩) rfl
    ·rcases List.mem_cons.1 hj with ej | hj1
     ·exact hfl.2.2 b (ej▸hb') b (List.mem_flatMap.2 ⟨k,hk1,hb⟩) rfl
     ·exact g2 k j hk1 hj1 hne b hb hb'
theorem ac.intro {f:Nat} {fn:Func} {code:Code} {c:C} {rs:List RV} {ks:Nat->List Nat} {args:List V} {res:V} {H0:List Blk} {H1:List (Option Blk)} (hf:P.funcs[f]?=some fn) (hb:fn.body=some code) (hname:(fn.name != "runtime.NumGoroutine")=true)
  (hc:Sp P fn.ntmps ks code=c) (hr:cRV P fn.results.toList=some rs) (hlen:args.length<=fn.ntmps) (hl1:H1.length=H0.length) (hn0:∀ blk ∈ H0,bN blk.es=true) (h:Z4 P c (aHI rs res H1) (AS.minit args H0 H1)):ac P f H0 args res H1:=by
 refine⟨by simp[pz,hf,hb,hname],hl1,fun w D xs p0 F0 hD hgi hblk hnd hnD hxs=>?_⟩;have hl:=lC hxs
 let X:Ctx:={ w0:=w,W:=(List.range H0.length).flatMap F0,D0:=D,φ0:=plM H0.length p0,pin:=(pR H1 0).map mG,n:=fn.ntmps }
 have inW:∀ id b,b ∈ flM H0.length F0 id->b ∈ (List.range H0.length).flatMap F0:=fun id b hb=>by
  unfold flM at hb;split at hb
  ·exact List.mem_flatMap.2 ⟨_,List.mem_range.2 (by omega),hb⟩
  ·cases hb
 obtain ⟨fp1,fp2⟩:=acX (List.range H0.length) List.nodup_range hnd
 have hrel:RelD X (AS.minit args H0 H1).den { tmps:=xs.toArray++Array.replicate (fn.ntmps - xs.toArray.size) undef,defers:=[] } w D (plM H0.length p0) (flM H0.length F0) []:=by
  refine⟨rfl,rfl,rfl,Nat.le_refl _,fun _ _ _=>rfl,fun _ h=>h,fun _ h=>.inl h,hD,rfl,?_,fun t=>?_,fun id blk hbl=>?_,fun id hid=>?_,fun id=>?_,fun i j hij b hbi hbj=>?_,fun id b hbm=>?_,fun _ _=>rfl,List.nodup_nil,fun _ _ _ h=>absurd h List.not_mem_nil,fun _ h=>absurd h List.not_mem_nil,hgi⟩
  ·show (xs.toArray++Array.replicate (fn.ntmps - xs.toArray.size) undef).size=fn.ntmps;simp;omega
  ·show CV w D (lk (AS.init args).sl t) _ _ [];rw[AS.lk_init];cases ht:args[t]? with
   | none=>simp[CV]
   | some v =>
     obtain ⟨x,f',g1,g2,g3⟩:=VH hxs ht;have:=xr g3;subst this;simp only[Option.getD_some];have hlt:t < xs.length:=(List.getElem?_eq_some_iff.1 g1).1
     have:(xs.toArray++Array.replicate (fn.ntmps - xs.toArray.size) undef).getD t undef=x:=by
      rw[Array.getD_eq_getD_getElem?,Array.getElem?_append_left (by simpa using hlt)];simp[g1]
     rw[this];exact g2
  ·obtain ⟨j,rfl,hj⟩:=aBG H0 0 id blk hbl;rw[Nat.zero_add];have hlt:=(List.getElem?_eq_some_iff.1 hj).1;rw[aGf F0 hlt];exact Ec (φ:=fun _=>p0 j) (id:=0) (hn0 blk (List.mem_iff_getElem?.2 ⟨j,hj⟩)) (Kh p0 hlt) (hblk j blk hj)
  ·unfold flM;split
   ·rename_i hin;have:=Sw H0 0 id hid (id - 1000000) (by omega);exact absurd (by unfold mG;omega) this
   ·rfl
  ·unfold flM;split
   ·exact fp1 _ (List.mem_range.2 (by omega))
   ·exact List.nodup_nil
  ·unfold flM at hbi hbj;split at hbi
   ·split at hbj
    ·exact fp2 _ _ (List.mem_range.2 (by omega)) (List.mem_range.2 (by omega)) (by omega) b hbi hbj
    ·cases hbj
   ·cases hbi
  ·have:=hnD b (inW id b hbm);exact⟨this.1,this.2,.inr (inW id b hbm)⟩
 refine calls_of_wp hf hb ?_;refine wp_mono (Z3 (X:=X) (ks:=ks) code (AS.minit args H0 H1) _ w ⟨D,_,_,hrel⟩ rfl (by rw[hc];exact h)) fun e a w' hq=>?_;obtain ⟨s',⟨D',φ',F',hrel'⟩,_,hexit,vs,p,ids,h1,h2,h3,h4,h5⟩:=hq;obtain ⟨ys,hrun,hcv⟩:=ana (P:=P) hrel' fn.results.toList rs vs hr h1
 have hres:(results fn a.tmps).run P w'=.ok (if h:ys.toArray.size=1 then ys.toArray[0] else .tuple ys.toArray) w':=by
  rw[ad4,Array.mapM_eq_mapM_toList];simp only[Sem.run_bind,Sem.run_map,hrun,Result.andThen_ok,Sem.run_pure]
 have hcv1:CV w' D' (u6 vs) φ' (if h:ys.toArray.size=1 then ys.toArray[0] else .tuple ys.toArray) []:=by
  have hl':=lC hcv
  match vs,ys,hcv,hl' with
  | [v],[y],hcv,_ =>
    simp only[iU] at hcv;obtain ⟨x,xs',f1,f2,e,hf,g1,_⟩:=hcv;have hf:=List.append_eq_nil_iff.1 hf.symm;obtain ⟨rfl,rfl⟩:=hf;cases e;simpa [u6] using g1
  | [],[],hcv,_=>simp only[u6,CV];exact⟨#[],by simp,Je⟩
  | v1::v2::vs,y1::y2::ys,hcv,_ =>
    simp only[u6,CV];exact⟨(y1::y2::ys).toArray,by simp,by simpa using hcv⟩
 have hgive:=aBE (F:=F') hrel'.blks (u6 vs) _ p res ids h2 h3 hcv1;have hflat:(pR H1 0).flatMap (fun k=>F' (mG k))=((pR H1 0).map mG).flatMap F':=by rw[List.flatMap_map]
 have done:a.defers=[]/\∃ v,(results fn a.tmps).run P w'=.ok v w'/\∃ y D'' fp F1,Ending.returned v=.returned y/\Grow w D ((List.range H0.length).flatMap F0) w' D''/\CV w' D'' res (fun _=>none) y fp /\
   (∀ (k:Nat) (blk:Blk),H1[k]?=some (some blk)->p9 w' D'' (fun _=>p0 k) 0 blk (F1 k))/\(fp++(pR H1 0).flatMap F1).Nodup /\
   ∀ b,b ∈ fp++(pR H1 0).flatMap F1->(w.heap.size<=b\/b ∈ (List.range H0.length).flatMap F0)/\b < w'.heap.size/\¬D'' b:=by
  refine⟨hrel'.defers,_,hres,_,D',ids.flatMap F',fun k=>F' (mG k),rfl,⟨hrel'.os,hrel'.tape,hrel'.output,hrel'.size,fun b hb hW=>hrel'.old b hb hW,hrel'.Dup,hrel'.Ddn,hrel'.Dlt⟩,hgive,fun k blk hk=>?_,?_,fun b hb=>?_⟩
  ·obtain ⟨g1,g2⟩:=amx H1 0 k blk h5 hk;rw[Nat.zero_add] at g1;have hpin:mG k ∈ X.pin:=List.mem_map.2 ⟨k,(S5 H1 0 k).2 ⟨Nat.zero_le _,blk,by simpa using hk⟩,rfl⟩;have hlt:k < H0.length:=by rw[<- hl1];exact(List.getElem?_eq_some_iff.1 hk).1
   have hp:=hrel'.pins (mG k) hpin;exact Ec (φ:=φ') (id:=mG k) g2 (by rw[hp];exact(Kh p0 hlt).symm) (hrel'.blks (mG k) blk g1)
  ·rw[hflat,<- List.flatMap_append];exact mg hrel' _ h4
  ·rw[hflat,<- List.flatMap_append] at hb;obtain ⟨i,_,hi⟩:=List.mem_flatMap.1 hb;have:=hrel'.notD i b hi;exact⟨this.2.2,this.2.1,this.1⟩
 cases e with
 | normal=>exact done
 | ret=>exact done
 | _=>exact hexit.elim
def aeQ (look:Nat->Option Blk):Nat->Nat->Option (List Blk)
 | _,0=>some []
 | k,n+1=>match look (mG k),aeQ look (k+1) n with
   | some b,some l=>some (b::l)
   | _,_=>none
omit [GI] in
theorem ayq {look:Nat->Option Blk}:∀ {n k:Nat} {l:List Blk},aeQ look k n=some l->l.length=n/\∀ (j:Nat) (b:Blk),l[j]?=some b->look (mG (k+j))=some b
 | 0,k,l,h=>by simp only[aeQ,Option.some.injEq] at h;subst h;exact⟨rfl,by simp⟩
 | n+1,k,l,h=>by
   unfold aeQ at h;split at h
   ·rename_i b l' h1 h2;simp only[Option.some.injEq] at h;subst h;obtain ⟨g1,g2⟩:=ayq h2;refine⟨by simp[g1],fun j c hj=>?_⟩;cases j with
    | zero=>simp at hj;subst hj;exact h1
    | succ j =>
      have:=g2 j c (by simpa using hj);rw[show k+(j+1)=k+1+j from by omega];exact this
   ·cases h
def ay4 (rs:List RV) (R:V->List Blk->Prop) (N:Nat) (e:Exit) (s:AS):Prop :=
 (match e with | .normal=>True | .ret=>True | _=>False)/\∃ vs p res ids l,Fh s rs=some vs/\LX (fy s.hp) (u6 vs)=some (p,res,ids)/\p/\(ids++(List.range N).map mG).Nodup/\aeQ (fy s.hp) 0 N=some l/\(l.all fun b=>bN b.es)=true/\R res l
theorem Pn.intro {f:Nat} {fn:Func} {code:Code} {c:C} {rs:List RV} {ks:Nat->List Nat} {args:List V} {H0:List Blk} {R:V->List Blk->Prop} (hf:P.funcs[f]?=some fn) (hb:fn.body=some code) (hname:(fn.name != "runtime.NumGoroutine")=true)
  (hc:Sp P fn.ntmps ks code=c) (hr:cRV P fn.results.toList=some rs) (hlen:args.length<=fn.ntmps) (hn0:∀ blk ∈ H0,bN blk.es=true) (h:Z4 P c (ay4 rs R H0.length) (AS.minit args H0 (H0.map some))):Pn P f H0 args R:=by
 refine⟨by simp[pz,hf,hb,hname],fun w D xs p0 F0 hD hgi hblk hnd hnD hxs=>?_⟩;have hl:=lC hxs;have hst:pR (H0.map some) 0=List.range H0.length:=by rw[Vt,List.range_eq_range']
 let X:Ctx:={ w0:=w,W:=(List.range H0.length).flatMap F0,D0:=D,φ0:=plM H0.length p0,pin:=(pR (H0.map some) 0).map mG,n:=fn.ntmps }
 have inW:∀ id b,b ∈ flM H0.length F0 id->b ∈ (List.range H0.length).flatMap F0:=fun id b hb=>by
  unfold flM at hb;split at hb
  ·exact List.mem_flatMap.2 ⟨_,List.mem_range.2 (by omega),hb⟩
  ·cases hb
 obtain ⟨fp1,fp2⟩:=acX (List.range H0.length) List.nodup_range hnd
 have hrel:RelD X (AS.minit args H0 (H0.map some)).den { tmps:=xs.toArray++Array.replicate (fn.ntmps - xs.toArray.size) undef,defers:=[] } w D (plM H0.length p0) (flM H0.length F0) []:=by
  refine⟨rfl,rfl,rfl,Nat.le_refl _,fun _ _ _=>rfl,fun _ h=>h,fun _ h=>.inl h,hD,rfl,?_,fun t=>?_,fun id blk hbl=>?_,fun id hid=>?_,fun id=>?_,fun i j hij b hbi hbj=>?_,fun id b hbm=>?_,fun _ _=>rfl,List.nodup_nil,fun _ _ _ h=>absurd h List.not_mem_nil,fun _ h=>absurd h List.not_mem_nil,hgi⟩
  ·show (xs.toArray++Array.replicate (fn.ntmps - xs.toArray.size) undef).size=fn.ntmps;simp;omega
  ·show CV w D (lk (AS.init args).sl t) _ _ [];rw[AS.lk_init];cases ht:args[t]? with
   | none=>simp[CV]
   | some v =>
     obtain ⟨x,f',g1,g2,g3⟩:=VH hxs ht;have:=xr g3;subst this;simp only[Option.getD_some];have hlt:t < xs.length:=(List.getElem?_eq_some_iff.1 g1).1
     have:(xs.toArray++Array.replicate (fn.ntmps - xs.toArray.size) undef).getD t undef=x:=by
      rw[Array.getD_eq_getD_getElem?,Array.getElem?_append_left (by simpa using hlt)];simp[g1]
     rw[this];exact g2
  ·obtain ⟨j,rfl,hj⟩:=aBG H0 0 id blk hbl;rw[Nat.zero_add];have hlt:=(List.getElem?_eq_some_iff.1 hj).1;rw[aGf F0 hlt];exact Ec (φ:=fun _=>p0 j) (id:=0) (hn0 blk (List.mem_iff_getElem?.2 ⟨j,hj⟩)) (Kh p0 hlt) (hblk j blk hj)
  ·unfold flM;split
   ·rename_i hin;have:=Sw H0 0 id hid (id - 1000000) (by omega);exact absurd (by unfold mG;omega) this
   ·rfl
  ·unfold flM;split
   ·exact fp1 _ (List.mem_range.2 (by omega))
   ·exact List.nodup_nil
  ·unfold flM at hbi hbj;split at hbi
   ·split at hbj
    ·exact fp2 _ _ (List.mem_range.2 (by omega)) (List.mem_range.2 (by omega)) (by omega) b hbi hbj
    ·cases hbj
   ·cases hbi
  ·have:=hnD b (inW id b hbm);exact⟨this.1,this.2,.inr (inW id b hbm)⟩
 refine calls_of_wp hf hb ?_;refine wp_mono (Z3 (X:=X) (ks:=ks) code (AS.minit args H0 (H0.map some)) _ w ⟨D,_,_,hrel⟩ rfl (by rw[hc];exact h)) fun e a w' hq=>?_;obtain ⟨s',⟨D',φ',F',hrel'⟩,_,hexit,vs,p,res,ids,l,h1,h2,h3,h4,hlk,hni,hR⟩:=hq;obtain ⟨hll,hget⟩:=ayq hlk;obtain ⟨ys,hrun,hcv⟩:=ana (P:=P) hrel' fn.results.toList rs vs hr h1
 have hres:(results fn a.tmps).run P w'=.ok (if h:ys.toArray.size=1 then ys.toArray[0] else .tuple ys.toArray) w':=by
  rw[ad4,Array.mapM_eq_mapM_toList];simp only[Sem.run_bind,Sem.run_map,hrun,Result.andThen_ok,Sem.run_pure]
 have hcv1:CV w' D' (u6 vs) φ' (if h:ys.toArray.size=1 then ys.toArray[0] else .tuple ys.toArray) []:=by
  have hl':=lC hcv
  match vs,ys,hcv,hl' with
  | [v],[y],hcv,_ =>
    simp only[iU] at hcv;obtain ⟨x,xs',f1,f2,e,hf,g1,_⟩:=hcv;have hf:=List.append_eq_nil_iff.1 hf.symm;obtain ⟨rfl,rfl⟩:=hf;cases e;simpa [u6] using g1
  | [],[],hcv,_=>simp only[u6,CV];exact⟨#[],by simp,Je⟩
  | v1::v2::vs,y1::y2::ys,hcv,_ =>
    simp only[u6,CV];exact⟨(y1::y2::ys).toArray,by simp,by simpa using hcv⟩
 have hgive:=aBE (F:=F') hrel'.blks (u6 vs) _ p res ids h2 h3 hcv1;have hflat:(List.range H0.length).flatMap (fun k=>F' (mG k))=((List.range H0.length).map mG).flatMap F':=by rw[List.flatMap_map]
 have done:a.defers=[]/\∃ v,(results fn a.tmps).run P w'=.ok v w'/\∃ res l,R res l/\l.length=H0.length/\∃ y D'' fp F1,Ending.returned v=.returned y/\Grow w D ((List.range H0.length).flatMap F0) w' D''/\CV w' D'' res (fun _=>none) y fp /\
   (∀ (k:Nat) (blk:Blk),l[k]?=some blk->p9 w' D'' (fun _=>p0 k) 0 blk (F1 k))/\(fp++(List.range H0.length).flatMap F1).Nodup /\
   ∀ b,b ∈ fp++(List.range H0.length).flatMap F1->(w.heap.size<=b\/b ∈ (List.range H0.length).flatMap F0)/\b < w'.heap.size/\¬D'' b:=by
  refine⟨hrel'.defers,_,hres,res,l,hR,hll,_,D',ids.flatMap F',fun k=>F' (mG k),rfl,⟨hrel'.os,hrel'.tape,hrel'.output,hrel'.size,fun b hb hW=>hrel'.old b hb hW,hrel'.Dup,hrel'.Ddn,hrel'.Dlt⟩,hgive,fun k blk hk=>?_,?_,fun b hb=>?_⟩
  ·have g1:=hget k blk hk;rw[Nat.zero_add] at g1;have hlt:k < H0.length:=by rw[<- hll];exact(List.getElem?_eq_some_iff.1 hk).1
   have hpin:mG k ∈ X.pin:=List.mem_map.2 ⟨k,by rw[hst];exact List.mem_range.2 hlt,rfl⟩;have hp:=hrel'.pins (mG k) hpin;exact Ec (φ:=φ') (id:=mG k) (List.all_eq_true.1 hni blk (List.mem_iff_getElem?.2 ⟨k,hk⟩)) (by rw[hp];exact(Kh p0 hlt).symm) (hrel'.blks (mG k) blk g1)
  ·rw[hflat,<- List.flatMap_append];exact mg hrel' _ h4
  ·rw[hflat,<- List.flatMap_append] at hb;obtain ⟨i,_,hi⟩:=List.mem_flatMap.1 hb;have:=hrel'.notD i b hi;exact⟨this.2.2,this.2.1,this.1⟩
 cases e with
 | normal=>exact done
 | ret=>exact done
 | _=>exact hexit.elim
def FnC (P:Program) (f:Nat) (c:C) (rs:List RV) (n:Nat):Prop :=
 ∃ fn code ks,P.funcs[f]?=some fn/\fn.body=some code/\(fn.name != "runtime.NumGoroutine")=true/\Sp P fn.ntmps ks code=c/\cRV P fn.results.toList=some rs/\fn.ntmps=n
theorem aa.argL {f:Nat} {args args':List V} {res:V} (h:aa P f args res) (e:ail args' args):aa P f args' res :=
 ⟨h.1,fun w D xs hD hg hx=>h.2 w D xs hD hg (aBF _ _ _ _ e hx)⟩
theorem aa.of {f:Nat} {c:C} {rs:List RV} {n:Nat} {args:List V} {res:V} (hf:FnC P f c rs n) (hlen:args.length<=n) (h:Z4 P c (Ret rs res) (AS.init args)):aa P f args res:=by
 obtain ⟨fn,code,ks,h1,h2,h3,h4,h5,h6⟩:=hf;exact aa.intro h1 h2 h3 h4 h5 (by rw[h6];exact hlen) h
theorem aa.ofN {f:Nat} {c:C} {rs:List RV} {n:Nat} {args:List V} {res:V} (hf:FnC P f c rs n) (hlen:args.length<=n) (h:Z4 P c (aHK rs res) (AS.init args)):aa P f args res:=by
 obtain ⟨fn,code,ks,h1,h2,h3,h4,h5,h6⟩:=hf;exact aa.introL h1 h2 h3 h4 h5 (by rw[h6];exact hlen) h
theorem Pn.of {f:Nat} {c:C} {rs:List RV} {n:Nat} {args:List V} {H0:List Blk} {R:V->List Blk->Prop} (hf:FnC P f c rs n) (hlen:args.length<=n) (hn0:∀ blk ∈ H0,bN blk.es=true)
  (h:Z4 P c (ay4 rs R H0.length) (AS.minit args H0 (H0.map some))):Pn P f H0 args R:=by
 obtain ⟨fn,code,ks,h1,h2,h3,h4,h5,h6⟩:=hf;exact Pn.intro h1 h2 h3 h4 h5 (by rw[h6];exact hlen) hn0 h
theorem ac.of {f:Nat} {c:C} {rs:List RV} {n:Nat} {args:List V} {res:V} {H0:List Blk} {H1:List (Option Blk)} (hf:FnC P f c rs n) (hlen:args.length<=n) (hl1:H1.length=H0.length) (hn0:∀ blk ∈ H0,bN blk.es=true)
  (h:Z4 P c (aHI rs res H1) (AS.minit args H0 H1)):ac P f H0 args res H1:=by
 obtain ⟨fn,code,ks,h1,h2,h3,h4,h5,h6⟩:=hf;exact ac.intro h1 h2 h3 h4 h5 (by rw[h6];exact hlen) hl1 hn0 h
end
end Go.Abs
namespace Go.Abs
variable [GI]
section
variable {P : Program}
def ayw (q N id:Nat):Nat:=if id=q then mG N else id
def Qr (q:Option Nat) (N:Nat) (vs:List V):Prop:=∀ id,da id vs=true->(1000000<=id/\id < 1000000+N)\/some id=q
def aKp (rs:List RV) (R:V->List Blk->Option Blk->Prop) (N:Nat) (e:Exit) (s:AS):Prop :=
 (match e with | .normal=>True | .ret=>True | _=>False)/\∃ vs l,Fh s rs=some vs/\aeQ (fy s.hp) 0 N=some l /\
  ((Qr none N vs/\(∀ b ∈ l,Qr none N b.es)/\R (u6 vs) l none) \/
   ∃ q blk,fy s.hp q=some blk/\q < 1000000/\Qr (some q) N vs/\(∀ b ∈ l,Qr (some q) N b.es)/\Qr none N blk.es/\R (ahh (ayw q N) (u6 vs)) (l.map (NZ (ayw q N))) (some (NZ (ayw q N) blk)))
theorem jA.intro {f:Nat} {fn:Func} {code:Code} {c:C} {rs:List RV} {ks:Nat->List Nat} {args:List V} {H0:List Blk} {R:V->List Blk->Option Blk->Prop} (hf:P.funcs[f]?=some fn) (hb:fn.body=some code) (hname:(fn.name != "runtime.NumGoroutine")=true)
  (hc:Sp P fn.ntmps ks code=c) (hr:cRV P fn.results.toList=some rs) (hlen:args.length<=fn.ntmps) (h:Z4 P c (aKp rs R H0.length) (AS.minit args H0 (H0.map some))):jA P f H0 args R:=by
 refine⟨by simp[pz,hf,hb,hname],fun w D xs p0 F0 hD hgi hblk hnd hnD hxs=>?_⟩;have hl:=lC hxs;have hst:pR (H0.map some) 0=List.range H0.length:=by rw[Vt,List.range_eq_range']
 let X:Ctx:={ w0:=w,W:=(List.range H0.length).flatMap F0,D0:=D,φ0:=plM H0.length p0,pin:=(pR (H0.map some) 0).map mG,n:=fn.ntmps }
 have inW:∀ id b,b ∈ flM H0.length F0 id->b ∈ (List.range H0.length).flatMap F0:=fun id b hb=>by
  unfold flM at hb;split at hb
  ·exact List.mem_flatMap.2 ⟨_,List.mem_range.2 (by omega),hb⟩
  ·cases hb
 obtain ⟨fp1,fp2⟩:=acX (List.range H0.length) List.nodup_range hnd
 have hrel:RelD X (AS.minit args H0 (H0.map some)).den { tmps:=xs.toArray++Array.replicate (fn.ntmps - xs.toArray.size) undef,defers:=[] } w D (plM H0.length p0) (flM H0.length F0) []:=by
  refine⟨rfl,rfl,rfl,Nat.le_refl _,fun _ _ _=>rfl,fun _ h=>h,fun _ h=>.inl h,hD,rfl,?_,fun t=>?_,fun id blk hbl=>?_,fun id hid=>?_,fun id=>?_,fun i j hij b hbi hbj=>?_,fun id b hbm=>?_,fun _ _=>rfl,List.nodup_nil,fun _ _ _ h=>absurd h List.not_mem_nil,fun _ h=>absurd h List.not_mem_nil,hgi⟩
  ·show (xs.toArray++Array.replicate (fn.ntmps - xs.toArray.size) undef).size=fn.ntmps;simp;omega
  ·show CV w D (lk (AS.init args).sl t) _ _ [];rw[AS.lk_init];cases ht:args[t]? with
   | none=>simp[CV]
   | some v =>
     obtain ⟨x,f',g1,g2,g3⟩:=VH hxs ht;have:=xr g3;subst this;simp only[Option.getD_some];have hlt:t < xs.length:=(List.getElem?_eq_some_iff.1 g1).1
     have:(xs.toArray++Array.replicate (fn.ntmps - xs.toArray.size) undef).getD t undef=x:=by
      rw[Array.getD_eq_getD_getElem?,Array.getElem?_append_left (by simpa using hlt)];simp[g1]
     rw[this];exact g2
  ·obtain ⟨j,rfl,hj⟩:=aBG H0 0 id blk hbl;rw[Nat.zero_add];have hlt:=(List.getElem?_eq_some_iff.1 hj).1;rw[aGf F0 hlt];exact hblk j blk hj
  ·unfold flM;split
   ·rename_i hin;have:=Sw H0 0 id hid (id - 1000000) (by omega);exact absurd (by unfold mG;omega) this
   ·rfl
  ·unfold flM;split
   ·exact fp1 _ (List.mem_range.2 (by omega))
   ·exact List.nodup_nil
  ·unfold flM at hbi hbj;split at hbi
   ·split at hbj
    ·exact fp2 _ _ (List.mem_range.2 (by omega)) (List.mem_range.2 (by omega)) (by omega) b hbi hbj
    ·cases hbj
   ·cases hbi
  ·have:=hnD b (inW id b hbm);exact⟨this.1,this.2,.inr (inW id b hbm)⟩
 refine calls_of_wp hf hb ?_;refine wp_mono (Z3 (X:=X) (ks:=ks) code (AS.minit args H0 (H0.map some)) _ w ⟨D,_,_,hrel⟩ rfl (by rw[hc];exact h)) fun e a w' hq=>?_;obtain ⟨s',⟨D',φ',F',hrel'⟩,_,hexit,vs,l,h1,hlk,hcase⟩:=hq;obtain ⟨hll,hget⟩:=ayq hlk;obtain ⟨ys,hrun,hcv⟩:=ana (P:=P) hrel' fn.results.toList rs vs hr h1
 have hres:(results fn a.tmps).run P w'=.ok (if h:ys.toArray.size=1 then ys.toArray[0] else .tuple ys.toArray) w':=by
  rw[ad4,Array.mapM_eq_mapM_toList];simp only[Sem.run_bind,Sem.run_map,hrun,Result.andThen_ok,Sem.run_pure]
 have hcv1:CV w' D' (u6 vs) φ' (if h:ys.toArray.size=1 then ys.toArray[0] else .tuple ys.toArray) []:=by
  have hl':=lC hcv
  match vs,ys,hcv,hl' with
  | [v],[y],hcv,_ =>
    simp only[iU] at hcv;obtain ⟨x,xs',f1,f2,e,hf,g1,_⟩:=hcv;have hf:=List.append_eq_nil_iff.1 hf.symm;obtain ⟨rfl,rfl⟩:=hf;cases e;simpa [u6] using g1
  | [],[],hcv,_=>simp only[u6,CV];exact⟨#[],by simp,Je⟩
  | v1::v2::vs,y1::y2::ys,hcv,_ =>
    simp only[u6,CV];exact⟨(y1::y2::ys).toArray,by simp,by simpa using hcv⟩
 have hmt:∀ id,gj id (u6 vs)=true->da id vs=true:=fun id hm=>by
  match vs,hm with
  | [v],hm=>simp only[u6] at hm;simp[da,hm]
  | [],hm=>simpa [u6,gj] using hm
  | v1::v2::vs,hm=>simpa [u6,gj] using hm
 have hpin:∀ id,1000000<=id/\id < 1000000+H0.length->φ' id=p0 (id - 1000000):=fun id hid=>by
  have hm:id ∈ X.pin:=List.mem_map.2 ⟨id - 1000000,by rw[hst];exact List.mem_range.2 (by omega),by unfold mG;omega⟩;rw[hrel'.pins id hm];show plM H0.length p0 id=_;unfold plM;rw[if_pos (by omega)]
 have hpl:∀ p1:Nat->Option Pl,(∀ k,k < H0.length->p1 k=p0 k)->∀ id,1000000<=id/\id < 1000000+H0.length->plM (H0.length+1) p1 id=φ' id:=fun p1 hp1 id hid=>by
  rw[hpin id hid];unfold plM;rw[if_pos (by omega),hp1 _ (by omega)]
 have hmid:∀ k,k < H0.length->1000000<=mG k/\mG k < 1000000+H0.length:=fun k hk=>⟨Nat.le_add_right _ _,Nat.add_lt_add_left hk _⟩;have hfl:((List.range H0.length).map fun k=>F' (mG k)).flatten=((List.range H0.length).map mG).flatMap F':=by rw[List.flatMap_map,List.flatMap_def]
 have hnm:((List.range H0.length).map mG).Nodup:=List.Pairwise.map mG (fun x y hxy=>by unfold mG;omega) List.nodup_range
 have hfrom:∀ b,(∃ id,b ∈ F' id)->(w.heap.size<=b\/b ∈ (List.range H0.length).flatMap F0)/\b < w'.heap.size/\¬D' b:=fun b ⟨i,hi⟩=>by
  have:=hrel'.notD i b hi;exact⟨this.2.2,this.2.1,this.1⟩
 have hgrow:Grow w D ((List.range H0.length).flatMap F0) w' D':=⟨hrel'.os,hrel'.tape,hrel'.output,hrel'.size,fun b hb hW=>hrel'.old b hb hW,hrel'.Dup,hrel'.Ddn,hrel'.Dlt⟩
 have done:a.defers=[]/\∃ v,(results fn a.tmps).run P w'=.ok v w'/\∃ res l nw,R res l nw/\l.length=H0.length/\∃ (y:Value) (D':Nat->Prop) (p1:Nat->Option Pl) (fs:List (List Nat)) (fn:List Nat),Ending.returned v=.returned y/\Grow w D ((List.range H0.length).flatMap F0) w' D'/\(∀ k,k < H0.length->p1 k=p0 k) /\
   CV w' D' res (plM (H0.length+1) p1) y []/\fs.length=l.length/\(∀ (k:Nat) (blk:Blk) (g:List Nat),l[k]?=some blk->fs[k]?=some g->p9 w' D' (plM (H0.length+1) p1) (mG k) blk g) /\
   (match nw with | some blk=>p9 w' D' (plM (H0.length+1) p1) (mG H0.length) blk fn | none=>fn=[])/\(fn++fs.flatten).Nodup /\
   ∀ b,b ∈ fn++fs.flatten->(w.heap.size<=b\/b ∈ (List.range H0.length).flatMap F0)/\b < w'.heap.size/\¬D' b:=by
  refine⟨hrel'.defers,_,hres,?_⟩;rcases hcase with ⟨c1,c2,c3⟩ | ⟨q,blk,hq1,hq2,c1,c2,c3,c4⟩
  ·refine⟨u6 vs,l,none,c3,hll,_,D',p0,(List.range H0.length).map fun k=>F' (mG k),[],rfl,hgrow,fun _ _=>rfl,?_,by simp[hll],fun k b g hk hg=>?_,rfl,?_,fun b hb=>?_⟩
   ·refine pS (fun _ hb=>hb) _ _ _ _ _ (fun _ _=>rfl) (fun id hm=>hpl p0 (fun _ _=>rfl) id ?_) hcv1;exact(c1 id (hmt id hm)).resolve_right (by simp)
   ·have hlt:k < H0.length:=by rw[<- hll];exact(List.getElem?_eq_some_iff.1 hk).1
    rw[List.getElem?_map,List.getElem?_range hlt] at hg;injection hg with hg
    subst hg;have g1:=hget k b hk;rw[Nat.zero_add] at g1;have e0:=hpl p0 (fun _ _=>rfl) _ (hmid k hlt);rcases hrel'.blks (mG k) b g1 with ⟨e1,e2,e3⟩ | ⟨p,arr,ty,f',k1,k2,k3,k4,k5,k6⟩
    ·exact .inl ⟨e0.trans e1,e2,e3⟩
    ·exact .inr ⟨p,arr,ty,f',e0.trans k1,k2,k3,k4,k5,lv (fun _ hb=>hb) _ _ _ _ _ _ (fun _ _=>rfl) (fun i hi=>hpl p0 (fun _ _=>rfl) i ((c2 b (List.mem_iff_getElem?.2 ⟨k,hk⟩) i hi).resolve_right (by simp))) k6⟩
   ·rw[List.nil_append,hfl];exact mg hrel' _ hnm
   ·rw[List.nil_append,hfl] at hb;obtain ⟨i,_,hi⟩:=List.mem_flatMap.1 hb;exact hfrom b ⟨i,hi⟩
  ·have hp1:∀ k,k < H0.length->(fun k=>if k=H0.length then φ' q else p0 k) k=p0 k:=fun k hk=>if_neg (by omega)
   have hnew:∀ id,((1000000<=id/\id < 1000000+H0.length)\/some id=some q)->plM (H0.length+1) (fun k=>if k=H0.length then φ' q else p0 k) (ayw q H0.length id)=φ' id:=fun id hid=>by
    rcases hid with hid | hid
    ·have:ayw q H0.length id=id:=if_neg (by omega);rw[this];exact hpl _ hp1 id hid
    ·injection hid with hid
     subst hid;have:ayw id H0.length id=mG H0.length:=if_pos rfl;rw[this,Kh _ (by omega)];simp
   refine⟨_,_,_,c4,by rw[List.length_map];exact hll,_,D',fun k=>if k=H0.length then φ' q else p0 k,(List.range H0.length).map fun k=>F' (mG k),F' q,rfl,hgrow,hp1,?_,by simp[hll],fun k b g hk hg=>?_,?_,?_,fun b hb=>?_⟩
   ·exact aBx _ _ _ (fun id hm=>hnew id (c1 id (hmt id hm))) hcv1
   ·rw[List.getElem?_map,Option.map_eq_some_iff] at hk;obtain ⟨b0,hk,rfl⟩:=hk;have hlt:k < H0.length:=by rw[<- hll];exact(List.getElem?_eq_some_iff.1 hk).1
    rw[List.getElem?_map,List.getElem?_range hlt] at hg;injection hg with hg
    subst hg;have g1:=hget k b0 hk;rw[Nat.zero_add] at g1;exact S9 (id:=mG k) (hpl _ hp1 _ (hmid k hlt)) (fun i hi=>hnew i (c2 b0 (List.mem_iff_getElem?.2 ⟨k,hk⟩) i hi)) (hrel'.blks (mG k) b0 g1)
   ·refine S9 (id:=q) ?_ (fun i hi=>hnew i (.inl ((c3 i hi).resolve_right (by simp)))) (hrel'.blks q blk hq1);rw[Kh _ (by omega)];simp
   ·rw[hfl,<- List.flatMap_cons];refine mg hrel' _ (List.nodup_cons.2 ⟨fun hm=>?_,hnm⟩);obtain ⟨k,_,hk⟩:=List.mem_map.1 hm;unfold mG at hk;omega
   ·rw[hfl,<- List.flatMap_cons] at hb;obtain ⟨i,_,hi⟩:=List.mem_flatMap.1 hb;exact hfrom b ⟨i,hi⟩
 cases e with
 | normal=>exact done
 | ret=>exact done
 | _=>exact hexit.elim
theorem jA.of {f:Nat} {c:C} {rs:List RV} {n:Nat} {args:List V} {H0:List Blk} {R:V->List Blk->Option Blk->Prop} (hf:FnC P f c rs n) (hlen:args.length<=n)
  (h:Z4 P c (aKp rs R H0.length) (AS.minit args H0 (H0.map some))):jA P f H0 args R:=by
 obtain ⟨fn,code,ks,h1,h2,h3,h4,h5,h6⟩:=hf;exact jA.intro h1 h2 h3 h4 h5 (by rw[h6];exact hlen) h
end
end Go.Abs
namespace Go.Proofs.YtnjjimhkbpdpgaaGreatDoor
def fT:Nat:=10
def ia:Nat:=12
def kC:Nat:=40
def Ai:Nat:=43
def Ez:Nat:=44
def N1:Nat:=45
def asl:Nat:=46
def mY:Nat:=47
def TV:Nat:=48
def vK:Nat:=49
def adb:Nat:=50
def asd:Nat:=51
def MS:Nat:=52
def rH:Nat:=60
def o9:Nat:=61
def kF:Nat:=63
def gk:Nat:=65
def ux:Nat:=68
def eU:Nat:=70
def lV:Nat:=71
def mZ:Nat:=72
def qn:Nat:=74
def mQ:Nat:=75
def rE:Nat:=76
def SE:Nat:=82
def adk:Nat:=83
def Fw:Nat:=84
def J3:Nat:=85
def adl:Nat:=86
def ais:Nat:=87
def Zn:Nat:=88
def adm:Nat:=89
def Ws:Nat:=90
def Wr:Nat:=91
def H3:Nat:=92
def MX:Nat:=93
def Ft:Nat:=94
def Wp:Nat:=95
def Zh:Nat:=96
def PC:Nat:=97
def JW:Nat:=98
def gL:Nat:=99
def A7:Nat:=100
def qq:Nat:=101
def Sy:Nat:=102
def mX:Nat:=103
def C5:Nat:=104
def HX:Nat:=105
def vi:Nat:=106
def Sz:Nat:=107
def adf:Nat:=108
def JY:Nat:=109
def HA:Nat:=110
def Zk:Nat:=111
def Fu:Nat:=112
def Ak:Nat:=120
def H2:Nat:=121
def EB:Nat:=122
def uA:Nat:=124
def ue:Nat:=128
def Ix:Nat:=129
def rD:Nat:=130
def lx:Nat:=131
def pC:Nat:=132
def SA:Nat:=133
def adj:Nat:=134
def HB:Nat:=135
def TW:Nat:=136
def rZ:Nat:=140
def Fv:Nat:=141
def Wt:Nat:=142
def Zm:Nat:=143
def PD:Nat:=144
def J2:Nat:=145
def Iw:Nat:=146
def EC:Nat:=147
def Iz:Nat:=148
def SD:Nat:=149
def N0:Nat:=150
def adi:Nat:=151
def adh:Nat:=152
def asj:Nat:=153
def aeU:Nat:=154
def PA:Nat:=156
def DB:Nat:=157
def qp:Nat:=158
def pw:Nat:=159
def JZ:Nat:=160
def uv:Nat:=161
def adg:Nat:=162
def Hz:Nat:=163
def vO:Nat:=164
def PB:Nat:=165
def kE:Nat:=166
def Sx:Nat:=167
def mJ:Nat:=168
def N5:Nat:=169
def Nt:Nat:=170
def Ex:Nat:=171
def vL:Nat:=172
def xt:Nat:=173
def JQ:Nat:=174
def ada:Nat:=175
def HV:Nat:=176
def TX:Nat:=181
def EA:Nat:=182
def MW:Nat:=183
def iA:Nat:=184
def MU:Nat:=185
def ads:Nat:=186
def adn:Nat:=187
def N3:Nat:=188
def ado:Nat:=189
def HZ:Nat:=190
def Aj:Nat:=191
def adp:Nat:=192
def at6:Nat:=193
def aeT:Nat:=194
def air:Nat:=199
def ud:Nat:=200
def Wq:Nat:=201
def JX:Nat:=202
def gp:Nat:=203
def ash:Nat:=206
def aiv:Nat:=207
def Nv:Nat:=208
def Wu:Nat:=209
def TY:Nat:=210
def TZ:Nat:=211
def adt:Nat:=212
def Wv:Nat:=213
def PF:Nat:=214
def rG:Nat:=215
def J4:Nat:=216
def DE:Nat:=217
def ayv:Nat:=218
def A8:Nat:=219
def am5:Nat:=222
def aip:Nat:=223
def Zj:Nat:=224
def TU:Nat:=225
def DA:Nat:=226
def FX:Nat:=227
def JV:Nat:=228
def sB:Nat:=229
def aiw:Nat:=230
def JR:Nat:=231
def DD:Nat:=232
def vP:Nat:=233
def Ey:Nat:=234
def lw:Nat:=235
def Al:Nat:=237
def rX:Nat:=238
def xT:Nat:=239
def adc:Nat:=240
def J5:Nat:=244
def asn:Nat:=245
def PE:Nat:=246
def asm:Nat:=247
def Iy:Nat:=248
def ade:Nat:=256
def uu:Nat:=257
def Fs:Nat:=258
def aiu:Nat:=263
def N4:Nat:=264
def Ww:Nat:=265
def MV:Nat:=266
def adv:Nat:=267
def adu:Nat:=268
def aso:Nat:=269
def adr:Nat:=270
def asq:Nat:=271
def asi:Nat:=272
def pv:Nat:=282
def vM:Nat:=283
def Qq:Nat:=284
def TS:Nat:=285
def JU:Nat:=286
def JT:Nat:=287
def ac8:Nat:=288
def ml:Nat:=289
def xU:Nat:=290
def asg:Nat:=291
def qt:Nat:=292
def rY:Nat:=293
def ase:Nat:=294
def SC:Nat:=298
def DC:Nat:=299
def vQ:Nat:=300
def Nu:Nat:=301
def SB:Nat:=302
def GK:Nat:=303
def asf:Nat:=311
def N2:Nat:=312
def adq:Nat:=313
def ait:Nat:=314
def ayu:Nat:=315
def fU:Nat:=321
def FY:Nat:=323
def aio:Nat:=324
def rm:Nat:=325
def Zg:Nat:=326
def GL:Nat:=327
def MT:Nat:=328
def Zi:Nat:=329
def oe:Nat:=330
def uz:Nat:=331
def vd:Nat:=332
def Zl:Nat:=335
def ayt:Nat:=338
def Am:Nat:=342
theorem aW5:Tryz.prog.globalNamed "internal/strconv.uint64pow10"=some 1:=by kernel_rfl
def aR7 (w:World) (g:Nat):Prop:=∃ ev,w.cell? ⟨g,0,none⟩=some ev/\(ev=.nilIface\/∃ te pe,ev=.iface te pe)
def aR8 (w:World) (g:Nat):Prop:=∃ m,w.cell? ⟨g,0,none⟩=some (.int .i64 m)
theorem aE9 {w w':World} {g:Nat} (h:w'.heap[g]?=w.heap[g]?):w'.cell? ⟨g,0,none⟩=w.cell? ⟨g,0,none⟩:=by
 unfold World.cell?;dsimp only;rw[h]
instance:Abs.GI where
 holds w D:=Lib.TabIs Tryz.prog w "internal/strconv.uint64pow10" .u64 Lib.pow10Tab/\D 1/\(aR8 w 0/\D 0)/\(aR7 w 2/\D 2)
 mono:=by
  rintro w w' D D' ⟨h1,h2,⟨h3,h4⟩,h5,h6⟩ hD hh;refine⟨?_,hD _ h2,⟨?_,hD _ h4⟩,?_,hD _ h6⟩
  ·unfold Lib.TabIs World.var? at h1 ⊢;rw[aW5] at h1 ⊢;simp only[Option.bind_some] at h1 ⊢;rw[hh _ h2];exact h1
  ·unfold aR8;rw[aE9 (hh _ h4)];exact h3
  ·unfold aR7;rw[aE9 (hh _ h6)];exact h5
open Abs
abbrev om (d t:Nat):CO:=⟨none,some d,.mv (.t t)⟩
abbrev ok (d:Nat) (v:V):CO:=⟨none,some d,.mv (.k v)⟩
abbrev oo (d:Nat) (x:O):CO:=⟨none,some d,x⟩
abbrev ou (x:O):CO:=⟨none,none,x⟩
abbrev oT (g d:Nat) (x:O):CO:=⟨some (g,true),some d,x⟩
abbrev oF (g d:Nat) (x:O):CO:=⟨some (g,false),some d,x⟩
abbrev aL (d k t:Nat):CO:=⟨none,some d,.faddr k (.t t)⟩
abbrev bl (d n t:Nat):CO:=⟨none,some d,.ld false n (.t t)⟩
abbrev bu (d n t:Nat):CO:=⟨none,some d,.ld true n (.t t)⟩
abbrev bg (n a x:Nat):CO:=⟨none,none,.st n (.t a) (.t x)⟩
abbrev cJ (d t i:Nat):CO:=⟨none,some d,.ext (.t t) i⟩
abbrev ft (d s t i:Nat):CO:=⟨none,some d,.iaddr s (.t t) (.t i)⟩
abbrev eF (d n t:Nat):CO:=⟨none,some d,.box n (.t t)⟩
abbrev dD (d n:Nat) (v:V):CO:=⟨none,some d,.box n (.k v)⟩
abbrev cg (d f t:Nat):CO:=⟨none,some d,.call f [.t t]⟩
abbrev dK (d f t u:Nat):CO:=⟨none,some d,.call f [.t t,.t u]⟩
abbrev fL (d t:Nat) (n:Int):CO:=⟨none,some d,.bin .add .none (.t t) (.k (.v (.int .i64 n)))⟩
abbrev cI (d:Nat) (b:BinOp) (t u:Nat):CO:=⟨none,some d,.bin b .none (.t t) (.t u)⟩
abbrev cn (d:Nat) (b:BinOp) (t:Nat) (n:Int):CO:=⟨none,some d,.bin b .none (.t t) (.k (.v (.int .i64 n)))⟩
abbrev xI (n:Int):X:=.k (.v (.int .i64 n))
abbrev xB (b:Bool):X:=.k (.v (.bool b))
abbrev vI (n:Int):V:=.v (.int .i64 n)
abbrev vB (b:Bool):V:=.v (.bool b)
abbrev vS (l:List UInt8):V:=.v (.string (bs l))
abbrev vN:V:=.v (.slice none 0 0)
abbrev xR:V:=.agg [vI 0,vI 0,vI 0,vI 0]
abbrev lm:V:=.agg [vI 0,vI 0,vI 0,vI 0,vI 0,vI 0,vI 0,vI 0,vI 0,vI 0,vI 0,vI 0,vI 0,vI 0,vI 0]
abbrev pG:V:=.agg [vI 0,vI 0,vI 0,vI 0,vI 0,vI 0,vI 0,vI 0,vI 0,vI 0,vI 0,vI 0,vI 0,vI 0,vI 0,vN]
abbrev zC:V:=.agg [vI 0,vS [],vI 0,vI 0,vI 0,vI 0,vI 0,vI 0,vI 0,vI 0,vI 0,vI 0,vI 0,vI 0,vI 0,vI 0,vI 0,vI 0]
abbrev sr (r:List CO) (k:List Nat) (c:C):C:=.seq (.reg r k) c
abbrev ss (a b:C):C:=.seq a b
abbrev sc (t:Nat) (a b:C):C:=.cond (.t t) a b
def ah7:C->List (List Nat)
 | .reg _ k=>[k]
 | .regD _ _ k=>[k]
 | .wk c=>match ah7 c with
   | k::r=>(999999::k)::r
   | []=>[]
 | .seq a b=>ah7 a++ah7 b
 | .cond _ a b=>ah7 a++ah7 b
 | .block _ c=>ah7 c
 | .loop c=>ah7 c
 | _=>[]
def aVi (c:C) (i:Nat):List Nat:=(ah7 c).getD i []
theorem jt {α:Type} {a:Option α} {b c:α} (h:a=some b) (e:b=c:=by kernel_rfl):a=some c:=by rw[h,e]
theorem dE {P:Program} {f n:Nat} {c:C} {rs:List RV} {fn:Func} {code:Code} (h:P.funcs[f]?=some fn) (hb:fn.body=some code)
  (e:(fn.name != "runtime.NumGoroutine",Sp P fn.ntmps (aVi c) code,cRV P fn.results.toList,fn.ntmps)=(true,c,some rs,n):=by kernel_rfl):FnC P f c rs n:=by
 simp only[Prod.mk.injEq] at e;exact⟨fn,code,aVi c,h,hb,e.1,e.2.1,e.2.2.1,e.2.2.2⟩
abbrev di (f:Nat) (a:List V) (r:V):Prop:=aa Tryz.prog f a r
abbrev ie (f:Nat) (h:List Blk) (a:List V) (r:V) (g:List (Option Blk)):Prop:=ac Tryz.prog f h a r g
abbrev cE (f:Nat) (c:C) (r:List RV) (n:Nat):Prop:=FnC Tryz.prog f c r n
end Go.Proofs.YtnjjimhkbpdpgaaGreatDoor
namespace Go.Proofs.YtnjjimhkbpdpgaaGreatDoor
open Go.Abs
set_option maxRecDepth 100000
open Tryz
def aby:=[eF 1 4 0,dD 2 4 (.agg [vN,vS [],vS [],vI 0])]
def abz:=[aL 3 0 1,bu 4 1 3,cg 5 lV 4,aL 6 1 1,bu 7 3 6,oo 8 (.build (.agg [vN,vS [],vS [],vI 0]) [(0,(1,(.t 5))),(1,(3,(.t 7)))]),bg 4 2 8]
def M5:List (List Nat):=[[],[0],[0,1],[],[3],[0,1,2,3,4],[0,1,2,3,4,5]]
def ahG:C:=(sr aby [1,2] (ss (.regD abz M5 [2]) .ret))
theorem aAZ:cE TV ahG [(.cell 2 true 4)] 9:=dE func48 rfl
def OU:=[eF 2 4 0,dD 4 4 (.agg [vN,vS [],vS [],vI 0]),ok 5 (vS [])]
def OV:=[aL 9 0 2,bu 10 1 9,cg 11 Ai 10,aL 12 1 2,bu 13 3 12,oo 14 (.build (.agg [vN,vS [],vS [],vI 0]) [(0,(1,(.t 11))),(1,(3,(.t 13)))]),dD 6 4 (.agg [vN,vS [],vS [],vI 0]),bg 4 6 14]
def EM:List (List Nat):=[[],[0],[0,1],[],[3],[0,1,2,3,4],[],[0,1,2,3,4,5,6]]
def OW:=[bu 16 4 2,cg 17 Ez 16,oo 18 (.un .not (.t 17)),om 15 18]
def OX:=[bu 19 4 6,bg 4 4 19,ok 5 (vS [110,111])]
def OY:=[om 21 1,oo 22 (.build (.agg [vS [],vS []]) [(0,(1,(.t 21)))]),cg 23 N1 22,oo 24 (.un .not (.t 23)),om 20 24]
def OZ:=[bu 25 4 6,bg 4 4 25,ok 5 (vS [98,97,100])]
def O0:=[aL 27 1 2,aL 28 2 27,bl 29 1 28,cn 30 .eql 29 60,om 26 30]
def O1:=[bu 31 4 6,bg 4 4 31,ok 5 (vS [102,117,108,108])]
def O2:=[aL 33 0 6,bu 34 1 33,om 35 1,dK 36 asl 34 35,om 32 36,cJ 37 32 0,cJ 38 32 1,dD 7 1 (.agg [vN]),bg 1 7 37,om 8 38]
def O3:=[bu 39 1 7,aL 40 0 6,bg 1 40 39]
def Mv:=[om 41 8,oo 42 (.len true (.t 41)),cn 43 .gtr 42 200]
def Mw:=[ok 8 (vS [108,111,110,103])]
def Mx:=[aL 45 1 6,bu 46 3 45,om 47 1,om 48 8,oo 49 (.build (.agg [vS [],vS []]) [(0,(1,(.t 47))),(1,(1,(.t 48)))]),dK 50 mY 46 49,om 44 50,cJ 51 44 0,cJ 52 44 1,aL 53 1 6,bg 3 53 51]
def My:=[bu 54 4 6,om 55 8,bg 4 4 54,om 5 55]
def Tl:C:=(sr OU [1,2,4] (ss (.regD OV EM [1,2,4,6]) (ss (.block 0 (ss (.wk (.reg OW [1,2,4,6,15])) (sc 15 (sr OX [4,5] .ret) (sr OY [1,2,4,6,20] (sc 20 (sr OZ [4,5] .ret) (sr O0 [1,4,6,26] (sc 26 (sr O1 [4,5] .ret) .skip))))))) (sr O2 [1,4,6,7,8] (sr O3 [1,4,6,8] (ss (ss (.wk (.reg Mv [1,4,6,8,43])) (sc 43 (.reg Mw [1,4,6,8]) .skip)) (ss (.wk (.reg Mx [4,6,8])) (sr My [4,5] .ret))))))))
theorem anq:cE fT Tl [(.cell 4 true 4),(.tmp 5)] 56:=dE func10 rfl
def Oi:=[eF 2 4 0,dD 4 4 (.agg [vN,vS [],vS [],vI 0]),ok 5 (vS [])]
def Oj:=[bu 10 4 2,cg 11 TV 10,dD 6 4 (.agg [vN,vS [],vS [],vI 0]),bg 4 6 11]
def Ok:=[bu 13 4 2,cg 14 kC 13,oo 15 (.un .not (.t 14)),om 12 15]
def Ol:=[bu 16 4 6,bg 4 4 16,ok 5 (vS [110,111])]
def Om:=[om 18 1,oo 19 (.build (.agg [vS [],vS []]) [(0,(1,(.t 18)))]),cg 20 vK 19,oo 21 (.un .not (.t 20)),om 17 21]
def On:=[bu 22 4 6,bg 4 4 22,ok 5 (vS [98,97,100])]
def Oo:=[aL 24 1 2,aL 25 2 24,bl 26 1 25,cn 27 .eql 26 60,om 23 27]
def Oq:=[bu 28 4 6,bg 4 4 28,ok 5 (vS [102,117,108,108])]
def Ot:=[aL 30 0 6,bu 31 1 30,om 32 1,dK 33 adb 31 32,om 29 33,cJ 34 29 0,cJ 35 29 1,cJ 36 29 2,dD 7 1 (.agg [vN]),bg 1 7 34,om 8 35,om 9 36]
def EP:=[om 37 9]
def L6:=[bu 38 1 7,aL 39 0 6,bg 1 39 38]
def L7:=[aL 41 0 6,bu 42 1 41,om 43 1,dK 44 asd 42 43,om 40 44,cJ 45 40 0,cJ 46 40 1,om 8 45,om 9 46]
def L8:=[om 47 9,oo 48 (.un .not (.t 47))]
def L9:=[ok 8 (vS [63])]
def uW:=[om 49 8,oo 50 (.len true (.t 49)),cn 51 .gtr 50 200]
def uX:=[ok 8 (vS [108,111,110,103])]
def uY:=[aL 53 1 6,bu 54 3 53,om 55 1,om 56 8,oo 57 (.build (.agg [vS [],vS []]) [(0,(1,(.t 55))),(1,(1,(.t 56)))]),dK 58 MS 54 57,om 52 58,cJ 59 52 0,cJ 60 52 1,aL 61 1 6,bg 3 61 59]
def uZ:=[bu 62 4 6,om 63 8,bg 4 4 62,om 5 63]
def Tg:C:=(sr Oi [1,2,4] (sr Oj [1,2,4,6] (ss (.block 0 (ss (.wk (.reg Ok [1,2,4,6,12])) (sc 12 (sr Ol [4,5] .ret) (sr Om [1,2,4,6,17] (sc 17 (sr On [4,5] .ret) (sr Oo [1,4,6,23] (sc 23 (sr Oq [4,5] .ret) .skip))))))) (sr Ot [1,4,6,7,8,9] (ss (sr EP [1,4,6,7,8,37] (sc 37 (.reg L6 [1,4,6,8]) (sr L7 [1,4,6,8,9] (sr L8 [1,4,6,8,48] (sc 48 (.reg L9 [1,4,6,8]) .skip))))) (ss (ss (.wk (.reg uW [1,4,6,8,51])) (sc 51 (.reg uX [1,4,6,8]) .skip)) (ss (.wk (.reg uY [4,6,8])) (sr uZ [4,5] .ret))))))))
theorem anm:cE ia Tg [(.cell 4 true 4),(.tmp 5)] 64:=dE func12 rfl
def avr:=[eF 2 1 0,dD 4 1 (.agg [vN]),ok 5 (vS [])]
def avs:=[om 13 1,oo 14 (.call Fw [.t 13,(.k (vS [32]))]),om 12 14,cJ 15 12 0,cJ 16 12 1,cJ 17 12 2,om 6 15,om 7 16,om 8 17]
def avt:=[om 18 1,oo 19 (.bin .eql .none (.t 18) (.k (vS [108,105,115,116])))]
def avu:=[oo 20 (.bslice 1 (vI 0) 0 []),om 9 20]
def avv:=[ok 10 (vI 0)]
def avw:=[om 21 10,aL 22 0 2,bl 23 1 22,oo 24 (.len false (.t 23)),cI 25 .lss 21 24]
def avx:=[om 28 9,aL 29 0 2,bl 30 1 29,om 31 10,ft 32 18 30 31,aL 33 0 32,bl 34 1 33,oo 35 (.bslice 1 (vI 0) 1 [(0,(.t 34))]),oo 36 (.app 1 8 (.t 28) (.t 35)),om 9 36]
def avy:=[om 26 10,fL 27 26 1,om 10 27]
def at0:C:=(ss (sr avw [2,4,9,10,25] (sc 25 .skip (.exit 0))) (ss (.block 1 (.reg avx [2,4,9,10])) (.reg avy [2,4,9,10])))
def avz:=[bu 37 1 2,om 38 9,cg 39 J3 38,bg 1 4 37,om 5 39]
def ady:List (List Nat):=[[],[],[1],[0,1,2],[0,1,2,3]]
def ap9:=[om 40 8,oo 41 (.un .not (.t 40))]
def aqa:=[bu 42 1 2,bg 1 4 42,ok 5 (vS [63])]
def aqb:=[om 43 1,oo 44 (.call o9 [.t 43,(.k (.v (.int .u8 (32))))]),om 11 44]
def lq:=[om 45 6]
def lr:=[oo 47 (.bin .eql .none (.t 45) (.k (vS [103,114,97,110,116]))),om 46 47]
def aqc:=[bu 48 1 2,om 49 7,dK 50 adl 48 49,cJ 51 50 0,cJ 52 50 1,bg 1 4 51,om 5 52]
def mq:=[oo 54 (.bin .eql .none (.t 45) (.k (vS [114,101,118,111,107,101]))),om 53 54]
def mr:=[oo 55 (.bin .eql .none (.t 45) (.k (vS [116,114,97,110,115,102,101,114]))),om 53 55]
def ZS:=[bu 56 1 2,om 57 11,dK 58 ais 56 57,cJ 59 58 0,cJ 60 58 1,bg 1 4 59,om 5 60]
def p5:=[oo 62 (.bin .eql .none (.t 45) (.k (vS [115,104,111,119]))),om 61 62]
def p6:=[oo 63 (.bin .eql .none (.t 45) (.k (vS [115,104,111,114,116]))),om 61 63]
def p7:=[oo 64 (.bin .eql .none (.t 45) (.k (vS [100,105,102,102,101,114]))),om 61 64]
def NC:=[bu 65 1 2,bu 66 1 2,om 67 11,dK 68 Zn 66 67,bg 1 4 65,om 5 68]
def xC:List (List Nat):=[[],[],[],[1,2],[0,1,2,3],[0,1,2,3,4]]
def C9:=[oo 70 (.bin .eql .none (.t 45) (.k (vS [111,102]))),om 69 70]
def Da:=[oo 71 (.bin .eql .none (.t 45) (.k (vS [99,111,110,102,108,105,99,116,115]))),om 69 71]
def Db:=[oo 72 (.bin .eql .none (.t 45) (.k (vS [102,105,110,100]))),om 69 72]
def Dc:=[oo 73 (.bin .eql .none (.t 45) (.k (vS [116,101,120,116]))),om 69 73]
def G6:=[bu 74 1 2,bu 75 1 2,om 76 6,om 77 7,oo 78 (.call adm [.t 75,.t 76,.t 77]),bg 1 4 74,om 5 78]
def pW:List (List Nat):=[[],[],[],[],[1,2,3],[0,1,2,3,4],[0,1,2,3,4,5]]
def aqd:=[bu 79 1 2,bg 1 4 79,ok 5 (vS [63])]
def aB5:C:=(sr avr [1,2,4] (sr avs [1,2,4,6,7,8] (ss (sr avt [1,2,4,6,7,8,19] (sc 19 (sr avu [2,4,9] (ss (sr avv [2,4,9,10] (.block 0 (.loop at0))) (ss (.regD avz ady [4,5]) .ret))) .skip)) (ss (sr ap9 [1,2,4,6,7,41] (sc 41 (sr aqa [4,5] .ret) .skip)) (sr aqb [2,4,6,7,11] (ss (ss (.wk (.reg lq [2,4,6,7,11,45])) (.block 2 (sr lr [2,4,6,7,11,45,46] (sc 46 (sr aqc [4,5] .ret) (ss (sr mq [2,4,6,7,11,45,53] (sc 53 .skip (.reg mr [2,4,6,7,11,45,53]))) (sc 53 (sr ZS [4,5] .ret) (ss (sr p5 [2,4,6,7,11,45,61] (sc 61 .skip (sr p6 [2,4,6,7,11,45,61] (sc 61 .skip (.reg p7 [2,4,6,7,11,45,61]))))) (sc 61 (ss (.regD NC xC [4,5]) .ret) (ss (sr C9 [2,4,6,7,45,69] (sc 69 .skip (sr Da [2,4,6,7,45,69] (sc 69 .skip (sr Db [2,4,6,7,45,69] (sc 69 .skip (.reg Dc [2,4,6,7,69]))))))) (sc 69 (ss (.regD G6 pW [4,5]) .ret) .skip)))))))))) (sr aqd [4,5] .ret)))))))
def aKX:Nat->List Nat
 | 0=>[1,2,4]
 | 1=>[1,2,4,6,7,8]
 | 2=>[1,2,4,6,7,8,19]
 | 3=>[2,4,9]
 | 4=>[2,4,9,10]
 | 5=>[2,4,9,10,25]
 | 7=>[2,4,9,10]
 | 6=>[2,4,9,10]
 | 8=>[4,5]
 | 9=>[1,2,4,6,7,41]
 | 10=>[4,5]
 | 11=>[2,4,6,7,11]
 | 12=>[999999,2,4,6,7,11,45]
 | 13=>[2,4,6,7,11,45,46]
 | 14=>[4,5]
 | 15=>[2,4,6,7,11,45,53]
 | 16=>[2,4,6,7,11,45,53]
 | 17=>[4,5]
 | 18=>[2,4,6,7,11,45,61]
 | 19=>[2,4,6,7,11,45,61]
 | 20=>[2,4,6,7,11,45,61]
 | 21=>[4,5]
 | 22=>[2,4,6,7,45,69]
 | 23=>[2,4,6,7,45,69]
 | 24=>[2,4,6,7,45,69]
 | 25=>[2,4,6,7,69]
 | 26=>[4,5]
 | 27=>[4,5]
 | _=>[]
theorem aIn:cE asl aB5 [(.cell 4 true 1),(.tmp 5)] 80 :=
 ⟨Tryz.f46,_,aKX,func46,rfl,by kernel_rfl,by kernel_rfl,by kernel_rfl,rfl⟩
end Go.Proofs.YtnjjimhkbpdpgaaGreatDoor
