/- Parts of the proof that several claims share, part 3. -/
import Derived.MapKept
import Derived.Test.YtjkogbgbienloaaGreatDoorQ2
set_option linter.unusedVariables false
set_option linter.unusedSimpArgs false
namespace Go.Abs
variable [GI]
def gL (k:Nat):Nat:=1000000+k
def BF (N:Nat) (p0:Nat->Option Pl) (id:Nat):Option Pl:=if 1000000<=id/\id < 1000000+N then p0 (id - 1000000) else none
def Tw (N:Nat) (F0:Nat->List Nat) (id:Nat):List Nat:=if 1000000<=id/\id < 1000000+N then F0 (id - 1000000) else []
omit [GI] in
theorem mY {N k:Nat} (p0:Nat->Option Pl) (h:k < N):BF N p0 (gL k)=p0 k:=by
 have e:gL k - 1000000=k:=by unfold gL;omega
 unfold BF;rw[if_pos (by unfold gL;omega),e]
omit [GI] in
theorem Us {N k:Nat} (F0:Nat->List Nat) (h:k < N):Tw N F0 (gL k)=F0 k:=by
 have e:gL k - 1000000=k:=by unfold gL;omega
 unfold Tw;rw[if_pos (by unfold gL;omega),e]
def dX:List (Option Blk)->Nat->List Nat
 | [],_=>[]
 | some _::l,k=>k::dX l (k+1)
 | none::l,k=>dX l (k+1)
omit [GI] in
theorem sC:∀ (l:List (Option Blk)) (k j:Nat),j ∈ dX l k↔k<=j/\∃ b,l[j - k]?=some (some b)
 | [],k,j=>by simp[dX]
 | some b::l,k,j=>by
   simp only[dX,List.mem_cons,sC l (k+1) j];constructor
   ·rintro (rfl | ⟨h1,b',h2⟩)
    ·exact⟨Nat.le_refl _,b,by simp⟩
    ·refine⟨by omega,b',?_⟩;rw[show j - k=(j - (k+1))+1 from by omega];simpa using h2
   ·rintro ⟨h1,b',h2⟩;by_cases e:j=k
    ·exact .inl e
    ·refine .inr ⟨by omega,b',?_⟩;rw[show j - k=(j - (k+1))+1 from by omega] at h2;simpa using h2
 | none::l,k,j=>by
   simp only[dX,sC l (k+1) j];constructor
   ·rintro ⟨h1,b',h2⟩;refine⟨by omega,b',?_⟩;rw[show j - k=(j - (k+1))+1 from by omega];simpa using h2
   ·rintro ⟨h1,b',h2⟩;by_cases e:j=k
    ·subst e;simp at h2
    ·refine⟨by omega,b',?_⟩;rw[show j - k=(j - (k+1))+1 from by omega] at h2;simpa using h2
omit [GI] in
theorem Hn:∀ (l:List (Option Blk)) (k:Nat),(dX l k).Nodup
 | [],k=>List.nodup_nil
 | some b::l,k=>by
   simp only[dX,List.nodup_cons,sC];exact⟨fun h=>by omega,Hn l (k+1)⟩
 | none::l,k=>Hn l (k+1)
def ac (P:Program) (f:Nat) (H0:List Blk) (args:List V) (res:V) (H1:List (Option Blk)):Prop :=
 dk P f=true/\H1.length=H0.length/\∀ (w:World) (D:Nat->Prop) (xs:List Value) (p0:Nat->Option Pl) (F0:Nat->List Nat),(∀ b,D b->b < w.heap.size)->GI.holds w D ->
  (∀ k blk,H0[k]?=some blk->cM w D (fun _=>p0 k) 0 blk (F0 k))->((List.range H0.length).flatMap F0).Nodup->(∀ b,b ∈ (List.range H0.length).flatMap F0->¬D b/\b < w.heap.size) ->
  cg w D args (BF H0.length p0) xs [] ->
  Calls P f xs.toArray w fun e w'=>∃ y D' fp F1,e=.returned y/\Grow w D ((List.range H0.length).flatMap F0) w' D'/\CV w' D' res (fun _=>none) y fp /\
   (∀ k blk,H1[k]?=some (some blk)->cM w' D' (fun _=>p0 k) 0 blk (F1 k))/\(fp++(dX H1 0).flatMap F1).Nodup /\
   ∀ b,b ∈ fp++(dX H1 0).flatMap F1->(w.heap.size<=b\/b ∈ (List.range H0.length).flatMap F0)/\b < w'.heap.size/\¬D' b
def qp (P:Program) (f:Nat) (H0:List Blk) (args:List V) (R:V->List Blk->Prop):Prop :=
 dk P f=true/\∀ (w:World) (D:Nat->Prop) (xs:List Value) (p0:Nat->Option Pl) (F0:Nat->List Nat),(∀ b,D b->b < w.heap.size)->GI.holds w D ->
  (∀ k blk,H0[k]?=some blk->cM w D (fun _=>p0 k) 0 blk (F0 k))->((List.range H0.length).flatMap F0).Nodup->(∀ b,b ∈ (List.range H0.length).flatMap F0->¬D b/\b < w.heap.size) ->
  cg w D args (BF H0.length p0) xs [] ->
  Calls P f xs.toArray w fun e w'=>∃ res l,R res l/\l.length=H0.length/\∃ y D' fp F1,e=.returned y/\Grow w D ((List.range H0.length).flatMap F0) w' D'/\CV w' D' res (fun _=>none) y fp /\
   (∀ k blk,l[k]?=some blk->cM w' D' (fun _=>p0 k) 0 blk (F1 k))/\(fp++(List.range H0.length).flatMap F1).Nodup /\
   ∀ b,b ∈ fp++(List.range H0.length).flatMap F1->(w.heap.size<=b\/b ∈ (List.range H0.length).flatMap F0)/\b < w'.heap.size/\¬D' b
omit [GI] in
theorem uG:∀ (l:List Blk) (k:Nat),dX (l.map some) k=List.range' k l.length
 | [],k=>rfl
 | b::l,k=>by simp[dX,uG l (k+1),List.range'_succ]
omit [GI] in
theorem jt {w:World} {D:Nat->Prop} {φ φ':Nat->Option Pl} {id id':Nat} {blk:Blk} {f:List Nat} (hn:aC blk.es=true) (hφ:φ' id'=φ id) (h:cM w D φ id blk f):cM w D φ' id' blk f:=by
 rcases h with ⟨h1,h2⟩ | ⟨p,arr,ty,f',h1,h2,h3,h4,h5,h6⟩
 ·exact .inl ⟨hφ.trans h1,h2⟩
 ·exact .inr ⟨p,arr,ty,f',hφ.trans h1,h2,h3,h4,h5,cr (fun _ hb=>hb) _ _ _ _ _ _ (fun _ _=>rfl) (fun i hm=>by rw[cS i _ hn] at hm;cases hm) h6⟩
def iG (M:List Nat) (id:Nat):Option Nat:=match M with
 | []=>none
 | m::M=>if m=id then some 0 else (iG M id).map (·+1)
omit [GI] in
theorem iU:∀ (M:List Nat) (id k:Nat),iG M id=some k->M[k]?=some id
 | [],id,k,h=>by simp[iG] at h
 | m::M,id,k,h=>by
   simp only[iG] at h;split at h
   ·rename_i e;simp only[Option.some.injEq] at h;subst h;subst e;rfl
   ·simp only[Option.map_eq_some_iff] at h;obtain ⟨j,hj,rfl⟩:=h;simpa using iU M id j hj
omit [GI] in
theorem oH:∀ (M:List Nat) (id:Nat),iG M id=none->id ∉ M
 | [],id,h=>by simp
 | m::M,id,h=>by
   simp only[iG] at h;split at h
   ·cases h
   ·rename_i e;simp only[Option.map_eq_none_iff] at h;simp only[List.mem_cons,not_or];exact⟨fun e'=>e e'.symm,oH M id h⟩
omit [GI] in
theorem RD:∀ (M:List Nat) (k id:Nat),M.Nodup->M[k]?=some id->iG M id=some k
 | [],k,id,_,h=>by simp at h
 | m::M,k,id,hn,h=>by
   simp only[List.nodup_cons] at hn;cases k with
   | zero=>simp at h;subst h;simp[iG]
   | succ k =>
     simp only[List.getElem?_cons_succ] at h;have hm:id ∈ M:=(List.mem_iff_getElem?).2 ⟨k,h⟩;have:m≠id:=fun e=>hn.1 (e▸hm);simp[iG,this,RD M k id hn.2 h]
def Qo (M:List Nat) (hp:Nat->Option Blk) (id:Nat):Option Blk:=if (iG M id).isSome then none else hp id
def RG (M:List Nat) (hp:Nat->Option Blk) (k:Nat):V->V
 | .sl id i n=>match iG M id with | some j=>.sl (gL j) i n | none=>aP (Qo M hp) k (.sl id i n)
 | .ref id i j=>match iG M id with | some m=>.ref (gL m) i j | none=>aP (Qo M hp) k (.ref id i j)
 | v=>aP (Qo M hp) k v
def my (M:List Nat) (hp:Nat->Option Blk):Nat->V->V
 | k+1,.agg cs=>.agg (cs.map (RG M hp k))
 | k,v=>RG M hp k v
section
variable {X : Ctx} {s : St} {a : Act} {w : World} {D : Nat → Prop} {φ : Nat → Option Pl} {F : Nat → List Nat}
omit [GI] in
theorem RH {D':Nat->Prop} {M:List Nat} {hp:Nat->Option Blk} {k:Nat} {p0:Nat->Option Pl} (hp0:∀ j id,M[j]?=some id->p0 j=φ id) (hD:∀ b,D b->D' b) (hF:∀ id b,id ∉ M->b ∈ F id->D' b)
  (hb:∀ id blk,hp id=some blk->cM w D φ id blk (F id)) (v:V) (x:Value) (h:CV w D v φ x []):CV w D' (RG M hp k v) (BF M.length p0) x []:=by
 have hoff:∀ id blk,Qo M hp id=some blk->cM w D φ id blk (if id ∈ M then [] else F id):=fun id blk hbl=>by
  unfold Qo at hbl;split at hbl
  ·cases hbl
  ·rename_i hi;have:id ∉ M:=oH M id (by simpa using hi);rw[if_neg this];exact hb id blk hbl
 have plain:∀ v,CV w D v φ x []->CV w D' (aP (Qo M hp) k v) (BF M.length p0) x []:=fun v h=>by
  have h1:=x9 (F:=fun id=>if id ∈ M then [] else F id) hD (fun id b hbm=>by
   split at hbm
   ·cases hbm
   ·rename_i hi;exact hF id b hi hbm) hoff k φ (.inl rfl) v x [] (by simp) h
  exact c8 (fun _ hb=>hb) _ _ _ _ _ (fun _ _=>rfl) (fun id hm=>by rw[gx id _ (fH _ k v)] at hm;cases hm) h1
 have lt:∀ j id,M[j]?=some id->j < M.length:=fun j id hj=>(List.getElem?_eq_some_iff.1 hj).1;cases v with
 | sl id i n =>
   simp only[RG];split
   ·rename_i j hj;have hj':=iU M id j hj;have e:BF M.length p0 (gL j)=φ id:=by rw[mY p0 (lt j id hj'),hp0 j id hj']
    simp only[CV] at h ⊢;rw[e];exact h
   ·exact plain _ h
 | ref id i j =>
   simp only[RG];split
   ·rename_i m hm;have hm':=iU M id m hm;have e:BF M.length p0 (gL m)=φ id:=by rw[mY p0 (lt m id hm'),hp0 m id hm']
    simp only[CV] at h ⊢;rw[e];exact h
   ·exact plain _ h
 | _=>exact plain _ h
omit [GI] in
theorem Tf {D':Nat->Prop} {M:List Nat} {hp:Nat->Option Blk} {k:Nat} {p0:Nat->Option Pl} (hp0:∀ j id,M[j]?=some id->p0 j=φ id) (hD:∀ b,D b->D' b) (hF:∀ id b,id ∉ M->b ∈ F id->D' b)
  (hb:∀ id blk,hp id=some blk->cM w D φ id blk (F id)):∀ (vs:List V) (xs:List Value),cg w D vs φ xs []->cg w D' (vs.map (RG M hp k)) (BF M.length p0) xs []
 | [],xs,h=>by simpa [cg] using h
 | v::vs,xs,h=>by
   simp only[cg] at h;obtain ⟨x,xs',f1,f2,rfl,hf,h1,h2⟩:=h;obtain ⟨rfl,rfl⟩:=List.append_eq_nil_iff.1 hf.symm;simp only[List.map_cons,cg];exact⟨x,xs',[],[],rfl,rfl,RH hp0 hD hF hb v x h1,Tf hp0 hD hF hb vs xs' h2⟩
omit [GI] in
theorem adO {D':Nat->Prop} {M:List Nat} {hp:Nat->Option Blk} {p0:Nat->Option Pl} (hp0:∀ j id,M[j]?=some id->p0 j=φ id) (hD:∀ b,D b->D' b) (hF:∀ id b,id ∉ M->b ∈ F id->D' b)
  (hb:∀ id blk,hp id=some blk->cM w D φ id blk (F id)):∀ (k:Nat) (v:V) (x:Value),CV w D v φ x []->CV w D' (my M hp k v) (BF M.length p0) x []
 | k+1,.agg cs,x,h=>by
   simp only[CV,my] at h ⊢;obtain ⟨xs,h1,h2⟩:=h;exact⟨xs,h1,Tf (k:=k) hp0 hD hF hb cs _ h2⟩
 | 0,v,x,h=>by simp only[my];exact RH hp0 hD hF hb v x h
 | k+1,.undef,x,h | k+1,.v _,x,h | k+1,.ref _ _ _,x,h | k+1,.sl _ _ _,x,h | k+1,.rp _ _ _ _,x,h | k+1,.ro _ _,x,h | k+1,.own _ _,x,h | k+1,.tup _,x,h | k+1,.clo _ _,x,h=>by
   simp only[my];exact RH hp0 hD hF hb _ x h
omit [GI] in
theorem KO {D':Nat->Prop} {M:List Nat} {hp:Nat->Option Blk} {k:Nat} {p0:Nat->Option Pl} (hp0:∀ j id,M[j]?=some id->p0 j=φ id) (hD:∀ b,D b->D' b) (hF:∀ id b,id ∉ M->b ∈ F id->D' b)
  (hb:∀ id blk,hp id=some blk->cM w D φ id blk (F id)):∀ (vs:List V) (xs:List Value),cg w D vs φ xs []->cg w D' (vs.map (my M hp k)) (BF M.length p0) xs []
 | [],xs,h=>by simpa [cg] using h
 | v::vs,xs,h=>by
   simp only[cg] at h;obtain ⟨x,xs',f1,f2,rfl,hf,h1,h2⟩:=h;obtain ⟨rfl,rfl⟩:=List.append_eq_nil_iff.1 hf.symm;simp only[List.map_cons,cg];exact⟨x,xs',[],[],rfl,rfl,adO hp0 hD hF hb k v x h1,KO hp0 hD hF hb vs xs' h2⟩
def St.wrote (s:St) (M:List Nat) (H1:List (Option Blk)):St:={ s with hp:=fun id=>match iG M id with | some k=>(H1[k]?).join | none=>s.hp id }
omit [GI] in
theorem kX (M:List Nat) (F:Nat->List Nat):(List.range M.length).flatMap (fun k=>F (M.getD k 0))=M.flatMap F:=by
 rw[<- List.flatMap_map];congr 1;apply List.ext_getElem?;intro i;by_cases h:i < M.length
 ·simp[List.getD,h]
 ·simp[h]
theorem RelD.wrote (h:RelD X s a w D φ F []) {M:List Nat} (hM:M.Nodup) {H1:List (Option Blk)} (hl:H1.length=M.length) {w':World} {D':Nat->Prop} {fp:List Nat} {F1:Nat->List Nat} (hg:Grow w D (M.flatMap F) w' D')
  (hno:∀ (k:Nat) (blk:Blk),H1[k]?=some (some blk)->aC blk.es=true) (hb:∀ (k:Nat) (blk:Blk),H1[k]?=some (some blk)->cM w' D' (fun _=>φ (M.getD k 0)) 0 blk (F1 k)) (hn:(fp++(dX H1 0).flatMap F1).Nodup)
  (hf:∀ b,b ∈ fp++(dX H1 0).flatMap F1->(w.heap.size<=b\/b ∈ M.flatMap F)/\b < w'.heap.size/\¬D' b) :
  RelD X (s.wrote M H1) a w' D' φ (fun id=>match iG M id with | some k=>(match (H1[k]?).join with | some _=>F1 k | none=>[]) | none=>F id) fp:=by
 have ltM:∀ k id,M[k]?=some id->k < M.length:=fun k id hk=>(List.getElem?_eq_some_iff.1 hk).1;have getD:∀ k id,M[k]?=some id->M.getD k 0=id:=fun k id hk=>by simp[List.getD,hk]
 have inM:∀ id k,iG M id=some k->id ∈ M:=fun id k hk=>List.mem_iff_getElem?.2 ⟨k,iU M id k hk⟩
 have stays:∀ b,(D b\/∃ id,id ∉ M/\b ∈ F id)->w'.heap[b]?=w.heap[b]?:=fun b hb=>by
  refine hg.old b ?_ fun hm=>?_
  ·rcases hb with hb | ⟨id,_,hb⟩
   ·exact h.Dlt b hb
   ·exact(h.notD id b hb).2.1
  ·obtain ⟨j,hj,hbj⟩:=List.mem_flatMap.1 hm;rcases hb with hb | ⟨id,hid,hb⟩
   ·exact(h.notD j b hbj).1 hb
   ·exact h.sep id j (fun e=>hid (e▸hj)) b hb hbj
 have notD':∀ b,b < w.heap.size->b ∉ M.flatMap F->¬D b->¬D' b:=fun b hb hm hn hd=>by
  rcases hg.Ddn b hd with e | e | e
  ·exact hn e
  ·omega
  ·exact hm e
 have from1:∀ id k,iG M id=some k->∀ b,b ∈ (match (H1[k]?).join with | some _=>F1 k | none=>[])->k ∈ dX H1 0/\b ∈ F1 k:=fun id k hk b hb=>by
  split at hb
  ·rename_i blk hbl;refine⟨(sC H1 0 k).2 ⟨Nat.zero_le _,blk,?_⟩,hb⟩;rw[Nat.sub_zero];cases hh:H1[k]? with
   | none=>rw[hh] at hbl;cases hbl
   | some o=>rw[hh] at hbl;simp only[Option.join_some] at hbl;rw[hbl]
  ·cases hb
 have fresh1:∀ id k,iG M id=some k->∀ b,b ∈ (match (H1[k]?).join with | some _=>F1 k | none=>[])->(w.heap.size<=b\/b ∈ M.flatMap F)/\b < w'.heap.size/\¬D' b:=fun id k hk b hb=>by
  have:=from1 id k hk b hb;exact hf b (List.mem_append_right _ (List.mem_flatMap.2 ⟨k,this.1,this.2⟩))
 have oldOk:∀ b,(w.heap.size<=b\/b ∈ M.flatMap F)->X.w0.heap.size<=b\/b ∈ X.W:=fun b hb=>by
  rcases hb with hb | hb
  ·exact .inl (Nat.le_trans h.size hb)
  ·obtain ⟨j,_,hbj⟩:=List.mem_flatMap.1 hb;exact(h.notD j b hbj).2.2
 have Qo:∀ id,id ∉ M->∀ b,b ∈ F id->¬(w.heap.size<=b\/b ∈ M.flatMap F):=fun id hid b hb hx=>by
  rcases hx with hx | hx
  ·have:=(h.notD id b hb).2.1;omega
  ·obtain ⟨j,hj,hbj⟩:=List.mem_flatMap.1 hx;exact h.sep id j (fun e=>hid (e▸hj)) b hb hbj
 have n1:=List.nodup_append.1 hn
 have sep1:∀ (l:List Nat),l.Nodup->(l.flatMap F1).Nodup->(∀ k,k ∈ l->(F1 k).Nodup)/\∀ k j,k ∈ l->j ∈ l->k≠j->∀ b,b ∈ F1 k->b ∉ F1 j:=by
  intro l
  induction l with
  | nil=>exact fun _ _=>⟨fun _ hk=>absurd hk List.not_mem_nil,fun _ _ hk=>absurd hk List.not_mem_nil⟩
  | cons m l ih =>
    intro hnd hfl;rw[List.nodup_cons] at hnd;rw[List.flatMap_cons,List.nodup_append] at hfl;obtain ⟨g1,g2⟩:=ih hnd.2 hfl.2.1;refine⟨fun k hk=>?_,fun k j hk hj hne b hb hb'=>?_⟩
    ·rcases List.mem_cons.1 hk with rfl | hk
     ·exact hfl.1
     ·exact g1 k hk
    ·rcases List.mem_cons.1 hk with ek | hk1
     ·rcases List.mem_cons.1 hj with ej | hj1
      ·exact hne (ek.trans ej.symm)
      ·exact hfl.2.2 b (ek▸hb) b (List.mem_flatMap.2 ⟨j,hj1,hb'⟩) rfl
     ·rcases List.mem_cons.1 hj with ej | hj1
      ·exact hfl.2.2 b (ej▸hb') b (List.mem_flatMap.2 ⟨k,hk1,hb⟩) rfl
      ·exact g2 k j hk1 hj1 hne b hb hb'
 obtain ⟨g1,g2⟩:=sep1 (dX H1 0) (Hn H1 0) n1.2.1;refine { os:=hg.os.trans h.os,tape:=hg.tape.trans h.tape,output:=hg.output.trans h.output,size:=Nat.le_trans h.size hg.size,old:=fun b hb hW=>?_,Dup:=fun b hb=>hg.Dup b (h.Dup b hb),Ddn:=fun b hb=>?_,Dlt:=hg.Dlt,defers:=h.defers,ntmps:=h.ntmps,slots:=fun t=>?_,blks:=fun id blk hbl=>?_,nob:=fun id hid=>?_,nodup:=fun id=>?_,sep:=fun i j hij b hbi=>?_,notD:=fun id b hbi=>?_,pins:=h.pins,gnodup:=n1.1,gsep:=fun i b hbi hm=>?_,gnotD:=fun b hbm=>?_,gi:=GI.mono h.gi hg.Dup fun b hb=>stays b (.inl hb) }
 ·rw[hg.old b (Nat.lt_of_lt_of_le hb h.size) fun hm=>?_]
  ·exact h.old b hb hW
  ·obtain ⟨j,_,hbj⟩:=List.mem_flatMap.1 hm;rcases (h.notD j b hbj).2.2 with e | e
   ·omega
   ·exact hW e
 ·rcases hg.Ddn b hb with e | e
  ·exact h.Ddn b e
  ·exact .inr (oldOk b e)
 ·exact c8 hg.Dup _ _ _ _ _ (fun b hb=>stays b (hb.elim .inl (by simp))) (fun _ _=>rfl) (h.slots t)
 ·simp only[St.wrote] at hbl;split at hbl
  ·rename_i k hk
   have hbl':H1[k]?=some (some blk):=by
    cases hh:H1[k]? with
    | none=>rw[hh] at hbl;cases hbl
    | some o=>rw[hh] at hbl;simp only[Option.join_some] at hbl;rw[hbl]
   have hid:=iU M id k hk;have:=hb k blk hbl';rw[getD k id hid] at this;simp only[hbl',Option.join_some];exact jt (φ:=fun _=>φ id) (id:=0) (hno k blk hbl') rfl this
  ·rename_i hk;have hid:=oH M id hk;rcases h.blks id blk hbl with ⟨e,e'⟩ | ⟨p,arr,ty,f',h1,h2,h3,h4,h5,h6⟩
   ·exact .inl ⟨e,e'.congr fun b hb'=>stays b (.inr ⟨_,hid,hb'⟩)⟩
   ·refine .inr ⟨p,arr,ty,f',h1,h2,h3,?_,h5,cr hg.Dup _ _ _ _ _ _ (fun b hb'=>stays b (hb'.imp (fun hx=>hx) fun hm=>⟨_,hid,by rw[h5];exact List.mem_cons_of_mem _ hm⟩)) (fun _ _=>rfl) h6⟩;exact h4.congr (stays p.b (.inr ⟨_,hid,by rw[h5];exact List.mem_cons_self⟩))
 ·simp only[St.wrote] at hid;split at hid
  ·rename_i k hk;simp only[hid]
  ·exact h.nob id hid
 ·show (match iG M id with | some k=>(match (H1[k]?).join with | some _=>F1 k | none=>[]) | none=>F id).Nodup;split
  ·rename_i k hk;split
   ·rename_i blk hbl;refine g1 k ((sC H1 0 k).2 ⟨Nat.zero_le _,blk,?_⟩);rw[Nat.sub_zero];cases hh:H1[k]? with
    | none=>rw[hh] at hbl;cases hbl
    | some o=>rw[hh] at hbl;simp only[Option.join_some] at hbl;rw[hbl]
   ·exact List.nodup_nil
  ·exact h.nodup id
 ·intro hbj;cases hi:iG M i with
  | some ki =>
    rw[hi] at hbi;cases hj:iG M j with
    | some kj =>
      rw[hj] at hbj;have a1:=from1 i ki hi b hbi;have a2:=from1 j kj hj b hbj;refine g2 ki kj a1.1 a2.1 (fun e=>hij ?_) b a1.2 a2.2;have e1:=iU M i ki hi;have e2:=iU M j kj hj;rw[e,e2] at e1;exact(Option.some.inj e1).symm
    | none =>
      rw[hj] at hbj;exact Qo j (oH M j hj) b hbj (fresh1 i ki hi b hbi).1
  | none =>
    rw[hi] at hbi;cases hj:iG M j with
    | some kj =>
      rw[hj] at hbj;exact Qo i (oH M i hi) b hbi (fresh1 j kj hj b hbj).1
    | none =>
      rw[hj] at hbj;exact h.sep i j hij b hbi hbj
 ·cases hi:iG M id with
  | some ki =>
    rw[hi] at hbi;have:=fresh1 id ki hi b hbi;exact⟨this.2.2,this.2.1,oldOk b this.1⟩
  | none =>
    rw[hi] at hbi;have:=h.notD id b hbi;exact⟨notD' b this.2.1 (fun hm=>Qo id (oH M id hi) b hbi (.inr hm)) this.1,Nat.lt_of_lt_of_le this.2.1 hg.size,this.2.2⟩
 ·cases hi:iG M i with
  | some ki =>
    rw[hi] at hbi;have a1:=from1 i ki hi b hbi;exact n1.2.2 b hm b (List.mem_flatMap.2 ⟨ki,a1.1,a1.2⟩) rfl
  | none =>
    rw[hi] at hbi;exact Qo i (oH M i hi) b hbi (hf b (List.mem_append_left _ hm)).1
 ·have:=hf b (List.mem_append_left _ hbm);exact⟨this.2.2,this.2.1,oldOk b this.1⟩
theorem acj {P:Program} {f d k:Nat} {vs:List V} {res:V} {xs:List Value} {M:List Nat} {H0:List Blk} {H1:List (Option Blk)} (hP:ac P f H0 (vs.map (my M s.hp k)) res H1) (h:Cg X s a w)
  (hM:M.Nodup) (hH:M.map s.hp=H0.map some) (hn0:∀ blk ∈ H0,aC blk.es=true) (hn1:∀ (j:Nat) (blk:Blk),H1[j]?=some (some blk)->aC blk.es=true)
  (hv:∀ D φ F,RelD X s a w D φ F []->cg w D vs φ xs []) (hd:d < X.n) (hres:cn res=true) (hro:fx res=true) (hro1:∀ (j:Nat) (blk:Blk),H1[j]?=some (some blk)->d8 blk.es=true)
  (hf:∀ i,i < (b9 d 0 res).2.2->Fresh (s.wrote M H1) (d+1000 * i)/\d+1000 * i ∉ X.pin) :
  Calls P f xs.toArray w fun e w'=>∃ y,e=.returned y/\Cg X ((s.wrote M H1).took d res) (a.put (some d) y) w':=by
 obtain ⟨D,φ,F,h⟩:=h;have hvs:=hv D φ F h
 have hlen:H0.length=M.length:=by
  have:=congrArg List.length hH;simpa using this.symm
 have get:∀ (j:Nat) (blk:Blk),H0[j]?=some blk->∃ id,M[j]?=some id/\s.hp id=some blk:=fun j blk hj=>by
  have h1:(M.map s.hp)[j]?=some (some blk):=by rw[hH];simp[hj]
  rw[List.getElem?_map,Option.map_eq_some_iff] at h1;exact h1
 let D2:Nat->Prop:=fun b=>b < w.heap.size/\b ∉ M.flatMap F
 have hD2:∀ b,D b->D2 b:=fun b hb=>⟨h.Dlt b hb,fun hm=>by
  obtain ⟨j,_,hbj⟩:=List.mem_flatMap.1 hm;exact(h.notD j b hbj).1 hb⟩
 have hargs:=KO (M:=M) (hp:=s.hp) (k:=k) (p0:=fun j=>φ (M.getD j 0)) (D':=D2) (fun j id hj=>by simp[List.getD,hj]) hD2
  (fun id b hid hb=>⟨(h.notD id b hb).2.1,fun hm=>by
   obtain ⟨j,hj,hbj⟩:=List.mem_flatMap.1 hm;exact h.sep id j (fun e=>hid (e▸hj)) b hb hbj⟩) h.blks vs xs hvs
 have hfm:(List.range H0.length).flatMap (fun j=>F (M.getD j 0))=M.flatMap F:=by rw[hlen];exact kX M F
 have hl1:H1.length=M.length:=hP.2.1.trans hlen
 have hcall:=hP.2.2 w D2 xs (fun j=>φ (M.getD j 0)) (fun j=>F (M.getD j 0)) (fun b hb=>hb.1) (GI.mono h.gi hD2 fun _ _=>rfl) (fun j blk hj=>by
  obtain ⟨id,hid,hbl⟩:=get j blk hj;have e:M.getD j 0=id:=by simp[List.getD,hid]
  rw[e];have hno:=hn0 blk (List.mem_iff_getElem?.2 ⟨j,hj⟩);rcases h.blks id blk hbl with g | ⟨p,arr,ty,f',h1,h2,h3,h4,h5,h6⟩
  ·exact .inl g
  ·exact .inr ⟨p,arr,ty,f',h1,h2,h3,h4,h5,cr hD2 _ _ _ _ _ _ (fun _ _=>rfl) (fun i hm=>by rw[cS i _ hno] at hm;cases hm) h6⟩)
  (by rw[hfm];exact cG h M hM) (fun b hb=>by
   rw[hfm] at hb;obtain ⟨j,_,hbj⟩:=List.mem_flatMap.1 hb;exact⟨fun hx=>hx.2 hb,(h.notD j b hbj).2.1⟩) (by rw[hlen];exact hargs)
 refine hcall.mono ?_;rintro e w' ⟨y,D',fp,F1,rfl,hg,hc,hb1,hnd,hfr⟩;rw[hfm] at hg hfr;refine⟨y,rfl,?_⟩
 let D3:Nat->Prop:=fun b=>D b\/(w.heap.size<=b/\D' b)
 have hg3:Grow w D (M.flatMap F) w' D3 :=
  { hg with Dup:=fun b hb=>.inl hb,Ddn:=fun b hb=>hb.imp (fun hx=>hx) fun h=>.inl h.1,Dlt:=fun b hb=>hb.elim (fun hb=>Nat.lt_of_lt_of_le (h.Dlt b hb) hg.size) (fun hb=>hg.Dlt b hb.2) }
 have hfr3:∀ b,b ∈ fp++(dX H1 0).flatMap F1->(w.heap.size<=b\/b ∈ M.flatMap F)/\b < w'.heap.size/\¬D3 b:=fun b hb=>by
  have:=hfr b hb;refine⟨this.1,this.2.1,fun hx=>?_⟩;rcases hx with hx | hx
  ·exact this.2.2 (hg.Dup b (hD2 b hx))
  ·exact this.2.2 hx.2
 have hw:=h.wrote hM hl1 (fp:=fp) (F1:=F1) hg3 hn1 (fun j blk hj=>by
  rcases hb1 j blk hj with g | ⟨p,arr,ty,f',h1,h2,h3,h4,h5,h6⟩
  ·exact .inl g
  ·refine .inr ⟨p,arr,ty,f',h1,h2,h3,h4,h5,?_⟩;exact Qu _ blk.es _ _ _ (hro1 j blk hj) h6) hnd hfr3
 have hc3:CV w' D3 res (fun _=>none) y fp:=Hw res _ _ _ hro hc;rw[<- List.append_nil fp] at hw;obtain ⟨φ',F',t1,t2,_⟩:=xd (d:=d) res 0 (s.wrote M H1) φ _ y fp [] hres hw hc3 (fun i _ hi=>hf i hi);exact⟨D3,φ',F',t1.rel.put d hd _ _ t2⟩
theorem aak {P:Program} {f d k:Nat} {vs:List V} {xs:List Value} {M:List Nat} {H0:List Blk} {R:V->List Blk->Prop} (hP:qp P f H0 (vs.map (my M s.hp k)) R) (h:Cg X s a w)
  (hM:M.Nodup) (hH:M.map s.hp=H0.map some) (hn0:∀ blk ∈ H0,aC blk.es=true) (hv:∀ D φ F,RelD X s a w D φ F []->cg w D vs φ xs []) (hd:d < X.n)
  (hR:∀ res l,R res l->l.length=H0.length->cn res=true/\fx res=true/\(∀ (j:Nat) (blk:Blk),(l.map some)[j]?=some (some blk)->aC blk.es=true/\d8 blk.es=true) /\
   ∀ i,i < (b9 d 0 res).2.2->Fresh (s.wrote M (l.map some)) (d+1000 * i)/\d+1000 * i ∉ X.pin) :
  Calls P f xs.toArray w fun e w'=>∃ y res l,R res l/\l.length=H0.length/\e=.returned y/\Cg X ((s.wrote M (l.map some)).took d res) (a.put (some d) y) w':=by
 obtain ⟨D,φ,F,h⟩:=h;have hvs:=hv D φ F h
 have hlen:H0.length=M.length:=by
  have:=congrArg List.length hH;simpa using this.symm
 have get:∀ (j:Nat) (blk:Blk),H0[j]?=some blk->∃ id,M[j]?=some id/\s.hp id=some blk:=fun j blk hj=>by
  have h1:(M.map s.hp)[j]?=some (some blk):=by rw[hH];simp[hj]
  rw[List.getElem?_map,Option.map_eq_some_iff] at h1;exact h1
 let D2:Nat->Prop:=fun b=>b < w.heap.size/\b ∉ M.flatMap F
 have hD2:∀ b,D b->D2 b:=fun b hb=>⟨h.Dlt b hb,fun hm=>by
  obtain ⟨j,_,hbj⟩:=List.mem_flatMap.1 hm;exact(h.notD j b hbj).1 hb⟩
 have hargs:=KO (M:=M) (hp:=s.hp) (k:=k) (p0:=fun j=>φ (M.getD j 0)) (D':=D2) (fun j id hj=>by simp[List.getD,hj]) hD2
  (fun id b hid hb=>⟨(h.notD id b hb).2.1,fun hm=>by
   obtain ⟨j,hj,hbj⟩:=List.mem_flatMap.1 hm;exact h.sep id j (fun e=>hid (e▸hj)) b hb hbj⟩) h.blks vs xs hvs
 have hfm:(List.range H0.length).flatMap (fun j=>F (M.getD j 0))=M.flatMap F:=by rw[hlen];exact kX M F
 have hcall:=hP.2 w D2 xs (fun j=>φ (M.getD j 0)) (fun j=>F (M.getD j 0)) (fun b hb=>hb.1) (GI.mono h.gi hD2 fun _ _=>rfl) (fun j blk hj=>by
  obtain ⟨id,hid,hbl⟩:=get j blk hj;have e:M.getD j 0=id:=by simp[List.getD,hid]
  rw[e];have hno:=hn0 blk (List.mem_iff_getElem?.2 ⟨j,hj⟩);rcases h.blks id blk hbl with g | ⟨p,arr,ty,f',h1,h2,h3,h4,h5,h6⟩
  ·exact .inl g
  ·exact .inr ⟨p,arr,ty,f',h1,h2,h3,h4,h5,cr hD2 _ _ _ _ _ _ (fun _ _=>rfl) (fun i hm=>by rw[cS i _ hno] at hm;cases hm) h6⟩)
  (by rw[hfm];exact cG h M hM) (fun b hb=>by
   rw[hfm] at hb;obtain ⟨j,_,hbj⟩:=List.mem_flatMap.1 hb;exact⟨fun hx=>hx.2 hb,(h.notD j b hbj).2.1⟩) (by rw[hlen];exact hargs)
 refine hcall.mono ?_;rintro e w' ⟨res,l,hRR,hll,y,D',fp,F1,rfl,hg,hc,hb1',hnd,hfr⟩;obtain ⟨hres,hro,hbs,hf⟩:=hR res l hRR hll;have hst:dX (l.map some) 0=List.range H0.length:=by rw[uG,hll,List.range_eq_range']
 have hl1:(l.map some).length=M.length:=by rw[List.length_map,hll,hlen]
 have hn1:∀ (j:Nat) (blk:Blk),(l.map some)[j]?=some (some blk)->aC blk.es=true:=fun j blk hj=>(hbs j blk hj).1;have hro1:∀ (j:Nat) (blk:Blk),(l.map some)[j]?=some (some blk)->d8 blk.es=true:=fun j blk hj=>(hbs j blk hj).2;have hb1:∀ k blk,(l.map some)[k]?=some (some blk)->cM w' D' (fun _=>φ (M.getD k 0)) 0 blk (F1 k):=fun k blk hk=>hb1' k blk (by rw[List.getElem?_map] at hk;cases hlk:l[k]?<;>simp_all);rw[<- hst] at hnd hfr;rw[hst] at hfr;rw[hfm] at hg hfr;rw[<- hst] at hfr;refine⟨y,res,l,hRR,hll,rfl,?_⟩
 let D3:Nat->Prop:=fun b=>D b\/(w.heap.size<=b/\D' b)
 have hg3:Grow w D (M.flatMap F) w' D3 :=
  { hg with Dup:=fun b hb=>.inl hb,Ddn:=fun b hb=>hb.imp (fun hx=>hx) fun h=>.inl h.1,Dlt:=fun b hb=>hb.elim (fun hb=>Nat.lt_of_lt_of_le (h.Dlt b hb) hg.size) (fun hb=>hg.Dlt b hb.2) }
 have hfr3:∀ b,b ∈ fp++(dX (l.map some) 0).flatMap F1->(w.heap.size<=b\/b ∈ M.flatMap F)/\b < w'.heap.size/\¬D3 b:=fun b hb=>by
  have:=hfr b hb;refine⟨this.1,this.2.1,fun hx=>?_⟩;rcases hx with hx | hx
  ·exact this.2.2 (hg.Dup b (hD2 b hx))
  ·exact this.2.2 hx.2
 have hw:=h.wrote hM hl1 (fp:=fp) (F1:=F1) hg3 hn1 (fun j blk hj=>by
  rcases hb1 j blk hj with g | ⟨p,arr,ty,f',h1,h2,h3,h4,h5,h6⟩
  ·exact .inl g
  ·refine .inr ⟨p,arr,ty,f',h1,h2,h3,h4,h5,?_⟩;exact Qu _ blk.es _ _ _ (hro1 j blk hj) h6) hnd hfr3
 have hc3:CV w' D3 res (fun _=>none) y fp:=Hw res _ _ _ hro hc;rw[<- List.append_nil fp] at hw;obtain ⟨φ',F',t1,t2,_⟩:=xd (d:=d) res 0 (s.wrote M (l.map some)) φ _ y fp [] hres hw hc3 (fun i _ hi=>hf i hi);exact⟨D3,φ',F',t1.rel.put d hd _ _ t2⟩
def jm (Z:List Nat) (hp:Nat->Option Blk) (id:Nat):Option Blk:=if id ∈ Z then hp id else none
def St.sunk (s:St) (Z:List Nat):St:={ s with hp:=fun id=>if id ∈ Z then none else s.hp id }
theorem RelD.sunk {G:List Nat} (h:RelD X s a w D φ F G) (Z:List Nat):RelD X (s.sunk Z) a w (fun b=>D b\/∃ z,z ∈ Z/\b ∈ F z) φ (fun k=>if k ∈ Z then [] else F k) G:=by
 have sub:∀ k b,b ∈ (if k ∈ Z then [] else F k)->k ∉ Z/\b ∈ F k:=fun k b hb=>by
  split at hb
  ·cases hb
  ·rename_i e;exact⟨e,hb⟩
 have mono:∀ (v:V) (x:Value) (fp:List Nat),CV w D v φ x fp->CV w (fun b=>D b\/∃ z,z ∈ Z/\b ∈ F z) v φ x fp:=fun v x fp hv=>c8 (fun _ h=>.inl h) v φ φ x fp (fun _ _=>rfl) (fun _ _=>rfl) hv;refine { h with Dup:=fun b hb=>.inl (h.Dup b hb),Ddn:=fun b hb=>?_,Dlt:=fun b hb=>?_,slots:=fun t=>mono _ _ _ (h.slots t),blks:=fun id b hb'=>?_,nob:=fun id hid=>?_,nodup:=fun id=>?_,sep:=fun k k' hkk b hb1 hb2=>?_,notD:=fun id b hb1=>?_,gsep:=fun k b hb1=>?_,gnotD:=fun b hb1=>?_,gi:=GI.mono h.gi (fun _ h=>.inl h) fun _ _=>rfl }
 ·rcases hb with hb | ⟨z,_,hb⟩
  ·exact h.Ddn b hb
  ·exact .inr (h.notD z b hb).2.2
 ·rcases hb with hb | ⟨z,_,hb⟩
  ·exact h.Dlt b hb
  ·exact(h.notD z b hb).2.1
 ·simp only[St.sunk] at hb';split at hb'
  ·cases hb'
  ·rename_i e;rw[if_neg e];rcases h.blks id b hb' with h0 | ⟨p,arr,ty,f',h1,h2,h3,h4,h5,h6⟩
   ·exact .inl h0
   ·exact .inr ⟨p,arr,ty,f',h1,h2,h3,h4,h5,cr (fun _ h=>.inl h) _ _ _ _ _ _ (fun _ _=>rfl) (fun _ _=>rfl) h6⟩
 ·simp only[St.sunk] at hid;split
  ·rfl
  ·rename_i e;rw[if_neg e] at hid;exact h.nob id hid
 ·split
  ·exact List.nodup_nil
  ·exact h.nodup id
 ·obtain ⟨_,g1⟩:=sub k b hb1;obtain ⟨_,g2⟩:=sub k' b hb2;exact h.sep k k' hkk b g1 g2
 ·obtain ⟨g0,g1⟩:=sub id b hb1;have:=h.notD id b g1;refine⟨fun hd=>?_,this.2⟩;rcases hd with hd | ⟨z,hz,hd⟩
  ·exact this.1 hd
  ·exact h.sep id z (fun e=>g0 (e▸hz)) b g1 hd
 ·obtain ⟨_,g1⟩:=sub k b hb1;exact h.gsep k b g1
 ·have:=h.gnotD b hb1;refine⟨fun hd=>?_,this.2⟩;rcases hd with hd | ⟨z,_,hd⟩
  ·exact this.1 hd
  ·exact h.gsep z b hd hb1
omit [GI] in
theorem NT {M Z:List Nat} {hp:Nat->Option Blk} {k:Nat} {p0:Nat->Option Pl} (hp0:∀ j id,M[j]?=some id->p0 j=φ id) (hb:∀ id blk,hp id=some blk->cM w D φ id blk (F id)) (vs:List V) (xs:List Value) (h:cg w D vs φ xs []) :
  cg w (fun b=>D b\/∃ z,z ∈ Z/\b ∈ F z) (vs.map (my M (jm Z hp) k)) (BF M.length p0) xs []:=by
 refine KO (F:=fun id=>if id ∈ Z then F id else []) hp0 (fun _ h=>.inl h) (fun id b _ hb=>?_) (fun id blk hbl=>?_) vs xs h
 ·split at hb
  ·rename_i hz;exact .inr ⟨id,hz,hb⟩
  ·cases hb
 ·unfold jm at hbl;split at hbl
  ·rename_i hz;rw[if_pos hz];exact hb id blk hbl
  ·cases hbl
theorem TI {P:Program} {f d k:Nat} {vs:List V} {res:V} {xs:List Value} {M Z:List Nat} {H0:List Blk} {H1:List (Option Blk)} (hP:ac P f H0 (vs.map (my M (jm Z s.hp) k)) res H1) (h:Cg X s a w)
  (hM:M.Nodup) (hMZ:∀ z ∈ Z,z ∉ M) (hH:M.map s.hp=H0.map some) (hn0:∀ blk ∈ H0,aC blk.es=true) (hn1:∀ (j:Nat) (blk:Blk),H1[j]?=some (some blk)->aC blk.es=true)
  (hv:∀ D φ F,RelD X s a w D φ F []->cg w D vs φ xs []) (hd:d < X.n) (hres:cn res=true)
  (hf:∀ i,i < (b9 d 0 res).2.2->Fresh ((s.sunk Z).wrote M H1) (d+1000 * i)/\d+1000 * i ∉ X.pin) :
  Calls P f xs.toArray w fun e w'=>∃ y,e=.returned y/\Cg X (((s.sunk Z).wrote M H1).took d res) (a.put (some d) y) w':=by
 obtain ⟨D0,φ,F0,h0⟩:=h;have hvs:=hv D0 φ F0 h0;have hargs:=NT (w:=w) (D:=D0) (F:=F0) (M:=M) (Z:=Z) (hp:=s.hp) (k:=k) (p0:=fun j=>φ (M.getD j 0)) (fun j id hj=>by simp[List.getD,hj]) h0.blks vs xs hvs;have h:=h0.sunk Z
 have hlen:H0.length=M.length:=by
  have:=congrArg List.length hH;simpa using this.symm
 have get:∀ (j:Nat) (blk:Blk),H0[j]?=some blk->∃ id,M[j]?=some id/\(s.sunk Z).hp id=some blk:=fun j blk hj=>by
  have h1:(M.map s.hp)[j]?=some (some blk):=by rw[hH];simp[hj]
  rw[List.getElem?_map,Option.map_eq_some_iff] at h1;obtain ⟨id,h2,h3⟩:=h1;refine⟨id,h2,?_⟩;have:id ∉ Z:=fun hz=>hMZ id hz (List.mem_iff_getElem?.2 ⟨j,h2⟩);simp only[St.sunk,if_neg this];exact h3
 generalize (fun b=>D0 b\/∃ z,z ∈ Z/\b ∈ F0 z)=D at h hargs;generalize (fun k=>if k ∈ Z then [] else F0 k)=F at h;have hfm:(List.range H0.length).flatMap (fun j=>F (M.getD j 0))=M.flatMap F:=by rw[hlen];exact kX M F
 have hl1:H1.length=M.length:=hP.2.1.trans hlen
 have hcall:=hP.2.2 w D xs (fun j=>φ (M.getD j 0)) (fun j=>F (M.getD j 0)) h.Dlt h.gi (fun j blk hj=>by
  obtain ⟨id,hid,hbl⟩:=get j blk hj;have e:M.getD j 0=id:=by simp[List.getD,hid]
  rw[e];exact jt (φ:=φ) (id:=id) (hn0 blk (List.mem_iff_getElem?.2 ⟨j,hj⟩)) rfl (h.blks id blk hbl))
  (by rw[hfm];exact cG h M hM) (fun b hb=>by
   rw[hfm] at hb;obtain ⟨j,_,hbj⟩:=List.mem_flatMap.1 hb;exact⟨(h.notD j b hbj).1,(h.notD j b hbj).2.1⟩) (by rw[hlen];exact hargs)
 refine hcall.mono ?_;rintro e w' ⟨y,D',fp,F1,rfl,hg,hc,hb1,hnd,hfr⟩;rw[hfm] at hg hfr;refine⟨y,rfl,?_⟩;have hw:=h.wrote hM hl1 (fp:=fp) (F1:=F1) hg hn1 hb1 hnd hfr;rw[<- List.append_nil fp] at hw;obtain ⟨φ',F',t1,t2,_⟩:=xd (d:=d) res 0 ((s.sunk Z).wrote M H1) φ _ y fp [] hres hw hc (fun i _ hi=>hf i hi);exact⟨D',φ',F',t1.rel.put d hd _ _ t2⟩
theorem Ys {P:Program} {f d k:Nat} {vs:List V} {xs:List Value} {M Z:List Nat} {H0:List Blk} {R:V->List Blk->Prop} (hP:qp P f H0 (vs.map (my M (jm Z s.hp) k)) R) (h:Cg X s a w)
  (hM:M.Nodup) (hMZ:∀ z ∈ Z,z ∉ M) (hH:M.map s.hp=H0.map some) (hn0:∀ blk ∈ H0,aC blk.es=true) (hv:∀ D φ F,RelD X s a w D φ F []->cg w D vs φ xs []) (hd:d < X.n)
  (hR:∀ res l,R res l->l.length=H0.length->cn res=true/\(∀ (j:Nat) (blk:Blk),(l.map some)[j]?=some (some blk)->aC blk.es=true) /\
   ∀ i,i < (b9 d 0 res).2.2->Fresh ((s.sunk Z).wrote M (l.map some)) (d+1000 * i)/\d+1000 * i ∉ X.pin) :
  Calls P f xs.toArray w fun e w'=>∃ y res l,R res l/\l.length=H0.length/\e=.returned y/\Cg X (((s.sunk Z).wrote M (l.map some)).took d res) (a.put (some d) y) w':=by
 obtain ⟨D0,φ,F0,h0⟩:=h;have hvs:=hv D0 φ F0 h0;have hargs:=NT (w:=w) (D:=D0) (F:=F0) (M:=M) (Z:=Z) (hp:=s.hp) (k:=k) (p0:=fun j=>φ (M.getD j 0)) (fun j id hj=>by simp[List.getD,hj]) h0.blks vs xs hvs;have h:=h0.sunk Z
 have hlen:H0.length=M.length:=by
  have:=congrArg List.length hH;simpa using this.symm
 have get:∀ (j:Nat) (blk:Blk),H0[j]?=some blk->∃ id,M[j]?=some id/\(s.sunk Z).hp id=some blk:=fun j blk hj=>by
  have h1:(M.map s.hp)[j]?=some (some blk):=by rw[hH];simp[hj]
  rw[List.getElem?_map,Option.map_eq_some_iff] at h1;obtain ⟨id,h2,h3⟩:=h1;refine⟨id,h2,?_⟩;have:id ∉ Z:=fun hz=>hMZ id hz (List.mem_iff_getElem?.2 ⟨j,h2⟩);simp only[St.sunk,if_neg this];exact h3
 generalize (fun b=>D0 b\/∃ z,z ∈ Z/\b ∈ F0 z)=D at h hargs;generalize (fun k=>if k ∈ Z then [] else F0 k)=F at h;have hfm:(List.range H0.length).flatMap (fun j=>F (M.getD j 0))=M.flatMap F:=by rw[hlen];exact kX M F
 have hcall:=hP.2 w D xs (fun j=>φ (M.getD j 0)) (fun j=>F (M.getD j 0)) h.Dlt h.gi (fun j blk hj=>by
  obtain ⟨id,hid,hbl⟩:=get j blk hj;have e:M.getD j 0=id:=by simp[List.getD,hid]
  rw[e];exact jt (φ:=φ) (id:=id) (hn0 blk (List.mem_iff_getElem?.2 ⟨j,hj⟩)) rfl (h.blks id blk hbl))
  (by rw[hfm];exact cG h M hM) (fun b hb=>by
   rw[hfm] at hb;obtain ⟨j,_,hbj⟩:=List.mem_flatMap.1 hb;exact⟨(h.notD j b hbj).1,(h.notD j b hbj).2.1⟩) (by rw[hlen];exact hargs)
 refine hcall.mono ?_;rintro e w' ⟨res,l,hRR,hll,y,D',fp,F1,rfl,hg,hc,hb1',hnd,hfr⟩;obtain ⟨hres,hn1,hf⟩:=hR res l hRR hll;have hst:dX (l.map some) 0=List.range H0.length:=by rw[uG,hll,List.range_eq_range']
 have hl1:(l.map some).length=M.length:=by rw[List.length_map,hll,hlen]
 have hb1:∀ k blk,(l.map some)[k]?=some (some blk)->cM w' D' (fun _=>φ (M.getD k 0)) 0 blk (F1 k):=fun k blk hk=>hb1' k blk (by rw[List.getElem?_map] at hk;cases hlk:l[k]?<;>simp_all);rw[<- hst] at hnd hfr;rw[hst] at hfr;rw[hfm] at hg hfr;rw[<- hst] at hfr;refine⟨y,res,l,hRR,hll,rfl,?_⟩;have hw:=h.wrote hM hl1 (fp:=fp) (F1:=F1) hg hn1 hb1 hnd hfr;rw[<- List.append_nil fp] at hw;obtain ⟨φ',F',t1,t2,_⟩:=xd (d:=d) res 0 ((s.sunk Z).wrote M (l.map some)) φ _ y fp [] hres hw hc (fun i _ hi=>hf i hi);exact⟨D',φ',F',t1.rel.put d hd _ _ t2⟩
end
end Go.Abs
namespace Go.Abs
variable [GI]
mutual
def Ki (g:Nat->Nat):V->V
 | .ref k a b=>.ref (g k) a b
 | .sl k a n=>.sl (g k) a n
 | .agg cs=>.agg (EV g cs)
 | .tup cs=>.tup (EV g cs)
 | .clo f cs=>.clo f (EV g cs)
 | .undef=>.undef
 | .v x=>.v x
 | .rp s es a b=>.rp s es a b
 | .ro s es=>.ro s es
 | .own s es=>.own s es
def EV (g:Nat->Nat):List V->List V
 | []=>[]
 | c::cs=>Ki g c::EV g cs
end
attribute [simp] Ki EV
def xj (g:Nat->Nat) (b:Blk):Blk:=⟨b.s,EV g b.es⟩
attribute [simp] xj
section
variable {w : World} {D : Nat → Prop} {φ φ' : Nat → Option Pl} {g : Nat → Nat}
omit [GI] in
mutual
theorem Qv:∀ (v:V) (x:Value) (fp:List Nat),(∀ id,bI id v=true->φ' (g id)=φ id)->CV w D v φ x fp->CV w D (Ki g v) φ' x fp
 | .undef,x,fp,_,h=>by simpa [CV] using h
 | .v y,x,fp,_,h=>by simpa [CV] using h
 | .rp _ _ _ _,x,fp,_,h=>by simpa [CV] using h
 | .ro _ _,x,fp,_,h=>by simpa [CV] using h
 | .own _ _,x,fp,_,h=>by simpa [CV] using h
 | .ref k a b,x,fp,hm,h=>by
   simp only[Ki,CV] at h ⊢;rw[hm k (by simp[bI])];exact h
 | .sl k a n,x,fp,hm,h=>by
   simp only[Ki,CV] at h ⊢;rw[hm k (by simp[bI])];exact h
 | .agg cs,x,fp,hm,h=>by
   simp only[Ki,CV] at h ⊢;obtain ⟨xs,rfl,h⟩:=h;exact⟨xs,rfl,KQ cs _ _ (fun id hi=>hm id (by simpa [bI] using hi)) h⟩
 | .tup cs,x,fp,hm,h=>by
   simp only[Ki,CV] at h ⊢;obtain ⟨xs,rfl,h⟩:=h;exact⟨xs,rfl,KQ cs _ _ (fun id hi=>hm id (by simpa [bI] using hi)) h⟩
 | .clo f cs,x,fp,hm,h=>by
   simp only[Ki,CV] at h ⊢;obtain ⟨xs,rfl,h⟩:=h;exact⟨xs,rfl,KQ cs _ _ (fun id hi=>hm id (by simpa [bI] using hi)) h⟩
theorem KQ:∀ (cs:List V) (xs:List Value) (fp:List Nat),(∀ id,a7 id cs=true->φ' (g id)=φ id)->cg w D cs φ xs fp->cg w D (EV g cs) φ' xs fp
 | [],xs,fp,_,h=>by simpa [cg] using h
 | c::cs,xs,fp,hm,h=>by
   simp only[EV,cg] at h ⊢;obtain ⟨x,xs',f1,f2,rfl,rfl,h1,h2⟩:=h;exact⟨x,xs',f1,f2,rfl,rfl,Qv c _ _ (fun id hi=>hm id (by simp[a7,hi])) h1,KQ cs _ _ (fun id hi=>hm id (by simp[a7,hi])) h2⟩
end
omit [GI] in
theorem Y7 {s:Nat}:∀ (cs:List V) (xs:List Value) (fp:List Nat),(∀ id,a7 id cs=true->φ' (g id)=φ id)->CR w D s cs φ xs fp->CR w D s (EV g cs) φ' xs fp
 | [],xs,fp,_,h=>by simpa [CR] using h
 | c::cs,xs,fp,hm,h=>by
   simp only[EV,CR] at h ⊢;obtain ⟨x,rest,f1,f2,rfl,hs,rfl,h1,h2⟩:=h;exact⟨x,rest,f1,f2,rfl,hs,rfl,Qv c _ _ (fun id hi=>hm id (by simp[a7,hi])) h1,Y7 cs _ _ (fun id hi=>hm id (by simp[a7,hi])) h2⟩
omit [GI] in
theorem aaj:∀ cs:List V,EV g cs=[]↔cs=[]
 | []=>by simp
 | c::cs=>by simp
omit [GI] in
theorem sI {id id':Nat} {blk:Blk} {f:List Nat} (hid:φ' id'=φ id) (hm:∀ i,a7 i blk.es=true->φ' (g i)=φ i) (h:cM w D φ id blk f):cM w D φ' id' (xj g blk) f:=by
 rcases h with ⟨h1,h2⟩ | ⟨p,arr,ty,f',h1,h2,h3,h4,h5,h6⟩
 ·rcases h2 with ⟨h2,h3⟩ | ⟨b,m,rfl,h3⟩
  ·exact .inl ⟨hid.trans h1,.inl ⟨(aaj _).2 h2,h3⟩⟩
  ·exact .inl ⟨hid.trans h1,.inr ⟨b,m,by simp[xj,bo,Qj],h3⟩⟩
 ·exact .inr ⟨p,arr,ty,f',hid.trans h1,h2,h3,h4,h5,Y7 _ _ _ hm h6⟩
variable {X : Ctx} {s : St} {a : Act} {F : Nat → List Nat} {G f : List Nat}
theorem RelD.settle_back (h:RelD X s a w D φ F (f++G)) (d:Nat) (hd:s.hp d=none) (blk:Blk) (hb:cM w D φ d blk f) :
  RelD X { s with hp:=ca s.hp d (some blk) } a w D φ (ca F d f) G:=by
 have hF:F d=[]:=h.nob d hd;refine { h with blks:=fun id b' hb'=>?_,nob:=fun id hn=>?_,nodup:=fun id=>?_,sep:=fun i j hij b hbf=>?_,notD:=fun id b hb=>?_,gnodup:=(List.nodup_append.1 h.gnodup).2.1,gsep:=fun i b hb=>?_,gnotD:=fun b hb=>h.gnotD b (List.mem_append_right _ hb) }
 ·by_cases e:id=d
  ·subst e;simp at hb';subst hb';simpa using hb
  ·simp only[ca,e,if_false] at hb' ⊢;exact h.blks id b' hb'
 ·by_cases e:id=d
  ·subst e;simp at hn
  ·simp only[ca,e,if_false] at hn ⊢;exact h.nob id hn
 ·by_cases e:id=d
  ·subst e;simp only[bQ];exact(List.nodup_append.1 h.gnodup).1
  ·simp only[ca,e,if_false];exact h.nodup id
 ·by_cases e:i=d
  ·subst e;simp only[bQ] at hbf;rw[bC _ _ (Ne.symm hij)];exact fun hm=>h.gsep j b hm (List.mem_append_left _ hbf)
  ·rw[bC _ _ e] at hbf;by_cases e2:j=d
   ·subst e2;simp only[bQ];exact fun hm=>h.gsep i b hbf (List.mem_append_left _ hm)
   ·rw[bC _ _ e2];exact h.sep i j hij b hbf
 ·by_cases e:id=d
  ·subst e;simp only[bQ] at hb;exact h.gnotD b (List.mem_append_left _ hb)
  ·rw[bC _ _ e] at hb;exact h.notD id b hb
 ·by_cases e:i=d
  ·subst e;simp only[bQ] at hb;exact fun hm=>(List.nodup_append.1 h.gnodup).2.2 b hb b hm rfl
  ·rw[bC _ _ e] at hb;exact fun hm=>h.gsep i b hb (List.mem_append_right _ hm)
theorem RelD.swap (h:RelD X s a w D φ F G) {w':World} {D':Nat->Prop} {G':List Nat} (hg:Grow w D G w' D') (hn:G'.Nodup)
  (hf:∀ b,b ∈ G'->(w.heap.size<=b\/b ∈ G)/\b < w'.heap.size/\¬D' b):RelD X s a w' D' φ F G':=by
 have stayD:∀ b,D b->w'.heap[b]?=w.heap[b]?:=fun b hb=>hg.old b (h.Dlt b hb) fun hm=>(h.gnotD b hm).1 hb;have stayF:∀ id b,b ∈ F id->w'.heap[b]?=w.heap[b]?:=fun id b hb=>hg.old b (h.notD id b hb).2.1 (h.gsep id b hb)
 have oldOk:∀ b,(w.heap.size<=b\/b ∈ G)->X.w0.heap.size<=b\/b ∈ X.W:=fun b hb=>by
  rcases hb with hb | hb
  ·exact .inl (Nat.le_trans h.size hb)
  ·exact(h.gnotD b hb).2.2
 refine { os:=hg.os.trans h.os,tape:=hg.tape.trans h.tape,output:=hg.output.trans h.output,size:=Nat.le_trans h.size hg.size,old:=fun b hb hW=>?_,Dup:=fun b hb=>hg.Dup b (h.Dup b hb),Ddn:=fun b hb=>?_,Dlt:=hg.Dlt,defers:=h.defers,ntmps:=h.ntmps,slots:=fun t=>?_,blks:=fun id blk hbl=>?_,nob:=h.nob,nodup:=h.nodup,sep:=h.sep,notD:=fun id b hb=>?_,pins:=h.pins,gnodup:=hn,gsep:=fun i b hb hm=>?_,gnotD:=fun b hb=>?_,gi:=GI.mono h.gi hg.Dup stayD }
 ·rw[hg.old b (Nat.lt_of_lt_of_le hb h.size) fun hm=>?_]
  ·exact h.old b hb hW
  ·rcases (h.gnotD b hm).2.2 with e | e
   ·omega
   ·exact hW e
 ·rcases hg.Ddn b hb with e | e
  ·exact h.Ddn b e
  ·exact .inr (oldOk b e)
 ·exact c8 hg.Dup _ _ _ _ _ (fun b hb=>hb.elim (stayD b) (by simp)) (fun _ _=>rfl) (h.slots t)
 ·rcases h.blks id blk hbl with ⟨e,e'⟩ | ⟨p,arr,ty,f',h1,h2,h3,h4,h5,h6⟩
  ·exact .inl ⟨e,e'.congr fun b hb=>stayF id b hb⟩
  ·refine .inr ⟨p,arr,ty,f',h1,h2,h3,h4.congr (stayF id p.b (by rw[h5];exact List.mem_cons_self)),h5,cr hg.Dup _ _ _ _ _ _ (fun b hb=>hb.elim (stayD b) fun hm=>stayF id b (by rw[h5];exact List.mem_cons_of_mem _ hm)) (fun _ _=>rfl) h6⟩
 ·have h1:=h.notD id b hb;refine⟨fun hd=>?_,Nat.lt_of_lt_of_le h1.2.1 hg.size,h1.2.2⟩;rcases hg.Ddn b hd with e | e | e
  ·exact h1.1 e
  ·omega
  ·exact h.gsep id b hb e
 ·have h1:=h.notD i b hb;rcases (hf b hm).1 with e | e
  ·omega
  ·exact h.gsep i b hb e
 ·have h1:=hf b hb;exact⟨h1.2.2,h1.2.1,oldOk b h1.1⟩
def St.off (s:St) (M:List Nat):St:={ s with hp:=fun id=>if id ∈ M then none else s.hp id }
theorem RelD.releases:∀ (M:List Nat) {s:St} {F:Nat->List Nat} {G:List Nat},M.Nodup->RelD X s a w D φ F G->RelD X (s.off M) a w D φ (fun id=>if id ∈ M then [] else F id) (M.flatMap F++G)
 | [],s,F,G,_,h=>by simpa [St.off] using h
 | m::M,s,F,G,hM,h=>by
   rw[List.nodup_cons] at hM;have h1:=RelD.releases M hM.2 (h.release m)
   have e1:(St.off { s with hp:=ca s.hp m none } M)=s.off (m::M):=by
    unfold St.off;congr 1;funext id;by_cases e:id=m
    ·subst e;simp
    ·simp[ca,e]
   have e2:(fun id=>if id ∈ M then [] else ca F m [] id)=fun id=>if id ∈ m::M then [] else F id:=by
    funext id;by_cases e:id=m
    ·subst e;simp
    ·simp[ca,e]
   have e3:M.flatMap (ca F m [])=M.flatMap F:=by
    have:∀ l:List Nat,m ∉ l->l.flatMap (ca F m [])=l.flatMap F:=fun l=>by
     induction l with
     | nil=>exact fun _=>rfl
     | cons x l ih =>
       intro hx;rw[List.mem_cons,not_or] at hx;rw[List.flatMap_cons,List.flatMap_cons,ih hx.2,bC _ _ (fun e=>hx.1 e.symm)]
    exact this M hM.1
   rw[e1,e2,e3] at h1;refine h1.gperm ?_;rw[List.flatMap_cons,<- List.append_assoc];exact List.Perm.append_right _ List.perm_append_comm
theorem RelD.settles:∀ (L:List (Nat×Blk)) {fs:List (List Nat)} {s:St} {F:Nat->List Nat} {G:List Nat},(L.map (·.1)).Nodup->(∀ p ∈ L,s.hp p.1=none)->fs.length=L.length ->
  (∀ (k:Nat) (p:Nat×Blk) (f:List Nat),L[k]?=some p->fs[k]?=some f->cM w D φ p.1 p.2 f)->RelD X s a w D φ F (fs.flatten++G)->∃ F',RelD X { s with hp:=qV s.hp L } a w D φ F' G
 | [],fs,s,F,G,_,_,hl,_,h=>by
   have:fs=[]:=List.eq_nil_of_length_eq_zero hl;subst this;exact⟨F,by simpa [qV] using h⟩
 | (d,blk)::L,fs,s,F,G,hn,hno,hl,hb,h=>by
   cases fs with
   | nil=>simp at hl
   | cons f fs =>
     rw[List.map_cons,List.nodup_cons] at hn;rw[List.flatten_cons,List.append_assoc] at h;have h1:=h.settle_back d (hno (d,blk) (by simp)) blk (hb 0 _ f rfl rfl)
     exact RelD.settles L hn.2 (fun p hp=>by
      have hne:p.1≠d:=fun e=>hn.1 (by rw[<- e];exact List.mem_map.2 ⟨p,hp,rfl⟩);simp only[ca,hne,if_false];exact hno p (List.mem_cons_of_mem _ hp)) (by simpa using hl) (fun k p g hk hg=>hb (k+1) p g hk hg) h1
def Cf (P:Program) (f:Nat) (H0:List Blk) (args:List V) (R:V->List Blk->Option Blk->Prop):Prop :=
 dk P f=true/\∀ (w:World) (D:Nat->Prop) (xs:List Value) (p0:Nat->Option Pl) (F0:Nat->List Nat),(∀ b,D b->b < w.heap.size)->GI.holds w D ->
  (∀ k blk,H0[k]?=some blk->cM w D (BF H0.length p0) (gL k) blk (F0 k))->((List.range H0.length).flatMap F0).Nodup->(∀ b,b ∈ (List.range H0.length).flatMap F0->¬D b/\b < w.heap.size) ->
  cg w D args (BF H0.length p0) xs [] ->
  Calls P f xs.toArray w fun e w'=>∃ res l nw,R res l nw/\l.length=H0.length/\∃ (y:Value) (D':Nat->Prop) (p1:Nat->Option Pl) (fs:List (List Nat)) (fn:List Nat),e=.returned y/\Grow w D ((List.range H0.length).flatMap F0) w' D'/\(∀ k,k < H0.length->p1 k=p0 k) /\
   CV w' D' res (BF (H0.length+1) p1) y []/\fs.length=l.length/\(∀ (k:Nat) (blk:Blk) (g:List Nat),l[k]?=some blk->fs[k]?=some g->cM w' D' (BF (H0.length+1) p1) (gL k) blk g) /\
   (match nw with | some blk=>cM w' D' (BF (H0.length+1) p1) (gL H0.length) blk fn | none=>fn=[])/\(fn++fs.flatten).Nodup /\
   ∀ b,b ∈ fn++fs.flatten->(w.heap.size<=b\/b ∈ (List.range H0.length).flatMap F0)/\b < w'.heap.size/\¬D' b
def upI (M:List Nat) (id:Nat):Nat:=match iG M id with | some k=>gL k | none=>id
def SF (M:List Nat) (d id:Nat):Nat:=if 1000000<=id/\id < 1000000+M.length then M.getD (id - 1000000) 0 else if id=1000000+M.length then d else id
def WW (n:Nat) (v:V):Prop:=∀ id,bI id v=true->1000000<=id/\id < 1000000+n
def Kj (n:Nat) (vs:List V):Prop:=∀ id,a7 id vs=true->1000000<=id/\id < 1000000+n
def St.back (s:St) (M:List Nat) (d:Nat) (l:List Blk) (nw:Option Blk):St :=
 { s with hp:=qV (match nw with | some b=>ca (s.off M).hp d (some (xj (SF M d) b)) | none=>(s.off M).hp) (M.zip (l.map (xj (SF M d)))) }
theorem W1 {P:Program} {f d k:Nat} {vs:List V} {xs:List Value} {M Z:List Nat} {H0:List Blk} {R:V->List Blk->Option Blk->Prop} (hP:Cf P f H0 (vs.map (my M (jm Z s.hp) k)) R) (h:Cg X s a w)
  (hM:M.Nodup) (hMZ:∀ z ∈ Z,z ∉ M) (hH:M.map (fun id=>(s.hp id).map (xj (upI M)))=H0.map some) (hin:∀ id ∈ M,∀ blk,s.hp id=some blk->∀ i,a7 i blk.es=true->i ∈ M)
  (hv:∀ D φ F,RelD X s a w D φ F []->cg w D vs φ xs []) (hd:d < X.n)
  (hR:∀ res l nw,R res l nw->l.length=H0.length->WW (H0.length+if nw.isSome then 1 else 0) res/\(∀ blk ∈ l,Kj (H0.length+if nw.isSome then 1 else 0) blk.es)/\(∀ blk,nw=some blk->Kj H0.length blk.es/\Fresh (s.sunk Z) d/\d ∉ X.pin)) :
  Calls P f xs.toArray w fun e w'=>∃ y res l nw,R res l nw/\l.length=H0.length/\e=.returned y/\Cg X { (s.sunk Z).back M d l nw with sl:=ca s.sl d (Ki (SF M d) res) } (a.put (some d) y) w':=by
 obtain ⟨D0,φ,F0,h0⟩:=h;have hvs:=hv D0 φ F0 h0;have hargs:=NT (w:=w) (D:=D0) (F:=F0) (M:=M) (Z:=Z) (hp:=s.hp) (k:=k) (p0:=fun j=>φ (M.getD j 0)) (fun j id hj=>by simp[List.getD,hj]) h0.blks vs xs hvs;have h:=h0.sunk Z
 have hlen:H0.length=M.length:=by
  have:=congrArg List.length hH;simpa using this.symm
 have get:∀ (j:Nat) (blk:Blk),H0[j]?=some blk->∃ id b0,M[j]?=some id/\(s.sunk Z).hp id=some b0/\s.hp id=some b0/\blk=xj (upI M) b0:=fun j blk hj=>by
  have h1:(M.map (fun id=>(s.hp id).map (xj (upI M))))[j]?=some (some blk):=by rw[hH];simp[hj]
  rw[List.getElem?_map,Option.map_eq_some_iff] at h1;obtain ⟨id,h2,h3⟩:=h1;obtain ⟨b0,h4,h5⟩:=Option.map_eq_some_iff.1 h3;refine⟨id,b0,h2,?_,h4,h5.symm⟩;have:id ∉ Z:=fun hz=>hMZ id hz (List.mem_iff_getElem?.2 ⟨j,h2⟩);simp only[St.sunk,if_neg this];exact h4
 generalize (fun b=>D0 b\/∃ z,z ∈ Z/\b ∈ F0 z)=D at h hargs;generalize (fun k=>if k ∈ Z then [] else F0 k)=F at h;have hfm:(List.range H0.length).flatMap (fun j=>F (M.getD j 0))=M.flatMap F:=by rw[hlen];exact kX M F
 have hup:∀ id ∈ M,BF M.length (fun j=>φ (M.getD j 0)) (upI M id)=φ id:=fun id hid=>by
  obtain ⟨j,hj⟩:=List.mem_iff_getElem?.1 hid;have hjl:=(List.getElem?_eq_some_iff.1 hj).1;unfold upI;rw[RD M j id hM hj];dsimp only;rw[mY _ hjl];simp[List.getD,hj]
 have hcall:=hP.2 w D xs (fun j=>φ (M.getD j 0)) (fun j=>F (M.getD j 0)) h.Dlt h.gi (fun j blk hj=>by
  obtain ⟨id,b0,hid,hbl,hbs,rfl⟩:=get j blk hj;have e:M.getD j 0=id:=by simp[List.getD,hid]
  have hm:id ∈ M:=List.mem_iff_getElem?.2 ⟨j,hid⟩;rw[e,hlen];refine sI (id:=id) ?_ (fun i hi=>hup i (hin id hm b0 hbs i hi)) (h.blks id b0 hbl);have:=hup id hm;unfold upI at this;rw[RD M j id hM hid] at this;exact this)
  (by rw[hfm];exact cG h M hM) (fun b hb=>by
   rw[hfm] at hb;obtain ⟨j,_,hbj⟩:=List.mem_flatMap.1 hb;exact⟨(h.notD j b hbj).1,(h.notD j b hbj).2.1⟩) (by rw[hlen];exact hargs)
 refine hcall.mono ?_;rintro e w' ⟨res,l,nw,hRR,hll,y,D',p1,fs,fn,rfl,hg,hp1,hc,hfl,hbs,hnw,hnd,hfr⟩;rw[hfm] at hg hfr;obtain ⟨q1,q2,q3⟩:=hR res l nw hRR hll;refine⟨y,res,l,nw,hRR,hll,rfl,?_⟩;have r1:=(RelD.releases M hM h).swap (w':=w') (D':=D') (G':=fn++fs.flatten) (by rw[List.append_nil];exact hg) hnd (by rw[List.append_nil];exact hfr)
 have hMd:∀ blk,nw=some blk->∀ id ∈ M,id≠d:=fun blk hb id hid e=>by
  obtain ⟨j,hj⟩:=List.mem_iff_getElem?.1 hid;have hjl:=(List.getElem?_eq_some_iff.1 hj).1;obtain ⟨id',b0,h1,h2,_⟩:=get j (H0[j]'(by omega)) (List.getElem?_eq_getElem _);rw[hj] at h1;injection h1 with h1
  have:=(q3 blk hb).2.1.no;rw[<- e,h1,h2] at this;cases this
 have hdn:∀ φf:Nat->Option Pl,(∀ id ∈ M,φf id=φ id)->∀ id,1000000<=id/\id < 1000000+H0.length->φf (SF M d id)=BF (H0.length+1) p1 id:=fun φf hφ id hid=>by
  have hk:id - 1000000 < M.length:=by omega
  have e1:SF M d id=M.getD (id - 1000000) 0:=by unfold SF;rw[if_pos (by omega)]
  have e2:BF (H0.length+1) p1 id=p1 (id - 1000000):=by unfold BF;rw[if_pos (by omega)]
  have hm:M.getD (id - 1000000) 0 ∈ M:=by
   rw[List.getD_eq_getElem?_getD,List.getElem?_eq_getElem hk,Option.getD_some];exact List.getElem_mem hk
  rw[e1,e2,hp1 _ (by omega),hφ _ hm]
 have key:∃ φf F3,(∀ id ∈ M,φf id=φ id)/\(∀ blk,nw=some blk->φf d=p1 H0.length) /\
   RelD X { (s.sunk Z).off M with hp:=(match nw with | some b=>ca ((s.sunk Z).off M).hp d (some (xj (SF M d) b)) | none=>((s.sunk Z).off M).hp) } a w' D' φf F3 fs.flatten:=by
  cases nw with
  | none =>
    simp only at hnw;subst hnw;exact⟨φ,_,fun _ _=>rfl,fun _ hb=>(by cases hb),r1⟩
  | some blk =>
    obtain ⟨t1,t2,t3⟩:=q3 blk rfl
    have hf2:Fresh ((s.sunk Z).off M) d:=⟨t2.sl,fun id b hb=>by
     simp only[St.off] at hb;split at hb
     ·cases hb
     ·exact t2.hp id b hb,by simp only[St.off];split<;>first | rfl | exact t2.no⟩
    have hφ:∀ id ∈ M,ca φ d (p1 H0.length) id=φ id:=fun id hid=>bC _ _ (hMd blk rfl id hid);refine⟨ca φ d (p1 H0.length),_,hφ,fun _ _=>by simp,r1.settle d hf2 t3 (p1 H0.length) (xj (SF M d) blk) ?_⟩;refine sI (id:=gL H0.length) ?_ (fun i hi=>hdn _ hφ i (t1 i hi)) hnw;rw[mY _ (by omega)];simp
 obtain ⟨φf,F3,k1,k2,k3⟩:=key
 have hdn2:∀ id,(1000000<=id/\id < 1000000+(H0.length+if nw.isSome then 1 else 0))->φf (SF M d id)=BF (H0.length+1) p1 id:=fun id hid=>by
  by_cases hlt:id < 1000000+H0.length
  ·exact hdn φf k1 id ⟨hid.1,hlt⟩
  ·cases nw with
   | none=>simp at hid;omega
   | some blk =>
     simp only[Option.isSome_some,if_true] at hid;have e:id=1000000+H0.length:=by omega
     have e1:SF M d id=d:=by unfold SF;rw[if_neg (by omega),if_pos (by omega)]
     have e2:BF (H0.length+1) p1 id=p1 H0.length:=by
      unfold BF;rw[if_pos (by omega),show id - 1000000=H0.length by omega]
     rw[e1,e2,k2 blk rfl]
 rw[<- List.append_nil fs.flatten] at k3
 obtain ⟨F4,k4⟩:=RelD.settles (M.zip (l.map (xj (SF M d)))) (fs:=fs) (by
  rw[List.map_fst_zip (by rw[List.length_map];omega)];exact hM) (fun p hp=>by
   have hm:p.1 ∈ M:=(List.of_mem_zip hp).1;cases nw with
   | none=>simp only[St.off];rw[if_pos hm]
   | some blk =>
     simp only[St.off];rw[bC _ _ (hMd blk rfl p.1 hm)];rw[if_pos hm]) (by rw[List.length_zip,List.length_map];omega) (fun j p g hj hg=>by
   rw[List.getElem?_zip_eq_some] at hj;obtain ⟨hj1,hj2⟩:=hj;rw[List.getElem?_map,Option.map_eq_some_iff] at hj2;obtain ⟨b0,hb0,hb1⟩:=hj2;have hjl:=(List.getElem?_eq_some_iff.1 hj1).1;rw[<- hb1];refine sI (id:=gL j) ?_ (fun i hi=>hdn2 i (q2 b0 (List.mem_iff_getElem?.2 ⟨j,hb0⟩) i hi)) (hbs j b0 g hb0 hg);have hjm:1000000<=gL j/\gL j < 1000000+H0.length:=⟨Nat.le_add_right _ _,Nat.add_lt_add_left (by omega) _⟩;have:=hdn φf k1 (gL j) hjm;rw[<- this];congr 1;have e1:gL j - 1000000=j:=Nat.add_sub_cancel_left _ _;unfold SF;rw[if_pos ⟨hjm.1,hlen▸hjm.2⟩,e1,List.getD_eq_getElem?_getD,hj1,Option.getD_some]) k3
 exact⟨D',φf,F4,k4.put d hd _ _ (Qv res y [] (fun id hi=>hdn2 id (q1 id hi)) hc)⟩
end
end Go.Abs
namespace Go.Abs
variable [GI]
def bm:Nat:=5000
def dZ (k:List UInt8):gK->Option (Option (List Int))
 | []=>none
 | (k',r)::m=>if k'=k then some r else dZ k m
def dD (k:List UInt8) (r:Option (List Int)):gK->gK
 | []=>[(k,r)]
 | (k',r')::m=>if k'=k then (k',r)::m else (k',r')::dD k r m
omit [GI] in
theorem agN {a b:List UInt8} (h:bs a=bs b):a=b:=by
 unfold bs at h;have:=congrArg (fun x:ByteArray=>x.data.toList) h;simpa using this
omit [GI] in
theorem c9.keys {w:World}:∀ {m:gK} {es:List MapEntry} {f:List Nat},c9 w m es f->∀ x ∈ es,MapKept.IsKey .string x.key
 | [],es,f,h,x,hx=>by simp only[c9] at h;rw[h.1] at hx;cases hx
 | (k,r)::m,es,f,h,x,hx=>by
   simp only[c9] at h;obtain ⟨e,es',f1,f2,rfl,rfl,h3,h4,h5⟩:=h;rcases List.mem_cons.1 hx with rfl | hx
   ·rw[h3];simp[MapKept.IsKey]
   ·exact h5.keys x hx
omit [GI] in
theorem J6 {k k':List UInt8} {e:MapEntry} {es:List MapEntry} {i:Nat} (he:e.key=.string (bs k')) :
  Instr.findNow .string (.string (bs k)) (e::es) i=if k'=k then some (some (i,e.val)) else Instr.findNow .string (.string (bs k)) es (i+1):=by
 conv=>lhs;unfold Instr.findNow
 rw[he];simp only[Instr.sameNow];by_cases h:k'=k
 ·subst h;rw[show (bs k'==bs k')=true from (MapKept.bytes_beq _ _).2 rfl];simp
 ·have:(bs k==bs k')=false:=by
   cases hb:(bs k==bs k') with
   | false=>rfl
   | true=>exact absurd (agN ((MapKept.bytes_beq _ _).1 hb)).symm h
  rw[this];simp[h]
omit [GI] in
theorem c9.miss {w:World} {k:List UInt8}:∀ {m:gK} {es:List MapEntry} {f:List Nat},c9 w m es f->dZ k m=none ->
  (∀ i,Instr.findNow .string (.string (bs k)) es i=some none) /\
  ∀ (r:Option (List Int)) (e:MapEntry) (fr:List Nat),e.key=.string (bs k)->Ed w r e.val fr->c9 w (dD k r m) (es++[e]) (f++fr)
 | [],es,f,h,_=>by
   simp only[c9] at h;obtain ⟨rfl,rfl⟩:=h;refine⟨fun i=>rfl,fun r e fr he hr=>?_⟩;simp only[dD,c9];exact⟨e,[],fr,[],rfl,by simp,he,hr,rfl,rfl⟩
 | (k',r')::m,es,f,h,hg=>by
   simp only[c9] at h;obtain ⟨e',es',f1,f2,rfl,rfl,h3,h4,h5⟩:=h;simp only[dZ] at hg;split at hg
   ·cases hg
   rename_i hk;obtain ⟨g1,g2⟩:=h5.miss hg;refine⟨fun i=>by rw[J6 h3,if_neg hk];exact g1 _,fun r e fr he hr=>?_⟩;simp only[dD,if_neg hk,c9];exact⟨e',es'++[e],f1,f2++fr,rfl,by simp,h3,h4,g2 r e fr he hr⟩
omit [GI] in
theorem c9.hit {w:World} {k:List UInt8} {r:Option (List Int)}:∀ {m:gK} {es:List MapEntry} {f:List Nat},c9 w m es f->dZ k m=some r ->
  ∃ j e f1 fr f2,(∀ i,Instr.findNow .string (.string (bs k)) es i=some (some (i+j,e.val)))/\es[j]?=some e/\e.key=.string (bs k)/\Ed w r e.val fr/\f=f1++fr++f2 /\
   ∀ (r':Option (List Int)) (e':MapEntry) (fr':List Nat),e'.key=.string (bs k)->Ed w r' e'.val fr'->c9 w (dD k r' m) (es.set j e') (f1++fr'++f2)
 | [],es,f,h,hg=>by simp[dZ] at hg
 | (k',r0)::m,es,f,h,hg=>by
   simp only[c9] at h;obtain ⟨e0,es',f1,f2,rfl,rfl,h3,h4,h5⟩:=h;simp only[dZ] at hg;split at hg
   ·rename_i hk;simp only[Option.some.injEq] at hg;subst hg hk;refine⟨0,e0,[],f1,f2,fun i=>by rw[J6 h3,if_pos rfl];rfl,rfl,h3,h4,rfl,fun r' e' fr' he hr=>?_⟩;simp only[dD,if_true,List.set_cons_zero,c9];exact⟨e',es',fr',f2,rfl,rfl,he,hr,h5⟩
   ·rename_i hk;obtain ⟨j,e,g1,gr,g2,q1,q2,q3,q4,rfl,q6⟩:=h5.hit hg;refine⟨j+1,e,f1++g1,gr,g2,fun i=>by rw[J6 h3,if_neg hk,q1 (i+1)];congr 3;omega,by simpa using q2,q3,q4,by simp,fun r' e' fr' he hr=>?_⟩;simp only[dD,if_neg hk,List.set_cons_succ,c9];exact⟨e0,es'.set j e',f1,g1++fr'++g2,rfl,by simp,h3,h4,q6 r' e' fr' he hr⟩
omit [GI] in
theorem adr {w:World} {D:Nat->Prop} {φ:Nat->Option Pl} {x:Value} {f:List Nat}:¬CV w D Qj φ x f:=by
 intro h;simp only[Qj,CV,cg] at h;obtain ⟨xs,_,y,ys,f1,f2,_,_,⟨rfl,h,_⟩,_⟩:=h;simp[one] at h
omit [GI] in
theorem cM.map {w:World} {D:Nat->Prop} {φ:Nat->Option Pl} {id b:Nat} {m:gK} {f:List Nat} (h:cM w D φ id (bo b m) f):φ id=none/\abu w b m f:=by
 rcases h with ⟨h1,⟨h2,_⟩ | ⟨b',m',h2,h3⟩⟩ | ⟨p,arr,ty,f',_,_,_,_,_,h⟩
 ·simp[bo] at h2
 ·simp only[bo,Blk.mk.injEq,and_true] at h2;obtain ⟨rfl,rfl⟩:=aal h2;exact⟨h1,h3⟩
 ·simp only[bo,CR] at h;obtain ⟨x,rest,f1,f2,_,_,_,h,_⟩:=h;exact absurd h adr
omit [GI] in
theorem cM.of_map {w:World} {D:Nat->Prop} {φ:Nat->Option Pl} {id b:Nat} {m:gK} {f:List Nat} (h1:φ id=none) (h:abu w b m f):cM w D φ id (bo b m) f:=.inl ⟨h1,.inr ⟨b,m,rfl,h⟩⟩
omit [GI] in
theorem cM.congr {w w':World} {D:Nat->Prop} {φ:Nat->Option Pl} {id:Nat} {blk:Blk} {f:List Nat} (hh:∀ b,D b\/b ∈ f->w'.heap[b]?=w.heap[b]?) (h:cM w D φ id blk f):cM w' D φ id blk f:=by
 rcases h with ⟨h1,h2⟩ | ⟨p,arr,ty,f',h1,h2,h3,h4,h5,h6⟩
 ·exact .inl ⟨h1,h2.congr fun b hb=>hh b (.inr hb)⟩
 ·exact .inr ⟨p,arr,ty,f',h1,h2,h3,h4.congr (hh p.b (.inr (by rw[h5];exact List.mem_cons_self))),h5,cr (fun _ hb=>hb) _ _ _ _ _ _ (fun b hb=>hh b (hb.imp_right fun hm=>by rw[h5];exact List.mem_cons_of_mem _ hm)) (fun _ _=>rfl) h6⟩
section
variable {P : Program} {X : Ctx} {s : St} {a : Act} {w : World} {D : Nat → Prop} {φ : Nat → Option Pl} {F : Nat → List Nat} {G : List Nat} {o : Oper}
theorem RelD.gwrite (h:RelD X s a w D φ F G) {b:Nat} (hb:b ∈ G) (ob:Obj):RelD X s a { w with heap:=w.heap.setIfInBounds b ob } D φ F G:=by
 have hne:∀ b',b'≠b->({ w with heap:=w.heap.setIfInBounds b ob }:World).heap[b']?=w.heap[b']?:=fun b' e=>Array.getElem?_setIfInBounds_ne (Ne.symm e);have hg:=h.gnotD b hb;have hD:∀ b',D b'->b'≠b:=fun b' hb' e=>hg.1 (e▸hb');have hF:∀ id b',b' ∈ F id->b'≠b:=fun id b' hb' e=>h.gsep id b' hb' (e▸hb);have hsz:({ w with heap:=w.heap.setIfInBounds b ob }:World).heap.size=w.heap.size:=by simp
 refine { h with size:=by rw[hsz];exact h.size,old:=fun b' hb' hW=>?_,Dlt:=fun b' hb'=>by rw[hsz];exact h.Dlt b' hb',slots:=fun t=>c8 (fun _ hb=>hb) _ _ _ _ _ (fun b' hb'=>hne b' (hb'.elim (hD b') (by simp))) (fun _ _=>rfl) (h.slots t),blks:=fun id blk hbl=>(h.blks id blk hbl).congr fun b' hb'=>hne b' (hb'.elim (hD b') (hF id b')),notD:=fun id b' hb'=>by rw[hsz];exact h.notD id b' hb',gnotD:=fun b' hb'=>by rw[hsz];exact h.gnotD b' hb',gi:=GI.mono h.gi (fun _ hb=>hb) fun b' hb'=>hne b' (hD b' hb') }
 have hx:b'≠b:=fun e=>by
  subst e;rcases hg.2.2 with g | g
  ·omega
  ·exact hW g
 rw[hne b' hx];exact h.old b' hb' hW
omit [GI] in
theorem WS {t:TypeId} (h:mz P t=true):∃ k e i,P.underlying t=some (.map k e)/\P.underlying k=some .string/\P.info? e=some i/\i.zero=some (.slice none 0 0):=by
 unfold mz at h;split at h
 ·rename_i k e he;split at h
  ·rename_i hk;split at h
   ·rename_i hz;simp only[Option.bind_eq_some_iff] at hz;obtain ⟨i,h1,h2⟩:=hz;exact⟨k,e,i,he,hk,h1,h2⟩
   ·cases h
  ·cases h
 ·cases h
theorem acy {t:TypeId} (h:RelD X s a w D φ F []) (hop:o.op=.makeMap t none) {d:Nat} (hdst:o.dst=some d) (hd:d < X.n) (hf:Fresh s bm) (hp:bm ∉ X.pin) :
  gS P o X a w { sl:=ca s.sl d (.v (.map (some w.heap.size))),hp:=ca s.hp bm (some (bo w.heap.size [])) }:=by
 have hr:(execOp a.eval o).run P w=.ok (.value (.map (some w.heap.size))) { w with heap:=w.heap.push (.map #[] 0) }:=by
  simp[execOp,hop,Instr.makeMap]
  try rfl
 have hnew:({ w with heap:=w.heap.push (.map #[] 0) }:World).heap[w.heap.size]?=some (.map #[] 0):=pz rfl
 have h1:=(h.grow { w with heap:=w.heap.push (.map #[] 0) } D [w.heap.size] rfl rfl rfl (by simp) (fun b hb=>gq rfl hb) (fun _ hb=>hb) (fun b hb=>⟨.inl hb,by have:=h.Dlt b hb;simp;omega⟩) (by simp)
  (fun b hb=>by simp at hb;subst hb;exact⟨Nat.le_refl _,by simp,fun hd=>Nat.lt_irrefl _ (h.Dlt _ hd)⟩)).gperm List.perm_append_comm
 have h2:=h1.settle bm hf hp none (bo w.heap.size []) (cM.of_map (by simp) ⟨#[],0,[],hnew,rfl,rfl,rfl⟩);have h3:=h2.put d hd (.v (.map (some w.heap.size))) (.map (some w.heap.size)) (by simp[CV,one]);exact⟨_,_,_,hr,.inl rfl,_,_,_,by rw[hdst];exact h3⟩
omit [GI] in
theorem KG {t:TypeId} {b:Nat} {m:gK} {k:List UInt8} {f:List Nat} {es:Array MapEntry} {c:Nat} (ok:Bool) (ht:mz P t=true) (hb:w.heap[b]?=some (.map es c)) {r:Option (Nat×Value)} (hr:Instr.findNow .string (.string (bs k)) es.toList 0=some r) :
  (Instr.lookup t (.map (some b)) (.string (bs k)) ok).run P w=.ok (if ok then .tuple #[(r.map (·.2)).getD (.slice none 0 0),.bool r.isSome] else (r.map (·.2)).getD (.slice none 0 0)) w:=by
 obtain ⟨kt,e,i,h1,h2,h3,h4⟩:=WS ht;have hk:MapKept.IsKey .string (.string (bs k)):=by simp[MapKept.IsKey]
 cases r with
 | none=>cases ok<;>simp[Instr.lookup,run_underlying h1,MapKept.run_getObj_map hb,MapKept.run_checkKey h2 hk,MapKept.run_findKey h2 hr,Result.andThen,zeroValue,typeInfo,h3,h4]
 | some q =>
   obtain ⟨j,v⟩:=q;cases ok<;>simp[Instr.lookup,run_underlying h1,MapKept.run_getObj_map hb,MapKept.run_checkKey h2 hk,MapKept.run_findKey h2 hr,Result.andThen]
omit [GI] in
theorem Pg:∀ l:List Int,aC (l.map rO)=true
 | []=>rfl
 | x::l=>by simp[aC,bR,rO,Pg l]
omit [GI] in
theorem RW:∀ l:List Int,d8 (l.map rO)=true
 | []=>rfl
 | x::l=>by simp[d8,fx,rO,RW l]
section
variable {m k v : Operand} {xm xk xv : Abs.X} {t : TypeId} {b : Nat} {c : gK} {key : List UInt8}
theorem Xa (h:RelD X s a w D φ F []) (hd:∀ d,o.dst=some d->d < X.n) (hop:o.op=.lookup t m k true) (ht:mz P t=true) (hm:cX m=some xm) (hk:cX k=some xk)
  (em:s.ev xm=.v (.map (some b))) (ek:s.ev xk=.v (.string (bs key))) (hb:s.hp bm=some (bo b c)) :
  gS P o X a w (({ v:=.tup [.undef,.v (.bool (dZ key c).isSome)] }:Dl).app o.dst s):=by
 have vm:=cV hm h;rw[em] at vm;have vk:=cV hk h;rw[ek] at vk;obtain ⟨_,es,cl,f',h1,h2,h3⟩:=(h.blks _ _ hb).map
 have hr:∃ r,Instr.findNow .string (.string (bs key)) es.toList 0=some r/\r.isSome=(dZ key c).isSome:=by
  cases hg:dZ key c with
  | none=>exact⟨none,(h3.miss hg).1 0,rfl⟩
  | some r =>
    obtain ⟨j,e,f1,fr,f2,q1,_⟩:=h3.hit hg;exact⟨_,q1 0,rfl⟩
 obtain ⟨r,hr,hs⟩:=hr;refine bt h hd (x:=.tuple #[(r.map (·.2)).getD (.slice none 0 0),.bool r.isSome]) ?_ ?_
 ·simp[execOp,hop,ff vm,ff vk,KG (P:=P) (m:=c) (f:=f') true ht h1 hr,Result.andThen]
 ·simp only[CV,cg];exact⟨_,rfl,_,_,[],[],rfl,rfl,rfl,_,_,[],[],rfl,rfl,⟨by rw[hs],rfl,rfl⟩,rfl,rfl⟩
theorem W8 (h:RelD X s a w D φ F []) (hd:∀ d,o.dst=some d->d < X.n) (hop:o.op=.lookup t m k false) (ht:mz P t=true) (hm:cX m=some xm) (hk:cX k=some xk)
  (em:s.ev xm=.v (.map (some b))) (ek:s.ev xk=.v (.string (bs key))) (hb:s.hp bm=some (bo b c)) (hg:dZ key c=none) :
  gS P o X a w (({ v:=.v (.slice none 0 0) }:Dl).app o.dst s):=by
 have vm:=cV hm h;rw[em] at vm;have vk:=cV hk h;rw[ek] at vk;obtain ⟨_,es,cl,f',h1,h2,h3⟩:=(h.blks _ _ hb).map;refine bt h hd (x:=.slice none 0 0) ?_ (by simp[CV,one]);have:=KG (P:=P) (m:=c) (f:=f') false ht h1 ((h3.miss hg).1 0);simp[execOp,hop,ff vm,ff vk,this,Result.andThen]
theorem W9 (h:RelD X s a w D φ F []) (hop:o.op=.lookup t m k false) (ht:mz P t=true) (hm:cX m=some xm) (hk:cX k=some xk)
  (em:s.ev xm=.v (.map (some b))) (ek:s.ev xk=.v (.string (bs key))) (hb:s.hp bm=some (bo b c)) {l:List Int} (hg:dZ key c=some (some l))
  {d:Nat} (hdst:o.dst=some d) (hd:d < X.n) (hf:Fresh s d) (hp:d ∉ X.pin) :
  gS P o X a w { sl:=ca s.sl d (.sl d 0 l.length),hp:=ca (ca s.hp bm (some (bo b (dD key none c)))) d (some ⟨1,l.map rO⟩) }:=by
 have vm:=cV hm h;rw[em] at vm;have vk:=cV hk h;rw[ek] at vk;obtain ⟨hφ,es,cl,f',h1,h2,h3⟩:=(h.blks _ _ hb).map;obtain ⟨j,e,f1,fr,f2,q1,q2,q3,q4,rfl,q6⟩:=h3.hit hg;have hne:bm≠d:=fun e=>by have:=hf.no;rw[<- e,hb] at this;cases this
 have hrun:(execOp a.eval o).run P w=.ok (.value e.val) w:=by
  have:=KG (P:=P) (m:=c) (f:=[]) false ht h1 (q1 0);simp[execOp,hop,ff vm,ff vk,this,Result.andThen]
 have g1:=h.release bm;rw[h2] at g1
 have g2:RelD X { s with hp:=ca s.hp bm none } a w D φ (ca F bm []) (fr++((b::(f1++f2))++[])):=g1.gperm (by
  simp only[List.append_nil,List.cons_append];refine List.Perm.trans ?_ List.perm_middle.symm;refine List.Perm.cons _ ?_;rw[List.append_assoc];exact(List.perm_append_comm_assoc _ _ _))
 have hf2:Fresh { s with hp:=ca s.hp bm none } d:=⟨hf.sl,fun i blk hi=>by
  by_cases e:i=bm
  ·subst e;simp at hi
  ·simp only[ca,e,if_false] at hi;exact hf.hp i blk hi,by
  simp only[ca,Ne.symm hne,if_false];exact hf.no⟩
 have hcv:CV w D (.own 1 (l.map rO)) (fun _=>none) e.val fr:=c8 (fun _ h=>h.elim) _ _ _ _ _ (fun _ _=>rfl) (fun _ _=>rfl) q4
 obtain ⟨φ',F',t1,t2,_⟩:=xd (d:=d) (.own 1 (l.map rO)) 0 _ φ _ e.val fr _ rfl g2 hcv (fun i _ hi=>by
  simp only[b9,Nat.zero_add,Nat.lt_one_iff] at hi;subst hi;exact⟨hf2,hp⟩)
 simp only[b9,Nat.mul_zero,Nat.add_zero,List.length_map] at t1 t2
 have hφ':φ' bm=none:=by
  rw[t1.same bm fun i _ hi e=>hne ?_]
  ·exact hφ
  ·obtain rfl:i=0:=by omega
   simpa using e
 have g3:=t1.rel;simp only[qV] at g3;have g4:=g3.settle_back bm (by simp only[ca,hne,if_false];simp) (bo b (dD key none c)) (cM.of_map hφ' ⟨es.setIfInBounds j e,cl,f1++f2,?_,rfl,?_⟩)
 ·have g5:=g4.put d hd (.sl d 0 l.length) e.val t2;refine⟨_,_,_,hrun,.inl rfl,D,φ',ca F' bm (b::(f1++f2)),?_⟩;rw[hdst]
  have e1:ca (ca (ca s.hp bm none) d (some ⟨1,l.map rO⟩)) bm (some (bo b (dD key none c)))=ca (ca s.hp bm (some (bo b (dD key none c)))) d (some ⟨1,l.map rO⟩):=by
   funext i;unfold ca;by_cases e1:i=d
   ·subst e1;simp[Ne.symm hne]
   ·by_cases e2:i=bm<;>simp[e1,e2,hne]
  simp only[e1] at g5;exact g5
 ·rw[h1];congr 2;have hlt:=(List.getElem?_eq_some_iff.1 q2).1;apply Array.ext_getElem?;intro i;rw[Array.getElem?_setIfInBounds];split
  ·rename_i e;subst e;rw[if_pos (by simpa using hlt),<- Array.getElem?_toList,q2]
  ·rfl
 ·have:=q6 none e [] q3 rfl;rw[Array.toList_setIfInBounds];simpa using this
theorem ZD (h:RelD X s a w D φ F []) (hop:o.op=.mapUpdate t m k v) (ht:mz P t=true) (hm:cX m=some xm) (hk:cX k=some xk) (hv:cX v=some xv) (hdst:o.dst=none)
  (em:s.ev xm=.v (.map (some b))) (ek:s.ev xk=.v (.string (bs key))) (hb:s.hp bm=some (bo b c)) {id:Nat} {l:List Int} (ev:s.ev xv=.sl id 0 l.length) (hi:s.hp id=some ⟨1,l.map rO⟩) :
  gS P o X a w { s with hp:=ca (ca s.hp id none) bm (some (bo b (dD key (some l) c))) }:=by
 have vm:=cV hm h;rw[em] at vm;have vk:=cV hk h;rw[ek] at vk;have vv:=cV hv h;rw[ev] at vv;obtain ⟨hφ,es,cl,f',h1,h2,h3⟩:=(h.blks _ _ hb).map
 have hne:bm≠id:=fun e=>by
  rw[<- e,hb] at hi;simp only[bo,Option.some.injEq,Blk.mk.injEq] at hi;cases l with
  | nil=>simp at hi
  | cons x l=>simp[rO,Qj] at hi
 have hcv:=HD (F:=F) h.blks (.sl id 0 l.length) _ (0=0/\l.length=(l.map rO).length) (.own 1 (l.map rO)) [id] (by simp[gp,hi,Pg]) (by simp) vv;simp only[List.flatMap_cons,List.flatMap_nil,List.append_nil] at hcv;have hrow:Ed w (some l) (a.eval v) (F id):=Hw (.own 1 (l.map rO)) _ _ _ (RW l) hcv;obtain ⟨kt,et,i0,t1,t2,_,_⟩:=WS ht;have hkey:MapKept.IsKey .string (.string (bs key)):=by simp[MapKept.IsKey]
 have g1:=(h.release id).release bm;have e1:ca F id [] bm=F bm:=bC _ _ hne;rw[e1,h2] at g1
 have SC:∀ (es':Array MapEntry) (cl':Nat) (g:List Nat),RelD X { s with hp:=ca (ca s.hp id none) bm none } a w D φ (ca (ca F id []) bm []) ((b::g)++[]) ->
   (execOp a.eval o).run P w=.ok .skip { w with heap:=w.heap.setIfInBounds b (.map es' cl') }->c9 w (dD key (some l) c) es'.toList g ->
   gS P o X a w { s with hp:=ca (ca s.hp id none) bm (some (bo b (dD key (some l) c))) }:=by
  intro es' cl' g hg hrun hrows;have hlt:b < w.heap.size:=(Array.getElem?_eq_some_iff.1 h1).1;have hnd:=hg.gnodup;rw[List.append_nil,List.nodup_cons] at hnd;have h3:=(hg.gwrite (b:=b) (by simp) (.map es' cl')).settle_back bm (by simp) (bo b (dD key (some l) c)) (cM.of_map hφ ⟨es',cl',g,by simp[hlt],rfl,hrows.congr fun b' hb'=>Array.getElem?_setIfInBounds_ne fun e=>hnd.1 (by rw[e];exact hb')⟩);refine⟨_,undef,_,hrun,.inr ⟨rfl,rfl⟩,D,φ,ca (ca (ca F id []) bm []) bm (b::g),?_⟩;rw[hdst]
  have e2:ca (ca (ca s.hp id none) bm none) bm (some (bo b (dD key (some l) c)))=ca (ca s.hp id none) bm (some (bo b (dD key (some l) c))):=by
   funext i;unfold ca;split<;>rfl
  simp only[e2] at h3;exact h3
 cases hg:dZ key c with
 | none =>
   obtain ⟨q1,q2⟩:=h3.miss hg;refine SC (es.push ⟨.string (bs key),a.eval v,cl⟩) (cl+1) (f'++F id) (g1.gperm (by simp)) ?_ (by rw[Array.toList_push];exact q2 (some l) _ _ rfl hrow);simp[execOp,hop,ff vm,ff vk,Instr.mapUpdate,run_underlying t1,MapKept.run_getObj_map h1,MapKept.run_checkKey t2 hkey,MapKept.run_findKey t2 (q1 0),MapKept.run_setObj_map _ h1,Result.andThen]
 | some r =>
   obtain ⟨j,e,f1,fr,f2,q1,q2,q3,q4,rfl,q6⟩:=h3.hit hg;have hj:es[j]?=some e:=by simpa using q2
   refine SC (es.modify j fun e=>{ e with key:=.string (bs key),val:=a.eval v }) cl (f1++F id++f2) ((g1.gperm (G':=((b::(f1++F id++f2))++[])++fr) ?_).gsub (List.sublist_append_left _ _)) ?_ ?_
   ·simp only[List.append_nil,List.cons_append,List.append_assoc];refine List.Perm.cons _ (List.Perm.append_left _ ?_);refine(List.perm_append_comm (l₁:=fr)).trans ?_;simp only[List.append_assoc];exact(List.perm_append_comm_assoc _ _ _)
   ·simp[execOp,hop,ff vm,ff vk,Instr.mapUpdate,run_underlying t1,MapKept.run_getObj_map h1,MapKept.run_checkKey t2 hkey,MapKept.run_findKey t2 (q1 0),hj,q3,MapKept.run_keyThatStays hkey,MapKept.run_setObj_map _ h1,Result.andThen]
   ·have hm:=q6 (some l) { e with key:=.string (bs key),val:=a.eval v } (F id) rfl hrow
    have e3:(es.modify j fun e=>{ e with key:=.string (bs key),val:=a.eval v }).toList=es.toList.set j { e with key:=.string (bs key),val:=a.eval v }:=by
     apply List.ext_getElem?;intro i;rw[Array.getElem?_toList,Array.getElem?_modify,List.getElem?_set];have hlt:j < es.toList.length:=(List.getElem?_eq_some_iff.1 q2).1;by_cases e:j=i
     ·subst e;simp[hj];simpa using hlt
     ·simp[e]
    rw[e3];exact hm
end
end
end Go.Abs
namespace Go.Abs
variable [GI]
def lk:List (Nat×V)->Nat->V
 | [],_=>.undef
 | (k,v)::l,i=>if i=k then v else lk l i
def bB:List (Nat×Blk)->Nat->Option Blk
 | [],_=>none
 | (k,b)::l,i=>if i=k then some b else bB l i
def HO (i:Nat):List (Nat×Blk)->List (Nat×Blk)
 | []=>[]
 | (k,b)::l=>if k=i then HO i l else (k,b)::HO i l
structure AS where
 sl:List (Nat×V)
 hp:List (Nat×Blk)
 pin:List Nat
def AS.den (s:AS):St:={ sl:=lk s.sl,hp:=bB s.hp }
def AS.ev (s:AS):X->V
 | .t n=>lk s.sl n
 | .k v=>v
omit [GI] in
theorem AS.ev_eq (s:AS):s.den.ev=s.ev:=by
 funext x;cases x<;>rfl
omit [GI] in
theorem ie (k:Nat) (v:V) (l:List (Nat×V)):lk ((k,v)::l)=ca (lk l) k v:=by
 funext i;simp[lk,ca]
omit [GI] in
theorem iH (k:Nat) (b:Blk) (l:List (Nat×Blk)):bB ((k,b)::l)=ca (bB l) k (some b):=by
 funext i;simp[bB,ca]
omit [GI] in
theorem jW (k:Nat):∀ l:List (Nat×Blk),bB (HO k l)=ca (bB l) k none
 | []=>by funext i;simp[bB,HO,ca]
 | (j,b)::l=>by
   funext i;have ih:=congrFun (jW k l) i;simp only[HO,bB];by_cases e:j=k
   ·subst e;simp only[if_true];rw[ih];unfold ca;split<;>simp_all
   ·simp only[e,if_false,bB];rw[ih];unfold ca;split<;>simp_all
def AS.put (s:AS) (d:Option Nat) (v:V):AS :=
 match d with
 | some d=>{ s with sl:=(d,v)::s.sl }
 | none=>s
def AS.wrt (s:AS):Option (Nat×Blk)->AS
 | some (i,b)=>{ s with hp:=(i,b)::HO i s.hp }
 | none=>s
def AS.del (s:AS):Option Nat->AS
 | some i=>{ s with hp:=HO i s.hp }
 | none=>s
def AS.new (s:AS) (d:Nat):Option Blk->AS
 | some b=>{ s with hp:=(d,b)::s.hp }
 | none=>s
def AS.app (s:AS) (d:Option Nat) (δ:Dl):AS:=(((s.wrt δ.wr).del δ.del).new (d.getD 0) δ.new).put d δ.v
omit [GI] in
theorem NM {α:Type} (f:Nat->α) (k:Nat) (x y:α):ca (ca f k x) k y=ca f k y:=by
 funext i;unfold ca;split<;>rfl
omit [GI] in
theorem AS.wrt_hp (s:AS) (wr:Option (Nat×Blk)):bB (s.wrt wr).hp=hpW (bB s.hp) wr:=by
 cases wr with
 | none=>rfl
 | some p=>obtain ⟨i,b⟩:=p;simp only[AS.wrt,hpW];rw[iH,jW,NM]
omit [GI] in
theorem AS.del_hp (s:AS) (del:Option Nat):bB (s.del del).hp=hpD (bB s.hp) del:=by
 cases del with
 | none=>rfl
 | some i=>simp only[AS.del,hpD];rw[jW]
omit [GI] in
theorem AS.wrt_sl (s:AS) (wr:Option (Nat×Blk)):(s.wrt wr).sl=s.sl:=by cases wr<;>rfl
omit [GI] in
theorem AS.del_sl (s:AS) (del:Option Nat):(s.del del).sl=s.sl:=by cases del<;>rfl
omit [GI] in
theorem AS.den_app (s:AS) (d:Option Nat) (δ:Dl) (h:δ.new.isSome=true->d.isSome=true):(s.app d δ).den=δ.app d s.den:=by
 obtain ⟨v,new,del,wr⟩:=δ;unfold AS.app Dl.app Dl.hp AS.den;cases d with
 | none =>
   cases new with
   | none=>simp only[AS.new,AS.put,AS.del_hp,AS.wrt_hp,AS.del_sl,AS.wrt_sl,hpN]
   | some b=>simp at h
 | some d =>
   cases new with
   | none=>simp only[AS.new,AS.put,ie,AS.del_hp,AS.wrt_hp,AS.del_sl,AS.wrt_sl,hpN]
   | some b=>simp only[AS.new,AS.put,ie,iH,AS.del_hp,AS.wrt_hp,AS.del_sl,AS.wrt_sl,Option.getD_some,hpN]
omit [GI] in
theorem AS.app_pin (s:AS) (d:Option Nat) (δ:Dl):(s.app d δ).pin=s.pin:=by
 obtain ⟨v,new,del,wr⟩:=δ;unfold AS.app;cases d<;>cases new<;>cases del<;>cases wr<;>rfl
def AS.fresh (s:AS) (d:Nat):Bool :=
 s.sl.all (fun p=>!bI d p.2)&&s.hp.all (fun p=>p.1 != d&&!a7 d p.2.es)&&!s.pin.contains d
omit [GI] in
theorem ace:∀ (l:List (Nat×V)) (i:Nat),lk l i=.undef\/∃ k,(k,lk l i) ∈ l
 | [],i=>.inl rfl
 | (k,v)::l,i=>by
   simp only[lk];split
   ·exact .inr ⟨k,by simp⟩
   ·rcases ace l i with h | ⟨j,h⟩
    ·exact .inl h
    ·exact .inr ⟨j,List.mem_cons_of_mem _ h⟩
omit [GI] in
theorem QC:∀ (l:List (Nat×Blk)) (i:Nat) (b:Blk),bB l i=some b->(i,b) ∈ l
 | [],i,b,h=>by simp[bB] at h
 | (k,c)::l,i,b,h=>by
   simp only[bB] at h;split at h
   ·rename_i e;cases h;subst e;simp
   ·exact List.mem_cons_of_mem _ (QC l i b h)
omit [GI] in
theorem AS.fresh_ok {s:AS} {d:Nat} (h:s.fresh d=true):Fresh s.den d/\d ∉ s.pin:=by
 simp only[AS.fresh,Bool.and_eq_true,List.all_eq_true,Bool.not_eq_true',bne_iff_ne,ne_eq] at h;obtain ⟨⟨h1,h2⟩,h3⟩:=h;refine⟨⟨fun t=>?_,fun id blk hb=>?_,?_⟩,by simpa using h3⟩
 ·show bI d (lk s.sl t)=false;rcases ace s.sl t with e | ⟨k,e⟩
  ·rw[e];rfl
  ·exact h1 _ e
 ·exact(h2 _ (QC _ _ _ hb)).2
 ·show bB s.hp d=none;cases hb:bB s.hp d with
  | none=>rfl
  | some b=>exact absurd rfl (h2 _ (QC _ _ _ hb)).1
def AS.took (s:AS) (d:Nat) (res:V):AS:={ s with sl:=(d,(b9 d 0 res).1)::s.sl,hp:=(b9 d 0 res).2.1.reverse++s.hp }
omit [GI] in
theorem tf:∀ (l:List (Nat×Blk)) (h:List (Nat×Blk)),bB (l.reverse++h)=qV (bB h) l
 | [],h=>rfl
 | (i,b)::l,h=>by
   simp only[List.reverse_cons,List.append_assoc,List.singleton_append,qV];rw[tf l,iH]
omit [GI] in
theorem AS.den_took (s:AS) (d:Nat) (res:V):(s.took d res).den=s.den.took d res:=by
 simp only[AS.took,AS.den,St.took,ie,tf]
def OH:List Nat->List (Option Blk)->List (Nat×Blk)->List (Nat×Blk)
 | m::M,some b::H,hp=>OH M H ((m,b)::HO m hp)
 | m::M,none::H,hp=>OH M H (HO m hp)
 | _,_,hp=>hp
def AS.wrote (s:AS) (M:List Nat) (H1:List (Option Blk)):AS:={ s with hp:=OH M H1 s.hp }
omit [GI] in
theorem RL:∀ (M:List Nat) (H:List (Option Blk)) (hp:List (Nat×Blk)),M.Nodup->H.length=M.length->bB (OH M H hp)=fun id=>match iG M id with | some k=>(H[k]?).join | none=>bB hp id
 | [],[],hp,_,_=>rfl
 | m::M,o::H,hp,hn,hl=>by
   rw[List.nodup_cons] at hn
   have key:∀ hp':List (Nat×Blk),(∀ id,bB hp' id=if id=m then o else bB hp id)->bB (OH M H hp')=fun id=>match iG (m::M) id with | some k=>((o::H)[k]?).join | none=>bB hp id:=fun hp' hh=>by
    rw[RL M H hp' hn.2 (by simpa using hl)];funext id;simp only[iG];by_cases e:m=id
    ·subst e
     have:iG M m=none:=by
      cases hi:iG M m with
      | none=>rfl
      | some k=>exact absurd (List.mem_iff_getElem?.2 ⟨k,iU M m k hi⟩) hn.1
     rw[this,if_pos rfl];simp[hh m]
    ·rw[if_neg e];cases hi:iG M id with
     | some k=>simp
     | none =>
       show bB hp' id=bB hp id;rw[hh id,if_neg (fun e'=>e e'.symm)]
   cases o with
   | some b =>
     refine key _ fun id=>?_;rw[iH,jW];unfold ca;split<;>simp_all
   | none =>
     refine key _ fun id=>?_;rw[jW];rfl
 | [],_::_,hp,_,hl=>by simp at hl
 | _::_,[],hp,_,hl=>by simp at hl
omit [GI] in
theorem AS.den_wrote (s:AS) {M:List Nat} {H1:List (Option Blk)} (hn:M.Nodup) (hl:H1.length=M.length):(s.wrote M H1).den=s.den.wrote M H1:=by
 simp only[AS.wrote,AS.den,St.wrote];rw[RL M H1 s.hp hn hl]
 try rfl
def CJ:List (Option Blk)->Bool
 | []=>true
 | some b::l=>aC b.es&&d8 b.es&&CJ l
 | none::l=>CJ l
omit [GI] in
theorem yR:∀ (l:List (Option Blk)) (j:Nat) (b:Blk),CJ l=true->l[j]?=some (some b)->aC b.es=true/\d8 b.es=true
 | [],j,b,_,h=>by simp at h
 | o::l,0,b,h,hj=>by
   simp only[List.getElem?_cons_zero,Option.some.injEq] at hj;subst hj;simp only[CJ,Bool.and_eq_true] at h;exact h.1
 | some c::l,j+1,b,h,hj=>by
   simp only[CJ,Bool.and_eq_true] at h;exact yR l j b h.2 (by simpa using hj)
 | none::l,j+1,b,h,hj=>yR l j b (by simpa [CJ] using h) (by simpa using hj)
def agQ (P:Program) (f:Nat) (vs:List V) (s:AS) (d:Nat) (K:AS->Prop):Prop :=
 ∃ res,aa P f (vs.map (aP (bB s.hp) 6)) res/\cn res=true/\(fx res=true\/(aC vs=true/\bb vs=true)) /\
  (List.range (b9 d 0 res).2.2).all (fun i=>s.fresh (d+1000 * i))=true/\K (s.took d res)
def agO (P:Program) (f:Nat) (vs:List V) (s:AS) (d:Nat) (K:AS->Prop):Prop :=
 ∃ (M:List Nat) (H0:List Blk) (res:V) (H1:List (Option Blk)),ac P f H0 (vs.map (my M (bB s.hp) 6)) res H1/\M.Nodup/\M.map (bB s.hp)=H0.map some/\(∀ blk ∈ H0,aC blk.es=true)/\CJ H1=true /\
  cn res=true/\fx res=true/\(List.range (b9 d 0 res).2.2).all (fun i=>(s.wrote M H1).fresh (d+1000 * i))=true/\K ((s.wrote M H1).took d res)
def agR (P:Program) (f:Nat) (vs:List V) (s:AS) (d:Nat) (K:AS->Prop):Prop :=
 ∃ (M:List Nat) (H0:List Blk) (R:V->List Blk->Prop),qp P f H0 (vs.map (my M (bB s.hp) 6)) R/\M.Nodup/\M.map (bB s.hp)=H0.map some/\(∀ blk ∈ H0,aC blk.es=true) /\
  ∀ res l,R res l->l.length=H0.length->CJ (l.map some)=true/\cn res=true/\fx res=true/\(List.range (b9 d 0 res).2.2).all (fun i=>(s.wrote M (l.map some)).fresh (d+1000 * i))=true/\K ((s.wrote M (l.map some)).took d res)
def Sb (ids:List Nat) (l:List (Nat×Blk)):List (Nat×Blk):=l.filter fun q=>!ids.contains q.1
omit [GI] in
theorem Lx (ids:List Nat):∀ (l:List (Nat×Blk)) (k:Nat),bB (Sb ids l) k=if k ∈ ids then none else bB l k
 | [],k=>by simp[Sb,bB]
 | (j,b)::l,k=>by
   have ih:=Lx ids l k;simp only[Sb,List.filter_cons] at ih ⊢;by_cases hj:j ∈ ids
   ·simp only[List.contains_eq_mem,hj,decide_true,Bool.not_true,Bool.false_eq_true,if_false,bB];simp only[List.contains_eq_mem] at ih;rw[ih];by_cases e:k=j
    ·subst e;simp[hj]
    ·simp[e]
   ·simp only[List.contains_eq_mem,hj,decide_false,Bool.not_false,if_true,bB];simp only[List.contains_eq_mem] at ih;rw[ih];by_cases e:k=j
    ·subst e;simp[hj]
    ·simp[e]
def AS.sunk (s:AS) (Z:List Nat):AS:={ s with hp:=Sb Z s.hp }
omit [GI] in
theorem AS.den_sunk (s:AS) (Z:List Nat):(s.sunk Z).den=s.den.sunk Z:=by
 simp only[AS.sunk,AS.den,St.sunk];congr 1;funext id;exact Lx Z s.hp id
def jG:List (Option Blk)->Bool
 | []=>true
 | some b::l=>aC b.es&&jG l
 | none::l=>jG l
omit [GI] in
theorem oU:∀ (l:List (Option Blk)) (j:Nat) (b:Blk),jG l=true->l[j]?=some (some b)->aC b.es=true
 | [],j,b,_,h=>by simp at h
 | o::l,0,b,h,hj=>by
   simp only[List.getElem?_cons_zero,Option.some.injEq] at hj;subst hj;simp only[jG,Bool.and_eq_true] at h;exact h.1
 | some c::l,j+1,b,h,hj=>by
   simp only[jG,Bool.and_eq_true] at h;exact oU l j b h.2 (by simpa using hj)
 | none::l,j+1,b,h,hj=>oU l j b (by simpa [jG] using h) (by simpa using hj)
def aeQ (P:Program) (f:Nat) (vs:List V) (s:AS) (d:Nat) (K:AS->Prop):Prop :=
 ∃ (M Z:List Nat) (H0:List Blk) (res:V) (H1:List (Option Blk)),ac P f H0 (vs.map (my M (jm Z (bB s.hp)) 6)) res H1/\M.Nodup/\(Z.all fun z=>!M.contains z)=true/\M.map (bB s.hp)=H0.map some/\(∀ blk ∈ H0,aC blk.es=true)/\jG H1=true /\
  cn res=true/\(List.range (b9 d 0 res).2.2).all (fun i=>((s.sunk Z).wrote M H1).fresh (d+1000 * i))=true/\K (((s.sunk Z).wrote M H1).took d res)
def aeR (P:Program) (f:Nat) (vs:List V) (s:AS) (d:Nat) (K:AS->Prop):Prop :=
 ∃ (M Z:List Nat) (H0:List Blk) (R:V->List Blk->Prop),qp P f H0 (vs.map (my M (jm Z (bB s.hp)) 6)) R/\M.Nodup/\(Z.all fun z=>!M.contains z)=true/\M.map (bB s.hp)=H0.map some/\(∀ blk ∈ H0,aC blk.es=true) /\
  ∀ res l,R res l->l.length=H0.length->jG (l.map some)=true/\cn res=true/\(List.range (b9 d 0 res).2.2).all (fun i=>((s.sunk Z).wrote M (l.map some)).fresh (d+1000 * i))=true/\K (((s.sunk Z).wrote M (l.map some)).took d res)
def AS.back (s:AS) (M:List Nat) (d:Nat) (res:V) (l:List Blk) (nw:Option Blk):AS :=
 { s with sl:=(d,Ki (SF M d) res)::s.sl,hp:=(M.zip (l.map (xj (SF M d)))).reverse++(match nw with | some b=>(d,xj (SF M d) b)::Sb M s.hp | none=>Sb M s.hp) }
omit [GI] in
theorem AS.den_back (s:AS) (M:List Nat) (d:Nat) (res:V) (l:List Blk) (nw:Option Blk):(s.back M d res l nw).den={ s.den.back M d l nw with sl:=ca s.den.sl d (Ki (SF M d) res) }:=by
 have e:bB (Sb M s.hp)=(s.den.off M).hp:=by funext k;rw[Lx];rfl
 unfold AS.back AS.den St.back;dsimp only;rw[ie,tf];cases nw with
 | none=>dsimp only;rw[e];rfl
 | some b=>dsimp only;rw[iH,e];rfl
def agP (P:Program) (f:Nat) (vs:List V) (s:AS) (d:Nat) (K:AS->Prop):Prop :=
 ∃ (M Z:List Nat) (H0:List Blk) (R:V->List Blk->Option Blk->Prop),Cf P f H0 (vs.map (my M (jm Z (bB s.hp)) 6)) R/\M.Nodup/\(Z.all fun z=>!M.contains z)=true/\M.map (fun id=>(bB s.hp id).map (xj (upI M)))=H0.map some /\
  (∀ id ∈ M,∀ blk,bB s.hp id=some blk->∀ i,a7 i blk.es=true->i ∈ M) /\
  ∀ res l nw,R res l nw->l.length=H0.length->WW (H0.length+if nw.isSome then 1 else 0) res/\(∀ blk ∈ l,Kj (H0.length+if nw.isSome then 1 else 0) blk.es)/\(∀ blk,nw=some blk->Kj H0.length blk.es)/\(nw.isSome=true->(s.sunk Z).fresh d=true)/\K ((s.sunk Z).back M d res l nw)
def nT (P:Program) (f:Nat) (vs:List V) (s:AS) (d:Nat) (K:AS->Prop):Prop:=agQ P f vs s d K\/agO P f vs s d K\/agR P f vs s d K\/aeQ P f vs s d K\/aeR P f vs s d K\/agP P f vs s d K
def acJ:List (Nat×V)->Nat->V->List (Nat×V)
 | [],_,_=>[]
 | (k,v)::l,t,x=>if t=k then (k,x)::l else (k,v)::acJ l t x
omit [GI] in
theorem adP {l:List (Nat×V)} {t:Nat} {x:V} (h:lk l t=x):lk (acJ l t x)=lk l:=by
 funext i
 induction l with
 | nil=>rfl
 | cons p l ih =>
   obtain ⟨k,v⟩:=p;simp only[lk] at h;simp only[acJ];split
   ·rename_i e;rw[if_pos e] at h;subst h;simp only[lk]
   ·rename_i e;rw[if_neg e] at h;simp only[lk];rw[ih h]
def AS.mark (s:AS) (t:Nat) (x:V):AS:={ s with sl:=acJ s.sl t x }
def ack (s:AS) (d:Nat) (K:AS->Prop):Prop:=s.fresh bm=true/\∀ b,K { s with sl:=(d,.v (.map (some b)))::s.sl,hp:=(bm,bo b [])::s.hp }
def ZA (ok:Bool) (m k:V) (s:AS) (d:Nat) (K:AS->Prop):Prop:=∃ b key c,m=.v (.map (some b))/\k=.v (.string (bs key))/\bB s.hp bm=some (bo b c) /\
 ((ok=true/\K (s.put (some d) (.tup [.undef,.v (.bool (dZ key c).isSome)])))\/(ok=false/\dZ key c=none/\K (s.put (some d) (.v (.slice none 0 0)))) \/
   (ok=false/\∃ l:List Int,dZ key c=some (some l)/\s.fresh d=true/\K { s with sl:=(d,.sl d 0 l.length)::s.sl,hp:=(d,⟨1,l.map rO⟩)::(bm,bo b (dD key none c))::HO bm s.hp }))
def aer (m k v:V) (s:AS) (K:AS->Prop):Prop:=∃ b key c id,∃ l:List Int,m=.v (.map (some b))/\k=.v (.string (bs key))/\bB s.hp bm=some (bo b c)/\v=.sl id 0 l.length/\bB s.hp id=some ⟨1,l.map rO⟩ /\
 K { s with hp:=(bm,bo b (dD key (some l) c))::HO bm (HO id s.hp) }
def en (P:Program) (c:CO) (K:AS->Prop) (s:AS):Prop :=
 match c.o with
 | .call f xs=>nT P f (xs.map s.ev) s (c.d.getD 0) K
 | .callv x xs=>match s.ev x with
   | .clo f caps=>nT P f (xs.map s.ev++caps) s (c.d.getD 0) K
   | _=>False
 | .mkmap=>ack s (c.d.getD 0) K
 | .look ok m k=>ZA ok (s.ev m) (s.ev k) s (c.d.getD 0) K
 | .mupd m k v=>aer (s.ev m) (s.ev k) (s.ev v) s K
 | o=>match uY s.ev (bB s.hp) (c.d.getD 0) o with
   | some (p,δ)=>p/\(δ.new.isSome=true->s.fresh (c.d.getD 0)=true)/\K (s.app c.d δ)
   | none=>False
def Ub (P:Program):List CO->(AS->Prop)->AS->Prop
 | [],K,s=>K s
 | c::cs,K,s=>match c.g with
   | none=>en P c (Ub P cs K) s
   | some (t,b)=>match lk s.sl t with
     | .v (.bool v)=>(v=b->en P c (Ub P cs K) (s.mark t (.v (.bool b))))/\(v=!b->Ub P cs K ((s.mark t (.v (.bool !b))).put c.d (.tup [])))
     | .tup []=>Ub P cs K (s.put c.d (.tup []))
     | _=>False
omit [GI] in
theorem AS.den_same {s:AS} {t:Nat} {v:V} (h:lk s.sl t=v):(s.mark t v).den=s.den:=by
 simp only[AS.mark,AS.den];rw[adP h]
def xe (P:Program) (ops:Array Oper) (n:Nat):List Oper->Option (List CO)
 | []=>some []
 | o::os=>match QO P ops n o,xe P ops n os with
   | some c,some cs=>some (c::cs)
   | _,_=>none
section
variable {P : Program} {X : Ctx} {Q : Exit → Act → World → Prop}
theorem fq {o:Oper} {a:Act} {w:World} {s':St} {K:Act->World->Prop} (h:gS P o X a w s') (hK:∀ a' w',Cg X s' a' w'->K a' w'):o.wp P a w K Q:=by
 obtain ⟨nx,x,w',hr,hnx,hrel⟩:=h;unfold Oper.wp;rw[hr];rcases hnx with rfl | ⟨rfl,rfl⟩
 ·exact hK _ _ hrel
 ·exact hK _ _ hrel
omit [GI] in
theorem En {ops:Array Oper} {n:Nat} {o:Oper} {c:CO} (h:QO P ops n o=some c):iT P o.op=some c.o/\c.d=o.dst/\(∀ d,o.dst=some d->d < n)/\(WD c.o=true->o.dst=none) /\
  (WD c.o=false->∃ d,o.dst=some d)/\((o.guard=none/\c.g=none)\/∃ j b t,o.guard=some (j,b)/\c.g=some (t,b)/\(ops[j]?).bind (·.dst)=some t):=by
 unfold QO at h;cases hq:iT P o.op with
 | none=>simp[hq] at h
 | some q =>
   simp only[hq] at h;split at h
   ·rename_i hd
    have hg:∃ g,c=⟨g,o.dst,q⟩/\((o.guard=none/\g=none)\/∃ j b t,o.guard=some (j,b)/\g=some (t,b)/\(ops[j]?).bind (·.dst)=some t):=by
     split at h
     ·rename_i hgd;simp only[Option.some.injEq] at h;exact⟨none,h.symm,.inl ⟨hgd,rfl⟩⟩
     ·rename_i j b hgd;split at h
      ·rename_i t ht;simp only[Option.some.injEq] at h;exact⟨_,h.symm,.inr ⟨j,b,t,hgd,rfl,ht⟩⟩
      ·cases h
    obtain ⟨g,rfl,hg⟩:=hg;cases hs:WD q with
    | true =>
      rw[hs] at hd;unfold dOk at hd;cases hdst:o.dst with
      | none=>exact⟨rfl,rfl,fun d e=>(by cases e),fun _=>rfl,fun e=>(by cases e),hg⟩
      | some d=>rw[hdst] at hd;simp at hd
    | false =>
      rw[hs] at hd;unfold dOk at hd;cases hdst:o.dst with
      | none=>rw[hdst] at hd;simp at hd
      | some d=>rw[hdst] at hd;exact⟨rfl,rfl,fun d' e=>(by cases e;simpa using hd),fun e=>(by cases e),fun _=>⟨d,rfl⟩,hg⟩
   ·cases h
omit [GI] in
theorem rK {f:Nat} (h:dk P f=true) (args:Array Value) (w:World):(callFunc f args).run P w=.ok (.enter f args) w:=by
 unfold dk at h;simp only[beq_iff_eq,Option.map_eq_some_iff,Bool.and_eq_true,bne_iff_ne,ne_eq] at h;obtain ⟨fn,h1,h2,h3⟩:=h;have hb:fn.body≠none:=by cases hb:fn.body<;>simp_all
 simp[callFunc,h1,h3,hb]
omit [GI] in
theorem iE {o:Oper} {a:Act} {w:World} {f:Nat} {args:Array Value} {K:Act->World->Prop} (hr:(execOp a.eval o).run P w=.ok (.enter f args) w)
  (h:Calls P f args w fun e w'=>∃ y,e=.returned y/\K (a.put o.dst y) w'):o.wp P a w K Q:=by
 unfold Oper.wp;rw[hr,Oper.upon_enter];refine h.mono ?_;rintro e w' ⟨y,rfl,hk⟩;exact hk
theorem VL {X:Ctx} {s:AS} {a:Act} {w:World} {ys:Array Operand} {xs:List Abs.X} (hx:Zj ys.toList=some xs):∀ D φ F,RelD X s.den a w D φ F []->cg w D (xs.map s.ev) φ (ys.map a.eval).toList []:=fun D φ F h=>by
 have:=NW h hx;rw[AS.ev_eq] at this;simpa using this
def Of:O->Bool
 | .call _ _=>true
 | .callv _ _=>true
 | _=>false
def Yl:O->Bool
 | .mkmap=>true
 | .look _ _ _=>true
 | .mupd _ _ _=>true
 | _=>false
omit [GI] in
theorem fh {α:Type} {x:Option α} {f:α->O} {q:O} (h:x.map f=some q) (hf:∀ y,Yl (f y)=false):Yl q=false:=by
 simp only[Option.map_eq_some_iff] at h;obtain ⟨y,_,rfl⟩:=h;exact hf y
omit [GI] in
theorem ig {α:Type} {x:Option α} {f:α->O} {q:O} (h:x.map f=some q) (hf:∀ y,Of (f y)=false):Of q=false:=by
 simp only[Option.map_eq_some_iff] at h;obtain ⟨y,_,rfl⟩:=h;exact hf y
omit [GI] in
set_option maxHeartbeats 1000000 in
theorem A5 {op:Op} {q:O} (h:iT P op=some q) (hq:Of q=true):∃ c,op=.call c:=by
 have no:Of q≠false:=by rw[hq];simp
 cases op with
 | call c=>exact⟨c,rfl⟩
 | move x=>exact absurd (ig h (fun _=>rfl)) no
 | assign x=>exact absurd (ig h (fun _=>rfl)) no
 | unOp a b x=>exact absurd (ig h (fun _=>rfl)) no
 | nilCheck x=>exact absurd (ig h (fun _=>rfl)) no
 | extract x i=>exact absurd (ig h (fun _=>rfl)) no
 | build t ps =>
   simp only[iT] at h;split at h
   ·split at h
    ·exact absurd (ig h (fun _=>rfl)) no
    ·cases h
   ·cases h
 | makeFunc fn first cs =>
   cases fn<;>simp only[iT,reduceCtorEq] at h;split at h
   ·exact absurd (ig h (fun _=>rfl)) no
   ·cases h
 | slice t x lo hi mx =>
   cases mx<;>simp only[iT,reduceCtorEq] at h;split at h
   ·cases h;cases hq
   ·split at h
    ·cases h;cases hq
    ·cases h
   ·cases h
 | pick a b c=>simp only[iT] at h;split at h<;>cases h;cases hq
 | box t x=>simp only[iT] at h;split at h<;>cases h;cases hq
 | load t x=>simp only[iT] at h;split at h<;>cases h;cases hq
 | store t x y=>simp only[iT] at h;split at h<;>cases h;cases hq
 | binOp a t x y u=>simp only[iT] at h;split at h<;>cases h;cases hq
 | convert s d x=>simp only[iT] at h;split at h<;>cases h;cases hq
 | indexAddr t x i=>simp only[iT] at h;split at h<;>cases h;cases hq
 | index t x i=>simp only[iT] at h;split at h<;>cases h;cases hq
 | makeMap t r =>
   cases r<;>simp only[iT,reduceCtorEq] at h;split at h<;>cases h;cases hq
 | lookup t m k ok=>simp only[iT] at h;split at h<;>first | (split at h<;>cases h;cases hq;done) | cases h
 | mapUpdate t m k v=>simp only[iT] at h;split at h<;>first | (split at h<;>cases h;cases hq;done) | cases h
 | alloc t=>simp only[iT] at h;split at h<;>first | (split at h<;>cases h;cases hq;done) | cases h
 | buildSlice t n ps=>simp only[iT] at h;split at h<;>first | (split at h<;>cases h;cases hq;done) | cases h
 | makeSlice t l c=>simp only[iT] at h;split at h<;>first | (split at h<;>cases h;cases hq;done) | cases h
 | field t x f=>simp only[iT] at h;split at h<;>first | (split at h<;>first | (split at h<;>cases h;cases hq;done) | cases h) | cases h
 | fieldAddr t x f=>simp only[iT] at h;split at h<;>first | (split at h<;>first | (split at h<;>first | (split at h<;>cases h;cases hq;done) | cases h) | cases h) | cases h
 | _=>cases h
omit [GI] in
theorem QN {op:Op} {q:O} (h:iT P op=some q):(q=.mkmap->∃ t,mz P t=true/\op=.makeMap t none) /\
  (∀ ok xm xk,q=.look ok xm xk->∃ t m k,mz P t=true/\op=.lookup t m k ok/\cX m=some xm/\cX k=some xk) /\
  (∀ xm xk xv,q=.mupd xm xk xv->∃ t m k v,mz P t=true/\op=.mapUpdate t m k v/\cX m=some xm/\cX k=some xk/\cX v=some xv):=by
 have key:(Yl q=false)\/((q=.mkmap->∃ t,mz P t=true/\op=.makeMap t none) /\
  (∀ ok xm xk,q=.look ok xm xk->∃ t m k,mz P t=true/\op=.lookup t m k ok/\cX m=some xm/\cX k=some xk) /\
  (∀ xm xk xv,q=.mupd xm xk xv->∃ t m k v,mz P t=true/\op=.mapUpdate t m k v/\cX m=some xm/\cX k=some xk/\cX v=some xv)):=by
  cases op with
  | makeMap t r =>
    right;cases r<;>simp only[iT,reduceCtorEq] at h;split at h<;>simp only[Option.some.injEq,reduceCtorEq] at h;rename_i ht;subst h;exact⟨fun _=>⟨t,ht,rfl⟩,fun _ _ _ e=>(by cases e),fun _ _ _ e=>(by cases e)⟩
  | lookup t m k ok =>
    right;simp only[iT] at h;split at h
    ·rename_i ht;split at h<;>simp only[Option.some.injEq,reduceCtorEq] at h;rename_i h1 h2;subst h;exact⟨fun e=>(by cases e),fun _ _ _ e=>(by cases e;exact⟨t,m,k,ht,rfl,h1,h2⟩),fun _ _ _ e=>(by cases e)⟩
    ·cases h
  | mapUpdate t m k v =>
    right;simp only[iT] at h;split at h
    ·rename_i ht;split at h<;>simp only[Option.some.injEq,reduceCtorEq] at h;rename_i h1 h2 h3;subst h;exact⟨fun e=>(by cases e),fun _ _ _ e=>(by cases e),fun _ _ _ e=>(by cases e;exact⟨t,m,k,v,ht,rfl,h1,h2,h3⟩)⟩
    ·cases h
  | move x=>exact .inl (fh h (fun _=>rfl))
  | assign x=>exact .inl (fh h (fun _=>rfl))
  | unOp a b x=>exact .inl (fh h (fun _=>rfl))
  | nilCheck x=>exact .inl (fh h (fun _=>rfl))
  | extract x i=>exact .inl (fh h (fun _=>rfl))
  | build t ps =>
    simp only[iT] at h;split at h
    ·split at h
     ·exact .inl (fh h (fun _=>rfl))
     ·cases h
    ·cases h
  | makeFunc fn first cs =>
    cases fn<;>simp only[iT,reduceCtorEq] at h;split at h
    ·exact .inl (fh h (fun _=>rfl))
    ·cases h
  | slice t x lo hi mx =>
    cases mx<;>simp only[iT,reduceCtorEq] at h;split at h
    ·cases h;exact .inl rfl
    ·split at h
     ·cases h;exact .inl rfl
     ·cases h
    ·cases h
  | call c =>
    left;simp only[iT] at h;split at h
    ·split at h
     ·split at h<;>cases h<;>rfl
     ·cases h
    ·split at h
     ·split at h
      ·split at h
       ·cases h;rfl
       ·cases h
      ·cases h
     ·cases h
    ·exact fh h (fun _=>rfl)
    ·exact fh h (fun _=>rfl)
    ·exact fh h (fun _=>rfl)
    ·exact fh h (fun _=>rfl)
    ·cases h
  | pick a b c=>simp only[iT] at h;split at h<;>cases h;exact .inl rfl
  | box t x=>simp only[iT] at h;split at h<;>cases h;exact .inl rfl
  | load t x=>simp only[iT] at h;split at h<;>cases h;exact .inl rfl
  | store t x y=>simp only[iT] at h;split at h<;>cases h;exact .inl rfl
  | binOp a t x y u=>simp only[iT] at h;split at h<;>cases h;exact .inl rfl
  | convert s d x=>simp only[iT] at h;split at h<;>cases h;exact .inl rfl
  | indexAddr t x i=>simp only[iT] at h;split at h<;>cases h;exact .inl rfl
  | index t x i=>simp only[iT] at h;split at h<;>cases h;exact .inl rfl
  | alloc t=>simp only[iT] at h;split at h<;>first | (split at h<;>cases h;exact .inl rfl;done) | cases h
  | buildSlice t n ps=>simp only[iT] at h;split at h<;>first | (split at h<;>cases h;exact .inl rfl;done) | cases h
  | makeSlice t l c=>simp only[iT] at h;split at h<;>first | (split at h<;>cases h;exact .inl rfl;done) | cases h
  | field t x f=>simp only[iT] at h;split at h<;>first | (split at h<;>first | (split at h<;>cases h;exact .inl rfl;done) | cases h) | cases h
  | fieldAddr t x f=>simp only[iT] at h;split at h<;>first | (split at h<;>first | (split at h<;>first | (split at h<;>cases h;exact .inl rfl;done) | cases h) | cases h) | cases h
  | _=>cases h
 rcases key with key | key
 ·exact⟨fun e=>(by rw[e] at key;cases key),fun _ _ _ e=>(by rw[e] at key;cases key),fun _ _ _ e=>(by rw[e] at key;cases key)⟩
 ·exact key
omit [GI] in
theorem ZO {op:Op} (h:iT P op=some .mkmap):∃ t,mz P t=true/\op=.makeMap t none:=(QN h).1 rfl
omit [GI] in
theorem VI {op:Op} {ok:Bool} {xm xk:Abs.X} (h:iT P op=some (.look ok xm xk)):∃ t m k,mz P t=true/\op=.lookup t m k ok/\cX m=some xm/\cX k=some xk:=(QN h).2.1 _ _ _ rfl
omit [GI] in
theorem VJ {op:Op} {xm xk xv:Abs.X} (h:iT P op=some (.mupd xm xk xv)):∃ t m k v,mz P t=true/\op=.mapUpdate t m k v/\cX m=some xm/\cX k=some xk/\cX v=some xv:=(QN h).2.2 _ _ _ rfl
omit [GI] in
theorem KW {c:Call} {q:O} (h:iT P (.call c)=some q) (hq:Of q=true):(∃ f xs,q=.call f xs/\c.callee=.value (.func f)/\Zj c.args.toList=some xs)\/(∃ t xs,q=.callv (.t t) xs/\c.callee=.value (.tmp t)/\Zj c.args.toList=some xs):=by
 have no:Of q≠false:=by rw[hq];simp
 simp only[iT] at h;split at h
 ·split at h
  ·split at h<;>cases h<;>cases hq
  ·cases h
 ·split at h
  ·split at h
   ·split at h
    ·cases h;cases hq
    ·cases h
   ·cases h
  ·cases h
 ·exact absurd (ig h (fun _=>rfl)) no
 ·exact absurd (ig h (fun _=>rfl)) no
 ·rename_i f hcal;simp only[Option.map_eq_some_iff] at h;obtain ⟨xs,hx,rfl⟩:=h;exact .inl ⟨f,xs,rfl,hcal,hx⟩
 ·rename_i t hcal;simp only[Option.map_eq_some_iff] at h;obtain ⟨xs,hx,rfl⟩:=h;exact .inr ⟨t,xs,rfl,hcal,hx⟩
 ·cases h
theorem ac6 {ops:Array Oper} {o:Oper} {c:CO} {s:AS} {a:Act} {w:World} {K:AS->Prop} {K':Act->World->Prop} (hc:QO P ops X.n o=some c) (h:Cg X s.den a w) (hpin:X.pin=s.pin) (hs:en P c K s)
  (hK:∀ s' a' w',K s'->s'.pin=s.pin->Cg X s'.den a' w'->K' a' w'):o.wp P a w K' Q:=by
 obtain ⟨hq,hdst,hdn,hst,hns,_⟩:=En hc
 have callRule:∀ (f:Nat) (vs:List V) (d:Nat) (args:Array Value),nT P f vs s d K->o.dst=some d->(∀ D φ F,RelD X s.den a w D φ F []->cg w D vs φ args.toList []) ->
   (dk P f=true->(execOp a.eval o).run P w=.ok (.enter f args) w)->o.wp P a w K' Q:=by
  intro f vs d args hcall hd hv hr;rcases hcall with hcall | hcall | hcall | hcall | hcall | hcall
  rotate_left;rotate_left
  ·obtain ⟨M,H0,R,hP,hM,hH,hn0,hall⟩:=hcall
   have hlen:H0.length=M.length:=by
    have:=congrArg List.length hH;rw[List.length_map,List.length_map] at this;exact this.symm
   have hl1:∀ l:List Blk,l.length=H0.length->(l.map some).length=M.length:=fun l hl=>by rw[List.length_map,hl,hlen]
   refine iE (hr hP.1) ?_
   have:=aak (k:=6) (d:=d) hP h hM hH hn0 hv (hdn d hd) (fun res l hR hl=>by
    obtain ⟨hout,hres,hro,hfr,_⟩:=hall res l hR hl;refine⟨hres,hro,fun j blk hj=>yR _ j blk hout hj,fun i hi=>?_⟩;have:=AS.fresh_ok (List.all_eq_true.1 hfr i (List.mem_range.2 hi));rw[AS.den_wrote s hM (hl1 l hl)] at this;exact⟨this.1,by rw[hpin];exact this.2⟩)
   rw[Array.toArray_toList] at this;refine this.mono ?_;rintro e w' ⟨y,res,l,hR,hl,rfl,hrel⟩;rw[hd];exact⟨y,rfl,hK ((s.wrote M (l.map some)).took d res) _ _ (hall res l hR hl).2.2.2.2 rfl (by rw[AS.den_took,AS.den_wrote s hM (hl1 l hl)];exact hrel)⟩
  ·obtain ⟨M,Z,H0,res,H1,hP,hM,hMZ,hH,hn0,hout,hres,hfr,hk⟩:=hcall
   have hlen:H1.length=M.length:=by
    have:=congrArg List.length hH;rw[List.length_map,List.length_map] at this;exact hP.2.1.trans this.symm
   have hMZ':∀ z ∈ Z,z ∉ M:=fun z hz=>by simpa using List.all_eq_true.1 hMZ z hz
   refine iE (hr hP.1) ?_
   have hfr':∀ i,i < (b9 d 0 res).2.2->Fresh ((s.den.sunk Z).wrote M H1) (d+1000 * i)/\d+1000 * i ∉ X.pin:=fun i hi=>by
    have:=AS.fresh_ok (List.all_eq_true.1 hfr i (List.mem_range.2 hi));rw[AS.den_wrote _ hM hlen,AS.den_sunk] at this;exact⟨this.1,by rw[hpin];exact this.2⟩
   have:=TI (k:=6) (d:=d) hP h hM hMZ' hH hn0 (fun j blk hj=>oU H1 j blk hout hj) hv (hdn d hd) hres hfr';rw[Array.toArray_toList] at this;refine this.mono ?_;rintro e w' ⟨y,rfl,hrel⟩;rw[hd];exact⟨y,rfl,hK (((s.sunk Z).wrote M H1).took d res) _ _ hk rfl (by rw[AS.den_took,AS.den_wrote _ hM hlen,AS.den_sunk];exact hrel)⟩
  ·obtain ⟨M,Z,H0,R,hP,hM,hMZ,hH,hn0,hall⟩:=hcall
   have hlen:H0.length=M.length:=by
    have:=congrArg List.length hH;rw[List.length_map,List.length_map] at this;exact this.symm
   have hl1:∀ l:List Blk,l.length=H0.length->(l.map some).length=M.length:=fun l hl=>by rw[List.length_map,hl,hlen]
   have hMZ':∀ z ∈ Z,z ∉ M:=fun z hz=>by simpa using List.all_eq_true.1 hMZ z hz
   refine iE (hr hP.1) ?_
   have:=Ys (k:=6) (d:=d) hP h hM hMZ' hH hn0 hv (hdn d hd) (fun res l hR hl=>by
    obtain ⟨hout,hres,hfr,_⟩:=hall res l hR hl;refine⟨hres,fun j blk hj=>oU _ j blk hout hj,fun i hi=>?_⟩;have:=AS.fresh_ok (List.all_eq_true.1 hfr i (List.mem_range.2 hi));rw[AS.den_wrote _ hM (hl1 l hl),AS.den_sunk] at this;exact⟨this.1,by rw[hpin];exact this.2⟩)
   rw[Array.toArray_toList] at this;refine this.mono ?_;rintro e w' ⟨y,res,l,hR,hl,rfl,hrel⟩;rw[hd];exact⟨y,rfl,hK (((s.sunk Z).wrote M (l.map some)).took d res) _ _ (hall res l hR hl).2.2.2 rfl (by rw[AS.den_took,AS.den_wrote _ hM (hl1 l hl),AS.den_sunk];exact hrel)⟩
  ·obtain ⟨M,Z,H0,R,hP,hM,hMZ,hH,hin,hall⟩:=hcall;have hMZ':∀ z ∈ Z,z ∉ M:=fun z hz=>by simpa using List.all_eq_true.1 hMZ z hz
   refine iE (hr hP.1) ?_
   have:=W1 (k:=6) (d:=d) hP h hM hMZ' hH hin hv (hdn d hd) (fun res l nw hR hl=>by
    obtain ⟨q1,q2,q3,q4,_⟩:=hall res l nw hR hl;refine⟨q1,q2,fun blk hb=>?_⟩;have:=AS.fresh_ok (q4 (by rw[hb];rfl));rw[AS.den_sunk] at this;exact⟨q3 blk hb,this.1,by rw[hpin];exact this.2⟩)
   rw[Array.toArray_toList] at this;refine this.mono ?_;rintro e w' ⟨y,res,l,nw,hR,hl,rfl,hrel⟩;rw[hd];exact⟨y,rfl,hK ((s.sunk Z).back M d res l nw) _ _ (hall res l nw hR hl).2.2.2.2 rfl (by rw[AS.den_back,AS.den_sunk];exact hrel)⟩
  rotate_left
  ·obtain ⟨M,H0,res,H1,hP,hM,hH,hn0,hout,hres,hro,hfr,hk⟩:=hcall
   have hlen:H1.length=M.length:=by
    have:=congrArg List.length hH;rw[List.length_map,List.length_map] at this;exact hP.2.1.trans this.symm
   refine iE (hr hP.1) ?_
   have hfr':∀ i,i < (b9 d 0 res).2.2->Fresh (s.den.wrote M H1) (d+1000 * i)/\d+1000 * i ∉ X.pin:=fun i hi=>by
    have:=AS.fresh_ok (List.all_eq_true.1 hfr i (List.mem_range.2 hi));rw[AS.den_wrote s hM hlen] at this;exact⟨this.1,by rw[hpin];exact this.2⟩
   have:=acj (k:=6) (d:=d) hP h hM hH hn0 (fun j blk hj=>(yR H1 j blk hout hj).1) hv (hdn d hd) hres hro (fun j blk hj=>(yR H1 j blk hout hj).2) hfr';rw[Array.toArray_toList] at this;refine this.mono ?_;rintro e w' ⟨y,rfl,hrel⟩;rw[hd];exact⟨y,rfl,hK ((s.wrote M H1).took d res) _ _ hk rfl (by rw[AS.den_took,AS.den_wrote s hM hlen];exact hrel)⟩
  obtain ⟨res,hP,hres,hro,hfr,hk⟩:=hcall;refine iE (hr hP.1) ?_
  have hfr':∀ i,i < (b9 d 0 res).2.2->Fresh s.den (d+1000 * i)/\d+1000 * i ∉ X.pin:=fun i hi=>by
   have:=AS.fresh_ok (List.all_eq_true.1 hfr i (List.mem_range.2 hi));exact⟨this.1,by rw[hpin];exact this.2⟩
  have:=Zk (k:=6) (d:=d) hP h hv (hdn d hd) hres hro hfr';rw[Array.toArray_toList] at this;refine this.mono ?_;rintro e w' ⟨y,rfl,hrel⟩;rw[hd];exact⟨y,rfl,hK (s.took d res) _ _ hk rfl (by rw[AS.den_took];exact hrel)⟩
 unfold en at hs;split at hs
 ·
  rename_i f xs hco;rw[hco] at hq;obtain ⟨d,hd⟩:=hns (by rw[hco];rfl);rw[hdst,hd] at hs;obtain ⟨cl,hop⟩:=A5 hq rfl;rw[hop] at hq;rcases KW hq rfl with ⟨f',xs',e,hcal,hx⟩ | ⟨t,xs',e,hcal,hx⟩
  ·cases e;refine callRule f _ d (cl.args.map a.eval) hs hd (VL hx) fun hcb=>?_;simp[execOp,hop,resolve,hcal,Act.eval,Deferred.ofValue,invoke,rK hcb]
  ·cases e
 ·
  rename_i x xs hco;rw[hco] at hq;obtain ⟨d,hd⟩:=hns (by rw[hco];rfl);rw[hdst,hd] at hs;obtain ⟨cl,hop⟩:=A5 hq rfl;rw[hop] at hq;rcases KW hq rfl with ⟨f',xs',e,hcal,hx⟩ | ⟨t,xs',e,hcal,hx⟩
  ·cases e
  ·cases e;split at hs
   ·rename_i f caps hclo;obtain ⟨D,φ,F,hrel⟩:=h;have hslot:=hrel.slots t;have hcl:s.den.sl t=.clo f caps:=hclo;rw[hcl] at hslot;simp only[CV] at hslot;obtain ⟨ys,hys,_⟩:=hslot;refine callRule f _ d (cl.args.map a.eval++ys) hs hd (fun D φ F hr=>?_) fun hcb=>?_
    ·rw[Array.toList_append];have h2:=hr.slots t;rw[hcl,hys] at h2;simp only[CV] at h2;obtain ⟨zs,hz,hcv⟩:=h2;cases hz;exact ln (VL hx D φ F hr) hcv
    ·have he:a.eval (.tmp t)=.func (.func f) #[] ys:=hys;simp[execOp,hop,resolve,hcal,he,Deferred.ofValue,invoke,rK hcb]
   ·exact hs.elim
 ·
  rename_i hco;rw[hco] at hq hns;obtain ⟨d,hd⟩:=hns rfl;rw[hdst,hd] at hs;obtain ⟨hfr,hk⟩:=hs;obtain ⟨t,ht,hop⟩:=ZO hq;obtain ⟨D,φ,F,hrel⟩:=h;obtain ⟨f1,f2⟩:=AS.fresh_ok hfr;refine fq (acy hrel hop hd (hdn d hd) f1 (by rw[hpin];exact f2)) fun a' w' hr=>hK _ a' w' (hk w.heap.size) rfl ?_;simpa only[AS.den,ie,iH,Option.getD_some] using hr
 ·
  rename_i ok xm xk hco;rw[hco] at hq hns;obtain ⟨d,hd⟩:=hns rfl;rw[hdst,hd] at hs;obtain ⟨b,key,cont,em,ek,hb,hs⟩:=hs;obtain ⟨t,m,k,ht,hop,hm,hk⟩:=VI hq;obtain ⟨D,φ,F,hrel⟩:=h;have em':s.den.ev xm=.v (.map (some b)):=by rw[AS.ev_eq];exact em
  have ek':s.den.ev xk=.v (.string (bs key)):=by rw[AS.ev_eq];exact ek
  rcases hs with ⟨rfl,hs⟩ | ⟨rfl,hg,hs⟩ | ⟨rfl,l,hg,hfr,hs⟩
  ·refine fq (Xa hrel hdn hop ht hm hk em' ek' hb) fun a' w' hr=>hK _ a' w' hs rfl ?_;rw[hd] at hr;simpa only[AS.den,AS.put,Dl.app,Dl.hp,hpW,hpD,hpN,ie,Option.getD_some] using hr
  ·refine fq (W8 hrel hdn hop ht hm hk em' ek' hb hg) fun a' w' hr=>hK _ a' w' hs rfl ?_;rw[hd] at hr;simpa only[AS.den,AS.put,Dl.app,Dl.hp,hpW,hpD,hpN,ie,Option.getD_some] using hr
  ·obtain ⟨f1,f2⟩:=AS.fresh_ok hfr;refine fq (W9 hrel hop ht hm hk em' ek' hb hg hd (hdn d hd) f1 (by rw[hpin];exact f2)) fun a' w' hr=>hK _ a' w' hs rfl ?_;simpa only[AS.den,ie,iH,jW,NM,Option.getD_some] using hr
 ·
  rename_i xm xk xv hco;rw[hco] at hq hst;obtain ⟨b,key,cont,id,l,em,ek,hb,ev,hi,hs⟩:=hs;obtain ⟨t,m,k,v,ht,hop,hm,hk,hv⟩:=VJ hq;obtain ⟨D,φ,F,hrel⟩:=h;have em':s.den.ev xm=.v (.map (some b)):=by rw[AS.ev_eq];exact em
  have ek':s.den.ev xk=.v (.string (bs key)):=by rw[AS.ev_eq];exact ek
  have ev':s.den.ev xv=.sl id 0 l.length:=by rw[AS.ev_eq];exact ev
  refine fq (ZD hrel hop ht hm hk hv (hst rfl) em' ek' hb ev' hi) fun a' w' hr=>hK _ a' w' hs rfl ?_;simpa only[AS.den,ie,iH,jW,NM] using hr
 ·rename_i hno1 hno2 _ _ _;split at hs
  ·rename_i p δ he;obtain ⟨hp,hfr,hk⟩:=hs;obtain ⟨D,φ,F,hrel⟩:=h
   have hnew:δ.new.isSome=true->c.d.isSome=true:=fun hn=>by
    cases hd:c.d with
    | some d=>rfl
    | none =>
      rw[hd] at hdst;cases hst':WD c.o with
      | true =>
        cases hco:c.o<;>rw[hco] at hst'<;>simp[WD] at hst';rotate_left
        ·rw[hco] at he;simp[uY] at he
        rename_i k x y;rw[hco] at he;simp only[uY] at he;unfold vst at he;split at he
        ·split at he
         ·split at he
          ·split at he
           ·split at he
            ·simp only[Option.some.injEq,Prod.mk.injEq] at he;obtain ⟨_,rfl⟩:=he;cases hn
            ·cases he
           ·cases he
          ·cases he
         ·cases he
        ·cases he
      | false =>
        obtain ⟨d,hd'⟩:=hns hst';rw[hd'] at hdst;cases hdst
   have hruns:gS P o X a w (δ.app o.dst s.den):=by
    refine abJ hq hrel hdn hst hns (p:=p) ?_ hp fun hn d hd=>?_
    ·rw[AS.ev_eq,<- hdst];exact he
    ·have:=AS.fresh_ok (hfr hn);rw[hdst,hd] at this;exact⟨this.1,by rw[hpin];exact this.2⟩
   refine fq hruns fun a' w' hr=>hK (s.app c.d δ) a' w' hk (AS.app_pin _ _ _) ?_;rw[AS.den_app _ _ _ hnew,hdst];exact hr
  ·exact hs.elim
end
section
variable {P : Program} {X : Ctx} {Q : Exit → Act → World → Prop}
omit [GI] in
theorem SB {ops:Array Oper} {a:Act} {j t:Nat} {v:Bool} (hj:(ops[j]?).bind (·.dst)=some t) (hv:a.tmps.getD t undef=.bool v):yielded ops a.tmps j=some v:=by
 unfold yielded;rw[hj];simp only[Option.bind_some];rw[Array.getD_eq_getD_getElem?] at hv;cases h:a.tmps[t]? with
 | none=>rw[h] at hv;simp[undef] at hv
 | some x=>rw[h] at hv;simp at hv;simp[hv]
omit [GI] in
theorem Za {w:World} {D:Nat->Prop} {φ:Nat->Option Pl} {x:Value} {f:List Nat} (h:CV w D (.tup []) φ x f):x=undef:=by
 simp only[CV,cg] at h;obtain ⟨xs,rfl,h,_⟩:=h;simp only[undef];congr 1;exact Array.toList_inj.1 h
omit [GI] in
theorem A2 {w:World} {D:Nat->Prop} {φ:Nat->Option Pl}:CV w D (.tup []) φ undef []:=by
 simp only[CV,cg];exact⟨#[],by simp[undef]⟩
omit [GI] in
theorem JU {ops:Array Oper} {a:Act} {j t:Nat} (hj:(ops[j]?).bind (·.dst)=some t) (hv:a.tmps.getD t undef=undef):yielded ops a.tmps j=none:=by
 unfold yielded;rw[hj];simp only[Option.bind_some];rw[Array.getD_eq_getD_getElem?] at hv;cases h:a.tmps[t]? with
 | none=>rfl
 | some x=>rw[h] at hv;simp only[Option.getD_some] at hv;subst hv;rfl
theorem VA {ops:Array Oper} {K:AS->Prop}:∀ (os:List Oper) (cs:List CO) (s:AS) (a:Act) (w:World),xe P ops X.n os=some cs->Cg X s.den a w->X.pin=s.pin->Ub P cs K s ->
  (∀ s' a' w',K s'->s'.pin=s.pin->Cg X s'.den a' w'->Q .normal a' w')->wpList P ops Q os a w
 | [],cs,s,a,w,hc,h,hpin,hs,hK=>by
   simp only[xe,Option.some.injEq] at hc;subst hc;exact hK s a w hs rfl h
 | o::os,cs,s,a,w,hc,h,hpin,hs,hK=>by
   unfold xe at hc;split at hc
   ·rename_i c cs' hco hcs;simp only[Option.some.injEq] at hc;subst hc;obtain ⟨_,hdst,_,_,_,hg⟩:=En hco;unfold wpList
    have run:∀ s1:AS,s1.den=s.den->s1.pin=s.pin->en P c (Ub P cs' K) s1->o.wp P a w (wpList P ops Q os) Q:=fun s1 hd1 hp1 hst =>
     ac6 hco (by rw[hd1];exact h) (by rw[hp1];exact hpin) hst fun s' a' w' hk hp hr=>VA os cs' s' a' w' hcs hr (by rw[hpin,hp,hp1]) hk fun s2 a2 w2 k2 p2=>hK s2 a2 w2 k2 (by rw[p2,hp,hp1])
    unfold Ub at hs;rcases hg with ⟨hg1,hg2⟩ | ⟨j,b,t,hg1,hg2,hj⟩
    ·rw[hg2] at hs;rw[if_pos (by simp[Region.wanted,hg1])];exact .inl (run s rfl rfl hs)
    ·rw[hg2] at hs;simp only at hs;split at hs
     ·rename_i v hv;obtain ⟨D,φ,F,hrel⟩:=h;have hslot:=hrel.slots t;have hv':s.den.sl t=.v (.bool v):=hv;rw[hv'] at hslot;have hy:=SB (ops:=ops) hj (ff hslot);by_cases e:v=b
      ·rw[if_pos (by simp[Region.wanted,hg1,hy,e])];subst e;exact .inl (run _ (AS.den_same hv) rfl (hs.1 rfl))
      ·rw[if_neg (by simp[Region.wanted,hg1,hy,e])];have e':v=!b:=by cases v<;>cases b<;>simp_all
       have hds:(s.mark t (.v (.bool !b))).den=s.den:=AS.den_same (by rw[hv,e']);refine VA os cs' ((s.mark t (.v (.bool !b))).put c.d (.tup [])) _ w hcs ?_ (by rw[hpin];cases c.d<;>rfl) (hs.2 e') fun s2 a2 w2 k2 p2=>hK s2 a2 w2 k2 (by rw[p2];cases c.d<;>rfl);refine⟨D,φ,F,?_⟩;rw[hdst];cases hd:o.dst with
       | none =>
         have:((s.mark t (.v (.bool !b))).put none (.tup [])).den=s.den:=hds;rw[this];exact hrel
       | some d =>
         by_cases hlt:d < X.n
         ·have:=hrel.put d hlt (.tup []) undef A2
          have e2:((s.mark t (.v (.bool !b))).put (some d) (.tup [])).den={ s.den with sl:=ca s.den.sl d (.tup []) }:=by
           rw[<- hds];simp only[AS.put,AS.den,ie]
          rw[e2];exact this
         ·exact absurd ((En hco).2.2.1 d hd) hlt
     ·rename_i hv;obtain ⟨D,φ,F,hrel⟩:=h;have hslot:=hrel.slots t;have hv':s.den.sl t=.tup []:=hv;rw[hv'] at hslot;have hy:=JU (ops:=ops) hj (Za hslot);rw[if_neg (by simp[Region.wanted,hg1,hy])];refine VA os cs' (s.put c.d (.tup [])) _ w hcs ?_ (by rw[hpin];cases c.d<;>rfl) hs fun s2 a2 w2 k2 p2=>hK s2 a2 w2 k2 (by rw[p2];cases c.d<;>rfl);refine⟨D,φ,F,?_⟩;rw[hdst];cases hd:o.dst with
      | none=>exact hrel
      | some d =>
        by_cases hlt:d < X.n
        ·have:=hrel.put d hlt (.tup []) undef A2
         have e2:(s.put (some d) (.tup [])).den={ s.den with sl:=ca s.den.sl d (.tup []) }:=by
          simp only[AS.put,AS.den,ie]
         rw[e2];exact this
        ·exact absurd ((En hco).2.2.1 d hd) hlt
     ·exact hs.elim
   ·cases hc
end
end Go.Abs
namespace Go.Abs
variable [GI]
structure Tr where
 v:V
 hp:List (Nat×Option Blk)
 news:List Nat
def jN (f:Nat->Option Blk):List (Nat×Option Blk)->Nat->Option Blk
 | []=>f
 | (i,b)::l=>jN (ca f i b) l
def Tr.ap (tr:Tr) (d:Option Nat) (s:St):St:={ sl:=match d with | some d=>ca s.sl d tr.v | none=>s.sl,hp:=jN s.hp tr.hp }
def Vr (δ:Dl) (d:Option Nat):Tr :=
 { v:=δ.v,
   hp:=(match δ.wr with | some (i,b)=>[(i,some b)] | none=>[])++(match δ.del with | some i=>[(i,none)] | none=>[])++(match δ.new,d with | some b,some d=>[(d,some b)] | _,_=>[]),
   news:=match δ.new,d with | some _,some d=>[d] | _,_=>[] }
omit [GI] in
theorem ZI (δ:Dl) (d:Option Nat) (s:St):(Vr δ d).ap d s=δ.app d s:=by
 obtain ⟨v,new,del,wr⟩:=δ;cases wr with
 | none=>cases del<;>cases new<;>cases d<;>rfl
 | some p=>obtain ⟨i,b⟩:=p;cases del<;>cases new<;>cases d<;>rfl
def xZ (d:Nat) (res:V):Tr:={ v:=(b9 d 0 res).1,hp:=(b9 d 0 res).2.1.map fun p=>(p.1,some p.2),news:=(List.range (b9 d 0 res).2.2).map (d+1000 * ·) }
omit [GI] in
theorem NN (f:Nat->Option Blk):∀ l:List (Nat×Blk),jN f (l.map fun p=>(p.1,some p.2))=qV f l
 | []=>rfl
 | (i,b)::l=>by simp only[List.map_cons,jN,qV];exact NN _ l
omit [GI] in
theorem T6 (d:Nat) (res:V) (s:St):(xZ d res).ap (some d) s=s.took d res:=by
 simp only[xZ,Tr.ap,St.took,NN]
mutual
def cN:V->List Nat
 | .ref id _ _=>[id]
 | .sl id _ _=>[id]
 | .agg cs=>cc cs
 | .tup cs=>cc cs
 | .clo _ cs=>cc cs
 | _=>[]
def cc:List V->List Nat
 | []=>[]
 | c::cs=>cN c++cc cs
end
def SA:O->List X
 | .mv x=>[x]
 | .pick c a b=>[c,a,b]
 | .box _ x=>[x]
 | .build _ ps=>ps.map (·.2.2)
 | .bslice _ _ _ ps=>ps.map (·.2)
 | .ld _ _ x=>[x]
 | .st _ a x=>[a,x]
 | .bin _ _ x y=>[x,y]
 | .un _ x=>[x]
 | .conv _ x=>[x]
 | .clo _ cs=>cs
 | .mks _ _ _ l c=>[l,c]
 | .slc _ x lo hi=>x::(lo.toList++hi.toList)
 | .faddr _ x=>[x]
 | .fld _ _ _ x=>[x]
 | .iaddr _ x i=>[x,i]
 | .idx x i=>[x,i]
 | .ext x _=>[x]
 | .len _ x=>[x]
 | .app _ _ x y=>[x,y]
 | .mm _ xs=>xs
 | .call _ xs=>xs
 | .callv x xs=>x::xs
 | .mkmap=>[.k (.ref bm 0 0)]
 | .look _ m k=>[m,k,.k (.ref bm 0 0)]
 | .mupd m k v=>[m,k,v,.k (.ref bm 0 0)]
def rdS (c:CO):List Nat:=(match c.g with | some (t,_)=>[t] | none=>[])++(SA c.o).filterMap fun | .t n=>some n | .k _=>none
mutual
def fA:V->Bool
 | .ref _ _ _=>false
 | .sl _ _ _=>false
 | .agg cs=>dB cs
 | .tup cs=>dB cs
 | .clo _ cs=>dB cs
 | .own _ es=>dB es
 | _=>true
def dB:List V->Bool
 | []=>true
 | c::cs=>fA c&&dB cs
end
def aeU (P:Program) (f:Nat) (vs:List V) (s:St) (d:Nat) (tr:Tr):Prop :=
 ∃ res,aa P f (vs.map (aP s.hp 6)) res/\cn res=true/\(fx res=true\/(aC vs=true/\bb vs=true))/\tr=xZ d res/\bb vs=true/\(∀ id,id ∈ cc vs->∀ b,s.hp id=some b->dB b.es=true)
def trM (d:Nat) (M Z:List Nat) (l:List Blk) (res:V):Tr :=
 { v:=(b9 d 0 res).1,hp:=(Z.map fun z=>(z,none))++(M.zip (l.map some)++((b9 d 0 res).2.1.map fun p=>(p.1,some p.2))),news:=(List.range (b9 d 0 res).2.2).map (d+1000 * ·) }
def aeS (P:Program) (f:Nat) (vs:List V) (s:St) (d:Nat) (tr:Tr):Prop :=
 ∃ (M Z:List Nat) (H0 l:List Blk) (res:V),ac P f H0 (vs.map (my M (jm Z s.hp) 6)) res (l.map some)/\M.Nodup/\(∀ z ∈ Z,z ∉ M)/\M.map s.hp=H0.map some/\(∀ blk ∈ H0,aC blk.es=true)/\jG (l.map some)=true/\cn res=true /\
  (M.all fun id=>(cc vs).contains id)=true/\(Z.all fun id=>(cc vs).contains id)=true/\tr=trM d M Z l res
omit [GI] in
mutual
theorem WV (id:Nat):∀ v:V,bI id v=true->id ∈ cN v
 | .ref k _ _,h | .sl k _ _,h=>by
   simp only[bI,beq_iff_eq] at h;simp only[cN,List.mem_singleton];exact h.symm
 | .undef,h | .v _,h | .rp _ _ _ _,h | .ro _ _,h | .own _ _,h=>by simp[bI] at h
 | .agg cs,h | .tup cs,h | .clo _ cs,h=>by
   simp only[bI] at h;simp only[cN];exact yL id cs h
theorem yL (id:Nat):∀ cs:List V,a7 id cs=true->id ∈ cc cs
 | [],h=>by simp[a7] at h
 | c::cs,h=>by
   simp only[a7,Bool.or_eq_true] at h;simp only[cc,List.mem_append];exact h.imp (WV id c) (yL id cs)
end
def rL (M:List Nat) (look:Nat->Option Blk):List Nat->Bool
 | []=>true
 | id::l=>(match look id with | some b=>(cc b.es).all fun i=>M.contains i | none=>true)&&rL M look l
omit [GI] in
theorem Rc {M:List Nat} {look:Nat->Option Blk}:∀ {l:List Nat},rL M look l=true->∀ id ∈ l,∀ blk,look id=some blk->∀ i,a7 i blk.es=true->i ∈ M
 | [],_,id,h,_,_,_,_=>by cases h
 | k::l,h,id,hid,blk,hb,i,hi=>by
   simp only[rL,Bool.and_eq_true] at h;rcases List.mem_cons.1 hid with rfl | hid
   ·have:=h.1;rw[hb] at this;simp only[List.all_eq_true] at this;simpa using this i (yL i _ hi)
   ·exact Rc h.2 id hid blk hb i hi
def trN (d:Nat) (M Z:List Nat) (l:List Blk) (res:V):Tr :=
 { v:=Ki (SF M d) res,hp:=(Z.map fun z=>(z,none))++((M.map fun z=>(z,none))++((M.zip (l.map (xj (SF M d)))).map fun p=>(p.1,some p.2))),news:=[] }
def aeT (P:Program) (f:Nat) (vs:List V) (s:St) (d:Nat) (tr:Tr):Prop :=
 ∃ (M Z:List Nat) (H0 l:List Blk) (res:V),Cf P f H0 (vs.map (my M (jm Z s.hp) 6)) (fun r k nw=>r=res/\k=l/\nw=none)/\M.Nodup/\(∀ z ∈ Z,z ∉ M)/\M.map (fun id=>(s.hp id).map (xj (upI M)))=H0.map some/\rL M s.hp M=true/\l.length=H0.length /\
  WW H0.length res/\(∀ blk ∈ l,Kj H0.length blk.es)/\(M.all fun id=>(cc vs).contains id)=true/\(Z.all fun id=>(cc vs).contains id)=true/\tr=trN d M Z l res
def Tp (P:Program) (f:Nat) (vs:List V) (s:St) (d:Nat) (tr:Tr):Prop:=aeU P f vs s d tr\/aeS P f vs s d tr\/aeT P f vs s d tr
omit [GI] in
theorem Hs (f:Nat->Option Blk):∀ (a b:List (Nat×Option Blk)),jN f (a++b)=jN (jN f a) b
 | [],b=>rfl
 | (i,x)::a,b=>by simp only[List.cons_append,jN];exact Hs _ a b
omit [GI] in
theorem XJ:∀ (M:List Nat) (l:List Blk) (f:Nat->Option Blk),M.Nodup->l.length=M.length->jN f (M.zip (l.map some))=fun id=>match iG M id with | some k=>((l.map some)[k]?).join | none=>f id
 | [],l,f,_,_=>by funext id;simp[jN,iG]
 | m::M,[],f,_,h=>by simp at h
 | m::M,b::l,f,hn,h=>by
   have hn':=List.nodup_cons.1 hn;have ih:=XJ M l (ca f m (some b)) hn'.2 (by simpa using h);simp only[List.map_cons,List.zip_cons_cons,jN];rw[ih];funext id;by_cases e:m=id
   ·subst e
    have:iG M m=none:=by
     cases hi:iG M m with
     | none=>rfl
     | some k=>exact absurd (List.mem_iff_getElem?.2 ⟨k,iU M m k hi⟩) hn'.1
    rw[this];simp[iG,ca]
   ·have e':¬id=m:=fun h=>e h.symm;simp only[iG,if_neg e];cases hi:iG M id with
    | none=>simp[ca,e']
    | some k=>simp
omit [GI] in
theorem OE:∀ (Z:List Nat) (f:Nat->Option Blk),jN f (Z.map fun z=>(z,none))=fun id=>if id ∈ Z then none else f id
 | [],f=>by funext id;simp[jN]
 | z::Z,f=>by
   simp only[List.map_cons,jN];rw[OE Z];funext id;by_cases e:id ∈ Z
   ·simp[e]
   ·by_cases e2:id=z
    ·simp[e2,ca]
    ·simp[e,e2,ca]
omit [GI] in
theorem ac9 (d:Nat) {M Z:List Nat} {l:List Blk} (res:V) (s:St) (hn:M.Nodup) (hl:l.length=M.length):(trM d M Z l res).ap (some d) s=((s.sunk Z).wrote M (l.map some)).took d res:=by
 simp only[trM,Tr.ap,St.took,Hs,NN,OE,XJ M l _ hn hl];rfl
omit [GI] in
theorem ada (d:Nat) {M Z:List Nat} {l:List Blk} (res:V) (s:St):(trN d M Z l res).ap (some d) s={ (s.sunk Z).back M d l none with sl:=ca s.sl d (Ki (SF M d) res) }:=by
 simp only[trN,Tr.ap,St.back,St.off,St.sunk,Hs,NN,OE]
def ahb (ok:Bool) (m k:V) (s:St) (d:Nat) (tr:Tr):Prop:=∃ b key c,m=.v (.map (some b))/\k=.v (.string (bs key))/\s.hp bm=some (bo b c) /\
 ((ok=true/\tr=⟨.tup [.undef,.v (.bool (dZ key c).isSome)],[],[]⟩)\/(ok=false/\dZ key c=none/\tr=⟨.v (.slice none 0 0),[],[]⟩) \/
   (ok=false/\∃ l:List Int,dZ key c=some (some l)/\tr=⟨.sl d 0 l.length,[(bm,some (bo b (dD key none c))),(d,some ⟨1,l.map rO⟩)],[d]⟩))
def ahi (m k v:V) (s:St) (tr:Tr):Prop:=∃ b key c id,∃ l:List Int,m=.v (.map (some b))/\k=.v (.string (bs key))/\s.hp bm=some (bo b c)/\v=.sl id 0 l.length/\s.hp id=some ⟨1,l.map rO⟩ /\
 tr=⟨.undef,[(id,none),(bm,some (bo b (dD key (some l) c)))],[]⟩
def J5 (P:Program) (c:CO) (s:St) (tr:Tr):Prop :=
 match c.o with
 | .call f xs=>∃ d,c.d=some d/\Tp P f (xs.map s.ev) s d tr
 | .callv x xs=>∃ d,c.d=some d/\match s.ev x with
   | .clo f caps=>Tp P f (xs.map s.ev++caps) s d tr
   | _=>False
 | .look ok m k=>∃ d,c.d=some d/\ahb ok (s.ev m) (s.ev k) s d tr
 | .mupd m k v=>c.d=none/\ahi (s.ev m) (s.ev k) (s.ev v) s tr
 | o=>∃ p δ,uY s.ev s.hp (c.d.getD 0) o=some (p,δ)/\p/\tr=Vr δ c.d
def ex (P:Program) (c:CO) (s:St) (tr:Tr):Prop :=
 match c.g with
 | none=>J5 P c s tr
 | some (t,b)=>(∃ v,s.sl t=.v (.bool v)/\((v=b/\J5 P c s tr)\/(v≠b/\tr=⟨.tup [],[],[]⟩)))\/(s.sl t=.tup []/\tr=⟨.tup [],[],[]⟩)
section
variable {P : Program} {X : Ctx} {Q : Exit → Act → World → Prop}
omit [GI] in
theorem VU {s s2:St} {xs:List Abs.X} (h:∀ t,t ∈ (xs.filterMap fun | .t n=>some n | .k _=>none:List Nat)->s2.sl t=s.sl t):∀ x ∈ xs,s2.ev x=s.ev x:=by
 intro x hx;cases x with
 | k v=>rfl
 | t n=>exact h n (List.mem_filterMap.2 ⟨.t n,hx,rfl⟩)
omit [GI] in
theorem TH {s s2:St} {xs:List Abs.X} (h:∀ x ∈ xs,s2.ev x=s.ev x):xs.map s2.ev=xs.map s.ev:=List.map_congr_left h
omit [GI] in
theorem abe {look look2:Nat->Option Blk} {agg:Bool} {n:Nat} {v:V} (h:∀ id ∈ cN v,look2 id=look id):vld agg n look2 v=vld agg n look v:=by
 cases v<;>simp only[vld];rename_i id i j;rw[h id (by simp[cN])]
omit [GI] in
theorem abf {look look2:Nat->Option Blk} {n:Nat} {v u:V} (h:∀ id ∈ cN u,look2 id=look id):vst n look2 v u=vst n look v u:=by
 cases u<;>simp only[vst];rename_i id i j;rw[h id (by simp[cN])]
omit [GI] in
theorem Vu {look look2:Nat->Option Blk} {n:Nat} {v u:V} (h:∀ id ∈ cN v,look2 id=look id):uH n look2 v u=uH n look v u:=by
 unfold uH;split
 ·rw[h _ (by simp[cN])]
 ·rfl
 ·rfl
omit [GI] in
theorem PT {look look2:Nat->Option Blk} {n:Nat} {v:V} (h:∀ id ∈ cN v,look2 id=look id):uF n look2 v=uF n look v:=by
 unfold uF;split
 ·rw[h _ (by simp[cN])]
 ·rfl
 ·rfl
 ·rfl
omit [GI] in
theorem Y0 {look look2:Nat->Option Blk} {n b d:Nat} {v u:V} (h:∀ id ∈ cN v,look2 id=look id) (h':∀ id ∈ cN u,look2 id=look id):Qs n b look2 d v u=Qs n b look d v u:=by
 have hs:=PT (n:=n) h;unfold Qs;split
 ·rw[hs]
 ·rename_i id i m;rw[hs,h' id (by simp[cN])]
 ·rfl
omit [GI] in
theorem XP {look look2:Nat->Option Blk} {n:Nat} {v:V} {lo hi:Option V} (h:∀ id ∈ cN v,look2 id=look id):PV n look2 v lo hi=PV n look v lo hi:=by
 cases v<;>simp only[PV];rename_i id i j;rw[h id (by simp[cN])]
omit [GI] in
theorem PQ {ev ev2:Abs.X->V}:∀ {ps:List (Nat×Nat×Abs.X)} {cs:List V},(∀ x ∈ ps.map (·.2.2),ev2 x=ev x)->NJ ev2 cs ps=NJ ev cs ps
 | [],cs,h=>rfl
 | (off,n,x)::ps,cs,h=>by
   simp only[NJ];rw[h x (by simp)];split
   ·split
    ·exact PQ fun y hy=>h y (List.mem_cons_of_mem _ hy)
    ·rfl
   ·rfl
omit [GI] in
theorem PR {ev ev2:Abs.X->V} {s:Nat}:∀ {ps:List (Nat×Abs.X)} {es:List V},(∀ x ∈ ps.map (·.2),ev2 x=ev x)->DW ev2 s es ps=DW ev s es ps
 | [],es,h=>rfl
 | (i,x)::ps,es,h=>by
   simp only[DW];rw[h x (by simp)];split
   ·exact PR fun y hy=>h y (List.mem_cons_of_mem _ hy)
   ·rfl
omit [GI] in
theorem ZT {ev ev2:Abs.X->V} {look look2:Nat->Option Blk} {d:Nat} {q:O} (h:∀ x ∈ SA q,ev2 x=ev x) (hl:∀ x ∈ SA q,∀ id ∈ cN (ev x),look2 id=look id):uY ev2 look2 d q=uY ev look d q:=by
 cases q<;>simp only[SA,List.mem_cons,List.not_mem_nil,or_false,forall_eq_or_imp,forall_eq] at h hl<;>simp only[uY]
 case mv x=>rw[h]
 case pick c a b=>rw[h.1,h.2.1,h.2.2]
 case box n x=>rw[h]
 case build z ps=>unfold Cc;cases z<;>simp only;rw[PQ h]
 case bslice s z n ps=>unfold pF;rw[PR h]
 case ld b n x=>rw[h];exact abe hl
 case st n a x=>rw[h.1,h.2];exact abf hl.1
 case bin op k x y=>rw[h.1,h.2]
 case un op x=>rw[h]
 case conv c x =>
  rw[h];have hs:=PT (n:=1) hl;unfold NP;split
  ·rfl
  ·rfl
  ·rw[hs]
 case clo f cs=>rw[List.map_congr_left h]
 case mks s z b l c=>rw[h.1,h.2]
 case slc s x lo hi =>
  have h1:lo.map ev2=lo.map ev:=by cases lo<;>simp_all
  have h2:hi.map ev2=hi.map ev:=by cases hi<;>simp_all
  cases s<;>simp only[uY]<;>rw[h.1,h1,h2];exact XP hl.1
 case faddr off x=>rw[h]
 case fld b off n x=>rw[h]
 case iaddr s x i=>rw[h.1,h.2];exact Vu hl.1
 case idx x i=>rw[h.1,h.2]
 case ext x i=>rw[h]
 case len b x=>rw[h]
 case app s b x y=>rw[h.1,h.2];exact Y0 hl.2 hl.1
 case mm m xs=>rw[List.map_congr_left h]
omit [GI] in
mutual
theorem Wz (id:Nat):∀ v:V,id ∈ cN v->bI id v=true
 | .ref k _ _,h=>by simp only[cN,List.mem_singleton] at h;simp[bI,h]
 | .sl k _ _,h=>by simp only[cN,List.mem_singleton] at h;simp[bI,h]
 | .agg cs,h=>by simp only[bI];exact sB id cs (by simpa [cN] using h)
 | .tup cs,h=>by simp only[bI];exact sB id cs (by simpa [cN] using h)
 | .clo _ cs,h=>by simp only[bI];exact sB id cs (by simpa [cN] using h)
 | .undef,h | .v _,h | .rp _ _ _ _,h | .ro _ _,h | .own _ _,h=>by simp[cN] at h
theorem sB (id:Nat):∀ cs:List V,id ∈ cc cs->a7 id cs=true
 | [],h=>by simp[cc] at h
 | c::cs,h=>by
   simp only[cc,List.mem_append] at h;simp only[a7,Bool.or_eq_true];exact h.imp (Wz id c) (sB id cs)
end
omit [GI] in
theorem OK {hp hp2:Nat->Option Blk}:∀ (k:Nat) (v:V),fA v=true->aP hp2 k v=aP hp k v
 | 0,v,_=>rfl
 | k+1,v,h=>by
   have hall:∀ cs:List V,dB cs=true->cs.map (aP hp2 k)=cs.map (aP hp k):=by
    intro cs
    induction cs with
    | nil=>intros;rfl
    | cons c cs ih =>
      intro h0;simp only[dB,Bool.and_eq_true] at h0;simp only[List.map_cons];rw[OK k c h0.1,ih h0.2]
   cases v with
   | undef=>rfl
   | v y=>rfl
   | rp s es i j=>rfl
   | ro s es=>rfl
   | ref id i j=>simp[fA] at h
   | sl id i n=>simp[fA] at h
   | own s es=>simp only[aP];rw[hall es (by simpa [fA] using h)]
   | agg cs=>simp only[aP];rw[hall cs (by simpa [fA] using h)]
   | tup cs=>simp only[aP];rw[hall cs (by simpa [fA] using h)]
   | clo f cs=>simp only[aP];rw[hall cs (by simpa [fA] using h)]
omit [GI] in
theorem KV {hp hp2:Nat->Option Blk}:∀ (k:Nat) (v:V),bO v=true->(∀ id ∈ cN v,hp2 id=hp id)->(∀ id ∈ cN v,∀ b,hp id=some b->dB b.es=true)->aP hp2 k v=aP hp k v
 | 0,v,_,_,_=>rfl
 | k+1,v,ho,h,hn=>by
   have hall:∀ cs:List V,bb cs=true->(∀ id ∈ cc cs,hp2 id=hp id)->(∀ id ∈ cc cs,∀ b,hp id=some b->dB b.es=true)->cs.map (aP hp2 k)=cs.map (aP hp k):=by
    intro cs
    induction cs with
    | nil=>intros;rfl
    | cons c cs ih =>
      intro h0 h1 h2;simp only[bb,Bool.and_eq_true] at h0;simp only[List.map_cons];rw[KV k c h0.1 (fun id hi=>h1 id (by simp[cc,hi])) (fun id hi=>h2 id (by simp[cc,hi])),ih h0.2 (fun id hi=>h1 id (by simp[cc,hi])) (fun id hi=>h2 id (by simp[cc,hi]))]
   have hflat:∀ es:List V,dB es=true->es.map (aP hp2 k)=es.map (aP hp k):=fun es hes=>by
    induction es with
    | nil=>rfl
    | cons c cs ih =>
      simp only[dB,Bool.and_eq_true] at hes;simp only[List.map_cons];rw[OK k c hes.1,ih hes.2]
   cases v with
   | undef=>rfl
   | v y=>rfl
   | rp s es i j=>rfl
   | ro s es=>rfl
   | ref id i j =>
     simp only[aP];rw[h id (by simp[cN])];split
     ·rename_i b hb;rw[hflat b.es (hn id (by simp[cN]) b hb)]
     ·rfl
   | sl id i n =>
     simp only[aP];rw[h id (by simp[cN])];split
     ·rename_i b hb;have he:=hflat b.es (hn id (by simp[cN]) b hb);split
      ·rw[List.map_take,List.map_drop,he,List.map_take,List.map_drop]
      ·rfl
     ·rfl
   | own s es=>simp[bO] at ho
   | agg cs=>simp only[aP];rw[hall cs (by simpa [bO] using ho) (by simpa [cN] using h) (by simpa [cN] using hn)]
   | tup cs=>simp only[aP];rw[hall cs (by simpa [bO] using ho) (by simpa [cN] using h) (by simpa [cN] using hn)]
   | clo f cs=>simp only[aP];rw[hall cs (by simpa [bO] using ho) (by simpa [cN] using h) (by simpa [cN] using hn)]
omit [GI] in
theorem Lr:∀ (xs ys:List V),cc (xs++ys)=cc xs++cc ys
 | [],ys=>rfl
 | x::xs,ys=>by simp[cc,Lr xs ys]
omit [GI] in
theorem Oe {α:Type} (f:α->V):∀ xs:List α,cc (xs.map f)=xs.flatMap (fun x=>cN (f x))
 | []=>rfl
 | x::xs=>by simp[cc,Oe f xs]
omit [GI] in
theorem yK {hp hp2:Nat->Option Blk}:∀ (vs:List V),bb vs=true->(∀ id ∈ cc vs,hp2 id=hp id)->(∀ id ∈ cc vs,∀ b,hp id=some b->dB b.es=true)->vs.map (aP hp2 6)=vs.map (aP hp 6)
 | [],_,_,_=>rfl
 | v::vs,ho,h,hn=>by
   simp only[bb,Bool.and_eq_true] at ho;simp only[List.map_cons];rw[KV 6 v ho.1 (fun id hi=>h id (by simp[cc,hi])) (fun id hi=>hn id (by simp[cc,hi])),yK vs ho.2 (fun id hi=>h id (by simp[cc,hi])) (fun id hi=>hn id (by simp[cc,hi]))]
def xsT:O->List Abs.X
 | .mv _=>[]
 | o=>SA o
omit [GI] in
theorem aee {o:O}:∀ x ∈ xsT o,x ∈ SA o:=by
 intro x hx;cases o<;>first | exact hx | cases hx
def YX (c:CO) (s:St):List Nat:=(xsT c.o).flatMap fun x=>cN (s.ev x)
omit [GI] in
theorem H7 {M:List Nat} {look look2:Nat->Option Blk}:∀ {l:List Nat},(∀ id ∈ l,look2 id=look id)->rL M look2 l=rL M look l
 | [],_=>rfl
 | k::l,h=>by
   simp only[rL];rw[h k List.mem_cons_self,H7 fun id hid=>h id (List.mem_cons_of_mem _ hid)]
theorem O0 {f:Nat} {vs:List V} {s s2:St} {d:Nat} {tr:Tr} (h:∀ id ∈ cc vs,s2.hp id=s.hp id) (hc:Tp P f vs s d tr):Tp P f vs s2 d tr:=by
 rcases hc with ⟨res,h1,h2,h3,h4,h5,h6⟩ | ⟨M,Z,H0,l,res,h1,h2,h3,h4,h5,h6,h7,h8,h9,h10⟩ | ⟨M,Z,H0,l,res,h1,h2,h3,h4,h5,h6,h7,h8,h9,h10,h11⟩
 ·refine .inl ⟨res,?_,h2,h3,h4,h5,fun id hi b hb=>h6 id hi b (by rw[<- h id hi];exact hb)⟩;rw[yK vs h5 h h6];exact h1
 ·have hz:jm Z s2.hp=jm Z s.hp:=by
   funext id;unfold jm;split
   ·rename_i hid;exact h id (by simpa using List.all_eq_true.1 h9 id hid)
   ·rfl
  refine .inr <| .inl ⟨M,Z,H0,l,res,by rw[hz];exact h1,h2,h3,?_,h5,h6,h7,h8,h9,h10⟩;rw[<- h4];refine List.map_congr_left fun id hid=>h id ?_;have:=List.all_eq_true.1 h8 id hid;simpa using this
 ·have hz:jm Z s2.hp=jm Z s.hp:=by
   funext id;unfold jm;split
   ·rename_i hid;exact h id (by simpa using List.all_eq_true.1 h10 id hid)
   ·rfl
  have hM:∀ id ∈ M,s2.hp id=s.hp id:=fun id hid=>h id (by simpa using List.all_eq_true.1 h9 id hid);refine .inr <| .inr ⟨M,Z,H0,l,res,by rw[hz];exact h1,h2,h3,?_,by rw[H7 (fun id hid=>hM id hid)];exact h5,h6,h7,h8,h9,h10,h11⟩;rw[<- h4];exact List.map_congr_left fun id hid=>by rw[hM id hid]
theorem VV {c:CO} {s s2:St} {tr:Tr} (h:ex P c s tr) (hs:∀ t ∈ rdS c,s2.sl t=s.sl t) (hh:∀ id ∈ YX c s,s2.hp id=s.hp id):ex P c s2 tr:=by
 have hev:∀ x ∈ SA c.o,s2.ev x=s.ev x:=VU fun t ht=>hs t (List.mem_append_right _ ht);have hids:∀ x ∈ xsT c.o,∀ id ∈ cN (s.ev x),s2.hp id=s.hp id:=fun x hx id hi=>hh id (List.mem_flatMap.2 ⟨x,hx,hi⟩)
 have exe:J5 P c s tr->J5 P c s2 tr:=by
  intro he;unfold J5 at he ⊢;split
  ·rename_i f xs hco;rw[hco] at he hev hids;obtain ⟨d,hd,hc⟩:=he;refine⟨d,hd,?_⟩;rw[TH (xs:=xs) hev];refine O0 (fun id hi=>?_) hc;rw[Oe] at hi;obtain ⟨x,hx,hi⟩:=List.mem_flatMap.1 hi;exact hids x (by simpa [xsT,SA] using hx) id hi
  ·rename_i x xs hco;rw[hco] at he hev hids;obtain ⟨d,hd,hc⟩:=he;refine⟨d,hd,?_⟩;rw[hev x (by simp[SA]),TH (fun y hy=>hev y (by simp[SA,hy]))];split at hc
   ·rename_i f caps hclo;refine O0 (fun id hi=>?_) hc;rw[Lr,List.mem_append,Oe] at hi;rcases hi with hi | hi
    ·obtain ⟨y,hy,hi⟩:=List.mem_flatMap.1 hi;exact hids y (by simp[xsT,SA,hy]) id hi
    ·exact hids x (by simp[xsT,SA]) id (by rw[hclo];simpa [cN] using hi)
   ·exact hc.elim
  ·rename_i ok xm xk hco;rw[hco] at he hev hids;obtain ⟨d,hd,b,key,ct,h1,h2,h3,h4⟩:=he;exact⟨d,hd,b,key,ct,by rw[hev xm (by simp[SA])];exact h1,by rw[hev xk (by simp[SA])];exact h2,by rw[hids (.k (.ref bm 0 0)) (by simp[xsT,SA]) bm (by simp[St.ev,cN])];exact h3,h4⟩
  ·rename_i xm xk xv hco;rw[hco] at he hev hids;obtain ⟨hd,b,key,ct,id,l,h1,h2,h3,h4,h5,h6⟩:=he
   exact⟨hd,b,key,ct,id,l,by rw[hev xm (by simp[SA])];exact h1,by rw[hev xk (by simp[SA])];exact h2,by rw[hids (.k (.ref bm 0 0)) (by simp[xsT,SA]) bm (by simp[St.ev,cN])];exact h3,
    by rw[hev xv (by simp[SA])];exact h4,by rw[hids xv (by simp[xsT,SA]) id (by rw[h4];simp[cN])];exact h5,h6⟩
  ·rename_i hn1 hn2 hn3 hn4
   have he':∃ p δ,uY s.ev s.hp (c.d.getD 0) c.o=some (p,δ)/\p/\tr=Vr δ c.d:=by
    cases hco:c.o<;>rw[hco] at he hn1 hn2 hn3 hn4<;>first | exact he | exact absurd rfl (hn1 _ _) | exact absurd rfl (hn2 _ _) | exact absurd rfl (hn3 _ _ _) | exact absurd rfl (hn4 _ _ _)
   obtain ⟨p,δ,h1,h2,h3⟩:=he';refine⟨p,δ,?_,h2,h3⟩;cases hco:c.o with
   | mv x =>
     rw[hco] at h1 hev;simpa [uY,hev x (by simp[SA])] using h1
   | _=>rw[<- hco,ZT hev (fun x hx=>hids x (by rw[hco] at hx ⊢;exact hx))];exact h1
 unfold ex at h ⊢;split
 ·rename_i hg;rw[hg] at h;exact exe h
 ·rename_i t b hg;rw[hg] at h;have ht:=hs t (by simp[rdS,hg]);rcases h with ⟨v,hv,h⟩ | ⟨hv,h⟩
  ·exact .inl ⟨v,by rw[ht];exact hv,h.imp (fun h=>⟨h.1,exe h.2⟩) id⟩
  ·exact .inr ⟨by rw[ht];exact hv,h⟩
def Tr.free (tr:Tr) (ids:List Nat):Bool:=ids.all fun d=>!bI d tr.v&&tr.hp.all fun p=>p.1 != d&&match p.2 with | some b=>!a7 d b.es | none=>true
omit [GI] in
theorem fm {f:Nat->Option Blk}:∀ {l:List (Nat×Option Blk)} {i:Nat},i ∉ l.map (·.1)->jN f l i=f i
 | [],i,h=>rfl
 | (j,b)::l,i,h=>by
   simp only[List.map_cons,List.mem_cons,not_or] at h;simp only[jN];rw[fm h.2,bC _ _ h.1]
omit [GI] in
theorem Sw {f:Nat->Option Blk}:∀ (l:List (Nat×Option Blk)) (i:Nat),jN f l i=f i\/∃ b,(i,b) ∈ l/\jN f l i=b
 | [],i=>.inl rfl
 | (j,b)::l,i=>by
   simp only[jN];rcases Sw (f:=ca f j b) l i with h | ⟨b',h1,h2⟩
   ·rw[h];by_cases e:i=j
    ·subst e;right;exact⟨b,by simp,by simp⟩
    ·left;exact bC _ _ e
   ·exact .inr ⟨b',List.mem_cons_of_mem _ h1,h2⟩
omit [GI] in
theorem Tr.free_fresh {tr:Tr} {ids:List Nat} (h:tr.free ids=true) {d:Nat} (hd:d ∈ ids) {c:Option Nat} {s:St} (hf:Fresh s d):Fresh (tr.ap c s) d:=by
 have:=List.all_eq_true.1 h d hd;simp only[Bool.and_eq_true,Bool.not_eq_true',List.all_eq_true,bne_iff_ne,ne_eq] at this;obtain ⟨h1,h2⟩:=this;refine⟨fun t=>?_,fun id blk hb=>?_,?_⟩
 ·cases c with
  | none=>exact hf.sl t
  | some c =>
    simp only[Tr.ap,ca];split
    ·exact h1
    ·exact hf.sl t
 ·rcases Sw (f:=s.hp) tr.hp id with e | ⟨b,hm,e⟩
  ·exact hf.hp id blk (by rw[<- e];exact hb)
  ·have hb':jN s.hp tr.hp id=some blk:=hb;rw[e] at hb';subst hb';have:=(h2 _ hm).2;simpa using this
 ·show jN s.hp tr.hp d=none;rw[fm]
  ·exact hf.no
  ·intro hm;obtain ⟨p,hp,e⟩:=List.mem_map.1 hm;exact(h2 p hp).1 e
end
end Go.Abs
namespace Go.Abs
variable [GI]
structure It where
 c:CO
 tr:Tr
 i:Nat
 T:List Nat
def It.ap (e:It) (s:St):St:=e.tr.ap e.c.d s
def SC:St->List It->St
 | s,[]=>s
 | s,e::es=>SC (e.ap s) es
def Ho (P:Program):St->List It->Prop
 | _,[]=>True
 | s,e::es=>ex P e.c s e.tr/\(∀ id ∈ YX e.c s,id ∈ e.T)/\Ho P (e.ap s) es
def E9 (a b:It):Bool:=(match a.c.d with | some d=>!(rdS b.c).contains d | none=>true)
def ind (a b:It):Bool :=
 E9 a b&&E9 b a&&(match a.c.d,b.c.d with | some d,some d'=>d != d' | _,_=>true) &&
 (a.tr.hp.all fun p=>!b.T.contains p.1&&b.tr.hp.all fun q=>q.1 != p.1)&&(b.tr.hp.all fun q=>!a.T.contains q.1)
omit [GI] in
theorem abZ {a b:It} (h:ind a b=true):(∀ d,a.c.d=some d->d ∉ rdS b.c)/\(∀ d,b.c.d=some d->d ∉ rdS a.c)/\(∀ d,a.c.d=some d->b.c.d≠some d) /\
  (∀ p ∈ a.tr.hp,p.1 ∉ b.T/\p.1 ∉ b.tr.hp.map (·.1))/\(∀ q ∈ b.tr.hp,q.1 ∉ a.T):=by
 simp only[ind,Bool.and_eq_true,List.all_eq_true,Bool.not_eq_true',bne_iff_ne,ne_eq] at h;obtain ⟨⟨⟨⟨h1,h2⟩,h3⟩,h4⟩,h5⟩:=h;refine⟨fun d hd=>?_,fun d hd=>?_,fun d hd e=>?_,fun p hp=>⟨?_,fun hm=>?_⟩,fun q hq=>?_⟩
 ·simp only[E9,hd,Bool.not_eq_true'] at h1;simpa using h1
 ·simp only[E9,hd,Bool.not_eq_true'] at h2;simpa using h2
 ·rw[hd,e] at h3;simp at h3
 ·simpa using (h4 p hp).1
 ·obtain ⟨q,hq,e⟩:=List.mem_map.1 hm;exact(h4 p hp).2 q hq e
 ·simpa using h5 q hq
section
variable {P : Program}
omit [GI] in
theorem abb {f:Nat->Option Blk} {l l':List (Nat×Option Blk)} (h:∀ p ∈ l,p.1 ∉ l'.map (·.1)):jN (jN f l) l'=jN (jN f l') l:=by
 have key:∀ (l:List (Nat×Option Blk)) (f g:Nat->Option Blk) (i:Nat),i ∈ l.map (·.1)->jN f l i=jN g l i:=by
  intro l
  induction l with
  | nil=>intro f g i hi;simp at hi
  | cons p l ih =>
    intro f g i hi;obtain ⟨j,b⟩:=p;simp only[jN];by_cases hm:i ∈ l.map (·.1)
    ·exact ih _ _ i hm
    ·have:i=j:=by simp only[List.map_cons,List.mem_cons] at hi;exact hi.resolve_right hm
     subst this;rw[fm hm,fm hm];simp
 funext i;by_cases h1:i ∈ l.map (·.1)
 ·have h2:i ∉ l'.map (·.1):=by
   obtain ⟨p,hp,rfl⟩:=List.mem_map.1 h1;exact h p hp
  rw[fm h2];exact key l _ _ i h1
 ·rw[fm h1];by_cases h2:i ∈ l'.map (·.1)
  ·exact key l' _ _ i h2
  ·rw[fm h2,fm h2,fm h1]
theorem ajB {x e:It} {s:St} (hx:ex P x.c s x.tr) (hxT:∀ id ∈ YX x.c s,id ∈ x.T) (he:ex P e.c (x.ap s) e.tr) (heT:∀ id ∈ YX e.c (x.ap s),id ∈ e.T) (hi:ind x e=true) :
  ex P e.c s e.tr/\(∀ id ∈ YX e.c s,id ∈ e.T)/\ex P x.c (e.ap s) x.tr/\(∀ id ∈ YX x.c (e.ap s),id ∈ x.T)/\e.ap (x.ap s)=x.ap (e.ap s):=by
 obtain ⟨i1,i2,i3,i4,i5⟩:=abZ hi
 have sl1:∀ t ∈ rdS e.c,s.sl t=(x.ap s).sl t:=by
  intro t ht;cases hd:x.c.d with
  | none=>simp only[It.ap,Tr.ap,hd]
  | some d =>
    have:t≠d:=fun e'=>i1 d hd (e'▸ht);simp only[It.ap,Tr.ap,hd];rw[bC _ _ this]
 have sl2:∀ t ∈ rdS x.c,(e.ap s).sl t=s.sl t:=by
  intro t ht;cases hd:e.c.d with
  | none=>simp only[It.ap,Tr.ap,hd]
  | some d =>
    have:t≠d:=fun e'=>i2 d hd (e'▸ht);simp only[It.ap,Tr.ap,hd];rw[bC _ _ this]
 have tchEq:∀ {c:CO} {s s2:St},(∀ t ∈ rdS c,s2.sl t=s.sl t)->YX c s2=YX c s:=by
  intro c s s2 h;have hev:=VU (xs:=SA c.o) (s:=s) (s2:=s2) fun t ht=>h t (List.mem_append_right _ ht);simp only[YX]
  have key:∀ xs:List Abs.X,(∀ x ∈ xs,s2.ev x=s.ev x)->xs.flatMap (fun x=>cN (s2.ev x))=xs.flatMap (fun x=>cN (s.ev x)):=by
   intro xs
   induction xs with
   | nil=>intro _;rfl
   | cons y ys ih=>intro h;simp only[List.flatMap_cons];rw[h y (by simp),ih fun z hz=>h z (by simp[hz])]
  exact key _ fun x hx=>hev x (aee x hx)
 have t1:YX e.c s=YX e.c (x.ap s):=tchEq sl1;have t2:YX x.c (e.ap s)=YX x.c s:=tchEq sl2;refine⟨VV he sl1 fun id hid=>?_,fun id hid=>heT id (by rw[<- t1];exact hid),VV hx sl2 fun id hid=>?_,fun id hid=>hxT id (by rw[<- t2];exact hid),?_⟩
 ·show s.hp id=jN s.hp x.tr.hp id;rw[fm];intro hm;obtain ⟨p,hp,rfl⟩:=List.mem_map.1 hm;exact(i4 p hp).1 (heT _ hid)
 ·show jN s.hp e.tr.hp id=s.hp id;rw[fm];intro hm;obtain ⟨p,hp,rfl⟩:=List.mem_map.1 hm;exact i5 p hp (hxT _ hid)
 ·simp only[It.ap,Tr.ap];rw[abb fun p hp=>(i4 p hp).2];congr 1;cases hd:x.c.d with
  | none=>rfl
  | some d =>
    cases hd':e.c.d with
    | none=>rfl
    | some d' =>
      have hne:d≠d':=fun e'=>i3 d hd (by rw[hd',e']);funext i;simp only[ca];split<;>split<;>simp_all
theorem aen {e:It}:∀ (l1 l2:List It) (s:St),Ho P s (l1++e::l2)->(∀ x ∈ l1,ind x e=true)->Ho P s (e::(l1++l2))/\SC s (l1++e::l2)=SC s (e::(l1++l2))
 | [],l2,s,h,_=>⟨h,rfl⟩
 | x::l1,l2,s,h,hi=>by
   simp only[List.cons_append,Ho] at h;obtain ⟨h1,h2,h3⟩:=h;obtain ⟨g1,g2⟩:=aen l1 l2 (x.ap s) h3 (fun y hy=>hi y (by simp[hy]));simp only[Ho] at g1;obtain ⟨k1,k2,k3⟩:=g1;obtain ⟨m1,m2,m3,m4,m5⟩:=ajB h1 h2 k1 k2 (hi x (by simp));refine⟨?_,?_⟩
   ·simp only[Ho,List.cons_append];exact⟨m1,m2,m3,m4,by rw[<- m5];exact k3⟩
   ·simp only[List.cons_append,SC];rw[g2];simp only[SC];rw[m5]
end
def O9 (pl:List (List Nat)) (its:List It):Bool :=
 its.all fun a=>its.all fun b=>if a.i < b.i then a.tr.free b.tr.news&&((pl.getD b.i []).contains a.i||(ind a b&&b.tr.free a.tr.news)) else true
section
variable {P : Program} {X : Ctx} {Q : Exit → Act → World → Prop}
omit [GI] in
theorem Fresh.sunk {s:St} {d:Nat} (h:Fresh s d) (Z:List Nat):Fresh (s.sunk Z) d:=by
 refine⟨h.sl,fun id blk hb=>?_,?_⟩
 ·simp only[St.sunk] at hb;split at hb
  ·cases hb
  ·exact h.hp id blk hb
 ·simp only[St.sunk];split
  ·rfl
  ·exact h.no
omit [GI] in
theorem Fresh.wrote {s:St} {d:Nat} {M:List Nat} {H0:List Blk} {l:List Blk} (h:Fresh s d) (hH:M.map s.hp=H0.map some) (ho:jG (l.map some)=true):Fresh (s.wrote M (l.map some)) d:=by
 refine⟨h.sl,fun id blk hb=>?_,?_⟩
 ·simp only[St.wrote] at hb;split at hb
  ·rename_i k hk
   have hb':(l.map some)[k]?=some (some blk):=by
    cases hh:(l.map some)[k]? with
    | none=>rw[hh] at hb;cases hb
    | some o=>rw[hh] at hb;simp only[Option.join_some] at hb;rw[hb]
   exact cS d _ (oU _ k blk ho hb')
  ·exact h.hp id blk hb
 ·simp only[St.wrote];split
  ·rename_i k hk;have h1:=iU M d k hk;have h2:(M.map s.hp)[k]?=some (s.hp d):=by rw[List.getElem?_map,h1];rfl
   rw[hH,h.no,List.getElem?_map] at h2;cases hk':H0[k]? with
   | none=>rw[hk'] at h2;cases h2
   | some b=>rw[hk'] at h2;cases h2
  ·exact h.no
theorem agW {ops:Array Oper} {o:Oper} {i:Nat} {c:CO} {tr:Tr} {s:St} {a:Act} {w:World} {K':Act->World->Prop} (ho:ops[i]?=some o) (hc:QO P ops X.n o=some c) (h:Cg X s a w) (hex:ex P c s tr)
  (hfr:∀ d ∈ tr.news,Fresh s d/\d ∉ X.pin) (hK:∀ a' w',Cg X (tr.ap c.d s) a' w'->K' a' w'):wpOp P ops Q i K' a w:=by
 obtain ⟨hq,hdst,hdn,hst,hns,hg⟩:=En hc
 have callRule:∀ (f:Nat) (vs:List V) (d:Nat) (args:Array Value),Tp P f vs s d tr->o.dst=some d->(∀ D φ F,RelD X s a w D φ F []->cg w D vs φ args.toList []) ->
   (dk P f=true->(execOp a.eval o).run P w=.ok (.enter f args) w)->o.wp P a w K' Q:=by
  intro f vs d args hcall hd hv hr;rcases hcall with hcall | ⟨M,Z,H0,l,res,hP,hM,hMZ,hH,hn0,hout,hres,_,_,rfl⟩ | ⟨M,Z,H0,l,res,hP,hM,hMZ,hH,hcl,hll,hr1,hr2,_,_,rfl⟩
  rotate_left;rotate_left
  ·refine iE (hr hP.1) ?_
   have:=W1 (k:=6) (d:=d) hP h hM hMZ hH (fun id hid blk hb=>Rc hcl id hid blk hb) hv (hdn d hd) (fun _ _ _ ⟨e1,e2,e3⟩ _=>by
    subst e1;subst e2;subst e3;exact⟨hr1,hr2,fun _ e=>(by cases e)⟩)
   rw[Array.toArray_toList] at this;refine this.mono ?_;rintro e w' ⟨y,_,_,_,⟨rfl,rfl,rfl⟩,_,rfl,hrel⟩;rw[hd];refine⟨y,rfl,hK _ _ ?_⟩;rw[hdst,hd,ada];exact hrel
  rotate_left
  ·have hlH:H0.length=M.length:=by
    have:=congrArg List.length hH;rw[List.length_map,List.length_map] at this;exact this.symm
   have hll:l.length=M.length:=by
    have:=hP.2.1;rw[List.length_map] at this;exact this.trans hlH
   refine iE (hr hP.1) ?_
   have hfr':∀ i,i < (b9 d 0 res).2.2->Fresh ((s.sunk Z).wrote M (l.map some)) (d+1000 * i)/\d+1000 * i ∉ X.pin:=fun i hi=>by
    have h1:=hfr _ (List.mem_map.2 ⟨i,List.mem_range.2 hi,rfl⟩);refine⟨(h1.1.sunk Z).wrote (H0:=H0) ?_ hout,h1.2⟩;rw[<- hH];exact List.map_congr_left fun id hid=>by simp only[St.sunk,if_neg (fun hz=>hMZ id hz hid)]
   have:=TI (k:=6) (d:=d) hP h hM hMZ hH hn0 (fun j blk hj=>oU _ j blk hout hj) hv (hdn d hd) hres hfr';rw[Array.toArray_toList] at this;refine this.mono ?_;rintro e w' ⟨y,rfl,hrel⟩;rw[hd];refine⟨y,rfl,hK _ _ ?_⟩;rw[hdst,hd,ac9 d res s hM hll];exact hrel
  obtain ⟨res,hP,hres,hro,rfl,_,_⟩:=hcall;refine iE (hr hP.1) ?_;have hfr':∀ i,i < (b9 d 0 res).2.2->Fresh s (d+1000 * i)/\d+1000 * i ∉ X.pin:=fun i hi=>hfr _ (List.mem_map.2 ⟨i,List.mem_range.2 hi,rfl⟩);have:=Zk (k:=6) (d:=d) hP h hv (hdn d hd) hres hro hfr';rw[Array.toArray_toList] at this;refine this.mono ?_;rintro e w' ⟨y,rfl,hrel⟩;rw[hd];refine⟨y,rfl,hK _ _ ?_⟩;rw[hdst,hd,T6];exact hrel
 have run:J5 P c s tr->o.wp P a w K' Q:=by
  intro hex;unfold J5 at hex;split at hex
  ·rename_i f xs hco;rw[hco] at hq;obtain ⟨d,hd,hcall⟩:=hex;rw[hdst] at hd;obtain ⟨cl,hop⟩:=A5 hq rfl;rw[hop] at hq;rcases KW hq rfl with ⟨f',xs',e,hcal,hx⟩ | ⟨t,xs',e,hcal,hx⟩
   ·cases e;refine callRule f _ d (cl.args.map a.eval) hcall hd (fun D φ F hr=>by simpa using NW hr hx) fun hcb=>?_;simp[execOp,hop,resolve,hcal,Act.eval,Deferred.ofValue,invoke,rK hcb]
   ·cases e
  ·rename_i x xs hco;rw[hco] at hq;obtain ⟨d,hd,hcall⟩:=hex;rw[hdst] at hd;obtain ⟨cl,hop⟩:=A5 hq rfl;rw[hop] at hq;rcases KW hq rfl with ⟨f',xs',e,hcal,hx⟩ | ⟨t,xs',e,hcal,hx⟩
   ·cases e
   ·cases e;split at hcall
    ·rename_i f caps hclo;obtain ⟨D,φ,F,hrel⟩:=h;have hslot:=hrel.slots t;have hcl:s.sl t=.clo f caps:=hclo;rw[hcl] at hslot;simp only[CV] at hslot;obtain ⟨ys,hys,_⟩:=hslot;refine callRule f _ d (cl.args.map a.eval++ys) hcall hd (fun D φ F hr=>?_) fun hcb=>?_
     ·rw[Array.toList_append];have h2:=hr.slots t;rw[hcl,hys] at h2;simp only[CV] at h2;obtain ⟨zs,hz,hcv⟩:=h2;cases hz;have:=ln (NW hr hx) hcv;simpa using this
     ·have he:a.eval (.tmp t)=.func (.func f) #[] ys:=hys;simp[execOp,hop,resolve,hcal,he,Deferred.ofValue,invoke,rK hcb]
    ·exact hcall.elim
  ·rename_i ok xm xk hco;rw[hco] at hq;obtain ⟨d,hd,b,key,ct,em,ek,hb,hs⟩:=hex;obtain ⟨t,m,k,ht,hop,hm,hk⟩:=VI hq;obtain ⟨D,φ,F,hrel⟩:=h;have hd':o.dst=some d:=hdst.symm.trans hd;rcases hs with ⟨rfl,rfl⟩ | ⟨rfl,hg,rfl⟩ | ⟨rfl,l,hg,rfl⟩
   ·refine fq (Xa hrel hdn hop ht hm hk em ek hb) fun a' w' hr=>hK a' w' ?_;rw[hd'] at hr;rw[hd];exact hr
   ·refine fq (W8 hrel hdn hop ht hm hk em ek hb hg) fun a' w' hr=>hK a' w' ?_;rw[hd'] at hr;rw[hd];exact hr
   ·obtain ⟨f1,f2⟩:=hfr d (by simp);refine fq (W9 hrel hop ht hm hk em ek hb hg hd' (hdn d hd') f1 f2) fun a' w' hr=>hK a' w' ?_;rw[hd];exact hr
  ·rename_i xm xk xv hco;rw[hco] at hq;obtain ⟨hd,b,key,ct,id,l,em,ek,hb,ev,hi,rfl⟩:=hex;obtain ⟨t,m,k,v,ht,hop,hm,hk,hv⟩:=VJ hq;obtain ⟨D,φ,F,hrel⟩:=h;refine fq (ZD hrel hop ht hm hk hv (hdst.symm.trans hd) em ek hb ev hi) fun a' w' hr=>hK a' w' ?_;rw[hd];exact hr
  ·obtain ⟨p,δ,he,hp,rfl⟩:=hex;obtain ⟨D,φ,F,hrel⟩:=h
   have hruns:gS P o X a w (δ.app o.dst s):=by
    refine abJ hq hrel hdn hst hns (p:=p) (by rw[<- hdst];exact he) hp fun hn d hd=>hfr d ?_;rw[hdst,hd];cases hnew:δ.new with
    | none=>rw[hnew] at hn;cases hn
    | some b=>simp[Vr,hnew]
   exact fq hruns fun a' w' hr=>hK a' w' (by rw[ZI,hdst];exact hr)
 unfold wpOp;rw[ho];simp only;unfold ex at hex;rcases hg with ⟨hg1,hg2⟩ | ⟨j,b,t,hg1,hg2,hj⟩
 ·rw[hg2] at hex;rw[if_pos (by simp[Region.wanted,hg1])];exact .inl (run hex)
 ·rw[hg2] at hex;have h':=h;obtain ⟨D,φ,F,hrel⟩:=h';have hslot:=hrel.slots t;rcases hex with ⟨v,hv,hex⟩ | ⟨hv,rfl⟩
  rotate_left
  ·rw[hv] at hslot;have hy:=JU (ops:=ops) hj (Za hslot);rw[if_neg (by simp[Region.wanted,hg1,hy])];refine hK _ _ ⟨D,φ,F,?_⟩;rw[hdst];cases hd:o.dst with
   | none=>exact hrel
   | some d=>exact hrel.put d (hdn d hd) (.tup []) undef A2
  rw[hv] at hslot;have hy:=SB (ops:=ops) hj (ff hslot);rcases hex with ⟨e,hex⟩ | ⟨e,rfl⟩
  ·rw[if_pos (by simp[Region.wanted,hg1,hy,e])];exact .inl (run hex)
  ·rw[if_neg (by simp[Region.wanted,hg1,hy,e])];refine hK _ _ ⟨D,φ,F,?_⟩;rw[hdst];cases hd:o.dst with
   | none=>exact hrel
   | some d=>exact hrel.put d (hdn d hd) (.tup []) undef A2
def Xj (all:List It) (listed:Array Bool):List It:=all.filter fun e=>!listed.getD e.i true
def afD (ops:Array Oper) (pl:List (List Nat)):Bool :=
 (List.range ops.size).all fun i=>match ops[i]? with
  | some o=>o.after.all (fun e=>!Region.binds .any e||decide (e.on < i)) &&
    (pl.getD i []).all fun j=>o.after.any fun e=>Region.binds .any e&&(e.on==j||(pl.getD e.on []).contains j)
  | none=>true
omit [GI] in
theorem Ok {ops:Array Oper} {listed:Array Bool} {i:Nat}:i ∈ Region.ready .any ops listed↔i < ops.size/\listed.getD i true=false/\∃ o,ops[i]?=some o/\∀ e ∈ o.after.toList,Region.binds .any e=true->listed.getD e.on false=true:=by
 unfold Region.ready;rw[List.mem_filter,List.mem_range];constructor
 ·rintro ⟨h1,h2⟩;simp only[Bool.and_eq_true,Bool.not_eq_true'] at h2;refine⟨h1,h2.1,?_⟩;cases ho:ops[i]? with
  | none=>rw[ho] at h2;simp at h2
  | some o =>
    rw[ho] at h2;refine⟨o,rfl,fun e he hb=>?_⟩;have h3:=h2.2;simp only[Option.map_some,Option.getD_some,Array.all_eq_true',Bool.or_eq_true,Bool.not_eq_true'] at h3;have:=h3 e (by simpa using he);rw[hb] at this;simpa using this
 ·rintro ⟨h1,h2,o,ho,h3⟩;refine⟨h1,?_⟩;rw[ho];simp only[Bool.and_eq_true,Bool.not_eq_true',Option.map_some,Option.getD_some,Array.all_eq_true',Bool.or_eq_true];refine⟨h2,fun e he=>?_⟩;cases hb:Region.binds .any e with
  | false=>exact .inl rfl
  | true=>exact .inr (h3 e (by simpa using he) hb)
omit [GI] in
theorem Wr (listed:Array Bool) (i j:Nat) (b d:Bool) (hi:i < listed.size):(listed.setIfInBounds i b).getD j d=if j=i then b else listed.getD j d:=by
 simp only[Array.getD_eq_getD_getElem?,Array.getElem?_setIfInBounds];by_cases e:i=j
 ·subst e;simp[hi]
 ·simp[e,Ne.symm e]
structure Plan (P:Program) (X:Ctx) (ops:Array Oper) (pl:List (List Nat)) (all:List It):Prop where
 len:all.length=ops.size
 at_:∀ (k:Nat) (e:It),all[k]?=some e->e.i=k/\∃ o,ops[k]?=some o/\QO P ops X.n o=some e.c
 ok:afD ops pl=true
 apart:O9 pl all=true
omit [GI] in
theorem Plan.sorted {ops:Array Oper} {pl:List (List Nat)} {all:List It} (h:Plan P X ops pl all):all.Pairwise (fun a b=>a.i < b.i):=by
 rw[List.pairwise_iff_getElem];intro i j hi hj hij;have h1:=(h.at_ i _ (List.getElem?_eq_getElem hi)).1;have h2:=(h.at_ j _ (List.getElem?_eq_getElem hj)).1;rw[h1,h2];exact hij
theorem abx {ops:Array Oper} {pl:List (List Nat)} {all:List It} (hp:Plan P X ops pl all):∀ (fuel:Nat) (listed:Array Bool) (s:St) (a:Act) (w:World),listed.size=ops.size->(Xj all listed).length=fuel ->
  (∀ i,i < ops.size->listed.getD i true=true->∀ j ∈ pl.getD i [],listed.getD j true=true)->Ho P s (Xj all listed)->(∀ e ∈ Xj all listed,∀ d ∈ e.tr.news,Fresh s d/\d ∉ X.pin)->Cg X s a w ->
  (∀ a' w',Cg X (SC s (Xj all listed)) a' w'->Q .normal a' w')->wpAny P .any ops Q fuel listed a w
 | 0,listed,s,a,w,hsz,hlen,hcl,hst,hfr,hrel,hQ=>by
   have hnil:Xj all listed=[]:=List.eq_nil_of_length_eq_zero hlen;refine⟨?_,hQ a w (by rw[hnil];exact hrel)⟩;rw[List.eq_nil_iff_forall_not_mem];intro i hi;obtain ⟨h1,h2,_⟩:=Ok.1 hi;have hlt:i < all.length:=by rw[hp.len];exact h1
   have hm:all[i] ∈ Xj all listed:=by
    refine List.mem_filter.2 ⟨List.getElem_mem hlt,?_⟩;rw[(hp.at_ i _ (List.getElem?_eq_getElem hlt)).1,h2];rfl
   rw[hnil] at hm;cases hm
 | fuel+1,listed,s,a,w,hsz,hlen,hcl,hst,hfr,hrel,hQ=>by
   have edges:∀ i o,i < ops.size->ops[i]?=some o->∀ e ∈ o.after.toList,Region.binds .any e=true->e.on < i:=by
    intro i o hi ho e he hb;have h:=List.all_eq_true.1 hp.ok i (List.mem_range.2 hi);rw[ho] at h;simp only[Bool.and_eq_true,Array.all_eq_true',Bool.or_eq_true,Bool.not_eq_true',decide_eq_true_eq] at h;have:=h.1 e (by simpa using he);rw[hb] at this;exact this.resolve_left (by simp)
   have closed:∀ i o,i < ops.size->ops[i]?=some o->∀ j ∈ pl.getD i [],∃ e ∈ o.after.toList,Region.binds .any e=true/\(e.on=j\/j ∈ pl.getD e.on []):=by
    intro i o hi ho j hj;have h:=List.all_eq_true.1 hp.ok i (List.mem_range.2 hi);rw[ho] at h;simp only[Bool.and_eq_true,List.all_eq_true,Array.any_eq_true'] at h;obtain ⟨e,he,hb,hor⟩:=h.2 j hj;refine⟨e,by simpa using he,hb,?_⟩;simpa using hor
   refine⟨fun hnone=>?_,fun i hi=>?_⟩
   ·
    exfalso;cases hR:Xj all listed with
    | nil=>rw[hR] at hlen;simp at hlen
    | cons e R =>
      have hm:e ∈ Xj all listed:=by rw[hR];simp
      obtain ⟨hm1,hm2⟩:=List.mem_filter.1 hm;obtain ⟨k,hk⟩:=List.mem_iff_getElem?.1 hm1;obtain ⟨hi,o,ho,_⟩:=hp.at_ k e hk;have hklt:k < ops.size:=by have:=(List.getElem?_eq_some_iff.1 hk).1;rw[hp.len] at this;exact this
      have hready:k ∈ Region.ready .any ops listed:=by
       refine Ok.2 ⟨hklt,by rw[<- hi];simpa using hm2,o,ho,fun ed hed hb=>?_⟩;have hlt:=edges k o hklt ho ed hed hb;cases hg:listed.getD ed.on false with
       | true=>rfl
       | false =>
         exfalso;have hlt':ed.on < all.length:=by rw[hp.len];omega
         have hei:=(hp.at_ ed.on _ (List.getElem?_eq_getElem hlt')).1
         have hm':all[ed.on] ∈ Xj all listed:=by
          refine List.mem_filter.2 ⟨List.getElem_mem hlt',?_⟩;rw[hei]
          have:listed.getD ed.on true=listed.getD ed.on false:=by
           simp only[Array.getD_eq_getD_getElem?];rw[Array.getElem?_eq_getElem (by omega)];rfl
          rw[this,hg];rfl
         rw[hR] at hm'
         have hsort:(e::R).Pairwise (fun a b=>a.i < b.i):=by
          rw[<- hR];exact hp.sorted.sublist List.filter_sublist
         rcases List.mem_cons.1 hm' with e1 | e1
         ·rw[e1,hi] at hei;omega
         ·have:=(List.pairwise_cons.1 hsort).1 _ e1;rw[hei,hi] at this;omega
      rw[hnone] at hready;cases hready
   ·obtain ⟨hilt,hun,o,ho,hed⟩:=Ok.1 hi;have hlt:i < all.length:=by rw[hp.len];exact hilt
    have hat:=hp.at_ i _ (List.getElem?_eq_getElem hlt);obtain ⟨hei,o',ho',hco⟩:=hat;rw[ho] at ho';cases ho';have hm:all[i] ∈ Xj all listed:=List.mem_filter.2 ⟨List.getElem_mem hlt,by rw[hei,hun];rfl⟩;generalize he:all[i]=e at *;obtain ⟨l1,l2,hR⟩:=List.append_of_mem hm;have hsort:(l1++e::l2).Pairwise (fun a b=>a.i < b.i):=by rw[<- hR];exact hp.sorted.sublist List.filter_sublist
    have hl1:∀ x ∈ l1,x.i < i:=fun x hx=>by
     have:=(List.pairwise_append.1 hsort).2.2 x hx e (by simp);rw[hei] at this;exact this
    have hl2:∀ x ∈ l2,i < x.i:=fun x hx=>by
     have:=(List.pairwise_cons.1 (List.pairwise_append.1 hsort).2.1).1 x hx;rw[hei] at this;exact this
    have hpre:∀ j ∈ pl.getD i [],listed.getD j true=true:=by
     intro j hj;obtain ⟨ed,hed1,hb,hor⟩:=closed i o hilt ho j hj;have hon:=hed ed hed1 hb;have honlt:=edges i o hilt ho ed hed1 hb
     have hon':listed.getD ed.on true=true:=by
      have:listed.getD ed.on true=listed.getD ed.on false:=by
       simp only[Array.getD_eq_getD_getElem?];rw[Array.getElem?_eq_getElem (by omega)];rfl
      rw[this];exact hon
     rcases hor with rfl | hor
     ·exact hon'
     ·exact hcl ed.on (by omega) hon' j hor
    have hmemR:∀ x ∈ Xj all listed,x ∈ all/\listed.getD x.i true=false:=fun x hx=>by
     obtain ⟨g1,g2⟩:=List.mem_filter.1 hx;exact⟨g1,by simpa using g2⟩
    have hpair:∀ a ∈ all,∀ b ∈ all,a.i < b.i->a.tr.free b.tr.news=true/\(a.i ∈ pl.getD b.i []\/(Abs.ind a b=true/\b.tr.free a.tr.news=true)):=by
     intro a ha b hb hab;have:=List.all_eq_true.1 (List.all_eq_true.1 hp.apart a ha) b hb;rw[if_pos hab] at this;simp only[Bool.and_eq_true,Bool.or_eq_true] at this;exact⟨this.1,this.2.imp (fun h=>by simpa using h) id⟩
    have heall:e ∈ all:=(hmemR e hm).1
    have hindep:∀ x ∈ l1,Abs.ind x e=true/\e.tr.free x.tr.news=true:=by
     intro x hx;obtain ⟨g1,g2⟩:=hmemR x (by rw[hR];simp[hx]);rcases (hpair x g1 e heall (by rw[hei];exact hl1 x hx)).2 with g | g
     ·have:=hpre x.i (by rw[hei] at g;exact g);rw[this] at g2;cases g2
     ·exact g
    rw[hR] at hst;obtain ⟨hst',hfin⟩:=aen l1 l2 s hst fun x hx=>(hindep x hx).1;simp only[Ho] at hst';obtain ⟨hex,_,hrest⟩:=hst';refine agW ho hco hrel hex (hfr e hm) fun a' w' hr=>?_
    have hrem:Xj all (listed.setIfInBounds i true)=l1++l2:=by
     have:Xj all (listed.setIfInBounds i true)=(Xj all listed).filter fun x=>x.i != i:=by
      unfold Xj;rw[List.filter_filter];refine List.filter_congr fun x _=>?_;rw[Wr _ _ _ _ _ (by omega)];by_cases e1:x.i=i
      ·simp[e1]
      ·simp[e1]
     rw[this,hR,List.filter_append,List.filter_cons];have hne:(e.i != i)=false:=by simp[hei]
     rw[hne];simp only[Bool.false_eq_true,if_false];rw[List.filter_eq_self.2,List.filter_eq_self.2]
     ·intro x hx;have:=hl2 x hx;simp;omega
     ·intro x hx;have:=hl1 x hx;simp;omega
    refine abx hp fuel _ (e.ap s) a' w' (by simpa using hsz) ?_ ?_ (by rw[hrem];exact hrest) ?_ hr ?_
    ·rw[hrem];rw[hR] at hlen;simp only[List.length_append,List.length_cons] at hlen ⊢;omega
    ·intro k hk hlk j hj;rw[Wr _ _ _ _ _ (by omega)] at hlk ⊢;split
     ·rfl
     ·split at hlk
      ·rename_i e1;subst e1;exact hpre j hj
      ·exact hcl k hk hlk j hj
    ·intro x hx d hd;rw[hrem] at hx
     have hxR:x ∈ Xj all listed:=by
      rw[hR];rcases List.mem_append.1 hx with h | h
      ·simp[h]
      ·simp[h]
     obtain ⟨f1,f2⟩:=hfr x hxR d hd;refine⟨?_,f2⟩;rcases List.mem_append.1 hx with h | h
     ·exact Tr.free_fresh (hindep x h).2 hd f1
     ·exact Tr.free_fresh (hpair e heall x (hmemR x hxR).1 (by rw[hei];exact hl2 x h)).1 hd f1
    ·intro a2 w2 hr2;refine hQ a2 w2 ?_;rw[hR,hfin];rw[hrem] at hr2;exact hr2
end
end Go.Abs
namespace Go.Abs
variable [GI]
def iS (c:CO) (s:AS):List Nat:=(xsT c.o).flatMap fun x=>cN (s.ev x)
def aeP (P:Program) (f:Nat) (vs:List V) (s:AS) (d:Nat) (c:CO) (i:Nat) (next:It->AS->Prop):Prop :=
 ∃ res,aa P f (vs.map (aP (bB s.hp) 6)) res/\cn res=true/\(fx res=true\/(aC vs=true/\bb vs=true))/\bb vs=true /\
  (cc vs).all (fun id=>match bB s.hp id with | some b=>dB b.es | none=>true)=true/\next ⟨c,xZ d res,i,iS c s⟩ (s.took d res)
def aeN (P:Program) (f:Nat) (vs:List V) (s:AS) (d:Nat) (c:CO) (i:Nat) (next:It->AS->Prop):Prop :=
 ∃ (M Z:List Nat) (H0 l:List Blk) (res:V),ac P f H0 (vs.map (my M (jm Z (bB s.hp)) 6)) res (l.map some)/\M.Nodup/\(Z.all fun z=>!M.contains z)=true/\M.map (bB s.hp)=H0.map some/\(∀ blk ∈ H0,aC blk.es=true)/\jG (l.map some)=true/\cn res=true /\
  (M.all fun id=>(cc vs).contains id)=true/\(Z.all fun id=>(cc vs).contains id)=true/\next ⟨c,trM d M Z l res,i,iS c s⟩ (((s.sunk Z).wrote M (l.map some)).took d res)
def aeO (P:Program) (f:Nat) (vs:List V) (s:AS) (d:Nat) (c:CO) (i:Nat) (next:It->AS->Prop):Prop :=
 ∃ (M Z:List Nat) (H0 l:List Blk) (res:V),Cf P f H0 (vs.map (my M (jm Z (bB s.hp)) 6)) (fun r k nw=>r=res/\k=l/\nw=none)/\M.Nodup/\(Z.all fun z=>!M.contains z)=true/\M.map (fun id=>(bB s.hp id).map (xj (upI M)))=H0.map some/\rL M (bB s.hp) M=true/\l.length=H0.length /\
  WW H0.length res/\(∀ blk ∈ l,Kj H0.length blk.es)/\(M.all fun id=>(cc vs).contains id)=true/\(Z.all fun id=>(cc vs).contains id)=true/\next ⟨c,trN d M Z l res,i,iS c s⟩ ((s.sunk Z).back M d res l none)
def uX (P:Program) (f:Nat) (vs:List V) (s:AS) (d:Nat) (c:CO) (i:Nat) (next:It->AS->Prop):Prop:=aeP P f vs s d c i next\/aeN P f vs s d c i next\/aeO P f vs s d c i next
def Zz (ok:Bool) (m k:V) (s:AS) (d:Nat) (c:CO) (i:Nat) (next:It->AS->Prop):Prop:=∃ b key ct,m=.v (.map (some b))/\k=.v (.string (bs key))/\bB s.hp bm=some (bo b ct) /\
 ((ok=true/\next ⟨c,⟨.tup [.undef,.v (.bool (dZ key ct).isSome)],[],[]⟩,i,iS c s⟩ (s.put (some d) (.tup [.undef,.v (.bool (dZ key ct).isSome)]))) \/
   (ok=false/\dZ key ct=none/\next ⟨c,⟨.v (.slice none 0 0),[],[]⟩,i,iS c s⟩ (s.put (some d) (.v (.slice none 0 0)))) \/
   (ok=false/\∃ l:List Int,dZ key ct=some (some l)/\next ⟨c,⟨.sl d 0 l.length,[(bm,some (bo b (dD key none ct))),(d,some ⟨1,l.map rO⟩)],[d]⟩,i,iS c s⟩
    { s with sl:=(d,.sl d 0 l.length)::s.sl,hp:=(d,⟨1,l.map rO⟩)::(bm,bo b (dD key none ct))::HO bm s.hp }))
def acl (m k v:V) (s:AS) (c:CO) (i:Nat) (next:It->AS->Prop):Prop:=∃ b key ct id,∃ l:List Int,m=.v (.map (some b))/\k=.v (.string (bs key))/\bB s.hp bm=some (bo b ct)/\v=.sl id 0 l.length/\bB s.hp id=some ⟨1,l.map rO⟩ /\
 next ⟨c,⟨.undef,[(id,none),(bm,some (bo b (dD key (some l) ct)))],[]⟩,i,iS c s⟩ { s with hp:=(bm,bo b (dD key (some l) ct))::HO bm (HO id s.hp) }
def ez (P:Program) (c:CO) (i:Nat) (s:AS) (next:It->AS->Prop):Prop :=
 match c.o with
 | .call f xs=>∃ d,c.d=some d/\uX P f (xs.map s.ev) s d c i next
 | .callv x xs=>∃ d,c.d=some d/\match s.ev x with
   | .clo f caps=>uX P f (xs.map s.ev++caps) s d c i next
   | _=>False
 | .look ok m k=>∃ d,c.d=some d/\Zz ok (s.ev m) (s.ev k) s d c i next
 | .mupd m k v=>c.d=none/\acl (s.ev m) (s.ev k) (s.ev v) s c i next
 | o=>match uY s.ev (bB s.hp) (c.d.getD 0) o with
   | some (p,δ)=>p/\(δ.new.isSome=true->c.d.isSome=true)/\next ⟨c,Vr δ c.d,i,iS c s⟩ (s.app c.d δ)
   | none=>False
def KT (f:List It->AS->Prop) (acc:List It) (it:It) (s:AS):Prop:=f (acc++[it]) s
def SD (P:Program) (pl:List (List Nat)) (s0:AS) (K:AS->Prop):List CO->Nat->List It->AS->Prop
 | [],_,acc,s=>O9 pl acc=true/\(acc.all fun e=>e.tr.news.all s0.fresh)=true/\K s
 | c::cs,i,acc,s=>match c.g with
   | none=>ez P c i s (KT (SD P pl s0 K cs (i+1)) acc)
   | some (t,b)=>match lk s.sl t with
     | .v (.bool v)=>(v=b->ez P c i (s.mark t (.v (.bool b))) (KT (SD P pl s0 K cs (i+1)) acc)) /\
       (v=!b->SD P pl s0 K cs (i+1) (acc++[⟨c,⟨.tup [],[],[]⟩,i,iS c s⟩]) ((s.mark t (.v (.bool !b))).put c.d (.tup [])))
     | .tup []=>SD P pl s0 K cs (i+1) (acc++[⟨c,⟨.tup [],[],[]⟩,i,iS c s⟩]) (s.put c.d (.tup []))
     | _=>False
section
variable {P : Program} {X : Ctx} {Q : Exit → Act → World → Prop}
omit [GI] in
theorem AS.tch_eq (c:CO) (s:AS):YX c s.den=iS c s:=by
 unfold YX iS;rw[AS.ev_eq]
omit [GI] in
theorem AS.den_put (s:AS) (d:Option Nat):(s.put d (.tup [])).den=Tr.ap ⟨.tup [],[],[]⟩ d s.den:=by
 cases d with
 | none=>rfl
 | some d=>simp only[AS.put,AS.den,Tr.ap,jN,ie]
theorem XS {pl:List (List Nat)} {s0:AS} {K:AS->Prop}:∀ (cs:List CO) (i:Nat) (acc:List It) (s:AS),SD P pl s0 K cs i acc s ->
  ∃ its s',its.map (·.c)=cs/\its.map (·.i)=List.range' i cs.length/\Ho P s.den its/\SC s.den its=s'.den/\s'.pin=s.pin/\O9 pl (acc++its)=true/\((acc++its).all fun e=>e.tr.news.all s0.fresh)=true/\K s'
 | [],i,acc,s,h=>⟨[],s,rfl,rfl,trivial,rfl,rfl,by simpa using h.1,by simpa using h.2.1,h.2.2⟩
 | c::cs,i,acc,s,h=>by
   have go:∀ (tr:Tr) (s1:AS),ex P c s.den tr->s1.den=tr.ap c.d s.den->s1.pin=s.pin->SD P pl s0 K cs (i+1) (acc++[⟨c,tr,i,iS c s⟩]) s1 ->
     ∃ its s',its.map (·.c)=c::cs/\its.map (·.i)=List.range' i (c::cs).length/\Ho P s.den its/\SC s.den its=s'.den/\s'.pin=s.pin/\O9 pl (acc++its)=true/\((acc++its).all fun e=>e.tr.news.all s0.fresh)=true/\K s':=by
    intro tr s1 hex hden hpin hw;obtain ⟨its,s',h1,h2,h3,h4,h5,h6,h7,h8⟩:=XS cs (i+1) _ s1 hw;refine⟨⟨c,tr,i,iS c s⟩::its,s',by simp[h1],by simp[h2,List.range'_succ],⟨hex,fun id hid=>by rw[AS.tch_eq] at hid;exact hid,?_⟩,?_,h5.trans hpin,by simpa using h6,by simpa using h7,h8⟩
    ·show Ho P (tr.ap c.d s.den) its;rw[<- hden];exact h3
    ·show SC (tr.ap c.d s.den) its=s'.den;rw[<- hden];exact h4
   have callGo:∀ (s:AS) (f:Nat) (vs:List V) (d:Nat),c.d=some d->uX P f vs s d c i (KT (SD P pl s0 K cs (i+1)) acc) ->
     ∃ tr s1,Tp P f vs s.den d tr/\s1.den=tr.ap (some d) s.den/\s1.pin=s.pin/\SD P pl s0 K cs (i+1) (acc++[⟨c,tr,i,iS c s⟩]) s1:=by
    rintro s f vs d hd (⟨res,h1,h2,h3,h4,h5,h6⟩ | ⟨M,Z,H0,l,res,h1,h2,h3,h4,h5,h6,h7,h8,h9,h10⟩ | ⟨M,Z,H0,l,res,h1,h2,h3,h4,h5,h6,h7,h8,h9,h10,h11⟩)
    ·refine⟨xZ d res,s.took d res,.inl ⟨res,h1,h2,h3,rfl,h4,fun id hid b hb=>?_⟩,by rw[AS.den_took,T6],rfl,h6⟩;have:=List.all_eq_true.1 h5 id hid;have hb':bB s.hp id=some b:=hb;rw[hb'] at this;simpa using this
    ·have hlH:H0.length=M.length:=by
      have:=congrArg List.length h4;rw[List.length_map,List.length_map] at this;exact this.symm
     have hll:(l.map some).length=M.length:=h1.2.1.trans hlH;exact⟨trM d M Z l res,((s.sunk Z).wrote M (l.map some)).took d res,.inr <| .inl ⟨M,Z,H0,l,res,h1,h2,fun z hz=>by simpa using List.all_eq_true.1 h3 z hz,h4,h5,h6,h7,h8,h9,rfl⟩,by rw[AS.den_took,AS.den_wrote _ h2 hll,AS.den_sunk,ac9 d res s.den h2 (by rw[<- hll,List.length_map])],rfl,h10⟩
    ·refine⟨trN d M Z l res,(s.sunk Z).back M d res l none,.inr <| .inr ⟨M,Z,H0,l,res,h1,h2,fun z hz=>by simpa using List.all_eq_true.1 h3 z hz,h4,h5,h6,h7,h8,h9,h10,rfl⟩,?_,rfl,h11⟩;rw[AS.den_back,AS.den_sunk,ada];rfl
   have step:∀ s:AS,(ez P c i s (KT (SD P pl s0 K cs (i+1)) acc))->∃ tr s1,J5 P c s.den tr/\s1.den=tr.ap c.d s.den/\s1.pin=s.pin/\SD P pl s0 K cs (i+1) (acc++[⟨c,tr,i,iS c s⟩]) s1:=by
    intro s hs;unfold ez at hs;split at hs
    ·rename_i f xs hco;obtain ⟨d,hd,hs⟩:=hs;obtain ⟨tr,s1,h1,h2,h3,h4⟩:=callGo s f _ d hd hs;refine⟨tr,s1,?_,by rw[hd];exact h2,h3,h4⟩;unfold J5;rw[hco];exact⟨d,hd,by rw[AS.ev_eq];exact h1⟩
    ·rename_i x xs hco;obtain ⟨d,hd,hs⟩:=hs;split at hs
     ·rename_i f caps hclo;obtain ⟨tr,s1,h1,h2,h3,h4⟩:=callGo s f _ d hd hs;refine⟨tr,s1,?_,by rw[hd];exact h2,h3,h4⟩;unfold J5;rw[hco];refine⟨d,hd,?_⟩;rw[AS.ev_eq,hclo];exact h1
     ·exact hs.elim
    ·rename_i ok xm xk hco;obtain ⟨d,hd,b,key,ct,em,ek,hb,hs⟩:=hs;have em':s.den.ev xm=.v (.map (some b)):=by rw[AS.ev_eq];exact em
     have ek':s.den.ev xk=.v (.string (bs key)):=by rw[AS.ev_eq];exact ek
     rcases hs with ⟨rfl,hs⟩ | ⟨rfl,hg,hs⟩ | ⟨rfl,l,hg,hs⟩
     ·refine⟨⟨.tup [.undef,.v (.bool (dZ key ct).isSome)],[],[]⟩,s.put (some d) (.tup [.undef,.v (.bool (dZ key ct).isSome)]),?_,?_,rfl,hs⟩
      ·unfold J5;rw[hco];exact⟨d,hd,b,key,ct,em',ek',hb,.inl ⟨rfl,rfl⟩⟩
      ·rw[hd];simp only[AS.den,AS.put,Tr.ap,jN,ie]
     ·refine⟨⟨.v (.slice none 0 0),[],[]⟩,s.put (some d) (.v (.slice none 0 0)),?_,?_,rfl,hs⟩
      ·unfold J5;rw[hco];exact⟨d,hd,b,key,ct,em',ek',hb,.inr (.inl ⟨rfl,hg,rfl⟩)⟩
      ·rw[hd];simp only[AS.den,AS.put,Tr.ap,jN,ie]
     ·refine⟨⟨.sl d 0 l.length,[(bm,some (bo b (dD key none ct))),(d,some ⟨1,l.map rO⟩)],[d]⟩,{ s with sl:=(d,.sl d 0 l.length)::s.sl,hp:=(d,⟨1,l.map rO⟩)::(bm,bo b (dD key none ct))::HO bm s.hp },?_,?_,rfl,hs⟩
      ·unfold J5;rw[hco];exact⟨d,hd,b,key,ct,em',ek',hb,.inr (.inr ⟨rfl,l,hg,rfl⟩)⟩
      ·rw[hd];simp only[AS.den,Tr.ap,jN,ie,iH,jW,NM]
    ·rename_i xm xk xv hco;obtain ⟨hd,b,key,ct,id,l,em,ek,hb,ev,hi,hs⟩:=hs;have em':s.den.ev xm=.v (.map (some b)):=by rw[AS.ev_eq];exact em
     have ek':s.den.ev xk=.v (.string (bs key)):=by rw[AS.ev_eq];exact ek
     have ev':s.den.ev xv=.sl id 0 l.length:=by rw[AS.ev_eq];exact ev
     refine⟨⟨.undef,[(id,none),(bm,some (bo b (dD key (some l) ct)))],[]⟩,{ s with hp:=(bm,bo b (dD key (some l) ct))::HO bm (HO id s.hp) },?_,?_,rfl,hs⟩
     ·unfold J5;rw[hco];exact⟨hd,b,key,ct,id,l,em',ek',hb,ev',hi,rfl⟩
     ·rw[hd];simp only[AS.den,Tr.ap,jN,iH,jW,NM]
    ·rename_i hn1 hn2 hn3 hn4;split at hs
     ·rename_i p δ he;obtain ⟨hp,hnew,hs⟩:=hs;refine⟨Vr δ c.d,s.app c.d δ,?_,?_,AS.app_pin _ _ _,hs⟩
      ·unfold J5;split
       ·rename_i f xs hco;exact absurd hco (hn1 f xs)
       ·rename_i x xs hco;exact absurd hco (hn2 x xs)
       ·rename_i ok x y hco;exact absurd hco (hn3 ok x y)
       ·rename_i x y z hco;exact absurd hco (hn4 x y z)
       ·exact⟨p,δ,by rw[AS.ev_eq];exact he,hp,rfl⟩
      ·rw[AS.den_app _ _ _ hnew,ZI]
     ·exact hs.elim
   unfold SD at h;split at h
   ·rename_i hg;obtain ⟨tr,s1,h1,h2,h3,h4⟩:=step s h;exact go tr s1 (by unfold ex;rw[hg];exact h1) h2 h3 h4
   ·rename_i t b hg;split at h
    ·rename_i v hv;by_cases e:v=b
     ·obtain ⟨tr,s1,h1,h2,h3,h4⟩:=step _ (h.1 e);have hds:(s.mark t (.v (.bool b))).den=s.den:=AS.den_same (by rw[hv,e]);have htc:iS c (s.mark t (.v (.bool b)))=iS c s:=by rw[<- AS.tch_eq,hds,AS.tch_eq]
      rw[hds] at h1 h2;rw[htc] at h4;exact go tr s1 (by unfold ex;rw[hg];exact .inl ⟨v,hv,.inl ⟨e,h1⟩⟩) h2 h3 h4
     ·have e':v=!b:=by cases v<;>cases b<;>simp_all
      have hds:(s.mark t (.v (.bool !b))).den=s.den:=AS.den_same (by rw[hv,e']);exact go ⟨.tup [],[],[]⟩ _ (by unfold ex;rw[hg];exact .inl ⟨v,hv,.inr ⟨e,rfl⟩⟩) (by rw[AS.den_put,hds]) (by cases c.d<;>rfl) (h.2 e')
    ·rename_i hv;exact go ⟨.tup [],[],[]⟩ _ (by unfold ex;rw[hg];exact .inr ⟨hv,rfl⟩) (by rw[AS.den_put]) (by cases c.d<;>rfl) h
    ·exact h.elim
omit [GI] in
theorem QP {ops:Array Oper} {n:Nat}:∀ (os:List Oper) (cs:List CO),xe P ops n os=some cs->cs.length=os.length/\∀ (k:Nat) (c:CO),cs[k]?=some c->∃ o,os[k]?=some o/\QO P ops n o=some c
 | [],cs,h=>by simp only[xe,Option.some.injEq] at h;subst h;exact⟨rfl,by simp⟩
 | o::os,cs,h=>by
   unfold xe at h;split at h
   ·rename_i c cs' h1 h2;simp only[Option.some.injEq] at h;subst h;obtain ⟨g1,g2⟩:=QP os cs' h2;refine⟨by simp[g1],fun k c' hk=>?_⟩;cases k with
    | zero=>simp at hk;subst hk;exact⟨o,by simp,h1⟩
    | succ k=>simpa using g2 k c' (by simpa using hk)
   ·cases h
theorem afJ {ops:Array Oper} {id:Nat} {cs:List CO} {pl:List (List Nat)} {s:AS} {a:Act} {w:World} {K:AS->Prop} (hm:P.follows .mixedOrders=true) (hpl:afD ops pl=true) (hc:xe P ops X.n ops.toList=some cs)
  (h:Cg X s.den a w) (hpin:X.pin=s.pin) (hs:SD P pl s K cs 0 [] s) (hK:∀ s' a' w',K s'->s'.pin=s.pin->Cg X s'.den a' w'->Q .normal a' w'):(Code.region id ops true).wp P Q a w:=by
 obtain ⟨its,s',h1,h2,h3,h4,h5,h6,h7,h8⟩:=XS cs 0 [] s hs;simp only[List.nil_append] at h6 h7;obtain ⟨g1,g2⟩:=QP _ _ hc
 have hlen:its.length=ops.size:=by
  have:=congrArg List.length h1;rw[List.length_map] at this;rw[this,g1];simp
 have plan:Plan P X ops pl its:=by
  refine⟨hlen,fun k e hk=>?_,hpl,h6⟩;have hc':cs[k]?=some e.c:=by rw[<- h1,List.getElem?_map,hk];rfl
  obtain ⟨o,ho,hco⟩:=g2 k e.c hc';refine⟨?_,o,by simpa using ho,hco⟩;have hi:(its.map (·.i))[k]?=some e.i:=by rw[List.getElem?_map,hk];rfl
  rw[h2] at hi;have hlt:k < cs.length:=(List.getElem?_eq_some_iff.1 hc').1;rw[List.getElem?_range' hlt] at hi;simpa using hi.symm
 have hrem:Xj its (Array.replicate ops.size false)=its:=by
  refine List.filter_eq_self.2 fun e he=>?_;obtain ⟨k,hk⟩:=List.mem_iff_getElem?.1 he;have hi:=(plan.at_ k e hk).1;have hlt:k < ops.size:=by have:=(List.getElem?_eq_some_iff.1 hk).1;omega
  rw[hi,Array.getD_eq_getD_getElem?];simp[hlt]
 obtain ⟨D,φ,F,hrel⟩:=h
 have hrel':Cg X s.den a { w with drawn:=w.drawn+1 }:=by
  have:=hrel.grow { w with drawn:=w.drawn+1 } D [] rfl rfl rfl (Nat.le_refl _) (fun _ _=>rfl) (fun _ hb=>hb) (fun b hb=>⟨.inl hb,hrel.Dlt b hb⟩) List.nodup_nil (by simp);exact⟨D,φ,F,by simpa using this⟩
 refine wp_region_any hm (abx plan ops.size _ s.den a _ (by simp) (by rw[hrem,hlen]) (fun i hi hg=>?_) (by rw[hrem];exact h3) (fun e he d hd=>?_) hrel' fun a' w' hr=>?_)
 ·simp[Array.getD_eq_getD_getElem?,hi] at hg
 ·rw[hrem] at he;have:=List.all_eq_true.1 (List.all_eq_true.1 h7 e he) d hd;have:=AS.fresh_ok this;exact⟨this.1,by rw[hpin];exact this.2⟩
 ·rw[hrem,h4] at hr;exact hK s' a' w' h8 h5 hr
end
def ahN (ops:Array Oper):List (List Nat) :=
 let b:=Region.before ops
 (List.range ops.size).map fun i=>(List.range ops.size).filter fun j=>(b.getD i 0).testBit j
inductive C where
 | skip
 | reg (cs:List CO) (keep:List Nat)
 | regD (cs:List CO) (pl:List (List Nat)) (keep:List Nat)
 | seq (a b:C)
 | cond (x:X) (a b:C)
 | block (id:Nat) (b:C)
 | loop (b:C)
 | exit (id:Nat)
 | ret
 | wk (b:C)
 | bad
 deriving Inhabited
def ZC (ks:List Nat) (c:List Nat->C):C:=match ks with
 | []=>c []
 | k::l=>if k=999999 then .wk (c l) else c (k::l)
def ael (P:Program) (n:Nat) (ks:List Nat) (ops:Array Oper) (dr:Bool):C :=
 if dr=true then
  if P.follows .mixedOrders=true/\afD ops (ahN ops)=true then
   match xe P ops n ops.toList with
   | some cs=>ZC ks (.regD cs (ahN ops))
   | none=>.bad
  else .bad
 else match xe P ops n ops.toList with
  | some cs=>ZC ks (.reg cs)
  | none=>.bad
def rM (P:Program) (n:Nat) (ks:Nat->List Nat):Code->C
 | .skip=>.skip
 | .region id ops dr=>ael P n (ks id) ops dr
 | .seq a b=>.seq (rM P n ks a) (rM P n ks b)
 | .cond x a b=>match cX x with
   | some x=>.cond x (rM P n ks a) (rM P n ks b)
   | none=>.bad
 | .block id b=>.block id (rM P n ks b)
 | .loop b=>.loop (rM P n ks b)
 | .exit id=>.exit id
 | .ret=>.ret
 | _=>.bad
def AS.keep (s:AS) (ks:List Nat):AS:={ s with sl:=ks.map fun t=>(t,lk s.sl t) }
def Wk (s s':AS):Prop:=s'.pin=s.pin/\∀ X a w,X.pin=s.pin->Cg X s.den a w->Cg X s'.den a w
theorem Wk.refl (s:AS):Wk s s:=⟨rfl,fun _ _ _ _ h=>h⟩
theorem Wk.trans {s t u:AS} (h:Wk s t) (h':Wk t u):Wk s u:=⟨h'.1.trans h.1,fun X a w hp hr=>h'.2 X a w (hp.trans h.1.symm) (h.2 X a w hp hr)⟩
theorem Wk.of_lk {s s':AS} (hp:s'.pin=s.pin) (h1:∀ t,lk s'.sl t=lk s.sl t\/lk s'.sl t=.undef) (h2:∀ i,bB s'.hp i=bB s.hp i\/bB s'.hp i=none):Wk s s' :=
 ⟨hp,fun X a w _ ⟨D,φ,F,h⟩=>⟨D,φ,_,h.weaken s'.den h1 h2⟩⟩
omit [GI] in
theorem Zv (l:List (Nat×V)):∀ (ks:List Nat) (t:Nat),lk (ks.map fun t=>(t,lk l t)) t=lk l t\/lk (ks.map fun t=>(t,lk l t)) t=.undef
 | [],t=>.inr rfl
 | k::ks,t=>by
   simp only[List.map_cons,lk];split
   ·rename_i e;subst e;exact .inl rfl
   ·exact Zv l ks t
theorem Wk.keep (s:AS) (ks:List Nat):Wk s (s.keep ks):=Wk.of_lk rfl (Zv s.sl ks) fun _=>.inl rfl
def acW (K:AS->Prop) (Q:Exit->AS->Prop):Exit->AS->Prop
 | .normal=>K
 | e=>Q e
def El (id:Nat) (Q:Exit->AS->Prop):Exit->AS->Prop
 | .exit i=>if i=id then Q .normal else Q (.exit i)
 | e=>Q e
def ab4 (ks:List Nat) (Q:Exit->AS->Prop) (s:AS):Prop:=Q .normal (s.keep ks)
def Ve (I:Nat->AS->Prop) (n:Nat) (Q:Exit->AS->Prop):Exit->AS->Prop
 | .normal=>fun s=>∃ m s',m < n/\Wk s s'/\I m s'
 | e=>Q e
def ZB (body:(Exit->AS->Prop)->AS->Prop) (Q:Exit->AS->Prop) (s:AS):Prop :=
 ∃ (I:Nat->AS->Prop) (n:Nat) (s0:AS),Wk s s0/\I n s0/\∀ n s,I n s->body (Ve I n Q) s
def A0 (P:Program):C->(Exit->AS->Prop)->AS->Prop
 | .skip,Q,s=>Q .normal s
 | .reg cs ks,Q,s=>Ub P cs (ab4 ks Q) s
 | .regD cs pl ks,Q,s=>SD P pl s (ab4 ks Q) cs 0 [] s
 | .seq a b,Q,s=>A0 P a (acW (A0 P b Q) Q) s
 | .cond x a b,Q,s=>match s.ev x with
   | .v (.bool t)=>(t=true->A0 P a Q s)/\(t=false->A0 P b Q s)
   | _=>False
 | .block id b,Q,s=>A0 P b (El id Q) s
 | .loop b,Q,s=>ZB (A0 P b) Q s
 | .exit id,Q,s=>Q (.exit id) s
 | .ret,Q,s=>Q .ret s
 | .wk b,Q,s=>∃ s',Wk s s'/\A0 P b Q s'
 | .bad,_,_=>False
theorem fo {P:Program} {K K':AS->Prop} (h:∀ s,K s->K' s):∀ (cs:List CO) (s:AS),Ub P cs K s->Ub P cs K' s
 | [],s,hs=>h s hs
 | c::cs,s,hs=>by
   have step:∀ s,en P c (Ub P cs K) s->en P c (Ub P cs K') s:=by
    intro s hs
    have call:∀ f vs d,nT P f vs s d (Ub P cs K)->nT P f vs s d (Ub P cs K'):=by
     rintro f vs d (⟨res,h1,h2,h3,h4,h5⟩ | ⟨M,H0,res,H1,h1,h2,h3,h4,h5,h6,h7,h8,h9⟩ | ⟨M,H0,R,h1,h2,h3,h4,h5⟩ | ⟨M,Z,H0,res,H1,h1,h2,h3,h4,h5,h6,h7,h8,h9⟩ | ⟨M,Z,H0,R,h1,h2,h3,h4,h5,h6⟩ | ⟨M,Z,H0,R,h1,h2,h3,h4,h5,h6⟩)
     ·exact .inl ⟨res,h1,h2,h3,h4,fo h cs _ h5⟩
     ·exact .inr (.inl ⟨M,H0,res,H1,h1,h2,h3,h4,h5,h6,h7,h8,fo h cs _ h9⟩)
     ·exact .inr (.inr (.inl ⟨M,H0,R,h1,h2,h3,h4,fun res l hR hl=>by
       obtain ⟨g1,g2,g3,g4,g5⟩:=h5 res l hR hl;exact⟨g1,g2,g3,g4,fo h cs _ g5⟩⟩))
     ·exact .inr (.inr (.inr (.inl ⟨M,Z,H0,res,H1,h1,h2,h3,h4,h5,h6,h7,h8,fo h cs _ h9⟩)))
     ·exact .inr (.inr (.inr (.inr (.inl ⟨M,Z,H0,R,h1,h2,h3,h4,h5,fun res l hR hl=>by
       obtain ⟨g1,g2,g3,g4⟩:=h6 res l hR hl;exact⟨g1,g2,g3,fo h cs _ g4⟩⟩))))
     ·exact .inr (.inr (.inr (.inr (.inr ⟨M,Z,H0,R,h1,h2,h3,h4,h5,fun res l nw hR hl=>by
       obtain ⟨g1,g2,g3,g4,g5⟩:=h6 res l nw hR hl;exact⟨g1,g2,g3,g4,fo h cs _ g5⟩⟩))))
    unfold en at hs ⊢;split at hs
    ·exact call _ _ _ hs
    ·split at hs
     ·exact call _ _ _ hs
     ·exact hs.elim
    ·exact⟨hs.1,fun b=>fo h cs _ (hs.2 b)⟩
    ·obtain ⟨b,key,ct,h1,h2,h3,h4⟩:=hs;refine⟨b,key,ct,h1,h2,h3,?_⟩;rcases h4 with ⟨g1,g2⟩ | ⟨g1,g2,g3⟩ | ⟨g1,l,g2,g3,g4⟩
     ·exact .inl ⟨g1,fo h cs _ g2⟩
     ·exact .inr (.inl ⟨g1,g2,fo h cs _ g3⟩)
     ·exact .inr (.inr ⟨g1,l,g2,g3,fo h cs _ g4⟩)
    ·obtain ⟨b,key,ct,id,l,h1,h2,h3,h4,h5,h6⟩:=hs;exact⟨b,key,ct,id,l,h1,h2,h3,h4,h5,fo h cs _ h6⟩
    ·split at hs
     ·exact⟨hs.1,hs.2.1,fo h cs _ hs.2.2⟩
     ·exact hs.elim
   unfold Ub at hs ⊢;split at hs
   ·exact step _ hs
   ·split at hs
    ·exact⟨fun e=>step _ (hs.1 e),fun e=>fo h cs _ (hs.2 e)⟩
    ·exact fo h cs _ hs
    ·exact hs.elim
theorem Hv {P:Program} {pl:List (List Nat)} {s0:AS} {K K':AS->Prop} (h:∀ s,K s->K' s):∀ (cs:List CO) (i:Nat) (acc:List It) (s:AS),SD P pl s0 K cs i acc s->SD P pl s0 K' cs i acc s
 | [],i,acc,s,hs=>⟨hs.1,hs.2.1,h s hs.2.2⟩
 | c::cs,i,acc,s,hs=>by
   have step:∀ {s:AS} {n1 n2:It->AS->Prop},(∀ it s,n1 it s->n2 it s)->ez P c i s n1->ez P c i s n2:=by
    intro s n1 n2 hn hs
    have call:∀ f vs d,uX P f vs s d c i n1->uX P f vs s d c i n2:=by
     rintro f vs d (⟨res,h1,h2,h3,h4,h5,h6⟩ | ⟨M,Z,H0,l,res,h1,h2,h3,h4,h5,h6,h7,h8,h9,h10⟩ | ⟨M,Z,H0,l,res,h1,h2,h3,h4,h5,h6,h7,h8,h9,h10,h11⟩)
     ·exact .inl ⟨res,h1,h2,h3,h4,h5,hn _ _ h6⟩
     ·exact .inr <| .inl ⟨M,Z,H0,l,res,h1,h2,h3,h4,h5,h6,h7,h8,h9,hn _ _ h10⟩
     ·exact .inr <| .inr ⟨M,Z,H0,l,res,h1,h2,h3,h4,h5,h6,h7,h8,h9,h10,hn _ _ h11⟩
    unfold ez at hs ⊢;split at hs
    ·obtain ⟨d,hd,hs⟩:=hs;exact⟨d,hd,call _ _ _ hs⟩
    ·obtain ⟨d,hd,hs⟩:=hs;refine⟨d,hd,?_⟩;split at hs
     ·exact call _ _ _ hs
     ·exact hs.elim
    ·obtain ⟨d,hd,b,key,ct,h1,h2,h3,h4⟩:=hs;refine⟨d,hd,b,key,ct,h1,h2,h3,?_⟩;rcases h4 with ⟨g1,g2⟩ | ⟨g1,g2,g3⟩ | ⟨g1,l,g2,g3⟩
     ·exact .inl ⟨g1,hn _ _ g2⟩
     ·exact .inr (.inl ⟨g1,g2,hn _ _ g3⟩)
     ·exact .inr (.inr ⟨g1,l,g2,hn _ _ g3⟩)
    ·obtain ⟨hd,b,key,ct,id,l,h1,h2,h3,h4,h5,h6⟩:=hs;exact⟨hd,b,key,ct,id,l,h1,h2,h3,h4,h5,hn _ _ h6⟩
    ·split at hs
     ·exact⟨hs.1,hs.2.1,hn _ _ hs.2.2⟩
     ·exact hs.elim
   unfold SD at hs ⊢;split at hs
   ·exact step (fun it s'=>Hv h cs _ _ s') hs
   ·split at hs
    ·exact⟨fun e=>step (fun it s'=>Hv h cs _ _ s') (hs.1 e),fun e=>Hv h cs _ _ _ (hs.2 e)⟩
    ·exact Hv h cs _ _ _ hs
    ·exact hs.elim
theorem nP {P:Program}:∀ (c:C) {Q Q':Exit->AS->Prop} (s:AS),(∀ e s,Q e s->Q' e s)->A0 P c Q s->A0 P c Q' s
 | .skip,Q,Q',s,h,hs=>h _ _ hs
 | .reg cs ks,Q,Q',s,h,hs=>fo (fun s hs=>h _ _ hs) cs s hs
 | .regD cs pl ks,Q,Q',s,h,hs=>Hv (fun s hs=>h _ _ hs) cs 0 [] s hs
 | .seq a b,Q,Q',s,h,hs=>nP a s (fun e s hs=>by
   cases e with
   | normal=>exact nP b s h hs
   | _=>exact h _ _ hs) hs
 | .cond x a b,Q,Q',s,h,hs=>by
   unfold A0 at hs ⊢;split at hs
   ·exact⟨fun e=>nP a s h (hs.1 e),fun e=>nP b s h (hs.2 e)⟩
   ·exact hs.elim
 | .block id b,Q,Q',s,h,hs=>nP b s (fun e s hs=>by
   cases e with
   | exit i =>
     simp only[El] at hs ⊢;split at hs
     ·rename_i e;rw[if_pos e];exact h _ _ hs
     ·rename_i e;rw[if_neg e];exact h _ _ hs
   | _=>exact h _ _ hs) hs
 | .loop b,Q,Q',s,h,hs=>by
   obtain ⟨I,n,s0,h1,h2,h3⟩:=hs
   exact⟨I,n,s0,h1,h2,fun n s hi=>nP b s (fun e s hs=>by
    cases e with
    | normal=>exact hs
    | _=>exact h _ _ hs) (h3 n s hi)⟩
 | .exit id,Q,Q',s,h,hs=>h _ _ hs
 | .ret,Q,Q',s,h,hs=>h _ _ hs
 | .wk b,Q,Q',s,h,⟨s',h1,h2⟩=>⟨s',h1,nP b s' h h2⟩
 | .bad,Q,Q',s,h,hs=>hs.elim
section
variable {P : Program} {X : Ctx}
def agI (X:Ctx) (Q:Exit->AS->Prop):Exit->Act->World->Prop:=fun e a w=>∃ s,Cg X s.den a w/\X.pin=s.pin/\Q e s
theorem WX {ks:List Nat} {f:List Nat->C} {Q:Exit->AS->Prop} {s:AS} (h:A0 P (ZC ks f) Q s):∃ s' ks',Wk s s'/\A0 P (f ks') Q s':=by
 unfold ZC at h;split at h
 ·exact⟨s,_,Wk.refl s,h⟩
 ·split at h
  ·obtain ⟨s',h1,h2⟩:=h;exact⟨s',_,h1,h2⟩
  ·exact⟨s,_,Wk.refl s,h⟩
theorem x3 {ks:Nat->List Nat}:∀ (code:Code) {Q:Exit->AS->Prop} (s:AS) (a:Act) (w:World),Cg X s.den a w->X.pin=s.pin->A0 P (rM P X.n ks code) Q s->code.wp P (agI X Q) a w
 | .skip,Q,s,a,w,h,hpin,hs=>wp_skip ⟨s,h,hpin,hs⟩
 | .region id ops dr,Q,s,a,w,h,hpin,hs=>by
   simp only[rM,ael] at hs;cases dr with
   | true =>
     simp only[if_true] at hs;split at hs
     ·rename_i hcond;split at hs
      ·rename_i cs hcs;obtain ⟨s1,ks',hwk,hs⟩:=WX hs;have h:=hwk.2 X a w hpin h;have hpin:X.pin=s1.pin:=by rw[hpin,hwk.1]
       exact afJ hcond.1 hcond.2 hcs h hpin hs fun s' a' w' hk hp hr=>⟨s'.keep ks',(Wk.keep s' ks').2 X a' w' (by rw[hpin,hp]) hr,by rw[hpin,<- hp];rfl,hk⟩
      ·exact hs.elim
     ·exact hs.elim
   | false =>
     simp only[Bool.false_eq_true,if_false] at hs;split at hs
     ·rename_i cs hcs;obtain ⟨s1,ks',hwk,hs⟩:=WX hs;have h:=hwk.2 X a w hpin h;have hpin:X.pin=s1.pin:=by rw[hpin,hwk.1]
      exact wp_region_list (VA _ cs s1 a w hcs h hpin hs fun s' a' w' hk hp hr=>⟨s'.keep ks',(Wk.keep s' ks').2 X a' w' (by rw[hpin,hp]) hr,by rw[hpin,<- hp];rfl,hk⟩)
     ·exact hs.elim
 | .seq x y,Q,s,a,w,h,hpin,hs=>by
   simp only[rM] at hs;refine wp_seq (wp_mono (x3 x s a w h hpin hs) fun e a' w' hq=>?_);obtain ⟨s',hr,hp,hq⟩:=hq;cases e with
   | normal=>exact x3 y s' a' w' hr hp hq
   | _=>exact⟨s',hr,hp,hq⟩
 | .cond x y z,Q,s,a,w,h,hpin,hs=>by
   simp only[rM] at hs;split at hs
   ·rename_i cx hx;unfold A0 at hs;split at hs
    ·rename_i t ht;obtain ⟨D,φ,F,hrel⟩:=h;have hcv:=cV hx hrel;rw[AS.ev_eq,ht] at hcv;refine wp_cond_split (ff hcv) (fun e=>x3 y s a w ⟨D,φ,F,hrel⟩ hpin (hs.1 e)) (fun e=>x3 z s a w ⟨D,φ,F,hrel⟩ hpin (hs.2 e))
    ·exact hs.elim
   ·exact hs.elim
 | .block id b,Q,s,a,w,h,hpin,hs=>by
   simp only[rM] at hs;refine wp_block (wp_mono (x3 b s a w h hpin hs) fun e a' w' hq=>?_);obtain ⟨s',hr,hp,hq⟩:=hq;cases e with
   | exit i =>
     simp only[Exit.inBlock,El] at hq ⊢;split at hq
     ·rename_i e;rw[if_pos e];exact⟨s',hr,hp,hq⟩
     ·rename_i e;rw[if_neg e];exact⟨s',hr,hp,hq⟩
   | _=>exact⟨s',hr,hp,hq⟩
 | .loop b,Q,s,a,w,h,hpin,hs=>by
   simp only[rM] at hs;obtain ⟨I,n,s0,hw0,hi0,hround⟩:=hs;intro fb k cs
   have key:∀ n s0 a w,Cg X s0.den a w->X.pin=s0.pin->I n s0->∃ e a' w',agI X Q e a' w'/\Arrives P (lone (fb.at a (.code b::.inLoop b::k)) cs w) fb k cs e a' w':=by
    intro n
    induction n using Nat.strongRecOn with
    | _ n ih =>
      intro s0 a w hr hp hi;obtain ⟨e,a1,w1,⟨s1,hr1,hp1,hq1⟩,harr⟩:=x3 b s0 a w hr hp (hround n s0 hi) fb (.inLoop b::k) cs;cases e with
      | normal =>
        obtain ⟨m,s2,hlt,hwk,hi2⟩:=hq1;obtain ⟨e2,a2,w2,hq2,harr2⟩:=ih m hlt s2 a1 w1 (hwk.2 X a1 w1 hp1 hr1) (by rw[hp1,hwk.1]) hi2;exact⟨e2,a2,w2,hq2,.of_steps (Steps.trans harr (.one step_inLoop)) harr2⟩
      | exit id=>exact⟨_,a1,w1,⟨s1,hr1,hp1,hq1⟩,.pass (x:=.inLoop b) rfl (fun _ _=>.inl (by simp)) harr⟩
      | goto l=>exact⟨_,a1,w1,⟨s1,hr1,hp1,hq1⟩,.pass (x:=.inLoop b) rfl (fun _ _=>.inl (by simp)) harr⟩
      | ret=>exact⟨_,a1,w1,⟨s1,hr1,hp1,hq1⟩,.pass (x:=.inLoop b) rfl (fun _ _=>.inl (by simp)) harr⟩
      | panic ch=>exact⟨_,a1,w1,⟨s1,hr1,hp1,hq1⟩,.pass (x:=.inLoop b) rfl (fun _ _=>.inl (by simp)) harr⟩
      | outgrown=>exact⟨_,a1,w1,⟨s1,hr1,hp1,hq1⟩,.pass (x:=.inLoop b) rfl (fun _ _=>.inl (by simp)) harr⟩
   obtain ⟨e,a',w',hq,harr⟩:=key n s0 a w (hw0.2 X a w hpin h) (by rw[hpin,hw0.1]) hi0;exact⟨e,a',w',hq,.of_steps (.one step_loop) harr⟩
 | .exit id,Q,s,a,w,h,hpin,hs=>wp_exit ⟨s,h,hpin,hs⟩
 | .ret,Q,s,a,w,h,hpin,hs=>wp_ret ⟨s,h,hpin,hs⟩
 | .rangeFunc _ _ _ _,Q,s,a,w,h,hpin,hs=>by simp only[rM] at hs;exact hs.elim
 | .scope _,Q,s,a,w,h,hpin,hs=>by simp only[rM] at hs;exact hs.elim
 | .label _,Q,s,a,w,h,hpin,hs=>by simp only[rM] at hs;exact hs.elim
 | .goto _,Q,s,a,w,h,hpin,hs=>by simp only[rM] at hs;exact hs.elim
 | .refuse _,Q,s,a,w,h,hpin,hs=>by simp only[rM] at hs;exact hs.elim
end
inductive RV where
 | tmp (t:Nat)
 | cell (t:Nat) (agg:Bool) (n:Nat)
 deriving Inhabited
def ZP (P:Program):List ResultVar->Option (List RV)
 | []=>some []
 | .tmp t::rs=>(ZP P rs).map (.tmp t::·)
 | .cell t ty::rs=>match Sv P ty,ZP P rs with
   | some (b,n),some rs=>some (.cell t b n::rs)
   | _,_=>none
def jJ (s:AS):List RV->Option (List V)
 | []=>some []
 | .tmp t::rs=>(jJ s rs).map (lk s.sl t::·)
 | .cell t b n::rs=>match vld b n (bB s.hp) (lk s.sl t),jJ s rs with
   | some (_,δ),some vs=>some (δ.v::vs)
   | _,_=>none
def gk:List V->V
 | [v]=>v
 | vs=>.tup vs
def Ret (rs:List RV) (res:V) (e:Exit) (s:AS):Prop :=
 (match e with | .normal=>True | .ret=>True | _=>False)/\∃ vs p ids,jJ s rs=some vs/\gp (bB s.hp) (gk vs)=some (p,res,ids)/\p/\ids.Nodup
section
variable {P : Program} {X : Ctx}
def Xp (tmps:Array Value):ResultVar->Sem Value
 | .tmp t=>pure (tmps.getD t undef)
 | .cell ad t=>do loadVar t (<- asAddr (tmps.getD ad undef))
omit [GI] in
theorem B9 (fn:Func) (tmps:Array Value):results fn tmps=(do let vs <- fn.results.mapM (Xp tmps);pure (if h:vs.size=1 then vs[0] else .tuple vs)):=by
 unfold results;congr 1
theorem HN {s:AS} {a:Act} {w:World} {D:Nat->Prop} {φ:Nat->Option Pl} {F:Nat->List Nat} (h:RelD X s.den a w D φ F []):∀ (rvs:List ResultVar) (rs:List RV) (vs:List V),ZP P rvs=some rs->jJ s rs=some vs ->
  ∃ xs,(rvs.mapM (Xp a.tmps)).run P w=.ok xs w/\cg w D vs φ xs []
 | [],rs,vs,hr,hv=>by
   simp only[ZP,Option.some.injEq] at hr;subst hr;simp only[jJ,Option.some.injEq] at hv;subst hv;exact⟨[],by simp,jO⟩
 | .tmp t::rvs,rs,vs,hr,hv=>by
   simp only[ZP,Option.map_eq_some_iff] at hr;obtain ⟨rs',hr',rfl⟩:=hr;simp only[jJ,Option.map_eq_some_iff] at hv;obtain ⟨vs',hv',rfl⟩:=hv;obtain ⟨xs,h1,h2⟩:=HN h rvs rs' vs' hr' hv';refine⟨a.tmps.getD t undef::xs,?_,?_⟩
   ·simp only[List.mapM_cons,Xp,Sem.run_bind,Sem.run_pure,Result.andThen_ok,h1]
   ·simp only[cg];exact⟨_,xs,[],[],rfl,rfl,h.slots t,h2⟩
 | .cell t ty::rvs,rs,vs,hr,hv=>by
   simp only[ZP] at hr;split at hr<;>simp only[Option.some.injEq,reduceCtorEq] at hr;rename_i b n rs' ht hr';subst hr;simp only[jJ] at hv;split at hv<;>simp only[Option.some.injEq,reduceCtorEq] at hv;rename_i p δ vs' hld hv';subst hv;obtain ⟨xs,h1,h2⟩:=HN h rvs rs' vs' hr' hv';obtain ⟨ad,y,g1,g2,g3,g4⟩:=ZG (P:=P) h ht (h.slots t) hld;refine⟨y::xs,?_,?_⟩
   ·have ha:(asAddr (a.tmps.getD t undef)).run P w=.ok ad w:=by rw[g1];rfl
    have hb:(Xp a.tmps (.cell t ty)).run P w=.ok y w:=by simp only[Xp,Sem.run_bind,ha,Result.andThen_ok,g2]
    simp only[List.mapM_cons,Sem.run_bind,hb,Sem.run_pure,Result.andThen_ok,h1]
   ·simp only[cg];exact⟨_,xs,[],[],rfl,rfl,g4,h2⟩
def AS.init (args:List V):AS:={ sl:=(List.range args.length).zip args,hp:=[],pin:=[] }
omit [GI] in
theorem acg:∀ (args:List V) (k t:Nat),lk ((List.range' k args.length).zip args) t=if k<=t then (args[t - k]?).getD .undef else .undef
 | [],k,t=>by simp[lk]
 | v::vs,k,t=>by
   simp only[List.length_cons,List.range'_succ,List.zip_cons_cons,lk];rw[acg vs (k+1) t];by_cases e:t=k
   ·subst e;simp
   ·rw[if_neg e];by_cases hle:k<=t
    ·rw[if_pos (by omega),if_pos hle];obtain ⟨m,rfl⟩:∃ m,t=k+(m+1):=⟨t - k - 1,by omega⟩;rw[show k+(m+1) - k=m+1 from by omega,show k+(m+1) - (k+1)=m from by omega];simp
    ·rw[if_neg (by omega),if_neg hle]
omit [GI] in
theorem AS.lk_init (args:List V) (t:Nat):lk (AS.init args).sl t=(args[t]?).getD .undef:=by
 simp only[AS.init,List.range_eq_range'];rw[acg];simp
mutual
def KK:V->V->Prop
 | .v x,.own _ es=>x=.slice none 0 0/\es=[]
 | .v x,.ro _ es=>x=.slice none 0 0/\es=[]
 | .tup as_,.tup bs=>pN as_ bs
 | .agg as_,.agg bs=>pN as_ bs
 | .ro _ _,.undef=>True
 | a,b=>a=b
def pN:List V->List V->Prop
 | [],[]=>True
 | a::as_,b::bs=>KK a b/\pN as_ bs
 | _,_=>False
end
omit [GI] in
mutual
theorem Yp {w:World} {D:Nat->Prop} {φ:Nat->Option Pl}:∀ (a b:V) (x:Value) (f:List Nat),KK a b->CV w D a φ x f->CV w D b φ x f
 | a,b,x,f,h,hx=>by
   unfold KK at h;split at h
   ·simp only[CV] at hx ⊢;exact .inl ⟨h.2,hx.1.trans h.1,hx.2.2⟩
   ·simp only[CV] at hx ⊢;exact⟨hx.2.2,.inl ⟨h.2,none,0,hx.1.trans h.1,Nat.zero_le _⟩⟩
   ·simp only[CV] at hx ⊢;obtain ⟨xs,rfl,hx⟩:=hx;exact⟨xs,rfl,UX _ _ _ _ h hx⟩
   ·simp only[CV] at hx ⊢;obtain ⟨xs,rfl,hx⟩:=hx;exact⟨xs,rfl,UX _ _ _ _ h hx⟩
   ·simp only[CV] at hx ⊢;exact hx.1
   ·rw[<- h];exact hx
theorem UX {w:World} {D:Nat->Prop} {φ:Nat->Option Pl}:∀ (as_ bs:List V) (xs:List Value) (f:List Nat),pN as_ bs->cg w D as_ φ xs f->cg w D bs φ xs f
 | [],[],xs,f,_,hx=>hx
 | a::as_,b::bs,xs,f,h,hx=>by
   simp only[pN] at h;simp only[cg] at hx ⊢;obtain ⟨x,xs',f1,f2,rfl,rfl,h1,h2⟩:=hx;exact⟨x,xs',f1,f2,rfl,rfl,Yp a b x f1 h.1 h1,UX as_ bs xs' f2 h.2 h2⟩
 | [],_::_,_,_,h,_=>by simp[pN] at h
 | _::_,[],_,_,h,_=>by simp[pN] at h
end
def VG (rs:List RV) (res:V) (e:Exit) (s:AS):Prop :=
 (match e with | .normal=>True | .ret=>True | _=>False)/\∃ vs p r ids,jJ s rs=some vs/\gp (bB s.hp) (gk vs)=some (p,r,ids)/\p/\ids.Nodup/\KK r res
theorem aa.introL {f:Nat} {fn:Func} {code:Code} {c:C} {rs:List RV} {ks:Nat->List Nat} {args:List V} {res:V} (hf:P.funcs[f]?=some fn) (hb:fn.body=some code) (hname:(fn.name != "runtime.NumGoroutine")=true)
  (hc:rM P fn.ntmps ks code=c) (hr:ZP P fn.results.toList=some rs) (hlen:args.length<=fn.ntmps) (h:A0 P c (VG rs res) (AS.init args)):aa P f args res:=by
 refine⟨by simp[dk,hf,hb,hname],fun w D xs hD hgi hxs=>?_⟩;have hl:=cO hxs
 let X:Ctx:={ w0:=w,W:=[],D0:=D,φ0:=fun _=>none,pin:=[],n:=fn.ntmps }
 have hrel:RelD X (AS.init args).den { tmps:=xs.toArray++Array.replicate (fn.ntmps - xs.toArray.size) undef,defers:=[] } w D (fun _=>none) (fun _=>[]) []:=by
  refine⟨rfl,rfl,rfl,Nat.le_refl _,fun _ _ _=>rfl,fun _ h=>h,fun _ h=>.inl h,hD,rfl,?_,fun t=>?_,fun id blk hb=>?_,fun _ _=>rfl,fun _=>List.nodup_nil,fun _ _ _ _ h=>absurd h List.not_mem_nil,fun _ _ h=>absurd h List.not_mem_nil,fun _ h=>absurd h List.not_mem_nil,List.nodup_nil,fun _ _ h=>absurd h List.not_mem_nil,fun _ h=>absurd h List.not_mem_nil,hgi⟩
  ·show (xs.toArray++Array.replicate (fn.ntmps - xs.toArray.size) undef).size=fn.ntmps;simp;omega
  ·show CV w D (lk (AS.init args).sl t) _ _ [];rw[AS.lk_init];cases ht:args[t]? with
   | none=>simp[CV]
   | some v =>
     obtain ⟨x,f',g1,g2,g3⟩:=uO hxs ht;have:=gm g3;subst this;simp only[Option.getD_some];have hlt:t < xs.length:=(List.getElem?_eq_some_iff.1 g1).1
     have:(xs.toArray++Array.replicate (fn.ntmps - xs.toArray.size) undef).getD t undef=x:=by
      rw[Array.getD_eq_getD_getElem?,Array.getElem?_append_left (by simpa using hlt)];simp[g1]
     rw[this];exact g2
  ·simp[AS.init,AS.den,bB] at hb
 refine calls_of_wp hf hb ?_;refine wp_mono (x3 (X:=X) (ks:=ks) code (AS.init args) _ w ⟨D,_,_,hrel⟩ rfl (by rw[hc];exact h)) fun e a w' hq=>?_;obtain ⟨s',⟨D',φ',F',hrel'⟩,_,hexit,vs,p,r,ids,h1,h2,h3,h4,hle⟩:=hq;obtain ⟨ys,hrun,hcv⟩:=HN (P:=P) hrel' fn.results.toList rs vs hr h1
 have hres:(results fn a.tmps).run P w'=.ok (if h:ys.toArray.size=1 then ys.toArray[0] else .tuple ys.toArray) w':=by
  rw[B9,Array.mapM_eq_mapM_toList];simp only[Sem.run_bind,Sem.run_map,hrun,Result.andThen_ok,Sem.run_pure]
 have hcv1:CV w' D' (gk vs) φ' (if h:ys.toArray.size=1 then ys.toArray[0] else .tuple ys.toArray) []:=by
  have hl':=cO hcv
  match vs,ys,hcv,hl' with
  | [v],[y],hcv,_ =>
    simp only[cg] at hcv;obtain ⟨x,xs',f1,f2,e,hf,g1,_⟩:=hcv;have hf:=List.append_eq_nil_iff.1 hf.symm;obtain ⟨rfl,rfl⟩:=hf;cases e;simpa [gk] using g1
  | [],[],hcv,_=>simp only[gk,CV];exact⟨#[],by simp,jO⟩
  | v1::v2::vs,y1::y2::ys,hcv,_ =>
    simp only[gk,CV];exact⟨(y1::y2::ys).toArray,by simp,by simpa using hcv⟩
 have hgive:=Yp _ _ _ _ hle (HD (F:=F') hrel'.blks (gk vs) _ p r ids h2 h3 hcv1)
 have done:a.defers=[]/\∃ v,(results fn a.tmps).run P w'=.ok v w'/\∃ y D'' fp,Ending.returned v=.returned y/\Grow w D [] w' D''/\CV w' D'' res (fun _=>none) y fp/\fp.Nodup/\∀ b,b ∈ fp->w.heap.size<=b/\b < w'.heap.size/\¬D'' b:=by
  refine⟨hrel'.defers,_,hres,_,D',_,rfl,⟨hrel'.os,hrel'.tape,hrel'.output,hrel'.size,fun b hb _=>hrel'.old b hb (by simp[X]),hrel'.Dup,hrel'.Ddn,hrel'.Dlt⟩,hgive,cG hrel' ids h4,fun b hb=>?_⟩;obtain ⟨i,_,hi⟩:=List.mem_flatMap.1 hb;have:=hrel'.notD i b hi;exact⟨this.2.2.resolve_right (by simp[X]),this.2.1,this.1⟩
 cases e with
 | normal=>exact done
 | ret=>exact done
 | _=>exact hexit.elim
omit [GI] in
theorem ab5 (a:V):KK a a:=by
 induction a using V.rec (motive_2:=fun l=>pN l l) with
 | undef | v _ | ref _ _ _ | sl _ _ _ | rp _ _ _ _ | ro _ _ | own _ _ | clo _ _=>simp[KK]
 | agg _ h=>simpa [KK] using h
 | tup _ h=>simpa [KK] using h
 | nil=>simp[pN]
 | cons a l h1 h2=>exact⟨h1,h2⟩
theorem aa.intro {f:Nat} {fn:Func} {code:Code} {c:C} {rs:List RV} {ks:Nat->List Nat} {args:List V} {res:V} (hf:P.funcs[f]?=some fn) (hb:fn.body=some code) (hname:(fn.name != "runtime.NumGoroutine")=true)
  (hc:rM P fn.ntmps ks code=c) (hr:ZP P fn.results.toList=some rs) (hlen:args.length<=fn.ntmps) (h:A0 P c (Ret rs res) (AS.init args)):aa P f args res :=
 aa.introL hf hb hname hc hr hlen (nP c _ (fun e s ⟨h0,vs,p,ids,h1,h2,h3,h4⟩=>⟨h0,vs,p,res,ids,h1,h2,h3,h4,ab5 res⟩) h)
def hpM:Nat->List Blk->List (Nat×Blk)
 | _,[]=>[]
 | k,b::l=>(gL k,b)::hpM (k+1) l
def AS.minit (args:List V) (H0:List Blk) (H1:List (Option Blk)):AS:={ sl:=(List.range args.length).zip args,hp:=hpM 0 H0,pin:=(dX H1 0).map gL }
omit [GI] in
theorem QB:∀ (l:List Blk) (k id:Nat) (blk:Blk),bB (hpM k l) id=some blk->∃ j,id=gL (k+j)/\l[j]?=some blk
 | [],k,id,blk,h=>by simp[hpM,bB] at h
 | b::l,k,id,blk,h=>by
   simp only[hpM,bB] at h;split at h
   ·rename_i e;simp only[Option.some.injEq] at h;subst h;exact⟨0,e,rfl⟩
   ·obtain ⟨j,h1,h2⟩:=QB l (k+1) id blk h;exact⟨j+1,by rw[h1];congr 1;omega,by simpa using h2⟩
omit [GI] in
theorem rQ:∀ (l:List Blk) (k id:Nat),bB (hpM k l) id=none->∀ j,j < l.length->id≠gL (k+j)
 | [],k,id,h,j,hj=>by simp at hj
 | b::l,k,id,h,j,hj=>by
   simp only[hpM,bB] at h;split at h
   ·cases h
   ·rename_i e;cases j with
    | zero=>exact e
    | succ j =>
      have:=rQ l (k+1) id h j (by simpa using hj);rw[show k+(j+1)=k+1+j from by omega];exact this
def Ca (look:Nat->Option Blk):List (Option Blk)->Nat->Prop
 | [],_=>True
 | some b::l,k=>look (gL k)=some b/\aC b.es=true/\Ca look l (k+1)
 | none::l,k=>Ca look l (k+1)
omit [GI] in
theorem Hm {look:Nat->Option Blk}:∀ (l:List (Option Blk)) (k j:Nat) (b:Blk),Ca look l k->l[j]?=some (some b)->look (gL (k+j))=some b/\aC b.es=true
 | [],k,j,b,_,h=>by simp at h
 | o::l,k,0,b,h,hj=>by
   simp only[List.getElem?_cons_zero,Option.some.injEq] at hj;subst hj;exact⟨h.1,h.2.1⟩
 | some c::l,k,j+1,b,h,hj=>by
   have:=Hm l (k+1) j b h.2.2 (by simpa using hj);rw[show k+(j+1)=k+1+j from by omega];exact this
 | none::l,k,j+1,b,h,hj=>by
   have:=Hm l (k+1) j b h (by simpa using hj);rw[show k+(j+1)=k+1+j from by omega];exact this
def VD (rs:List RV) (res:V) (H1:List (Option Blk)) (e:Exit) (s:AS):Prop :=
 (match e with | .normal=>True | .ret=>True | _=>False)/\∃ vs p ids,jJ s rs=some vs/\gp (bB s.hp) (gk vs)=some (p,res,ids)/\p/\(ids++(dX H1 0).map gL).Nodup/\Ca (bB s.hp) H1 0
omit [GI] in
theorem Bc {F0:Nat->List Nat}:∀ (l:List Nat),l.Nodup->(l.flatMap F0).Nodup->(∀ k,k ∈ l->(F0 k).Nodup)/\∀ k j,k ∈ l->j ∈ l->k≠j->∀ b,b ∈ F0 k->b ∉ F0 j
 | [],_,_=>⟨fun _ hk=>absurd hk List.not_mem_nil,fun _ _ hk=>absurd hk List.not_mem_nil⟩
 | m::l,hnd,hfl=>by
   rw[List.nodup_cons] at hnd;rw[List.flatMap_cons,List.nodup_append] at hfl;obtain ⟨g1,g2⟩:=Bc l hnd.2 hfl.2.1;refine⟨fun k hk=>?_,fun k j hk hj hne b hb hb'=>?_⟩
   ·rcases List.mem_cons.1 hk with rfl | hk
    ·exact hfl.1
    ·exact g1 k hk
   ·rcases List.mem_cons.1 hk with ek | hk1
    ·rcases List.mem_cons.1 hj with ej | hj1
     ·exact hne (ek.trans ej.symm)
     ·exact hfl.2.2 b (ek▸hb) b (List.mem_flatMap.2 ⟨j,hj1,hb'⟩) rfl
    ·rcases List.mem_cons.1 hj with ej | hj1
     ·exact hfl.2.2 b (ej▸hb') b (List.mem_flatMap.2 ⟨k,hk1,hb⟩) rfl
     ·exact g2 k j hk1 hj1 hne b hb hb'
theorem ac.intro {f:Nat} {fn:Func} {code:Code} {c:C} {rs:List RV} {ks:Nat->List Nat} {args:List V} {res:V} {H0:List Blk} {H1:List (Option Blk)} (hf:P.funcs[f]?=some fn) (hb:fn.body=some code) (hname:(fn.name != "runtime.NumGoroutine")=true)
  (hc:rM P fn.ntmps ks code=c) (hr:ZP P fn.results.toList=some rs) (hlen:args.length<=fn.ntmps) (hl1:H1.length=H0.length) (hn0:∀ blk ∈ H0,aC blk.es=true) (h:A0 P c (VD rs res H1) (AS.minit args H0 H1)):ac P f H0 args res H1:=by
 refine⟨by simp[dk,hf,hb,hname],hl1,fun w D xs p0 F0 hD hgi hblk hnd hnD hxs=>?_⟩;have hl:=cO hxs
 let X:Ctx:={ w0:=w,W:=(List.range H0.length).flatMap F0,D0:=D,φ0:=BF H0.length p0,pin:=(dX H1 0).map gL,n:=fn.ntmps }
 have inW:∀ id b,b ∈ Tw H0.length F0 id->b ∈ (List.range H0.length).flatMap F0:=fun id b hb=>by
  unfold Tw at hb;split at hb
  ·exact List.mem_flatMap.2 ⟨_,List.mem_range.2 (by omega),hb⟩
  ·cases hb
 obtain ⟨fp1,fp2⟩:=Bc (List.range H0.length) List.nodup_range hnd
 have hrel:RelD X (AS.minit args H0 H1).den { tmps:=xs.toArray++Array.replicate (fn.ntmps - xs.toArray.size) undef,defers:=[] } w D (BF H0.length p0) (Tw H0.length F0) []:=by
  refine⟨rfl,rfl,rfl,Nat.le_refl _,fun _ _ _=>rfl,fun _ h=>h,fun _ h=>.inl h,hD,rfl,?_,fun t=>?_,fun id blk hbl=>?_,fun id hid=>?_,fun id=>?_,fun i j hij b hbi hbj=>?_,fun id b hbm=>?_,fun _ _=>rfl,List.nodup_nil,fun _ _ _ h=>absurd h List.not_mem_nil,fun _ h=>absurd h List.not_mem_nil,hgi⟩
  ·show (xs.toArray++Array.replicate (fn.ntmps - xs.toArray.size) undef).size=fn.ntmps;simp;omega
  ·show CV w D (lk (AS.init args).sl t) _ _ [];rw[AS.lk_init];cases ht:args[t]? with
   | none=>simp[CV]
   | some v =>
     obtain ⟨x,f',g1,g2,g3⟩:=uO hxs ht;have:=gm g3;subst this;simp only[Option.getD_some];have hlt:t < xs.length:=(List.getElem?_eq_some_iff.1 g1).1
     have:(xs.toArray++Array.replicate (fn.ntmps - xs.toArray.size) undef).getD t undef=x:=by
      rw[Array.getD_eq_getD_getElem?,Array.getElem?_append_left (by simpa using hlt)];simp[g1]
     rw[this];exact g2
  ·obtain ⟨j,rfl,hj⟩:=QB H0 0 id blk hbl;rw[Nat.zero_add];have hlt:=(List.getElem?_eq_some_iff.1 hj).1;rw[Us F0 hlt];exact jt (φ:=fun _=>p0 j) (id:=0) (hn0 blk (List.mem_iff_getElem?.2 ⟨j,hj⟩)) (mY p0 hlt) (hblk j blk hj)
  ·unfold Tw;split
   ·rename_i hin;have:=rQ H0 0 id hid (id - 1000000) (by omega);exact absurd (by unfold gL;omega) this
   ·rfl
  ·unfold Tw;split
   ·exact fp1 _ (List.mem_range.2 (by omega))
   ·exact List.nodup_nil
  ·unfold Tw at hbi hbj;split at hbi
   ·split at hbj
    ·exact fp2 _ _ (List.mem_range.2 (by omega)) (List.mem_range.2 (by omega)) (by omega) b hbi hbj
    ·cases hbj
   ·cases hbi
  ·have:=hnD b (inW id b hbm);exact⟨this.1,this.2,.inr (inW id b hbm)⟩
 refine calls_of_wp hf hb ?_;refine wp_mono (x3 (X:=X) (ks:=ks) code (AS.minit args H0 H1) _ w ⟨D,_,_,hrel⟩ rfl (by rw[hc];exact h)) fun e a w' hq=>?_;obtain ⟨s',⟨D',φ',F',hrel'⟩,_,hexit,vs,p,ids,h1,h2,h3,h4,h5⟩:=hq;obtain ⟨ys,hrun,hcv⟩:=HN (P:=P) hrel' fn.results.toList rs vs hr h1
 have hres:(results fn a.tmps).run P w'=.ok (if h:ys.toArray.size=1 then ys.toArray[0] else .tuple ys.toArray) w':=by
  rw[B9,Array.mapM_eq_mapM_toList];simp only[Sem.run_bind,Sem.run_map,hrun,Result.andThen_ok,Sem.run_pure]
 have hcv1:CV w' D' (gk vs) φ' (if h:ys.toArray.size=1 then ys.toArray[0] else .tuple ys.toArray) []:=by
  have hl':=cO hcv
  match vs,ys,hcv,hl' with
  | [v],[y],hcv,_ =>
    simp only[cg] at hcv;obtain ⟨x,xs',f1,f2,e,hf,g1,_⟩:=hcv;have hf:=List.append_eq_nil_iff.1 hf.symm;obtain ⟨rfl,rfl⟩:=hf;cases e;simpa [gk] using g1
  | [],[],hcv,_=>simp only[gk,CV];exact⟨#[],by simp,jO⟩
  | v1::v2::vs,y1::y2::ys,hcv,_ =>
    simp only[gk,CV];exact⟨(y1::y2::ys).toArray,by simp,by simpa using hcv⟩
 have hgive:=HD (F:=F') hrel'.blks (gk vs) _ p res ids h2 h3 hcv1;have hflat:(dX H1 0).flatMap (fun k=>F' (gL k))=((dX H1 0).map gL).flatMap F':=by rw[List.flatMap_map]
 have done:a.defers=[]/\∃ v,(results fn a.tmps).run P w'=.ok v w'/\∃ y D'' fp F1,Ending.returned v=.returned y/\Grow w D ((List.range H0.length).flatMap F0) w' D''/\CV w' D'' res (fun _=>none) y fp /\
   (∀ (k:Nat) (blk:Blk),H1[k]?=some (some blk)->cM w' D'' (fun _=>p0 k) 0 blk (F1 k))/\(fp++(dX H1 0).flatMap F1).Nodup /\
   ∀ b,b ∈ fp++(dX H1 0).flatMap F1->(w.heap.size<=b\/b ∈ (List.range H0.length).flatMap F0)/\b < w'.heap.size/\¬D'' b:=by
  refine⟨hrel'.defers,_,hres,_,D',ids.flatMap F',fun k=>F' (gL k),rfl,⟨hrel'.os,hrel'.tape,hrel'.output,hrel'.size,fun b hb hW=>hrel'.old b hb hW,hrel'.Dup,hrel'.Ddn,hrel'.Dlt⟩,hgive,fun k blk hk=>?_,?_,fun b hb=>?_⟩
  ·obtain ⟨g1,g2⟩:=Hm H1 0 k blk h5 hk;rw[Nat.zero_add] at g1;have hpin:gL k ∈ X.pin:=List.mem_map.2 ⟨k,(sC H1 0 k).2 ⟨Nat.zero_le _,blk,by simpa using hk⟩,rfl⟩;have hlt:k < H0.length:=by rw[<- hl1];exact(List.getElem?_eq_some_iff.1 hk).1
   have hp:=hrel'.pins (gL k) hpin;exact jt (φ:=φ') (id:=gL k) g2 (by rw[hp];exact(mY p0 hlt).symm) (hrel'.blks (gL k) blk g1)
  ·rw[hflat,<- List.flatMap_append];exact cG hrel' _ h4
  ·rw[hflat,<- List.flatMap_append] at hb;obtain ⟨i,_,hi⟩:=List.mem_flatMap.1 hb;have:=hrel'.notD i b hi;exact⟨this.2.2,this.2.1,this.1⟩
 cases e with
 | normal=>exact done
 | ret=>exact done
 | _=>exact hexit.elim
def CE (look:Nat->Option Blk):Nat->Nat->Option (List Blk)
 | _,0=>some []
 | k,n+1=>match look (gL k),CE look (k+1) n with
   | some b,some l=>some (b::l)
   | _,_=>none
omit [GI] in
theorem Oj {look:Nat->Option Blk}:∀ {n k:Nat} {l:List Blk},CE look k n=some l->l.length=n/\∀ (j:Nat) (b:Blk),l[j]?=some b->look (gL (k+j))=some b
 | 0,k,l,h=>by simp only[CE,Option.some.injEq] at h;subst h;exact⟨rfl,by simp⟩
 | n+1,k,l,h=>by
   unfold CE at h;split at h
   ·rename_i b l' h1 h2;simp only[Option.some.injEq] at h;subst h;obtain ⟨g1,g2⟩:=Oj h2;refine⟨by simp[g1],fun j c hj=>?_⟩;cases j with
    | zero=>simp at hj;subst hj;exact h1
    | succ j =>
      have:=g2 j c (by simpa using hj);rw[show k+(j+1)=k+1+j from by omega];exact this
   ·cases h
def OJ (rs:List RV) (R:V->List Blk->Prop) (N:Nat) (e:Exit) (s:AS):Prop :=
 (match e with | .normal=>True | .ret=>True | _=>False)/\∃ vs p res ids l,jJ s rs=some vs/\gp (bB s.hp) (gk vs)=some (p,res,ids)/\p/\(ids++(List.range N).map gL).Nodup/\CE (bB s.hp) 0 N=some l/\(l.all fun b=>aC b.es)=true/\R res l
theorem qp.intro {f:Nat} {fn:Func} {code:Code} {c:C} {rs:List RV} {ks:Nat->List Nat} {args:List V} {H0:List Blk} {R:V->List Blk->Prop} (hf:P.funcs[f]?=some fn) (hb:fn.body=some code) (hname:(fn.name != "runtime.NumGoroutine")=true)
  (hc:rM P fn.ntmps ks code=c) (hr:ZP P fn.results.toList=some rs) (hlen:args.length<=fn.ntmps) (hn0:∀ blk ∈ H0,aC blk.es=true) (h:A0 P c (OJ rs R H0.length) (AS.minit args H0 (H0.map some))):qp P f H0 args R:=by
 refine⟨by simp[dk,hf,hb,hname],fun w D xs p0 F0 hD hgi hblk hnd hnD hxs=>?_⟩;have hl:=cO hxs;have hst:dX (H0.map some) 0=List.range H0.length:=by rw[uG,List.range_eq_range']
 let X:Ctx:={ w0:=w,W:=(List.range H0.length).flatMap F0,D0:=D,φ0:=BF H0.length p0,pin:=(dX (H0.map some) 0).map gL,n:=fn.ntmps }
 have inW:∀ id b,b ∈ Tw H0.length F0 id->b ∈ (List.range H0.length).flatMap F0:=fun id b hb=>by
  unfold Tw at hb;split at hb
  ·exact List.mem_flatMap.2 ⟨_,List.mem_range.2 (by omega),hb⟩
  ·cases hb
 obtain ⟨fp1,fp2⟩:=Bc (List.range H0.length) List.nodup_range hnd
 have hrel:RelD X (AS.minit args H0 (H0.map some)).den { tmps:=xs.toArray++Array.replicate (fn.ntmps - xs.toArray.size) undef,defers:=[] } w D (BF H0.length p0) (Tw H0.length F0) []:=by
  refine⟨rfl,rfl,rfl,Nat.le_refl _,fun _ _ _=>rfl,fun _ h=>h,fun _ h=>.inl h,hD,rfl,?_,fun t=>?_,fun id blk hbl=>?_,fun id hid=>?_,fun id=>?_,fun i j hij b hbi hbj=>?_,fun id b hbm=>?_,fun _ _=>rfl,List.nodup_nil,fun _ _ _ h=>absurd h List.not_mem_nil,fun _ h=>absurd h List.not_mem_nil,hgi⟩
  ·show (xs.toArray++Array.replicate (fn.ntmps - xs.toArray.size) undef).size=fn.ntmps;simp;omega
  ·show CV w D (lk (AS.init args).sl t) _ _ [];rw[AS.lk_init];cases ht:args[t]? with
   | none=>simp[CV]
   | some v =>
     obtain ⟨x,f',g1,g2,g3⟩:=uO hxs ht;have:=gm g3;subst this;simp only[Option.getD_some];have hlt:t < xs.length:=(List.getElem?_eq_some_iff.1 g1).1
     have:(xs.toArray++Array.replicate (fn.ntmps - xs.toArray.size) undef).getD t undef=x:=by
      rw[Array.getD_eq_getD_getElem?,Array.getElem?_append_left (by simpa using hlt)];simp[g1]
     rw[this];exact g2
  ·obtain ⟨j,rfl,hj⟩:=QB H0 0 id blk hbl;rw[Nat.zero_add];have hlt:=(List.getElem?_eq_some_iff.1 hj).1;rw[Us F0 hlt];exact jt (φ:=fun _=>p0 j) (id:=0) (hn0 blk (List.mem_iff_getElem?.2 ⟨j,hj⟩)) (mY p0 hlt) (hblk j blk hj)
  ·unfold Tw;split
   ·rename_i hin;have:=rQ H0 0 id hid (id - 1000000) (by omega);exact absurd (by unfold gL;omega) this
   ·rfl
  ·unfold Tw;split
   ·exact fp1 _ (List.mem_range.2 (by omega))
   ·exact List.nodup_nil
  ·unfold Tw at hbi hbj;split at hbi
   ·split at hbj
    ·exact fp2 _ _ (List.mem_range.2 (by omega)) (List.mem_range.2 (by omega)) (by omega) b hbi hbj
    ·cases hbj
   ·cases hbi
  ·have:=hnD b (inW id b hbm);exact⟨this.1,this.2,.inr (inW id b hbm)⟩
 refine calls_of_wp hf hb ?_;refine wp_mono (x3 (X:=X) (ks:=ks) code (AS.minit args H0 (H0.map some)) _ w ⟨D,_,_,hrel⟩ rfl (by rw[hc];exact h)) fun e a w' hq=>?_;obtain ⟨s',⟨D',φ',F',hrel'⟩,_,hexit,vs,p,res,ids,l,h1,h2,h3,h4,hlk,hni,hR⟩:=hq;obtain ⟨hll,hget⟩:=Oj hlk;obtain ⟨ys,hrun,hcv⟩:=HN (P:=P) hrel' fn.results.toList rs vs hr h1
 have hres:(results fn a.tmps).run P w'=.ok (if h:ys.toArray.size=1 then ys.toArray[0] else .tuple ys.toArray) w':=by
  rw[B9,Array.mapM_eq_mapM_toList];simp only[Sem.run_bind,Sem.run_map,hrun,Result.andThen_ok,Sem.run_pure]
 have hcv1:CV w' D' (gk vs) φ' (if h:ys.toArray.size=1 then ys.toArray[0] else .tuple ys.toArray) []:=by
  have hl':=cO hcv
  match vs,ys,hcv,hl' with
  | [v],[y],hcv,_ =>
    simp only[cg] at hcv;obtain ⟨x,xs',f1,f2,e,hf,g1,_⟩:=hcv;have hf:=List.append_eq_nil_iff.1 hf.symm;obtain ⟨rfl,rfl⟩:=hf;cases e;simpa [gk] using g1
  | [],[],hcv,_=>simp only[gk,CV];exact⟨#[],by simp,jO⟩
  | v1::v2::vs,y1::y2::ys,hcv,_ =>
    simp only[gk,CV];exact⟨(y1::y2::ys).toArray,by simp,by simpa using hcv⟩
 have hgive:=HD (F:=F') hrel'.blks (gk vs) _ p res ids h2 h3 hcv1;have hflat:(List.range H0.length).flatMap (fun k=>F' (gL k))=((List.range H0.length).map gL).flatMap F':=by rw[List.flatMap_map]
 have done:a.defers=[]/\∃ v,(results fn a.tmps).run P w'=.ok v w'/\∃ res l,R res l/\l.length=H0.length/\∃ y D'' fp F1,Ending.returned v=.returned y/\Grow w D ((List.range H0.length).flatMap F0) w' D''/\CV w' D'' res (fun _=>none) y fp /\
   (∀ (k:Nat) (blk:Blk),l[k]?=some blk->cM w' D'' (fun _=>p0 k) 0 blk (F1 k))/\(fp++(List.range H0.length).flatMap F1).Nodup /\
   ∀ b,b ∈ fp++(List.range H0.length).flatMap F1->(w.heap.size<=b\/b ∈ (List.range H0.length).flatMap F0)/\b < w'.heap.size/\¬D'' b:=by
  refine⟨hrel'.defers,_,hres,res,l,hR,hll,_,D',ids.flatMap F',fun k=>F' (gL k),rfl,⟨hrel'.os,hrel'.tape,hrel'.output,hrel'.size,fun b hb hW=>hrel'.old b hb hW,hrel'.Dup,hrel'.Ddn,hrel'.Dlt⟩,hgive,fun k blk hk=>?_,?_,fun b hb=>?_⟩
  ·have g1:=hget k blk hk;rw[Nat.zero_add] at g1;have hlt:k < H0.length:=by rw[<- hll];exact(List.getElem?_eq_some_iff.1 hk).1
   have hpin:gL k ∈ X.pin:=List.mem_map.2 ⟨k,by rw[hst];exact List.mem_range.2 hlt,rfl⟩;have hp:=hrel'.pins (gL k) hpin;exact jt (φ:=φ') (id:=gL k) (List.all_eq_true.1 hni blk (List.mem_iff_getElem?.2 ⟨k,hk⟩)) (by rw[hp];exact(mY p0 hlt).symm) (hrel'.blks (gL k) blk g1)
  ·rw[hflat,<- List.flatMap_append];exact cG hrel' _ h4
  ·rw[hflat,<- List.flatMap_append] at hb;obtain ⟨i,_,hi⟩:=List.mem_flatMap.1 hb;have:=hrel'.notD i b hi;exact⟨this.2.2,this.2.1,this.1⟩
 cases e with
 | normal=>exact done
 | ret=>exact done
 | _=>exact hexit.elim
def FnC (P:Program) (f:Nat) (c:C) (rs:List RV) (n:Nat):Prop :=
 ∃ fn code ks,P.funcs[f]?=some fn/\fn.body=some code/\(fn.name != "runtime.NumGoroutine")=true/\rM P fn.ntmps ks code=c/\ZP P fn.results.toList=some rs/\fn.ntmps=n
theorem aa.of {f:Nat} {c:C} {rs:List RV} {n:Nat} {args:List V} {res:V} (hf:FnC P f c rs n) (hlen:args.length<=n) (h:A0 P c (Ret rs res) (AS.init args)):aa P f args res:=by
 obtain ⟨fn,code,ks,h1,h2,h3,h4,h5,h6⟩:=hf;exact aa.intro h1 h2 h3 h4 h5 (by rw[h6];exact hlen) h
theorem aa.ofN {f:Nat} {c:C} {rs:List RV} {n:Nat} {args:List V} {res:V} (hf:FnC P f c rs n) (hlen:args.length<=n) (h:A0 P c (VG rs res) (AS.init args)):aa P f args res:=by
 obtain ⟨fn,code,ks,h1,h2,h3,h4,h5,h6⟩:=hf;exact aa.introL h1 h2 h3 h4 h5 (by rw[h6];exact hlen) h
theorem qp.of {f:Nat} {c:C} {rs:List RV} {n:Nat} {args:List V} {H0:List Blk} {R:V->List Blk->Prop} (hf:FnC P f c rs n) (hlen:args.length<=n) (hn0:∀ blk ∈ H0,aC blk.es=true)
  (h:A0 P c (OJ rs R H0.length) (AS.minit args H0 (H0.map some))):qp P f H0 args R:=by
 obtain ⟨fn,code,ks,h1,h2,h3,h4,h5,h6⟩:=hf;exact qp.intro h1 h2 h3 h4 h5 (by rw[h6];exact hlen) hn0 h
theorem ac.of {f:Nat} {c:C} {rs:List RV} {n:Nat} {args:List V} {res:V} {H0:List Blk} {H1:List (Option Blk)} (hf:FnC P f c rs n) (hlen:args.length<=n) (hl1:H1.length=H0.length) (hn0:∀ blk ∈ H0,aC blk.es=true)
  (h:A0 P c (VD rs res H1) (AS.minit args H0 H1)):ac P f H0 args res H1:=by
 obtain ⟨fn,code,ks,h1,h2,h3,h4,h5,h6⟩:=hf;exact ac.intro h1 h2 h3 h4 h5 (by rw[h6];exact hlen) hl1 hn0 h
end
end Go.Abs
namespace Go.Abs
variable [GI]
section
variable {P : Program}
def S6 (q N id:Nat):Nat:=if id=q then gL N else id
def Fa (q:Option Nat) (N:Nat) (vs:List V):Prop:=∀ id,a7 id vs=true->(1000000<=id/\id < 1000000+N)\/some id=q
def X0 (rs:List RV) (R:V->List Blk->Option Blk->Prop) (N:Nat) (e:Exit) (s:AS):Prop :=
 (match e with | .normal=>True | .ret=>True | _=>False)/\∃ vs l,jJ s rs=some vs/\CE (bB s.hp) 0 N=some l /\
  ((Fa none N vs/\(∀ b ∈ l,Fa none N b.es)/\R (gk vs) l none) \/
   ∃ q blk,bB s.hp q=some blk/\q < 1000000/\Fa (some q) N vs/\(∀ b ∈ l,Fa (some q) N b.es)/\Fa none N blk.es/\R (Ki (S6 q N) (gk vs)) (l.map (xj (S6 q N))) (some (xj (S6 q N) blk)))
theorem Cf.intro {f:Nat} {fn:Func} {code:Code} {c:C} {rs:List RV} {ks:Nat->List Nat} {args:List V} {H0:List Blk} {R:V->List Blk->Option Blk->Prop} (hf:P.funcs[f]?=some fn) (hb:fn.body=some code) (hname:(fn.name != "runtime.NumGoroutine")=true)
  (hc:rM P fn.ntmps ks code=c) (hr:ZP P fn.results.toList=some rs) (hlen:args.length<=fn.ntmps) (h:A0 P c (X0 rs R H0.length) (AS.minit args H0 (H0.map some))):Cf P f H0 args R:=by
 refine⟨by simp[dk,hf,hb,hname],fun w D xs p0 F0 hD hgi hblk hnd hnD hxs=>?_⟩;have hl:=cO hxs;have hst:dX (H0.map some) 0=List.range H0.length:=by rw[uG,List.range_eq_range']
 let X:Ctx:={ w0:=w,W:=(List.range H0.length).flatMap F0,D0:=D,φ0:=BF H0.length p0,pin:=(dX (H0.map some) 0).map gL,n:=fn.ntmps }
 have inW:∀ id b,b ∈ Tw H0.length F0 id->b ∈ (List.range H0.length).flatMap F0:=fun id b hb=>by
  unfold Tw at hb;split at hb
  ·exact List.mem_flatMap.2 ⟨_,List.mem_range.2 (by omega),hb⟩
  ·cases hb
 obtain ⟨fp1,fp2⟩:=Bc (List.range H0.length) List.nodup_range hnd
 have hrel:RelD X (AS.minit args H0 (H0.map some)).den { tmps:=xs.toArray++Array.replicate (fn.ntmps - xs.toArray.size) undef,defers:=[] } w D (BF H0.length p0) (Tw H0.length F0) []:=by
  refine⟨rfl,rfl,rfl,Nat.le_refl _,fun _ _ _=>rfl,fun _ h=>h,fun _ h=>.inl h,hD,rfl,?_,fun t=>?_,fun id blk hbl=>?_,fun id hid=>?_,fun id=>?_,fun i j hij b hbi hbj=>?_,fun id b hbm=>?_,fun _ _=>rfl,List.nodup_nil,fun _ _ _ h=>absurd h List.not_mem_nil,fun _ h=>absurd h List.not_mem_nil,hgi⟩
  ·show (xs.toArray++Array.replicate (fn.ntmps - xs.toArray.size) undef).size=fn.ntmps;simp;omega
  ·show CV w D (lk (AS.init args).sl t) _ _ [];rw[AS.lk_init];cases ht:args[t]? with
   | none=>simp[CV]
   | some v =>
     obtain ⟨x,f',g1,g2,g3⟩:=uO hxs ht;have:=gm g3;subst this;simp only[Option.getD_some];have hlt:t < xs.length:=(List.getElem?_eq_some_iff.1 g1).1
     have:(xs.toArray++Array.replicate (fn.ntmps - xs.toArray.size) undef).getD t undef=x:=by
      rw[Array.getD_eq_getD_getElem?,Array.getElem?_append_left (by simpa using hlt)];simp[g1]
     rw[this];exact g2
  ·obtain ⟨j,rfl,hj⟩:=QB H0 0 id blk hbl;rw[Nat.zero_add];have hlt:=(List.getElem?_eq_some_iff.1 hj).1;rw[Us F0 hlt];exact hblk j blk hj
  ·unfold Tw;split
   ·rename_i hin;have:=rQ H0 0 id hid (id - 1000000) (by omega);exact absurd (by unfold gL;omega) this
   ·rfl
  ·unfold Tw;split
   ·exact fp1 _ (List.mem_range.2 (by omega))
   ·exact List.nodup_nil
  ·unfold Tw at hbi hbj;split at hbi
   ·split at hbj
    ·exact fp2 _ _ (List.mem_range.2 (by omega)) (List.mem_range.2 (by omega)) (by omega) b hbi hbj
    ·cases hbj
   ·cases hbi
  ·have:=hnD b (inW id b hbm);exact⟨this.1,this.2,.inr (inW id b hbm)⟩
 refine calls_of_wp hf hb ?_;refine wp_mono (x3 (X:=X) (ks:=ks) code (AS.minit args H0 (H0.map some)) _ w ⟨D,_,_,hrel⟩ rfl (by rw[hc];exact h)) fun e a w' hq=>?_;obtain ⟨s',⟨D',φ',F',hrel'⟩,_,hexit,vs,l,h1,hlk,hcase⟩:=hq;obtain ⟨hll,hget⟩:=Oj hlk;obtain ⟨ys,hrun,hcv⟩:=HN (P:=P) hrel' fn.results.toList rs vs hr h1
 have hres:(results fn a.tmps).run P w'=.ok (if h:ys.toArray.size=1 then ys.toArray[0] else .tuple ys.toArray) w':=by
  rw[B9,Array.mapM_eq_mapM_toList];simp only[Sem.run_bind,Sem.run_map,hrun,Result.andThen_ok,Sem.run_pure]
 have hcv1:CV w' D' (gk vs) φ' (if h:ys.toArray.size=1 then ys.toArray[0] else .tuple ys.toArray) []:=by
  have hl':=cO hcv
  match vs,ys,hcv,hl' with
  | [v],[y],hcv,_ =>
    simp only[cg] at hcv;obtain ⟨x,xs',f1,f2,e,hf,g1,_⟩:=hcv;have hf:=List.append_eq_nil_iff.1 hf.symm;obtain ⟨rfl,rfl⟩:=hf;cases e;simpa [gk] using g1
  | [],[],hcv,_=>simp only[gk,CV];exact⟨#[],by simp,jO⟩
  | v1::v2::vs,y1::y2::ys,hcv,_ =>
    simp only[gk,CV];exact⟨(y1::y2::ys).toArray,by simp,by simpa using hcv⟩
 have hmt:∀ id,bI id (gk vs)=true->a7 id vs=true:=fun id hm=>by
  match vs,hm with
  | [v],hm=>simp only[gk] at hm;simp[a7,hm]
  | [],hm=>simpa [gk,bI] using hm
  | v1::v2::vs,hm=>simpa [gk,bI] using hm
 have hpin:∀ id,1000000<=id/\id < 1000000+H0.length->φ' id=p0 (id - 1000000):=fun id hid=>by
  have hm:id ∈ X.pin:=List.mem_map.2 ⟨id - 1000000,by rw[hst];exact List.mem_range.2 (by omega),by unfold gL;omega⟩;rw[hrel'.pins id hm];show BF H0.length p0 id=_;unfold BF;rw[if_pos (by omega)]
 have hpl:∀ p1:Nat->Option Pl,(∀ k,k < H0.length->p1 k=p0 k)->∀ id,1000000<=id/\id < 1000000+H0.length->BF (H0.length+1) p1 id=φ' id:=fun p1 hp1 id hid=>by
  rw[hpin id hid];unfold BF;rw[if_pos (by omega),hp1 _ (by omega)]
 have hmid:∀ k,k < H0.length->1000000<=gL k/\gL k < 1000000+H0.length:=fun k hk=>⟨Nat.le_add_right _ _,Nat.add_lt_add_left hk _⟩;have hfl:((List.range H0.length).map fun k=>F' (gL k)).flatten=((List.range H0.length).map gL).flatMap F':=by rw[List.flatMap_map,List.flatMap_def]
 have hnm:((List.range H0.length).map gL).Nodup:=List.Pairwise.map gL (fun x y hxy=>by unfold gL;omega) List.nodup_range
 have hfrom:∀ b,(∃ id,b ∈ F' id)->(w.heap.size<=b\/b ∈ (List.range H0.length).flatMap F0)/\b < w'.heap.size/\¬D' b:=fun b ⟨i,hi⟩=>by
  have:=hrel'.notD i b hi;exact⟨this.2.2,this.2.1,this.1⟩
 have hgrow:Grow w D ((List.range H0.length).flatMap F0) w' D':=⟨hrel'.os,hrel'.tape,hrel'.output,hrel'.size,fun b hb hW=>hrel'.old b hb hW,hrel'.Dup,hrel'.Ddn,hrel'.Dlt⟩
 have done:a.defers=[]/\∃ v,(results fn a.tmps).run P w'=.ok v w'/\∃ res l nw,R res l nw/\l.length=H0.length/\∃ (y:Value) (D':Nat->Prop) (p1:Nat->Option Pl) (fs:List (List Nat)) (fn:List Nat),Ending.returned v=.returned y/\Grow w D ((List.range H0.length).flatMap F0) w' D'/\(∀ k,k < H0.length->p1 k=p0 k) /\
   CV w' D' res (BF (H0.length+1) p1) y []/\fs.length=l.length/\(∀ (k:Nat) (blk:Blk) (g:List Nat),l[k]?=some blk->fs[k]?=some g->cM w' D' (BF (H0.length+1) p1) (gL k) blk g) /\
   (match nw with | some blk=>cM w' D' (BF (H0.length+1) p1) (gL H0.length) blk fn | none=>fn=[])/\(fn++fs.flatten).Nodup /\
   ∀ b,b ∈ fn++fs.flatten->(w.heap.size<=b\/b ∈ (List.range H0.length).flatMap F0)/\b < w'.heap.size/\¬D' b:=by
  refine⟨hrel'.defers,_,hres,?_⟩;rcases hcase with ⟨c1,c2,c3⟩ | ⟨q,blk,hq1,hq2,c1,c2,c3,c4⟩
  ·refine⟨gk vs,l,none,c3,hll,_,D',p0,(List.range H0.length).map fun k=>F' (gL k),[],rfl,hgrow,fun _ _=>rfl,?_,by simp[hll],fun k b g hk hg=>?_,rfl,?_,fun b hb=>?_⟩
   ·refine c8 (fun _ hb=>hb) _ _ _ _ _ (fun _ _=>rfl) (fun id hm=>hpl p0 (fun _ _=>rfl) id ?_) hcv1;exact(c1 id (hmt id hm)).resolve_right (by simp)
   ·have hlt:k < H0.length:=by rw[<- hll];exact(List.getElem?_eq_some_iff.1 hk).1
    rw[List.getElem?_map,List.getElem?_range hlt] at hg;injection hg with hg
    subst hg;have g1:=hget k b hk;rw[Nat.zero_add] at g1;have e0:=hpl p0 (fun _ _=>rfl) _ (hmid k hlt);rcases hrel'.blks (gL k) b g1 with ⟨e1,e2⟩ | ⟨p,arr,ty,f',k1,k2,k3,k4,k5,k6⟩
    ·exact .inl ⟨e0.trans e1,e2⟩
    ·exact .inr ⟨p,arr,ty,f',e0.trans k1,k2,k3,k4,k5,cr (fun _ hb=>hb) _ _ _ _ _ _ (fun _ _=>rfl) (fun i hi=>hpl p0 (fun _ _=>rfl) i ((c2 b (List.mem_iff_getElem?.2 ⟨k,hk⟩) i hi).resolve_right (by simp))) k6⟩
   ·rw[List.nil_append,hfl];exact cG hrel' _ hnm
   ·rw[List.nil_append,hfl] at hb;obtain ⟨i,_,hi⟩:=List.mem_flatMap.1 hb;exact hfrom b ⟨i,hi⟩
  ·have hp1:∀ k,k < H0.length->(fun k=>if k=H0.length then φ' q else p0 k) k=p0 k:=fun k hk=>if_neg (by omega)
   have hnew:∀ id,((1000000<=id/\id < 1000000+H0.length)\/some id=some q)->BF (H0.length+1) (fun k=>if k=H0.length then φ' q else p0 k) (S6 q H0.length id)=φ' id:=fun id hid=>by
    rcases hid with hid | hid
    ·have:S6 q H0.length id=id:=if_neg (by omega);rw[this];exact hpl _ hp1 id hid
    ·injection hid with hid
     subst hid;have:S6 id H0.length id=gL H0.length:=if_pos rfl;rw[this,mY _ (by omega)];simp
   refine⟨_,_,_,c4,by rw[List.length_map];exact hll,_,D',fun k=>if k=H0.length then φ' q else p0 k,(List.range H0.length).map fun k=>F' (gL k),F' q,rfl,hgrow,hp1,?_,by simp[hll],fun k b g hk hg=>?_,?_,?_,fun b hb=>?_⟩
   ·exact Qv _ _ _ (fun id hm=>hnew id (c1 id (hmt id hm))) hcv1
   ·rw[List.getElem?_map,Option.map_eq_some_iff] at hk;obtain ⟨b0,hk,rfl⟩:=hk;have hlt:k < H0.length:=by rw[<- hll];exact(List.getElem?_eq_some_iff.1 hk).1
    rw[List.getElem?_map,List.getElem?_range hlt] at hg;injection hg with hg
    subst hg;have g1:=hget k b0 hk;rw[Nat.zero_add] at g1;exact sI (id:=gL k) (hpl _ hp1 _ (hmid k hlt)) (fun i hi=>hnew i (c2 b0 (List.mem_iff_getElem?.2 ⟨k,hk⟩) i hi)) (hrel'.blks (gL k) b0 g1)
   ·refine sI (id:=q) ?_ (fun i hi=>hnew i (.inl ((c3 i hi).resolve_right (by simp)))) (hrel'.blks q blk hq1);rw[mY _ (by omega)];simp
   ·rw[hfl,<- List.flatMap_cons];refine cG hrel' _ (List.nodup_cons.2 ⟨fun hm=>?_,hnm⟩);obtain ⟨k,_,hk⟩:=List.mem_map.1 hm;unfold gL at hk;omega
   ·rw[hfl,<- List.flatMap_cons] at hb;obtain ⟨i,_,hi⟩:=List.mem_flatMap.1 hb;exact hfrom b ⟨i,hi⟩
 cases e with
 | normal=>exact done
 | ret=>exact done
 | _=>exact hexit.elim
theorem Cf.of {f:Nat} {c:C} {rs:List RV} {n:Nat} {args:List V} {H0:List Blk} {R:V->List Blk->Option Blk->Prop} (hf:FnC P f c rs n) (hlen:args.length<=n)
  (h:A0 P c (X0 rs R H0.length) (AS.minit args H0 (H0.map some))):Cf P f H0 args R:=by
 obtain ⟨fn,code,ks,h1,h2,h3,h4,h5,h6⟩:=hf;exact Cf.intro h1 h2 h3 h4 h5 (by rw[h6];exact hlen) h
end
end Go.Abs
