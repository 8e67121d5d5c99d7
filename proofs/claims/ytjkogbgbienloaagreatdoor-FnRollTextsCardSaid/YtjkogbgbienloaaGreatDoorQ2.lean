/- Parts of the proof that several claims share, part 2. -/
import Derived.Lib.ConvBytes
import Derived.Laws.BytesString
import Derived.Test.YtjkogbgbienloaaGreatDoorQ1
set_option linter.unusedVariables false
set_option linter.unusedSimpArgs false
namespace Go.Abs
variable [GI]
section
variable {P : Program} {X : Ctx} {s : St} {a : Act} {w : World} {D : Nat → Prop} {φ : Nat → Option Pl} {F : Nat → List Nat} {o : Oper}
theorem abD (h:RelD X s a w D φ F []) {y:Option Operand} {x:Option Abs.X} (hx:cXo y=some x):(x=none/\y=none)\/∃ x' y',x=some x'/\y=some y'/\CV w D (s.ev x') φ (a.eval y') []:=by
 cases y with
 | none=>simp only[cXo,Option.some.injEq] at hx;exact .inl ⟨hx.symm,rfl⟩
 | some y =>
   simp only[cXo,Option.map_eq_some_iff] at hx;obtain ⟨x',h1,rfl⟩:=hx;exact .inr ⟨x',y,rfl,rfl,cV h1 h⟩
omit [GI] in
theorem Oi {n:Nat} {lo hi:Option V} {p:Prop} {l u:Nat} (h:RM n lo hi=some (p,l,u)) (hp:p) :
  ((lo=none/\l=0)\/∃ k,lo=some (.v (.int k (l:Int))))/\((hi=none/\u=n)\/∃ k,hi=some (.v (.int k (u:Int))))/\l<=u/\u<=n:=by
 unfold RM at h;split at h<;>simp only[Option.some.injEq,Prod.mk.injEq,reduceCtorEq] at h
 ·obtain ⟨rfl,rfl,rfl⟩:=h;exact⟨.inl ⟨rfl,rfl⟩,.inl ⟨rfl,rfl⟩,Nat.zero_le _,Nat.le_refl _⟩
 ·obtain ⟨rfl,rfl,rfl⟩:=h;obtain ⟨m,rfl⟩:=Int.eq_ofNat_of_zero_le hp.1;exact⟨.inr ⟨_,rfl⟩,.inl ⟨rfl,rfl⟩,by have:=hp.2;simp;omega,Nat.le_refl _⟩
 ·obtain ⟨rfl,rfl,rfl⟩:=h;obtain ⟨m,rfl⟩:=Int.eq_ofNat_of_zero_le hp.1;exact⟨.inl ⟨rfl,rfl⟩,.inr ⟨_,rfl⟩,Nat.zero_le _,by have:=hp.2;simp;omega⟩
 ·obtain ⟨rfl,rfl,rfl⟩:=h;obtain ⟨m,rfl⟩:=Int.eq_ofNat_of_zero_le hp.1;obtain ⟨m',rfl⟩:=Int.eq_ofNat_of_zero_le (Int.le_trans hp.1 hp.2.1);exact⟨.inr ⟨_,rfl⟩,.inr ⟨_,rfl⟩,by have:=hp.2;simp;omega,by have:=hp.2;simp;omega⟩
theorem Sd (isSlice:Bool) (n cap:Nat) (hn:n<=cap) {lo hi:Option Abs.X} {yl yh:Option Operand} (h:RelD X s a w D φ F []) (hl:cXo yl=some lo) (hh:cXo yh=some hi) {p:Prop} {l u:Nat}
  (hb:RM n (lo.map s.ev) (hi.map s.ev)=some (p,l,u)) (hp:p):l<=u/\u<=n/\(Instr.sliceBounds isSlice n cap (yl.map a.eval) (yh.map a.eval) none).run P w=.ok (l,u,cap) w:=by
 obtain ⟨q1,q2,q3,q4⟩:=Oi hb hp;refine⟨q3,q4,?_⟩;have c1:u<=cap:=by omega
 have c2:l<=u:=by omega
 rcases abD h hl with ⟨rfl,rfl⟩ | ⟨xl,yl',rfl,rfl,h1⟩<;>rcases abD h hh with ⟨rfl,rfl⟩ | ⟨xh,yh',rfl,rfl,h2⟩
 ·obtain ⟨_,rfl⟩:=q1.resolve_right (by simp);obtain ⟨_,rfl⟩:=q2.resolve_right (by simp);simp[Instr.sliceBounds]
 ·obtain ⟨_,rfl⟩:=q1.resolve_right (by simp);obtain ⟨k,hk⟩:=q2.resolve_left (by simp);simp only[Option.map_some,Option.some.injEq] at hk;rw[hk] at h2;have hx:=ff h2;simp[Instr.sliceBounds,Instr.sliceBound,asIntOf,hx,c1]
 ·obtain ⟨_,rfl⟩:=q2.resolve_right (by simp);obtain ⟨k,hk⟩:=q1.resolve_left (by simp);simp only[Option.map_some,Option.some.injEq] at hk;rw[hk] at h1;have hx:=ff h1;simp[Instr.sliceBounds,Instr.sliceBound,asIntOf,hx,c2]
 ·obtain ⟨k,hk⟩:=q1.resolve_left (by simp);obtain ⟨k',hk'⟩:=q2.resolve_left (by simp);simp only[Option.map_some,Option.some.injEq] at hk hk';rw[hk] at h1;rw[hk'] at h2;have hx:=ff h1;have hx':=ff h2;simp[Instr.sliceBounds,Instr.sliceBound,asIntOf,hx,hx',c1,c2]
omit [GI] in
theorem Y2 {b:ByteArray} {lo hi:Option V} {p:Prop} {δ:Dl} (h:ZK b lo hi=some (p,δ)):∃ l u,RM b.size lo hi=some (p,l,u)/\δ={ v:=.v (.string (b.extract l u)) }:=by
 unfold ZK at h;unfold RM;split at h<;>simp only[bl,cQ,Option.some.injEq,Prod.mk.injEq,reduceCtorEq] at h
 all_goals (obtain ⟨rfl,rfl⟩:=h;exact⟨_,_,rfl,rfl⟩)
theorem ad5 (h:RelD X s a w D φ F []) (hd:∀ d,o.dst=some d->d < X.n) {t:TypeId} {y:Operand} {x:Abs.X} {yl yh:Option Operand} {lo hi:Option Abs.X} (hop:o.op=.slice t y yl yh none) (ht:P.underlying t=some .string)
  (hx:cX y=some x) (hl:cXo yl=some lo) (hh:cXo yh=some hi) {p:Prop} {δ:Dl} (he:XQ (s.ev x) (lo.map s.ev) (hi.map s.ev)=some (p,δ)) (hp:p):gS P o X a w (δ.app o.dst s):=by
 have hcv:=cV hx h;generalize s.ev x=u at he hcv;unfold XQ at he;split at he;rotate_left
 ·cases he
 rename_i b;obtain ⟨l,u,hb,rfl⟩:=Y2 he;have hxv:=ff hcv;obtain ⟨_,_,hr⟩:=Sd (P:=P) false b.size b.size (Nat.le_refl _) h hl hh hb hp
 have ho:one (.string (b.extract l u))=true:=by
  have h0:one (.string b)=true:=by simp only[CV] at hcv;exact hcv.2.1
  simp only[one,decide_eq_true_eq] at h0 ⊢;rw[ByteArray.size_extract];omega
 exact bt h hd (by simp[execOp,hop,hxv,Instr.sliceAt,Instr.slice,run_underlying ht,hr]) (iX ho)
theorem ad4 (h:RelD X s a w D φ F []) (hd:∀ d,o.dst=some d->d < X.n) {t e:TypeId} {i0:TypeInfo} {y:Operand} {x:Abs.X} {yl yh:Option Operand} {lo hi:Option Abs.X} (hop:o.op=.slice t y yl yh none) (ht:P.underlying t=some (.slice e)) (hi0:P.info? e=some i0)
  (hx:cX y=some x) (hl:cXo yl=some lo) (hh:cXo yh=some hi) {p:Prop} {δ:Dl} (he:PV i0.size s.hp (s.ev x) (lo.map s.ev) (hi.map s.ev)=some (p,δ)) (hp:p):gS P o X a w (δ.app o.dst s):=by
 have hcv:=cV hx h;generalize s.ev x=u at he hcv
 have run:∀ (b:Option Addr) n cap l u,n<=cap->a.eval y=.slice b n cap->RM n (lo.map s.ev) (hi.map s.ev)=some (p,l,u) ->
   (execOp a.eval o).run P w=.ok (.value (.slice (if cap=l then b else b.map (·.add (l * i0.size))) (u - l) (cap - l))) w:=by
  intro b n cap l u hn hxv hb;obtain ⟨_,_,hr⟩:=Sd (P:=P) true n cap hn h hl hh hb hp;simp[execOp,hop,hxv,Instr.sliceAt,Instr.slice,run_underlying ht,hr,sizeOf,typeInfo,hi0]
 unfold PV at he;split at he
 ·rename_i s' es;cases hlh:RM es.length (lo.map s.ev) (hi.map s.ev) with
  | none=>simp[hlh] at he
  | some q =>
    obtain ⟨q,l,u⟩:=q;simp only[hlh] at he;split at he
    ·rename_i hss;subst hss;simp only[cQ,Option.some.injEq,Prod.mk.injEq] at he;obtain ⟨rfl,rfl⟩:=he;obtain ⟨_,_,hlu,hun⟩:=Oi hlh hp;have hlen:((es.drop l).take (u - l)).length=u - l:=by rw[List.length_take,List.length_drop];omega
     simp only[CV] at hcv;obtain ⟨_,⟨rfl,a',cap,hxv,hcm⟩ | ⟨b,o',cap,arr,hxv,hnc,hcm,hD,hbk,hcr,hni⟩⟩:=hcv
     ·simp only[List.length_nil] at hun;obtain rfl:u=0:=by omega
      obtain rfl:l=0:=by omega
      refine bt h hd (run _ _ _ _ _ (Nat.zero_le _) hxv hlh) ?_;simp only[CV];exact⟨trivial,.inl ⟨by simp,_,_,rfl,by omega⟩⟩
     ·refine bt h hd (run _ _ _ _ _ hnc hxv hlh) ?_;simp only[CV];refine⟨trivial,?_⟩;by_cases hc:cap=l
      ·left;refine⟨List.eq_nil_of_length_eq_zero (by rw[hlen];omega),_,_,by rw[show u - l=0 from by omega],by omega⟩
      ·right;refine⟨b,o'+l * i0.size,cap - l,arr,?_,by rw[hlen];omega,by omega,hD,hbk,?_,?_⟩
       ·simp[hc,Addr.add_lit,hlen]
       ·have:=A1 (u - l) (KL l hcr);rw[List.drop_drop] at this;exact this
       ·exact noIdss_sub hni
    ·cases he
 ·rename_i id i n;cases hb:s.hp id with
  | none=>simp[hb] at he
  | some blk =>
    cases hlh:RM n (lo.map s.ev) (hi.map s.ev) with
    | none=>simp[hb,hlh] at he
    | some q =>
      obtain ⟨q,l,u⟩:=q;simp only[hb,hlh] at he;split at he
      ·rename_i hbs;simp only[cQ,Option.some.injEq,Prod.mk.injEq] at he;obtain ⟨rfl,rfl⟩:=he;obtain ⟨_,_,hlu,hun⟩:=Oi hlh hp;simp only[CV] at hcv;obtain ⟨_,⟨hφ,rfl,rfl,hxv⟩ | ⟨p0,o',cap,hp0,hxv,hnc,hcm,hcap⟩⟩:=hcv
       ·obtain rfl:u=0:=by omega
        obtain rfl:l=0:=by omega
        refine bt h hd (run _ _ _ _ _ (Nat.le_refl _) hxv hlh) ?_;simp[CV,hφ]
       ·refine bt h hd (run _ _ _ _ _ hnc hxv hlh) ?_
        have hps:p0.s=i0.size:=by
         rcases h.blks id blk hb with ⟨q1,_⟩ | ⟨p1,_,_,_,q1,q2,_⟩
         ·rw[hp0] at q1;cases q1
         ·rw[hp0] at q1;cases q1;rw[q2,hbs]
        simp only[CV];refine⟨trivial,.inr ⟨p0,if cap=l then o' else o'+l * i0.size,cap - l,hp0,?_,by omega,by omega,?_⟩⟩
        ·split<;>simp[Addr.add_lit]
        ·by_cases hc:cap=l
         ·left;omega
         ·right;obtain ⟨ho,hz⟩:=hcap.resolve_left (by omega);simp only[hc,if_false];have:i+l+(cap - l)=i+cap:=by omega
          rw[this];exact⟨by rw[ho,hps,Nat.add_mul];omega,hz⟩
      ·cases he
 ·cases he
where
 noIdss_sub {es:List V} {l u:Nat} (h:aC es=true):aC ((es.drop l).take (u - l))=true:=by
  have hall:∀ {es:List V},aC es=true↔∀ e ∈ es,bR e=true:=by
   intro es
   induction es with
   | nil=>simp[aC]
   | cons c cs ih=>simp[aC,ih]
  rw[hall] at h ⊢;exact fun e he=>h e (List.mem_of_mem_drop (List.mem_of_mem_take he))
omit [GI] in
theorem Ty (off:Nat):∀ (l:List Value) (k:Nat) (cs:Array Value),off+k+l.length<=cs.size ->
  ((l.zipIdx k).foldl (fun cs (c:Value×Nat)=>cs.setIfInBounds (off+c.2) c.1) cs).toList=cs.toList.take (off+k)++l++cs.toList.drop (off+k+l.length)
 | [],k,cs,_=>by simp
 | x::l,k,cs,h=>by
   simp only[List.length_cons] at h;simp only[List.zipIdx_cons,List.foldl_cons];rw[Ty off l (k+1) _ (by simp;omega)];simp only[Array.toList_setIfInBounds];have hlt:off+k < cs.toList.length:=by simp;omega
   rw[List.set_eq_take_append_cons_drop];simp only[hlt,if_true];have ht:(cs.toList.take (off+k)).length=off+k:=by rw[List.length_take];omega
   rw[show off+(k+1)=off+k+1 from rfl,List.take_append_of_le_length' (x:=x) ht,List.drop_append_of_gt' (x:=x) ht (by omega)];simp[List.drop_drop];congr 1;omega
where
 List.take_append_of_le_length' {A B:List Value} {n:Nat} {x:Value} (h:A.length=n):(A++x::B).take (n+1)=A++[x]:=by
  subst h;rw[List.take_length_add_append];simp
 List.drop_append_of_gt' {A B:List Value} {n m:Nat} {x:Value} (h:A.length=n) (hm:n < m):(A++x::B).drop m=B.drop (m - n - 1):=by
  subst h;obtain ⟨k,rfl⟩:∃ k,m=A.length+(k+1):=⟨m - A.length - 1,by omega⟩;rw[List.drop_length_add_append];simp
omit [GI] in
theorem sK (l cs:Array Value) (off:Nat) (h:off+l.size<=cs.size) :
  (l.zipIdx.foldl (fun cs (c,j)=>cs.setIfInBounds (off+j) c) cs).toList=cs.toList.take off++l.toList++cs.toList.drop (off+l.size):=by
 rw[<- Array.foldl_toList,Array.toList_zipIdx];simpa using Ty off l.toList 0 cs (by simpa using h)
theorem Zl (h:RelD X s a w D φ F []) (places:List (Nat×Nat)):∀ (parts:List (Nat×Operand)) (ps:List (Nat×Nat×Abs.X)) (cs cs':List V) (cells:Array Value),cPs places parts=some ps->cg w D cs φ cells.toList [] ->
  NJ s.ev cs ps=some cs'->∃ arr,Instr.fill (places.toArray[·]?) cells (parts.map fun x=>(x.1,a.eval x.2))=some arr/\cg w D cs' φ arr.toList []
 | [],ps,cs,cs',cells,hp,hc,hs=>by
   simp only[cPs,Option.some.injEq] at hp;subst hp;simp only[NJ,Option.some.injEq] at hs;subst hs;exact⟨cells,by simp[Instr.fill],hc⟩
 | (i,x)::parts,ps,cs,cs',cells,hp,hc,hs=>by
   unfold cPs at hp;split at hp
   ·rename_i off n y ys h1 h2 h3;simp only[Option.some.injEq] at hp;subst hp;unfold NJ at hs;split at hs
    ·rename_i vs hvs;split at hs
     ·rename_i hcond;obtain ⟨hl,hle,hno⟩:=hcond;have hcv:=x7 hvs (cV h2 h);have l1:=cO hcv;have l2:=cO hc;simp only[Array.length_toList] at l1 l2;have hsz:(a.eval x).cells.size=n:=by omega
      have hfold:=sK (a.eval x).cells cells off (by omega);have hc':=ln (ln (Ec off hc) hcv) (Eb (off+n) hc);obtain ⟨arr,g1,g2⟩:=Zl h places parts ys _ cs' ((a.eval x).cells.zipIdx.foldl (fun cs (c,j)=>cs.setIfInBounds (off+j) c) cells) h3 (by rw[hfold,hsz];simpa using hc') hs;refine⟨arr,?_,g2⟩;simp only[List.map_cons,Instr.fill];have:places.toArray[i]?=some (off,n):=by simpa using h1
      rw[this];have hc1:¬((a.eval x).cells.size≠n):=by omega
      have hc2:¬(off+(a.eval x).cells.size > cells.size):=by omega
      simp only[hc2,decide_false,Bool.or_false,decide_eq_true_eq,hc1,if_false];exact g1
     ·cases hs
    ·cases hs
   ·cases hp
omit [GI] in
theorem Xb {x:Value} {v:V} {n:Nat} (h:ofV x=some v) (hs:DX v=some n):x.cells.toList.all one=true:=by
 unfold ofV at h;split at h
 ·rename_i cs;split at h
  ·rename_i hc;rw[List.all_eq_true];intro y hy;exact Array.all_eq_true'.1 hc y (by simpa [Value.cells] using hy)
  ·cases h
 ·split at h
  ·simp only[Option.some.injEq] at h;subst h;simp[DX,bx] at hs
  ·cases h
 ·split at h
  ·rename_i this;rw[Ot this];simp[this]
  ·cases h
omit [GI] in
theorem HQ {i:TypeInfo} {z:V} (h:Ce i=some z):∃ x,i.zero=some x/\ofV x=some z:=by
 unfold Ce at h;cases hz:i.zero with
 | none=>simp[hz] at h
 | some x=>exact⟨x,rfl,by simpa [hz] using h⟩
theorem acv (h:RelD X s a w D φ F []) (hd:∀ d,o.dst=some d->d < X.n) {t:TypeId} {parts:Array (Nat×Operand)} {fs:Array Field} {i0:TypeInfo} {z:V} {places:List (Nat×Nat)} {ps:List (Nat×Nat×Abs.X)}
  (hop:o.op=.build t parts) (ht:P.underlying t=some (.struct fs)) (hi:P.info? t=some i0) (hz:Ce i0=some z) (hpl:R6 P fs=some places) (hps:cPs places parts.toList=some ps)
  {p:Prop} {δ:Dl} (he:Cc s.ev z ps=some (p,δ)):gS P o X a w (δ.app o.dst s):=by
 obtain ⟨x0,hx0,hof⟩:=HQ hz;unfold Cc at he;split at he
 ·rename_i cs;split at he
  ·rename_i cs' hset;simp only[bl,Option.some.injEq,Prod.mk.injEq] at he;obtain ⟨_,rfl⟩:=he;have hz0:CV w D (.agg cs) φ x0 []:=RX hof;simp only[CV] at hz0;obtain ⟨xs,rfl,hcs⟩:=hz0;obtain ⟨arr,g1,g2⟩:=Zl h places parts.toList ps cs cs' xs hps hcs hset;refine bt h hd (x:=.agg arr) ?_ (by simp only[CV];exact⟨_,rfl,g2⟩)
   have hb:P.built t (parts.map fun x=>(x.1,a.eval x.2)).toList=some arr:=by
    unfold Program.built;unfold R6 at hpl;simp only[hi,ht,hx0,hpl];simpa [Value.cells] using g1
   have:=run_build w t _ arr hb;simp[execOp,hop,this]
  ·cases he
 ·cases he
omit [GI] in
theorem KN {z:V} {x:Value} {n:Nat} (hc:CV w D z φ x []) (hs:x.cells.size=n/\x.cells.toList.all one=true):∀ (k:Nat) (xs:List Value),xs.length=k * n->(∀ i,i < k * n->xs[i]?=x.cells[i % n]?)->CR w D n (List.replicate k z) φ xs []
 | 0,xs,hl,hx=>by simp[CR]
 | k+1,xs,hl,hx=>by
   simp only[List.replicate_succ,CR];refine⟨x,xs.drop n,[],[],?_,hs,rfl,hc,KN hc hs k _ ?_ fun i hi=>?_⟩
   ·refine List.ext_getElem? fun j=>?_;by_cases hj:j < n
    ·rw[hx j (by rw[Nat.add_mul,Nat.one_mul];omega),Nat.mod_eq_of_lt hj,List.getElem?_append_left (by simpa [hs.1] using hj)];simp
    ·rw[List.getElem?_append_right (by simp[hs.1];omega),List.getElem?_drop];congr 1;simp[hs.1];omega
   ·rw[List.length_drop,hl,Nat.add_mul,Nat.one_mul];omega
   ·rw[List.getElem?_drop,hx (n+i) (by rw[Nat.add_mul,Nat.one_mul];omega)];simp
omit [GI] in
theorem Y8 {z:V} {x:Value} {n:Nat} (hc:CV w D z φ x []) (hs:x.cells.size=n/\x.cells.toList.all one=true) (k:Nat) (hn:n≠0):CR w D n (List.replicate k z) φ ((Array.range (k * n)).map fun i=>x.cells[i % x.cells.size]!).toList []:=by
 refine KN hc hs k _ (by simp) fun i hi=>?_;have:i % n < x.cells.size:=by rw[hs.1];exact Nat.mod_lt _ (by omega)
 simp only[Array.toList_map,Array.toList_range,List.getElem?_map,List.getElem?_range hi,Option.map_some,hs.1];rw[getElem!_pos x.cells _ this,getElem?_pos x.cells _ this]
theorem Xu (h:RelD X s a w D φ F []) (n:Nat):∀ (parts:List (Nat×Operand)) (ps:List (Nat×Abs.X)) (es es':List V) (cells:Array Value),cPt parts=some ps->CR w D n es φ cells.toList []->cells.size=es.length * n->bb es=true ->
  DW s.ev n es ps=some es'->∃ arr,Instr.fill (fun i=>some (i * n,n)) cells (parts.map fun x=>(x.1,a.eval x.2))=some arr/\CR w D n es' φ arr.toList []/\es'.length=es.length/\arr.size=cells.size
 | [],ps,es,es',cells,hp,hc,hl,hno,hs=>by
   simp only[cPt,Option.some.injEq] at hp;subst hp;simp only[DW,Option.some.injEq] at hs;subst hs;exact⟨cells,by simp[Instr.fill],hc,rfl,rfl⟩
 | (i,x)::parts,ps,es,es',cells,hp,hc,hl,hno,hs=>by
   unfold cPt at hp;split at hp
   ·rename_i y ys h1 h2;simp only[Option.some.injEq] at hp;subst hp;unfold DW at hs;split at hs
    ·rename_i hcond;obtain ⟨hi,hsz,hnx,hfl⟩:=hcond;have hcv:=cV h1 h;have hxs:=Hi hsz hcv;have hmul:(i+1) * n<=es.length * n:=Nat.mul_le_mul_right _ hi;rw[Nat.add_mul,Nat.one_mul] at hmul;have hfold:=sK (a.eval x).cells cells (i * n) (by omega);obtain ⟨e,he⟩:∃ e,es[i]?=some e:=⟨es[i],List.getElem?_eq_getElem hi⟩;have hne:bO e=true:=noOwn_get hno he;have hspl:cells.toList.take (i * n)++(a.eval x).cells.toList++cells.toList.drop (i * n+(a.eval x).cells.size)=cells.toList.take (i * n)++(a.eval x).cells.toList++cells.toList.drop (i * n+(a.eval x).cells.toList.length):=by simp
     have hbd:i * n+(a.eval x).cells.toList.length<=cells.toList.length:=by simp;omega
     have hcr:=XU (e':=s.ev y) (y:=a.eval x) (ys:=((a.eval x).cells.zipIdx.foldl (fun cs (c,j)=>cs.setIfInBounds (i * n+j) c) cells).toList) hc he hne hcv ⟨hxs,xu hfl hcv⟩
      (by rw[hfold,hspl,kZ _ _ _ hbd]) (fun j hj=>by
       rw[hfold,hspl,lA _ _ _ _ hbd];simp only[Array.length_toList,hxs];split
       ·rfl
       ·rw[if_neg (by omega)]) (fun j hj=>by
       rw[hfold,hspl,lA _ _ _ _ hbd];simp only[Array.length_toList,hxs];rw[if_neg (by omega),if_pos (by omega),show i * n+j - i * n=j from by omega];simp)
     have hsz':((a.eval x).cells.zipIdx.foldl (fun cs (c,j)=>cs.setIfInBounds (i * n+j) c) cells).size=cells.size:=by
      have:=congrArg List.length hfold;rw[hspl,kZ _ _ _ hbd] at this;simpa using this
     obtain ⟨arr,g1,g2,g3,g4⟩:=Xu h n parts ys _ es' _ h2 hcr (by rw[hsz',hl,List.length_set]) (noOwns_set hno hnx) hs;refine⟨arr,?_,g2,by rw[g3,List.length_set],by rw[g4,hsz']⟩;simp only[List.map_cons,Instr.fill];have hc1:¬((a.eval x).cells.size≠n):=by omega
     have hc2:¬(i * n+(a.eval x).cells.size > cells.size):=by omega
     simp only[hc2,decide_false,Bool.or_false,decide_eq_true_eq,hc1,if_false];exact g1
    ·cases hs
   ·cases hp
where
 noOwn_get {es:List V} {i:Nat} {e:V} (h:bb es=true) (he:es[i]?=some e):bO e=true:=by
  induction es generalizing i with
  | nil=>simp at he
  | cons c cs ih =>
    simp only[bb,Bool.and_eq_true] at h;cases i with
    | zero=>simp at he;exact he▸h.1
    | succ i=>exact ih h.2 (by simpa using he)
 noOwns_set {es:List V} {i:Nat} {e:V} (h:bb es=true) (he:bO e=true):bb (es.set i e)=true:=by
  induction es generalizing i with
  | nil=>simp[bb]
  | cons c cs ih =>
    simp only[bb,Bool.and_eq_true] at h;cases i with
    | zero=>simp[bb,he,h.2]
    | succ i=>simp[bb,h.1,ih h.2]
omit [GI] in
theorem yP {z:V} (h:bO z=true):∀ n,bb (List.replicate n z)=true
 | 0=>rfl
 | n+1=>by simp[List.replicate_succ,bb,h,yP h n]
omit [GI] in
theorem qw {z:V} {d:Nat} (h:bI d z=false):∀ n,a7 d (List.replicate n z)=false
 | 0=>rfl
 | n+1=>by simp[List.replicate_succ,a7,h,qw h n]
omit [GI] in
theorem Ol {d:Nat} {e:V} (he:bI d e=false):∀ {es:List V} {i:Nat},a7 d es=false->a7 d (es.set i e)=false
 | [],i,h=>by simp[a7]
 | c::cs,0,h=>by
   simp only[a7,Bool.or_eq_false_iff] at h;simp[a7,he,h.2]
 | c::cs,i+1,h=>by
   simp only[a7,Bool.or_eq_false_iff] at h;simp[a7,h.1,Ol he h.2]
omit [GI] in
theorem Pe {d:Nat} (hf:Fresh s d) {n:Nat}:∀ {parts:List (Nat×Operand)} {ps:List (Nat×Abs.X)} {es es':List V},cPt parts=some ps->a7 d es=false->DW s.ev n es ps=some es'->a7 d es'=false
 | [],ps,es,es',hp,hm,hs=>by
   simp only[cPt,Option.some.injEq] at hp;subst hp;simp only[DW,Option.some.injEq] at hs;subst hs;exact hm
 | (i,x)::parts,ps,es,es',hp,hm,hs=>by
   unfold cPt at hp;split at hp
   ·rename_i y ys h1 h2;simp only[Option.some.injEq] at hp;subst hp;unfold DW at hs;split at hs
    ·exact Pe hf h2 (Ol (VK h1 hf) hm) hs
    ·cases hs
   ·cases hp
omit [GI] in
theorem sA {d n:Nat} {b z s':Nat} {φ:Nat->Option Pl} {cap:Nat} (hn:n<=cap) (hc:cap<=maxLen) (hz:cap * s'<=z):CV w D (.sl d 0 n) (ca φ d (some ⟨b,0,s',z⟩)) (.slice (some ⟨b,0,none⟩) n cap) []:=by
 simp only[CV,bQ];exact⟨trivial,.inr ⟨_,0,cap,rfl,rfl,hn,hc,.inr ⟨by simp,by simpa using hz⟩⟩⟩
theorem aaw (h:RelD X s a w D φ F []) {t:TypeId} {n d:Nat} {parts:Array (Nat×Operand)} {i0:TypeInfo} {z:V} {ps:List (Nat×Abs.X)}
  (hop:o.op=.buildSlice t n parts) (ht:iW P t=some i0) (hz:Ce i0=some z) (hps:cPt parts.toList=some ps) (hdst:o.dst=some d) (hd:d < X.n) (hf:Fresh s d) (hp:d ∉ X.pin)
  {p:Prop} {δ:Dl} (he:pF s.ev i0.size z n d ps=some (p,δ)):gS P o X a w (δ.app o.dst s):=by
 obtain ⟨e,hte,hie⟩:=sx ht;obtain ⟨x0,hx0,hof⟩:=HQ hz;unfold pF at he;split at he
 ·rename_i hcond;obtain ⟨hsz,hn0,hle,hno⟩:=hcond;split at he
  ·rename_i es hset;simp only[Option.some.injEq,Prod.mk.injEq] at he;obtain ⟨_,rfl⟩:=he;have hz0:CV w D z φ x0 []:=RX hof;have hxs:=Hi hsz hz0;have hcr:=Y8 hz0 ⟨hxs,Xb hof hsz⟩ n hn0;obtain ⟨arr,g1,g2,g3,g4⟩:=Xu h i0.size parts.toList ps _ es _ hps hcr (by simp) (yP hno n) hset;simp only[List.length_replicate] at g3;have hsize:arr.size=n * i0.size:=by rw[g4];simp
   refine Hf h hdst hd hf hp (x:=.slice (some ⟨w.heap.size,0,none⟩) n n) (w':=w.alloc (.cells arr e)) ?_ rfl rfl rfl arr e rfl ⟨i0.size,es⟩ (Pe hf hps (qw (gx _ _ (HL hof)) n) hset) g2
    (sA (Nat.le_refl _) ?_ (by show n * i0.size<=arr.size;omega))
   ·have hnle:¬(16777216 < n * i0.size):=by omega
    by_cases hnz:n * i0.size=0
    ·have:n=0:=by
      rcases Nat.mul_eq_zero.1 hnz with q | q
      ·exact q
      ·exact absurd q hn0
     subst this;simp only[Nat.zero_mul,Array.range_zero',Array.map_empty] at g1;simp[execOp,hop,Instr.buildSlice,run_underlying hte,sizeOf,typeInfo,hie,g1,newRow,Array.range_zero']
    ·simp[execOp,hop,Instr.buildSlice,run_underlying hte,sizeOf,typeInfo,hie,hnle,hnz,zeroValue,hx0,newRow] at g1 ⊢;simp[g1]
   ·have:n<=n * i0.size:=Nat.le_mul_of_pos_right _ (by omega);unfold maxLen;omega
  ·cases he
 ·cases he
theorem afB (h:RelD X s a w D φ F []) {t:TypeId} {d:Nat} {yl yc:Operand} {xl xc:Abs.X} {i0:TypeInfo} {z:V}
  (hop:o.op=.makeSlice t yl yc) (ht:iW P t=some i0) (hz:Ce i0=some z) (hl:cX yl=some xl) (hc:cX yc=some xc) (hdst:o.dst=some d) (hd:d < X.n) (hf:Fresh s d) (hpin:d ∉ X.pin)
  {p:Prop} {δ:Dl} (he:Vv i0.size i0.bytes z d (s.ev xl) (s.ev xc)=some (p,δ)) (hp:p):gS P o X a w (δ.app o.dst s):=by
 obtain ⟨e,hte,hie⟩:=sx ht;obtain ⟨x0,hx0,hof⟩:=HQ hz;have hcl:=cV hl h;have hcc:=cV hc h;generalize s.ev xl=u at he hcl;generalize s.ev xc=v at he hcc;unfold Vv at he;split at he
 ·rename_i l c;split at he
  ·rename_i hcond;obtain ⟨rfl,hsz,hby,hno,hn0⟩:=hcond;simp only[Option.some.injEq,Prod.mk.injEq] at he;obtain ⟨rfl,rfl⟩:=he;have hxl:=ff hcl;have hxc:=ff hcc;obtain ⟨m,rfl⟩:=Int.eq_ofNat_of_zero_le hp.1;have hm:m<=ba:=by have:=hp.2;omega
   have hz0:CV w D z φ x0 []:=RX hof;have hxs:=Hi hsz hz0;have hcr:=Y8 hz0 ⟨hxs,Xb hof hsz⟩ m hn0;have hb:i0.bytes * m<=140737488355328:=Nat.le_trans (Nat.mul_le_mul hby hm) (by unfold ba;decide);simp only[Int.toNat_natCast,Int.ofNat_eq_natCast] at *
   refine Hf h hdst hd hf hpin (x:=.slice (some ⟨w.heap.size,0,none⟩) m m) (w':=w.alloc (.cells ((Array.range (m * i0.size)).map fun i=>x0.cells[i % x0.cells.size]!) e)) ?_ rfl rfl rfl _ e rfl ⟨i0.size,List.replicate m z⟩
    (qw (gx _ _ (HL hof)) m) hcr (sA (Nat.le_refl _) (by unfold maxLen;unfold ba at hm;omega) (by simp))
   have hw1:IntKind.i64.wrap (m:Int)=m:=by
    unfold ba at hm;simp[IntKind.wrap,IntKind.bits,IntKind.signed];omega
   have hb1:¬(281474976710656 < (i0.bytes:Int) * (m:Int)):=by
    rw[<- Int.natCast_mul];omega
   have hm0:¬((m:Int) < 0):=by omega
   by_cases hnz:m * i0.size=0
   ·have:m=0:=by
     rcases Nat.mul_eq_zero.1 hnz with q | q
     ·exact q
     ·exact absurd q hn0
    subst this;simp[execOp,hop,hxl,hxc,Instr.makeSlice,run_underlying hte,asInt,asIntOf,sizeOf,typeInfo,hie,newRow,IntKind.wrap,IntKind.bits,IntKind.signed,Array.range_zero']
   ·simp[execOp,hop,hxl,hxc,Instr.makeSlice,run_underlying hte,asInt,asIntOf,sizeOf,typeInfo,hie,newRow,hw1,hb1,hm0,hnz,zeroValue,hx0]
  ·cases he
 ·cases he
end
end Go.Abs
namespace Go.Abs
variable [GI]
section
variable {P : Program} {X : Ctx} {s : St} {a : Act} {w : World} {D : Nat → Prop} {φ : Nat → Option Pl} {F : Nat → List Nat} {o : Oper}
omit [GI] in
theorem Ue:∀ {s:Nat} {es:List V} {φ:Nat->Option Pl} {xs:List Value} {f:List Nat},CR w D s es φ xs f->∀ x ∈ xs.take (es.length * s),one x=true
 | s,[],φ,xs,f,h,x,hx=>by simp at hx
 | s,e::es,φ,xs,f,h,x,hx=>by
   simp only[CR] at h;obtain ⟨y,rest,f1,f2,rfl,⟨hs,ho⟩,rfl,h1,h⟩:=h;have:(e::es).length * s=y.cells.toList.length+es.length * s:=by simp[hs,Nat.add_mul];omega
   rw[this,List.take_length_add_append] at hx;rcases List.mem_append.1 hx with hx | hx
   ·exact List.all_eq_true.1 ho x hx
   ·exact Ue h x hx
theorem YR (h:RelD X s a w D φ F []) {y:Operand} {x:Abs.X} (hx:cX y=some x) {sz:Nat} {ds:List V} (hs:uF sz s.hp (s.ev x)=some ds) :
  ∃ ad c news,a.eval y=.slice ad ds.length c/\news.length=ds.length * sz/\(ds.length≠0->∃ b,ad=some b/\∀ j u,news[j]?=some u->w.cell? (b.add j)=some u)/\(∀ u ∈ news,one u=true) /\
   (bb ds=true->CR w D sz ds φ news []):=by
 have hcv:=cV hx h;generalize s.ev x=v at hs hcv;unfold uF at hs;split at hs
 ·rename_i id i n;cases hb:s.hp id with
  | none=>simp[hb] at hs
  | some blk =>
    simp only[hb] at hs;split at hs
    ·rename_i hcond;obtain ⟨hbs,hno,hle⟩:=hcond;simp only[Option.some.injEq] at hs;subst hs;have hlen:((blk.es.drop i).take n).length=n:=by rw[List.length_take,List.length_drop];omega
     simp only[CV] at hcv;obtain ⟨_,⟨_,_,rfl,hxv⟩ | ⟨p0,o',cap,hp0,hxv,hnc,hcm,hcap⟩⟩:=hcv
     ·exact⟨none,0,[],by rw[hlen];exact hxv,by simp,by simp,by simp,fun _=>by simp[CR]⟩
     ·rw[hlen];by_cases hn:n=0
      ·subst hn;exact⟨_,cap,[],hxv,by simp,by simp,by simp,fun _=>by simp[CR]⟩
      ·rcases h.blks id blk hb with ⟨q,_⟩ | ⟨p1,arr,ty,f',q1,q2,q3,q4,q5,q6⟩
       ·rw[hp0] at q;cases q
       ·rw[hp0] at q1;cases q1;have:f'=[]:=x6 _ _ _ _ hno q6;subst this;obtain ⟨ho,_⟩:=hcap.resolve_left (by omega);have hcr:=A1 n (KL i q6);rw[List.drop_drop,hbs] at hcr;have hl:=sy q6;simp only[List.length_drop,Array.length_toList,hbs] at hl;have hmul:(i+n) * sz<=blk.es.length * sz:=Nat.mul_le_mul_right _ hle;rw[Nat.add_mul] at hmul;refine⟨_,cap,(arr.toList.drop (p0.o+i * sz)).take (n * sz),hxv,?_,fun _=>⟨_,rfl,fun j u hu=>?_⟩,?_,fun _=>Ea hcr fun j hj=>?_⟩
        ·rw[List.length_take,List.length_drop,Array.length_toList];by_cases hz:n * sz=0
         ·omega
         ·have:0 < blk.es.length * sz:=by omega
          omega
        ·rw[List.getElem?_take] at hu;split at hu
         ·rw[List.getElem?_drop,Array.getElem?_toList] at hu;rw[Addr.add_lit,jR q4.blk,ho,q2,hbs];exact hu
         ·cases hu
        ·have:=Ue hcr;rw[hlen] at this;exact this
        ·rw[hlen] at hj;rw[List.getElem?_take,if_pos hj]
    ·cases hs
 ·rename_i s' es;split at hs
  ·rename_i hss;subst hss;simp only[Option.some.injEq] at hs;subst hs;simp only[CV] at hcv;obtain ⟨_,⟨rfl,a',cap,hxv,_⟩ | ⟨b,o',cap,arr,hxv,hnc,hcm,hD,hbk,hcr,hni⟩⟩:=hcv
   ·exact⟨a',cap,[],hxv,by simp,by simp,by simp,fun _=>by simp[CR]⟩
   ·have hl:=sy hcr;rw[List.length_drop] at hl;refine⟨_,cap,(arr.toList.drop o').take (es.length * s'),hxv,?_,fun _=>⟨_,rfl,fun j u hu=>?_⟩,Ue hcr,fun _=>?_⟩
    ·rw[List.length_take,List.length_drop];omega
    ·rw[List.getElem?_take] at hu;split at hu
     ·rw[List.getElem?_drop,Array.getElem?_toList] at hu;rw[Addr.add_lit,jR hbk];exact hu
     ·cases hu
    ·refine Ea (cr (fun _ hb=>hb) _ _ _ _ _ _ (fun _ _=>rfl) (fun id hm=>?_) hcr) fun j hj=>?_
     ·rw[cS id es hni] at hm;cases hm
     ·rw[List.getElem?_take,if_pos hj]
  ·cases hs
 ·simp only[Option.some.injEq] at hs;subst hs;have hxv:=ff hcv;exact⟨_,_,[],hxv,by simp,by simp,by simp,fun _=>by simp[CR]⟩
 ·cases hs
omit [GI] in
theorem ND {t:TypeId} {yx yy:Operand} {c:Call} (hop:o.op=.call c) (hcal:c.callee=.builtin .append) (harg:c.args.toList=[yx,yy]) (hty:c.argTypes.toList=[t,t]) {r:Value} {w':World}
  (hr:(Builtin.append_ #[t,t] o.type #[a.eval yx,a.eval yy]).run P w=.ok r w'):(execOp a.eval o).run P w=.ok (.value r) w':=by
 obtain ⟨cal,args,tys⟩:=c;simp only at hcal harg hty;obtain rfl:args=#[yx,yy]:=by rw[<- Array.toArray_toList (xs:=args),harg]
 obtain rfl:tys=#[t,t]:=by rw[<- Array.toArray_toList (xs:=tys),hty]
 subst hcal;simp[execOp,hop,resolve,invoke,builtin,hr]
omit [GI] in
theorem DS {t e ty:TypeId} {i:TypeInfo} (ht:P.underlying t=some (.slice e)) (hi:P.info? e=some i) (base:Option Addr) (n cap:Nat) (hn:n<=cap) (y:Option Addr) (c:Nat) :
  (Builtin.append_ #[t,t] ty #[.slice base n cap,.slice y 0 c]).run P w=.ok (.slice base n cap) w:=by
 have hf:(Builtin.firstCells i.size 0 (.slice y 0 c)).run P w=.ok #[] w:=by
  cases y<;>simp[Builtin.firstCells,loadCells,loadCellsFrom]
 cases base<;>simp[Builtin.append_,run_underlying ht,sizeOf,typeInfo,hi,Builtin.lenOf,hn,hf,storeCells]
omit [GI] in
theorem Ow {t e ty ety:TypeId} {i:TypeInfo} (ht:P.underlying t=some (.slice e)) (hi:P.info? e=some i) {b f n cap m c:Nat} {arr:Array Value} {fr:Nat×Nat} (hok:Od arr fr) (hw:w.heap[b]?=some (.cells arr ety fr)) {ad:Addr} (news:List Value)
  (hl:news.length=m * i.size) (hnews:∀ j u,news[j]?=some u->w.cell? (ad.add j)=some u) (h1:∀ u ∈ news,one u=true) (hroom:n+m<=cap) (hfit:f+n * i.size+news.length<=arr.size) :
  ∃ arr':Array Value,arr'.toList=arr.toList.take (f+n * i.size)++news++arr.toList.drop (f+n * i.size+news.length) /\
   (Builtin.append_ #[t,t] ty #[.slice (some ⟨b,f,none⟩) n cap,.slice (some ad) m c]).run P w=.ok (.slice (some ⟨b,f,none⟩) (n+m) cap) { w with heap:=w.heap.setIfInBounds b (.cells arr' ety fr) }:=by
 obtain ⟨arr',g1,g2⟩:=NE (P:=P) hok hw news h1 hfit;refine⟨arr',g1,?_⟩;have hf:=run_firstCells_some (P:=P) w i.size m ad m c news hl hnews;simp[Builtin.append_,run_underlying ht,sizeOf,typeInfo,hi,Builtin.lenOf,hroom,hf,Addr.add_lit,g2]
omit [GI] in
theorem xn {d:Nat} {es:List V} (h:a7 d es=false) (i n:Nat):a7 d ((es.drop i).take n)=false:=by
 have hall:∀ {es:List V},a7 d es=false↔∀ e ∈ es,bI d e=false:=by
  intro es
  induction es with
  | nil=>simp[a7]
  | cons c cs ih=>simp[a7,ih]
 rw[hall] at h ⊢;exact fun e he=>h e (List.mem_of_mem_drop (List.mem_of_mem_take he))
omit [GI] in
theorem Lz {d:Nat}:∀ {es ds:List V},a7 d es=false->a7 d ds=false->a7 d (es++ds)=false
 | [],ds,_,h=>h
 | c::cs,ds,h,h'=>by
   simp only[a7,Bool.or_eq_false_iff,List.cons_append] at h ⊢;exact⟨h.1,Lz h.2 h'⟩
omit [GI] in
theorem T3 {y:Operand} {x:Abs.X} (hx:cX y=some x) {d:Nat} (hf:Fresh s d) {sz:Nat} {ds:List V} (hs:uF sz s.hp (s.ev x)=some ds) (hn:∀ sz es,s.ev x=.ro sz es->a7 d es=false):a7 d ds=false:=by
 generalize s.ev x=v at hs hn;unfold uF at hs;split at hs
 ·rename_i id i n;cases hb:s.hp id with
  | none=>simp[hb] at hs
  | some blk =>
    simp only[hb] at hs;split at hs
    ·simp only[Option.some.injEq] at hs;subst hs;exact xn (hf.hp id blk hb) i n
    ·cases hs
 ·split at hs
  ·simp only[Option.some.injEq] at hs;subst hs;exact hn _ _ rfl
  ·cases hs
 ·simp only[Option.some.injEq] at hs;subst hs;rfl
 ·cases hs
theorem Zh (h:RelD X s a w D φ F []) {d:Nat} (hdst:o.dst=some d) (hd:d < X.n) (hf:Fresh s d) (hp:d ∉ X.pin) (sz:Nat) (hr:(execOp a.eval o).run P w=.ok (.value (.slice none 0 0)) w) :
  Cg X (({ v:=.sl d 0 0,new:=some ⟨sz,[]⟩ }:Dl).app (some d) s) (a.put (some d) (.slice none 0 0)) w:=by
 have h1:=RelD.settle (f:=[]) (G:=[]) h d hf hp none ⟨sz,[]⟩ (.inl ⟨by simp,.inl ⟨rfl,rfl⟩⟩);exact⟨D,_,_,h1.put d hd (.sl d 0 0) (.slice none 0 0) (by simp[CV])⟩
omit [GI] in
theorem CF {n:Nat} (h:n<=ba):n<=maxLen:=by unfold ba at h;unfold maxLen;omega
theorem adv (h:RelD X s a w D φ F []) {d:Nat} (hdst:o.dst=some d) (hd:d < X.n) (hf:Fresh s d) (hp:d ∉ X.pin) {sz n cap:Nat} {es:List V} {arr:Array Value} {e:TypeId} {w':World}
  (hr:(execOp a.eval o).run P w=.ok (.value (.slice (some ⟨w.heap.size,0,none⟩) n cap)) w') (hh:w'.heap=w.heap.push (.cells arr e (0,0))) (hos:w'.os=w.os) (htape:w'.tape=w.tape) (hout:w'.output=w.output)
  (hm:a7 d es=false) (hc:CR w D sz es φ arr.toList []) (hn:n<=cap) (hcm:cap<=maxLen) (hz:cap * sz<=arr.size) (del:Option Nat) :
  gS P o X a w (({ v:=.sl d 0 n,new:=some ⟨sz,es⟩,del:=del }:Dl).app o.dst s):=by
 cases del with
 | none=>exact Hf h hdst hd hf hp hr hos htape hout arr e hh ⟨sz,es⟩ hm hc (sA hn hcm hz)
 | some id =>
   have h0:=(h.release id).gsub (G':=[]) (List.nil_sublist _)
   have hf':Fresh { s with hp:=ca s.hp id none } d:=⟨hf.sl,fun i b hb=>by
    by_cases e:i=id
    ·subst e;simp at hb
    ·simp only[ca,e,if_false] at hb;exact hf.hp i b hb,by
    by_cases e:d=id
    ·subst e;simp
    ·simp only[ca,e,if_false];exact hf.no⟩
   have h1:=Hf (o:=o) (P:=P) h0 hdst hd hf' hp hr hos htape hout arr e hh ⟨sz,es⟩ hm hc (sA hn hcm hz);exact h1
theorem aby (h:RelD X s a w D φ F []) {d:Nat} (hdst:o.dst=some d) (hd:d < X.n) (hf:Fresh s d) (hp:d ∉ X.pin) {sz n cap:Nat} {es:List V} {arr:Array Value} {e:TypeId} {w':World}
  (hr:(execOp a.eval o).run P w=.ok (.value (.slice (some ⟨w.heap.size,0,none⟩) n cap)) w') (hh:w'.heap=w.heap.push (.cells arr e (0,0))) (hos:w'.os=w.os) (htape:w'.tape=w.tape) (hout:w'.output=w.output)
  (hm:a7 d es=false) (id:Nat) {f0:List Nat} (hsub:f0.Sublist (F id)) (hc:CR w D sz es φ arr.toList f0) (hn:n<=cap) (hcm:cap<=maxLen) (hz:cap * sz<=arr.size) :
  gS P o X a w (({ v:=.sl d 0 n,new:=some ⟨sz,es⟩,del:=some id }:Dl).app o.dst s):=by
 have h0:=(h.release id).gsub (G':=f0++[]) (hsub.append (List.Sublist.refl []))
 have hf':Fresh { s with hp:=ca s.hp id none } d:=⟨hf.sl,fun i b hb=>by
  by_cases e:i=id
  ·subst e;simp at hb
  ·simp only[ca,e,if_false] at hb;exact hf.hp i b hb,by
  by_cases e:d=id
  ·subst e;simp
  ·simp only[ca,e,if_false];exact hf.no⟩
 have h1:=(RelD.newF h0 d hf' hp w' hos htape hout arr e hh ⟨sz,es⟩ hm hc).put d hd _ _ (sA hn hcm hz);have h2:Cg X (({ v:=.sl d 0 n,new:=some ⟨sz,es⟩,del:=some id }:Dl).app (some d) s) (a.put (some d) (.slice (some ⟨w.heap.size,0,none⟩) n cap)) w':=⟨D,_,_,h1⟩;rw[<- hdst] at h2;exact⟨_,_,w',hr,.inl rfl,h2⟩
theorem afv (h:RelD X s a w D φ F []) {t:TypeId} {d:Nat} {yx yy:Operand} {xx xy:Abs.X} {i0:TypeInfo} {c:Call} (hop:o.op=.call c) (hcal:c.callee=.builtin .append) (harg:c.args.toList=[yx,yy]) (hty:c.argTypes.toList=[t,t])
  (ht:iW P t=some i0) (hsz:i0.size≠0) (hzs:(i0.zero.map (·.cells.size))=some i0.size) (hx:cX yx=some xx) (hy:cX yy=some xy) (hdst:o.dst=some d) (hd:d < X.n) (hf:Fresh s d) (hpin:d ∉ X.pin)
  (hro:∀ sz es,s.ev xy=.ro sz es->a7 d es=false)
  {p:Prop} {δ:Dl} (he:Qs i0.size i0.bytes s.hp d (s.ev xy) (s.ev xx)=some (p,δ)) (hp:p):gS P o X a w (δ.app o.dst s):=by
 obtain ⟨e,hte,hie⟩:=sx ht
 obtain ⟨z,hz,hzsz⟩:∃ z,i0.zero=some z/\z.cells.size=i0.size:=by
  cases hz:i0.zero with
  | none=>simp[hz] at hzs
  | some z=>exact⟨z,rfl,by simpa [hz] using hzs⟩
 have hcv:=cV hx h;generalize s.ev xx=u at he hcv
 have key0:∀ ds,a.eval yx=.slice none 0 0->uF i0.size s.hp (s.ev xy)=some ds->bb ds=true->i0.bytes<=32768->ds.length<=ba->∀ del,(∀ id,del=some id->s.hp d=none) ->
   gS P o X a w (({ v:=.sl d 0 ds.length,new:=some ⟨i0.size,ds⟩,del:=del }:Dl).app o.dst s):=by
  intro ds hxv hds hno hby hln del hdel;obtain ⟨ad,c',news,s1,s2,s3,s4,s5⟩:=YR h hy hds;have hmd:a7 d ds=false:=T3 hy hf hds hro;by_cases h0:ds.length=0
  ·obtain rfl:ds=[]:=List.eq_nil_of_length_eq_zero h0;have hr:=DS (P:=P) (w:=w) (ty:=o.type) hte hie none 0 0 (Nat.le_refl _) ad c';simp only[List.length_nil] at s1;rw[<- hxv,<- s1] at hr;have hrun:=ND hop hcal harg hty hr;rw[hxv] at hrun;refine⟨_,_,w,hrun,.inl rfl,?_⟩;rw[hdst];cases del with
   | none=>exact Zh h hdst hd hf hpin i0.size hrun
   | some id =>
     have hh0:=(h.release id).gsub (G':=[]) (List.nil_sublist _)
     have hf':Fresh { s with hp:=ca s.hp id none } d:=⟨hf.sl,fun i b hb=>by
      by_cases e:i=id
      ·subst e;simp at hb
      ·simp only[ca,e,if_false] at hb;exact hf.hp i b hb,by
      by_cases e:d=id
      ·subst e;simp
      ·simp only[ca,e,if_false];exact hf.no⟩
     exact Zh hh0 hdst hd hf' hpin i0.size hrun
  ·obtain ⟨b,rfl,hnews⟩:=s3 h0
   have hb48:ds.length * i0.bytes<=281474976710656:=by
    have:ds.length * i0.bytes<=4294967296 * 32768:=Nat.mul_le_mul hln hby;omega
   have h63:((ds.length:Int))<=9223372036854775807:=by unfold ba at hln;omega
   have hr:=run_append_nil (P:=P) w t o.type e i0 z hte hie hz b ds.length c' news s2 hnews (by omega) h63 hb48;rw[<- hxv,<- s1] at hr;have hrun:=ND hop hcal harg hty hr;have hge:=grownCap_ge w ds.length 0 e;have hcm:=grownCap_le_maxLen w ds.length 0 e (CF hln);refine adv h hdst hd hf hpin hrun rfl rfl rfl rfl hmd (Ea (s5 hno) fun j hj=>?_) hge hcm ?_ del
   ·simp only[Array.toList_append,List.toList_toArray];rw[List.getElem?_append_left (by omega)]
   ·simp only[Array.size_append,List.size_toArray,size_zeroCells,hzsz,s2];rw[<- Nat.add_mul];exact Nat.mul_le_mul_right _ (by omega)
 unfold Qs at he;split at he
 ·cases hds:uF i0.size s.hp (s.ev xy) with
  | none=>simp[hds] at he
  | some ds =>
    simp only[hds] at he;split at he
    ·rename_i hcond;simp only[Option.some.injEq,Prod.mk.injEq] at he;obtain ⟨rfl,rfl⟩:=he;exact key0 ds (ff hcv) hds hcond.1 hcond.2 hp none (by simp)
    ·cases he
 ·rename_i id i n;cases hb:s.hp id with
  | none=>simp[hb] at he
  | some blk =>
    cases hds:uF i0.size s.hp (s.ev xy) with
    | none=>simp[hb,hds] at he
    | some ds =>
      simp only[hb,hds] at he;split at he
      ·rename_i hcond;obtain ⟨hbs,hno,rfl,hby⟩:=hcond;simp only[Option.some.injEq,Prod.mk.injEq] at he;obtain ⟨rfl,rfl⟩:=he;obtain ⟨hnl,hnob,hln⟩:=hp;simp only[CV] at hcv;obtain ⟨_,⟨_,_,rfl,hxv⟩ | ⟨p0,o',cap,hp0,hxv,hnc,hcm,hcap⟩⟩:=hcv
       ·have:=key0 ds hxv hds hno hby (by omega) (some id) (fun _ _=>hf.no);simpa using this
       ·obtain ⟨ad,c',news,s1,s2,s3,s4,s5⟩:=YR h hy hds;have hmd:a7 d ds=false:=T3 hy hf hds hro;have hme:a7 d (blk.es.take n++ds)=false:=Lz (by simpa using xn (hf.hp id blk hb) 0 n) hmd;rcases h.blks id blk hb with ⟨q,_⟩ | ⟨p1,arr,ty,f',q1,q2,q3,q4,q5,q6⟩
        ·rw[hp0] at q;cases q
        ·rw[hp0] at q1;cases q1;have hl:=sy q6;rw[List.length_drop,Array.length_toList,hbs] at hl
         have hcr:CR w D i0.size (blk.es.take n) φ (arr.toList.drop p0.o) f':=by
          rw[<- hbs];rcases hnob with hnob | hnob
          ·have:f'=[]:=x6 _ _ _ _ hnob q6;subst this;exact A1 n q6
          ·rw[hnob,List.take_length];exact q6
         by_cases hroom:n+ds.length<=cap
         ·
          have h0:=h.release id;rw[q5] at h0
          have hf':Fresh { s with hp:=ca s.hp id none } d:=⟨hf.sl,fun i b hb'=>by
           by_cases e:i=id
           ·subst e;simp at hb'
           ·simp only[ca,e,if_false] at hb';exact hf.hp i b hb',by
           by_cases e:d=id
           ·subst e;simp
           ·simp only[ca,e,if_false];exact hf.no⟩
          by_cases hm0:ds.length=0
          ·obtain rfl:ds=[]:=List.eq_nil_of_length_eq_zero hm0;have hr:=DS (P:=P) (w:=w) (ty:=o.type) hte hie (some ⟨p0.b,o',none⟩) n cap hnc ad c';simp only[List.length_nil] at s1;rw[<- hxv,<- s1] at hr;have hrun:=ND hop hcal harg hty hr;rw[hxv] at hrun
           have h1:=RelD.settle (f:=p0.b::f') (G:=[]) h0 d hf' hpin (some p0) ⟨i0.size,blk.es.take n⟩ (.inr ⟨p0,arr,ty,f',by simp,by rw[q2,hbs],q3,q4,rfl,
            cr (fun _ hb=>hb) _ _ _ _ _ _ (fun _ _=>rfl) (fun i hi=>bC _ _ (lC (d:=d) (by simpa using xn (hf.hp id blk hb) 0 n) hi)) hcr⟩)
           have h2:=h1.put d hd (.sl d 0 n) (.slice (some ⟨p0.b,o',none⟩) n cap) (by
            simp only[CV,bQ];exact⟨trivial,.inr ⟨p0,o',cap,rfl,rfl,hnc,hcm,by simpa using hcap⟩⟩)
           have h6:Cg X (({ v:=.sl d 0 (n+([]:List V).length),new:=some ⟨i0.size,blk.es.take n++[]⟩,del:=some id }:Dl).app (some d) s) (a.put (some d) (.slice (some ⟨p0.b,o',none⟩) n cap)) w :=
            ⟨D,_,_,by simpa [Dl.app,Dl.hp,hpN,hpD,hpW] using h2⟩
           exact⟨_,_,w,hrun,.inl rfl,by rw[hdst];exact h6⟩
          ·obtain ⟨b,rfl,hnews⟩:=s3 hm0;obtain ⟨ho,hzz⟩:=hcap.resolve_left (by omega);simp only[Nat.zero_mul,Nat.add_zero,Nat.zero_add,q2,hbs,q3] at ho hzz;have hmul:(n+ds.length) * i0.size<=cap * i0.size:=Nat.mul_le_mul_right _ hroom;rw[Nat.add_mul] at hmul;obtain ⟨fr,hok,q4⟩:=q4;obtain ⟨arr',g1,g2⟩:=Ow (P:=P) (ty:=o.type) (f:=o') (cap:=cap) (c:=c') hte hie hok q4 news s2 hnews s4 hroom (by rw[ho,s2];omega);rw[<- hxv,<- s1] at g2;have hrun:=ND hop hcal harg hty g2;have hfit:o'+n * i0.size+news.length<=arr.toList.length:=by rw[s2,ho,Array.length_toList (xs:=arr)];omega
           have hl':arr'.size=arr.size:=by
            have:=congrArg List.length g1;rw[kZ _ _ _ hfit] at this;simpa using this
           have hw0:=h.write id blk hb p0 hp0 arr arr' ty hok q4 hl' { w with heap:=w.heap.setIfInBounds p0.b (.cells arr' ty fr) } rfl rfl rfl rfl (blk.es.take n++ds) (fun f1 hf1 _=>by
            rw[q5] at hf1;cases hf1;rw[hbs];rw[<- List.append_nil f'];refine NS (f:=f') (g:=[]) (Ea hcr fun j hj=>?_) (Ea (s5 hno) fun j hj=>?_)
            ·rw[List.length_take,Nat.min_eq_left hnl] at hj;rw[List.getElem?_drop,List.getElem?_drop,g1,lA _ _ _ _ hfit,if_pos (by omega)]
            ·rw[List.length_take,Nat.min_eq_left hnl,List.drop_drop,List.getElem?_drop,g1,lA _ _ _ _ hfit,if_neg (by omega),if_pos (by omega)];congr 1;omega)
           have h3:=hw0.release id;rw[q5] at h3
           have hnew:(w.heap.setIfInBounds p0.b (.cells arr' ty fr))[p0.b]?=some (.cells arr' ty fr):=by
            rw[Array.getElem?_setIfInBounds];simp[(Array.getElem?_eq_some_iff.1 q4).1]
           have hblk:=hw0.blks id ⟨blk.s,blk.es.take n++ds⟩ (by simp)
           have hf3:Fresh { sl:=s.sl,hp:=ca (ca s.hp id (some ⟨blk.s,blk.es.take n++ds⟩)) id none } d:=⟨hf.sl,fun i b hb'=>by
            by_cases e:i=id
            ·subst e;simp at hb'
            ·simp only[ca,e,if_false] at hb';exact hf.hp i b hb',by
            by_cases e:d=id
            ·subst e;simp
            ·simp only[ca,e,if_false];exact hf.no⟩
           have h4:=RelD.settle (f:=p0.b::f') (G:=[]) h3 d hf3 hpin (some p0) ⟨i0.size,blk.es.take n++ds⟩ (by
            rcases hblk with ⟨k,_⟩ | ⟨p2,arr2,ty2,f2,k1,k2,k3,k4,k5,k6⟩
            ·rw[hp0] at k;cases k
            ·rw[hp0] at k1;cases k1;rw[q5] at k5;cases k5;obtain ⟨fr2,hok2,k4⟩:=k4;rw[hnew] at k4;cases k4;refine .inr ⟨p0,arr',ty,f',by simp,by rw[q2,hbs],k3,⟨fr,hok2,hnew⟩,rfl,?_⟩;rw[hbs] at k6;exact cr (fun _ hb=>hb) _ _ _ _ _ _ (fun _ _=>rfl) (fun i hi=>bC _ _ (lC hme hi)) k6)
           have h5:=h4.put d hd (.sl d 0 (n+ds.length)) (.slice (some ⟨p0.b,o',none⟩) (n+ds.length) cap) (by
            simp only[CV,bQ];refine⟨trivial,.inr ⟨p0,o',cap,rfl,rfl,hroom,hcm,.inr ⟨by omega,?_⟩⟩⟩;rw[Nat.zero_add,q2,hbs,q3];exact hzz)
           have e:ca (ca s.hp id (some ⟨blk.s,blk.es.take n++ds⟩)) id none=ca s.hp id none:=by
            funext i;unfold ca;split<;>rfl
           simp only[e] at h5
           have h6:Cg X (({ v:=.sl d 0 (n+ds.length),new:=some ⟨i0.size,blk.es.take n++ds⟩,del:=some id }:Dl).app (some d) s) (a.put (some d) (.slice (some ⟨p0.b,o',none⟩) (n+ds.length) cap)) { w with heap:=w.heap.setIfInBounds p0.b (.cells arr' ty fr) } :=
            ⟨D,_,_,h5⟩
           exact⟨_,_,_,hrun,.inl rfl,by rw[hdst];exact h6⟩
         ·
          have hm0:ds.length≠0:=by omega
          obtain ⟨b,rfl,hnews⟩:=s3 hm0
          have hb47:(n+ds.length) * i0.bytes<=140737488355328:=by
           have:(n+ds.length) * i0.bytes<=4294967296 * 32768:=Nat.mul_le_mul hln hby;omega
          have h63:((n+ds.length:Nat):Int)<=9223372036854775807:=by unfold ba at hln;omega
          have holds:∀ j v,(((arr.toList.drop p0.o).take (n * i0.size)))[j]?=some v->w.cell? ((⟨p0.b,o',none⟩:Addr).add j)=some v:=by
           intro j v hv;rw[List.getElem?_take] at hv;split at hv
           ·rename_i hj
            obtain ⟨ho,_⟩:=hcap.resolve_left (fun hc=>by
             obtain rfl:n=0:=by omega
             simp at hj)
            rw[List.getElem?_drop,Array.getElem?_toList] at hv;rw[Addr.add_lit,jR q4.blk,ho];simpa using hv
           ·cases hv
          have hlo:((arr.toList.drop p0.o).take (n * i0.size)).length=n * i0.size:=by
           have hmul:n * i0.size<=blk.es.length * i0.size:=Nat.mul_le_mul_right _ hnl;rw[List.length_take,List.length_drop,Array.length_toList];omega
          have hr:=run_append_grow (P:=P) w t o.type e i0 z hte hie hz ⟨p0.b,o',none⟩ n cap _ hlo holds b ds.length c' news s2 hnews (by omega) h63 (growslice_fits (by omega) hb47);rw[<- hxv,<- s1] at hr;have hrun:=ND hop hcal harg hty hr;have hge:=grownCap_ge w (n+ds.length) cap e;have hcm':=grownCap_le_maxLen w (n+ds.length) cap e (CF hln);refine aby h hdst hd hf hpin hrun rfl rfl rfl rfl hme id (f0:=f'++[]) (by rw[q5,List.append_nil];exact List.sublist_cons_self _ _) (NS (f:=f') (g:=[]) (Ea hcr fun j hj=>?_) (Ea (s5 hno) fun j hj=>?_)) hge hcm' ?_
          ·rw[List.length_take,Nat.min_eq_left hnl] at hj;simp only[Array.toList_append,List.toList_toArray,List.append_assoc];rw[List.getElem?_append_left (by rw[hlo];exact hj),List.getElem?_take,if_pos hj]
          ·rw[List.length_take,Nat.min_eq_left hnl,List.getElem?_drop];simp only[Array.toList_append,List.toList_toArray,List.append_assoc];rw[List.getElem?_append_right (by rw[hlo];omega),List.getElem?_append_left (by rw[hlo,s2];omega)];congr 1;rw[hlo];omega
          ·simp only[Array.size_append,List.size_toArray,size_zeroCells,hzsz,s2,hlo];rw[<- Nat.add_mul,<- Nat.add_mul];exact Nat.mul_le_mul_right _ (by omega)
      ·cases he
 ·cases he
omit [GI] in
theorem Em:∀ (ds:List V) (l:List UInt8),px ds=some l->bb ds=true
 | [],_,_=>by simp[bb]
 | .v (.int .u8 n)::ds,l,h=>by
   simp only[px,Option.map_eq_some_iff] at h;obtain ⟨r,h1,_⟩:=h;simp[bb,bO,Em ds r h1]
omit [GI] in
theorem VH:∀ (ds:List V) (l:List UInt8) (news:List Value),px ds=some l->CR w D 1 ds φ news []->news.length=ds.length ->
  ∃ ns:List Int,news=ns.map (Value.int .u8)/\l=ns.map fun n=>UInt8.ofNat n.toNat
 | [],l,news,h,_,hn=>by
   simp only[px,Option.some.injEq] at h;subst h;exact⟨[],by simpa using List.eq_nil_of_length_eq_zero hn,rfl⟩
 | .v (.int .u8 n)::ds,l,news,h,hc,hn=>by
   simp only[px,Option.map_eq_some_iff] at h;obtain ⟨r,h1,rfl⟩:=h;simp only[CR] at hc;obtain ⟨x,rest,f1,f2,rfl,⟨hs,_⟩,hf,h2,h3⟩:=hc;have hx:=ff h2;subst hx;obtain ⟨rfl,rfl⟩:=List.append_eq_nil_iff.1 hf.symm;have hcl:(Value.int .u8 n).cells.toList=[Value.int .u8 n]:=rfl;rw[hcl] at hn ⊢;simp only[List.length_append,List.length_cons,List.length_nil] at hn;obtain ⟨ns,rfl,rfl⟩:=VH ds r rest h1 h3 (by omega);exact⟨n::ns,by simp,by simp⟩
omit [GI] in
theorem Wp (ns:List Int):ns.foldl (fun r n=>r.push (UInt8.ofNat n.toNat)) ByteArray.empty=bs (ns.map fun n=>UInt8.ofNat n.toNat):=by
 have:∀ (ns:List Int) (a:List UInt8),ns.foldl (fun r n=>r.push (UInt8.ofNat n.toNat)) (bs a)=bs (a++ns.map fun n=>UInt8.ofNat n.toNat):=by
  intro ns
  induction ns with
  | nil=>intro a;simp
  | cons n ns ih =>
    intro a;have e:(bs a).push (UInt8.ofNat n.toNat)=bs (a++[UInt8.ofNat n.toNat]):=by simp[bs,ByteArray.push]
    simp only[List.foldl_cons,e,ih];simp
 exact this ns []
omit [GI] in
theorem VC {rest:List Value}:∀ l:List UInt8,CR w D 1 (l.map fun x=>.v (.int .u8 x.toNat)) φ ((l.map fun x=>Value.int .u8 x.toNat)++rest) []
 | []=>by simp[CR]
 | x::l=>by
   simp only[List.map_cons,CR];exact⟨.int .u8 x.toNat,(l.map fun x=>Value.int .u8 x.toNat)++rest,[],[],rfl,⟨rfl,rfl⟩,rfl,⟨rfl,rfl,rfl⟩,VC l⟩
omit [GI] in
theorem PW (w:World) (e:TypeId) (b:ByteArray):(Lib.bytesWorld w e b).heap=w.heap.push (.cells (Lib.bytesCells w e b) e ((Lib.bytesCells w e b).size,(Lib.bytesCells w e b).size+1)):=by
 apply Array.ext_getElem?;intro i;rw[Array.getElem?_push];split
 ·rename_i hi;rw[hi];exact Lib.bytesWorld_at_new w e b
 ·rename_i hi;by_cases h:i < w.heap.size
  ·exact Lib.bytesWorld_at_old w e b i h
  ·rw[Array.getElem?_eq_none (by rw[Lib.bytesWorld_size];omega),Array.getElem?_eq_none (by omega)]
omit [GI] in
theorem Yt (d:Nat) (b:ByteArray):a7 d (Vo b)=false:=by
 unfold Vo;generalize b.data.toList=l
 induction l with
 | nil=>rfl
 | cons x l ih=>simp only[List.map_cons,a7,bI,ih,Bool.or_false]
theorem adZ (h:RelD X s a w D φ F []) (hd:∀ d,o.dst=some d->d < X.n) (hns:∃ d,o.dst=some d) {src dst:TypeId} {y:Operand} {x:Abs.X} {c:CK} (hop:o.op=.convert src dst y) (hx:cX y=some x) (hc:cck P src dst=some c)
  {p:Prop} {δ:Dl} (he:NP c s.hp (o.dst.getD 0) (s.ev x)=some (p,δ)) (hp:p) (hn:δ.new.isSome=true->∀ d,o.dst=some d->Fresh s d/\d ∉ X.pin):gS P o X a w (δ.app o.dst s):=by
 have hcv:=cV hx h;have key:∀ ds,uF 1 s.hp (s.ev x)=some ds->_:=fun ds hs=>YR h hx hs;generalize s.ev x=u at he hcv key;unfold NP at he;split at he
 ·rename_i k0 n;have hxv:=ff hcv;split at he
  ·rename_i k;simp only[bl,Option.some.injEq,Prod.mk.injEq] at he;obtain ⟨_,rfl⟩:=he
   have:∃ k1,P.underlying src=some (.int k1)/\P.underlying dst=some (.int k):=by
    unfold cck at hc;split at hc<;>first | (simp_all;done) | (split at hc<;>simp_all)
   obtain ⟨k1,h1,h2⟩:=this;exact bt h hd (by simp[execOp,hop,hxv,convert,run_underlying h1,run_underlying h2,Conv.intToInt]) (iX rfl)
  ·simp only[cQ,Option.some.injEq,Prod.mk.injEq] at he;obtain ⟨rfl,rfl⟩:=he
   have:∃ k1,P.underlying src=some (.int k1)/\P.underlying dst=some .string:=by
    unfold cck at hc;split at hc<;>first | (simp_all;done) | (split at hc<;>simp_all)
   obtain ⟨k1,h1,h2⟩:=this;exact bt h hd (by simp[execOp,hop,hxv,convert,run_underlying h1,run_underlying h2,Conv.intToString]) (iX (by simpa [one] using hp))
  ·cases he
 ·rename_i b;have hxv:=ff hcv;split at he
  ·simp only[bl,Option.some.injEq,Prod.mk.injEq] at he;obtain ⟨_,rfl⟩:=he
   have:P.underlying src=some .string/\P.underlying dst=some .string:=by
    unfold cck at hc;split at hc<;>first | (simp_all;done) | (split at hc<;>simp_all)
   obtain ⟨h1,h2⟩:=this;have ho:one (.string b)=true:=by simp only[CV] at hcv;exact hcv.2.1
   exact bt h hd (by simp[execOp,hop,hxv,convert,run_underlying h1,run_underlying h2]) (iX ho)
  ·have:∃ e,P.underlying src=some .string/\P.underlying dst=some (.slice e)/\P.underlying e=some (.int .u8):=by
    unfold cck at hc;split at hc<;>first | (simp_all;done) | (split at hc<;>simp_all)
   obtain ⟨e,h1,h2,h3⟩:=this;obtain ⟨d,hdst⟩:=hns
   have hone:b.size<=maxLen:=by
    simp only[CV] at hcv;have:=hcv.2.1;simpa [one,maxLen] using this
   have hge:=grownCap_ge w b.size 0 e;have hcm:=grownCap_le_maxLen w b.size 0 e hone
   have hrun:(execOp a.eval o).run P w=.ok (.value (.slice (some ⟨w.heap.size,0,none⟩) b.size (grownCap w b.size 0 e))) (Lib.bytesWorld w e b):=by
    simp[execOp,hop,hxv,Lib.run_convert_string_bytes w src dst e b h1 h2 h3]
   have hasz:(Lib.bytesCells w e b).size=grownCap w b.size 0 e:=by
    simp only[Lib.bytesCells,Array.size_append,Array.size_map,Array.size_replicate];have:b.data.size=b.size:=rfl;omega
   split at he
   ·rename_i h0;simp only[bl,Option.some.injEq,Prod.mk.injEq] at he;obtain ⟨_,rfl⟩:=he;have g:=(h.grow (Lib.bytesWorld w e b) D [] rfl rfl rfl (by rw[Lib.bytesWorld_size];omega) (fun k hk=>Lib.bytesWorld_at_old w e b k hk) (fun _ hb=>hb) (fun k hk=>⟨.inl hk,by rw[Lib.bytesWorld_size];have:=h.Dlt k hk;omega⟩) (by simp) (by simp)).gsub (G':=[]) (List.nil_sublist _)
    have h4:=g.put d (hd d hdst) (.ro 1 []) (.slice (some ⟨w.heap.size,0,none⟩) b.size (grownCap w b.size 0 e)) (by
     simp only[CV];exact⟨trivial,.inl ⟨trivial,some ⟨w.heap.size,0,none⟩,_,by rw[h0],by rw[h0] at hcm;exact hcm⟩⟩)
    have h5:Cg X (({ v:=.ro 1 [] }:Dl).app (some d) s) (a.put (some d) (.slice (some ⟨w.heap.size,0,none⟩) b.size (grownCap w b.size 0 e))) (Lib.bytesWorld w e b):=⟨D,_,_,h4⟩;rw[<- hdst] at h5;exact⟨_,_,_,hrun,.inl rfl,h5⟩
   ·rename_i h0;simp only[Option.some.injEq,Prod.mk.injEq] at he;obtain ⟨_,rfl⟩:=he;obtain ⟨hf,hpin⟩:=hn rfl d hdst
    have hcells:CR w D 1 (Vo b) φ (Lib.bytesCells w e b).toList []:=by
     have:=VC (w:=w) (D:=D) (φ:=φ) (rest:=(Array.replicate (grownCap w b.size 0 e - b.size) (Value.int .u8 0)).toList) b.data.toList;simpa [Vo,Lib.bytesCells] using this
    have h3':=(h.newM d hf hpin (Lib.bytesWorld w e b) rfl rfl rfl (Lib.bytesCells w e b) e (.inr ⟨by omega,by simp⟩) (PW w e b) ⟨1,Vo b⟩ (Yt d b) hcells).put d (hd d hdst) (.sl d 0 b.size) (.slice (some ⟨w.heap.size,0,none⟩) b.size (grownCap w b.size 0 e)) (sA hge hcm (by show grownCap w b.size 0 e * 1<=_;omega));have h5:Cg X (({ v:=.sl d 0 b.size,new:=some ⟨1,Vo b⟩ }:Dl).app (some d) s) (a.put (some d) (.slice (some ⟨w.heap.size,0,none⟩) b.size (grownCap w b.size 0 e))) (Lib.bytesWorld w e b):=⟨D,_,_,h3'⟩;have hde:o.dst.getD 0=d:=by rw[hdst];rfl
    rw[hde];rw[<- hdst] at h5;exact⟨_,_,_,hrun,.inl rfl,h5⟩
  ·cases he
 ·split at he
  ·split at he
   ·rename_i ds hds;split at he
    ·rename_i l hl;simp only[cQ,Option.some.injEq,Prod.mk.injEq] at he;obtain ⟨rfl,rfl⟩:=he;obtain ⟨ad,c',news,s1,s2,s3,_,s5⟩:=key ds hds;obtain ⟨ns,rfl,rfl⟩:=VH ds l news hl (s5 (Em ds l hl)) (by rw[s2];omega)
     have:∃ e,P.underlying src=some (.slice e)/\P.underlying e=some (.int .u8)/\P.underlying dst=some .string:=by
      unfold cck at hc;split at hc<;>first | (simp_all;done) | (split at hc<;>simp_all)
     obtain ⟨e,h1,h2,h3⟩:=this;have hlen:ns.length=ds.length:=by simpa using s2
     have hrun:(convert src dst (.slice ad ds.length c')).run P w=.ok (.string (bs (ns.map fun n=>UInt8.ofNat n.toNat))) w:=by
      rw[run_convert_bytes_string w src dst e ad ds.length c' h1 h2 h3];by_cases h0:ds.length=0
      ·have:ns=[]:=List.eq_nil_of_length_eq_zero (by omega);subst this;rw[h0];cases ad with
       | none=>rfl
       | some b=>rfl
      ·obtain ⟨b,rfl,hb⟩:=s3 h0;have hload:=run_loadCells_list (P:=P) w b (ns.map (Value.int .u8)) hb;rw[List.length_map,hlen] at hload;rw[run_bytesToString w b ds.length c' ns hload,Wp]
     refine bt h hd (x:=.string (bs (ns.map fun n=>UInt8.ofNat n.toNat))) ?_ (iX ?_)
     ·simp[execOp,hop,s1,hrun]
     ·have hsz:(bs (ns.map fun n=>UInt8.ofNat n.toNat)).size=(ns.map fun n=>UInt8.ofNat n.toNat).length:=by simp[bs,ByteArray.size]
      simp only[one,decide_eq_true_eq,hsz];exact hp
    ·cases he
   ·cases he
  ·cases he
end
end Go.Abs
namespace Go.Abs
variable [GI]
def WD:O->Bool
 | .st _ _ _=>true
 | .mupd _ _ _=>true
 | _=>false
def dOk (st:Bool) (d:Option Nat) (n:Nat):Bool:=match st,d with
 | true,none=>true
 | false,some d=>decide (d < n)
 | _,_=>false
def QO (P:Program) (ops:Array Oper) (n:Nat) (o:Oper):Option CO :=
 match iT P o.op with
 | none=>none
 | some q =>
   if dOk (WD q) o.dst n=true then
    match o.guard with
    | none=>some ⟨none,o.dst,q⟩
    | some (j,b)=>match (ops[j]?).bind (·.dst) with
      | some t=>some ⟨some (t,b),o.dst,q⟩
      | none=>none
   else none
section
variable {P : Program} {X : Ctx} {s : St} {a : Act} {w : World} {D : Nat → Prop} {φ : Nat → Option Pl} {F : Nat → List Nat} {o : Oper}
omit [GI] in
theorem acK {sz:Nat} {es:List V} {x:Value} {f:List Nat} (h:CV w D (.ro sz es) φ x f) (d:Nat):a7 d es=false:=by
 simp only[CV] at h;obtain ⟨_,⟨rfl,_⟩ | ⟨b,o',cap,arr,hxv,hnc,hcm,hD,hbk,hcr,hni⟩⟩:=h
 ·rfl
 ·exact cS d es hni
theorem abJ {q:O} (hc:iT P o.op=some q) (h:RelD X s a w D φ F []) (hd:∀ d,o.dst=some d->d < X.n) (hst:WD q=true->o.dst=none) (hns:WD q=false->∃ d,o.dst=some d)
  {p:Prop} {δ:Dl} (he:uY s.ev s.hp (o.dst.getD 0) q=some (p,δ)) (hp:p) (hn:δ.new.isSome=true->∀ d,o.dst=some d->Fresh s d/\d ∉ X.pin):gS P o X a w (δ.app o.dst s):=by
 cases hop:o.op with
 | move x =>
   simp only[hop,iT,Option.map_eq_some_iff] at hc;obtain ⟨x',hx,rfl⟩:=hc;simp only[uY,bl,Option.some.injEq,Prod.mk.injEq] at he;obtain ⟨_,rfl⟩:=he;exact aeA h hd (.inl hop) hx
 | assign x =>
   simp only[hop,iT,Option.map_eq_some_iff] at hc;obtain ⟨x',hx,rfl⟩:=hc;simp only[uY,bl,Option.some.injEq,Prod.mk.injEq] at he;obtain ⟨_,rfl⟩:=he;exact aeA h hd (.inr hop) hx
 | pick c y z =>
   simp only[hop,iT] at hc;split at hc<;>simp only[Option.some.injEq,reduceCtorEq] at hc;rename_i xc xy xz h1 h2 h3;subst hc;simp only[uY] at he;split at he
   ·rename_i t ht;simp only[bl,Option.some.injEq,Prod.mk.injEq] at he;obtain ⟨_,rfl⟩:=he;exact ad3 h hd hop h1 h2 h3 ht
   ·cases he
 | alloc t =>
   simp only[hop,iT] at hc;split at hc
   ·rename_i i hi;split at hc<;>simp only[Option.some.injEq,reduceCtorEq] at hc;rename_i z hz;subst hc;obtain ⟨d,hdst⟩:=hns rfl;simp only[uY,hdst,Option.getD_some] at he;split at he
    ·rename_i hcond;simp only[Option.some.injEq,Prod.mk.injEq] at he;obtain ⟨_,rfl⟩:=he;obtain ⟨hf,hpin⟩:=hn rfl d hdst;obtain ⟨x0,hx0,hof⟩:=HQ hz;exact acu (y:=.const .nilFunc) h (.inr ⟨hop,i,hi,hx0⟩) (RX hof) hcond.1 hcond.2.2 (gx _ _ (HL hof)) hdst (hd d hdst) hf hpin
    ·cases he
   ·cases hc
 | box t y =>
   simp only[hop,iT] at hc;split at hc<;>simp only[Option.some.injEq,reduceCtorEq] at hc;rename_i i x hi hx;subst hc;obtain ⟨d,hdst⟩:=hns rfl;simp only[uY,hdst,Option.getD_some] at he;split at he
   ·rename_i hcond;simp only[Option.some.injEq,Prod.mk.injEq] at he;obtain ⟨_,rfl⟩:=he;obtain ⟨hf,hpin⟩:=hn rfl d hdst;exact acu h (.inl ⟨hop,rfl⟩) (cV hx h) hcond.1 hcond.2.2 (VK hx hf) hdst (hd d hdst) hf hpin
   ·cases he
 | build t ps =>
   simp only[hop,iT] at hc;split at hc
   ·rename_i fs i hfs hi;split at hc
    ·rename_i z pl hz hpl;simp only[Option.map_eq_some_iff] at hc;obtain ⟨ps',hps,rfl⟩:=hc;simp only[uY] at he;exact acv h hd hop hfs hi hz hpl hps he
    ·cases hc
   ·cases hc
 | buildSlice t n ps =>
   simp only[hop,iT] at hc;split at hc
   ·rename_i i hi;split at hc<;>simp only[Option.some.injEq,reduceCtorEq] at hc;rename_i z ps' hz hps;subst hc;obtain ⟨d,hdst⟩:=hns rfl;simp only[uY,hdst,Option.getD_some] at he
    have hnew:δ.new.isSome=true:=by
     unfold pF at he;split at he
     ·split at he
      ·simp only[Option.some.injEq,Prod.mk.injEq] at he;obtain ⟨_,rfl⟩:=he;rfl
      ·cases he
     ·cases he
    obtain ⟨hf,hpin⟩:=hn hnew d hdst;exact aaw h hop hi hz hps hdst (hd d hdst) hf hpin he
   ·cases hc
 | load t y =>
   simp only[hop,iT] at hc;split at hc<;>simp only[Option.some.injEq,reduceCtorEq] at hc;rename_i b n x ht hx;subst hc;simp only[uY] at he;exact ahK h hd hop ht hx he
 | store t y x =>
   simp only[hop,iT] at hc;split at hc<;>simp only[Option.some.injEq,reduceCtorEq] at hc;rename_i i xa xx hi hxa hxx;subst hc;simp only[uY] at he;exact ahL h hop hi hxa hxx (hst rfl) he
 | binOp op t x y t' =>
   simp only[hop,iT] at hc;split at hc<;>simp only[Option.some.injEq,reduceCtorEq] at hc;rename_i k xx xy hk hx hy;subst hc;simp only[uY] at he;exact afw h hd hop hk hx hy he hp
 | unOp op t x =>
   simp only[hop,iT,Option.map_eq_some_iff] at hc;obtain ⟨x',hx,rfl⟩:=hc;simp only[uY] at he;exact ahM h hd hop hx he
 | convert sr dt x =>
   simp only[hop,iT] at hc;split at hc<;>simp only[Option.some.injEq,reduceCtorEq] at hc;rename_i c x' hcc hx;subst hc;simp only[uY] at he;exact adZ h hd (hns rfl) hop hx hcc he hp hn
 | makeFunc fn first cs =>
   simp only[hop] at hc;cases fn<;>simp only[iT,reduceCtorEq] at hc;rename_i f;split at hc
   ·rename_i hfi;simp only[Option.map_eq_some_iff] at hc;obtain ⟨xs,hx,rfl⟩:=hc;simp only[uY,bl,Option.some.injEq,Prod.mk.injEq] at he;obtain ⟨_,rfl⟩:=he;exact afx h hd hop hfi hx
   ·cases hc
 | makeSlice t l c =>
   simp only[hop,iT] at hc;split at hc
   ·rename_i i xl xc hi hl hcc;split at hc<;>simp only[Option.some.injEq,reduceCtorEq] at hc;rename_i z hz;subst hc;obtain ⟨d,hdst⟩:=hns rfl;simp only[uY,hdst,Option.getD_some] at he
    have hnew:δ.new.isSome=true:=by
     unfold Vv at he;split at he
     ·split at he
      ·simp only[Option.some.injEq,Prod.mk.injEq] at he;obtain ⟨_,rfl⟩:=he;rfl
      ·cases he
     ·cases he
    obtain ⟨hf,hpin⟩:=hn hnew d hdst;exact afB h hop hi hz hl hcc hdst (hd d hdst) hf hpin he hp
   ·cases hc
 | slice t x lo hi mx =>
   simp only[hop] at hc;cases mx<;>simp only[iT,reduceCtorEq] at hc;split at hc
   ·rename_i xx lo' hi' ht hx hl hh;simp only[Option.some.injEq] at hc;subst hc;simp only[uY] at he;exact ad5 h hd hop ht hx hl hh he hp
   ·rename_i e xx lo' hi' ht hx hl hh;split at hc<;>simp only[Option.some.injEq,reduceCtorEq] at hc;rename_i i hi;subst hc;simp only[uY] at he;exact ad4 h hd hop ht hi hx hl hh he hp
   ·cases hc
 | nilCheck x =>
   simp only[hop,iT,Option.map_eq_some_iff] at hc;obtain ⟨x',hx,rfl⟩:=hc;simp only[uY] at he;exact ad2 h hd hop hx he
 | fieldAddr t x f =>
   simp only[hop,iT] at hc;split at hc
   ·rename_i fs x' ht hx;split at hc
    ·rename_i fd hfd;split at hc
     ·rename_i i hi;split at hc
      ·rename_i hs0;simp only[Option.some.injEq] at hc;subst hc;simp only[uY] at he;exact acw h hd hop hx ht hfd hi hs0 he
      ·cases hc
     ·cases hc
    ·cases hc
   ·cases hc
 | field t x f =>
   simp only[hop,iT] at hc;split at hc
   ·rename_i fs x' ht hx;split at hc
    ·rename_i fd hfd;split at hc<;>simp only[Option.some.injEq,reduceCtorEq] at hc;rename_i b n hty;subst hc;simp only[uY] at he;exact afz h hd hop hx ht hfd hty he
    ·cases hc
   ·cases hc
 | indexAddr t x i =>
   simp only[hop,iT] at hc;split at hc<;>simp only[Option.some.injEq,reduceCtorEq] at hc;rename_i e x' i' ht hx hi;subst hc;simp only[uY] at he;exact acx h hd hop hx hi ht he hp
 | index t x i =>
   simp only[hop,iT] at hc;split at hc<;>simp only[Option.some.injEq,reduceCtorEq] at hc;rename_i x' i' ht hx hi;subst hc;simp only[uY] at he;exact afA h hd hop hx hi ht he hp
 | extract x i =>
   simp only[hop,iT,Option.map_eq_some_iff] at hc;obtain ⟨x',hx,rfl⟩:=hc;simp only[uY] at he;exact afy h hd hop hx he
 | call c =>
   simp only[hop,iT] at hc;split at hc
   ·rename_i hcal;split at hc
    ·rename_i y t hargs htys;split at hc<;>simp only[Option.some.injEq,reduceCtorEq] at hc
     ·rename_i x ht hx;subst hc;simp only[uY,if_true] at he;exact ad1 h hd hop hcal hargs htys ht hx he
     ·rename_i e x ht hx;subst hc;simp only[uY,Bool.false_eq_true,if_false] at he;exact ad0 h hd hop hcal hargs htys ht hx he
    ·cases hc
   ·rename_i hcal;split at hc
    ·rename_i yx yy t u hargs htys;split at hc
     ·rename_i i x y hi hx hy;split at hc
      ·rename_i hcond;obtain ⟨rfl,hs0,hz⟩:=hcond;simp only[Option.some.injEq] at hc;subst hc;obtain ⟨d,hdst⟩:=hns rfl;simp only[uY,hdst,Option.getD_some] at he
       have hnew:δ.new.isSome=true:=by
        unfold Qs at he;split at he
        ·split at he
         ·split at he
          ·simp only[Option.some.injEq,Prod.mk.injEq] at he;obtain ⟨_,rfl⟩:=he;rfl
          ·cases he
         ·cases he
        ·split at he
         ·split at he
          ·split at he
           ·simp only[Option.some.injEq,Prod.mk.injEq] at he;obtain ⟨_,rfl⟩:=he;rfl
           ·cases he
          ·cases he
         ·cases he
        ·cases he
       obtain ⟨hf,hpin⟩:=hn hnew d hdst;exact afv h hop hcal hargs htys hi hs0 hz hx hy hdst (hd d hdst) hf hpin (fun sz es hro=>acK (by have:=cV hy h;rw[hro] at this;exact this) d) he hp
      ·cases hc
     ·cases hc
    ·cases hc
   ·rename_i hcal;simp only[Option.map_eq_some_iff] at hc;obtain ⟨xs,hx,rfl⟩:=hc;simp only[uY] at he;exact aez (max:=false) h hd hop (by simpa using hcal) hx he
   ·rename_i hcal;simp only[Option.map_eq_some_iff] at hc;obtain ⟨xs,hx,rfl⟩:=hc;simp only[uY] at he;exact aez (max:=true) h hd hop (by simpa using hcal) hx he
   ·simp only[Option.map_eq_some_iff] at hc;obtain ⟨xs,hx,rfl⟩:=hc;simp[uY] at he
   ·simp only[Option.map_eq_some_iff] at hc;obtain ⟨xs,hx,rfl⟩:=hc;simp[uY] at he
   ·cases hc
 | makeMap t r =>
   simp only[hop] at hc;cases r<;>simp only[iT,reduceCtorEq] at hc;split at hc<;>simp only[Option.some.injEq,reduceCtorEq] at hc;subst hc;simp[uY] at he
 | lookup t m k ok =>
   simp only[hop,iT] at hc;split at hc
   ·split at hc<;>simp only[Option.some.injEq,reduceCtorEq] at hc;subst hc;simp[uY] at he
   ·cases hc
 | mapUpdate t m k v =>
   simp only[hop,iT] at hc;split at hc
   ·split at hc<;>simp only[Option.some.injEq,reduceCtorEq] at hc;subst hc;simp[uY] at he
   ·cases hc
 | _=>simp[hop,iT] at hc
end
end Go.Abs
namespace Go.Abs
variable [GI]
structure Grow (w:World) (D:Nat->Prop) (W:List Nat) (w':World) (D':Nat->Prop):Prop where
 os:w'.os=w.os
 tape:w'.tape=w.tape
 output:w'.output=w.output
 size:w.heap.size<=w'.heap.size
 old:∀ b,b < w.heap.size->b ∉ W->w'.heap[b]?=w.heap[b]?
 Dup:∀ b,D b->D' b
 Ddn:∀ b,D' b->D b\/w.heap.size<=b\/b ∈ W
 Dlt:∀ b,D' b->b < w'.heap.size
def dk (P:Program) (f:Nat):Bool:=(P.funcs[f]?).map (fun fn=>fn.body.isSome&&fn.name != "runtime.NumGoroutine")==some true
def aa (P:Program) (f:Nat) (args:List V) (res:V):Prop :=
 dk P f=true/\∀ (w:World) (D:Nat->Prop) (xs:List Value),(∀ b,D b->b < w.heap.size)->GI.holds w D->cg w D args (fun _=>none) xs [] ->
  Calls P f xs.toArray w fun e w'=>∃ y D' fp,e=.returned y/\Grow w D [] w' D'/\CV w' D' res (fun _=>none) y fp/\fp.Nodup/\∀ b,b ∈ fp->w.heap.size<=b/\b < w'.heap.size/\¬D' b
def aP (hp:Nat->Option Blk):Nat->V->V
 | 0,_=>.undef
 | k+1,.ref id i j=>match hp id with
   | some b=>.rp b.s (b.es.map (aP hp k)) i j
   | none=>.undef
 | k+1,.sl id i n=>match hp id with
   | some b=>if i+n<=b.es.length then .ro b.s (((b.es.drop i).take n).map (aP hp k)) else .undef
   | none=>.undef
 | k+1,.own s es=>.ro s (es.map (aP hp k))
 | k+1,.agg cs=>.agg (cs.map (aP hp k))
 | k+1,.tup cs=>.tup (cs.map (aP hp k))
 | k+1,.clo f cs=>.clo f (cs.map (aP hp k))
 | _+1,.rp s es i j=>.rp s es i j
 | _+1,.ro s es=>.ro s es
 | _+1,.v x=>.v x
 | _+1,.undef=>.undef
omit [GI] in
theorem jE {f:V->V} (h:∀ v,bR (f v)=true):∀ es:List V,aC (es.map f)=true
 | []=>rfl
 | e::es=>by simp[aC,h e,jE h es]
omit [GI] in
theorem fH (hp:Nat->Option Blk):∀ (k:Nat) (v:V),bR (aP hp k v)=true
 | 0,v=>rfl
 | k+1,.ref id i j=>by simp only[aP];split<;>rfl
 | k+1,.sl id i n=>by simp only[aP];split<;>first | rfl | (split<;>rfl)
 | k+1,.own s es=>by simp[aP,bR]
 | k+1,.agg cs=>by simp only[aP,bR];exact jE (fH hp k) cs
 | k+1,.tup cs=>by simp only[aP,bR];exact jE (fH hp k) cs
 | k+1,.clo f cs=>by simp only[aP,bR];exact jE (fH hp k) cs
 | k+1,.rp s es i j=>by simp[aP,bR]
 | k+1,.ro s es=>by simp[aP,bR]
 | k+1,.v x=>by simp[aP,bR]
 | k+1,.undef=>by simp[aP,bR]
section
variable {w : World} {D : Nat → Prop} {φ : Nat → Option Pl} {F : Nat → List Nat} {hp : Nat → Option Blk}
omit [GI] in
theorem KP {D':Nat->Prop} {ψ:Nat->Option Pl} {f:V->V} (hf:∀ v x fp,(∀ b,b ∈ fp->D' b)->CV w D v φ x fp->CV w D' (f v) ψ x []) :
  ∀ (cs:List V) (xs:List Value) (fp:List Nat),(∀ b,b ∈ fp->D' b)->cg w D cs φ xs fp->cg w D' (cs.map f) ψ xs []
 | [],xs,fp,_,h=>by simp only[cg] at h;obtain ⟨rfl,_⟩:=h;exact jO
 | c::cs,xs,fp,hfp,h=>by
   simp only[cg] at h;obtain ⟨x,xs',f1,f2,rfl,rfl,h1,h2⟩:=h;simp only[List.map_cons,cg];exact⟨x,xs',[],[],rfl,rfl,hf c x f1 (fun b hb=>hfp b (List.mem_append_left _ hb)) h1,KP hf cs xs' f2 (fun b hb=>hfp b (List.mem_append_right _ hb)) h2⟩
omit [GI] in
theorem QG {D':Nat->Prop} {ψ:Nat->Option Pl} {f:V->V} {s:Nat} (hf:∀ v x fp,(∀ b,b ∈ fp->D' b)->CV w D v φ x fp->CV w D' (f v) ψ x []) :
  ∀ (cs:List V) (xs:List Value) (fp:List Nat),(∀ b,b ∈ fp->D' b)->CR w D s cs φ xs fp->CR w D' s (cs.map f) ψ xs []
 | [],xs,fp,_,h=>by simp[CR]
 | c::cs,xs,fp,hfp,h=>by
   simp only[CR] at h;obtain ⟨x,rest,f1,f2,rfl,hs,rfl,h1,h2⟩:=h;simp only[List.map_cons,CR];exact⟨x,rest,[],[],rfl,hs,rfl,hf c x f1 (fun b hb=>hfp b (List.mem_append_left _ hb)) h1,QG hf cs rest f2 (fun b hb=>hfp b (List.mem_append_right _ hb)) h2⟩
omit [GI] in
theorem x9 {D':Nat->Prop} (hD:∀ b,D b->D' b) (hF:∀ id b,b ∈ F id->D' b) (hb:∀ id blk,hp id=some blk->cM w D φ id blk (F id)) :
  ∀ (k:Nat) (ψ:Nat->Option Pl),(ψ=φ\/ψ=fun _=>none)->∀ (v:V) (x:Value) (fp:List Nat),(∀ b,b ∈ fp->D' b)->CV w D v ψ x fp->CV w D' (aP hp k v) (fun _=>none) x []
 | 0,ψ,hψ,v,x,fp,hfp,h=>by simp[aP,CV]
 | k+1,ψ,hψ,v,x,fp,hfp,h=>by
   have ih:∀ ψ,(ψ=φ\/ψ=fun _=>none)->∀ v x fp,(∀ b,b ∈ fp->D' b)->CV w D v ψ x fp->CV w D' (aP hp k v) (fun _=>none) x []:=fun ψ hψ=>x9 hD hF hb k ψ hψ
   have same:bO v=true->CV w D v ψ x fp->bR v=true->CV w D' v (fun _=>none) x []:=fun hn h hi=>by
    have hf:=kh v ψ x fp hn h;subst hf;exact c8 hD _ _ _ _ _ (fun _ _=>rfl) (fun id hm=>by rw[gx id v hi] at hm;cases hm) h
   cases v with
   | undef=>simp[aP,CV]
   | v y=>simp only[aP];exact same rfl h rfl
   | rp s es i j=>simp only[aP];exact same rfl h rfl
   | ro s es=>simp only[aP];exact same rfl h rfl
   | ref id i j =>
     simp only[CV] at h;obtain ⟨_,p,hp0,rfl⟩:=h;have hψ':ψ=φ:=hψ.resolve_right (fun e=>by rw[e] at hp0;cases hp0);subst hψ';simp only[aP];split
     ·rename_i blk hbl;rcases hb id blk hbl with ⟨q,_⟩ | ⟨p1,arr,ty,f',q1,q2,q3,q4,q5,q6⟩
      ·rw[hp0] at q;cases q
      ·rw[hp0] at q1;cases q1;simp only[CV];refine⟨trivial,p.b,p.o,arr,by rw[q2],hF id p.b (by rw[q5];exact List.mem_cons_self),q4.blk,?_,jE (fH hp k) _⟩;exact QG (ih ψ (.inl rfl)) _ _ f' (fun b hb'=>hF id b (by rw[q5];exact List.mem_cons_of_mem _ hb')) q6
     ·simp[CV]
   | sl id i n =>
     simp only[CV] at h;simp only[aP];split
     ·rename_i blk hbl;split
      ·rename_i hle;have hlen:(((blk.es.drop i).take n).map (aP hp k)).length=n:=by rw[List.length_map,List.length_take,List.length_drop];omega
       simp only[CV];refine⟨trivial,?_⟩;obtain ⟨_,⟨hφ,rfl,rfl,rfl⟩ | ⟨p0,o',cap,hp0,rfl,hnc,hcm,hcap⟩⟩:=h
       ·exact .inl ⟨by simp,none,0,rfl,Nat.zero_le _⟩
       ·by_cases hn:n=0
        ·subst hn;exact .inl ⟨by simp,_,cap,rfl,hcm⟩
        ·have hψ':ψ=φ:=hψ.resolve_right (fun e=>by rw[e] at hp0;cases hp0);subst hψ';rcases hb id blk hbl with ⟨q,_⟩ | ⟨p1,arr,ty,f',q1,q2,q3,q4,q5,q6⟩
         ·rw[hp0] at q;cases q
         ·rw[hp0] at q1;cases q1;obtain ⟨ho,_⟩:=hcap.resolve_left (by omega);refine .inr ⟨p0.b,o',cap,arr,by rw[hlen],by rw[hlen];exact hnc,hcm,hF id p0.b (by rw[q5];exact List.mem_cons_self),q4.blk,?_,jE (fH hp k) _⟩;have hm:=QG (D':=D') (ψ:=fun _=>none) (f:=aP hp k) (ih ψ (.inl rfl)) _ _ f' (fun b hb'=>hF id b (by rw[q5];exact List.mem_cons_of_mem _ hb')) q6;have h3:=A1 n (KL i hm);rw[List.drop_drop] at h3;rw[List.map_take,List.map_drop,ho,q2];exact h3
      ·simp[CV]
     ·simp[CV]
   | own s es =>
     simp only[CV] at h;simp only[aP,CV];refine⟨trivial,?_⟩;rcases h with ⟨rfl,rfl,rfl⟩ | ⟨b,o,cap,arr,ty,fp',rfl,h2,h3,h4,h5,rfl,h7,h8⟩
     ·exact .inl ⟨rfl,none,0,rfl,Nat.zero_le _⟩
     ·refine .inr ⟨b,o,cap,arr,by simp,by simpa using h2,h3,hfp b List.mem_cons_self,h5.blk,?_,jE (fH hp k) _⟩;exact QG (ih _ (.inr rfl)) _ _ fp' (fun b hb'=>hfp b (List.mem_cons_of_mem _ hb')) h7
   | agg cs =>
     simp only[CV] at h;obtain ⟨xs,rfl,h⟩:=h;simp only[aP,CV];exact⟨xs,rfl,KP (ih ψ hψ) cs _ fp hfp h⟩
   | tup cs =>
     simp only[CV] at h;obtain ⟨xs,rfl,h⟩:=h;simp only[aP,CV];exact⟨xs,rfl,KP (ih ψ hψ) cs _ fp hfp h⟩
   | clo f cs =>
     simp only[CV] at h;obtain ⟨xs,rfl,h⟩:=h;simp only[aP,CV];exact⟨xs,rfl,KP (ih ψ hψ) cs _ fp hfp h⟩
end
mutual
def gp (hp:Nat->Option Blk):V->Option (Prop×V×List Nat)
 | .sl id i n=>match hp id with
   | some b=>if aC b.es then some (i=0/\n=b.es.length,.own b.s b.es,[id]) else none
   | none=>none
 | .agg cs=>match Ct hp cs with
   | some (p,vs,ids)=>some (p,.agg vs,ids)
   | none=>none
 | .tup cs=>match Ct hp cs with
   | some (p,vs,ids)=>some (p,.tup vs,ids)
   | none=>none
 | .v x=>some (True,.v x,[])
 | .ro s es=>some (True,.ro s es,[])
 | .rp s es i j=>some (True,.rp s es i j,[])
 | _=>none
def Ct (hp:Nat->Option Blk):List V->Option (Prop×List V×List Nat)
 | []=>some (True,[],[])
 | c::cs=>match gp hp c,Ct hp cs with
   | some (p,v,ids),some (q,vs,ids')=>some (p/\q,v::vs,ids++ids')
   | _,_=>none
end
section
variable {w : World} {D : Nat → Prop} {φ : Nat → Option Pl} {F : Nat → List Nat} {hp : Nat → Option Blk}
omit [GI] in
mutual
theorem HD (hb:∀ id blk,hp id=some blk->cM w D φ id blk (F id)):∀ (v:V) (x:Value) (p:Prop) (v':V) (ids:List Nat),gp hp v=some (p,v',ids)->p->CV w D v φ x []->CV w D v' (fun _=>none) x (ids.flatMap F)
 | .undef,x,p,v',ids,hg,hp',h=>by simp[gp] at hg
 | .ref _ _ _,x,p,v',ids,hg,hp',h=>by simp[gp] at hg
 | .own _ _,x,p,v',ids,hg,hp',h=>by simp[gp] at hg
 | .clo _ _,x,p,v',ids,hg,hp',h=>by simp[gp] at hg
 | .v y,x,p,v',ids,hg,hp',h=>by
   simp only[gp,Option.some.injEq,Prod.mk.injEq] at hg;obtain ⟨_,rfl,rfl⟩:=hg;simpa [CV] using h
 | .ro s es,x,p,v',ids,hg,hp',h=>by
   simp only[gp,Option.some.injEq,Prod.mk.injEq] at hg;obtain ⟨_,rfl,rfl⟩:=hg;simp only[CV] at h ⊢;exact⟨rfl,h.2⟩
 | .rp s es i j,x,p,v',ids,hg,hp',h=>by
   simp only[gp,Option.some.injEq,Prod.mk.injEq] at hg;obtain ⟨_,rfl,rfl⟩:=hg;simp only[CV] at h ⊢;exact⟨rfl,h.2⟩
 | .agg cs,x,p,v',ids,hg,hp',h=>by
   simp only[gp] at hg;split at hg<;>simp only[Option.some.injEq,Prod.mk.injEq,reduceCtorEq] at hg;rename_i q vs ids' e;obtain ⟨rfl,rfl,rfl⟩:=hg;simp only[CV] at h ⊢;obtain ⟨xs,rfl,h⟩:=h;exact⟨xs,rfl,Rz hb cs _ _ _ _ e hp' h⟩
 | .tup cs,x,p,v',ids,hg,hp',h=>by
   simp only[gp] at hg;split at hg<;>simp only[Option.some.injEq,Prod.mk.injEq,reduceCtorEq] at hg;rename_i q vs ids' e;obtain ⟨rfl,rfl,rfl⟩:=hg;simp only[CV] at h ⊢;obtain ⟨xs,rfl,h⟩:=h;exact⟨xs,rfl,Rz hb cs _ _ _ _ e hp' h⟩
 | .sl id i n,x,p,v',ids,hg,hp',h=>by
   simp only[gp] at hg;split at hg
   ·rename_i blk hbl;split at hg
    ·rename_i hni;simp only[Option.some.injEq,Prod.mk.injEq] at hg;obtain ⟨rfl,rfl,rfl⟩:=hg;obtain ⟨rfl,rfl⟩:=hp';simp only[CV,List.flatMap_cons,List.flatMap_nil,List.append_nil] at h ⊢;obtain ⟨_,⟨hφ,_,hn,rfl⟩ | ⟨p0,o',cap,hp0,rfl,hnc,hcm,hcap⟩⟩:=h
     ·rcases hb id blk hbl with ⟨_,q⟩ | ⟨p1,arr,ty,f',q1,q2,q3,q4,q5,q6⟩
      ·obtain ⟨q,q'⟩:=q.nil (by omega);exact .inl ⟨q,rfl,q'⟩
      ·rw[hφ] at q1;cases q1
     ·rcases hb id blk hbl with ⟨q,_⟩ | ⟨p1,arr,ty,f',q1,q2,q3,q4,q5,q6⟩
      ·rw[hp0] at q;cases q
      ·rw[hp0] at q1;cases q1;have q6':=cr (w':=w) (D':=D) (fun _ hb=>hb) _ _ _ (fun _=>none) _ _ (fun _ _=>rfl) (fun id hm=>by rw[cS id _ hni] at hm;cases hm) q6;refine .inr ⟨p0.b,o',cap,arr,ty,f',rfl,hnc,hcm,?_,q4,q5,?_,hni⟩
       ·rcases hcap with hc | ⟨ho,hz⟩
        ·exact .inl hc
        ·exact .inr (by rw[ho,<- q3,<- q2];simpa using hz)
       ·rcases hcap with hc | ⟨ho,hz⟩
        ·have:blk.es=[]:=List.eq_nil_of_length_eq_zero (by omega);rw[this] at q6' ⊢;simpa [CR] using q6'
        ·rw[ho];simpa using q6'
    ·cases hg
   ·cases hg
theorem Rz (hb:∀ id blk,hp id=some blk->cM w D φ id blk (F id)):∀ (cs:List V) (xs:List Value) (p:Prop) (vs:List V) (ids:List Nat),Ct hp cs=some (p,vs,ids)->p->cg w D cs φ xs []->cg w D vs (fun _=>none) xs (ids.flatMap F)
 | [],xs,p,vs,ids,hg,hp',h=>by
   simp only[Ct,Option.some.injEq,Prod.mk.injEq] at hg;obtain ⟨_,rfl,rfl⟩:=hg;simp only[cg] at h ⊢;exact⟨h.1,rfl⟩
 | c::cs,xs,p,vs,ids,hg,hp',h=>by
   simp only[Ct] at hg;split at hg<;>simp only[Option.some.injEq,Prod.mk.injEq,reduceCtorEq] at hg;rename_i p1 v ids1 q vs' ids' e1 e2;obtain ⟨rfl,rfl,rfl⟩:=hg;simp only[cg] at h;obtain ⟨x,xs',f1,f2,rfl,hf,h1,h2⟩:=h;have hf:=List.append_eq_nil_iff.1 hf.symm;obtain ⟨rfl,rfl⟩:=hf;simp only[cg,List.flatMap_append];exact⟨x,xs',_,_,rfl,rfl,HD hb c _ _ _ _ e1 hp'.1 h1,Rz hb cs _ _ _ _ e2 hp'.2 h2⟩
end
end
theorem cG {X:Ctx} {s:St} {a:Act} {w:World} {D:Nat->Prop} {φ:Nat->Option Pl} {F:Nat->List Nat} (h:RelD X s a w D φ F []):∀ (ids:List Nat),ids.Nodup->(ids.flatMap F).Nodup
 | [],_=>by simp
 | i::ids,hn=>by
   rw[List.nodup_cons] at hn;rw[List.flatMap_cons,List.nodup_append];refine⟨h.nodup i,cG h ids hn.2,fun b hb c hc e=>?_⟩;subst e;obtain ⟨j,hj,hbj⟩:=List.mem_flatMap.1 hc;exact h.sep i j (fun e=>hn.1 (e▸hj)) b hb hbj
end Go.Abs
namespace Go.Abs
variable [GI]
mutual
def b9 (d:Nat):Nat->V->V×List (Nat×Blk)×Nat
 | k,.own s es=>(.sl (d+1000 * k) 0 es.length,[(d+1000 * k,⟨s,es⟩)],k+1)
 | k,.agg cs=>(.agg (takes d k cs).1,(takes d k cs).2.1,(takes d k cs).2.2)
 | k,.tup cs=>(.tup (takes d k cs).1,(takes d k cs).2.1,(takes d k cs).2.2)
 | k,v=>(v,[],k)
def takes (d:Nat):Nat->List V->List V×List (Nat×Blk)×Nat
 | k,[]=>([],[],k)
 | k,c::cs=>((b9 d k c).1::(takes d (b9 d k c).2.2 cs).1,(b9 d k c).2.1++(takes d (b9 d k c).2.2 cs).2.1,(takes d (b9 d k c).2.2 cs).2.2)
end
mutual
def cn:V->Bool
 | .sl _ _ _=>false
 | .ref _ _ _=>false
 | .clo _ _=>false
 | .agg cs=>He cs
 | .tup cs=>He cs
 | _=>true
def He:List V->Bool
 | []=>true
 | c::cs=>cn c&&He cs
end
def qV (f:Nat->Option Blk):List (Nat×Blk)->Nat->Option Blk
 | []=>f
 | (i,b)::l=>qV (ca f i (some b)) l
omit [GI] in
theorem Hr (f:Nat->Option Blk):∀ (l l':List (Nat×Blk)),qV f (l++l')=qV (qV f l) l'
 | [],l'=>rfl
 | (i,b)::l,l'=>by simp only[List.cons_append,qV];exact Hr _ l l'
mutual
def fx:V->Bool
 | .ro _ es=>es.isEmpty
 | .rp _ _ _ _=>false
 | .own _ es=>d8 es
 | .agg cs=>d8 cs
 | .tup cs=>d8 cs
 | .clo _ cs=>d8 cs
 | _=>true
def d8:List V->Bool
 | []=>true
 | c::cs=>fx c&&d8 cs
end
omit [GI] in
mutual
theorem Hw {w:World} {D D':Nat->Prop}:∀ (v:V) (φ:Nat->Option Pl) (x:Value) (fp:List Nat),fx v=true->CV w D v φ x fp->CV w D' v φ x fp
 | .undef,φ,x,fp,_,h=>by simpa [CV] using h
 | .v y,φ,x,fp,_,h=>by simpa [CV] using h
 | .ref _ _ _,φ,x,fp,_,h=>by simpa [CV] using h
 | .sl _ _ _,φ,x,fp,_,h=>by simpa [CV] using h
 | .rp _ _ _ _,φ,x,fp,hn,h=>by simp[fx] at hn
 | .ro s es,φ,x,fp,hn,h=>by
   simp only[fx,List.isEmpty_iff] at hn;subst hn;simp only[CV] at h ⊢;obtain ⟨hf,⟨_,h⟩ | ⟨b,o,cap,arr,h1,h2,h3,h4⟩⟩:=h
   ·exact⟨hf,.inl ⟨trivial,h⟩⟩
   ·exact⟨hf,.inl ⟨trivial,_,cap,by simpa using h1,h3⟩⟩
 | .own s es,φ,x,fp,hn,h=>by
   simp only[fx] at hn;simp only[CV] at h ⊢;rcases h with h | ⟨b,o,cap,arr,ty,fp',h1,h2,h3,h4,h5,h6,h7,h8⟩
   ·exact .inl h
   ·exact .inr ⟨b,o,cap,arr,ty,fp',h1,h2,h3,h4,h5,h6,Qu s es _ _ _ hn h7,h8⟩
 | .agg cs,φ,x,fp,hn,h=>by
   simp only[fx] at hn;simp only[CV] at h ⊢;obtain ⟨xs,h1,h2⟩:=h;exact⟨xs,h1,KS cs _ _ _ hn h2⟩
 | .tup cs,φ,x,fp,hn,h=>by
   simp only[fx] at hn;simp only[CV] at h ⊢;obtain ⟨xs,h1,h2⟩:=h;exact⟨xs,h1,KS cs _ _ _ hn h2⟩
 | .clo _ cs,φ,x,fp,hn,h=>by
   simp only[fx] at hn;simp only[CV] at h ⊢;obtain ⟨xs,h1,h2⟩:=h;exact⟨xs,h1,KS cs _ _ _ hn h2⟩
theorem KS {w:World} {D D':Nat->Prop}:∀ (cs:List V) (φ:Nat->Option Pl) (xs:List Value) (fp:List Nat),d8 cs=true->cg w D cs φ xs fp->cg w D' cs φ xs fp
 | [],φ,xs,fp,_,h=>by simpa [cg] using h
 | c::cs,φ,xs,fp,hn,h=>by
   simp only[d8,Bool.and_eq_true] at hn;simp only[cg] at h ⊢;obtain ⟨x,xs',f1,f2,h1,h2,h3,h4⟩:=h;exact⟨x,xs',f1,f2,h1,h2,Hw c _ _ _ hn.1 h3,KS cs _ _ _ hn.2 h4⟩
theorem Qu {w:World} {D D':Nat->Prop} (s:Nat):∀ (cs:List V) (φ:Nat->Option Pl) (xs:List Value) (fp:List Nat),d8 cs=true->CR w D s cs φ xs fp->CR w D' s cs φ xs fp
 | [],φ,xs,fp,_,h=>by simpa [CR] using h
 | c::cs,φ,xs,fp,hn,h=>by
   simp only[d8,Bool.and_eq_true] at hn;simp only[CR] at h ⊢;obtain ⟨x,xs',f1,f2,h1,h0,h2,h3,h4⟩:=h;exact⟨x,xs',f1,f2,h1,h0,h2,Hw c _ _ _ hn.1 h3,Qu s cs _ _ _ hn.2 h4⟩
end
omit [GI] in
theorem Ch (hp:Nat->Option Blk):∀ (k:Nat) (v:V),bR v=true->bO v=true->aP hp k v=aP (fun _=>none) k v
 | 0,v,_,_=>rfl
 | k+1,v,hi,ho=>by
   have hall:∀ cs:List V,aC cs=true->bb cs=true->cs.map (aP hp k)=cs.map (aP (fun _=>none) k):=by
    intro cs
    induction cs with
    | nil=>intros;rfl
    | cons c cs ih =>
      intro h1 h2;simp only[aC,bb,Bool.and_eq_true] at h1 h2;simp[Ch hp k c h1.1 h2.1,ih h1.2 h2.2]
   cases v with
   | undef=>rfl
   | v y=>rfl
   | rp s es i j=>rfl
   | ro s es=>rfl
   | ref id i j=>simp[bR] at hi
   | sl id i n=>simp[bR] at hi
   | own s es=>simp[bO] at ho
   | agg cs=>simp only[aP];rw[hall cs (by simpa [bR] using hi) (by simpa [bO] using ho)]
   | tup cs=>simp only[aP];rw[hall cs (by simpa [bR] using hi) (by simpa [bO] using ho)]
   | clo f cs=>simp only[aP];rw[hall cs (by simpa [bR] using hi) (by simpa [bO] using ho)]
section
variable {X : Ctx} {a : Act} {w : World} {D : Nat → Prop}
omit [GI] in
mutual
theorem Vq (d:Nat):∀ (v:V) (k:Nat),k<=(b9 d k v).2.2
 | .own s es,k=>by simp[b9]
 | .agg cs,k=>by simp only[b9];exact Hq d cs k
 | .tup cs,k=>by simp only[b9];exact Hq d cs k
 | .undef,k | .v _,k | .ref _ _ _,k | .sl _ _ _,k | .rp _ _ _ _,k | .ro _ _,k | .clo _ _,k=>by simp[b9]
theorem Hq (d:Nat):∀ (cs:List V) (k:Nat),k<=(takes d k cs).2.2
 | [],k=>by simp[takes]
 | c::cs,k=>by simp only[takes];exact Nat.le_trans (Vq d c k) (Hq d cs _)
end
structure Took (X:Ctx) (s:St) (a:Act) (w:World) (D:Nat->Prop) (φ:Nat->Option Pl) (F:Nat->List Nat) (G:List Nat) (d k k':Nat) (l:List (Nat×Blk)) (φ':Nat->Option Pl) (F':Nat->List Nat):Prop where
 rel:RelD X { s with hp:=qV s.hp l } a w D φ' F' G
 same:∀ id,(∀ i,k<=i->i < k'->id≠d+1000 * i)->φ' id=φ id
 fresh:∀ j,Fresh s (d+1000 * j)->(∀ i,k<=i->i < k'->j≠i)->Fresh { s with hp:=qV s.hp l } (d+1000 * j)
 sameF:∀ id,(∀ i,k<=i->i < k'->id≠d+1000 * i)->F' id=F id
mutual
theorem xd {d:Nat}:∀ (v:V) (k:Nat) (s:St) (φ:Nat->Option Pl) (F:Nat->List Nat) (x:Value) (fp G:List Nat),cn v=true->RelD X s a w D φ F (fp++G)->CV w D v (fun _=>none) x fp ->
  (∀ i,k<=i->i < (b9 d k v).2.2->Fresh s (d+1000 * i)/\d+1000 * i ∉ X.pin) ->
  ∃ φ' F',Took X s a w D φ F G d k (b9 d k v).2.2 (b9 d k v).2.1 φ' F'/\CV w D (b9 d k v).1 φ' x []/\(∀ id,bI id (b9 d k v).1=true->∃ i,k<=i/\i < (b9 d k v).2.2/\id=d+1000 * i)
 | .own sz es,k,s,φ,F,x,fp,G,hro,h,hv,hf=>by
   simp only[b9] at hf ⊢;obtain ⟨hfr,hpin⟩:=hf k (Nat.le_refl _) (Nat.lt_succ_self _)
   have hmem:∀ id,bI id (.sl (d+1000 * k) 0 es.length)=true->∃ i,k<=i/\i < k+1/\id=d+1000 * i:=fun id hm=>by
    simp only[bI,beq_iff_eq] at hm;exact⟨k,Nat.le_refl _,Nat.lt_succ_self _,hm.symm⟩
   have hsame:∀ (pl:Option Pl) id,(∀ i,k<=i->i < k+1->id≠d+1000 * i)->ca φ (d+1000 * k) pl id=φ id:=fun pl id hi=>bC _ _ (hi k (Nat.le_refl _) (Nat.lt_succ_self _));have hsameF:∀ (fl:List Nat) id,(∀ i,k<=i->i < k+1->id≠d+1000 * i)->ca F (d+1000 * k) fl id=F id:=fun fl id hi=>bC _ _ (hi k (Nat.le_refl _) (Nat.lt_succ_self _))
   have hfresh:∀ (hni:∀ j,a7 (d+1000 * j) es=false) j,Fresh s (d+1000 * j)->(∀ i,k<=i->i < k+1->j≠i)->Fresh { s with hp:=qV s.hp [(d+1000 * k,⟨sz,es⟩)] } (d+1000 * j):=fun hni j hj hne=>by
    have hjk:j≠k:=hne k (Nat.le_refl _) (Nat.lt_succ_self _);refine⟨hj.sl,fun id blk hb=>?_,?_⟩
    ·simp only[qV] at hb;by_cases e:id=d+1000 * k
     ·rw[e,bQ] at hb;cases hb;exact hni j
     ·rw[bC _ _ e] at hb;exact hj.hp id blk hb
    ·simp only[qV];rw[bC _ _ (by omega)];exact hj.no
   simp only[CV] at hv;rcases hv with ⟨rfl,rfl,rfl⟩ | ⟨b,o,cap,arr,ty,fp',rfl,h2,h3,h4,h5,rfl,h7,h8⟩
   ·refine⟨_,_,⟨RelD.settle (f:=[]) h (d+1000 * k) hfr hpin none ⟨sz,[]⟩ (.inl ⟨by simp,.inl ⟨rfl,rfl⟩⟩),hsame none,hfresh fun _=>rfl,hsameF _⟩,?_,hmem⟩;simp[CV]
   ·refine⟨_,_,⟨RelD.settle h (d+1000 * k) hfr hpin (some ⟨b,o,sz,arr.size⟩) ⟨sz,es⟩ (.inr ⟨⟨b,o,sz,arr.size⟩,arr,ty,fp',by simp,rfl,rfl,h5,rfl,?_⟩),hsame _,hfresh fun j=>cS _ _ h8,hsameF _⟩,?_,hmem⟩
    ·exact cr (fun _ hb=>hb) _ _ _ _ _ _ (fun _ _=>rfl) (fun id hm=>by rw[cS id es h8] at hm;cases hm) h7
    ·simp only[CV,bQ];refine⟨trivial,.inr ⟨_,o,cap,rfl,rfl,h2,h3,?_⟩⟩;rcases h4 with h4 | h4
     ·exact .inl h4
     ·exact .inr ⟨by simp,by simpa using h4⟩
 | .agg cs,k,s,φ,F,x,fp,G,hro,h,hv,hf=>by
   simp only[b9] at hf ⊢;simp only[CV] at hv;obtain ⟨xs,rfl,hv⟩:=hv;obtain ⟨φ',F',h1,h2,h3⟩:=Sq cs k s φ F xs.toList fp G (by simpa [cn] using hro) h hv hf;exact⟨φ',F',h1,by simp only[CV];exact⟨xs,rfl,h2⟩,fun id hm=>h3 id (by simpa [bI] using hm)⟩
 | .tup cs,k,s,φ,F,x,fp,G,hro,h,hv,hf=>by
   simp only[b9] at hf ⊢;simp only[CV] at hv;obtain ⟨xs,rfl,hv⟩:=hv;obtain ⟨φ',F',h1,h2,h3⟩:=Sq cs k s φ F xs.toList fp G (by simpa [cn] using hro) h hv hf;exact⟨φ',F',h1,by simp only[CV];exact⟨xs,rfl,h2⟩,fun id hm=>h3 id (by simpa [bI] using hm)⟩
 | .undef,k,s,φ,F,x,fp,G,hro,h,hv,hf=>by
   simp only[b9] at hf ⊢;simp only[CV] at hv;subst hv;exact⟨φ,F,⟨h,fun _ _=>rfl,fun j hj _=>hj,fun _ _=>rfl⟩,by simp[CV],fun id hm=>by simp[bI] at hm⟩
 | .v y,k,s,φ,F,x,fp,G,hro,h,hv,hf=>by
   simp only[b9] at hf ⊢;have hfp:fp=[]:=kh _ _ _ _ rfl hv;subst hfp;exact⟨φ,F,⟨h,fun _ _=>rfl,fun j hj _=>hj,fun _ _=>rfl⟩,by simpa [CV] using hv,fun id hm=>by simp[bI] at hm⟩
 | .ref id i j,k,s,φ,F,x,fp,G,hro,h,hv,hf=>by
   simp only[CV] at hv;obtain ⟨_,p,hp,_⟩:=hv;cases hp
 | .sl id i n,k,s,φ,F,x,fp,G,hro,h,hv,hf=>by
   simp[cn] at hro
 | .rp s' es i j,k,s,φ,F,x,fp,G,hro,h,hv,hf=>by
   simp only[b9] at hf ⊢;have hfp:fp=[]:=kh _ _ _ _ rfl hv;subst hfp;exact⟨φ,F,⟨h,fun _ _=>rfl,fun j hj _=>hj,fun _ _=>rfl⟩,by simpa [CV] using hv,fun id hm=>by simp[bI] at hm⟩
 | .ro s' es,k,s,φ,F,x,fp,G,hro,h,hv,hf=>by
   simp only[b9] at hf ⊢;have hfp:fp=[]:=kh _ _ _ _ rfl hv;subst hfp;exact⟨φ,F,⟨h,fun _ _=>rfl,fun j hj _=>hj,fun _ _=>rfl⟩,by simpa [CV] using hv,fun id hm=>by simp[bI] at hm⟩
 | .clo g cs,k,s,φ,F,x,fp,G,hro,h,hv,hf=>by
   simp[cn] at hro
theorem Sq {d:Nat}:∀ (cs:List V) (k:Nat) (s:St) (φ:Nat->Option Pl) (F:Nat->List Nat) (xs:List Value) (fp G:List Nat),He cs=true->RelD X s a w D φ F (fp++G)->cg w D cs (fun _=>none) xs fp ->
  (∀ i,k<=i->i < (takes d k cs).2.2->Fresh s (d+1000 * i)/\d+1000 * i ∉ X.pin) ->
  ∃ φ' F',Took X s a w D φ F G d k (takes d k cs).2.2 (takes d k cs).2.1 φ' F'/\cg w D (takes d k cs).1 φ' xs []/\(∀ id,a7 id (takes d k cs).1=true->∃ i,k<=i/\i < (takes d k cs).2.2/\id=d+1000 * i)
 | [],k,s,φ,F,xs,fp,G,hro,h,hv,hf=>by
   simp only[cg] at hv;obtain ⟨rfl,rfl⟩:=hv;simp only[takes] at hf ⊢;exact⟨φ,F,⟨h,fun _ _=>rfl,fun j hj _=>hj,fun _ _=>rfl⟩,jO,fun id hm=>by simp[a7] at hm⟩
 | c::cs,k,s,φ,F,xs,fp,G,hro,h,hv,hf=>by
   simp only[cg] at hv;obtain ⟨x,xs',f1,f2,rfl,rfl,h1,h2⟩:=hv;simp only[takes] at hf ⊢;simp only[He,Bool.and_eq_true] at hro;have hle1:=Vq d c k;have hle2:=Hq d cs (b9 d k c).2.2;rw[List.append_assoc] at h;obtain ⟨φ1,F1,t1,t2,t3⟩:=xd c k s φ F x f1 (f2++G) hro.1 h h1 (fun i hi hi'=>hf i hi (Nat.lt_of_lt_of_le hi' hle2))
   obtain ⟨φ2,F2,u1,u2,u3⟩:=Sq cs (b9 d k c).2.2 _ φ1 F1 xs' f2 G hro.2 t1.rel h2 (fun i hi hi'=>by
    have:=hf i (Nat.le_trans hle1 hi) hi';exact⟨t1.fresh i this.1 (fun j hj hj'=>by omega),this.2⟩)
   refine⟨φ2,F2,⟨?_,fun id hid=>?_,fun j hj hne=>?_,fun id hid=>?_⟩,?_,fun id hm=>?_⟩
   ·rw[Hr];exact u1.rel
   ·rw[u1.same id (fun i hi hi'=>hid i (Nat.le_trans hle1 hi) hi'),t1.same id (fun i hi hi'=>hid i hi (Nat.lt_of_lt_of_le hi' hle2))]
   ·rw[Hr];exact u1.fresh j (t1.fresh j hj (fun i hi hi'=>hne i hi (Nat.lt_of_lt_of_le hi' hle2))) (fun i hi hi'=>hne i (Nat.le_trans hle1 hi) hi')
   ·rw[u1.sameF id (fun i hi hi'=>hid i (Nat.le_trans hle1 hi) hi'),t1.sameF id (fun i hi hi'=>hid i hi (Nat.lt_of_lt_of_le hi' hle2))]
   ·simp only[cg];refine⟨x,xs',[],[],rfl,rfl,c8 (fun _ hb=>hb) _ _ _ _ _ (fun _ _=>rfl) (fun id hm=>u1.same id fun i hi hi'=>?_) t2,u2⟩;obtain ⟨j,hj,hj',rfl⟩:=t3 id hm;omega
   ·simp only[a7,Bool.or_eq_true] at hm;rcases hm with hm | hm
    ·obtain ⟨i,hi,hi',rfl⟩:=t3 id hm;exact⟨i,hi,Nat.lt_of_lt_of_le hi' hle2,rfl⟩
    ·obtain ⟨i,hi,hi',rfl⟩:=u3 id hm;exact⟨i,Nat.le_trans hle1 hi,hi',rfl⟩
end
def St.took (s:St) (d:Nat) (res:V):St:={ sl:=ca s.sl d (b9 d 0 res).1,hp:=qV s.hp (b9 d 0 res).2.1 }
theorem XX {X:Ctx} {s:St} {φ:Nat->Option Pl} {F:Nat->List Nat} (h:RelD X s a w D φ F []) {D':Nat->Prop} (hD:∀ b,D b->D' b) (hF:∀ id b,b ∈ F id->D' b) (k:Nat) :
  ∀ (vs:List V) (xs:List Value),cg w D vs φ xs []->cg w D' (vs.map (aP s.hp k)) (fun _=>none) xs []:=fun vs xs hv =>
 KP (fun v x fp hfp hc=>x9 hD hF h.blks k φ (.inl rfl) v x fp hfp hc) vs xs [] (by simp) hv
omit [GI] in
theorem QI {φ:Nat->Option Pl} (hp:Nat->Option Blk) (k:Nat):∀ (vs:List V) (xs:List Value),aC vs=true->bb vs=true->cg w D vs φ xs []->cg w D (vs.map (aP hp k)) (fun _=>none) xs []
 | [],xs,_,_,h=>by simpa [cg] using h
 | v::vs,xs,hi,ho,h=>by
   simp only[aC,bb,Bool.and_eq_true] at hi ho;simp only[cg] at h;obtain ⟨x,xs',f1,f2,rfl,hf,h1,h2⟩:=h;have hf:=List.append_eq_nil_iff.1 hf.symm;obtain ⟨rfl,rfl⟩:=hf;simp only[List.map_cons,cg];refine⟨x,xs',[],[],rfl,rfl,?_,QI hp k vs xs' hi.2 ho.2 h2⟩;rw[Ch hp k v hi.1 ho.1];exact x9 (F:=fun _=>[]) (hp:=fun _=>none) (fun _ hb=>hb) (by simp) (by simp) k φ (.inl rfl) v x [] (by simp) h1
theorem Zk {P:Program} {X:Ctx} {s:St} {f d k:Nat} {vs:List V} {res:V} {xs:List Value} (hP:aa P f (vs.map (aP s.hp k)) res) (h:Cg X s a w) (hv:∀ D φ F,RelD X s a w D φ F []->cg w D vs φ xs [])
  (hd:d < X.n) (hres:cn res=true) (hro:fx res=true\/(aC vs=true/\bb vs=true)) (hf:∀ i,i < (b9 d 0 res).2.2->Fresh s (d+1000 * i)/\d+1000 * i ∉ X.pin) :
  Calls P f xs.toArray w fun e w'=>∃ y,e=.returned y/\Cg X (s.took d res) (a.put (some d) y) w':=by
 obtain ⟨D,φ,F,h⟩:=h;have hvs:=hv D φ F h
 have finish:∀ (D2:Nat->Prop) (w':World) (y:Value) (fp:List Nat),Grow w D [] w' D2->CV w' D2 res (fun _=>none) y fp->fp.Nodup->(∀ b,b ∈ fp->w.heap.size<=b/\b < w'.heap.size/\¬D2 b)->Cg X (s.took d res) (a.put (some d) y) w':=by
  intro D2 w' y fp hg hc hn hfr;have h1:=h.grow w' D2 fp hg.os hg.tape hg.output hg.size (fun b hb=>hg.old b hb (by simp)) hg.Dup (fun b hb=>⟨(hg.Ddn b hb).imp id fun h=>h.resolve_right (by simp),hg.Dlt b hb⟩) hn hfr;rw[List.nil_append,<- List.append_nil fp] at h1;obtain ⟨φ',F',t1,t2,_⟩:=xd (d:=d) res 0 s φ F y fp [] hres h1 hc (fun i _ hi=>hf i hi);exact⟨D2,φ',F',t1.rel.put d hd _ _ t2⟩
 rcases hro with hro | hdir
 ·
  have hargs:=XX h (D':=fun b=>b < w.heap.size) (fun b hb=>h.Dlt b hb) (fun id b hb=>(h.notD id b hb).2.1) k vs xs hvs;refine(hP.2 w (fun b=>b < w.heap.size) xs (fun _ hb=>hb) (GI.mono h.gi (fun b hb=>h.Dlt b hb) fun _ _=>rfl) hargs).mono ?_;rintro e w' ⟨y,D',fp,rfl,hg,hc,hn,hfr⟩;refine⟨y,rfl,finish (fun b=>D b\/(w.heap.size<=b/\D' b)) w' y fp ?_ (Hw res _ _ _ hro hc) hn ?_⟩
  ·exact { hg with Dup:=fun b hb=>.inl hb,Ddn:=fun b hb=>hb.imp id fun h=>.inl h.1,Dlt:=fun b hb=>hb.elim (fun hb=>Nat.lt_of_lt_of_le (h.Dlt b hb) hg.size) (fun hb=>hg.Dlt b hb.2) }
  ·intro b hb;have:=hfr b hb;exact⟨this.1,this.2.1,fun hd=>hd.elim (fun hd=>by have:=h.Dlt b hd;omega) (fun hd=>this.2.2 hd.2)⟩
 ·have hargs:=QI s.hp k vs xs hdir.1 hdir.2 hvs;refine(hP.2 w D xs h.Dlt h.gi hargs).mono ?_;rintro e w' ⟨y,D',fp,rfl,hg,hc,hn,hfr⟩;exact⟨y,rfl,finish D' w' y fp hg hc hn hfr⟩
end
end Go.Abs
