/- Parts of the proof that several claims share, part 1. -/
import Derived.Orders
import Derived.Tactics
import Derived.Laws.AppendOwn
import Derived.Laws.Small
import Derived.Laws.StructEq
set_option linter.unusedVariables false
set_option linter.unusedSimpArgs false
namespace Go.Abs
class GI where
 holds:World->(Nat->Prop)->Prop
 mono:∀ {w w':World} {D D':Nat->Prop},holds w D->(∀ b,D b->D' b)->(∀ b,D b->w'.heap[b]?=w.heap[b]?)->holds w' D'
inductive V where
 | undef
 | v (x:Value)
 | ref (id i j:Nat)
 | sl (id i n:Nat)
 | rp (s:Nat) (es:List V) (i j:Nat)
 | ro (s:Nat) (es:List V)
 | own (s:Nat) (es:List V)
 | agg (cs:List V)
 | tup (vs:List V)
 | clo (f:Nat) (caps:List V)
 deriving Inhabited
def bs (l:List UInt8):ByteArray:=⟨l.toArray⟩
structure Pl where
 b:Nat
 o:Nat
 s:Nat
 z:Nat
def Ek (w:World) (b:Nat):Option (Array Value) :=
 match w.heap[b]? with
 | some (.cells c _ _)=>some c
 | _=>none
def Od (arr:Array Value) (fr:Nat×Nat):Prop:=fr=(0,0)\/(0 < arr.size/\arr.size<=fr.1)
theorem Od.size {arr arr':Array Value} {fr:Nat×Nat} (h:Od arr fr) (e:arr'.size=arr.size):Od arr' fr:=by
 unfold Od at h ⊢;rw[e];exact h
def sJ (w:World) (b:Nat) (arr:Array Value) (ty:TypeId):Prop:=∃ fr,Od arr fr/\w.heap[b]?=some (.cells arr ty fr)
theorem sJ.congr {w w':World} {b:Nat} {arr:Array Value} {ty:TypeId} (h:sJ w b arr ty) (e:w'.heap[b]?=w.heap[b]?):sJ w' b arr ty:=by
 obtain ⟨fr,h1,h2⟩:=h;exact⟨fr,h1,e.trans h2⟩
theorem sJ.of {w:World} {b:Nat} {arr:Array Value} {ty:TypeId} (h:w.heap[b]?=some (.cells arr ty (0,0))):sJ w b arr ty:=⟨_,.inl rfl,h⟩
theorem sJ.lt {w:World} {b:Nat} {arr:Array Value} {ty:TypeId} (h:sJ w b arr ty):b < w.heap.size:=by
 obtain ⟨fr,h1,h2⟩:=h;exact(Array.getElem?_eq_some_iff.1 h2).1
theorem sJ.blk {w:World} {b:Nat} {arr:Array Value} {ty:TypeId} (h:sJ w b arr ty):Ek w b=some arr:=by
 obtain ⟨fr,h1,h2⟩:=h;unfold Ek;rw[h2]
def one:Value->Bool
 | .agg _=>false
 | .tuple _=>false
 | .string b=>decide (b.size<=9223372036854775807)
 | _=>true
mutual
def bR:V->Bool
 | .ref _ _ _=>false
 | .sl _ _ _=>false
 | .agg cs=>aC cs
 | .tup cs=>aC cs
 | .clo _ cs=>aC cs
 | _=>true
def aC:List V->Bool
 | []=>true
 | c::cs=>bR c&&aC cs
end
mutual
def CV (w:World) (D:Nat->Prop):V->(Nat->Option Pl)->Value->List Nat->Prop
 | .undef,_,_,fp=>fp=[]
 | .v y,_,x,fp=>x=y/\one y=true/\fp=[]
 | .ref id i j,φ,x,fp=>fp=[]/\∃ p,φ id=some p/\x=.pointer (some ⟨p.b,p.o+(i * p.s+j),none⟩)
 | .sl id i n,φ,x,fp=>fp=[]/\((φ id=none/\i=0/\n=0/\x=.slice none 0 0) \/
   ∃ p o cap,φ id=some p/\x=.slice (some ⟨p.b,o,none⟩) n cap/\n<=cap/\cap<=maxLen /\
    (cap=0\/(o=p.o+i * p.s/\p.o+(i+cap) * p.s<=p.z)))
 | .rp s es i j,_,x,fp=>fp=[]/\∃ b o arr,x=.pointer (some ⟨b,o+(i * s+j),none⟩)/\D b/\Ek w b=some arr /\
   CR w D s es (fun _=>none) (arr.toList.drop o) []/\aC es=true
 | .ro s es,_,x,fp=>fp=[]/\((es=[]/\∃ a cap,x=.slice a 0 cap/\cap<=maxLen) \/
   ∃ b o cap arr,x=.slice (some ⟨b,o,none⟩) es.length cap/\es.length<=cap/\cap<=maxLen/\D b/\Ek w b=some arr /\
    CR w D s es (fun _=>none) (arr.toList.drop o) []/\aC es=true)
 | .own s es,_,x,fp=>(es=[]/\x=.slice none 0 0/\fp=[]) \/
   ∃ b o cap arr ty fp',x=.slice (some ⟨b,o,none⟩) es.length cap/\es.length<=cap/\cap<=maxLen/\(cap=0\/o+cap * s<=arr.size) /\
    sJ w b arr ty/\fp=b::fp'/\CR w D s es (fun _=>none) (arr.toList.drop o) fp'/\aC es=true
 | .agg cs,φ,x,fp=>∃ xs,x=.agg xs/\cg w D cs φ xs.toList fp
 | .tup cs,φ,x,fp=>∃ xs,x=.tuple xs/\cg w D cs φ xs.toList fp
 | .clo f cs,φ,x,fp=>∃ xs,x=.func (.func f) #[] xs/\cg w D cs φ xs.toList fp
def cg (w:World) (D:Nat->Prop):List V->(Nat->Option Pl)->List Value->List Nat->Prop
 | [],_,xs,fp=>xs=[]/\fp=[]
 | c::cs,φ,xs,fp=>∃ x xs' f1 f2,xs=x::xs'/\fp=f1++f2/\CV w D c φ x f1/\cg w D cs φ xs' f2
def CR (w:World) (D:Nat->Prop) (s:Nat):List V->(Nat->Option Pl)->List Value->List Nat->Prop
 | [],_,_,fp=>fp=[]
 | e::es,φ,xs,fp=>∃ x rest f1 f2,xs=x.cells.toList++rest/\(x.cells.size=s/\x.cells.toList.all one=true)/\fp=f1++f2/\CV w D e φ x f1/\CR w D s es φ rest f2
end
mutual
def bI (id:Nat):V->Bool
 | .ref k _ _=>k==id
 | .sl k _ _=>k==id
 | .agg cs=>a7 id cs
 | .tup cs=>a7 id cs
 | .clo _ cs=>a7 id cs
 | _=>false
def a7 (id:Nat):List V->Bool
 | []=>false
 | c::cs=>bI id c||a7 id cs
end
mutual
def bO:V->Bool
 | .own _ _=>false
 | .agg cs=>bb cs
 | .tup cs=>bb cs
 | .clo _ cs=>bb cs
 | _=>true
def bb:List V->Bool
 | []=>true
 | c::cs=>bO c&&bb cs
end
mutual
theorem gx (id:Nat):∀ v:V,bR v=true->bI id v=false
 | .undef,_ | .v _,_ | .rp _ _ _ _,_ | .ro _ _,_ | .own _ _,_=>by simp[bI]
 | .ref _ _ _,h | .sl _ _ _,h=>by simp[bR] at h
 | .agg cs,h | .tup cs,h | .clo _ cs,h=>by simp only[bI];exact cS id cs (by simpa [bR] using h)
theorem cS (id:Nat):∀ cs:List V,aC cs=true->a7 id cs=false
 | [],_=>rfl
 | c::cs,h=>by
   simp only[aC,Bool.and_eq_true] at h;simp[a7,gx id c h.1,cS id cs h.2]
end
theorem Zi {w w':World} {b:Nat} (h:w'.heap[b]?=w.heap[b]?):Ek w' b=Ek w b:=by simp[Ek,h]
theorem jR {w:World} {b:Nat} {arr:Array Value} (h:Ek w b=some arr) (o:Nat):w.cell? ⟨b,o,none⟩=arr[o]?:=by
 unfold Ek at h;unfold World.cell?;split at h<;>simp_all
theorem Uh {w:World} {b:Nat} {arr:Array Value} {ty:TypeId} {fr:Nat×Nat} (h:w.heap[b]?=some (.cells arr ty fr)):Ek w b=some arr:=by
 simp[Ek,h]
mutual
theorem c8 {w w':World} {D D':Nat->Prop} (hD:∀ b,D b->D' b) :
  ∀ (v:V) (φ φ':Nat->Option Pl) (x:Value) (fp:List Nat),(∀ b,D b\/b ∈ fp->w'.heap[b]?=w.heap[b]?)->(∀ id,bI id v=true->φ' id=φ id) ->
   CV w D v φ x fp->CV w' D' v φ' x fp
 | .undef,φ,φ',x,fp,hh,hφ,h=>by simpa [CV] using h
 | .v y,φ,φ',x,fp,hh,hφ,h=>by simpa [CV] using h
 | .ref id i j,φ,φ',x,fp,hh,hφ,h=>by
   simp only[CV] at h ⊢;rw[hφ id (by simp[bI])];exact h
 | .sl id i n,φ,φ',x,fp,hh,hφ,h=>by
   simp only[CV] at h ⊢;rw[hφ id (by simp[bI])];exact h
 | .rp s es i j,φ,φ',x,fp,hh,hφ,h=>by
   simp only[CV] at h ⊢;obtain ⟨hf,b,o,arr,h1,h2,h3,h4,h5⟩:=h;exact⟨hf,b,o,arr,h1,hD b h2,by rw[Zi (hh b (.inl h2))];exact h3,cr hD s es _ _ _ _ (fun b hb=>hh b (hb.imp id (by simp))) (fun _ _=>rfl) h4,h5⟩
 | .ro s es,φ,φ',x,fp,hh,hφ,h=>by
   simp only[CV] at h ⊢;obtain ⟨hf,h | ⟨b,o,cap,arr,h1,h2,h3,h4,h5,h6,h7⟩⟩:=h
   ·exact⟨hf,.inl h⟩
   ·exact⟨hf,.inr ⟨b,o,cap,arr,h1,h2,h3,hD b h4,by rw[Zi (hh b (.inl h4))];exact h5,cr hD s es _ _ _ _ (fun b hb=>hh b (hb.imp id (by simp))) (fun _ _=>rfl) h6,h7⟩⟩
 | .own s es,φ,φ',x,fp,hh,hφ,h=>by
   simp only[CV] at h ⊢;obtain h | ⟨b,o,cap,arr,ty,fp',h1,h2,h3,h4,h5,h6,h7,h8⟩:=h
   ·exact .inl h
   ·refine .inr ⟨b,o,cap,arr,ty,fp',h1,h2,h3,h4,?_,h6,cr hD s es _ _ _ _ (fun b hb=>hh b (hb.imp id (by rw[h6];exact List.mem_cons_of_mem _))) (fun _ _=>rfl) h7,h8⟩;exact h5.congr (hh b (.inr (by rw[h6];exact List.mem_cons_self)))
 | .agg cs,φ,φ',x,fp,hh,hφ,h=>by
   simp only[CV] at h ⊢;obtain ⟨xs,h1,h2⟩:=h;exact⟨xs,h1,KR hD cs _ _ _ _ hh (fun id hm=>hφ id (by simpa [bI] using hm)) h2⟩
 | .tup cs,φ,φ',x,fp,hh,hφ,h=>by
   simp only[CV] at h ⊢;obtain ⟨xs,h1,h2⟩:=h;exact⟨xs,h1,KR hD cs _ _ _ _ hh (fun id hm=>hφ id (by simpa [bI] using hm)) h2⟩
 | .clo f cs,φ,φ',x,fp,hh,hφ,h=>by
   simp only[CV] at h ⊢;obtain ⟨xs,h1,h2⟩:=h;exact⟨xs,h1,KR hD cs _ _ _ _ hh (fun id hm=>hφ id (by simpa [bI] using hm)) h2⟩
theorem KR {w w':World} {D D':Nat->Prop} (hD:∀ b,D b->D' b) :
  ∀ (cs:List V) (φ φ':Nat->Option Pl) (xs:List Value) (fp:List Nat),(∀ b,D b\/b ∈ fp->w'.heap[b]?=w.heap[b]?)->(∀ id,a7 id cs=true->φ' id=φ id) ->
   cg w D cs φ xs fp->cg w' D' cs φ' xs fp
 | [],φ,φ',xs,fp,hh,hφ,h=>by simpa [cg] using h
 | c::cs,φ,φ',xs,fp,hh,hφ,h=>by
   simp only[cg] at h ⊢;obtain ⟨x,xs',f1,f2,h1,h2,h3,h4⟩:=h;subst h2
   exact⟨x,xs',f1,f2,h1,rfl,c8 hD c _ _ _ _ (fun b hb=>hh b (hb.imp id (List.mem_append_left _))) (fun id hm=>hφ id (by simp[a7,hm])) h3,
    KR hD cs _ _ _ _ (fun b hb=>hh b (hb.imp id (List.mem_append_right _))) (fun id hm=>hφ id (by simp[a7,hm])) h4⟩
theorem cr {w w':World} {D D':Nat->Prop} (hD:∀ b,D b->D' b) (s:Nat) :
  ∀ (cs:List V) (φ φ':Nat->Option Pl) (xs:List Value) (fp:List Nat),(∀ b,D b\/b ∈ fp->w'.heap[b]?=w.heap[b]?)->(∀ id,a7 id cs=true->φ' id=φ id) ->
   CR w D s cs φ xs fp->CR w' D' s cs φ' xs fp
 | [],φ,φ',xs,fp,hh,hφ,h=>by simpa [CR] using h
 | c::cs,φ,φ',xs,fp,hh,hφ,h=>by
   simp only[CR] at h ⊢;obtain ⟨x,xs',f1,f2,h1,h0,h2,h3,h4⟩:=h;subst h2
   exact⟨x,xs',f1,f2,h1,h0,rfl,c8 hD c _ _ _ _ (fun b hb=>hh b (hb.imp id (List.mem_append_left _))) (fun id hm=>hφ id (by simp[a7,hm])) h3,
    cr hD s cs _ _ _ _ (fun b hb=>hh b (hb.imp id (List.mem_append_right _))) (fun id hm=>hφ id (by simp[a7,hm])) h4⟩
end
mutual
theorem kh {w:World} {D:Nat->Prop}:∀ (v:V) (φ:Nat->Option Pl) (x:Value) (fp:List Nat),bO v=true->CV w D v φ x fp->fp=[]
 | .undef,φ,x,fp,hn,h=>by simpa [CV] using h
 | .v y,φ,x,fp,hn,h=>by simp only[CV] at h;exact h.2.2
 | .ref id i j,φ,x,fp,hn,h=>by simp only[CV] at h;exact h.1
 | .sl id i n,φ,x,fp,hn,h=>by simp only[CV] at h;exact h.1
 | .rp s es i j,φ,x,fp,hn,h=>by simp only[CV] at h;exact h.1
 | .ro s es,φ,x,fp,hn,h=>by simp only[CV] at h;exact h.1
 | .own s es,φ,x,fp,hn,h=>by simp[bO] at hn
 | .agg cs,φ,x,fp,hn,h=>by
   simp only[CV] at h;obtain ⟨xs,_,h⟩:=h;exact Hx cs φ _ fp (by simpa [bO] using hn) h
 | .tup cs,φ,x,fp,hn,h=>by
   simp only[CV] at h;obtain ⟨xs,_,h⟩:=h;exact Hx cs φ _ fp (by simpa [bO] using hn) h
 | .clo f cs,φ,x,fp,hn,h=>by
   simp only[CV] at h;obtain ⟨xs,_,h⟩:=h;exact Hx cs φ _ fp (by simpa [bO] using hn) h
theorem Hx {w:World} {D:Nat->Prop}:∀ (v:List V) (φ:Nat->Option Pl) (x:List Value) (fp:List Nat),bb v=true->cg w D v φ x fp->fp=[]
 | [],φ,x,fp,hn,h=>by simp only[cg] at h;exact h.2
 | c::cs,φ,x,fp,hn,h=>by
   simp only[cg] at h;obtain ⟨x,xs',f1,f2,h1,h2,h3,h4⟩:=h;simp only[bb,Bool.and_eq_true] at hn;rw[h2,kh c φ x f1 hn.1 h3,Hx cs φ xs' f2 hn.2 h4];rfl
end
theorem x6 {w:World} {D:Nat->Prop} {s:Nat}:∀ (v:List V) (φ:Nat->Option Pl) (x:List Value) (fp:List Nat),bb v=true->CR w D s v φ x fp->fp=[]
 | [],φ,x,fp,hn,h=>by simp only[CR] at h;exact h
 | c::cs,φ,x,fp,hn,h=>by
   simp only[CR] at h;obtain ⟨x,xs',f1,f2,h1,h0,h2,h3,h4⟩:=h;simp only[bb,Bool.and_eq_true] at hn;rw[h2,kh c φ x f1 hn.1 h3,x6 cs φ xs' f2 hn.2 h4];rfl
end Go.Abs
namespace Go.Abs
variable [GI]
omit [GI] in
theorem Ot {x:Value} (h:one x=true):x.cells=#[x]:=by cases x<;>simp_all [one,Value.cells]
def bx:V->Option (List V)
 | .agg cs=>some cs
 | .undef=>none
 | .tup _=>none
 | v=>some [v]
omit [GI] in
theorem la {w:World} {D:Nat->Prop} {v:V} {φ:Nat->Option Pl} {x:Value} {f:List Nat} (h:CV w D v φ x f):cg w D [v] φ [x] f:=by
 simp only[cg];exact⟨x,[],f,[],rfl,by simp,h,rfl,rfl⟩
omit [GI] in
theorem x7 {w:World} {D:Nat->Prop} {v:V} {φ:Nat->Option Pl} {x:Value} {f:List Nat} {cs:List V} (hc:bx v=some cs) (h:CV w D v φ x f) :
  cg w D cs φ x.cells.toList f:=by
 cases v with
 | agg cs' =>
   simp only[bx,Option.some.injEq] at hc;subst hc;simp only[CV] at h;obtain ⟨xs,rfl,h⟩:=h;exact h
 | undef=>simp[bx] at hc
 | tup _=>simp[bx] at hc
 | v y =>
   simp only[bx,Option.some.injEq] at hc;subst hc;have h0:=h;simp only[CV] at h;obtain ⟨rfl,h1,_⟩:=h;rw[Ot h1];exact la h0
 | ref id i j =>
   simp only[bx,Option.some.injEq] at hc;subst hc;have h0:=h;simp only[CV] at h;obtain ⟨_,p,_,rfl⟩:=h;exact la h0
 | sl id i n =>
   simp only[bx,Option.some.injEq] at hc;subst hc;have h0:=h;simp only[CV] at h;have:x.cells=#[x]:=by obtain ⟨_,⟨_,_,_,rfl⟩ | ⟨p,o,cap,_,rfl,_⟩⟩:=h<;>rfl
   rw[this];exact la h0
 | rp s es i j =>
   simp only[bx,Option.some.injEq] at hc;subst hc;have h0:=h;simp only[CV] at h;have:x.cells=#[x]:=by obtain ⟨_,b,o,arr,rfl,_⟩:=h;rfl
   rw[this];exact la h0
 | ro s es =>
   simp only[bx,Option.some.injEq] at hc;subst hc;have h0:=h;simp only[CV] at h;have:x.cells=#[x]:=by obtain ⟨_,⟨_,a,cap,rfl,_⟩ | ⟨b,o,cap,arr,rfl,_⟩⟩:=h<;>rfl
   rw[this];exact la h0
 | own s es =>
   simp only[bx,Option.some.injEq] at hc;subst hc;have h0:=h;simp only[CV] at h;have:x.cells=#[x]:=by obtain ⟨_,rfl,_⟩ | ⟨b,o,cap,arr,ty,fp',rfl,_⟩:=h<;>rfl
   rw[this];exact la h0
 | clo g cs =>
   simp only[bx,Option.some.injEq] at hc;subst hc;have h0:=h;simp only[CV] at h;have:x.cells=#[x]:=by obtain ⟨xs,rfl,_⟩:=h;rfl
   rw[this];exact la h0
omit [GI] in
theorem cO {w:World} {D:Nat->Prop}:∀ {cs:List V} {φ:Nat->Option Pl} {xs:List Value} {f:List Nat},cg w D cs φ xs f->xs.length=cs.length
 | [],φ,xs,f,h=>by simp only[cg] at h;simp[h.1]
 | c::cs,φ,xs,f,h=>by
   simp only[cg] at h;obtain ⟨x,xs',f1,f2,rfl,_,_,h⟩:=h;simp[cO h]
omit [GI] in
theorem uO {w:World} {D:Nat->Prop}:∀ {cs:List V} {φ:Nat->Option Pl} {xs:List Value} {f:List Nat} {i:Nat} {c:V},cg w D cs φ xs f->cs[i]?=some c ->
  ∃ x f',xs[i]?=some x/\CV w D c φ x f'/\(∀ b ∈ f',b ∈ f)
 | [],φ,xs,f,i,c,h,hc=>by simp at hc
 | c::cs,φ,xs,f,i,c',h,hc=>by
   simp only[cg] at h;obtain ⟨x,xs',f1,f2,rfl,rfl,h1,h⟩:=h;cases i with
   | zero =>
     simp at hc;subst hc;exact⟨x,f1,by simp,h1,fun b hb=>List.mem_append_left _ hb⟩
   | succ i =>
     obtain ⟨y,f',g1,g2,g3⟩:=uO h (by simpa using hc);exact⟨y,f',by simpa using g1,g2,fun b hb=>List.mem_append_right _ (g3 b hb)⟩
omit [GI] in
theorem jO {w:World} {D:Nat->Prop} {φ:Nat->Option Pl}:cg w D [] φ [] []:=by simp[cg]
omit [GI] in
theorem ln {w:World} {D:Nat->Prop}:∀ {cs ds:List V} {φ:Nat->Option Pl} {xs ys:List Value} {f g:List Nat},cg w D cs φ xs f->cg w D ds φ ys g ->
  cg w D (cs++ds) φ (xs++ys) (f++g)
 | [],ds,φ,xs,ys,f,g,h,h'=>by simp only[cg] at h;obtain ⟨rfl,rfl⟩:=h;simpa using h'
 | c::cs,ds,φ,xs,ys,f,g,h,h'=>by
   simp only[cg] at h;obtain ⟨x,xs',f1,f2,rfl,rfl,h1,h⟩:=h;simp only[List.cons_append,cg];exact⟨x,xs'++ys,f1,f2++g,rfl,by simp,h1,ln h h'⟩
omit [GI] in
theorem Eb {w:World} {D:Nat->Prop}:∀ {cs:List V} {φ:Nat->Option Pl} {xs:List Value} (k:Nat),cg w D cs φ xs []->cg w D (cs.drop k) φ (xs.drop k) []
 | cs,φ,xs,0,h=>by simpa using h
 | [],φ,xs,k+1,h=>by simp only[cg] at h;obtain ⟨rfl,_⟩:=h;simp[cg]
 | c::cs,φ,xs,k+1,h=>by
   simp only[cg] at h;obtain ⟨x,xs',f1,f2,rfl,hf,h1,h⟩:=h;have:f2=[]:=(List.append_eq_nil_iff.1 hf.symm).2;subst this;simpa using Eb k h
omit [GI] in
theorem Ec {w:World} {D:Nat->Prop}:∀ {cs:List V} {φ:Nat->Option Pl} {xs:List Value} (k:Nat),cg w D cs φ xs []->cg w D (cs.take k) φ (xs.take k) []
 | cs,φ,xs,0,h=>by simp[cg]
 | [],φ,xs,k+1,h=>by simp only[cg] at h;obtain ⟨rfl,_⟩:=h;simp[cg]
 | c::cs,φ,xs,k+1,h=>by
   simp only[cg] at h;obtain ⟨x,xs',f1,f2,rfl,hf,h1,h⟩:=h;have hf:=List.append_eq_nil_iff.1 hf.symm;obtain ⟨rfl,rfl⟩:=hf;simp only[List.take_succ_cons,cg];exact⟨x,xs'.take k,[],[],rfl,rfl,h1,Ec k h⟩
omit [GI] in
theorem Uc {w:World} {D:Nat->Prop} {s:Nat}:∀ {es:List V} {φ:Nat->Option Pl} {xs:List Value} {f:List Nat} {i:Nat} {e:V},CR w D s es φ xs f->es[i]?=some e ->
  ∃ x f',CV w D e φ x f'/\(∀ b ∈ f',b ∈ f)/\(x.cells.size=s/\x.cells.toList.all one=true)/\∀ j,j < s->xs[i * s+j]?=x.cells[j]?
 | [],φ,xs,f,i,e,h,he=>by simp at he
 | c::cs,φ,xs,f,i,e,h,he=>by
   simp only[CR] at h;obtain ⟨x,rest,f1,f2,rfl,⟨hs,ho⟩,rfl,h1,h⟩:=h;cases i with
   | zero =>
     simp at he;subst he;refine⟨x,f1,h1,fun b hb=>List.mem_append_left _ hb,⟨hs,ho⟩,fun j hj=>?_⟩;rw[List.getElem?_append_left (by simpa [hs] using hj)];simp
   | succ i =>
     obtain ⟨y,f',g1,g2,g3,g4⟩:=Uc h (by simpa using he);refine⟨y,f',g1,fun b hb=>List.mem_append_right _ (g2 b hb),g3,fun j hj=>?_⟩;rw[<- g4 j hj,List.getElem?_append_right (by simp[hs,Nat.add_mul];omega)];congr 1;simp[hs,Nat.add_mul];omega
omit [GI] in
theorem Ea {w:World} {D:Nat->Prop} {s:Nat}:∀ {es:List V} {φ:Nat->Option Pl} {xs ys:List Value} {f:List Nat},CR w D s es φ xs f->(∀ j,j < es.length * s->ys[j]?=xs[j]?)->CR w D s es φ ys f
 | [],φ,xs,ys,f,h,hy=>by simpa [CR] using h
 | c::cs,φ,xs,ys,f,h,hy=>by
   simp only[CR] at h ⊢;obtain ⟨x,rest,f1,f2,rfl,⟨hs,ho⟩,rfl,h1,h⟩:=h;refine⟨x,ys.drop s,f1,f2,?_,⟨hs,ho⟩,rfl,h1,Ea h fun j hj=>?_⟩
   ·refine List.ext_getElem? fun j=>?_;by_cases hj:j < s
    ·rw[hy j (by simp[Nat.add_mul];omega),List.getElem?_append_left (by simpa [hs] using hj),List.getElem?_append_left (by simpa [hs] using hj)]
    ·rw[List.getElem?_append_right (by simp[hs];omega),List.getElem?_drop];congr 1;simp[hs];omega
   ·rw[List.getElem?_drop,hy (s+j) (by simp[Nat.add_mul];omega),List.getElem?_append_right (by simp[hs])];congr 1;simp[hs]
omit [GI] in
theorem sy {w:World} {D:Nat->Prop} {s:Nat}:∀ {es:List V} {φ:Nat->Option Pl} {xs:List Value} {f:List Nat},CR w D s es φ xs f->es.length * s<=xs.length
 | [],φ,xs,f,h=>by simp
 | c::cs,φ,xs,f,h=>by
   simp only[CR] at h;obtain ⟨x,rest,f1,f2,rfl,⟨hs,ho⟩,rfl,h1,h⟩:=h;have:=sy h;simp[Nat.add_mul,hs];omega
omit [GI] in
theorem NS {w:World} {D:Nat->Prop} {s:Nat}:∀ {es ds:List V} {φ:Nat->Option Pl} {xs:List Value} {f g:List Nat},CR w D s es φ xs f->CR w D s ds φ (xs.drop (es.length * s)) g->CR w D s (es++ds) φ xs (f++g)
 | [],ds,φ,xs,f,g,h,h'=>by simp only[CR] at h;subst h;simpa using h'
 | c::cs,ds,φ,xs,f,g,h,h'=>by
   simp only[CR,List.cons_append] at h ⊢;obtain ⟨x,rest,f1,f2,rfl,⟨hs,ho⟩,rfl,h1,h⟩:=h;refine⟨x,rest,f1,f2++g,rfl,⟨hs,ho⟩,by simp,h1,NS h ?_⟩;have:(c::cs).length * s=x.cells.toList.length+cs.length * s:=by simp[hs,Nat.add_mul];omega
   rw[this,List.drop_length_add_append] at h';exact h'
omit [GI] in
theorem KL {w:World} {D:Nat->Prop} {s:Nat}:∀ {es:List V} {φ:Nat->Option Pl} {xs:List Value} (k:Nat),CR w D s es φ xs []->CR w D s (es.drop k) φ (xs.drop (k * s)) []
 | es,φ,xs,0,h=>by simpa using h
 | [],φ,xs,k+1,h=>by simp[CR]
 | c::cs,φ,xs,k+1,h=>by
   simp only[CR] at h;obtain ⟨x,rest,f1,f2,rfl,⟨hs,ho⟩,hf,h1,h⟩:=h;have:f2=[]:=(List.append_eq_nil_iff.1 hf.symm).2;subst this;have hh:=KL k h;have:(k+1) * s=x.cells.toList.length+k * s:=by simp[hs,Nat.add_mul];omega
   rw[this,List.drop_length_add_append];simpa using hh
omit [GI] in
theorem A1 {w:World} {D:Nat->Prop} {s:Nat}:∀ {es:List V} {φ:Nat->Option Pl} {xs:List Value} (k:Nat),CR w D s es φ xs []->CR w D s (es.take k) φ xs []
 | es,φ,xs,0,h=>by simp[CR]
 | [],φ,xs,k+1,h=>by simp[CR]
 | c::cs,φ,xs,k+1,h=>by
   simp only[CR,List.take_succ_cons] at h ⊢;obtain ⟨x,rest,f1,f2,rfl,⟨hs,ho⟩,hf,h1,h⟩:=h;have:f2=[]:=(List.append_eq_nil_iff.1 hf.symm).2;have:f1=[]:=(List.append_eq_nil_iff.1 hf.symm).1;subst f1;subst f2;exact⟨x,rest,[],[],rfl,⟨hs,ho⟩,rfl,h1,A1 k h⟩
omit [GI] in
theorem XU {w:World} {D:Nat->Prop} {s:Nat}:∀ {es:List V} {φ:Nat->Option Pl} {xs ys:List Value} {f:List Nat} {i:Nat} {e e':V} {y:Value},CR w D s es φ xs f->es[i]?=some e ->
  bO e=true->CV w D e' φ y []->(y.cells.size=s/\y.cells.toList.all one=true)->ys.length=xs.length->(∀ j,(j < i * s\/i * s+s<=j)->ys[j]?=xs[j]?)->(∀ j,j < s->ys[i * s+j]?=y.cells[j]?)->CR w D s (es.set i e') φ ys f
 | [],φ,xs,ys,f,i,e,e',y,h,he,hn,hy,hsz,hl,hot,hw=>by simp at he
 | c::cs,φ,xs,ys,f,i,e,e',y,h,he,hn,hy,hsz,hl,hot,hw=>by
   simp only[CR] at h;obtain ⟨x,rest,f1,f2,rfl,⟨hs,ho⟩,rfl,h1,h⟩:=h;cases i with
   | zero =>
     simp at he;subst he;have:f1=[]:=kh _ _ _ _ hn h1;subst this;simp only[List.set_cons_zero,CR];refine⟨y,rest,[],f2,?_,hsz,rfl,hy,h⟩;refine List.ext_getElem? fun j=>?_;by_cases hj:j < s
     ·have:=hw j hj;simp only[Nat.zero_mul,Nat.zero_add] at this;rw[this,List.getElem?_append_left (by simpa [hsz.1] using hj)];simp
     ·rw[hot j (.inr (by omega)),List.getElem?_append_right (by simp[hs];omega),List.getElem?_append_right (by simp[hsz.1];omega)];simp[hs,hsz.1]
   | succ i =>
     simp only[List.set_cons_succ,CR];refine⟨x,ys.drop s,f1,f2,?_,⟨hs,ho⟩,rfl,h1,XU (i:=i) (e:=e) h (by simpa using he) hn hy hsz ?_ ?_ ?_⟩
     ·refine List.ext_getElem? fun j=>?_;by_cases hj:j < s
      ·rw[hot j (.inl (by simp[Nat.add_mul];omega)),List.getElem?_append_left (by simpa [hs] using hj),List.getElem?_append_left (by simpa [hs] using hj)]
      ·rw[List.getElem?_append_right (by simp[hs];omega),List.getElem?_drop];congr 1;simp[hs];omega
     ·simp[hl,hs]
     ·intro j hj;rw[List.getElem?_drop,hot (s+j) (by simp only[Nat.add_mul,Nat.one_mul];omega),List.getElem?_append_right (by simp[hs])];congr 1;simp[hs]
     ·intro j hj;rw[List.getElem?_drop,<- hw j hj];congr 1;simp only[Nat.add_mul,Nat.one_mul];omega
structure Blk where
 s:Nat
 es:List V
 deriving Inhabited
def PZ:List Nat->Nat
 | []=>0
 | x::xs=>2 ^ x * (2 * PZ xs+1)
omit [GI] in
theorem Pn:∀ (a b m n:Nat),2 ^ a * (2 * m+1)=2 ^ b * (2 * n+1)->a=b/\m=n
 | 0,0,m,n,h=>by simp only[Nat.pow_zero,Nat.one_mul] at h;exact⟨rfl,by omega⟩
 | 0,b+1,m,n,h=>by rw[Nat.pow_succ,Nat.mul_comm (2 ^ b) 2,Nat.mul_assoc] at h;simp at h;omega
 | a+1,0,m,n,h=>by rw[Nat.pow_succ,Nat.mul_comm (2 ^ a) 2,Nat.mul_assoc] at h;simp at h;omega
 | a+1,b+1,m,n,h=>by
   rw[Nat.pow_succ,Nat.pow_succ,Nat.mul_comm (2 ^ a) 2,Nat.mul_comm (2 ^ b) 2,Nat.mul_assoc,Nat.mul_assoc] at h;have:=Pn a b m n (Nat.eq_of_mul_eq_mul_left (by omega) h);exact⟨by omega,this.2⟩
omit [GI] in
theorem yk:∀ (a b:List Nat),PZ a=PZ b->a=b
 | [],[],_=>rfl
 | [],y::ys,h=>by
   have:0 < 2 ^ y * (2 * PZ ys+1):=Nat.mul_pos (Nat.pow_pos (by omega)) (by omega);simp only[PZ] at h;omega
 | x::xs,[],h=>by
   have:0 < 2 ^ x * (2 * PZ xs+1):=Nat.mul_pos (Nat.pow_pos (by omega)) (by omega);simp only[PZ] at h;omega
 | x::xs,y::ys,h=>by
   obtain ⟨h1,h2⟩:=Pn _ _ _ _ h;rw[h1,yk xs ys h2]
omit [GI] in
theorem QD {α β:Type} {f:α->β} (hf:∀ x y,f x=f y->x=y):∀ (a b:List α),a.map f=b.map f->a=b
 | [],[],_=>rfl
 | [],_::_,h=>by simp at h
 | _::_,[],h=>by simp at h
 | x::a,y::b,h=>by
   simp only[List.map_cons,List.cons.injEq] at h;rw[hf x y h.1,QD hf a b h.2]
def adI (i:Int):Nat:=match i with
 | .ofNat n=>2 * n
 | .negSucc n=>2 * n+1
omit [GI] in
theorem abL (x y:Int) (h:adI x=adI y):x=y:=by
 cases x<;>cases y<;>simp only[adI] at h
 ·congr 1;omega
 ·omega
 ·omega
 ·congr 1;omega
def ZU:Option (List Int)->Nat
 | none=>0
 | some l=>PZ (l.map adI)+1
omit [GI] in
theorem abM:∀ (x y:Option (List Int)),ZU x=ZU y->x=y
 | none,none,_=>rfl
 | none,some _,h=>by simp only[ZU] at h;omega
 | some _,none,h=>by simp only[ZU] at h;omega
 | some a,some b,h=>by
   simp only[ZU,Nat.add_right_cancel_iff] at h;rw[QD abL a b (yk _ _ h)]
abbrev gK:=List (List UInt8×Option (List Int))
def ae7 (e:List UInt8×Option (List Int)):Nat:=PZ [PZ (e.1.map UInt8.toNat),ZU e.2]
omit [GI] in
theorem abK (x y:List UInt8×Option (List Int)) (h:ae7 x=ae7 y):x=y:=by
 have h:=yk _ _ h;simp only[List.cons.injEq,and_true] at h;obtain ⟨k,r⟩:=x;obtain ⟨k',r'⟩:=y;rw[Prod.mk.injEq];exact⟨QD (fun a b h=>UInt8.toNat_inj.1 h) _ _ (yk _ _ h.1),abM _ _ h.2⟩
def WU (b:Nat) (m:gK):Nat:=PZ [b,PZ (m.map ae7)]
omit [GI] in
theorem aal {b b':Nat} {m m':gK} (h:WU b m=WU b' m'):b=b'/\m=m':=by
 have h:=yk _ _ h;simp only[List.cons.injEq,and_true] at h;exact⟨h.1,QD abK _ _ (yk _ _ h.2)⟩
def Qj:V:=.clo 0 [.v (.agg #[])]
def bo (b:Nat) (m:gK):Blk:=⟨WU b m,[Qj]⟩
def rO (n:Int):V:=.v (.int .i64 n)
def Ed (w:World):Option (List Int)->Value->List Nat->Prop
 | none,_,f=>f=[]
 | some l,x,f=>CV w (fun _=>False) (.own 1 (l.map rO)) (fun _=>none) x f
def c9 (w:World):gK->List MapEntry->List Nat->Prop
 | [],es,f=>es=[]/\f=[]
 | (k,r)::m,es,f=>∃ e es' f1 f2,es=e::es'/\f=f1++f2/\e.key=.string (bs k)/\Ed w r e.val f1/\c9 w m es' f2
def abu (w:World) (b:Nat) (m:gK) (f:List Nat):Prop:=∃ es c f',w.heap[b]?=some (.map es c)/\f=b::f'/\c9 w m es.toList f'
def VF (w:World) (blk:Blk) (f:List Nat):Prop:=∃ b m,blk=bo b m/\abu w b m f
omit [GI] in
theorem Ed.congr {w w':World} {r:Option (List Int)} {x:Value} {f:List Nat} (hh:∀ b ∈ f,w'.heap[b]?=w.heap[b]?) (h:Ed w r x f):Ed w' r x f:=by
 cases r with
 | none=>exact h
 | some l=>exact c8 (fun _ hb=>hb) _ _ _ _ _ (fun b hb=>hh b (hb.resolve_left id)) (fun _ _=>rfl) h
omit [GI] in
theorem c9.congr {w w':World}:∀ {m:gK} {es:List MapEntry} {f:List Nat},(∀ b ∈ f,w'.heap[b]?=w.heap[b]?)->c9 w m es f->c9 w' m es f
 | [],es,f,_,h=>h
 | (k,r)::m,es,f,hh,h=>by
   simp only[c9] at h ⊢;obtain ⟨e,es',f1,f2,h1,rfl,h3,h4,h5⟩:=h;exact⟨e,es',f1,f2,h1,rfl,h3,h4.congr fun b hb=>hh b (List.mem_append_left _ hb),c9.congr (fun b hb=>hh b (List.mem_append_right _ hb)) h5⟩
omit [GI] in
theorem VF.congr {w w':World} {blk:Blk} {f:List Nat} (hh:∀ b ∈ f,w'.heap[b]?=w.heap[b]?) (h:VF w blk f):VF w' blk f:=by
 obtain ⟨b,m,h1,es,c,f',h2,rfl,h3⟩:=h;exact⟨b,m,h1,es,c,f',(hh b List.mem_cons_self).trans h2,rfl,h3.congr fun b hb=>hh b (List.mem_cons_of_mem _ hb)⟩
def SE (w:World) (blk:Blk) (f:List Nat):Prop:=(blk.es=[]/\f=[])\/VF w blk f
omit [GI] in
theorem SE.congr {w w':World} {blk:Blk} {f:List Nat} (hh:∀ b ∈ f,w'.heap[b]?=w.heap[b]?) (h:SE w blk f):SE w' blk f:=h.imp id (VF.congr hh)
omit [GI] in
theorem SE.get {w:World} {blk:Blk} {f:List Nat} (h:SE w blk f) {i:Nat} {e:V} (he:blk.es[i]?=some e):e=Qj:=by
 rcases h with ⟨h,_⟩ | ⟨b,m,rfl,_⟩
 ·rw[h] at he;simp at he
 ·cases i with
  | zero=>simpa [bo,eq_comm] using he
  | succ i=>simp[bo] at he
omit [GI] in
theorem SE.nil {w:World} {blk:Blk} {f:List Nat} (h:SE w blk f) (he:blk.es.length=0):blk.es=[]/\f=[]:=by
 rcases h with h | ⟨b,m,rfl,_⟩
 ·exact h
 ·simp[bo] at he
def cM (w:World) (D:Nat->Prop) (φ:Nat->Option Pl) (id:Nat) (blk:Blk) (f:List Nat):Prop :=
 (φ id=none/\SE w blk f) \/
 ∃ p arr ty f',φ id=some p/\p.s=blk.s/\p.z=arr.size/\sJ w p.b arr ty/\f=p.b::f'/\CR w D blk.s blk.es φ (arr.toList.drop p.o) f'
structure Ctx where
 w0:World
 W:List Nat
 D0:Nat->Prop
 φ0:Nat->Option Pl
 pin:List Nat
 n:Nat
structure St where
 sl:Nat->V
 hp:Nat->Option Blk
def ca {α:Type} (f:Nat->α) (k:Nat) (x:α):Nat->α:=fun i=>if i=k then x else f i
omit [GI] in
@[simp] theorem bQ {α:Type} (f:Nat->α) (k:Nat) (x:α):ca f k x k=x:=by simp[ca]
omit [GI] in
theorem bC {α:Type} (f:Nat->α) {k i:Nat} (x:α) (h:i≠k):ca f k x i=f i:=by simp[ca,h]
structure RelD (X:Ctx) (s:St) (a:Act) (w:World) (D:Nat->Prop) (φ:Nat->Option Pl) (F:Nat->List Nat) (G:List Nat):Prop where
 os:w.os=X.w0.os
 tape:w.tape=X.w0.tape
 output:w.output=X.w0.output
 size:X.w0.heap.size<=w.heap.size
 old:∀ b,b < X.w0.heap.size->b ∉ X.W->w.heap[b]?=X.w0.heap[b]?
 Dup:∀ b,X.D0 b->D b
 Ddn:∀ b,D b->X.D0 b\/X.w0.heap.size<=b\/b ∈ X.W
 Dlt:∀ b,D b->b < w.heap.size
 defers:a.defers=[]
 ntmps:a.tmps.size=X.n
 slots:∀ t,CV w D (s.sl t) φ (a.tmps.getD t undef) []
 blks:∀ id blk,s.hp id=some blk->cM w D φ id blk (F id)
 nob:∀ id,s.hp id=none->F id=[]
 nodup:∀ id,(F id).Nodup
 sep:∀ i j,i≠j->∀ b,b ∈ F i->b ∉ F j
 notD:∀ id b,b ∈ F id->¬D b/\b < w.heap.size/\(X.w0.heap.size<=b\/b ∈ X.W)
 pins:∀ id,id ∈ X.pin->φ id=X.φ0 id
 gnodup:G.Nodup
 gsep:∀ i b,b ∈ F i->b ∉ G
 gnotD:∀ b,b ∈ G->¬D b/\b < w.heap.size/\(X.w0.heap.size<=b\/b ∈ X.W)
 gi:GI.holds w D
def Cg (X:Ctx) (s:St) (a:Act) (w:World):Prop:=∃ D φ F,RelD X s a w D φ F []
section
variable {X : Ctx} {s : St} {a : Act} {w : World} {D : Nat → Prop} {φ : Nat → Option Pl} {F : Nat → List Nat} {G : List Nat}
omit [GI] in
theorem abT (a:Act) (d t:Nat) (x:Value):(a.put (some d) x).tmps.getD t undef=if t=d/\d < a.tmps.size then x else a.tmps.getD t undef:=by
 simp only[Act.put,Array.getD_eq_getD_getElem?,Array.getElem?_setIfInBounds];by_cases h:d=t
 ·subst h;by_cases h2:d < a.tmps.size
  ·simp[h2]
  ·simp[h2]
 ·simp[h,Ne.symm h]
theorem RelD.put (h:RelD X s a w D φ F G) (d:Nat) (hd:d < X.n) (v:V) (x:Value) (hv:CV w D v φ x []) :
  RelD X { s with sl:=ca s.sl d v } (a.put (some d) x) w D φ F G:=by
 refine { h with defers:=h.defers,ntmps:=by simpa [Act.put] using h.ntmps,slots:=fun t=>?_ };rw[abT];by_cases ht:t=d
 ·subst ht;simp[h.ntmps,hd,hv]
 ·simp only[ca,ht,if_false,false_and];exact h.slots t
theorem RelD.weaken (h:RelD X s a w D φ F G) (s':St) (hs:∀ t,s'.sl t=s.sl t\/s'.sl t=.undef) (hh:∀ id,s'.hp id=s.hp id\/s'.hp id=none) :
  RelD X s' a w D φ (fun id=>if (s'.hp id).isSome then F id else []) G:=by
 refine { h with slots:=fun t=>?_,blks:=fun id blk hb=>?_,nob:=fun id hn=>by simp[hn],nodup:=fun id=>?_,sep:=fun i j hij b hb=>?_,notD:=fun id b hb=>?_,gsep:=fun i b hb=>?_ }
 ·rcases hs t with e | e
  ·rw[e];exact h.slots t
  ·rw[e];simp[CV]
 ·rcases hh id with e | e
  ·simp only[hb,Option.isSome_some,if_true];exact h.blks id blk (e▸hb)
  ·rw[e] at hb;cases hb
 ·split
  ·exact h.nodup id
  ·exact List.nodup_nil
 ·split at hb
  ·split
   ·exact h.sep i j hij b hb
   ·simp
  ·simp at hb
 ·split at hb
  ·exact h.notD id b hb
  ·simp at hb
 ·split at hb
  ·exact h.gsep i b hb
  ·simp at hb
theorem RelD.grow (h:RelD X s a w D φ F G) (w':World) (D':Nat->Prop) (G':List Nat) (hos:w'.os=w.os) (htape:w'.tape=w.tape) (hout:w'.output=w.output)
  (hsz:w.heap.size<=w'.heap.size) (hold:∀ b,b < w.heap.size->w'.heap[b]?=w.heap[b]?) (hD:∀ b,D b->D' b) (hD':∀ b,D' b->(D b\/w.heap.size<=b)/\b < w'.heap.size)
  (hg:G'.Nodup) (hg':∀ b,b ∈ G'->w.heap.size<=b/\b < w'.heap.size/\¬D' b):RelD X s a w' D' φ F (G++G'):=by
 have hnD:∀ b,b < w.heap.size->¬D b->¬D' b:=fun b hb hn hd=>by
  rcases (hD' b hd).1 with e | e
  ·exact hn e
  ·omega
 refine { h with os:=hos.trans h.os,tape:=htape.trans h.tape,output:=hout.trans h.output,size:=Nat.le_trans h.size hsz,old:=fun b hb hW=>(hold b (Nat.lt_of_lt_of_le hb h.size)).trans (h.old b hb hW),Dup:=fun b hb=>hD b (h.Dup b hb),Ddn:=fun b hb=>?_,Dlt:=fun b hb=>(hD' b hb).2,slots:=fun t=>c8 hD _ _ _ _ _ (fun b hb=>hold b (hb.elim (h.Dlt b) (by simp))) (fun _ _=>rfl) (h.slots t),blks:=fun id blk hb=>?_,notD:=fun id b hb=>?_,gnodup:=?_,gsep:=fun i b hb=>?_,gnotD:=fun b hb=>?_,gi:=GI.mono h.gi hD fun b hb=>hold b (h.Dlt b hb) }
 ·rcases (hD' b hb).1 with e | e
  ·exact h.Ddn b e
  ·exact .inr (.inl (Nat.le_trans h.size e))
 ·rcases h.blks id blk hb with ⟨e,e'⟩ | ⟨p,arr,ty,f',h1,h2,h3,h4,h5,h6⟩
  ·exact .inl ⟨e,e'.congr fun b hb=>hold b (h.notD id b hb).2.1⟩
  ·refine .inr ⟨p,arr,ty,f',h1,h2,h3,?_,h5,cr hD _ _ _ _ _ _ (fun b hb=>hold b ?_) (fun _ _=>rfl) h6⟩
   ·exact h4.congr (hold p.b (h.notD id p.b (by rw[h5];exact List.mem_cons_self)).2.1)
   ·exact hb.elim (h.Dlt b) fun hm=>(h.notD id b (by rw[h5];exact List.mem_cons_of_mem _ hm)).2.1
 ·have:=h.notD id b hb;exact⟨hnD b this.2.1 this.1,by omega,this.2.2⟩
 ·refine List.nodup_append.2 ⟨h.gnodup,hg,fun b hb c hc e=>?_⟩;subst e;have:=(h.gnotD b hb).2.1;have:=(hg' b hc).1;omega
 ·intro hm;rcases List.mem_append.1 hm with hm | hm
  ·exact h.gsep i b hb hm
  ·have:=(h.notD i b hb).2.1;have:=(hg' b hm).1;omega
 ·rcases List.mem_append.1 hb with hm | hm
  ·have:=h.gnotD b hm;exact⟨hnD b this.2.1 this.1,by omega,this.2.2⟩
  ·have:=hg' b hm;exact⟨this.2.2,this.2.1,.inl (Nat.le_trans h.size this.1)⟩
structure Fresh (s:St) (d:Nat):Prop where
 sl:∀ t,bI d (s.sl t)=false
 hp:∀ id blk,s.hp id=some blk->a7 d blk.es=false
 no:s.hp d=none
omit [GI] in
theorem Yw {d id:Nat} {v:V} (h:bI d v=false) (hm:bI id v=true):id≠d:=fun e=>by rw[e,h] at hm;cases hm
omit [GI] in
theorem lC {d id:Nat} {v:List V} (h:a7 d v=false) (hm:a7 id v=true):id≠d:=fun e=>by rw[e,h] at hm;cases hm
theorem RelD.settle {f:List Nat} (h:RelD X s a w D φ F (f++G)) (d:Nat) (hd:Fresh s d) (hp:d ∉ X.pin) (pl:Option Pl) (blk:Blk) (hb:cM w D (ca φ d pl) d blk f) :
  RelD X { s with hp:=ca s.hp d (some blk) } a w D (ca φ d pl) (ca F d f) G:=by
 have hF:F d=[]:=h.nob d hd.no;refine { h with slots:=fun t=>c8 (fun _ hb=>hb) _ _ _ _ _ (fun _ _=>rfl) (fun id hm=>bC _ _ (Yw (hd.sl t) hm)) (h.slots t),blks:=fun id b' hb'=>?_,nob:=fun id hn=>?_,nodup:=fun id=>?_,sep:=fun i j hij b hbf=>?_,notD:=fun id b hb=>?_,pins:=fun id hm=>?_,gnodup:=(List.nodup_append.1 h.gnodup).2.1,gsep:=fun i b hb=>?_,gnotD:=fun b hb=>h.gnotD b (List.mem_append_right _ hb) }
 ·by_cases e:id=d
  ·subst e;simp at hb';subst hb';simpa using hb
  ·simp only[ca,e,if_false] at hb' ⊢;rcases h.blks id b' hb' with g | ⟨p,arr,ty,f',h1,h2,h3,h4,h5,h6⟩
   ·exact .inl (by simpa [ca,e] using g)
   ·exact .inr ⟨p,arr,ty,f',by simpa [ca,e] using h1,h2,h3,h4,h5,cr (fun _ hb=>hb) _ _ _ _ _ _ (fun _ _=>rfl) (fun i hm=>bC _ _ (lC (hd.hp id b' hb') hm)) h6⟩
 ·by_cases e:id=d
  ·subst e;simp at hn
  ·simp only[ca,e,if_false] at hn ⊢;exact h.nob id hn
 ·by_cases e:id=d
  ·subst e;simp only[bQ];exact(List.nodup_append.1 h.gnodup).1
  ·simp only[ca,e,if_false];exact h.nodup id
 ·by_cases e:i=d
  ·subst e;simp only[bQ] at hbf;rw[bC _ _ (Ne.symm hij)];exact fun hm=>h.gsep j b hm (List.mem_append_left _ hbf)
  ·rw[bC _ _ e] at hbf;by_cases e2:j=d
   ·subst e2;simp only[bQ];exact fun hm=>h.gsep i b hbf (List.mem_append_left _ hm)
   ·rw[bC _ _ e2];exact h.sep i j hij b hbf
 ·by_cases e:id=d
  ·subst e;simp only[bQ] at hb;exact h.gnotD b (List.mem_append_left _ hb)
  ·rw[bC _ _ e] at hb;exact h.notD id b hb
 ·rw[bC _ _ (fun e:id=d=>hp (by rw[<- e];exact hm))];exact h.pins id hm
 ·by_cases e:i=d
  ·subst e;simp only[bQ] at hb;exact fun hm=>(List.nodup_append.1 h.gnodup).2.2 b hb b hm rfl
  ·rw[bC _ _ e] at hb;exact fun hm=>h.gsep i b hb (List.mem_append_right _ hm)
theorem RelD.release (h:RelD X s a w D φ F G) (d:Nat):RelD X { s with hp:=ca s.hp d none } a w D φ (ca F d []) (F d++G):=by
 refine { h with blks:=fun id b' hb'=>?_,nob:=fun id hn=>?_,nodup:=fun id=>?_,sep:=fun i j hij b hb=>?_,notD:=fun id b hb=>?_,gnodup:=?_,gsep:=fun i b hb=>?_,gnotD:=fun b hb=>?_ }
 ·by_cases e:id=d
  ·subst e;simp at hb'
  ·simp only[ca,e,if_false] at hb' ⊢;exact h.blks id b' hb'
 ·by_cases e:id=d
  ·subst e;simp
  ·simp only[ca,e,if_false] at hn ⊢;exact h.nob id hn
 ·by_cases e:id=d
  ·subst e;simp
  ·rw[bC _ _ e];exact h.nodup id
 ·by_cases e:i=d
  ·subst e;simp at hb
  ·rw[bC _ _ e] at hb;by_cases e2:j=d
   ·subst e2;simp
   ·rw[bC _ _ e2];exact h.sep i j hij b hb
 ·by_cases e:id=d
  ·subst e;simp at hb
  ·rw[bC _ _ e] at hb;exact h.notD id b hb
 ·exact List.nodup_append.2 ⟨h.nodup d,h.gnodup,fun b hb c hc e=>h.gsep d b hb (e▸hc)⟩
 ·by_cases e:i=d
  ·subst e;simp at hb
  ·rw[bC _ _ e] at hb;intro hm;rcases List.mem_append.1 hm with hm | hm
   ·exact h.sep i d e b hb hm
   ·exact h.gsep i b hb hm
 ·rcases List.mem_append.1 hb with hm | hm
  ·exact h.notD d b hm
  ·exact h.gnotD b hm
theorem RelD.gperm {G':List Nat} (h:RelD X s a w D φ F G) (hp:G.Perm G'):RelD X s a w D φ F G' :=
 { h with gnodup:=hp.nodup_iff.1 h.gnodup,gsep:=fun i b hb hm=>h.gsep i b hb (hp.mem_iff.2 hm),gnotD:=fun b hb=>h.gnotD b (hp.mem_iff.2 hb) }
theorem RelD.gsub {G':List Nat} (h:RelD X s a w D φ F G) (hs:G'.Sublist G):RelD X s a w D φ F G' :=
 { h with gnodup:=hs.nodup h.gnodup,gsep:=fun i b hb hm=>h.gsep i b hb (hs.subset hm),gnotD:=fun b hb=>h.gnotD b (hs.subset hb) }
theorem RelD.write (h:RelD X s a w D φ F G) (d:Nat) (blk:Blk) (hb:s.hp d=some blk) (p:Pl) (hp:φ d=some p) (arr arr':Array Value) (ty:TypeId) {fr:Nat×Nat} (hok:Od arr fr)
  (hw:w.heap[p.b]?=some (.cells arr ty fr)) (hl:arr'.size=arr.size) (w':World) (hw':w'.heap=w.heap.setIfInBounds p.b (.cells arr' ty fr)) (hos:w'.os=w.os) (htape:w'.tape=w.tape) (hout:w'.output=w.output)
  (es':List V) (hes:∀ f' ,F d=p.b::f'->CR w D blk.s blk.es φ (arr.toList.drop p.o) f'->CR w D blk.s es' φ (arr'.toList.drop p.o) f') :
  RelD X { s with hp:=ca s.hp d (some ⟨blk.s,es'⟩) } a w' D φ F G:=by
 have hbl:p.b < w.heap.size:=(Array.getElem?_eq_some_iff.1 hw).1;have hsz:w'.heap.size=w.heap.size:=by rw[hw'];simp
 have hne:∀ b,b≠p.b->w'.heap[b]?=w.heap[b]?:=fun b e=>by rw[hw'];exact Array.getElem?_setIfInBounds_ne (Ne.symm e)
 have hnew:sJ w' p.b arr' ty:=⟨fr,hok.size hl,by rw[hw',Array.getElem?_setIfInBounds];simp[hbl]⟩
 obtain ⟨f',hF⟩:∃ f',F d=p.b::f':=by
  rcases h.blks d blk hb with ⟨e,_⟩ | ⟨q,_,_,f',h1,_,_,_,h5,_⟩
  ·rw[hp] at e;cases e
  ·rw[hp] at h1;cases h1;exact⟨f',h5⟩
 have hin:p.b ∈ F d:=by rw[hF];exact List.mem_cons_self
 have hD:∀ b,D b->b≠p.b:=fun b hb e=>(h.notD d p.b hin).1 (e▸hb);have hcv:∀ (fp:List Nat),(∀ b ∈ fp,b≠p.b)->∀ b,D b\/b ∈ fp->w'.heap[b]?=w.heap[b]?:=fun fp hfp b hb=>hne b (hb.elim (hD b) (hfp b));refine { h with os:=hos.trans h.os,tape:=htape.trans h.tape,output:=hout.trans h.output,size:=by rw[hsz];exact h.size,old:=fun b hb' hW=>?_,Dlt:=fun b hb'=>by rw[hsz];exact h.Dlt b hb',slots:=fun t=>c8 (fun _ hb=>hb) _ _ _ _ _ (hcv [] (by simp)) (fun _ _=>rfl) (h.slots t),blks:=fun id b' hb'=>?_,nob:=fun id hn=>?_,notD:=fun id b hb'=>by rw[hsz];exact h.notD id b hb',gnotD:=fun b hb'=>by rw[hsz];exact h.gnotD b hb',gi:=GI.mono h.gi (fun _ hb=>hb) fun b hb=>hne b (hD b hb) }
 ·have hx:b≠p.b:=fun e=>by
   subst e;rcases (h.notD d p.b hin).2.2 with g | g
   ·omega
   ·exact hW g
  rw[hne b hx];exact h.old b hb' hW
 ·by_cases e:id=d
  ·subst e;simp at hb';subst hb';rcases h.blks id blk hb with ⟨g,_⟩ | ⟨q,arr0,ty0,f0,h1,h2,h3,h4,h5,h6⟩
   ·rw[hp] at g;cases g
   ·rw[hp] at h1;cases h1;obtain ⟨fr0,_,h4⟩:=h4;rw[hw] at h4;cases h4;refine .inr ⟨p,arr',ty,f0,hp,h2,by rw[hl];exact h3,hnew,h5,cr (fun _ hb=>hb) _ _ _ _ _ _ (hcv f0 fun b hb' e=>?_) (fun _ _=>rfl) (hes f0 h5 h6)⟩;have:=h.nodup id;rw[h5] at this;exact(List.nodup_cons.1 this).1 (e▸hb')
  ·simp only[ca,e,if_false] at hb';rcases h.blks id b' hb' with ⟨g,g'⟩ | ⟨q,arr0,ty0,f0,h1,h2,h3,h4,h5,h6⟩
   ·exact .inl ⟨g,g'.congr fun b hb'=>hne b fun e'=>h.sep d id (Ne.symm e) p.b hin (e'▸hb')⟩
   ·have hq:∀ b ∈ F id,b≠p.b:=fun b hb' e'=>h.sep d id (Ne.symm e) p.b hin (e'▸hb');refine .inr ⟨q,arr0,ty0,f0,h1,h2,h3,?_,h5,cr (fun _ hb=>hb) _ _ _ _ _ _ (hcv f0 fun b hb'=>hq b (by rw[h5];exact List.mem_cons_of_mem _ hb')) (fun _ _=>rfl) h6⟩;exact h4.congr (hne q.b (hq q.b (by rw[h5];exact List.mem_cons_self)))
 ·by_cases e:id=d
  ·subst e;simp at hn
  ·simp only[ca,e,if_false] at hn;exact h.nob id hn
end
end Go.Abs
namespace Go.Abs
inductive X where
 | t (n:Nat)
 | k (v:V)
 deriving Inhabited
inductive EK where
 | int
 | bool
 | str
 deriving DecidableEq,Inhabited
inductive EqK where
 | none
 | bool
 | nil
 | struct (ks:List EK)
 deriving DecidableEq,Inhabited
inductive CK where
 | int (k:IntKind)
 | intStr
 | strStr
 | bytesStr
 | strBytes
 deriving DecidableEq,Inhabited
inductive O where
 | mv (x:X)
 | pick (c a b:X)
 | box (n:Nat) (x:X)
 | build (z:V) (ps:List (Nat×Nat×X))
 | bslice (s:Nat) (z:V) (n:Nat) (ps:List (Nat×X))
 | ld (agg:Bool) (n:Nat) (x:X)
 | st (n:Nat) (a x:X)
 | bin (op:BinOp) (k:EqK) (x y:X)
 | un (op:UnOp) (x:X)
 | conv (c:CK) (x:X)
 | clo (f:Nat) (cs:List X)
 | mks (s:Nat) (z:V) (bytes:Nat) (l c:X)
 | slc (s:Option Nat) (x:X) (lo hi:Option X)
 | faddr (off:Nat) (x:X)
 | fld (agg:Bool) (off n:Nat) (x:X)
 | iaddr (s:Nat) (x i:X)
 | idx (x i:X)
 | ext (x:X) (i:Nat)
 | len (str:Bool) (x:X)
 | app (s bytes:Nat) (x y:X)
 | mm (max:Bool) (xs:List X)
 | call (f:Nat) (xs:List X)
 | callv (x:X) (xs:List X)
 | mkmap
 | look (ok:Bool) (m k:X)
 | mupd (m k v:X)
 deriving Inhabited
structure CO where
 g:Option (Nat×Bool)
 d:Option Nat
 o:O
 deriving Inhabited
def ofV:Value->Option V
 | .agg cs=>if cs.all one then some (.agg (cs.toList.map .v)) else none
 | .tuple cs=>if cs.size=0 then some (.tup []) else none
 | x=>if one x then some (.v x) else none
def cX:Operand->Option X
 | .tmp t=>some (.t t)
 | .const v=>(ofV v).map .k
 | .func f=>some (.k (.clo f []))
 | .global _=>none
def Zj:List Operand->Option (List X)
 | []=>some []
 | x::xs=>match cX x,Zj xs with
   | some y,some ys=>some (y::ys)
   | _,_=>none
def Ef:TypeDesc->Bool
 | .struct _=>true
 | .array _ _=>true
 | _=>false
def Sv (P:Program) (t:TypeId):Option (Bool×Nat) :=
 match P.underlying t,P.info? t with
 | some d,some i=>some (Ef d,i.size)
 | _,_=>none
def iW (P:Program) (t:TypeId):Option TypeInfo :=
 match P.underlying t with
 | some (.slice e)=>P.info? e
 | _=>none
def abQ (P:Program) (kinds:TypeId->Option (List EK)):List Field->Nat->Option (List EK)
 | [],_=>some []
 | f::fs,off=>if f.name ≠ "_"/\f.offset=off then
   match kinds f.type with
   | some ks=>if (P.info? f.type).map (·.size)=some ks.length then (abQ P kinds fs (off+ks.length)).map (ks++·) else none
   | none=>none
   else none
def lb (P:Program):Nat->TypeId->Option (List EK)
 | 0,_=>none
 | m+1,t=>match P.underlying t with
   | some (.int _)=>some [.int]
   | some .bool=>some [.bool]
   | some .string=>some [.str]
   | some (.struct fs)=>if P.stoodInHeld t=false then abQ P (lb P m) fs.toList 0 else none
   | _=>none
def eqK (P:Program) (op:BinOp) (t:TypeId):Option EqK :=
 if op=.eql\/op=.neq then
  match P.underlying t with
  | some .bool=>some .bool
  | some (.int _)=>some .none
  | some .string=>some .none
  | some (.slice _)=>some .nil
  | some (.struct _)=>match lb P 8 t with
    | some ks=>if P.eqGuardType P.depth t=false then some (.struct ks) else none
    | none=>none
  | _=>none
 else some .none
def cck (P:Program) (src dst:TypeId):Option CK :=
 match P.underlying src,P.underlying dst with
 | some (.int _),some (.int k)=>some (.int k)
 | some (.int _),some .string=>some .intStr
 | some .string,some .string=>some .strStr
 | some (.slice e),some .string=>match P.underlying e with
   | some (.int .u8)=>some .bytesStr
   | _=>none
 | some .string,some (.slice e)=>match P.underlying e with
   | some (.int .u8)=>some .strBytes
   | _=>none
 | _,_=>none
def cXo:Option Operand->Option (Option X)
 | none=>some none
 | some x=>(cX x).map some
def cPs (places:List (Nat×Nat)):List (Nat×Operand)->Option (List (Nat×Nat×X))
 | []=>some []
 | (i,x)::ps=>match places[i]?,cX x,cPs places ps with
   | some (off,n),some y,some ys=>some ((off,n,y)::ys)
   | _,_,_=>none
def R6 (P:Program) (fs:Array Field):Option (List (Nat×Nat)):=fs.toList.mapM (fun f=>(P.info? f.type).map fun i=>(f.offset,i.size))
def cPt:List (Nat×Operand)->Option (List (Nat×X))
 | []=>some []
 | (i,x)::ps=>match cX x,cPt ps with
   | some y,some ys=>some ((i,y)::ys)
   | _,_=>none
def Ce (i:TypeInfo):Option V:=i.zero.bind ofV
def mz (P:Program) (t:TypeId):Bool:=match P.underlying t with
 | some (.map k e)=>match P.underlying k with
   | some .string=>match (P.info? e).bind (·.zero) with
     | some (.slice none 0 0)=>true
     | _=>false
   | _=>false
 | _=>false
def iT (P:Program):Op->Option O
 | .move x=>(cX x).map .mv
 | .assign x=>(cX x).map .mv
 | .pick c a b=>match cX c,cX a,cX b with
   | some c,some a,some b=>some (.pick c a b)
   | _,_,_=>none
 | .alloc t=>match P.info? t with
   | some i=>match Ce i with
     | some z=>some (.box i.size (.k z))
     | none=>none
   | none=>none
 | .box t x=>match P.info? t,cX x with
   | some i,some x=>some (.box i.size x)
   | _,_=>none
 | .build t ps=>match P.underlying t,P.info? t with
   | some (.struct fs),some i=>match Ce i,R6 P fs with
     | some z,some pl=>(cPs pl ps.toList).map (.build z)
     | _,_=>none
   | _,_=>none
 | .buildSlice t n ps=>match iW P t with
   | some i=>match Ce i,cPt ps.toList with
     | some z,some ps=>some (.bslice i.size z n ps)
     | _,_=>none
   | none=>none
 | .load t x=>match Sv P t,cX x with
   | some (b,n),some x=>some (.ld b n x)
   | _,_=>none
 | .store t a x=>match P.info? t,cX a,cX x with
   | some i,some a,some x=>some (.st i.size a x)
   | _,_,_=>none
 | .binOp op t x y _=>match eqK P op t,cX x,cX y with
   | some k,some x,some y=>some (.bin op k x y)
   | _,_,_=>none
 | .unOp op _ x=>(cX x).map (.un op)
 | .convert s d x=>match cck P s d,cX x with
   | some c,some x=>some (.conv c x)
   | _,_=>none
 | .makeFunc (.func f) first cs=>if first.size=0 then (Zj cs.toList).map (.clo f) else none
 | .makeSlice t l c=>match iW P t,cX l,cX c with
   | some i,some l,some c=>match Ce i with
     | some z=>some (.mks i.size z i.bytes l c)
     | none=>none
   | _,_,_=>none
 | .slice t x lo hi none=>match P.underlying t,cX x,cXo lo,cXo hi with
   | some .string,some x,some lo,some hi=>some (.slc none x lo hi)
   | some (.slice e),some x,some lo,some hi=>match P.info? e with
     | some i=>some (.slc (some i.size) x lo hi)
     | none=>none
   | _,_,_,_=>none
 | .nilCheck x=>(cX x).map (.faddr 0)
 | .fieldAddr t x f=>match P.underlying t,cX x with
   | some (.struct fs),some x=>match fs[f]? with
     | some f=>match P.info? f.type with
       | some i=>if i.size≠0 then some (.faddr f.offset x) else none
       | none=>none
     | none=>none
   | _,_=>none
 | .field t x f=>match P.underlying t,cX x with
   | some (.struct fs),some x=>match fs[f]? with
     | some f=>match Sv P f.type with
       | some (b,n)=>some (.fld b f.offset n x)
       | none=>none
     | none=>none
   | _,_=>none
 | .indexAddr t x i=>match iW P t,cX x,cX i with
   | some e,some x,some i=>some (.iaddr e.size x i)
   | _,_,_=>none
 | .index t x i=>match P.underlying t,cX x,cX i with
   | some .string,some x,some i=>some (.idx x i)
   | _,_,_=>none
 | .extract x i=>(cX x).map (.ext · i)
 | .makeMap t none=>if mz P t=true then some .mkmap else none
 | .lookup t m k ok=>if mz P t=true then match cX m,cX k with
   | some m,some k=>some (.look ok m k)
   | _,_=>none
   else none
 | .mapUpdate t m k v=>if mz P t=true then match cX m,cX k,cX v with
   | some m,some k,some v=>some (.mupd m k v)
   | _,_,_=>none
   else none
 | .call c=>match c.callee with
   | .builtin .len=>match c.args.toList,c.argTypes.toList with
     | [x],[t]=>match P.underlying t,cX x with
       | some .string,some x=>some (.len true x)
       | some (.slice _),some x=>some (.len false x)
       | _,_=>none
     | _,_=>none
   | .builtin .append=>match c.args.toList,c.argTypes.toList with
     | [x,y],[t,u]=>match iW P t,cX x,cX y with
       | some i,some x,some y=>if u=t/\i.size≠0/\(i.zero.map (·.cells.size))=some i.size then some (.app i.size i.bytes x y) else none
       | _,_,_=>none
     | _,_=>none
   | .builtin .min=>(Zj c.args.toList).map (.mm false)
   | .builtin .max=>(Zj c.args.toList).map (.mm true)
   | .value (.func f)=>(Zj c.args.toList).map (.call f)
   | .value (.tmp t)=>(Zj c.args.toList).map (.callv (.t t))
   | _=>none
 | _=>none
structure Dl where
 v:V
 new:Option Blk:=none
 del:Option Nat:=none
 wr:Option (Nat×Blk):=none
def hpW (h:Nat->Option Blk):Option (Nat×Blk)->Nat->Option Blk
 | some (i,b)=>ca h i (some b)
 | none=>h
def hpD (h:Nat->Option Blk):Option Nat->Nat->Option Blk
 | some i=>ca h i none
 | none=>h
def hpN (h:Nat->Option Blk):Option Blk->Option Nat->Nat->Option Blk
 | some b,some d=>ca h d (some b)
 | _,_=>h
def Dl.hp (δ:Dl) (d:Option Nat) (h:Nat->Option Blk):Nat->Option Blk:=hpN (hpD (hpW h δ.wr) δ.del) δ.new d
def Dl.app (δ:Dl) (d:Option Nat) (s:St):St :=
 { sl:=match d with | some d=>ca s.sl d δ.v | none=>s.sl,hp:=δ.hp d s.hp }
def bl (v:V):Option (Prop×Dl):=some (True,{ v:=v })
def cQ (p:Prop) (v:V):Option (Prop×Dl):=some (p,{ v:=v })
def X2:Option Bool->Option Bool->Option Bool
 | some a,some b=>some (a&&b)
 | _,_=>none
def aeb:EK->V->V->Option Bool
 | .int,.v (.int k a),.v (.int k' b)=>if k=k' then some (a==b) else none
 | .bool,.v (.bool a),.v (.bool b)=>some (a==b)
 | .str,.v (.string a),.v (.string b)=>some (a.toList==b.toList)
 | _,_,_=>none
def veq:List EK->List V->List V->Option Bool
 | [],[],[]=>some true
 | k::ks,u::us,v::vs=>X2 (aeb k u v) (veq ks us vs)
 | _,_,_=>none
def XT (op:BinOp) (p:Prop):Option Bool->Option (Prop×Dl)
 | some r=>match op with
   | .eql=>cQ p (.v (.bool r))
   | .neq=>cQ p (.v (.bool (!r)))
   | _=>none
 | none=>none
def EqK.veq:EqK->List V->List V->Option Bool
 | .struct ks,us,vs=>Abs.veq ks us vs
 | _,_,_=>Option.none
def EqK.nil?:EqK->Bool->Option Bool
 | .nil,b=>some b
 | _,_=>Option.none
def Vt (op:BinOp) (k:EqK):V->V->Option (Prop×Dl)
 | .v (.int i a),.v (.int j b) =>
   match op with
   | .shl=>cQ (0<=b) (.v (.int i (i.wrap (a * 2 ^ (min b.toNat i.bits)))))
   | .shr=>cQ (0<=b) (.v (.int i (a.fdiv (2 ^ (min b.toNat i.bits)))))
   | _=>if i=j then
     match op with
     | .add=>bl (.v (.int i (i.wrap (a+b))))
     | .sub=>bl (.v (.int i (i.wrap (a - b))))
     | .mul=>bl (.v (.int i (i.wrap (a * b))))
     | .quo=>cQ (b≠0) (.v (.int i (i.wrap (a.tdiv b))))
     | .rem=>cQ (b≠0) (.v (.int i (a.tmod b)))
     | .and=>bl (.v (.int i (i.wrap ((BitVec.ofInt i.bits a &&& BitVec.ofInt i.bits b).toNat))))
     | .or=>bl (.v (.int i (i.wrap ((BitVec.ofInt i.bits a ||| BitVec.ofInt i.bits b).toNat))))
     | .xor=>bl (.v (.int i (i.wrap ((BitVec.ofInt i.bits a ^^^ BitVec.ofInt i.bits b).toNat))))
     | .eql=>bl (.v (.bool (a==b)))
     | .neq=>bl (.v (.bool (a != b)))
     | .lss=>bl (.v (.bool (decide (a < b))))
     | .leq=>bl (.v (.bool (decide (a<=b))))
     | .gtr=>bl (.v (.bool (decide (a > b))))
     | .geq=>bl (.v (.bool (decide (a>=b))))
     | _=>none
     else none
 | .v (.bool a),.v (.bool b) =>
   if k=.bool then
    match op with
    | .eql=>bl (.v (.bool (a==b)))
    | .neq=>bl (.v (.bool (!(a==b))))
    | _=>none
   else none
 | .v (.string a),.v (.string b) =>
   match op with
   | .add=>cQ (a.size+b.size<=9223372036854775807) (.v (.string (a++b)))
   | .eql=>bl (.v (.bool (a.toList==b.toList)))
   | .neq=>bl (.v (.bool (!(a.toList==b.toList))))
   | .lss=>bl (.v (.bool (Op.bytesLess a.toList b.toList)))
   | .leq=>bl (.v (.bool (Op.bytesLess a.toList b.toList||a.toList==b.toList)))
   | .gtr=>bl (.v (.bool (!(Op.bytesLess a.toList b.toList||a.toList==b.toList))))
   | .geq=>bl (.v (.bool (!(Op.bytesLess a.toList b.toList))))
   | _=>none
 | .agg us,.agg vs=>XT op True (k.veq us vs)
 | .v (.slice a _ _),.v (.slice none _ _)=>XT op True (k.nil? a.isNone)
 | .ro _ es,.v (.slice none _ _)=>XT op (es.isEmpty=false) (k.nil? false)
 | .sl _ _ n,.v (.slice none _ _)=>XT op (n≠0) (k.nil? false)
 | _,_=>none
def vun (op:UnOp):V->Option (Prop×Dl)
 | .v (.int i a)=>match op with
   | .neg=>bl (.v (.int i (i.wrap (0 - a))))
   | _=>none
 | .v (.bool a)=>match op with
   | .not=>bl (.v (.bool (!a)))
   | _=>none
 | _=>none
def cC:V->Bool
 | .agg _=>true
 | _=>false
def Yo (agg:Bool) (n s j:Nat) (e:V):Option V :=
 if agg=true/\j=0/\n=s then
  if cC e then some e else none
 else match bx e with
  | none=>none
  | some cs =>
    if agg then if j+n<=cs.length then some (.agg ((cs.drop j).take n)) else none
    else if n=1 then cs[j]? else none
def vld (agg:Bool) (n:Nat) (look:Nat->Option Blk):V->Option (Prop×Dl)
 | .ref id i j=>match look id with
   | some b=>match b.es[i]? with
     | some e=>if bO e then match Yo agg n b.s j e with
       | some v=>bl v
       | none=>none else none
     | none=>none
   | none=>none
 | .rp s es i j=>match es[i]? with
   | some e=>match Yo agg n s j e with
     | some v=>bl v
     | none=>none
   | none=>none
 | _=>none
def acX (n s j:Nat) (e v:V):Option V :=
 if n=s/\j=0/\cC e=cC v then some v
 else match bx e,bx v with
  | some cs,some vs=>if cC e/\vs.length=n/\j+n<=cs.length then some (.agg (cs.take j++vs++cs.drop (j+n))) else none
  | _,_=>none
def hU:V->Bool
 | .agg _=>false
 | .undef=>false
 | .tup _=>false
 | _=>true
def Tx:List V->Bool
 | []=>true
 | c::cs=>hU c&&Tx cs
def O4 (v:V):Bool:=match bx v with
 | some vs=>Tx vs
 | none=>false
def DX (v:V):Option Nat:=(bx v).map (·.length)
def vst (n:Nat) (look:Nat->Option Blk) (v:V):V->Option (Prop×Dl)
 | .ref id i j=>match look id with
   | some b=>match b.es[i]? with
     | some e=>if bO e/\bO v/\DX v=some n/\O4 v/\n≠0 then match acX n b.s j e v with
       | some e'=>some (True,{ v:=.undef,wr:=some (id,⟨b.s,b.es.set i e'⟩) })
       | none=>none else none
     | none=>none
   | none=>none
 | _=>none
def uH (s:Nat) (look:Nat->Option Blk):V->V->Option (Prop×Dl)
 | .sl id i n,.v (.int _ k)=>match look id with
   | some b=>if b.s=s then cQ (0<=k/\k < n) (.ref id (i+k.toNat) 0) else none
   | none=>none
 | .ro s' es,.v (.int _ k)=>if s'=s then cQ (0<=k/\k < es.length) (.rp s es k.toNat 0) else none
 | _,_=>none
def XL:V->V->Option (Prop×Dl)
 | .v (.string b),.v (.int _ k)=>cQ (0<=k/\k < b.size) (.v (.int .u8 (b[k.toNat]?.getD 0).toNat))
 | _,_=>none
def XN:V->Option (Prop×Dl)
 | .v (.string b)=>bl (.v (.int .i64 b.size))
 | _=>none
def XM:V->Option (Prop×Dl)
 | .v (.slice _ n _)=>bl (.v (.int .i64 n))
 | .sl _ _ n=>bl (.v (.int .i64 n))
 | .ro _ es=>bl (.v (.int .i64 es.length))
 | _=>none
def uF (s:Nat) (look:Nat->Option Blk):V->Option (List V)
 | .sl id i n=>match look id with
   | some b=>if b.s=s/\bb b.es/\i+n<=b.es.length then some ((b.es.drop i).take n) else none
   | none=>none
 | .ro s' es=>if s'=s then some es else none
 | .v (.slice _ 0 _)=>some []
 | _=>none
def ba:Nat:=4294967296
def Qs (s bytes:Nat) (look:Nat->Option Blk) (d:Nat) (y:V):V->Option (Prop×Dl)
 | .v (.slice none 0 0)=>match uF s look y with
   | some ds=>if bb ds/\bytes<=32768 then some (ds.length<=ba,{ v:=.sl d 0 ds.length,new:=some ⟨s,ds⟩ }) else none
   | none=>none
 | .sl id i n=>match look id with
   | some b=>match uF s look y with
     | some ds=>if b.s=s/\bb ds/\i=0/\bytes<=32768 then
       some (n<=b.es.length/\(bb b.es=true\/n=b.es.length)/\n+ds.length<=ba,{ v:=.sl d 0 (n+ds.length),del:=some id,new:=some ⟨s,b.es.take n++ds⟩ })
       else none
     | none=>none
   | none=>none
 | _=>none
def ZK (b:ByteArray) (lo hi:Option V):Option (Prop×Dl) :=
 match lo,hi with
 | none,none=>bl (.v (.string (b.extract 0 b.size)))
 | some (.v (.int _ l)),none=>cQ (0<=l/\l<=b.size) (.v (.string (b.extract l.toNat b.size)))
 | none,some (.v (.int _ h))=>cQ (0<=h/\h<=b.size) (.v (.string (b.extract 0 h.toNat)))
 | some (.v (.int _ l)),some (.v (.int _ h))=>cQ (0<=l/\l<=h/\h<=b.size) (.v (.string (b.extract l.toNat h.toNat)))
 | _,_=>none
def RM (n:Nat) (lo hi:Option V):Option (Prop×Nat×Nat) :=
 match lo,hi with
 | none,none=>some (True,0,n)
 | some (.v (.int _ l)),none=>some (0<=l/\l<=n,l.toNat,n)
 | none,some (.v (.int _ h))=>some (0<=h/\h<=n,0,h.toNat)
 | some (.v (.int _ l)),some (.v (.int _ h))=>some (0<=l/\l<=h/\h<=n,l.toNat,h.toNat)
 | _,_=>none
def XQ (x:V) (lo hi:Option V):Option (Prop×Dl) :=
 match x with
 | .v (.string b)=>ZK b lo hi
 | _=>none
def PV (s:Nat) (look:Nat->Option Blk) (x:V) (lo hi:Option V):Option (Prop×Dl) :=
 match x with
 | .ro s' es=>match RM es.length lo hi with
   | some (p,l,h)=>if s'=s then cQ p (.ro s ((es.drop l).take (h - l))) else none
   | none=>none
 | .sl id i n=>match look id,RM n lo hi with
   | some b,some (p,l,h)=>if b.s=s then cQ p (.sl id (i+l) (h - l)) else none
   | _,_=>none
 | _=>none
def XK (agg:Bool) (off n:Nat):V->Option (Prop×Dl)
 | .agg cs=>if agg then if off+n<=cs.length then bl (.agg ((cs.drop off).take n)) else none
   else if n=1 then match cs[off]? with | some v=>bl v | none=>none else none
 | _=>none
def Vv (s bytes:Nat) (z:V) (d:Nat):V->V->Option (Prop×Dl)
 | .v (.int .i64 l),.v (.int .i64 c) =>
   if l=c/\DX z=some s/\bytes<=32768/\bO z/\s≠0 then some (0<=l/\l<=ba,{ v:=.sl d 0 l.toNat,new:=some ⟨s,List.replicate l.toNat z⟩ }) else none
 | _,_=>none
def NJ (ev:X->V):List V->List (Nat×Nat×X)->Option (List V)
 | cs,[]=>some cs
 | cs,(off,n,x)::ps=>match bx (ev x) with
   | some vs=>if vs.length=n/\off+n<=cs.length/\bb vs then NJ ev (cs.take off++vs++cs.drop (off+n)) ps else none
   | none=>none
def Cc (ev:X->V) (z:V) (ps:List (Nat×Nat×X)):Option (Prop×Dl) :=
 match z with
 | .agg cs=>match NJ ev cs ps with
   | some cs=>bl (.agg cs)
   | none=>none
 | _=>none
def DW (ev:X->V) (s:Nat):List V->List (Nat×X)->Option (List V)
 | es,[]=>some es
 | es,(i,x)::ps=>if i < es.length/\DX (ev x)=some s/\bO (ev x)/\O4 (ev x) then DW ev s (es.set i (ev x)) ps else none
def pF (ev:X->V) (s:Nat) (z:V) (n d:Nat) (ps:List (Nat×X)):Option (Prop×Dl) :=
 if DX z=some s/\s≠0/\n * s<=16777216/\bO z then
  match DW ev s (List.replicate n z) ps with
  | some es=>some (True,{ v:=.sl d 0 n,new:=some ⟨s,es⟩ })
  | none=>none
 else none
def T7 (max:Bool) (k:IntKind):Int->List V->Option Int
 | a,[]=>some a
 | a,.v (.int _ b)::rest=>T7 max k (if max then (if b > a then b else a) else (if b < a then b else a)) rest
 | _,_=>none
def vmm (max:Bool):List V->Option (Prop×Dl)
 | .v (.int k a)::rest=>match T7 max k a rest with
   | some r=>bl (.v (.int k r))
   | none=>none
 | _=>none
def px:List V->Option (List UInt8)
 | []=>some []
 | .v (.int .u8 n)::l=>(px l).map (UInt8.ofNat n.toNat::·)
 | _=>none
def Vo (b:ByteArray):List V:=b.data.toList.map fun x=>.v (.int .u8 x.toNat)
def NP (c:CK) (look:Nat->Option Blk) (d:Nat):V->Option (Prop×Dl)
 | .v (.int _ a)=>match c with
   | .int k=>bl (.v (.int k (k.wrap a)))
   | .intStr=>cQ ((Utf8.encode a).size<=9223372036854775807) (.v (.string (Utf8.encode a)))
   | _=>none
 | .v (.string b)=>match c with
   | .strStr=>bl (.v (.string b))
   | .strBytes=>if b.size=0 then bl (.ro 1 []) else some (True,{ v:=.sl d 0 b.size,new:=some ⟨1,Vo b⟩ })
   | _=>none
 | x=>match c with
   | .bytesStr=>match uF 1 look x with
     | some ds=>match px ds with
       | some l=>cQ (l.length<=9223372036854775807) (.v (.string (bs l)))
       | none=>none
     | none=>none
   | _=>none
def uY (ev:X->V) (look:Nat->Option Blk) (d:Nat):O->Option (Prop×Dl)
 | .mv x=>bl (ev x)
 | .pick c a b=>match ev c with
   | .v (.bool t)=>bl (bif t then ev a else ev b)
   | _=>none
 | .box n x=>if DX (ev x)=some n/\bO (ev x)/\O4 (ev x) then some (True,{ v:=.ref d 0 0,new:=some ⟨n,[ev x]⟩ }) else none
 | .build z ps=>Cc ev z ps
 | .bslice s z n ps=>pF ev s z n d ps
 | .ld agg n x=>vld agg n look (ev x)
 | .st n a x=>vst n look (ev x) (ev a)
 | .bin op k x y=>Vt op k (ev x) (ev y)
 | .un op x=>vun op (ev x)
 | .conv c x=>NP c look d (ev x)
 | .clo f cs=>bl (.clo f (cs.map ev))
 | .mks s z bytes l c=>Vv s bytes z d (ev l) (ev c)
 | .slc none x lo hi=>XQ (ev x) (lo.map ev) (hi.map ev)
 | .slc (some s) x lo hi=>PV s look (ev x) (lo.map ev) (hi.map ev)
 | .faddr off x=>match ev x with
   | .ref id i j=>bl (.ref id i (j+off))
   | .rp s es i j=>bl (.rp s es i (j+off))
   | _=>none
 | .fld agg off n x=>XK agg off n (ev x)
 | .iaddr s x i=>uH s look (ev x) (ev i)
 | .idx x i=>XL (ev x) (ev i)
 | .ext x i=>match ev x with
   | .tup vs=>match vs[i]? with
     | some v=>bl v
     | none=>none
   | _=>none
 | .len b x=>if b then XN (ev x) else XM (ev x)
 | .app s bytes x y=>Qs s bytes look d (ev y) (ev x)
 | .mm max xs=>vmm max (xs.map ev)
 | .call _ _=>none
 | .callv _ _=>none
 | .mkmap=>none
 | .look _ _ _=>none
 | .mupd _ _ _=>none
end Go.Abs
namespace Go.Abs
variable [GI]
def St.ev (s:St):X->V
 | .t n=>s.sl n
 | .k v=>v
def gS (P:Program) (o:Oper) (X:Ctx) (a:Act) (w:World) (s':St):Prop :=
 ∃ nx x w',(execOp a.eval o).run P w=.ok nx w'/\(nx=.value x\/(nx=.skip/\x=undef))/\Cg X s' (a.put o.dst x) w'
section
variable {P : Program} {X : Ctx} {s : St} {a : Act} {w : World} {D : Nat → Prop} {φ : Nat → Option Pl} {F : Nat → List Nat} {o : Oper}
omit [GI] in
theorem Tg:∀ (xs:List Value),(∀ x ∈ xs,one x=true)->cg w D (xs.map .v) φ xs []
 | [],_=>jO
 | x::xs,h=>by
   simp only[List.map_cons,cg];exact⟨x,xs,[],[],rfl,rfl,by simp[CV,h x (by simp)],Tg xs fun y hy=>h y (by simp[hy])⟩
omit [GI] in
theorem RX {x:Value} {v:V} (h:ofV x=some v):CV w D v φ x []:=by
 unfold ofV at h;split at h
 ·rename_i cs;split at h
  ·rename_i hc;simp only[Option.some.injEq] at h;subst h;simp only[CV];exact⟨cs,rfl,Tg _ fun x hx=>by simpa using (Array.all_eq_true'.1 hc) x (by simpa using hx)⟩
  ·cases h
 ·split at h
  ·rename_i cs hc;simp only[Option.some.injEq] at h;subst h;have:cs=#[]:=by simpa using hc
   subst this;simp only[CV];exact⟨#[],rfl,jO⟩
  ·cases h
 ·split at h
  ·rename_i h1;simp only[Option.some.injEq] at h;subst h;simp only[CV];exact⟨trivial,h1,trivial⟩
  ·cases h
omit [GI] in
theorem Pf:∀ (xs:List Value),aC (xs.map .v)=true
 | []=>rfl
 | x::xs=>by simp[aC,bR,Pf xs]
omit [GI] in
theorem HL {x:Value} {v:V} (h:ofV x=some v):bR v=true:=by
 unfold ofV at h;split at h
 ·split at h
  ·simp only[Option.some.injEq] at h;subst h;simp[bR,Pf]
  ·cases h
 ·split at h
  ·simp only[Option.some.injEq] at h;subst h;rfl
  ·cases h
 ·split at h
  ·simp only[Option.some.injEq] at h;subst h;rfl
  ·cases h
theorem cV {y:Operand} {x:Abs.X} (hc:cX y=some x) (h:RelD X s a w D φ F []):CV w D (s.ev x) φ (a.eval y) []:=by
 cases y with
 | tmp t =>
   simp only[cX,Option.some.injEq] at hc;subst hc;exact h.slots t
 | const v =>
   simp only[cX,Option.map_eq_some_iff] at hc;obtain ⟨u,hu,rfl⟩:=hc;exact RX hu
 | func f =>
   simp only[cX,Option.some.injEq] at hc;subst hc;exact(by simp only[St.ev,CV];exact⟨#[],rfl,jO⟩)
 | global g=>simp[cX] at hc
omit [GI] in
theorem VK {y:Operand} {x:Abs.X} {d:Nat} (hc:cX y=some x) (h:Fresh s d):bI d (s.ev x)=false:=by
 cases y with
 | tmp t =>
   simp only[cX,Option.some.injEq] at hc;subst hc;exact h.sl t
 | const v =>
   simp only[cX,Option.map_eq_some_iff] at hc;obtain ⟨u,hu,rfl⟩:=hc;exact gx _ _ (HL hu)
 | func f =>
   simp only[cX,Option.some.injEq] at hc;subst hc;simp[St.ev,bI,a7]
 | global g=>simp[cX] at hc
theorem bt (h:RelD X s a w D φ F []) (hd:∀ d,o.dst=some d->d < X.n) {v:V} {x:Value} (hr:(execOp a.eval o).run P w=.ok (.value x) w) (hv:CV w D v φ x []) :
  gS P o X a w (({ v:=v }:Dl).app o.dst s):=by
 refine⟨_,x,w,hr,.inl rfl,D,φ,F,?_⟩;cases hdst:o.dst with
 | none=>exact h
 | some d=>exact h.put d (hd d hdst) v x hv
omit [GI] in
theorem gq {w w':World} {ob:Obj} (hh:w'.heap=w.heap.push ob) {b:Nat} (hb:b < w.heap.size):w'.heap[b]?=w.heap[b]?:=by
 rw[hh,Array.getElem?_push];simp[Nat.ne_of_lt hb]
omit [GI] in
theorem pz {w w':World} {ob:Obj} (hh:w'.heap=w.heap.push ob):w'.heap[w.heap.size]?=some ob:=by
 rw[hh,Array.getElem?_push];simp
theorem RelD.new {G:List Nat} (h:RelD X s a w D φ F G) (d:Nat) (hf:Fresh s d) (hp:d ∉ X.pin) (w':World) (hos:w'.os=w.os) (htape:w'.tape=w.tape) (hout:w'.output=w.output)
  (arr:Array Value) (ty:TypeId) (hh:w'.heap=w.heap.push (.cells arr ty (0,0))) (blk:Blk) (hm:a7 d blk.es=false) (hc:CR w D blk.s blk.es φ arr.toList []) :
  RelD X { s with hp:=ca s.hp d (some blk) } a w' D (ca φ d (some ⟨w.heap.size,0,blk.s,arr.size⟩)) (ca F d [w.heap.size]) G:=by
 have hsz:w'.heap.size=w.heap.size+1:=by rw[hh];simp
 have h1:=(h.grow w' D [w.heap.size] hos htape hout (by omega) (fun b hb=>gq hh hb) (fun _ hb=>hb) (fun b hb=>⟨.inl hb,by have:=h.Dlt b hb;omega⟩) (by simp)
  (fun b hb=>by simp at hb;subst hb;exact⟨Nat.le_refl _,by omega,fun hd=>Nat.lt_irrefl _ (h.Dlt _ hd)⟩)).gperm List.perm_append_comm
 refine h1.settle d hf hp (some ⟨w.heap.size,0,blk.s,arr.size⟩) blk (.inr ⟨⟨w.heap.size,0,blk.s,arr.size⟩,arr,ty,[],by simp,rfl,rfl,sJ.of (pz hh),rfl,?_⟩);simp only[List.drop_zero];exact cr (fun _ hb=>hb) _ _ _ _ _ _ (fun b hb=>gq hh (hb.elim (h.Dlt b) (by simp))) (fun id hi=>bC _ _ (lC hm hi)) hc
theorem RelD.newM {G:List Nat} (h:RelD X s a w D φ F G) (d:Nat) (hf:Fresh s d) (hp:d ∉ X.pin) (w':World) (hos:w'.os=w.os) (htape:w'.tape=w.tape) (hout:w'.output=w.output)
  (arr:Array Value) (ty:TypeId) {fr:Nat×Nat} (hok:Od arr fr) (hh:w'.heap=w.heap.push (.cells arr ty fr)) (blk:Blk) (hm:a7 d blk.es=false) (hc:CR w D blk.s blk.es φ arr.toList []) :
  RelD X { s with hp:=ca s.hp d (some blk) } a w' D (ca φ d (some ⟨w.heap.size,0,blk.s,arr.size⟩)) (ca F d [w.heap.size]) G:=by
 have hsz:w'.heap.size=w.heap.size+1:=by rw[hh];simp
 have h1:=(h.grow w' D [w.heap.size] hos htape hout (by omega) (fun b hb=>gq hh hb) (fun _ hb=>hb) (fun b hb=>⟨.inl hb,by have:=h.Dlt b hb;omega⟩) (by simp)
  (fun b hb=>by simp at hb;subst hb;exact⟨Nat.le_refl _,by omega,fun hd=>Nat.lt_irrefl _ (h.Dlt _ hd)⟩)).gperm List.perm_append_comm
 refine h1.settle d hf hp (some ⟨w.heap.size,0,blk.s,arr.size⟩) blk (.inr ⟨⟨w.heap.size,0,blk.s,arr.size⟩,arr,ty,[],by simp,rfl,rfl,⟨fr,hok,pz hh⟩,rfl,?_⟩);simp only[List.drop_zero];exact cr (fun _ hb=>hb) _ _ _ _ _ _ (fun b hb=>gq hh (hb.elim (h.Dlt b) (by simp))) (fun id hi=>bC _ _ (lC hm hi)) hc
theorem RelD.newF {f0 G:List Nat} (h:RelD X s a w D φ F (f0++G)) (d:Nat) (hf:Fresh s d) (hp:d ∉ X.pin) (w':World) (hos:w'.os=w.os) (htape:w'.tape=w.tape) (hout:w'.output=w.output)
  (arr:Array Value) (ty:TypeId) (hh:w'.heap=w.heap.push (.cells arr ty (0,0))) (blk:Blk) (hm:a7 d blk.es=false) (hc:CR w D blk.s blk.es φ arr.toList f0) :
  RelD X { s with hp:=ca s.hp d (some blk) } a w' D (ca φ d (some ⟨w.heap.size,0,blk.s,arr.size⟩)) (ca F d (w.heap.size::f0)) G:=by
 have hsz:w'.heap.size=w.heap.size+1:=by rw[hh];simp
 have h1:=(h.grow w' D [w.heap.size] hos htape hout (by omega) (fun b hb=>gq hh hb) (fun _ hb=>hb) (fun b hb=>⟨.inl hb,by have:=h.Dlt b hb;omega⟩) (by simp)
  (fun b hb=>by simp at hb;subst hb;exact⟨Nat.le_refl _,by omega,fun hd=>Nat.lt_irrefl _ (h.Dlt _ hd)⟩)).gperm List.perm_append_comm
 have h2:RelD X s a w' D φ F ((w.heap.size::f0)++G):=h1;refine h2.settle d hf hp (some ⟨w.heap.size,0,blk.s,arr.size⟩) blk (.inr ⟨⟨w.heap.size,0,blk.s,arr.size⟩,arr,ty,f0,by simp,rfl,rfl,sJ.of (pz hh),rfl,?_⟩);simp only[List.drop_zero];exact cr (fun _ hb=>hb) _ _ _ _ _ _ (fun b hb=>gq hh (hb.elim (h.Dlt b) (fun hb=>(h.gnotD b (List.mem_append_left _ hb)).2.1))) (fun id hi=>bC _ _ (lC hm hi)) hc
theorem Hf (h:RelD X s a w D φ F []) {d:Nat} (hdst:o.dst=some d) (hd:d < X.n) (hf:Fresh s d) (hp:d ∉ X.pin) {v:V} {x:Value} {w':World} (hr:(execOp a.eval o).run P w=.ok (.value x) w')
  (hos:w'.os=w.os) (htape:w'.tape=w.tape) (hout:w'.output=w.output)
  (arr:Array Value) (ty:TypeId) (hh:w'.heap=w.heap.push (.cells arr ty (0,0))) (blk:Blk) (hm:a7 d blk.es=false) (hc:CR w D blk.s blk.es φ arr.toList [])
  (hv:CV w' D v (ca φ d (some ⟨w.heap.size,0,blk.s,arr.size⟩)) x []) :
  gS P o X a w (({ v:=v,new:=some blk }:Dl).app o.dst s):=by
 have h1:=(h.new d hf hp w' hos htape hout arr ty hh blk hm hc).put d hd v x hv;have h2:Cg X (({ v:=v,new:=some blk }:Dl).app (some d) s) (a.put (some d) x) w':=⟨D,_,_,h1⟩;rw[<- hdst] at h2;exact⟨_,x,w',hr,.inl rfl,h2⟩
theorem YK (h:RelD X s a w D φ F []) {id:Nat} {blk:Blk} (hb:s.hp id=some blk) {pl:Pl} (hpl:φ id=some pl) {arr arr':Array Value} {ty:TypeId} {fr:Nat×Nat} (hok:Od arr fr)
  (hw:w.heap[pl.b]?=some (.cells arr ty fr)) (hl:arr'.size=arr.size) {w':World} (hr:(execOp a.eval o).run P w=.ok .skip w') (hdst:o.dst=none)
  (hw':w'.heap=w.heap.setIfInBounds pl.b (.cells arr' ty fr)) (hos:w'.os=w.os) (htape:w'.tape=w.tape) (hout:w'.output=w.output)
  (es':List V) (hes:∀ f' ,F id=pl.b::f'->CR w D blk.s blk.es φ (arr.toList.drop pl.o) f'->CR w D blk.s es' φ (arr'.toList.drop pl.o) f') :
  gS P o X a w (({ v:=.undef,wr:=some (id,⟨blk.s,es'⟩) }:Dl).app o.dst s):=by
 have h1:=h.write id blk hb pl hpl arr arr' ty hok hw hl w' hw' hos htape hout es' hes;refine⟨_,undef,w',hr,.inr ⟨rfl,rfl⟩,D,φ,F,?_⟩;rw[hdst];exact h1
omit [GI] in
theorem Ul {b o s i j:Nat} {arr:Array Value} {x:Value} (hb:Ek w b=some arr) (hx:∀ j,j < s->(arr.toList.drop o)[i * s+j]?=x.cells[j]?) (hj:j < s) :
  w.cell? ⟨b,o+(i * s+j),none⟩=x.cells[j]?:=by
 rw[jR hb,<- hx j hj,List.getElem?_drop];simp
omit [GI] in
theorem Vs {t:TypeId} {b:Bool} {n:Nat} (h:Sv P t=some (b,n)):∃ d i,P.underlying t=some d/\P.info? t=some i/\Ef d=b/\i.size=n:=by
 unfold Sv at h;split at h
 ·rename_i d i h1 h2;simp only[Option.some.injEq,Prod.mk.injEq] at h;exact⟨d,i,h1,h2,h.1,h.2⟩
 ·cases h
omit [GI] in
theorem sG {t:TypeId} {d:TypeDesc} (h:P.underlying t=some d):(isAgg t).run P w=.ok (Ef d) w:=by
 simp only[isAgg,Sem.run_bind,run_underlying h,Result.andThen_ok];cases d<;>simp[Ef]
omit [GI] in
theorem Se {t:TypeId} {n:Nat} {ad:Addr} (ht:Sv P t=some (true,n)) (cs:List Value) (hl:cs.length=n) (hc:∀ k v,cs[k]?=some v->w.cell? (ad.add k)=some v) :
  (loadVar t ad).run P w=.ok (.agg cs.toArray) w:=by
 obtain ⟨d,i,h1,h2,h3,rfl⟩:=Vs ht;simp only[loadVar,Sem.run_bind,sG h1,Result.andThen_ok,h3,if_true,sizeOf,typeInfo,run_program,h2,Sem.run_pure];rw[<- hl,run_loadCells_list w ad cs hc];simp
omit [GI] in
theorem YJ {t:TypeId} {n:Nat} {ad:Addr} {v:Value} (ht:Sv P t=some (false,n)) (hc:w.cell? ad=some v) :
  (loadVar t ad).run P w=.ok v w:=by
 obtain ⟨d,i,h1,h2,h3,rfl⟩:=Vs ht;simp only[loadVar,Sem.run_bind,sG h1,Result.andThen_ok,h3];simp[hc]
omit [GI] in
theorem aaa {e:V} (h:cC e=true):∃ cs,e=.agg cs:=by
 cases e<;>simp[cC] at h;exact⟨_,rfl⟩
omit [GI] in
theorem Xn {t:TypeId} {agg:Bool} {n b o s i j:Nat} {arr:Array Value} {x:Value} {e v:V} (ht:Sv P t=some (agg,n)) (hb:Ek w b=some arr)
  (hx:∀ j,j < s->(arr.toList.drop o)[i * s+j]?=x.cells[j]?) (hs:x.cells.size=s) (he:CV w D e φ x []) (hv:Yo agg n s j e=some v) :
  ∃ y,(loadVar t ⟨b,o+(i * s+j),none⟩).run P w=.ok y w/\CV w D v φ y []:=by
 unfold Yo at hv;split at hv
 ·rename_i hcond;obtain ⟨rfl,rfl,rfl⟩:=hcond;split at hv
  ·rename_i ha;simp only[Option.some.injEq] at hv;subst hv;obtain ⟨cs,rfl⟩:=aaa ha;have he':=he;simp only[CV] at he';obtain ⟨xs,rfl,h2⟩:=he';refine⟨.agg xs,?_,he⟩;rw[Se ht xs.toList (by simpa [Value.cells] using hs) (fun k v hk=>?_)]
   rw[Addr.add_lit,Nat.add_assoc,Nat.add_assoc,Nat.zero_add,Ul hb hx (j:=k) (by
    have:=(List.getElem?_eq_some_iff.1 hk).1;simpa [Value.cells,<- hs] using this)]
   simpa [Value.cells] using hk
  ·cases hv
 ·cases hcs:bx e with
  | none=>simp[hcs] at hv
  | some cs =>
    simp only[hcs] at hv;have hcv:=x7 hcs he;have hlen:=cO hcv;simp only[Array.length_toList,hs] at hlen;cases agg with
    | true =>
      simp only[if_true] at hv;split at hv
      ·rename_i hjn;simp only[Option.some.injEq] at hv;subst hv;have hc2:=Ec n (Eb j hcv);refine⟨_,Se ht ((x.cells.toList.drop j).take n) (by simp[hs];omega) (fun k v hk=>?_),?_⟩
       ·rw[List.getElem?_take] at hk;split at hk
        ·rename_i hkn;rw[Addr.add_lit,Nat.add_assoc,Nat.add_assoc,Ul hb hx (j:=j+k) (by omega)];simpa using hk
        ·cases hk
       ·simp only[CV];exact⟨_,rfl,by simpa using hc2⟩
      ·cases hv
    | false =>
      simp only[Bool.false_eq_true,if_false] at hv;split at hv
      ·obtain ⟨y,f',h1,h2,h3⟩:=uO hcv hv;have:f'=[]:=List.eq_nil_iff_forall_not_mem.2 fun b hb=>by simpa using h3 b hb
       subst this
       have hj:j < s:=by
        have:=(List.getElem?_eq_some_iff.1 hv).1;omega
       refine⟨y,YJ ht ?_,h2⟩;rw[Ul hb hx hj];simpa using h1
      ·cases hv
omit [GI] in
theorem TP:∀ {es:List V} {i:Nat} {e:V},aC es=true->es[i]?=some e->bR e=true
 | [],i,e,_,h=>by simp at h
 | c::cs,0,e,hn,h=>by simp only[aC,Bool.and_eq_true] at hn;simp at h;exact h▸hn.1
 | c::cs,i+1,e,hn,h=>by simp only[aC,Bool.and_eq_true] at hn;exact TP hn.2 (by simpa using h)
omit [GI] in
theorem gm {f:List Nat} (h:∀ b ∈ f,b ∈ ([]:List Nat)):f=[]:=List.eq_nil_iff_forall_not_mem.2 fun b hb=>by simpa using h b hb
theorem abA (h:RelD X s a w D φ F []) {id:Nat} {blk:Blk} (hb:s.hp id=some blk) {i:Nat} {e:V} (he:blk.es[i]?=some e) {p0:Pl} (hp0:φ id=some p0) :
  ∃ p arr ty f',φ id=some p/\p.s=blk.s/\p.z=arr.size/\sJ w p.b arr ty/\F id=p.b::f'/\CR w D blk.s blk.es φ (arr.toList.drop p.o) f':=by
 rcases h.blks id blk hb with ⟨h2,_⟩ | h1
 ·rw[h2] at hp0;cases hp0
 ·exact h1
theorem ZG (h:RelD X s a w D φ F []) {t:TypeId} {agg:Bool} {n:Nat} (ht:Sv P t=some (agg,n)) {u:V} {x:Value} (hcv:CV w D u φ x [])
  {p:Prop} {δ:Dl} (he:vld agg n s.hp u=some (p,δ)):∃ ad y,x=.pointer (some ad)/\(loadVar t ad).run P w=.ok y w/\δ={ v:=δ.v }/\CV w D δ.v φ y []:=by
 unfold vld at he;split at he
 ·rename_i id i j;simp only[CV] at hcv;obtain ⟨_,p0,hp0,hxp⟩:=hcv;cases hb:s.hp id with
  | none=>simp[hb] at he
  | some blk =>
    simp only[hb] at he;cases hes:blk.es[i]? with
    | none=>simp[hes] at he
    | some e =>
      simp only[hes] at he;split at he
      ·rename_i hno;cases hv:Yo agg n blk.s j e with
       | none=>simp[hv] at he
       | some v =>
         simp only[hv,bl,Option.some.injEq,Prod.mk.injEq] at he;obtain ⟨_,rfl⟩:=he;obtain ⟨p1,arr,ty,f',g1,g2,g3,g4,g5,g6⟩:=abA h hb hes hp0;rw[hp0] at g1;cases g1;obtain ⟨z,fz,k1,k2,k3,k4⟩:=Uc g6 hes;have:fz=[]:=kh _ _ _ _ hno k1;subst this;obtain ⟨r,r1,r2⟩:=Xn ht g4.blk k4 k3.1 k1 hv;rw[<- g2] at r1;exact⟨_,r,hxp,r1,rfl,r2⟩
      ·cases he
 ·rename_i s' es i j;simp only[CV] at hcv;obtain ⟨_,b,o',arr,hxp,hD,hbk,hcr,hni⟩:=hcv;cases hes:es[i]? with
  | none=>simp[hes] at he
  | some e =>
    simp only[hes] at he;cases hv:Yo agg n s' j e with
    | none=>simp[hv] at he
    | some v =>
      simp only[hv,bl,Option.some.injEq,Prod.mk.injEq] at he;obtain ⟨_,rfl⟩:=he;obtain ⟨z,fz,k1,k2,k3,k4⟩:=Uc hcr hes;have:=gm k2;subst this;have hme:∀ id,bI id e=false:=fun id=>gx id e (TP hni hes);have k1':CV w D e φ z []:=c8 (fun _ hb=>hb) _ _ _ _ _ (fun _ _=>rfl) (fun id hm=>by rw[hme id] at hm;cases hm) k1;obtain ⟨r,r1,r2⟩:=Xn ht hbk k4 k3.1 k1' hv;exact⟨_,r,hxp,r1,rfl,r2⟩
 ·cases he
theorem ahK (h:RelD X s a w D φ F []) (hd:∀ d,o.dst=some d->d < X.n) {t:TypeId} {y:Operand} {x:Abs.X} {agg:Bool} {n:Nat} (hop:o.op=.load t y) (ht:Sv P t=some (agg,n)) (hx:cX y=some x)
  {p:Prop} {δ:Dl} (he:vld agg n s.hp (s.ev x)=some (p,δ)):gS P o X a w (δ.app o.dst s):=by
 obtain ⟨ad,r,h1,h2,h3,h4⟩:=ZG h ht (cV hx h) he;rw[h3];exact bt h hd (by simp[execOp,hop,Instr.loadAt,Instr.sureAddr,h1,h2]) h4
theorem aeA (h:RelD X s a w D φ F []) (hd:∀ d,o.dst=some d->d < X.n) {y:Operand} {x:Abs.X} (hop:o.op=.move y\/o.op=.assign y) (hx:cX y=some x) :
  gS P o X a w (({ v:=s.ev x }:Dl).app o.dst s) :=
 bt h hd (x:=a.eval y) (by rcases hop with hop | hop<;>simp[execOp,hop]) (cV hx h)
omit [GI] in
theorem adq {t:Bool} {x:Value} {f:List Nat} (h:CV w D (.v (.bool t)) φ x f):x=.bool t:=by simp only[CV] at h;exact h.1
omit [GI] in
theorem ff {y x:Value} {f:List Nat} (h:CV w D (.v y) φ x f):x=y:=by simp only[CV] at h;exact h.1
omit [GI] in
theorem iX {y:Value} (h:one y=true):CV w D (.v y) φ y []:=by simp[CV,h]
theorem ad3 (h:RelD X s a w D φ F []) (hd:∀ d,o.dst=some d->d < X.n) {c y z:Operand} {xc xy xz:Abs.X} {t:Bool} (hop:o.op=.pick c y z) (hc:cX c=some xc) (hy:cX y=some xy) (hz:cX z=some xz)
  (ht:s.ev xc=.v (.bool t)):gS P o X a w (({ v:=bif t then s.ev xy else s.ev xz }:Dl).app o.dst s):=by
 have hcv:=cV hc h;rw[ht] at hcv;have hb:=adq hcv;refine bt h hd (x:=bif t then a.eval y else a.eval z) (by cases t<;>simp[execOp,hop,hb,asBool]) ?_;cases t
 ·exact cV hz h
 ·exact cV hy h
omit [GI] in
theorem Hi {v:V} {n:Nat} {x:Value} {f:List Nat} (h:DX v=some n) (hc:CV w D v φ x f):x.cells.size=n:=by
 simp only[DX,Option.map_eq_some_iff] at h;obtain ⟨cs,h1,h2⟩:=h;have:=cO (x7 h1 hc);simpa [h2] using this
omit [GI] in
mutual
theorem aaz:∀ (v:V) (φ:Nat->Option Pl) (x:Value) (f:List Nat),hU v=true->CV w D v φ x f->one x=true
 | .undef,_,_,_,h,_=>by simp[hU] at h
 | .agg _,_,_,_,h,_=>by simp[hU] at h
 | .tup _,_,_,_,h,_=>by simp[hU] at h
 | .v y,_,x,_,_,h=>by simp only[CV] at h;rw[h.1];exact h.2.1
 | .ref _ _ _,_,x,_,_,h=>by simp only[CV] at h;obtain ⟨_,p,_,rfl⟩:=h;rfl
 | .sl _ _ _,_,x,_,_,h=>by simp only[CV] at h;obtain ⟨_,⟨_,_,_,rfl⟩ | ⟨p,o,cap,_,rfl,_⟩⟩:=h<;>rfl
 | .rp _ _ _ _,_,x,_,_,h=>by simp only[CV] at h;obtain ⟨_,b,o,arr,rfl,_⟩:=h;rfl
 | .ro _ _,_,x,_,_,h=>by simp only[CV] at h;obtain ⟨_,⟨_,a,cap,rfl,_⟩ | ⟨b,o,cap,arr,rfl,_⟩⟩:=h<;>rfl
 | .own _ _,_,x,_,_,h=>by simp only[CV] at h;obtain ⟨_,rfl,_⟩ | ⟨b,o,cap,arr,ty,fp',rfl,_⟩:=h<;>rfl
 | .clo _ _,_,x,_,_,h=>by simp only[CV] at h;obtain ⟨xs,rfl,_⟩:=h;rfl
end
omit [GI] in
theorem RZ:∀ {cs:List V} {φ:Nat->Option Pl} {xs:List Value} {f:List Nat},Tx cs=true->cg w D cs φ xs f->∀ x ∈ xs,one x=true
 | [],φ,xs,f,_,h=>by simp only[cg] at h;simp[h.1]
 | c::cs,φ,xs,f,hf,h=>by
   simp only[cg] at h;obtain ⟨x,xs',f1,f2,rfl,_,h1,h2⟩:=h;intro y hy;have hc:hU c=true/\Tx cs=true:=by simpa [Tx] using hf
   rcases List.mem_cons.1 hy with rfl | hy
   ·exact aaz _ _ _ _ hc.1 h1
   ·exact RZ hc.2 h2 y hy
omit [GI] in
theorem xu {v:V} {x:Value} {f:List Nat} (h:O4 v=true) (hc:CV w D v φ x f):x.cells.toList.all one=true:=by
 unfold O4 at h;split at h
 ·rename_i vs hvs;rw[List.all_eq_true];exact RZ h (x7 hvs hc)
 ·cases h
omit [GI] in
theorem aeJ {v:V} {x:Value} {n:Nat} (hc:CV w D v φ x []) (hs:x.cells.size=n/\x.cells.toList.all one=true):CR w D n [v] φ x.cells.toList []:=by
 simp only[CR];exact⟨x,[],[],[],by simp,hs,rfl,hc,rfl⟩
theorem acu (h:RelD X s a w D φ F []) {t:TypeId} {y:Operand} {v:V} {n d:Nat} {x:Value} (hop:(o.op=.box t y/\a.eval y=x)\/(o.op=.alloc t/\∃ i,P.info? t=some i/\i.zero=some x))
  (hc:CV w D v φ x []) (hs:DX v=some n) (hfl:O4 v=true) (hm:bI d v=false) (hdst:o.dst=some d) (hd:d < X.n) (hf:Fresh s d) (hp:d ∉ X.pin) :
  gS P o X a w (({ v:=.ref d 0 0,new:=some ⟨n,[v]⟩ }:Dl).app o.dst s):=by
 have hsz:=Hi hs hc;refine Hf h hdst hd hf hp (x:=.pointer (some ⟨w.heap.size,0,none⟩)) (w':=w.alloc (.cells x.cells t)) ?_ rfl rfl rfl x.cells t rfl ⟨n,[v]⟩ (by simp[a7,hm]) (aeJ hc ⟨hsz,xu hfl hc⟩) ?_
 ·rcases hop with ⟨hop,rfl⟩ | ⟨hop,i,hi,hz⟩
  ·simp[execOp,hop,Instr.box,newVar,newRow]
  ·simp[execOp,hop,Instr.alloc,zeroValue,typeInfo,hi,hz,newVar,newRow]
 ·simp only[CV,bQ];exact⟨trivial,_,rfl,by simp⟩
omit [GI] in
theorem w9 (g o:Nat) (t:TypeId) (fr:Nat×Nat):∀ (vs:List Value) (i:Nat) (cur:Array Value) (w:World),Od cur fr->w.heap[g]?=some (.cells cur t fr)->o+i+vs.length<=cur.size->(∀ v ∈ vs,v.oneCell'=true) ->
  (storeCells ⟨g,o,none⟩ vs i).run P w=.ok () (w.setRow g (cur.toList.take (o+i)++vs++cur.toList.drop (o+i+vs.length)).toArray)
 | [],i,cur,w,_,hg,_,_=>by
   simp only[storeCells,List.append_nil,List.length_nil,Nat.add_zero,List.take_append_drop,Array.toArray_toList];rw[setRow_self w g cur t fr hg];rfl
 | v::rest,i,cur,w,hok,hg,hl,h1=>by
   simp only[List.length_cons] at hl;have hi:o+i < cur.size:=by omega
   have hadd:(⟨g,o,none⟩:Addr).add i=⟨g,o+i,none⟩:=Addr.add_lit ..;have hcell:w.cell? ⟨g,o+i,none⟩=some cur[o+i]:=by simp[World.cell?,hg,hi]
   have hz:¬(fr.1<=o+i/\o+i < fr.2):=by
    rcases hok with rfl | ⟨_,h⟩
    ·simp
    ·omega
   have hfro:w.frozen? ⟨g,o+i,none⟩=false:=by
    unfold World.frozen?;rw[hg];simpa using hz
   have hst:(store ((⟨g,o,none⟩:Addr).add i) v).run P w=.ok () (w.setRow g (cur.setIfInBounds (o+i) v)):=by
    rw[hadd,run_store P w _ v _ (h1 v (by simp)),hcell];simp[hfro,setCell_eq_setRow w g (o+i) cur t fr v hg]
   have ih:=w9 g o t fr rest (i+1) (cur.setIfInBounds (o+i) v) (w.setRow g (cur.setIfInBounds (o+i) v)) (hok.size (by simp)) (setRow_heap w g cur _ t _ hg) (by simp;omega) (fun x hx=>h1 x (by simp[hx]));simp only[storeCells,Sem.run_bind,hst,Result.andThen_ok,ih,setRow_setRow];congr 3;simpa [Array.toList_setIfInBounds,Nat.add_assoc] using list_seg_step cur.toList (o+i) v rest (by simp;omega)
omit [GI] in
theorem NE {b f:Nat} {arr:Array Value} {ty:TypeId} {fr:Nat×Nat} (hok:Od arr fr) (hw:w.heap[b]?=some (.cells arr ty fr)) (vs:List Value) (h1:∀ v ∈ vs,one v=true) (hl:f+vs.length<=arr.size) :
  ∃ arr':Array Value,arr'.toList=arr.toList.take f++vs++arr.toList.drop (f+vs.length) /\
   (storeCells ⟨b,f,none⟩ vs).run P w=.ok () { w with heap:=w.heap.setIfInBounds b (.cells arr' ty fr) }:=by
 have h:=w9 (P:=P) b f ty fr vs 0 arr w hok hw (by simpa using hl) (fun v hv=>by have:=h1 v hv;cases v<;>simp_all [one,Value.oneCell']);refine⟨_,List.toList_toArray,?_⟩;rw[h];have hb:b < w.heap.size:=(Array.getElem?_eq_some_iff.1 hw).1;have hwb:w.heap[b]=.cells arr ty fr:=by rw[Array.getElem?_eq_getElem hb] at hw;exact Option.some.inj hw
 congr 1;unfold World.setRow;congr 1;refine Array.ext_getElem? fun i=>?_;rw[Array.getElem?_modify,Array.getElem?_setIfInBounds];by_cases e:b=i
 ·subst e;simp[hb,hwb]
 ·simp[e]
omit [GI] in
theorem S7 {t:TypeId} {i:TypeInfo} (hi:P.info? t=some i) {b f:Nat} {arr:Array Value} {ty:TypeId} {fr:Nat×Nat} (hok:Od arr fr) (hw:w.heap[b]?=some (.cells arr ty fr)) (v:Value) (hs:v.cells.size=i.size)
  (h1:∀ x ∈ v.cells.toList,one x=true) (hl:f+v.cells.size<=arr.size) :
  ∃ arr':Array Value,arr'.toList=arr.toList.take f++v.cells.toList++arr.toList.drop (f+v.cells.size) /\
   (storeVar t ⟨b,f,none⟩ v).run P w=.ok () { w with heap:=w.heap.setIfInBounds b (.cells arr' ty fr) }:=by
 obtain ⟨arr',g1,g2⟩:=NE (P:=P) hok hw v.cells.toList h1 (by simpa using hl);refine⟨arr',by simpa using g1,?_⟩;simp only[storeVar,Sem.run_bind,sizeOf,typeInfo,run_program,Result.andThen_ok,hi,Sem.run_pure,hs];simpa using g2
omit [GI] in
theorem lA {α:Type} (L c:List α) (f q:Nat) (h:f+c.length<=L.length) :
  (L.take f++c++L.drop (f+c.length))[q]?=if q < f then L[q]? else if q < f+c.length then c[q - f]? else L[q]?:=by
 have hf:(L.take f).length=f:=by rw[List.length_take];omega
 split
 ·rename_i h1;rw[List.append_assoc,List.getElem?_append_left (by omega),List.getElem?_take];simp[h1]
 ·rename_i h1;split
  ·rename_i h2;rw[List.getElem?_append_left (by rw[List.length_append];omega),List.getElem?_append_right (by omega),hf]
  ·rename_i h2;rw[List.getElem?_append_right (by rw[List.length_append];omega),List.length_append,hf,List.getElem?_drop];congr 1;omega
omit [GI] in
theorem kZ {α:Type} (L c:List α) (f:Nat) (h:f+c.length<=L.length):(L.take f++c++L.drop (f+c.length)).length=L.length:=by
 simp only[List.length_append,List.length_take,List.length_drop];omega
omit [GI] in
theorem ZL {cs:List V} {xs:List Value} {f:List Nat} (h:cg w D cs φ xs f):CV w D (.agg cs) φ (.agg xs.toArray) f:=by
 simp only[CV];exact⟨_,rfl,by simpa using h⟩
omit [GI] in
theorem ad8 {n s j:Nat} {e v e':V} {z x:Value} (he:CV w D e φ z []) (hz:z.cells.size=s) (hv:CV w D v φ x []) (hx:x.cells.size=n) (h:acX n s j e v=some e') :
  j+n<=s/\∃ y,CV w D e' φ y []/\y.cells.size=s/\∀ k,k < s->y.cells[k]?=if k < j then z.cells[k]? else if k < j+n then x.cells[k - j]? else z.cells[k]?:=by
 unfold acX at h;split at h
 ·rename_i hc;obtain ⟨rfl,rfl,_⟩:=hc;simp only[Option.some.injEq] at h;subst h;refine⟨by omega,x,hv,hx,fun k hk=>?_⟩;simp[hk]
 ·split at h
  ·rename_i cs vs h1 h2;split at h
   ·rename_i hc;obtain ⟨ha,hl,hj⟩:=hc;simp only[Option.some.injEq] at h;subst h;have g1:=x7 h1 he;have g2:=x7 h2 hv;have l1:=cO g1;have l2:=cO g2;simp only[Array.length_toList] at l1 l2;have g3:=ln (ln (Ec j g1) g2) (Eb (j+n) g1);simp only[List.append_nil] at g3;refine⟨by omega,_,ZL g3,?_,fun k hk=>?_⟩
    ·rw[show ∀ L:List Value,(Value.agg L.toArray).cells=L.toArray from fun _=>rfl,List.size_toArray,show j+n=j+x.cells.toList.length from by simp[hx],kZ _ _ _ (by simp;omega)];simpa using hz
    ·rw[show ∀ L:List Value,(Value.agg L.toArray).cells=L.toArray from fun _=>rfl,List.getElem?_toArray,show j+n=j+x.cells.toList.length from by simp[hx],lA _ _ _ _ (by simp;omega)];simp
   ·cases h
  ·cases h
theorem ahL (h:RelD X s a w D φ F []) {t:TypeId} {i0:TypeInfo} {ya yx:Operand} {xa xx:Abs.X} (hop:o.op=.store t ya yx) (hi0:P.info? t=some i0) (hxa:cX ya=some xa) (hxx:cX yx=some xx) (hdst:o.dst=none)
  {p:Prop} {δ:Dl} (he:vst i0.size s.hp (s.ev xx) (s.ev xa)=some (p,δ)):gS P o X a w (δ.app o.dst s):=by
 have hcv:=cV hxa h;have hvx:=cV hxx h;generalize s.ev xa=u at he hcv;generalize s.ev xx=v at he hvx;unfold vst at he;split at he
 ·rename_i id i j;simp only[CV] at hcv;obtain ⟨_,p0,hp0,hxp⟩:=hcv;cases hb:s.hp id with
  | none=>simp[hb] at he
  | some blk =>
    simp only[hb] at he;cases hes:blk.es[i]? with
    | none=>simp[hes] at he
    | some e =>
      simp only[hes] at he;split at he
      ·rename_i hcond;obtain ⟨hne,hnv,hsz,hfl,hn0⟩:=hcond;cases hst:acX i0.size blk.s j e v with
       | none=>simp[hst] at he
       | some e' =>
         simp only[hst,Option.some.injEq,Prod.mk.injEq] at he;obtain ⟨_,rfl⟩:=he;obtain ⟨p1,arr,ty,f',g1,g2,g3,g4,g5,g6⟩:=abA h hb hes hp0;rw[hp0] at g1;cases g1;obtain ⟨z,fz,k1,k2,k3,k4⟩:=Uc g6 hes;have:fz=[]:=kh _ _ _ _ hne k1;subst this;have hxs:=Hi hsz hvx;obtain ⟨hjn,y,y1,y2,y3⟩:=ad8 k1 k3.1 hvx hxs hst;have hlen:=sy g6;have hil:i < blk.es.length:=(List.getElem?_eq_some_iff.1 hes).1;have hmul:(i+1) * blk.s<=blk.es.length * blk.s:=Nat.mul_le_mul_right _ hil;rw[Nat.add_mul,Nat.one_mul] at hmul;simp only[List.length_drop,Array.length_toList] at hlen
         have hle:p0.o+(i * p0.s+j)+(a.eval yx).cells.size<=arr.size:=by
          rw[g2,hxs];have:0 < blk.es.length * blk.s:=Nat.mul_pos (by omega) (by omega);omega
         have hones:=xu hfl hvx;have hone:∀ x ∈ (a.eval yx).cells.toList,one x=true:=List.all_eq_true.1 hones;obtain ⟨fr,hok,g4⟩:=g4;obtain ⟨arr',q1,q2⟩:=S7 (P:=P) hi0 hok g4 (a.eval yx) hxs hone hle
         have hl':arr'.size=arr.size:=by
          have:=congrArg List.length q1;rw[show p0.o+(i * p0.s+j)+(a.eval yx).cells.size=p0.o+(i * p0.s+j)+(a.eval yx).cells.toList.length from by simp,kZ _ _ _ (by simpa using hle)] at this;simpa using this
         refine YK h hb hp0 hok g4 hl' (w':={ w with heap:=w.heap.setIfInBounds p0.b (.cells arr' ty fr) }) ?_ hdst rfl rfl rfl rfl _ ?_
         ·simp[execOp,hop,Instr.storeAt,Instr.sureAddr,hxp,q2]
         ·intro f1 hf1 hcr
          have y4:y.cells.toList.all one=true:=by
           rw[List.all_eq_true];intro c hc;obtain ⟨k,hk⟩:=List.mem_iff_getElem?.1 hc
           have hks:k < blk.s:=by
            have:=(List.getElem?_eq_some_iff.1 hk).1;simpa [y2] using this
           have h3:=y3 k hks;rw[Array.getElem?_toList] at hk;rw[hk] at h3;split at h3
           ·exact List.all_eq_true.1 k3.2 c (List.mem_of_getElem? (i:=k) (by rw[Array.getElem?_toList];exact h3.symm))
           ·split at h3
            ·exact hone c (List.mem_of_getElem? (i:=k - j) (by rw[Array.getElem?_toList];exact h3.symm))
            ·exact List.all_eq_true.1 k3.2 c (List.mem_of_getElem? (i:=k) (by rw[Array.getElem?_toList];exact h3.symm))
          refine XU hcr hes hne y1 ⟨y2,y4⟩ ?_ ?_ ?_
          ·simp[hl']
          ·intro q hq;rw[List.getElem?_drop,List.getElem?_drop,q1,show p0.o+(i * p0.s+j)+(a.eval yx).cells.size=p0.o+(i * p0.s+j)+(a.eval yx).cells.toList.length from by simp,lA _ _ _ _ (by simpa using hle)];simp only[Array.length_toList,hxs,g2];split
           ·rfl
           ·rw[if_neg (by omega)]
          ·intro q hq;rw[y3 q hq,List.getElem?_drop,q1,show p0.o+(i * p0.s+j)+(a.eval yx).cells.size=p0.o+(i * p0.s+j)+(a.eval yx).cells.toList.length from by simp,lA _ _ _ _ (by simpa using hle)];simp only[Array.length_toList,hxs,g2];have hk:=k4 q hq;rw[List.getElem?_drop] at hk;by_cases c1:q < j
           ·rw[if_pos (by omega),if_pos c1,hk]
           ·rw[if_neg (by omega),if_neg c1];by_cases c2:q < j+i0.size
            ·rw[if_pos (by omega),if_pos c2];rw[show p0.o+(i * blk.s+q) - (p0.o+(i * blk.s+j))=q - j from by omega];simp
            ·rw[if_neg (by omega),if_neg c2,hk]
      ·cases he
 ·cases he
end
end Go.Abs
namespace Go.Abs
variable [GI]
section
variable {P : Program} {X : Ctx} {s : St} {a : Act} {w : World} {D : Nat → Prop} {φ : Nat → Option Pl} {F : Nat → List Nat} {o : Oper}
omit [GI] in
theorem abR {op:BinOp} {t:TypeId} (h:eqK P op t=some .bool):P.underlying t=some .bool:=by
 unfold eqK at h;split at h
 ·split at h<;>try (simp_all;done)
  split at h
  ·split at h<;>cases h
  ·cases h
 ·simp at h
omit [GI] in
theorem adS:IntKind.i64.max=9223372036854775807:=by decide
def X6:EK->Value->Value->Option Bool
 | .int,.int k a,.int k' b=>if k=k' then some (a==b) else none
 | .bool,.bool a,.bool b=>some (a==b)
 | .str,.string a,.string b=>some (a.toList==b.toList)
 | _,_,_=>none
def VB:List EK->List Value->List Value->Option Bool
 | [],[],[]=>some true
 | k::ks,u::us,v::vs=>X2 (X6 k u v) (VB ks us vs)
 | _,_,_=>none
omit [GI] in
theorem NU {a b:Option Bool} {r:Bool} (h:X2 a b=some r):∃ p q,a=some p/\b=some q/\r=(p&&q):=by
 cases a<;>cases b<;>simp_all [X2]
omit [GI] in
theorem abc {k:EK} {u v:V} {x y:Value} {f g:List Nat} {r:Bool} (h:aeb k u v=some r) (hx:CV w D u φ x f) (hy:CV w D v φ y g):X6 k x y=some r:=by
 unfold aeb at h;split at h
 all_goals first
  | (rw[ff hx,ff hy];simpa [X6] using h)
  | cases h
omit [GI] in
theorem ZJ:∀ (ks:List EK) (us vs:List V) (xs ys:List Value) (f g:List Nat) (r:Bool),veq ks us vs=some r->cg w D us φ xs f->cg w D vs φ ys g->VB ks xs ys=some r
 | [],us,vs,xs,ys,f,g,r,h,hx,hy=>by
   unfold veq at h;split at h
   ·simp only[cg] at hx hy;rw[hx.1,hy.1];simpa [VB] using h
   ·contradiction
   ·cases h
 | k::ks,us,vs,xs,ys,f,g,r,h,hx,hy=>by
   unfold veq at h;split at h
   ·contradiction
   ·rename_i k' ks' u us v vs e;cases e;obtain ⟨p,q,h1,h2,rfl⟩:=NU h;simp only[cg] at hx hy;obtain ⟨x,xs',f1,f2,rfl,rfl,hx1,hx2⟩:=hx;obtain ⟨y,ys',g1,g2,rfl,rfl,hy1,hy2⟩:=hy;simp[VB,abc h1 hx1 hy1,ZJ ks us vs xs' ys' _ _ _ h2 hx2 hy2,X2]
   ·cases h
omit [GI] in
theorem Ra:∀ (ks ks':List EK) (xs ys:List Value) (r:Bool),VB (ks++ks') xs ys=some r ->
  ∃ x1 x2 y1 y2 r1 r2,xs=x1++x2/\ys=y1++y2/\x1.length=ks.length/\y1.length=ks.length/\VB ks x1 y1=some r1/\VB ks' x2 y2=some r2/\r=(r1&&r2)
 | [],ks',xs,ys,r,h=>⟨[],xs,[],ys,true,r,rfl,rfl,rfl,rfl,rfl,h,by simp⟩
 | k::ks,ks',[],ys,r,h=>by simp[VB] at h
 | k::ks,ks',x::xs,[],r,h=>by simp[VB] at h
 | k::ks,ks',x::xs,y::ys,r,h=>by
   rw[List.cons_append,VB] at h;obtain ⟨p,q,h1,h2,rfl⟩:=NU h;obtain ⟨x1,x2,y1,y2,r1,r2,rfl,rfl,g1,g2,g3,g4,rfl⟩:=Ra _ _ _ _ _ h2;exact⟨x::x1,x2,y::y1,y2,p&&r1,r2,rfl,rfl,by simp[g1],by simp[g2],by simp[VB,h1,g3,X2],g4,by simp[Bool.and_assoc]⟩
omit [GI] in
theorem J0 {k:EK} {x y:Value} {r:Bool} (h:VB [k] [x] [y]=some r):X6 k x y=some r:=by
 rw[VB] at h;obtain ⟨p,q,h1,h2,rfl⟩:=NU h;simp only[VB,Option.some.injEq] at h2;subst h2;simpa using h1
def AZ (P:Program) (t:TypeId) (xs:List Value) (x:Value):Prop :=
 match P.underlying t with
 | some (.struct _)=>x=.agg xs.toArray
 | _=>xs=[x]
omit [GI] in
theorem Ur {m:Nat} {t:TypeId} {ks:List EK} (h:lb P m t=some ks):∃ d,P.underlying t=some d/\(Ef d=true↔∃ fs,d=.struct fs):=by
 cases m with
 | zero=>cases h
 | succ m =>
   unfold lb at h;split at h
   ·rename_i hd;exact⟨_,hd,by simp[Ef]⟩
   ·rename_i hd;exact⟨_,hd,by simp[Ef]⟩
   ·rename_i hd;exact⟨_,hd,by simp[Ef]⟩
   ·rename_i fs hd;exact⟨_,hd,by simp[Ef]⟩
   ·cases h
omit [GI] in
theorem Xo {m:Nat} {t:TypeId} {ks:List EK} (h:lb P m t=some ks) (hi:(P.info? t).map (·.size)=some ks.length) {pre x1 post:List Value} (hl:x1.length=ks.length) (hone:(∀ fs,P.underlying t≠some (.struct fs))->ks.length=1) :
  ∃ v,(part t (pre++x1++post).toArray pre.length).run P w=.ok v w/\AZ P t x1 v:=by
 obtain ⟨d,hd,hagg⟩:=Ur h;simp only[Option.map_eq_some_iff] at hi;obtain ⟨i,hi,hs⟩:=hi;cases ha:Ef d with
 | true =>
   obtain ⟨fs,rfl⟩:=hagg.1 ha;refine⟨.agg x1.toArray,?_,by simp[AZ,hd]⟩;simp only[part,Sem.run_bind,sG hd,ha,Result.andThen_ok,if_true];simp only[sizeOf,typeInfo,Sem.run_bind,run_program,Result.andThen_ok,hi,Sem.run_pure];congr 2;rw[hs,<- hl];simp[List.extract_eq_take_drop]
 | false =>
   have hn:∀ fs,P.underlying t≠some (.struct fs):=fun fs e=>by
    rw[hd] at e;cases e;simp[Ef] at ha
   have h1:=hone hn
   match x1,hl with
   | [v],_ =>
     refine⟨v,?_,?_⟩
     ·simp only[part,Sem.run_bind,sG hd,ha,Result.andThen_ok];simp
     ·unfold AZ;split
      ·rename_i fs e;exact absurd e (hn fs)
      ·rfl
   | [],hl=>simp at hl;omega
   | _::_::_,hl=>simp at hl;omega
omit [GI] in
theorem O2 {m:Nat} {t:TypeId} {ks:List EK} (h:lb P m t=some ks) (hn:∀ fs,P.underlying t≠some (.struct fs)):ks.length=1:=by
 cases m with
 | zero=>cases h
 | succ m =>
   unfold lb at h;split at h
   ·cases h;rfl
   ·cases h;rfl
   ·cases h;rfl
   ·rename_i fs hd;exact absurd hd (hn fs)
   ·cases h
omit [GI] in
theorem Xm {m d:Nat} (ih:∀ t ks xs ys r x y,lb P m t=some ks->VB ks xs ys=some r->AZ P t xs x->AZ P t ys y->(Op.equalIn d t x y).run P w=.ok r w) :
  ∀ (fs:List Field) (ks:List EK) (pre pre' xs ys:List Value) (r:Bool),abQ P (lb P m) fs pre.length=some ks->pre'.length=pre.length->VB ks xs ys=some r ->
   (Op.eqFields d (pre++xs).toArray (pre'++ys).toArray fs).run P w=.ok r w
 | [],ks,pre,pre',xs,ys,r,h,hp,hc=>by
   simp only[abQ,Option.some.injEq] at h;subst h;unfold VB at hc;split at hc<;>simp_all [Op.eqFields]
 | f::fs,ks,pre,pre',xs,ys,r,h,hp,hc=>by
   unfold abQ at h;split at h
   ·rename_i hf;split at h
    ·rename_i kf hkf;split at h
     ·rename_i hs;simp only[Option.map_eq_some_iff] at h;obtain ⟨kl,hkl,rfl⟩:=h;obtain ⟨x1,x2,y1,y2,r1,r2,rfl,rfl,h1,h2,h3,h4,rfl⟩:=Ra _ _ _ _ _ hc;obtain ⟨v,hv,hv'⟩:=Xo (w:=w) (pre:=pre) (x1:=x1) (post:=x2) hkf hs h1 (O2 hkf);obtain ⟨u,hu,hu'⟩:=Xo (w:=w) (pre:=pre') (x1:=y1) (post:=y2) hkf hs h2 (O2 hkf);have hr:=ih _ _ _ _ _ _ _ hkf h3 hv' hu';rw[hp] at hu;have rest:=Xm ih fs kl (pre++x1) (pre'++y1) x2 y2 r2 (by rw[List.length_append,h1];exact hkl) (by simp[h1,h2,hp]) h4;simp only[Op.eqFields,hf.1,ne_eq,not_false_eq_true,if_true,Sem.run_bind,hf.2];rw[List.append_assoc] at hv hu;rw[hv,Result.andThen_ok,hu,Result.andThen_ok,hr,Result.andThen_ok];cases r1 with
      | false=>simp
      | true =>
        rw[List.append_assoc,List.append_assoc] at rest;simp[rest]
     ·cases h
    ·cases h
   ·cases h
omit [GI] in
theorem PO:∀ (m d:Nat) (t:TypeId) (ks:List EK) (xs ys:List Value) (r:Bool) (x y:Value),m<=d->lb P m t=some ks->VB ks xs ys=some r->AZ P t xs x->AZ P t ys y->(Op.equalIn d t x y).run P w=.ok r w
 | 0,d,t,ks,xs,ys,r,x,y,hd,h,hc,hx,hy=>by cases h
 | m+1,0,t,ks,xs,ys,r,x,y,hd,h,hc,hx,hy=>by omega
 | m+1,d+1,t,ks,xs,ys,r,x,y,hd,h,hc,hx,hy=>by
   unfold lb at h;split at h
   ·rename_i k ht;cases h;simp only[AZ,ht] at hx hy;subst hx hy;have:=J0 hc;unfold X6 at this;split at this
    ·split at this
     ·rename_i hk;subst hk;cases this;simp[Op.equalIn,run_underlying ht]
     ·cases this
    ·contradiction
    ·contradiction
    ·cases this
   ·rename_i ht;cases h;simp only[AZ,ht] at hx hy;subst hx hy;have:=J0 hc;unfold X6 at this;split at this
    ·contradiction
    ·cases this;simp[Op.equalIn,run_underlying ht]
    ·contradiction
    ·cases this
   ·rename_i ht;cases h;simp only[AZ,ht] at hx hy;subst hx hy;have:=J0 hc;unfold X6 at this;split at this
    ·contradiction
    ·contradiction
    ·cases this;rw[run_equalIn_string w d t _ _ ht]
    ·cases this
   ·rename_i fs ht;split at h
    ·rename_i hst;simp only[AZ,ht] at hx hy;subst hx hy;have hf:P.fieldsOf t=fs:=by simp[Program.fieldsOf,ht]
     rw[run_equalIn_struct w d t _ _ (by rw[hf];exact ht) hst,hf];have:=Xm (P:=P) (w:=w) (m:=m) (d:=d) (fun t ks xs ys r x y h1 h2 h3 h4=>PO m d t ks xs ys r x y (by omega) h1 h2 h3 h4) fs.toList ks [] [] xs ys r (by simpa using h) rfl hc;simpa using this
    ·cases h
   ·cases h
omit [GI] in
theorem Ya {op:BinOp} {t:TypeId} {ks:List EK} (h:eqK P op t=some (.struct ks)):(op=.eql\/op=.neq)/\lb P 8 t=some ks/\P.eqGuardType P.depth t=false/\∃ fs,P.underlying t=some (.struct fs):=by
 unfold eqK at h;split at h
 ·rename_i ho;split at h<;>try (cases h;done)
  rename_i fs ht;split at h
  ·rename_i ks' hk;split at h
   ·rename_i hg;cases h;exact⟨ho,hk,hg,fs,ht⟩
   ·cases h
  ·cases h
 ·cases h
omit [GI] in
theorem Uq {op:BinOp} {t:TypeId} (h:eqK P op t=some .nil):∃ e,P.underlying t=some (.slice e):=by
 unfold eqK at h;split at h
 ·split at h<;>try (cases h;done)
  ·rename_i e ht;exact⟨e,ht⟩
  ·split at h
   ·split at h<;>cases h
   ·cases h
 ·cases h
omit [GI] in
theorem KF {op:BinOp} {t e:TypeId} {yx yy:Operand} (ht:P.underlying t=some (.slice e)) (a:Option Addr) (n c m k:Nat) {r:Bool} {p:Prop} {δ:Dl} (hr:r=a.isNone) (he:XT op p (some r)=some (p,δ)) :
  ∃ z,(do eqGuard op t yx yy (.slice a n c) (.slice none m k);binOp op t (.slice a n c) (.slice none m k):Sem Value).run P w=.ok z w/\δ={ v:=.v z }/\one z=true:=by
 have h0:(Op.equal t (.slice a n c) (.slice none m k)).run P w=.ok a.isNone w:=by
  have e:∀ d,(Op.equalIn (d+1) t (.slice a n c) (.slice none m k)).run P w=.ok a.isNone w:=fun d=>by
   cases a<;>simp[Op.equalIn,run_underlying ht]
  exact e 9999
 cases op<;>simp only[XT,cQ,reduceCtorEq] at he
 all_goals
  simp only[Option.some.injEq,Prod.mk.injEq,true_and] at he;obtain rfl:=he;refine⟨_,?_,rfl,rfl⟩;simp only[eqGuard,binOp,Sem.run_bind];simp[h0,hr]
omit [GI] in
theorem acN {op:BinOp} {t:TypeId} {k:EqK} {yx yy:Operand} {x y:Value} {u v:V} {p:Prop} {δ:Dl} (hk:eqK P op t=some k) (hx:CV w D u φ x []) (hy:CV w D v φ y [])
  (he:Vt op k u v=some (p,δ)) (hp:p):∃ z,(do eqGuard op t yx yy x y;binOp op t x y:Sem Value).run P w=.ok z w/\δ={ v:=.v z }/\one z=true:=by
 unfold Vt at he;split at he
 ·rename_i i a j b;have hx:=ff hx;have hy:=ff hy;subst hx hy;cases op<;>simp only[bl,cQ] at he
  all_goals first
   | (split at he
      ·rename_i hij;subst hij;simp only[Option.some.injEq,Prod.mk.injEq,reduceCtorEq] at he;obtain ⟨rfl,rfl⟩:=he;refine⟨_,?_,rfl,rfl⟩
       first
        | (simp[eqGuard,binOp,Op.intArith];done)
        | (simp[eqGuard,binOp,Op.intDiv,hp];done)
        | (simp[eqGuard,binOp,Op.intBits];done)
        | (simp[eqGuard,binOp,Op.intCmp];done)
      ·cases he)
   | (simp only[Option.some.injEq,Prod.mk.injEq] at he
      obtain ⟨rfl,rfl⟩:=he;refine⟨_,?_,rfl,rfl⟩;simp[eqGuard,binOp,Op.shift,Int.not_lt.2 hp])
   | (split at he<;>cases he)
 ·rename_i a b;have hx:=ff hx;have hy:=ff hy;subst hx hy;split at he
  ·rename_i hkb;subst hkb;have ht:=abR hk;cases op<;>simp only[bl] at he
   all_goals first
    | (simp only[Option.some.injEq,Prod.mk.injEq] at he
       obtain ⟨rfl,rfl⟩:=he;refine⟨_,?_,rfl,rfl⟩
       first
        | (simp only[Sem.run_bind,eqGuard_at_bool,Sem.run_pure,Result.andThen_ok];exact run_eql_bool w t a b ht)
        | (simp only[Sem.run_bind,eqGuard_at_bool,Sem.run_pure,Result.andThen_ok];exact run_neq_bool w t a b ht))
    | cases he
  ·cases he
 ·rename_i a b;have hx:=ff hx;have hy:=ff hy;subst hx hy;cases op<;>simp only[bl,cQ] at he
  all_goals first
   | (simp only[Option.some.injEq,Prod.mk.injEq] at he
      obtain ⟨rfl,rfl⟩:=he;refine⟨_,?_,rfl,by first | rfl | (simp only[one,ByteArray.size_append,decide_eq_true_eq];exact hp)⟩
      first
       | (simp[eqGuard,binOp,Op.stringOp];done)
       | (have h':¬((9223372036854775807:Int) < ((a.size+b.size:Nat):Int)):=by omega
          simp only[eqGuard,binOp,Op.stringOp];simp[adS];omega))
   | cases he
 ·rename_i us vs;cases k with
  | struct ks =>
    obtain ⟨ho,hkk,hg,fs,ht⟩:=Ya hk;simp only[EqK.veq] at he;cases hv:veq ks us vs with
    | none=>simp[hv,XT] at he
    | some r =>
      rw[hv] at he;simp only[CV] at hx hy;obtain ⟨xs,rfl,hx⟩:=hx;obtain ⟨ys,rfl,hy⟩:=hy;have hc:=ZJ _ _ _ _ _ _ _ _ hv hx hy
      have h0:(Op.equalIn 10000 t (.agg xs) (.agg ys)).run P w=.ok r w :=
       PO 8 10000 t ks xs.toList ys.toList r _ _ (by omega) hkk hc (by simp[AZ,ht]) (by simp[AZ,ht])
      rcases ho with rfl | rfl
      ·simp only[XT,cQ,Option.some.injEq,Prod.mk.injEq] at he;obtain ⟨_,rfl⟩:=he;refine⟨_,?_,rfl,rfl⟩;rw[Sem.run_bind,run_eqGuard_agg w _ _ _ _ _ _ hg,Result.andThen_ok,run_eql_struct,h0];rfl
      ·simp only[XT,cQ,Option.some.injEq,Prod.mk.injEq] at he;obtain ⟨_,rfl⟩:=he;refine⟨_,?_,rfl,rfl⟩;rw[Sem.run_bind,run_eqGuard_agg w _ _ _ _ _ _ hg,Result.andThen_ok,run_neq_struct,h0];rfl
  | _=>simp[EqK.veq,XT] at he
 ·rename_i a n c m j;have hx:=ff hx;have hy:=ff hy;subst hx hy;cases k with
  | nil =>
    obtain ⟨e,ht⟩:=Uq hk
    have hp':p=True:=by
     exact eq_true hp
    subst hp';exact KF ht a n c m j rfl (by simpa [EqK.nil?] using he)
  | _=>simp[EqK.nil?,XT] at he
 ·rename_i s' es m j;have hy:=ff hy;subst hy;cases k with
  | nil =>
    obtain ⟨e,ht⟩:=Uq hk
    have hpe:(es.isEmpty=false)=p:=by
     cases op<;>simp[XT,cQ,EqK.nil?] at he<;>simpa using he.1
    have hne:es≠[]:=by
     rw[<- hpe] at hp;intro e;subst e;simp at hp
    simp only[CV] at hx;obtain ⟨_,⟨h0,_⟩ | ⟨b,o',cap,arr,rfl,_⟩⟩:=hx
    ·exact absurd h0 hne
    ·rw[hpe] at he;exact KF ht (some _) _ _ m j (r:=false) rfl (by simpa [EqK.nil?] using he)
  | _=>simp[EqK.nil?,XT] at he
 ·rename_i id i n m j;have hy:=ff hy;subst hy;cases k with
  | nil =>
    obtain ⟨e,ht⟩:=Uq hk
    have hpe:(n≠0)=p:=by
     cases op<;>simp[XT,cQ,EqK.nil?] at he<;>simpa using he.1
    have hne:n≠0:=by rw[<- hpe] at hp;exact hp
    simp only[CV] at hx;obtain ⟨_,⟨_,_,h0,_⟩ | ⟨p0,o',cap,_,rfl,_⟩⟩:=hx
    ·exact absurd h0 hne
    ·rw[hpe] at he;exact KF ht (some _) _ _ m j (r:=false) rfl (by simpa [EqK.nil?] using he)
  | _=>simp[EqK.nil?,XT] at he
 ·cases he
theorem ad2 (h:RelD X s a w D φ F []) (hd:∀ d,o.dst=some d->d < X.n) {y:Operand} {x:Abs.X} (hop:o.op=.nilCheck y) (hx:cX y=some x)
  {p:Prop} {δ:Dl} (he:(match s.ev x with | .ref id i j=>bl (.ref id i (j+0)) | .rp s es i j=>bl (.rp s es i (j+0)) | _=>none)=some (p,δ)):gS P o X a w (δ.app o.dst s):=by
 have hcv:=cV hx h;generalize s.ev x=u at he hcv;split at he
 ·rename_i id i j;simp only[bl,Option.some.injEq,Prod.mk.injEq] at he;obtain ⟨_,rfl⟩:=he;have hcv':=hcv;simp only[CV] at hcv;obtain ⟨_,p0,hp0,hxp⟩:=hcv;refine bt h hd (x:=a.eval y) ?_ hcv';simp[execOp,hop,hxp]
 ·rename_i s' es i j;simp only[bl,Option.some.injEq,Prod.mk.injEq] at he;obtain ⟨_,rfl⟩:=he;have hcv':=hcv;simp only[CV] at hcv;obtain ⟨_,b,o',arr,hxp,hD,hbk,hcr,hni⟩:=hcv;refine bt h hd (x:=a.eval y) ?_ hcv';simp[execOp,hop,hxp]
 ·cases he
theorem afw (h:RelD X s a w D φ F []) (hd:∀ d,o.dst=some d->d < X.n) {op:BinOp} {t t':TypeId} {k:EqK} {yx yy:Operand} {xx xy:Abs.X} (hop:o.op=.binOp op t yx yy t') (hk:eqK P op t=some k) (hx:cX yx=some xx) (hy:cX yy=some xy)
  {p:Prop} {δ:Dl} (he:Vt op k (s.ev xx) (s.ev xy)=some (p,δ)) (hp:p):gS P o X a w (δ.app o.dst s):=by
 obtain ⟨z,h1,rfl,h2⟩:=acN (yx:=yx) (yy:=yy) hk (cV hx h) (cV hy h) he hp;refine bt h hd (x:=z) ?_ (iX h2);unfold execOp;simp only[hop];rw[Sem.run_bind,h1];rfl
theorem ahM (h:RelD X s a w D φ F []) (hd:∀ d,o.dst=some d->d < X.n) {op:UnOp} {t:TypeId} {y:Operand} {x:Abs.X} (hop:o.op=.unOp op t y) (hx:cX y=some x)
  {p:Prop} {δ:Dl} (he:vun op (s.ev x)=some (p,δ)):gS P o X a w (δ.app o.dst s):=by
 have hcv:=cV hx h;generalize s.ev x=u at he hcv;unfold vun at he;split at he
 ·rename_i i n;have hxv:=ff hcv;split at he
  ·simp only[bl,Option.some.injEq,Prod.mk.injEq] at he;obtain ⟨_,rfl⟩:=he;exact bt h hd (by simp[execOp,hop,hxv,Op.unary,Op.intArith]) (iX rfl)
  ·cases he
 ·rename_i b;have hxv:=ff hcv;split at he
  ·simp only[bl,Option.some.injEq,Prod.mk.injEq] at he;obtain ⟨_,rfl⟩:=he;exact bt h hd (by simp[execOp,hop,hxv,Op.unary]) (iX rfl)
  ·cases he
 ·cases he
theorem acw (h:RelD X s a w D φ F []) (hd:∀ d,o.dst=some d->d < X.n) {t:TypeId} {f:Nat} {y:Operand} {x:Abs.X} {fs:Array Field} {fd:Field} {i0:TypeInfo} (hop:o.op=.fieldAddr t y f) (hx:cX y=some x)
  (ht:P.underlying t=some (.struct fs)) (hf:fs[f]?=some fd) (hi:P.info? fd.type=some i0) (hs:i0.size≠0)
  {p:Prop} {δ:Dl} (he:(match s.ev x with | .ref id i j=>bl (.ref id i (j+fd.offset)) | .rp s es i j=>bl (.rp s es i (j+fd.offset)) | _=>none)=some (p,δ)):gS P o X a w (δ.app o.dst s):=by
 have hcv:=cV hx h;generalize s.ev x=u at he hcv;split at he
 ·rename_i id i j;simp only[bl,Option.some.injEq,Prod.mk.injEq] at he;obtain ⟨_,rfl⟩:=he;simp only[CV] at hcv;obtain ⟨_,p0,hp0,hxp⟩:=hcv;refine bt h hd (x:=.pointer (some ⟨p0.b,p0.o+(i * p0.s+(j+fd.offset)),none⟩)) ?_ ?_
  ·simp[execOp,hop,hxp,Instr.fieldAt,run_underlying ht,hf,Instr.sureAddr,fieldPlace,sizeOf,typeInfo,hi,hs,Addr.add_lit,Nat.add_assoc]
  ·simp only[CV];exact⟨trivial,p0,hp0,rfl⟩
 ·rename_i s' es i j;simp only[bl,Option.some.injEq,Prod.mk.injEq] at he;obtain ⟨_,rfl⟩:=he;simp only[CV] at hcv;obtain ⟨_,b,o',arr,hxp,hD,hbk,hcr,hni⟩:=hcv;refine bt h hd (x:=.pointer (some ⟨b,o'+(i * s'+(j+fd.offset)),none⟩)) ?_ ?_
  ·simp[execOp,hop,hxp,Instr.fieldAt,run_underlying ht,hf,Instr.sureAddr,fieldPlace,sizeOf,typeInfo,hi,hs,Addr.add_lit,Nat.add_assoc]
  ·simp only[CV];exact⟨trivial,b,o',arr,rfl,hD,hbk,hcr,hni⟩
 ·cases he
omit [GI] in
theorem sx {t:TypeId} {i:TypeInfo} (h:iW P t=some i):∃ e,P.underlying t=some (.slice e)/\P.info? e=some i:=by
 unfold iW at h;split at h
 ·rename_i e he;exact⟨e,he,h⟩
 ·cases h
theorem acx (h:RelD X s a w D φ F []) (hd:∀ d,o.dst=some d->d < X.n) {t:TypeId} {yx yi:Operand} {xx xi:Abs.X} {i0:TypeInfo} (hop:o.op=.indexAddr t yx yi) (hx:cX yx=some xx) (hi:cX yi=some xi)
  (ht:iW P t=some i0) {p:Prop} {δ:Dl} (he:uH i0.size s.hp (s.ev xx) (s.ev xi)=some (p,δ)) (hp:p):gS P o X a w (δ.app o.dst s):=by
 obtain ⟨e,hte,hie⟩:=sx ht;have hcv:=cV hx h;have hci:=cV hi h;generalize s.ev xx=u at he hcv;generalize s.ev xi=v at he hci;unfold uH at he;split at he
 ·rename_i id i n k0 k;have hiv:=ff hci;cases hb:s.hp id with
  | none=>simp[hb] at he
  | some blk =>
    simp only[hb] at he;split at he
    ·rename_i hbs;simp only[cQ,Option.some.injEq,Prod.mk.injEq] at he;obtain ⟨rfl,rfl⟩:=he;simp only[CV] at hcv;obtain ⟨_,⟨_,_,rfl,_⟩ | ⟨p0,o',cap,hp0,hxp,hnc,hcm,hcap⟩⟩:=hcv
     ·omega
     ·have hc0:cap≠0:=by omega
      obtain ⟨ho,_⟩:=hcap.resolve_left hc0
      have hps:p0.s=i0.size:=by
       rcases h.blks id blk hb with ⟨q1,_⟩ | ⟨p1,_,_,_,q1,q2,_⟩
       ·rw[hp0] at q1;cases q1
       ·rw[hp0] at q1;cases q1;rw[q2,hbs]
      obtain ⟨m,rfl⟩:=Int.eq_ofNat_of_zero_le hp.1;have hmn:m < n:=by have:=hp.2;omega
      refine bt h hd (x:=.pointer (some ⟨p0.b,p0.o+((i+m) * p0.s+0),none⟩)) ?_ ?_
      ·subst ho;simp[execOp,hop,hxp,hiv,Instr.indexAt,asIntOf,run_underlying hte,hmn,sizeOf,typeInfo,hie,Addr.add_lit,Nat.add_mul,hps,Nat.add_assoc]
      ·simp only[CV];exact⟨trivial,p0,hp0,by simp⟩
    ·cases he
 ·rename_i s' es k0 k;have hiv:=ff hci;split at he
  ·rename_i hss;subst hss;simp only[cQ,Option.some.injEq,Prod.mk.injEq] at he;obtain ⟨rfl,rfl⟩:=he;simp only[CV] at hcv;obtain ⟨_,⟨rfl,_⟩ | ⟨b,o',cap,arr,hxp,hnc,hcm,hD,hbk,hcr,hni⟩⟩:=hcv
   ·simp at hp;omega
   ·obtain ⟨m,rfl⟩:=Int.eq_ofNat_of_zero_le hp.1;have hmn:m < es.length:=by have:=hp.2;omega
    refine bt h hd (x:=.pointer (some ⟨b,o'+(m * i0.size+0),none⟩)) ?_ ?_
    ·simp[execOp,hop,hxp,hiv,Instr.indexAt,asIntOf,run_underlying hte,hmn,sizeOf,typeInfo,hie,Addr.add_lit]
    ·simp only[CV];exact⟨trivial,b,o',arr,by simp,hD,hbk,hcr,hni⟩
  ·cases he
 ·cases he
theorem afA (h:RelD X s a w D φ F []) (hd:∀ d,o.dst=some d->d < X.n) {t:TypeId} {yx yi:Operand} {xx xi:Abs.X} (hop:o.op=.index t yx yi) (hx:cX yx=some xx) (hi:cX yi=some xi)
  (ht:P.underlying t=some .string) {p:Prop} {δ:Dl} (he:XL (s.ev xx) (s.ev xi)=some (p,δ)) (hp:p):gS P o X a w (δ.app o.dst s):=by
 have hcv:=cV hx h;have hci:=cV hi h;generalize s.ev xx=u at he hcv;generalize s.ev xi=v at he hci;unfold XL at he;split at he
 ·rename_i b k0 k;have hiv:=ff hci;have hxv:=ff hcv;simp only[cQ,Option.some.injEq,Prod.mk.injEq] at he;obtain ⟨rfl,rfl⟩:=he;obtain ⟨m,rfl⟩:=Int.eq_ofNat_of_zero_le hp.1;have hm:m < b.size:=by have:=hp.2;omega
  refine bt h hd ?_ (iX rfl);simp[execOp,hop,hxv,hiv,Instr.index,asIntOf,run_underlying ht,hm]
 ·cases he
omit [GI] in
theorem ZF {t:TypeId} {y:Operand} {c:Call} (hop:o.op=.call c) (hcal:c.callee=.builtin .len) (harg:c.args.toList=[y]) (hty:c.argTypes.toList=[t]) {n:Nat}
  (hr:(Builtin.len_ #[t] o.type #[a.eval y]).run P w=.ok (.int .i64 n) w):(execOp a.eval o).run P w=.ok (.value (.int .i64 n)) w:=by
 obtain ⟨cal,args,tys⟩:=c;simp only at hcal harg hty;obtain rfl:args=#[y]:=by rw[<- Array.toArray_toList (xs:=args),harg]
 obtain rfl:tys=#[t]:=by rw[<- Array.toArray_toList (xs:=tys),hty]
 subst hcal;simp[execOp,hop,resolve,invoke,builtin,hr]
theorem ad1 (h:RelD X s a w D φ F []) (hd:∀ d,o.dst=some d->d < X.n) {t:TypeId} {y:Operand} {x:Abs.X} {c:Call} (hop:o.op=.call c) (hcal:c.callee=.builtin .len) (harg:c.args.toList=[y]) (hty:c.argTypes.toList=[t])
  (ht:P.underlying t=some .string) (hx:cX y=some x) {p:Prop} {δ:Dl} (he:XN (s.ev x)=some (p,δ)):gS P o X a w (δ.app o.dst s):=by
 have hcv:=cV hx h;generalize s.ev x=u at he hcv;unfold XN at he;split at he
 ·have hxv:=ff hcv;simp only[bl,Option.some.injEq,Prod.mk.injEq] at he;obtain ⟨_,rfl⟩:=he;exact bt h hd (ZF hop hcal harg hty (by simp[hxv,Builtin.len_,run_underlying ht,goInt])) (iX rfl)
 ·cases he
theorem ad0 (h:RelD X s a w D φ F []) (hd:∀ d,o.dst=some d->d < X.n) {t:TypeId} {y:Operand} {x:Abs.X} {c:Call} (hop:o.op=.call c) (hcal:c.callee=.builtin .len) (harg:c.args.toList=[y]) (hty:c.argTypes.toList=[t])
  {e:TypeId} (ht:P.underlying t=some (.slice e)) (hx:cX y=some x) {p:Prop} {δ:Dl} (he:XM (s.ev x)=some (p,δ)):gS P o X a w (δ.app o.dst s):=by
 have hcv:=cV hx h;generalize s.ev x=u at he hcv
 have key:∀ n b c,a.eval y=.slice b n c->gS P o X a w (({ v:=.v (.int .i64 n) }:Dl).app o.dst s):=fun n b c hxv =>
  bt h hd (ZF hop hcal harg hty (by simp[hxv,Builtin.len_,run_underlying ht,goInt])) (iX rfl)
 unfold XM at he;split at he
 ·simp only[bl,Option.some.injEq,Prod.mk.injEq] at he;obtain ⟨_,rfl⟩:=he;exact key _ _ _ (ff hcv)
 ·simp only[bl,Option.some.injEq,Prod.mk.injEq] at he;obtain ⟨_,rfl⟩:=he;simp only[CV] at hcv;obtain ⟨_,⟨_,_,rfl,hxv⟩ | ⟨p0,o',cap,hp0,hxv,hnc,hcm,hcap⟩⟩:=hcv
  ·exact key _ _ _ hxv
  ·exact key _ _ _ hxv
 ·simp only[bl,Option.some.injEq,Prod.mk.injEq] at he;obtain ⟨_,rfl⟩:=he;simp only[CV] at hcv;obtain ⟨_,⟨rfl,a',cap,hxv,_⟩ | ⟨b,o',cap,arr,hxv,hnc,hcm,hD,hbk,hcr,hni⟩⟩:=hcv
  ·exact key _ _ _ hxv
  ·exact key _ _ _ hxv
 ·cases he
theorem afy (h:RelD X s a w D φ F []) (hd:∀ d,o.dst=some d->d < X.n) {y:Operand} {x:Abs.X} {i:Nat} (hop:o.op=.extract y i) (hx:cX y=some x)
  {p:Prop} {δ:Dl} (he:(match s.ev x with | .tup vs=>(match vs[i]? with | some v=>bl v | none=>none) | _=>none)=some (p,δ)):gS P o X a w (δ.app o.dst s):=by
 have hcv:=cV hx h;generalize s.ev x=u at he hcv;split at he
 ·rename_i vs;split at he
  ·rename_i v hv;simp only[bl,Option.some.injEq,Prod.mk.injEq] at he;obtain ⟨_,rfl⟩:=he;simp only[CV] at hcv;obtain ⟨xs,hxv,hcs⟩:=hcv;obtain ⟨z,f',h1,h2,h3⟩:=uO hcs hv;have:=gm h3;subst this;refine bt h hd (x:=z) ?_ h2;have h1':xs[i]?=some z:=by simpa using h1
   simp[execOp,hop,hxv,Instr.extract,h1']
  ·cases he
 ·cases he
theorem afz (h:RelD X s a w D φ F []) (hd:∀ d,o.dst=some d->d < X.n) {t:TypeId} {f:Nat} {y:Operand} {x:Abs.X} {fs:Array Field} {fd:Field} {agg:Bool} {n:Nat} (hop:o.op=.field t y f) (hx:cX y=some x)
  (ht:P.underlying t=some (.struct fs)) (hf:fs[f]?=some fd) (hty:Sv P fd.type=some (agg,n))
  {p:Prop} {δ:Dl} (he:XK agg fd.offset n (s.ev x)=some (p,δ)):gS P o X a w (δ.app o.dst s):=by
 have hcv:=cV hx h;generalize s.ev x=u at he hcv;obtain ⟨d,i,h1,h2,h3,rfl⟩:=Vs hty;unfold XK at he;split at he
 ·rename_i cs;simp only[CV] at hcv;obtain ⟨xs,hxv,hcs⟩:=hcv;have hl:=cO hcs;simp only[Array.length_toList] at hl;split at he
  ·rename_i ha;subst ha;split at he
   ·rename_i hle;simp only[bl,Option.some.injEq,Prod.mk.injEq] at he;obtain ⟨_,rfl⟩:=he;have hc2:=Ec i.size (Eb fd.offset hcs);refine bt h hd (x:=.agg (xs.extract fd.offset (fd.offset+i.size))) ?_ ?_
    ·simp[execOp,hop,hxv,Instr.field,run_underlying ht,hf,asAgg,part,sG h1,h3,sizeOf,typeInfo,h2]
    ·simp only[CV];refine⟨_,rfl,?_⟩
     have:(xs.extract fd.offset (fd.offset+i.size)).toList=(xs.toList.drop fd.offset).take i.size:=by
      rw[Array.toList_extract,List.extract_eq_take_drop];congr 1;omega
     rw[this];exact hc2
   ·cases he
  ·rename_i ha;have ha:agg=false:=by simpa using ha
   subst ha;split at he
   ·split at he
    ·rename_i v hv;simp only[bl,Option.some.injEq,Prod.mk.injEq] at he;obtain ⟨_,rfl⟩:=he;obtain ⟨z,f',g1,g2,g3⟩:=uO hcs hv;have:=gm g3;subst this;have g1':xs[fd.offset]?=some z:=by simpa using g1
     refine bt h hd (x:=z) ?_ g2;simp[execOp,hop,hxv,Instr.field,run_underlying ht,hf,asAgg,part,sG h1,h3,g1']
    ·cases he
   ·cases he
 ·cases he
omit [GI] in
theorem XO (max:Bool) (k:IntKind):∀ (vs:List V) (a0:Int) (xs:List Value) (r:Int),cg w D vs φ xs []->T7 max k a0 vs=some r ->
  (xs.foldlM (if max then Builtin.max2 else Builtin.min2) (.int k a0)).run P w=.ok (.int k r) w
 | [],a0,xs,r,h,hr=>by
   simp only[cg] at h;obtain ⟨rfl,_⟩:=h;simp only[T7,Option.some.injEq] at hr;subst hr;simp
 | v::vs,a0,xs,r,h,hr=>by
   simp only[cg] at h;obtain ⟨x,xs',f1,f2,rfl,hf,h1,h2⟩:=h;have hf:=List.append_eq_nil_iff.1 hf.symm;obtain ⟨rfl,rfl⟩:=hf;unfold T7 at hr;split at hr
   ·rename_i e;cases e
   ·rename_i a' k' b rest e;cases e;have hx:=ff h1;subst hx;have ih:=XO max k vs _ xs' r h2 hr;cases max
    ·simp only[Bool.false_eq_true,if_false] at ih ⊢;simp[Builtin.min2,ih]
    ·simp only[if_true] at ih ⊢;simp[Builtin.max2,ih]
   ·cases hr
theorem NW (h:RelD X s a w D φ F []):∀ {ys:List Operand} {xs:List Abs.X},Zj ys=some xs->cg w D (xs.map s.ev) φ (ys.map a.eval) []
 | [],xs,hx=>by simp only[Zj,Option.some.injEq] at hx;subst hx;exact jO
 | y::ys,xs,hx=>by
   unfold Zj at hx;split at hx
   ·rename_i x xs' h1 h2;simp only[Option.some.injEq] at hx;subst hx;simp only[List.map_cons,cg];exact⟨_,_,[],[],rfl,rfl,cV h1 h,NW h h2⟩
   ·cases hx
theorem aez (h:RelD X s a w D φ F []) (hd:∀ d,o.dst=some d->d < X.n) {max:Bool} {xs:List Abs.X} {c:Call} (hop:o.op=.call c) (hcal:c.callee=.builtin (if max then .max else .min)) (hx:Zj c.args.toList=some xs)
  {p:Prop} {δ:Dl} (he:vmm max (xs.map s.ev)=some (p,δ)):gS P o X a w (δ.app o.dst s):=by
 have hcv:=NW h hx;unfold vmm at he;split at he
 ·rename_i k a0 rest hxs;split at he
  ·rename_i r hr;simp only[bl,Option.some.injEq,Prod.mk.injEq] at he;obtain ⟨_,rfl⟩:=he;rw[hxs] at hcv;simp only[cg] at hcv;obtain ⟨x,xs',f1,f2,hys,hf,h1,h2⟩:=hcv;have hf:=List.append_eq_nil_iff.1 hf.symm;obtain ⟨rfl,rfl⟩:=hf;have hx:=ff h1;subst hx;have hgo:=XO (P:=P) max k rest a0 xs' r h2 hr
   have hargs:c.args.map a.eval=(Value.int k a0::xs').toArray:=by
    apply Array.ext';simpa using hys
   refine bt h hd (x:=.int k r) ?_ (iX rfl);cases max
   ·simp only[Bool.false_eq_true,if_false] at hcal hgo;simp[execOp,hop,hcal,resolve,invoke,builtin,Builtin.min_,hargs,hgo]
   ·simp only[if_true] at hcal hgo;simp[execOp,hop,hcal,resolve,invoke,builtin,Builtin.max_,hargs,hgo]
  ·cases he
 ·cases he
theorem afx (h:RelD X s a w D φ F []) (hd:∀ d,o.dst=some d->d < X.n) {f:Nat} {first cs:Array Operand} {xs:List Abs.X} (hop:o.op=.makeFunc (.func f) first cs) (hfi:first.size=0) (hx:Zj cs.toList=some xs) :
  gS P o X a w (({ v:=.clo f (xs.map s.ev) }:Dl).app o.dst s):=by
 have hcv:=NW h hx;obtain rfl:first=#[]:=by simpa using hfi
 refine bt h hd (x:=.func (.func f) #[] (cs.map a.eval)) (by simp[execOp,hop,Instr.makeFunc]) ?_;simp only[CV];exact⟨_,rfl,by simpa using hcv⟩
end
end Go.Abs
