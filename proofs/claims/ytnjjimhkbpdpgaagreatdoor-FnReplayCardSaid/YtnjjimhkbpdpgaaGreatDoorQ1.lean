/- Parts of the proof that several claims share, part 1. -/
import Derived.Orders
import Derived.Tactics
import Derived.Laws.AppendOwn
import Derived.Laws.Small
import Derived.Laws.StructEq
import Derived.Lib.ConvBytes
import Derived.Laws.BytesString
set_option linter.unusedVariables false
set_option linter.unusedSimpArgs false
namespace Go.Abs
class GI where
 holds:World->(Nat->Prop)->Prop
 mono:∀ {w w':World} {D D':Nat->Prop},holds w D->(∀ b,D b->D' b)->(∀ b,D b->w'.heap[b]?=w.heap[b]?)->holds w' D'
inductive V where
 | undef
 | v (x:Value)
 | ref (id i j:Nat)
 | sl (id i n:Nat)
 | rp (s:Nat) (es:List V) (i j:Nat)
 | ro (s:Nat) (es:List V)
 | own (s:Nat) (es:List V)
 | agg (cs:List V)
 | tup (vs:List V)
 | clo (f:Nat) (caps:List V)
 deriving Inhabited
def bs (l:List UInt8):ByteArray:=⟨l.toArray⟩
structure Pl where
 b:Nat
 o:Nat
 s:Nat
 z:Nat
def ahu (w:World) (b:Nat):Option (Array Value) :=
 match w.heap[b]? with
 | some (.cells c _ _)=>some c
 | _=>none
def ar5 (arr:Array Value) (fr:Nat×Nat):Prop:=fr=(0,0)\/(0 < arr.size/\arr.size<=fr.1)
theorem ar5.size {arr arr':Array Value} {fr:Nat×Nat} (h:ar5 arr fr) (e:arr'.size=arr.size):ar5 arr' fr:=by
 unfold ar5 at h ⊢;rw[e];exact h
def Tc (w:World) (b:Nat) (arr:Array Value) (ty:TypeId):Prop:=∃ fr,ar5 arr fr/\w.heap[b]?=some (.cells arr ty fr)
theorem Tc.congr {w w':World} {b:Nat} {arr:Array Value} {ty:TypeId} (h:Tc w b arr ty) (e:w'.heap[b]?=w.heap[b]?):Tc w' b arr ty:=by
 obtain ⟨fr,h1,h2⟩:=h;exact⟨fr,h1,e.trans h2⟩
theorem Tc.of {w:World} {b:Nat} {arr:Array Value} {ty:TypeId} (h:w.heap[b]?=some (.cells arr ty (0,0))):Tc w b arr ty:=⟨_,.inl rfl,h⟩
theorem Tc.lt {w:World} {b:Nat} {arr:Array Value} {ty:TypeId} (h:Tc w b arr ty):b < w.heap.size:=by
 obtain ⟨fr,h1,h2⟩:=h;exact(Array.getElem?_eq_some_iff.1 h2).1
theorem Tc.blk {w:World} {b:Nat} {arr:Array Value} {ty:TypeId} (h:Tc w b arr ty):ahu w b=some arr:=by
 obtain ⟨fr,h1,h2⟩:=h;unfold ahu;rw[h2]
def one:Value->Bool
 | .agg _=>false
 | .tuple _=>false
 | .string b=>decide (b.size<=9223372036854775807)
 | _=>true
mutual
def gV:V->Bool
 | .ref _ _ _=>false
 | .sl _ _ _=>false
 | .agg cs=>bN cs
 | .tup cs=>bN cs
 | .clo _ cs=>bN cs
 | _=>true
def bN:List V->Bool
 | []=>true
 | c::cs=>gV c&&bN cs
end
mutual
def CV (w:World) (D:Nat->Prop):V->(Nat->Option Pl)->Value->List Nat->Prop
 | .undef,_,_,fp=>fp=[]
 | .v y,_,x,fp=>x=y/\one y=true/\fp=[]
 | .ref id i j,φ,x,fp=>fp=[]/\∃ p,φ id=some p/\x=.pointer (some ⟨p.b,p.o+(i * p.s+j),none⟩)
 | .sl id i n,φ,x,fp=>fp=[]/\((φ id=none/\i=0/\n=0/\x=.slice none 0 0) \/
   ∃ p o cap,φ id=some p/\x=.slice (some ⟨p.b,o,none⟩) n cap/\n<=cap/\cap<=maxLen /\
    (cap=0\/(o=p.o+i * p.s/\p.o+(i+cap) * p.s<=p.z)))
 | .rp s es i j,_,x,fp=>fp=[]/\∃ b o arr,x=.pointer (some ⟨b,o+(i * s+j),none⟩)/\D b/\ahu w b=some arr /\
   CR w D s es (fun _=>none) (arr.toList.drop o) []/\bN es=true
 | .ro s es,_,x,fp=>fp=[]/\((es=[]/\∃ a cap,x=.slice a 0 cap/\cap<=maxLen) \/
   ∃ b o cap arr,x=.slice (some ⟨b,o,none⟩) es.length cap/\es.length<=cap/\cap<=maxLen/\D b/\ahu w b=some arr /\
    CR w D s es (fun _=>none) (arr.toList.drop o) []/\bN es=true)
 | .own s es,_,x,fp=>(es=[]/\x=.slice none 0 0/\fp=[]) \/
   ∃ b o cap arr ty fp',x=.slice (some ⟨b,o,none⟩) es.length cap/\es.length<=cap/\cap<=maxLen/\(cap=0\/o+cap * s<=arr.size) /\
    Tc w b arr ty/\fp=b::fp'/\CR w D s es (fun _=>none) (arr.toList.drop o) fp'/\bN es=true
 | .agg cs,φ,x,fp=>∃ xs,x=.agg xs/\iU w D cs φ xs.toList fp
 | .tup cs,φ,x,fp=>∃ xs,x=.tuple xs/\iU w D cs φ xs.toList fp
 | .clo f cs,φ,x,fp=>∃ xs,x=.func (.func f) #[] xs/\iU w D cs φ xs.toList fp
def iU (w:World) (D:Nat->Prop):List V->(Nat->Option Pl)->List Value->List Nat->Prop
 | [],_,xs,fp=>xs=[]/\fp=[]
 | c::cs,φ,xs,fp=>∃ x xs' f1 f2,xs=x::xs'/\fp=f1++f2/\CV w D c φ x f1/\iU w D cs φ xs' f2
def CR (w:World) (D:Nat->Prop) (s:Nat):List V->(Nat->Option Pl)->List Value->List Nat->Prop
 | [],_,_,fp=>fp=[]
 | e::es,φ,xs,fp=>∃ x rest f1 f2,xs=x.cells.toList++rest/\(x.cells.size=s/\x.cells.toList.all one=true)/\fp=f1++f2/\CV w D e φ x f1/\CR w D s es φ rest f2
end
mutual
def gj (id:Nat):V->Bool
 | .ref k _ _=>k==id
 | .sl k _ _=>k==id
 | .agg cs=>da id cs
 | .tup cs=>da id cs
 | .clo _ cs=>da id cs
 | _=>false
def da (id:Nat):List V->Bool
 | []=>false
 | c::cs=>gj id c||da id cs
end
mutual
def g9:V->Bool
 | .own _ _=>false
 | .agg cs=>cO cs
 | .tup cs=>cO cs
 | .clo _ cs=>cO cs
 | _=>true
def cO:List V->Bool
 | []=>true
 | c::cs=>g9 c&&cO cs
end
mutual
theorem Ag (id:Nat):∀ v:V,gV v=true->gj id v=false
 | .undef,_ | .v _,_ | .rp _ _ _ _,_ | .ro _ _,_ | .own _ _,_=>by simp[gj]
 | .ref _ _ _,h | .sl _ _ _,h=>by simp[gV] at h
 | .agg cs,h | .tup cs,h | .clo _ cs,h=>by simp only[gj];exact jO id cs (by simpa [gV] using h)
theorem jO (id:Nat):∀ cs:List V,bN cs=true->da id cs=false
 | [],_=>rfl
 | c::cs,h=>by
   simp only[bN,Bool.and_eq_true] at h;simp[da,Ag id c h.1,jO id cs h.2]
end
theorem aL7 {w w':World} {b:Nat} (h:w'.heap[b]?=w.heap[b]?):ahu w' b=ahu w b:=by simp[ahu,h]
theorem Fo {w:World} {b:Nat} {arr:Array Value} (h:ahu w b=some arr) (o:Nat):w.cell? ⟨b,o,none⟩=arr[o]?:=by
 unfold ahu at h;unfold World.cell?;split at h<;>simp_all
theorem aF4 {w:World} {b:Nat} {arr:Array Value} {ty:TypeId} {fr:Nat×Nat} (h:w.heap[b]?=some (.cells arr ty fr)):ahu w b=some arr:=by
 simp[ahu,h]
mutual
theorem pS {w w':World} {D D':Nat->Prop} (hD:∀ b,D b->D' b) :
  ∀ (v:V) (φ φ':Nat->Option Pl) (x:Value) (fp:List Nat),(∀ b,D b\/b ∈ fp->w'.heap[b]?=w.heap[b]?)->(∀ id,gj id v=true->φ' id=φ id) ->
   CV w D v φ x fp->CV w' D' v φ' x fp
 | .undef,φ,φ',x,fp,hh,hφ,h=>by simpa [CV] using h
 | .v y,φ,φ',x,fp,hh,hφ,h=>by simpa [CV] using h
 | .ref id i j,φ,φ',x,fp,hh,hφ,h=>by
   simp only[CV] at h ⊢;rw[hφ id (by simp[gj])];exact h
 | .sl id i n,φ,φ',x,fp,hh,hφ,h=>by
   simp only[CV] at h ⊢;rw[hφ id (by simp[gj])];exact h
 | .rp s es i j,φ,φ',x,fp,hh,hφ,h=>by
   simp only[CV] at h ⊢;obtain ⟨hf,b,o,arr,h1,h2,h3,h4,h5⟩:=h;exact⟨hf,b,o,arr,h1,hD b h2,by rw[aL7 (hh b (.inl h2))];exact h3,lv hD s es _ _ _ _ (fun b hb=>hh b (hb.imp id (by simp))) (fun _ _=>rfl) h4,h5⟩
 | .ro s es,φ,φ',x,fp,hh,hφ,h=>by
   simp only[CV] at h ⊢;obtain ⟨hf,h | ⟨b,o,cap,arr,h1,h2,h3,h4,h5,h6,h7⟩⟩:=h
   ·exact⟨hf,.inl h⟩
   ·exact⟨hf,.inr ⟨b,o,cap,arr,h1,h2,h3,hD b h4,by rw[aL7 (hh b (.inl h4))];exact h5,lv hD s es _ _ _ _ (fun b hb=>hh b (hb.imp id (by simp))) (fun _ _=>rfl) h6,h7⟩⟩
 | .own s es,φ,φ',x,fp,hh,hφ,h=>by
   simp only[CV] at h ⊢;obtain h | ⟨b,o,cap,arr,ty,fp',h1,h2,h3,h4,h5,h6,h7,h8⟩:=h
   ·exact .inl h
   ·refine .inr ⟨b,o,cap,arr,ty,fp',h1,h2,h3,h4,?_,h6,lv hD s es _ _ _ _ (fun b hb=>hh b (hb.imp id (by rw[h6];exact List.mem_cons_of_mem _))) (fun _ _=>rfl) h7,h8⟩;exact h5.congr (hh b (.inr (by rw[h6];exact List.mem_cons_self)))
 | .agg cs,φ,φ',x,fp,hh,hφ,h=>by
   simp only[CV] at h ⊢;obtain ⟨xs,h1,h2⟩:=h;exact⟨xs,h1,aho hD cs _ _ _ _ hh (fun id hm=>hφ id (by simpa [gj] using hm)) h2⟩
 | .tup cs,φ,φ',x,fp,hh,hφ,h=>by
   simp only[CV] at h ⊢;obtain ⟨xs,h1,h2⟩:=h;exact⟨xs,h1,aho hD cs _ _ _ _ hh (fun id hm=>hφ id (by simpa [gj] using hm)) h2⟩
 | .clo f cs,φ,φ',x,fp,hh,hφ,h=>by
   simp only[CV] at h ⊢;obtain ⟨xs,h1,h2⟩:=h;exact⟨xs,h1,aho hD cs _ _ _ _ hh (fun id hm=>hφ id (by simpa [gj] using hm)) h2⟩
theorem aho {w w':World} {D D':Nat->Prop} (hD:∀ b,D b->D' b) :
  ∀ (cs:List V) (φ φ':Nat->Option Pl) (xs:List Value) (fp:List Nat),(∀ b,D b\/b ∈ fp->w'.heap[b]?=w.heap[b]?)->(∀ id,da id cs=true->φ' id=φ id) ->
   iU w D cs φ xs fp->iU w' D' cs φ' xs fp
 | [],φ,φ',xs,fp,hh,hφ,h=>by simpa [iU] using h
 | c::cs,φ,φ',xs,fp,hh,hφ,h=>by
   simp only[iU] at h ⊢;obtain ⟨x,xs',f1,f2,h1,h2,h3,h4⟩:=h;subst h2
   exact⟨x,xs',f1,f2,h1,rfl,pS hD c _ _ _ _ (fun b hb=>hh b (hb.imp id (List.mem_append_left _))) (fun id hm=>hφ id (by simp[da,hm])) h3,
    aho hD cs _ _ _ _ (fun b hb=>hh b (hb.imp id (List.mem_append_right _))) (fun id hm=>hφ id (by simp[da,hm])) h4⟩
theorem lv {w w':World} {D D':Nat->Prop} (hD:∀ b,D b->D' b) (s:Nat) :
  ∀ (cs:List V) (φ φ':Nat->Option Pl) (xs:List Value) (fp:List Nat),(∀ b,D b\/b ∈ fp->w'.heap[b]?=w.heap[b]?)->(∀ id,da id cs=true->φ' id=φ id) ->
   CR w D s cs φ xs fp->CR w' D' s cs φ' xs fp
 | [],φ,φ',xs,fp,hh,hφ,h=>by simpa [CR] using h
 | c::cs,φ,φ',xs,fp,hh,hφ,h=>by
   simp only[CR] at h ⊢;obtain ⟨x,xs',f1,f2,h1,h0,h2,h3,h4⟩:=h;subst h2
   exact⟨x,xs',f1,f2,h1,h0,rfl,pS hD c _ _ _ _ (fun b hb=>hh b (hb.imp id (List.mem_append_left _))) (fun id hm=>hφ id (by simp[da,hm])) h3,
    lv hD s cs _ _ _ _ (fun b hb=>hh b (hb.imp id (List.mem_append_right _))) (fun id hm=>hφ id (by simp[da,hm])) h4⟩
end
mutual
theorem Gj {w:World} {D:Nat->Prop}:∀ (v:V) (φ:Nat->Option Pl) (x:Value) (fp:List Nat),g9 v=true->CV w D v φ x fp->fp=[]
 | .undef,φ,x,fp,hn,h=>by simpa [CV] using h
 | .v y,φ,x,fp,hn,h=>by simp only[CV] at h;exact h.2.2
 | .ref id i j,φ,x,fp,hn,h=>by simp only[CV] at h;exact h.1
 | .sl id i n,φ,x,fp,hn,h=>by simp only[CV] at h;exact h.1
 | .rp s es i j,φ,x,fp,hn,h=>by simp only[CV] at h;exact h.1
 | .ro s es,φ,x,fp,hn,h=>by simp only[CV] at h;exact h.1
 | .own s es,φ,x,fp,hn,h=>by simp[g9] at hn
 | .agg cs,φ,x,fp,hn,h=>by
   simp only[CV] at h;obtain ⟨xs,_,h⟩:=h;exact amQ cs φ _ fp (by simpa [g9] using hn) h
 | .tup cs,φ,x,fp,hn,h=>by
   simp only[CV] at h;obtain ⟨xs,_,h⟩:=h;exact amQ cs φ _ fp (by simpa [g9] using hn) h
 | .clo f cs,φ,x,fp,hn,h=>by
   simp only[CV] at h;obtain ⟨xs,_,h⟩:=h;exact amQ cs φ _ fp (by simpa [g9] using hn) h
theorem amQ {w:World} {D:Nat->Prop}:∀ (v:List V) (φ:Nat->Option Pl) (x:List Value) (fp:List Nat),cO v=true->iU w D v φ x fp->fp=[]
 | [],φ,x,fp,hn,h=>by simp only[iU] at h;exact h.2
 | c::cs,φ,x,fp,hn,h=>by
   simp only[iU] at h;obtain ⟨x,xs',f1,f2,h1,h2,h3,h4⟩:=h;simp only[cO,Bool.and_eq_true] at hn;rw[h2,Gj c φ x f1 hn.1 h3,amQ cs φ xs' f2 hn.2 h4];rfl
end
theorem Ta {w:World} {D:Nat->Prop} {s:Nat}:∀ (v:List V) (φ:Nat->Option Pl) (x:List Value) (fp:List Nat),cO v=true->CR w D s v φ x fp->fp=[]
 | [],φ,x,fp,hn,h=>by simp only[CR] at h;exact h
 | c::cs,φ,x,fp,hn,h=>by
   simp only[CR] at h;obtain ⟨x,xs',f1,f2,h1,h0,h2,h3,h4⟩:=h;simp only[cO,Bool.and_eq_true] at hn;rw[h2,Gj c φ x f1 hn.1 h3,Ta cs φ xs' f2 hn.2 h4];rfl
end Go.Abs
namespace Go.Abs
variable [GI]
omit [GI] in
theorem ayB {x:Value} (h:one x=true):x.cells=#[x]:=by cases x<;>simp_all [one,Value.cells]
def fR:V->Option (List V)
 | .agg cs=>some cs
 | .undef=>none
 | .tup _=>none
 | v=>some [v]
omit [GI] in
theorem Hu {w:World} {D:Nat->Prop} {v:V} {φ:Nat->Option Pl} {x:Value} {f:List Nat} (h:CV w D v φ x f):iU w D [v] φ [x] f:=by
 simp only[iU];exact⟨x,[],f,[],rfl,by simp,h,rfl,rfl⟩
omit [GI] in
theorem Z6 {w:World} {D:Nat->Prop} {v:V} {φ:Nat->Option Pl} {x:Value} {f:List Nat} {cs:List V} (hc:fR v=some cs) (h:CV w D v φ x f) :
  iU w D cs φ x.cells.toList f:=by
 cases v with
 | agg cs' =>
   simp only[fR,Option.some.injEq] at hc;subst hc;simp only[CV] at h;obtain ⟨xs,rfl,h⟩:=h;exact h
 | undef=>simp[fR] at hc
 | tup _=>simp[fR] at hc
 | v y =>
   simp only[fR,Option.some.injEq] at hc;subst hc;have h0:=h;simp only[CV] at h;obtain ⟨rfl,h1,_⟩:=h;rw[ayB h1];exact Hu h0
 | ref id i j =>
   simp only[fR,Option.some.injEq] at hc;subst hc;have h0:=h;simp only[CV] at h;obtain ⟨_,p,_,rfl⟩:=h;exact Hu h0
 | sl id i n =>
   simp only[fR,Option.some.injEq] at hc;subst hc;have h0:=h;simp only[CV] at h;have:x.cells=#[x]:=by obtain ⟨_,⟨_,_,_,rfl⟩ | ⟨p,o,cap,_,rfl,_⟩⟩:=h<;>rfl
   rw[this];exact Hu h0
 | rp s es i j =>
   simp only[fR,Option.some.injEq] at hc;subst hc;have h0:=h;simp only[CV] at h;have:x.cells=#[x]:=by obtain ⟨_,b,o,arr,rfl,_⟩:=h;rfl
   rw[this];exact Hu h0
 | ro s es =>
   simp only[fR,Option.some.injEq] at hc;subst hc;have h0:=h;simp only[CV] at h;have:x.cells=#[x]:=by obtain ⟨_,⟨_,a,cap,rfl,_⟩ | ⟨b,o,cap,arr,rfl,_⟩⟩:=h<;>rfl
   rw[this];exact Hu h0
 | own s es =>
   simp only[fR,Option.some.injEq] at hc;subst hc;have h0:=h;simp only[CV] at h;have:x.cells=#[x]:=by obtain ⟨_,rfl,_⟩ | ⟨b,o,cap,arr,ty,fp',rfl,_⟩:=h<;>rfl
   rw[this];exact Hu h0
 | clo g cs =>
   simp only[fR,Option.some.injEq] at hc;subst hc;have h0:=h;simp only[CV] at h;have:x.cells=#[x]:=by obtain ⟨xs,rfl,_⟩:=h;rfl
   rw[this];exact Hu h0
omit [GI] in
theorem lC {w:World} {D:Nat->Prop}:∀ {cs:List V} {φ:Nat->Option Pl} {xs:List Value} {f:List Nat},iU w D cs φ xs f->xs.length=cs.length
 | [],φ,xs,f,h=>by simp only[iU] at h;simp[h.1]
 | c::cs,φ,xs,f,h=>by
   simp only[iU] at h;obtain ⟨x,xs',f1,f2,rfl,_,_,h⟩:=h;simp[lC h]
omit [GI] in
theorem VH {w:World} {D:Nat->Prop}:∀ {cs:List V} {φ:Nat->Option Pl} {xs:List Value} {f:List Nat} {i:Nat} {c:V},iU w D cs φ xs f->cs[i]?=some c ->
  ∃ x f',xs[i]?=some x/\CV w D c φ x f'/\(∀ b ∈ f',b ∈ f)
 | [],φ,xs,f,i,c,h,hc=>by simp at hc
 | c::cs,φ,xs,f,i,c',h,hc=>by
   simp only[iU] at h;obtain ⟨x,xs',f1,f2,rfl,rfl,h1,h⟩:=h;cases i with
   | zero =>
     simp at hc;subst hc;exact⟨x,f1,by simp,h1,fun b hb=>List.mem_append_left _ hb⟩
   | succ i =>
     obtain ⟨y,f',g1,g2,g3⟩:=VH h (by simpa using hc);exact⟨y,f',by simpa using g1,g2,fun b hb=>List.mem_append_right _ (g3 b hb)⟩
omit [GI] in
theorem Je {w:World} {D:Nat->Prop} {φ:Nat->Option Pl}:iU w D [] φ [] []:=by simp[iU]
omit [GI] in
theorem HL {w:World} {D:Nat->Prop}:∀ {cs ds:List V} {φ:Nat->Option Pl} {xs ys:List Value} {f g:List Nat},iU w D cs φ xs f->iU w D ds φ ys g ->
  iU w D (cs++ds) φ (xs++ys) (f++g)
 | [],ds,φ,xs,ys,f,g,h,h'=>by simp only[iU] at h;obtain ⟨rfl,rfl⟩:=h;simpa using h'
 | c::cs,ds,φ,xs,ys,f,g,h,h'=>by
   simp only[iU] at h;obtain ⟨x,xs',f1,f2,rfl,rfl,h1,h⟩:=h;simp only[List.cons_append,iU];exact⟨x,xs'++ys,f1,f2++g,rfl,by simp,h1,HL h h'⟩
omit [GI] in
theorem ahn {w:World} {D:Nat->Prop}:∀ {cs:List V} {φ:Nat->Option Pl} {xs:List Value} (k:Nat),iU w D cs φ xs []->iU w D (cs.drop k) φ (xs.drop k) []
 | cs,φ,xs,0,h=>by simpa using h
 | [],φ,xs,k+1,h=>by simp only[iU] at h;obtain ⟨rfl,_⟩:=h;simp[iU]
 | c::cs,φ,xs,k+1,h=>by
   simp only[iU] at h;obtain ⟨x,xs',f1,f2,rfl,hf,h1,h⟩:=h;have:f2=[]:=(List.append_eq_nil_iff.1 hf.symm).2;subst this;simpa using ahn k h
omit [GI] in
theorem ahp {w:World} {D:Nat->Prop}:∀ {cs:List V} {φ:Nat->Option Pl} {xs:List Value} (k:Nat),iU w D cs φ xs []->iU w D (cs.take k) φ (xs.take k) []
 | cs,φ,xs,0,h=>by simp[iU]
 | [],φ,xs,k+1,h=>by simp only[iU] at h;obtain ⟨rfl,_⟩:=h;simp[iU]
 | c::cs,φ,xs,k+1,h=>by
   simp only[iU] at h;obtain ⟨x,xs',f1,f2,rfl,hf,h1,h⟩:=h;have hf:=List.append_eq_nil_iff.1 hf.symm;obtain ⟨rfl,rfl⟩:=hf;simp only[List.take_succ_cons,iU];exact⟨x,xs'.take k,[],[],rfl,rfl,h1,ahp k h⟩
omit [GI] in
theorem aFX {w:World} {D:Nat->Prop} {s:Nat}:∀ {es:List V} {φ:Nat->Option Pl} {xs:List Value} {f:List Nat} {i:Nat} {e:V},CR w D s es φ xs f->es[i]?=some e ->
  ∃ x f',CV w D e φ x f'/\(∀ b ∈ f',b ∈ f)/\(x.cells.size=s/\x.cells.toList.all one=true)/\∀ j,j < s->xs[i * s+j]?=x.cells[j]?
 | [],φ,xs,f,i,e,h,he=>by simp at he
 | c::cs,φ,xs,f,i,e,h,he=>by
   simp only[CR] at h;obtain ⟨x,rest,f1,f2,rfl,⟨hs,ho⟩,rfl,h1,h⟩:=h;cases i with
   | zero =>
     simp at he;subst he;refine⟨x,f1,h1,fun b hb=>List.mem_append_left _ hb,⟨hs,ho⟩,fun j hj=>?_⟩;rw[List.getElem?_append_left (by simpa [hs] using hj)];simp
   | succ i =>
     obtain ⟨y,f',g1,g2,g3,g4⟩:=aFX h (by simpa using he);refine⟨y,f',g1,fun b hb=>List.mem_append_right _ (g2 b hb),g3,fun j hj=>?_⟩;rw[<- g4 j hj,List.getElem?_append_right (by simp[hs,Nat.add_mul];omega)];congr 1;simp[hs,Nat.add_mul];omega
omit [GI] in
theorem YW {w:World} {D:Nat->Prop} {s:Nat}:∀ {es:List V} {φ:Nat->Option Pl} {xs ys:List Value} {f:List Nat},CR w D s es φ xs f->(∀ j,j < es.length * s->ys[j]?=xs[j]?)->CR w D s es φ ys f
 | [],φ,xs,ys,f,h,hy=>by simpa [CR] using h
 | c::cs,φ,xs,ys,f,h,hy=>by
   simp only[CR] at h ⊢;obtain ⟨x,rest,f1,f2,rfl,⟨hs,ho⟩,rfl,h1,h⟩:=h;refine⟨x,ys.drop s,f1,f2,?_,⟨hs,ho⟩,rfl,h1,YW h fun j hj=>?_⟩
   ·refine List.ext_getElem? fun j=>?_;by_cases hj:j < s
    ·rw[hy j (by simp[Nat.add_mul];omega),List.getElem?_append_left (by simpa [hs] using hj),List.getElem?_append_left (by simpa [hs] using hj)]
    ·rw[List.getElem?_append_right (by simp[hs];omega),List.getElem?_drop];congr 1;simp[hs];omega
   ·rw[List.getElem?_drop,hy (s+j) (by simp[Nat.add_mul];omega),List.getElem?_append_right (by simp[hs])];congr 1;simp[hs]
omit [GI] in
theorem Z5 {w:World} {D:Nat->Prop} {s:Nat}:∀ {es:List V} {φ:Nat->Option Pl} {xs:List Value} {f:List Nat},CR w D s es φ xs f->es.length * s<=xs.length
 | [],φ,xs,f,h=>by simp
 | c::cs,φ,xs,f,h=>by
   simp only[CR] at h;obtain ⟨x,rest,f1,f2,rfl,⟨hs,ho⟩,rfl,h1,h⟩:=h;have:=Z5 h;simp[Nat.add_mul,hs];omega
omit [GI] in
theorem amO {w:World} {D:Nat->Prop} {s:Nat}:∀ {es ds:List V} {φ:Nat->Option Pl} {xs:List Value} {f g:List Nat},CR w D s es φ xs f->CR w D s ds φ (xs.drop (es.length * s)) g->CR w D s (es++ds) φ xs (f++g)
 | [],ds,φ,xs,f,g,h,h'=>by simp only[CR] at h;subst h;simpa using h'
 | c::cs,ds,φ,xs,f,g,h,h'=>by
   simp only[CR,List.cons_append] at h ⊢;obtain ⟨x,rest,f1,f2,rfl,⟨hs,ho⟩,rfl,h1,h⟩:=h;refine⟨x,rest,f1,f2++g,rfl,⟨hs,ho⟩,by simp,h1,amO h ?_⟩;have:(c::cs).length * s=x.cells.toList.length+cs.length * s:=by simp[hs,Nat.add_mul];omega
   rw[this,List.drop_length_add_append] at h';exact h'
omit [GI] in
theorem amP {w:World} {D:Nat->Prop} {s:Nat}:∀ {es:List V} {φ:Nat->Option Pl} {xs:List Value} (k:Nat),CR w D s es φ xs []->CR w D s (es.drop k) φ (xs.drop (k * s)) []
 | es,φ,xs,0,h=>by simpa using h
 | [],φ,xs,k+1,h=>by simp[CR]
 | c::cs,φ,xs,k+1,h=>by
   simp only[CR] at h;obtain ⟨x,rest,f1,f2,rfl,⟨hs,ho⟩,hf,h1,h⟩:=h;have:f2=[]:=(List.append_eq_nil_iff.1 hf.symm).2;subst this;have hh:=amP k h;have:(k+1) * s=x.cells.toList.length+k * s:=by simp[hs,Nat.add_mul];omega
   rw[this,List.drop_length_add_append];simpa using hh
omit [GI] in
theorem VG {w:World} {D:Nat->Prop} {s:Nat}:∀ {es:List V} {φ:Nat->Option Pl} {xs:List Value} (k:Nat),CR w D s es φ xs []->CR w D s (es.take k) φ xs []
 | es,φ,xs,0,h=>by simp[CR]
 | [],φ,xs,k+1,h=>by simp[CR]
 | c::cs,φ,xs,k+1,h=>by
   simp only[CR,List.take_succ_cons] at h ⊢;obtain ⟨x,rest,f1,f2,rfl,⟨hs,ho⟩,hf,h1,h⟩:=h;have:f2=[]:=(List.append_eq_nil_iff.1 hf.symm).2;have:f1=[]:=(List.append_eq_nil_iff.1 hf.symm).1;subst f1;subst f2;exact⟨x,rest,[],[],rfl,⟨hs,ho⟩,rfl,h1,VG k h⟩
omit [GI] in
theorem aKj {w:World} {D:Nat->Prop} {s:Nat}:∀ {es:List V} {φ:Nat->Option Pl} {xs ys:List Value} {f:List Nat} {i:Nat} {e e':V} {y:Value},CR w D s es φ xs f->es[i]?=some e ->
  g9 e=true->CV w D e' φ y []->(y.cells.size=s/\y.cells.toList.all one=true)->ys.length=xs.length->(∀ j,(j < i * s\/i * s+s<=j)->ys[j]?=xs[j]?)->(∀ j,j < s->ys[i * s+j]?=y.cells[j]?)->CR w D s (es.set i e') φ ys f
 | [],φ,xs,ys,f,i,e,e',y,h,he,hn,hy,hsz,hl,hot,hw=>by simp at he
 | c::cs,φ,xs,ys,f,i,e,e',y,h,he,hn,hy,hsz,hl,hot,hw=>by
   simp only[CR] at h;obtain ⟨x,rest,f1,f2,rfl,⟨hs,ho⟩,rfl,h1,h⟩:=h;cases i with
   | zero =>
     simp at he;subst he;have:f1=[]:=Gj _ _ _ _ hn h1;subst this;simp only[List.set_cons_zero,CR];refine⟨y,rest,[],f2,?_,hsz,rfl,hy,h⟩;refine List.ext_getElem? fun j=>?_;by_cases hj:j < s
     ·have:=hw j hj;simp only[Nat.zero_mul,Nat.zero_add] at this;rw[this,List.getElem?_append_left (by simpa [hsz.1] using hj)];simp
     ·rw[hot j (.inr (by omega)),List.getElem?_append_right (by simp[hs];omega),List.getElem?_append_right (by simp[hsz.1];omega)];simp[hs,hsz.1]
   | succ i =>
     simp only[List.set_cons_succ,CR];refine⟨x,ys.drop s,f1,f2,?_,⟨hs,ho⟩,rfl,h1,aKj (i:=i) (e:=e) h (by simpa using he) hn hy hsz ?_ ?_ ?_⟩
     ·refine List.ext_getElem? fun j=>?_;by_cases hj:j < s
      ·rw[hot j (.inl (by simp[Nat.add_mul];omega)),List.getElem?_append_left (by simpa [hs] using hj),List.getElem?_append_left (by simpa [hs] using hj)]
      ·rw[List.getElem?_append_right (by simp[hs];omega),List.getElem?_drop];congr 1;simp[hs];omega
     ·simp[hl,hs]
     ·intro j hj;rw[List.getElem?_drop,hot (s+j) (by simp only[Nat.add_mul,Nat.one_mul];omega),List.getElem?_append_right (by simp[hs])];congr 1;simp[hs]
     ·intro j hj;rw[List.getElem?_drop,<- hw j hj];congr 1;simp only[Nat.add_mul,Nat.one_mul];omega
structure Blk where
 s:Nat
 es:List V
 deriving Inhabited
def p9 (w:World) (D:Nat->Prop) (φ:Nat->Option Pl) (id:Nat) (blk:Blk) (f:List Nat):Prop :=
 (φ id=none/\blk.es=[]/\f=[]) \/
 ∃ p arr ty f',φ id=some p/\p.s=blk.s/\p.z=arr.size/\Tc w p.b arr ty/\f=p.b::f'/\CR w D blk.s blk.es φ (arr.toList.drop p.o) f'
structure Ctx where
 w0:World
 W:List Nat
 D0:Nat->Prop
 φ0:Nat->Option Pl
 pin:List Nat
 n:Nat
structure St where
 sl:Nat->V
 hp:Nat->Option Blk
def oY {α:Type} (f:Nat->α) (k:Nat) (x:α):Nat->α:=fun i=>if i=k then x else f i
omit [GI] in
@[simp] theorem ju {α:Type} (f:Nat->α) (k:Nat) (x:α):oY f k x k=x:=by simp[oY]
omit [GI] in
theorem gZ {α:Type} (f:Nat->α) {k i:Nat} (x:α) (h:i≠k):oY f k x i=f i:=by simp[oY,h]
structure RelD (X:Ctx) (s:St) (a:Act) (w:World) (D:Nat->Prop) (φ:Nat->Option Pl) (F:Nat->List Nat) (G:List Nat):Prop where
 os:w.os=X.w0.os
 tape:w.tape=X.w0.tape
 output:w.output=X.w0.output
 size:X.w0.heap.size<=w.heap.size
 old:∀ b,b < X.w0.heap.size->b ∉ X.W->w.heap[b]?=X.w0.heap[b]?
 Dup:∀ b,X.D0 b->D b
 Ddn:∀ b,D b->X.D0 b\/X.w0.heap.size<=b\/b ∈ X.W
 Dlt:∀ b,D b->b < w.heap.size
 defers:a.defers=[]
 ntmps:a.tmps.size=X.n
 slots:∀ t,CV w D (s.sl t) φ (a.tmps.getD t undef) []
 blks:∀ id blk,s.hp id=some blk->p9 w D φ id blk (F id)
 nob:∀ id,s.hp id=none->F id=[]
 nodup:∀ id,(F id).Nodup
 sep:∀ i j,i≠j->∀ b,b ∈ F i->b ∉ F j
 notD:∀ id b,b ∈ F id->¬D b/\b < w.heap.size/\(X.w0.heap.size<=b\/b ∈ X.W)
 pins:∀ id,id ∈ X.pin->φ id=X.φ0 id
 gnodup:G.Nodup
 gsep:∀ i b,b ∈ F i->b ∉ G
 gnotD:∀ b,b ∈ G->¬D b/\b < w.heap.size/\(X.w0.heap.size<=b\/b ∈ X.W)
 gi:GI.holds w D
def Rel (X:Ctx) (s:St) (a:Act) (w:World):Prop:=∃ D φ F,RelD X s a w D φ F []
section
variable {X : Ctx} {s : St} {a : Act} {w : World} {D : Nat → Prop} {φ : Nat → Option Pl} {F : Nat → List Nat} {G : List Nat}
omit [GI] in
theorem aPj (a:Act) (d t:Nat) (x:Value):(a.put (some d) x).tmps.getD t undef=if t=d/\d < a.tmps.size then x else a.tmps.getD t undef:=by
 simp only[Act.put,Array.getD_eq_getD_getElem?,Array.getElem?_setIfInBounds];by_cases h:d=t
 ·subst h;by_cases h2:d < a.tmps.size
  ·simp[h2]
  ·simp[h2]
 ·simp[h,Ne.symm h]
theorem RelD.put (h:RelD X s a w D φ F G) (d:Nat) (hd:d < X.n) (v:V) (x:Value) (hv:CV w D v φ x []) :
  RelD X { s with sl:=oY s.sl d v } (a.put (some d) x) w D φ F G:=by
 refine { h with defers:=h.defers,ntmps:=by simpa [Act.put] using h.ntmps,slots:=fun t=>?_ };rw[aPj];by_cases ht:t=d
 ·subst ht;simp[h.ntmps,hd,hv]
 ·simp only[oY,ht,if_false,false_and];exact h.slots t
theorem RelD.weaken (h:RelD X s a w D φ F G) (s':St) (hs:∀ t,s'.sl t=s.sl t\/s'.sl t=.undef) (hh:∀ id,s'.hp id=s.hp id\/s'.hp id=none) :
  RelD X s' a w D φ (fun id=>if (s'.hp id).isSome then F id else []) G:=by
 refine { h with slots:=fun t=>?_,blks:=fun id blk hb=>?_,nob:=fun id hn=>by simp[hn],nodup:=fun id=>?_,sep:=fun i j hij b hb=>?_,notD:=fun id b hb=>?_,gsep:=fun i b hb=>?_ }
 ·rcases hs t with e | e
  ·rw[e];exact h.slots t
  ·rw[e];simp[CV]
 ·rcases hh id with e | e
  ·simp only[hb,Option.isSome_some,if_true];exact h.blks id blk (e▸hb)
  ·rw[e] at hb;cases hb
 ·split
  ·exact h.nodup id
  ·exact List.nodup_nil
 ·split at hb
  ·split
   ·exact h.sep i j hij b hb
   ·simp
  ·simp at hb
 ·split at hb
  ·exact h.notD id b hb
  ·simp at hb
 ·split at hb
  ·exact h.gsep i b hb
  ·simp at hb
theorem RelD.grow (h:RelD X s a w D φ F G) (w':World) (D':Nat->Prop) (G':List Nat) (hos:w'.os=w.os) (htape:w'.tape=w.tape) (hout:w'.output=w.output)
  (hsz:w.heap.size<=w'.heap.size) (hold:∀ b,b < w.heap.size->w'.heap[b]?=w.heap[b]?) (hD:∀ b,D b->D' b) (hD':∀ b,D' b->(D b\/w.heap.size<=b)/\b < w'.heap.size)
  (hg:G'.Nodup) (hg':∀ b,b ∈ G'->w.heap.size<=b/\b < w'.heap.size/\¬D' b):RelD X s a w' D' φ F (G++G'):=by
 have hnD:∀ b,b < w.heap.size->¬D b->¬D' b:=fun b hb hn hd=>by
  rcases (hD' b hd).1 with e | e
  ·exact hn e
  ·omega
 refine { h with os:=hos.trans h.os,tape:=htape.trans h.tape,output:=hout.trans h.output,size:=Nat.le_trans h.size hsz,old:=fun b hb hW=>(hold b (Nat.lt_of_lt_of_le hb h.size)).trans (h.old b hb hW),Dup:=fun b hb=>hD b (h.Dup b hb),Ddn:=fun b hb=>?_,Dlt:=fun b hb=>(hD' b hb).2,slots:=fun t=>pS hD _ _ _ _ _ (fun b hb=>hold b (hb.elim (h.Dlt b) (by simp))) (fun _ _=>rfl) (h.slots t),blks:=fun id blk hb=>?_,notD:=fun id b hb=>?_,gnodup:=?_,gsep:=fun i b hb=>?_,gnotD:=fun b hb=>?_,gi:=GI.mono h.gi hD fun b hb=>hold b (h.Dlt b hb) }
 ·rcases (hD' b hb).1 with e | e
  ·exact h.Ddn b e
  ·exact .inr (.inl (Nat.le_trans h.size e))
 ·rcases h.blks id blk hb with e | ⟨p,arr,ty,f',h1,h2,h3,h4,h5,h6⟩
  ·exact .inl e
  ·refine .inr ⟨p,arr,ty,f',h1,h2,h3,?_,h5,lv hD _ _ _ _ _ _ (fun b hb=>hold b ?_) (fun _ _=>rfl) h6⟩
   ·exact h4.congr (hold p.b (h.notD id p.b (by rw[h5];exact List.mem_cons_self)).2.1)
   ·exact hb.elim (h.Dlt b) fun hm=>(h.notD id b (by rw[h5];exact List.mem_cons_of_mem _ hm)).2.1
 ·have:=h.notD id b hb;exact⟨hnD b this.2.1 this.1,by omega,this.2.2⟩
 ·refine List.nodup_append.2 ⟨h.gnodup,hg,fun b hb c hc e=>?_⟩;subst e;have:=(h.gnotD b hb).2.1;have:=(hg' b hc).1;omega
 ·intro hm;rcases List.mem_append.1 hm with hm | hm
  ·exact h.gsep i b hb hm
  ·have:=(h.notD i b hb).2.1;have:=(hg' b hm).1;omega
 ·rcases List.mem_append.1 hb with hm | hm
  ·have:=h.gnotD b hm;exact⟨hnD b this.2.1 this.1,by omega,this.2.2⟩
  ·have:=hg' b hm;exact⟨this.2.2,this.2.1,.inl (Nat.le_trans h.size this.1)⟩
structure Fresh (s:St) (d:Nat):Prop where
 sl:∀ t,gj d (s.sl t)=false
 hp:∀ id blk,s.hp id=some blk->da d blk.es=false
 no:s.hp d=none
omit [GI] in
theorem aK8 {d id:Nat} {v:V} (h:gj d v=false) (hm:gj id v=true):id≠d:=fun e=>by rw[e,h] at hm;cases hm
omit [GI] in
theorem IA {d id:Nat} {v:List V} (h:da d v=false) (hm:da id v=true):id≠d:=fun e=>by rw[e,h] at hm;cases hm
theorem RelD.settle {f:List Nat} (h:RelD X s a w D φ F (f++G)) (d:Nat) (hd:Fresh s d) (hp:d ∉ X.pin) (pl:Option Pl) (blk:Blk) (hb:p9 w D (oY φ d pl) d blk f) :
  RelD X { s with hp:=oY s.hp d (some blk) } a w D (oY φ d pl) (oY F d f) G:=by
 have hF:F d=[]:=h.nob d hd.no;refine { h with slots:=fun t=>pS (fun _ hb=>hb) _ _ _ _ _ (fun _ _=>rfl) (fun id hm=>gZ _ _ (aK8 (hd.sl t) hm)) (h.slots t),blks:=fun id b' hb'=>?_,nob:=fun id hn=>?_,nodup:=fun id=>?_,sep:=fun i j hij b hbf=>?_,notD:=fun id b hb=>?_,pins:=fun id hm=>?_,gnodup:=(List.nodup_append.1 h.gnodup).2.1,gsep:=fun i b hb=>?_,gnotD:=fun b hb=>h.gnotD b (List.mem_append_right _ hb) }
 ·by_cases e:id=d
  ·subst e;simp at hb';subst hb';simpa using hb
  ·simp only[oY,e,if_false] at hb' ⊢;rcases h.blks id b' hb' with g | ⟨p,arr,ty,f',h1,h2,h3,h4,h5,h6⟩
   ·exact .inl (by simpa [oY,e] using g)
   ·exact .inr ⟨p,arr,ty,f',by simpa [oY,e] using h1,h2,h3,h4,h5,lv (fun _ hb=>hb) _ _ _ _ _ _ (fun _ _=>rfl) (fun i hm=>gZ _ _ (IA (hd.hp id b' hb') hm)) h6⟩
 ·by_cases e:id=d
  ·subst e;simp at hn
  ·simp only[oY,e,if_false] at hn ⊢;exact h.nob id hn
 ·by_cases e:id=d
  ·subst e;simp only[ju];exact(List.nodup_append.1 h.gnodup).1
  ·simp only[oY,e,if_false];exact h.nodup id
 ·by_cases e:i=d
  ·subst e;simp only[ju] at hbf;rw[gZ _ _ (Ne.symm hij)];exact fun hm=>h.gsep j b hm (List.mem_append_left _ hbf)
  ·rw[gZ _ _ e] at hbf;by_cases e2:j=d
   ·subst e2;simp only[ju];exact fun hm=>h.gsep i b hbf (List.mem_append_left _ hm)
   ·rw[gZ _ _ e2];exact h.sep i j hij b hbf
 ·by_cases e:id=d
  ·subst e;simp only[ju] at hb;exact h.gnotD b (List.mem_append_left _ hb)
  ·rw[gZ _ _ e] at hb;exact h.notD id b hb
 ·rw[gZ _ _ (fun e:id=d=>hp (by rw[<- e];exact hm))];exact h.pins id hm
 ·by_cases e:i=d
  ·subst e;simp only[ju] at hb;exact fun hm=>(List.nodup_append.1 h.gnodup).2.2 b hb b hm rfl
  ·rw[gZ _ _ e] at hb;exact fun hm=>h.gsep i b hb (List.mem_append_right _ hm)
theorem RelD.release (h:RelD X s a w D φ F G) (d:Nat):RelD X { s with hp:=oY s.hp d none } a w D φ (oY F d []) (F d++G):=by
 refine { h with blks:=fun id b' hb'=>?_,nob:=fun id hn=>?_,nodup:=fun id=>?_,sep:=fun i j hij b hb=>?_,notD:=fun id b hb=>?_,gnodup:=?_,gsep:=fun i b hb=>?_,gnotD:=fun b hb=>?_ }
 ·by_cases e:id=d
  ·subst e;simp at hb'
  ·simp only[oY,e,if_false] at hb' ⊢;exact h.blks id b' hb'
 ·by_cases e:id=d
  ·subst e;simp
  ·simp only[oY,e,if_false] at hn ⊢;exact h.nob id hn
 ·by_cases e:id=d
  ·subst e;simp
  ·rw[gZ _ _ e];exact h.nodup id
 ·by_cases e:i=d
  ·subst e;simp at hb
  ·rw[gZ _ _ e] at hb;by_cases e2:j=d
   ·subst e2;simp
   ·rw[gZ _ _ e2];exact h.sep i j hij b hb
 ·by_cases e:id=d
  ·subst e;simp at hb
  ·rw[gZ _ _ e] at hb;exact h.notD id b hb
 ·exact List.nodup_append.2 ⟨h.nodup d,h.gnodup,fun b hb c hc e=>h.gsep d b hb (e▸hc)⟩
 ·by_cases e:i=d
  ·subst e;simp at hb
  ·rw[gZ _ _ e] at hb;intro hm;rcases List.mem_append.1 hm with hm | hm
   ·exact h.sep i d e b hb hm
   ·exact h.gsep i b hb hm
 ·rcases List.mem_append.1 hb with hm | hm
  ·exact h.notD d b hm
  ·exact h.gnotD b hm
theorem RelD.gperm {G':List Nat} (h:RelD X s a w D φ F G) (hp:G.Perm G'):RelD X s a w D φ F G' :=
 { h with gnodup:=hp.nodup_iff.1 h.gnodup,gsep:=fun i b hb hm=>h.gsep i b hb (hp.mem_iff.2 hm),gnotD:=fun b hb=>h.gnotD b (hp.mem_iff.2 hb) }
theorem RelD.gsub {G':List Nat} (h:RelD X s a w D φ F G) (hs:G'.Sublist G):RelD X s a w D φ F G' :=
 { h with gnodup:=hs.nodup h.gnodup,gsep:=fun i b hb hm=>h.gsep i b hb (hs.subset hm),gnotD:=fun b hb=>h.gnotD b (hs.subset hb) }
theorem RelD.write (h:RelD X s a w D φ F G) (d:Nat) (blk:Blk) (hb:s.hp d=some blk) (p:Pl) (hp:φ d=some p) (arr arr':Array Value) (ty:TypeId) {fr:Nat×Nat} (hok:ar5 arr fr)
  (hw:w.heap[p.b]?=some (.cells arr ty fr)) (hl:arr'.size=arr.size) (w':World) (hw':w'.heap=w.heap.setIfInBounds p.b (.cells arr' ty fr)) (hos:w'.os=w.os) (htape:w'.tape=w.tape) (hout:w'.output=w.output)
  (es':List V) (hes:∀ f' ,F d=p.b::f'->CR w D blk.s blk.es φ (arr.toList.drop p.o) f'->CR w D blk.s es' φ (arr'.toList.drop p.o) f') :
  RelD X { s with hp:=oY s.hp d (some ⟨blk.s,es'⟩) } a w' D φ F G:=by
 have hbl:p.b < w.heap.size:=(Array.getElem?_eq_some_iff.1 hw).1;have hsz:w'.heap.size=w.heap.size:=by rw[hw'];simp
 have hne:∀ b,b≠p.b->w'.heap[b]?=w.heap[b]?:=fun b e=>by rw[hw'];exact Array.getElem?_setIfInBounds_ne (Ne.symm e)
 have hnew:Tc w' p.b arr' ty:=⟨fr,hok.size hl,by rw[hw',Array.getElem?_setIfInBounds];simp[hbl]⟩
 obtain ⟨f',hF⟩:∃ f',F d=p.b::f':=by
  rcases h.blks d blk hb with e | ⟨q,_,_,f',h1,_,_,_,h5,_⟩
  ·rw[hp] at e;cases e.1
  ·rw[hp] at h1;cases h1;exact⟨f',h5⟩
 have hin:p.b ∈ F d:=by rw[hF];exact List.mem_cons_self
 have hD:∀ b,D b->b≠p.b:=fun b hb e=>(h.notD d p.b hin).1 (e▸hb);have hcv:∀ (fp:List Nat),(∀ b ∈ fp,b≠p.b)->∀ b,D b\/b ∈ fp->w'.heap[b]?=w.heap[b]?:=fun fp hfp b hb=>hne b (hb.elim (hD b) (hfp b));refine { h with os:=hos.trans h.os,tape:=htape.trans h.tape,output:=hout.trans h.output,size:=by rw[hsz];exact h.size,old:=fun b hb' hW=>?_,Dlt:=fun b hb'=>by rw[hsz];exact h.Dlt b hb',slots:=fun t=>pS (fun _ hb=>hb) _ _ _ _ _ (hcv [] (by simp)) (fun _ _=>rfl) (h.slots t),blks:=fun id b' hb'=>?_,nob:=fun id hn=>?_,notD:=fun id b hb'=>by rw[hsz];exact h.notD id b hb',gnotD:=fun b hb'=>by rw[hsz];exact h.gnotD b hb',gi:=GI.mono h.gi (fun _ hb=>hb) fun b hb=>hne b (hD b hb) }
 ·have hx:b≠p.b:=fun e=>by
   subst e;rcases (h.notD d p.b hin).2.2 with g | g
   ·omega
   ·exact hW g
  rw[hne b hx];exact h.old b hb' hW
 ·by_cases e:id=d
  ·subst e;simp at hb';subst hb';rcases h.blks id blk hb with g | ⟨q,arr0,ty0,f0,h1,h2,h3,h4,h5,h6⟩
   ·rw[hp] at g;cases g.1
   ·rw[hp] at h1;cases h1;obtain ⟨fr0,_,h4⟩:=h4;rw[hw] at h4;cases h4;refine .inr ⟨p,arr',ty,f0,hp,h2,by rw[hl];exact h3,hnew,h5,lv (fun _ hb=>hb) _ _ _ _ _ _ (hcv f0 fun b hb' e=>?_) (fun _ _=>rfl) (hes f0 h5 h6)⟩;have:=h.nodup id;rw[h5] at this;exact(List.nodup_cons.1 this).1 (e▸hb')
  ·simp only[oY,e,if_false] at hb';rcases h.blks id b' hb' with g | ⟨q,arr0,ty0,f0,h1,h2,h3,h4,h5,h6⟩
   ·exact .inl g
   ·have hq:∀ b ∈ F id,b≠p.b:=fun b hb' e'=>h.sep d id (Ne.symm e) p.b hin (e'▸hb');refine .inr ⟨q,arr0,ty0,f0,h1,h2,h3,?_,h5,lv (fun _ hb=>hb) _ _ _ _ _ _ (hcv f0 fun b hb'=>hq b (by rw[h5];exact List.mem_cons_of_mem _ hb')) (fun _ _=>rfl) h6⟩;exact h4.congr (hne q.b (hq q.b (by rw[h5];exact List.mem_cons_self)))
 ·by_cases e:id=d
  ·subst e;simp at hn
  ·simp only[oY,e,if_false] at hn;exact h.nob id hn
end
end Go.Abs
namespace Go.Abs
inductive X where
 | t (n:Nat)
 | k (v:V)
 deriving Inhabited
inductive EK where
 | int
 | bool
 | str
 deriving DecidableEq,Inhabited
inductive EqK where
 | none
 | bool
 | nil
 | struct (ks:List EK)
 deriving DecidableEq,Inhabited
inductive CK where
 | int (k:IntKind)
 | intStr
 | strStr
 | bytesStr
 | strBytes
 deriving DecidableEq,Inhabited
inductive O where
 | mv (x:X)
 | pick (c a b:X)
 | box (n:Nat) (x:X)
 | build (z:V) (ps:List (Nat×Nat×X))
 | bslice (s:Nat) (z:V) (n:Nat) (ps:List (Nat×X))
 | ld (agg:Bool) (n:Nat) (x:X)
 | st (n:Nat) (a x:X)
 | bin (op:BinOp) (k:EqK) (x y:X)
 | un (op:UnOp) (x:X)
 | conv (c:CK) (x:X)
 | clo (f:Nat) (cs:List X)
 | mks (s:Nat) (z:V) (bytes:Nat) (l c:X)
 | slc (s:Option Nat) (x:X) (lo hi:Option X)
 | faddr (off:Nat) (x:X)
 | fld (agg:Bool) (off n:Nat) (x:X)
 | iaddr (s:Nat) (x i:X)
 | idx (x i:X)
 | ext (x:X) (i:Nat)
 | len (str:Bool) (x:X)
 | app (s bytes:Nat) (x y:X)
 | mm (max:Bool) (xs:List X)
 | call (f:Nat) (xs:List X)
 | callv (x:X) (xs:List X)
 deriving Inhabited
structure CO where
 g:Option (Nat×Bool)
 d:Option Nat
 o:O
 deriving Inhabited
def ofV:Value->Option V
 | .agg cs=>if cs.all one then some (.agg (cs.toList.map .v)) else none
 | .tuple cs=>if cs.size=0 then some (.tup []) else none
 | x=>if one x then some (.v x) else none
def cX:Operand->Option X
 | .tmp t=>some (.t t)
 | .const v=>(ofV v).map .k
 | .func f=>some (.k (.clo f []))
 | .global _=>none
def cXs:List Operand->Option (List X)
 | []=>some []
 | x::xs=>match cX x,cXs xs with
   | some y,some ys=>some (y::ys)
   | _,_=>none
def ahq:TypeDesc->Bool
 | .struct _=>true
 | .array _ _=>true
 | _=>false
def aD0 (P:Program) (t:TypeId):Option (Bool×Nat) :=
 match P.underlying t,P.info? t with
 | some d,some i=>some (ahq d,i.size)
 | _,_=>none
def Dd (P:Program) (t:TypeId):Option TypeInfo :=
 match P.underlying t with
 | some (.slice e)=>P.info? e
 | _=>none
def aPc (P:Program) (kinds:TypeId->Option (List EK)):List Field->Nat->Option (List EK)
 | [],_=>some []
 | f::fs,off=>if f.name ≠ "_"/\f.offset=off then
   match kinds f.type with
   | some ks=>if (P.info? f.type).map (·.size)=some ks.length then (aPc P kinds fs (off+ks.length)).map (ks++·) else none
   | none=>none
   else none
def Hx (P:Program):Nat->TypeId->Option (List EK)
 | 0,_=>none
 | m+1,t=>match P.underlying t with
   | some (.int _)=>some [.int]
   | some .bool=>some [.bool]
   | some .string=>some [.str]
   | some (.struct fs)=>if P.stoodInHeld t=false then aPc P (Hx P m) fs.toList 0 else none
   | _=>none
def eqK (P:Program) (op:BinOp) (t:TypeId):Option EqK :=
 if op=.eql\/op=.neq then
  match P.underlying t with
  | some .bool=>some .bool
  | some (.int _)=>some .none
  | some .string=>some .none
  | some (.slice _)=>some .nil
  | some (.struct _)=>match Hx P 8 t with
    | some ks=>if P.eqGuardType P.depth t=false then some (.struct ks) else none
    | none=>none
  | _=>none
 else some .none
def cck (P:Program) (src dst:TypeId):Option CK :=
 match P.underlying src,P.underlying dst with
 | some (.int _),some (.int k)=>some (.int k)
 | some (.int _),some .string=>some .intStr
 | some .string,some .string=>some .strStr
 | some (.slice e),some .string=>match P.underlying e with
   | some (.int .u8)=>some .bytesStr
   | _=>none
 | some .string,some (.slice e)=>match P.underlying e with
   | some (.int .u8)=>some .strBytes
   | _=>none
 | _,_=>none
def cXo:Option Operand->Option (Option X)
 | none=>some none
 | some x=>(cX x).map some
def cPs (places:List (Nat×Nat)):List (Nat×Operand)->Option (List (Nat×Nat×X))
 | []=>some []
 | (i,x)::ps=>match places[i]?,cX x,cPs places ps with
   | some (off,n),some y,some ys=>some ((off,n,y)::ys)
   | _,_,_=>none
def aDn (P:Program) (fs:Array Field):Option (List (Nat×Nat)):=fs.toList.mapM (fun f=>(P.info? f.type).map fun i=>(f.offset,i.size))
def cPt:List (Nat×Operand)->Option (List (Nat×X))
 | []=>some []
 | (i,x)::ps=>match cX x,cPt ps with
   | some y,some ys=>some ((i,y)::ys)
   | _,_=>none
def aei (i:TypeInfo):Option V:=i.zero.bind ofV
def VB (P:Program):Op->Option O
 | .move x=>(cX x).map .mv
 | .assign x=>(cX x).map .mv
 | .pick c a b=>match cX c,cX a,cX b with
   | some c,some a,some b=>some (.pick c a b)
   | _,_,_=>none
 | .alloc t=>match P.info? t with
   | some i=>match aei i with
     | some z=>some (.box i.size (.k z))
     | none=>none
   | none=>none
 | .box t x=>match P.info? t,cX x with
   | some i,some x=>some (.box i.size x)
   | _,_=>none
 | .build t ps=>match P.underlying t,P.info? t with
   | some (.struct fs),some i=>match aei i,aDn P fs with
     | some z,some pl=>(cPs pl ps.toList).map (.build z)
     | _,_=>none
   | _,_=>none
 | .buildSlice t n ps=>match Dd P t with
   | some i=>match aei i,cPt ps.toList with
     | some z,some ps=>some (.bslice i.size z n ps)
     | _,_=>none
   | none=>none
 | .load t x=>match aD0 P t,cX x with
   | some (b,n),some x=>some (.ld b n x)
   | _,_=>none
 | .store t a x=>match P.info? t,cX a,cX x with
   | some i,some a,some x=>some (.st i.size a x)
   | _,_,_=>none
 | .binOp op t x y _=>match eqK P op t,cX x,cX y with
   | some k,some x,some y=>some (.bin op k x y)
   | _,_,_=>none
 | .unOp op _ x=>(cX x).map (.un op)
 | .convert s d x=>match cck P s d,cX x with
   | some c,some x=>some (.conv c x)
   | _,_=>none
 | .makeFunc (.func f) first cs=>if first.size=0 then (cXs cs.toList).map (.clo f) else none
 | .makeSlice t l c=>match Dd P t,cX l,cX c with
   | some i,some l,some c=>match aei i with
     | some z=>some (.mks i.size z i.bytes l c)
     | none=>none
   | _,_,_=>none
 | .slice t x lo hi none=>match P.underlying t,cX x,cXo lo,cXo hi with
   | some .string,some x,some lo,some hi=>some (.slc none x lo hi)
   | some (.slice e),some x,some lo,some hi=>match P.info? e with
     | some i=>some (.slc (some i.size) x lo hi)
     | none=>none
   | _,_,_,_=>none
 | .nilCheck x=>(cX x).map (.faddr 0)
 | .fieldAddr t x f=>match P.underlying t,cX x with
   | some (.struct fs),some x=>match fs[f]? with
     | some f=>match P.info? f.type with
       | some i=>if i.size≠0 then some (.faddr f.offset x) else none
       | none=>none
     | none=>none
   | _,_=>none
 | .field t x f=>match P.underlying t,cX x with
   | some (.struct fs),some x=>match fs[f]? with
     | some f=>match aD0 P f.type with
       | some (b,n)=>some (.fld b f.offset n x)
       | none=>none
     | none=>none
   | _,_=>none
 | .indexAddr t x i=>match Dd P t,cX x,cX i with
   | some e,some x,some i=>some (.iaddr e.size x i)
   | _,_,_=>none
 | .index t x i=>match P.underlying t,cX x,cX i with
   | some .string,some x,some i=>some (.idx x i)
   | _,_,_=>none
 | .extract x i=>(cX x).map (.ext · i)
 | .call c=>match c.callee with
   | .builtin .len=>match c.args.toList,c.argTypes.toList with
     | [x],[t]=>match P.underlying t,cX x with
       | some .string,some x=>some (.len true x)
       | some (.slice _),some x=>some (.len false x)
       | _,_=>none
     | _,_=>none
   | .builtin .append=>match c.args.toList,c.argTypes.toList with
     | [x,y],[t,u]=>match Dd P t,cX x,cX y with
       | some i,some x,some y=>if u=t/\i.size≠0/\(i.zero.map (·.cells.size))=some i.size then some (.app i.size i.bytes x y) else none
       | _,_,_=>none
     | _,_=>none
   | .builtin .min=>(cXs c.args.toList).map (.mm false)
   | .builtin .max=>(cXs c.args.toList).map (.mm true)
   | .value (.func f)=>(cXs c.args.toList).map (.call f)
   | .value (.tmp t)=>(cXs c.args.toList).map (.callv (.t t))
   | _=>none
 | _=>none
structure Dl where
 v:V
 new:Option Blk:=none
 del:Option Nat:=none
 wr:Option (Nat×Blk):=none
def hpW (h:Nat->Option Blk):Option (Nat×Blk)->Nat->Option Blk
 | some (i,b)=>oY h i (some b)
 | none=>h
def hpD (h:Nat->Option Blk):Option Nat->Nat->Option Blk
 | some i=>oY h i none
 | none=>h
def hpN (h:Nat->Option Blk):Option Blk->Option Nat->Nat->Option Blk
 | some b,some d=>oY h d (some b)
 | _,_=>h
def Dl.hp (δ:Dl) (d:Option Nat) (h:Nat->Option Blk):Nat->Option Blk:=hpN (hpD (hpW h δ.wr) δ.del) δ.new d
def Dl.app (δ:Dl) (d:Option Nat) (s:St):St :=
 { sl:=match d with | some d=>oY s.sl d δ.v | none=>s.sl,hp:=δ.hp d s.hp }
def ep (v:V):Option (Prop×Dl):=some (True,{ v:=v })
def lH (p:Prop) (v:V):Option (Prop×Dl):=some (p,{ v:=v })
def aKr:Option Bool->Option Bool->Option Bool
 | some a,some b=>some (a&&b)
 | _,_=>none
def aR2:EK->V->V->Option Bool
 | .int,.v (.int k a),.v (.int k' b)=>if k=k' then some (a==b) else none
 | .bool,.v (.bool a),.v (.bool b)=>some (a==b)
 | .str,.v (.string a),.v (.string b)=>some (a.toList==b.toList)
 | _,_,_=>none
def veq:List EK->List V->List V->Option Bool
 | [],[],[]=>some true
 | k::ks,u::us,v::vs=>aKr (aR2 k u v) (veq ks us vs)
 | _,_,_=>none
def eqB (op:BinOp) (p:Prop):Option Bool->Option (Prop×Dl)
 | some r=>match op with
   | .eql=>lH p (.v (.bool r))
   | .neq=>lH p (.v (.bool (!r)))
   | _=>none
 | none=>none
def EqK.veq:EqK->List V->List V->Option Bool
 | .struct ks,us,vs=>Abs.veq ks us vs
 | _,_,_=>Option.none
def EqK.nil?:EqK->Bool->Option Bool
 | .nil,b=>some b
 | _,_=>Option.none
def aHw (op:BinOp) (k:EqK):V->V->Option (Prop×Dl)
 | .v (.int i a),.v (.int j b) =>
   match op with
   | .shl=>lH (0<=b) (.v (.int i (i.wrap (a * 2 ^ (min b.toNat i.bits)))))
   | .shr=>lH (0<=b) (.v (.int i (a.fdiv (2 ^ (min b.toNat i.bits)))))
   | _=>if i=j then
     match op with
     | .add=>ep (.v (.int i (i.wrap (a+b))))
     | .sub=>ep (.v (.int i (i.wrap (a - b))))
     | .mul=>ep (.v (.int i (i.wrap (a * b))))
     | .quo=>lH (b≠0) (.v (.int i (i.wrap (a.tdiv b))))
     | .rem=>lH (b≠0) (.v (.int i (a.tmod b)))
     | .and=>ep (.v (.int i (i.wrap ((BitVec.ofInt i.bits a &&& BitVec.ofInt i.bits b).toNat))))
     | .or=>ep (.v (.int i (i.wrap ((BitVec.ofInt i.bits a ||| BitVec.ofInt i.bits b).toNat))))
     | .xor=>ep (.v (.int i (i.wrap ((BitVec.ofInt i.bits a ^^^ BitVec.ofInt i.bits b).toNat))))
     | .eql=>ep (.v (.bool (a==b)))
     | .neq=>ep (.v (.bool (a != b)))
     | .lss=>ep (.v (.bool (decide (a < b))))
     | .leq=>ep (.v (.bool (decide (a<=b))))
     | .gtr=>ep (.v (.bool (decide (a > b))))
     | .geq=>ep (.v (.bool (decide (a>=b))))
     | _=>none
     else none
 | .v (.bool a),.v (.bool b) =>
   if k=.bool then
    match op with
    | .eql=>ep (.v (.bool (a==b)))
    | .neq=>ep (.v (.bool (!(a==b))))
    | _=>none
   else none
 | .v (.string a),.v (.string b) =>
   match op with
   | .add=>lH (a.size+b.size<=9223372036854775807) (.v (.string (a++b)))
   | .eql=>ep (.v (.bool (a.toList==b.toList)))
   | .neq=>ep (.v (.bool (!(a.toList==b.toList))))
   | .lss=>ep (.v (.bool (Op.bytesLess a.toList b.toList)))
   | .leq=>ep (.v (.bool (Op.bytesLess a.toList b.toList||a.toList==b.toList)))
   | .gtr=>ep (.v (.bool (!(Op.bytesLess a.toList b.toList||a.toList==b.toList))))
   | .geq=>ep (.v (.bool (!(Op.bytesLess a.toList b.toList))))
   | _=>none
 | .agg us,.agg vs=>eqB op True (k.veq us vs)
 | .v (.slice a _ _),.v (.slice none _ _)=>eqB op True (k.nil? a.isNone)
 | .ro _ es,.v (.slice none _ _)=>eqB op (es.isEmpty=false) (k.nil? false)
 | .sl _ _ n,.v (.slice none _ _)=>eqB op (n≠0) (k.nil? false)
 | _,_=>none
def vun (op:UnOp):V->Option (Prop×Dl)
 | .v (.int i a)=>match op with
   | .neg=>ep (.v (.int i (i.wrap (0 - a))))
   | _=>none
 | .v (.bool a)=>match op with
   | .not=>ep (.v (.bool (!a)))
   | _=>none
 | _=>none
def kA:V->Bool
 | .agg _=>true
 | _=>false
def aK1 (agg:Bool) (n s j:Nat) (e:V):Option V :=
 if agg=true/\j=0/\n=s then
  if kA e then some e else none
 else match fR e with
  | none=>none
  | some cs =>
    if agg then if j+n<=cs.length then some (.agg ((cs.drop j).take n)) else none
    else if n=1 then cs[j]? else none
def vld (agg:Bool) (n:Nat) (look:Nat->Option Blk):V->Option (Prop×Dl)
 | .ref id i j=>match look id with
   | some b=>match b.es[i]? with
     | some e=>if g9 e then match aK1 agg n b.s j e with
       | some v=>ep v
       | none=>none else none
     | none=>none
   | none=>none
 | .rp s es i j=>match es[i]? with
   | some e=>match aK1 agg n s j e with
     | some v=>ep v
     | none=>none
   | none=>none
 | _=>none
def aQr (n s j:Nat) (e v:V):Option V :=
 if n=s/\j=0/\kA e=kA v then some v
 else match fR e,fR v with
  | some cs,some vs=>if kA e/\vs.length=n/\j+n<=cs.length then some (.agg (cs.take j++vs++cs.drop (j+n))) else none
  | _,_=>none
def zA:V->Bool
 | .agg _=>false
 | .undef=>false
 | .tup _=>false
 | _=>true
def atB:List V->Bool
 | []=>true
 | c::cs=>zA c&&atB cs
def azG (v:V):Bool:=match fR v with
 | some vs=>atB vs
 | none=>false
def ag7 (v:V):Option Nat:=(fR v).map (·.length)
def vst (n:Nat) (look:Nat->Option Blk) (v:V):V->Option (Prop×Dl)
 | .ref id i j=>match look id with
   | some b=>match b.es[i]? with
     | some e=>if g9 e/\g9 v/\ag7 v=some n/\azG v/\n≠0 then match aQr n b.s j e v with
       | some e'=>some (True,{ v:=.undef,wr:=some (id,⟨b.s,b.es.set i e'⟩) })
       | none=>none else none
     | none=>none
   | none=>none
 | _=>none
def Vw (s:Nat) (look:Nat->Option Blk):V->V->Option (Prop×Dl)
 | .sl id i n,.v (.int _ k)=>match look id with
   | some b=>if b.s=s then lH (0<=k/\k < n) (.ref id (i+k.toNat) 0) else none
   | none=>none
 | .ro s' es,.v (.int _ k)=>if s'=s then lH (0<=k/\k < es.length) (.rp s es k.toNat 0) else none
 | _,_=>none
def aJ8:V->V->Option (Prop×Dl)
 | .v (.string b),.v (.int _ k)=>lH (0<=k/\k < b.size) (.v (.int .u8 (b[k.toNat]?.getD 0).toNat))
 | _,_=>none
def aKa:V->Option (Prop×Dl)
 | .v (.string b)=>ep (.v (.int .i64 b.size))
 | _=>none
def aJ9:V->Option (Prop×Dl)
 | .v (.slice _ n _)=>ep (.v (.int .i64 n))
 | .sl _ _ n=>ep (.v (.int .i64 n))
 | .ro _ es=>ep (.v (.int .i64 es.length))
 | _=>none
def Vr (s:Nat) (look:Nat->Option Blk):V->Option (List V)
 | .sl id i n=>match look id with
   | some b=>if b.s=s/\cO b.es/\i+n<=b.es.length then some ((b.es.drop i).take n) else none
   | none=>none
 | .ro s' es=>if s'=s then some es else none
 | .v (.slice _ 0 _)=>some []
 | _=>none
def bR:Nat:=4294967296
def aBu (s bytes:Nat) (look:Nat->Option Blk) (d:Nat) (y:V):V->Option (Prop×Dl)
 | .v (.slice none 0 0)=>match Vr s look y with
   | some ds=>if cO ds/\bytes<=32768 then some (ds.length<=bR,{ v:=.sl d 0 ds.length,new:=some ⟨s,ds⟩ }) else none
   | none=>none
 | .sl id i n=>match look id with
   | some b=>match Vr s look y with
     | some ds=>if b.s=s/\cO ds/\i=0/\bytes<=32768 then
       some (n<=b.es.length/\(cO b.es=true\/n=b.es.length)/\n+ds.length<=bR,{ v:=.sl d 0 (n+ds.length),del:=some id,new:=some ⟨s,b.es.take n++ds⟩ })
       else none
     | none=>none
   | none=>none
 | _=>none
def aMC (b:ByteArray) (lo hi:Option V):Option (Prop×Dl) :=
 match lo,hi with
 | none,none=>ep (.v (.string (b.extract 0 b.size)))
 | some (.v (.int _ l)),none=>lH (0<=l/\l<=b.size) (.v (.string (b.extract l.toNat b.size)))
 | none,some (.v (.int _ h))=>lH (0<=h/\h<=b.size) (.v (.string (b.extract 0 h.toNat)))
 | some (.v (.int _ l)),some (.v (.int _ h))=>lH (0<=l/\l<=h/\h<=b.size) (.v (.string (b.extract l.toNat h.toNat)))
 | _,_=>none
def aDb (n:Nat) (lo hi:Option V):Option (Prop×Nat×Nat) :=
 match lo,hi with
 | none,none=>some (True,0,n)
 | some (.v (.int _ l)),none=>some (0<=l/\l<=n,l.toNat,n)
 | none,some (.v (.int _ h))=>some (0<=h/\h<=n,0,h.toNat)
 | some (.v (.int _ l)),some (.v (.int _ h))=>some (0<=l/\l<=h/\h<=n,l.toNat,h.toNat)
 | _,_=>none
def aKe (x:V) (lo hi:Option V):Option (Prop×Dl) :=
 match x with
 | .v (.string b)=>aMC b lo hi
 | _=>none
def aAM (s:Nat) (look:Nat->Option Blk) (x:V) (lo hi:Option V):Option (Prop×Dl) :=
 match x with
 | .ro s' es=>match aDb es.length lo hi with
   | some (p,l,h)=>if s'=s then lH p (.ro s ((es.drop l).take (h - l))) else none
   | none=>none
 | .sl id i n=>match look id,aDb n lo hi with
   | some b,some (p,l,h)=>if b.s=s then lH p (.sl id (i+l) (h - l)) else none
   | _,_=>none
 | _=>none
def aJ7 (agg:Bool) (off n:Nat):V->Option (Prop×Dl)
 | .agg cs=>if agg then if off+n<=cs.length then ep (.agg ((cs.drop off).take n)) else none
   else if n=1 then match cs[off]? with | some v=>ep v | none=>none else none
 | _=>none
def aHy (s bytes:Nat) (z:V) (d:Nat):V->V->Option (Prop×Dl)
 | .v (.int .i64 l),.v (.int .i64 c) =>
   if l=c/\ag7 z=some s/\bytes<=32768/\g9 z/\s≠0 then some (0<=l/\l<=bR,{ v:=.sl d 0 l.toNat,new:=some ⟨s,List.replicate l.toNat z⟩ }) else none
 | _,_=>none
def axr (ev:X->V):List V->List (Nat×Nat×X)->Option (List V)
 | cs,[]=>some cs
 | cs,(off,n,x)::ps=>match fR (ev x) with
   | some vs=>if vs.length=n/\off+n<=cs.length/\cO vs then axr ev (cs.take off++vs++cs.drop (off+n)) ps else none
   | none=>none
def aef (ev:X->V) (z:V) (ps:List (Nat×Nat×X)):Option (Prop×Dl) :=
 match z with
 | .agg cs=>match axr ev cs ps with
   | some cs=>ep (.agg cs)
   | none=>none
 | _=>none
def ag6 (ev:X->V) (s:Nat):List V->List (Nat×X)->Option (List V)
 | es,[]=>some es
 | es,(i,x)::ps=>if i < es.length/\ag7 (ev x)=some s/\g9 (ev x)/\azG (ev x) then ag6 ev s (es.set i (ev x)) ps else none
def NF (ev:X->V) (s:Nat) (z:V) (n d:Nat) (ps:List (Nat×X)):Option (Prop×Dl) :=
 if ag7 z=some s/\s≠0/\n * s<=16777216/\g9 z then
  match ag6 ev s (List.replicate n z) ps with
  | some es=>some (True,{ v:=.sl d 0 n,new:=some ⟨s,es⟩ })
  | none=>none
 else none
def aFU (max:Bool) (k:IntKind):Int->List V->Option Int
 | a,[]=>some a
 | a,.v (.int _ b)::rest=>aFU max k (if max then (if b > a then b else a) else (if b < a then b else a)) rest
 | _,_=>none
def vmm (max:Bool):List V->Option (Prop×Dl)
 | .v (.int k a)::rest=>match aFU max k a rest with
   | some r=>ep (.v (.int k r))
   | none=>none
 | _=>none
def Nr:List V->Option (List UInt8)
 | []=>some []
 | .v (.int .u8 n)::l=>(Nr l).map (UInt8.ofNat n.toNat::·)
 | _=>none
def aHq (b:ByteArray):List V:=b.data.toList.map fun x=>.v (.int .u8 x.toNat)
def axB (c:CK) (look:Nat->Option Blk) (d:Nat):V->Option (Prop×Dl)
 | .v (.int _ a)=>match c with
   | .int k=>ep (.v (.int k (k.wrap a)))
   | .intStr=>lH ((Utf8.encode a).size<=9223372036854775807) (.v (.string (Utf8.encode a)))
   | _=>none
 | .v (.string b)=>match c with
   | .strStr=>ep (.v (.string b))
   | .strBytes=>if b.size=0 then ep (.ro 1 []) else some (True,{ v:=.sl d 0 b.size,new:=some ⟨1,aHq b⟩ })
   | _=>none
 | x=>match c with
   | .bytesStr=>match Vr 1 look x with
     | some ds=>match Nr ds with
       | some l=>lH (l.length<=9223372036854775807) (.v (.string (bs l)))
       | none=>none
     | none=>none
   | _=>none
def eff (ev:X->V) (look:Nat->Option Blk) (d:Nat):O->Option (Prop×Dl)
 | .mv x=>ep (ev x)
 | .pick c a b=>match ev c with
   | .v (.bool t)=>ep (bif t then ev a else ev b)
   | _=>none
 | .box n x=>if ag7 (ev x)=some n/\g9 (ev x)/\azG (ev x) then some (True,{ v:=.ref d 0 0,new:=some ⟨n,[ev x]⟩ }) else none
 | .build z ps=>aef ev z ps
 | .bslice s z n ps=>NF ev s z n d ps
 | .ld agg n x=>vld agg n look (ev x)
 | .st n a x=>vst n look (ev x) (ev a)
 | .bin op k x y=>aHw op k (ev x) (ev y)
 | .un op x=>vun op (ev x)
 | .conv c x=>axB c look d (ev x)
 | .clo f cs=>ep (.clo f (cs.map ev))
 | .mks s z bytes l c=>aHy s bytes z d (ev l) (ev c)
 | .slc none x lo hi=>aKe (ev x) (lo.map ev) (hi.map ev)
 | .slc (some s) x lo hi=>aAM s look (ev x) (lo.map ev) (hi.map ev)
 | .faddr off x=>match ev x with
   | .ref id i j=>ep (.ref id i (j+off))
   | .rp s es i j=>ep (.rp s es i (j+off))
   | _=>none
 | .fld agg off n x=>aJ7 agg off n (ev x)
 | .iaddr s x i=>Vw s look (ev x) (ev i)
 | .idx x i=>aJ8 (ev x) (ev i)
 | .ext x i=>match ev x with
   | .tup vs=>match vs[i]? with
     | some v=>ep v
     | none=>none
   | _=>none
 | .len b x=>if b then aKa (ev x) else aJ9 (ev x)
 | .app s bytes x y=>aBu s bytes look d (ev y) (ev x)
 | .mm max xs=>vmm max (xs.map ev)
 | .call _ _=>none
 | .callv _ _=>none
end Go.Abs
namespace Go.Abs
variable [GI]
def St.ev (s:St):X->V
 | .t n=>s.sl n
 | .k v=>v
def Ee (P:Program) (o:Oper) (X:Ctx) (a:Act) (w:World) (s':St):Prop :=
 ∃ nx x w',(execOp a.eval o).run P w=.ok nx w'/\(nx=.value x\/(nx=.skip/\x=undef))/\Rel X s' (a.put o.dst x) w'
section
variable {P : Program} {X : Ctx} {s : St} {a : Act} {w : World} {D : Nat → Prop} {φ : Nat → Option Pl} {F : Nat → List Nat} {o : Oper}
omit [GI] in
theorem axG:∀ (xs:List Value),(∀ x ∈ xs,one x=true)->iU w D (xs.map .v) φ xs []
 | [],_=>Je
 | x::xs,h=>by
   simp only[List.map_cons,iU];exact⟨x,xs,[],[],rfl,rfl,by simp[CV,h x (by simp)],axG xs fun y hy=>h y (by simp[hy])⟩
omit [GI] in
theorem aDg {x:Value} {v:V} (h:ofV x=some v):CV w D v φ x []:=by
 unfold ofV at h;split at h
 ·rename_i cs;split at h
  ·rename_i hc;simp only[Option.some.injEq] at h;subst h;simp only[CV];exact⟨cs,rfl,axG _ fun x hx=>by simpa using (Array.all_eq_true'.1 hc) x (by simpa using hx)⟩
  ·cases h
 ·split at h
  ·rename_i cs hc;simp only[Option.some.injEq] at h;subst h;have:cs=#[]:=by simpa using hc
   subst this;simp only[CV];exact⟨#[],rfl,Je⟩
  ·cases h
 ·split at h
  ·rename_i h1;simp only[Option.some.injEq] at h;subst h;simp only[CV];exact⟨trivial,h1,trivial⟩
  ·cases h
omit [GI] in
theorem azU:∀ (xs:List Value),bN (xs.map .v)=true
 | []=>rfl
 | x::xs=>by simp[bN,gV,azU xs]
omit [GI] in
theorem am6 {x:Value} {v:V} (h:ofV x=some v):gV v=true:=by
 unfold ofV at h;split at h
 ·split at h
  ·simp only[Option.some.injEq] at h;subst h;simp[gV,azU]
  ·cases h
 ·split at h
  ·simp only[Option.some.injEq] at h;subst h;rfl
  ·cases h
 ·split at h
  ·simp only[Option.some.injEq] at h;subst h;rfl
  ·cases h
theorem ri {y:Operand} {x:Abs.X} (hc:cX y=some x) (h:RelD X s a w D φ F []):CV w D (s.ev x) φ (a.eval y) []:=by
 cases y with
 | tmp t =>
   simp only[cX,Option.some.injEq] at hc;subst hc;exact h.slots t
 | const v =>
   simp only[cX,Option.map_eq_some_iff] at hc;obtain ⟨u,hu,rfl⟩:=hc;exact aDg hu
 | func f =>
   simp only[cX,Option.some.injEq] at hc;subst hc;exact(by simp only[St.ev,CV];exact⟨#[],rfl,Je⟩)
 | global g=>simp[cX] at hc
omit [GI] in
theorem aHQ {y:Operand} {x:Abs.X} {d:Nat} (hc:cX y=some x) (h:Fresh s d):gj d (s.ev x)=false:=by
 cases y with
 | tmp t =>
   simp only[cX,Option.some.injEq] at hc;subst hc;exact h.sl t
 | const v =>
   simp only[cX,Option.map_eq_some_iff] at hc;obtain ⟨u,hu,rfl⟩:=hc;exact Ag _ _ (am6 hu)
 | func f =>
   simp only[cX,Option.some.injEq] at hc;subst hc;simp[St.ev,gj,da]
 | global g=>simp[cX] at hc
theorem fA (h:RelD X s a w D φ F []) (hd:∀ d,o.dst=some d->d < X.n) {v:V} {x:Value} (hr:(execOp a.eval o).run P w=.ok (.value x) w) (hv:CV w D v φ x []) :
  Ee P o X a w (({ v:=v }:Dl).app o.dst s):=by
 refine⟨_,x,w,hr,.inl rfl,D,φ,F,?_⟩;cases hdst:o.dst with
 | none=>exact h
 | some d=>exact h.put d (hd d hdst) v x hv
omit [GI] in
theorem C3 {w w':World} {ob:Obj} (hh:w'.heap=w.heap.push ob) {b:Nat} (hb:b < w.heap.size):w'.heap[b]?=w.heap[b]?:=by
 rw[hh,Array.getElem?_push];simp[Nat.ne_of_lt hb]
omit [GI] in
theorem Y8 {w w':World} {ob:Obj} (hh:w'.heap=w.heap.push ob):w'.heap[w.heap.size]?=some ob:=by
 rw[hh,Array.getElem?_push];simp
theorem RelD.new {G:List Nat} (h:RelD X s a w D φ F G) (d:Nat) (hf:Fresh s d) (hp:d ∉ X.pin) (w':World) (hos:w'.os=w.os) (htape:w'.tape=w.tape) (hout:w'.output=w.output)
  (arr:Array Value) (ty:TypeId) (hh:w'.heap=w.heap.push (.cells arr ty (0,0))) (blk:Blk) (hm:da d blk.es=false) (hc:CR w D blk.s blk.es φ arr.toList []) :
  RelD X { s with hp:=oY s.hp d (some blk) } a w' D (oY φ d (some ⟨w.heap.size,0,blk.s,arr.size⟩)) (oY F d [w.heap.size]) G:=by
 have hsz:w'.heap.size=w.heap.size+1:=by rw[hh];simp
 have h1:=(h.grow w' D [w.heap.size] hos htape hout (by omega) (fun b hb=>C3 hh hb) (fun _ hb=>hb) (fun b hb=>⟨.inl hb,by have:=h.Dlt b hb;omega⟩) (by simp)
  (fun b hb=>by simp at hb;subst hb;exact⟨Nat.le_refl _,by omega,fun hd=>Nat.lt_irrefl _ (h.Dlt _ hd)⟩)).gperm List.perm_append_comm
 refine h1.settle d hf hp (some ⟨w.heap.size,0,blk.s,arr.size⟩) blk (.inr ⟨⟨w.heap.size,0,blk.s,arr.size⟩,arr,ty,[],by simp,rfl,rfl,Tc.of (Y8 hh),rfl,?_⟩);simp only[List.drop_zero];exact lv (fun _ hb=>hb) _ _ _ _ _ _ (fun b hb=>C3 hh (hb.elim (h.Dlt b) (by simp))) (fun id hi=>gZ _ _ (IA hm hi)) hc
theorem RelD.newM {G:List Nat} (h:RelD X s a w D φ F G) (d:Nat) (hf:Fresh s d) (hp:d ∉ X.pin) (w':World) (hos:w'.os=w.os) (htape:w'.tape=w.tape) (hout:w'.output=w.output)
  (arr:Array Value) (ty:TypeId) {fr:Nat×Nat} (hok:ar5 arr fr) (hh:w'.heap=w.heap.push (.cells arr ty fr)) (blk:Blk) (hm:da d blk.es=false) (hc:CR w D blk.s blk.es φ arr.toList []) :
  RelD X { s with hp:=oY s.hp d (some blk) } a w' D (oY φ d (some ⟨w.heap.size,0,blk.s,arr.size⟩)) (oY F d [w.heap.size]) G:=by
 have hsz:w'.heap.size=w.heap.size+1:=by rw[hh];simp
 have h1:=(h.grow w' D [w.heap.size] hos htape hout (by omega) (fun b hb=>C3 hh hb) (fun _ hb=>hb) (fun b hb=>⟨.inl hb,by have:=h.Dlt b hb;omega⟩) (by simp)
  (fun b hb=>by simp at hb;subst hb;exact⟨Nat.le_refl _,by omega,fun hd=>Nat.lt_irrefl _ (h.Dlt _ hd)⟩)).gperm List.perm_append_comm
 refine h1.settle d hf hp (some ⟨w.heap.size,0,blk.s,arr.size⟩) blk (.inr ⟨⟨w.heap.size,0,blk.s,arr.size⟩,arr,ty,[],by simp,rfl,rfl,⟨fr,hok,Y8 hh⟩,rfl,?_⟩);simp only[List.drop_zero];exact lv (fun _ hb=>hb) _ _ _ _ _ _ (fun b hb=>C3 hh (hb.elim (h.Dlt b) (by simp))) (fun id hi=>gZ _ _ (IA hm hi)) hc
theorem RelD.newF {f0 G:List Nat} (h:RelD X s a w D φ F (f0++G)) (d:Nat) (hf:Fresh s d) (hp:d ∉ X.pin) (w':World) (hos:w'.os=w.os) (htape:w'.tape=w.tape) (hout:w'.output=w.output)
  (arr:Array Value) (ty:TypeId) (hh:w'.heap=w.heap.push (.cells arr ty (0,0))) (blk:Blk) (hm:da d blk.es=false) (hc:CR w D blk.s blk.es φ arr.toList f0) :
  RelD X { s with hp:=oY s.hp d (some blk) } a w' D (oY φ d (some ⟨w.heap.size,0,blk.s,arr.size⟩)) (oY F d (w.heap.size::f0)) G:=by
 have hsz:w'.heap.size=w.heap.size+1:=by rw[hh];simp
 have h1:=(h.grow w' D [w.heap.size] hos htape hout (by omega) (fun b hb=>C3 hh hb) (fun _ hb=>hb) (fun b hb=>⟨.inl hb,by have:=h.Dlt b hb;omega⟩) (by simp)
  (fun b hb=>by simp at hb;subst hb;exact⟨Nat.le_refl _,by omega,fun hd=>Nat.lt_irrefl _ (h.Dlt _ hd)⟩)).gperm List.perm_append_comm
 have h2:RelD X s a w' D φ F ((w.heap.size::f0)++G):=h1;refine h2.settle d hf hp (some ⟨w.heap.size,0,blk.s,arr.size⟩) blk (.inr ⟨⟨w.heap.size,0,blk.s,arr.size⟩,arr,ty,f0,by simp,rfl,rfl,Tc.of (Y8 hh),rfl,?_⟩);simp only[List.drop_zero];exact lv (fun _ hb=>hb) _ _ _ _ _ _ (fun b hb=>C3 hh (hb.elim (h.Dlt b) (fun hb=>(h.gnotD b (List.mem_append_left _ hb)).2.1))) (fun id hi=>gZ _ _ (IA hm hi)) hc
theorem amk (h:RelD X s a w D φ F []) {d:Nat} (hdst:o.dst=some d) (hd:d < X.n) (hf:Fresh s d) (hp:d ∉ X.pin) {v:V} {x:Value} {w':World} (hr:(execOp a.eval o).run P w=.ok (.value x) w')
  (hos:w'.os=w.os) (htape:w'.tape=w.tape) (hout:w'.output=w.output)
  (arr:Array Value) (ty:TypeId) (hh:w'.heap=w.heap.push (.cells arr ty (0,0))) (blk:Blk) (hm:da d blk.es=false) (hc:CR w D blk.s blk.es φ arr.toList [])
  (hv:CV w' D v (oY φ d (some ⟨w.heap.size,0,blk.s,arr.size⟩)) x []) :
  Ee P o X a w (({ v:=v,new:=some blk }:Dl).app o.dst s):=by
 have h1:=(h.new d hf hp w' hos htape hout arr ty hh blk hm hc).put d hd v x hv;have h2:Rel X (({ v:=v,new:=some blk }:Dl).app (some d) s) (a.put (some d) x) w':=⟨D,_,_,h1⟩;rw[<- hdst] at h2;exact⟨_,x,w',hr,.inl rfl,h2⟩
theorem aLq (h:RelD X s a w D φ F []) {id:Nat} {blk:Blk} (hb:s.hp id=some blk) {pl:Pl} (hpl:φ id=some pl) {arr arr':Array Value} {ty:TypeId} {fr:Nat×Nat} (hok:ar5 arr fr)
  (hw:w.heap[pl.b]?=some (.cells arr ty fr)) (hl:arr'.size=arr.size) {w':World} (hr:(execOp a.eval o).run P w=.ok .skip w') (hdst:o.dst=none)
  (hw':w'.heap=w.heap.setIfInBounds pl.b (.cells arr' ty fr)) (hos:w'.os=w.os) (htape:w'.tape=w.tape) (hout:w'.output=w.output)
  (es':List V) (hes:∀ f' ,F id=pl.b::f'->CR w D blk.s blk.es φ (arr.toList.drop pl.o) f'->CR w D blk.s es' φ (arr'.toList.drop pl.o) f') :
  Ee P o X a w (({ v:=.undef,wr:=some (id,⟨blk.s,es'⟩) }:Dl).app o.dst s):=by
 have h1:=h.write id blk hb pl hpl arr arr' ty hok hw hl w' hw' hos htape hout es' hes;refine⟨_,undef,w',hr,.inr ⟨rfl,rfl⟩,D,φ,F,?_⟩;rw[hdst];exact h1
omit [GI] in
theorem aF7 {b o s i j:Nat} {arr:Array Value} {x:Value} (hb:ahu w b=some arr) (hx:∀ j,j < s->(arr.toList.drop o)[i * s+j]?=x.cells[j]?) (hj:j < s) :
  w.cell? ⟨b,o+(i * s+j),none⟩=x.cells[j]?:=by
 rw[Fo hb,<- hx j hj,List.getElem?_drop];simp
omit [GI] in
theorem aHv {t:TypeId} {b:Bool} {n:Nat} (h:aD0 P t=some (b,n)):∃ d i,P.underlying t=some d/\P.info? t=some i/\ahq d=b/\i.size=n:=by
 unfold aD0 at h;split at h
 ·rename_i d i h1 h2;simp only[Option.some.injEq,Prod.mk.injEq] at h;exact⟨d,i,h1,h2,h.1,h.2⟩
 ·cases h
omit [GI] in
theorem S7 {t:TypeId} {d:TypeDesc} (h:P.underlying t=some d):(isAgg t).run P w=.ok (ahq d) w:=by
 simp only[isAgg,Sem.run_bind,run_underlying h,Result.andThen_ok];cases d<;>simp[ahq]
omit [GI] in
theorem aDE {t:TypeId} {n:Nat} {ad:Addr} (ht:aD0 P t=some (true,n)) (cs:List Value) (hl:cs.length=n) (hc:∀ k v,cs[k]?=some v->w.cell? (ad.add k)=some v) :
  (loadVar t ad).run P w=.ok (.agg cs.toArray) w:=by
 obtain ⟨d,i,h1,h2,h3,rfl⟩:=aHv ht;simp only[loadVar,Sem.run_bind,S7 h1,Result.andThen_ok,h3,if_true,sizeOf,typeInfo,run_program,h2,Sem.run_pure];rw[<- hl,run_loadCells_list w ad cs hc];simp
omit [GI] in
theorem aLp {t:TypeId} {n:Nat} {ad:Addr} {v:Value} (ht:aD0 P t=some (false,n)) (hc:w.cell? ad=some v) :
  (loadVar t ad).run P w=.ok v w:=by
 obtain ⟨d,i,h1,h2,h3,rfl⟩:=aHv ht;simp only[loadVar,Sem.run_bind,S7 h1,Result.andThen_ok,h3];simp[hc]
omit [GI] in
theorem aNh {e:V} (h:kA e=true):∃ cs,e=.agg cs:=by
 cases e<;>simp[kA] at h;exact⟨_,rfl⟩
omit [GI] in
theorem aJG {t:TypeId} {agg:Bool} {n b o s i j:Nat} {arr:Array Value} {x:Value} {e v:V} (ht:aD0 P t=some (agg,n)) (hb:ahu w b=some arr)
  (hx:∀ j,j < s->(arr.toList.drop o)[i * s+j]?=x.cells[j]?) (hs:x.cells.size=s) (he:CV w D e φ x []) (hv:aK1 agg n s j e=some v) :
  ∃ y,(loadVar t ⟨b,o+(i * s+j),none⟩).run P w=.ok y w/\CV w D v φ y []:=by
 unfold aK1 at hv;split at hv
 ·rename_i hcond;obtain ⟨rfl,rfl,rfl⟩:=hcond;split at hv
  ·rename_i ha;simp only[Option.some.injEq] at hv;subst hv;obtain ⟨cs,rfl⟩:=aNh ha;have he':=he;simp only[CV] at he';obtain ⟨xs,rfl,h2⟩:=he';refine⟨.agg xs,?_,he⟩;rw[aDE ht xs.toList (by simpa [Value.cells] using hs) (fun k v hk=>?_)]
   rw[Addr.add_lit,Nat.add_assoc,Nat.add_assoc,Nat.zero_add,aF7 hb hx (j:=k) (by
    have:=(List.getElem?_eq_some_iff.1 hk).1;simpa [Value.cells,<- hs] using this)]
   simpa [Value.cells] using hk
  ·cases hv
 ·cases hcs:fR e with
  | none=>simp[hcs] at hv
  | some cs =>
    simp only[hcs] at hv;have hcv:=Z6 hcs he;have hlen:=lC hcv;simp only[Array.length_toList,hs] at hlen;cases agg with
    | true =>
      simp only[if_true] at hv;split at hv
      ·rename_i hjn;simp only[Option.some.injEq] at hv;subst hv;have hc2:=ahp n (ahn j hcv);refine⟨_,aDE ht ((x.cells.toList.drop j).take n) (by simp[hs];omega) (fun k v hk=>?_),?_⟩
       ·rw[List.getElem?_take] at hk;split at hk
        ·rename_i hkn;rw[Addr.add_lit,Nat.add_assoc,Nat.add_assoc,aF7 hb hx (j:=j+k) (by omega)];simpa using hk
        ·cases hk
       ·simp only[CV];exact⟨_,rfl,by simpa using hc2⟩
      ·cases hv
    | false =>
      simp only[Bool.false_eq_true,if_false] at hv;split at hv
      ·obtain ⟨y,f',h1,h2,h3⟩:=VH hcv hv;have:f'=[]:=List.eq_nil_iff_forall_not_mem.2 fun b hb=>by simpa using h3 b hb
       subst this
       have hj:j < s:=by
        have:=(List.getElem?_eq_some_iff.1 hv).1;omega
       refine⟨y,aLp ht ?_,h2⟩;rw[aF7 hb hx hj];simpa using h1
      ·cases hv
omit [GI] in
theorem aFz:∀ {es:List V} {i:Nat} {e:V},bN es=true->es[i]?=some e->gV e=true
 | [],i,e,_,h=>by simp at h
 | c::cs,0,e,hn,h=>by simp only[bN,Bool.and_eq_true] at hn;simp at h;exact h▸hn.1
 | c::cs,i+1,e,hn,h=>by simp only[bN,Bool.and_eq_true] at hn;exact aFz hn.2 (by simpa using h)
omit [GI] in
theorem xr {f:List Nat} (h:∀ b ∈ f,b ∈ ([]:List Nat)):f=[]:=List.eq_nil_iff_forall_not_mem.2 fun b hb=>by simpa using h b hb
theorem aOW (h:RelD X s a w D φ F []) {id:Nat} {blk:Blk} (hb:s.hp id=some blk) {i:Nat} {e:V} (he:blk.es[i]?=some e) :
  ∃ p arr ty f',φ id=some p/\p.s=blk.s/\p.z=arr.size/\Tc w p.b arr ty/\F id=p.b::f'/\CR w D blk.s blk.es φ (arr.toList.drop p.o) f':=by
 rcases h.blks id blk hb with ⟨_,h2,_⟩ | h1
 ·rw[h2] at he;simp at he
 ·exact h1
theorem aMy (h:RelD X s a w D φ F []) {t:TypeId} {agg:Bool} {n:Nat} (ht:aD0 P t=some (agg,n)) {u:V} {x:Value} (hcv:CV w D u φ x [])
  {p:Prop} {δ:Dl} (he:vld agg n s.hp u=some (p,δ)):∃ ad y,x=.pointer (some ad)/\(loadVar t ad).run P w=.ok y w/\δ={ v:=δ.v }/\CV w D δ.v φ y []:=by
 unfold vld at he;split at he
 ·rename_i id i j;simp only[CV] at hcv;obtain ⟨_,p0,hp0,hxp⟩:=hcv;cases hb:s.hp id with
  | none=>simp[hb] at he
  | some blk =>
    simp only[hb] at he;cases hes:blk.es[i]? with
    | none=>simp[hes] at he
    | some e =>
      simp only[hes] at he;split at he
      ·rename_i hno;cases hv:aK1 agg n blk.s j e with
       | none=>simp[hv] at he
       | some v =>
         simp only[hv,ep,Option.some.injEq,Prod.mk.injEq] at he;obtain ⟨_,rfl⟩:=he;obtain ⟨p1,arr,ty,f',g1,g2,g3,g4,g5,g6⟩:=aOW h hb hes;rw[hp0] at g1;cases g1;obtain ⟨z,fz,k1,k2,k3,k4⟩:=aFX g6 hes;have:fz=[]:=Gj _ _ _ _ hno k1;subst this;obtain ⟨r,r1,r2⟩:=aJG ht g4.blk k4 k3.1 k1 hv;rw[<- g2] at r1;exact⟨_,r,hxp,r1,rfl,r2⟩
      ·cases he
 ·rename_i s' es i j;simp only[CV] at hcv;obtain ⟨_,b,o',arr,hxp,hD,hbk,hcr,hni⟩:=hcv;cases hes:es[i]? with
  | none=>simp[hes] at he
  | some e =>
    simp only[hes] at he;cases hv:aK1 agg n s' j e with
    | none=>simp[hv] at he
    | some v =>
      simp only[hv,ep,Option.some.injEq,Prod.mk.injEq] at he;obtain ⟨_,rfl⟩:=he;obtain ⟨z,fz,k1,k2,k3,k4⟩:=aFX hcr hes;have:=xr k2;subst this;have hme:∀ id,gj id e=false:=fun id=>Ag id e (aFz hni hes);have k1':CV w D e φ z []:=pS (fun _ hb=>hb) _ _ _ _ _ (fun _ _=>rfl) (fun id hm=>by rw[hme id] at hm;cases hm) k1;obtain ⟨r,r1,r2⟩:=aJG ht hbk k4 k3.1 k1' hv;exact⟨_,r,hxp,r1,rfl,r2⟩
 ·cases he
theorem aVQ (h:RelD X s a w D φ F []) (hd:∀ d,o.dst=some d->d < X.n) {t:TypeId} {y:Operand} {x:Abs.X} {agg:Bool} {n:Nat} (hop:o.op=.load t y) (ht:aD0 P t=some (agg,n)) (hx:cX y=some x)
  {p:Prop} {δ:Dl} (he:vld agg n s.hp (s.ev x)=some (p,δ)):Ee P o X a w (δ.app o.dst s):=by
 obtain ⟨ad,r,h1,h2,h3,h4⟩:=aMy h ht (ri hx h) he;rw[h3];exact fA h hd (by simp[execOp,hop,Instr.loadAt,Instr.sureAddr,h1,h2]) h4
theorem aSy (h:RelD X s a w D φ F []) (hd:∀ d,o.dst=some d->d < X.n) {y:Operand} {x:Abs.X} (hop:o.op=.move y\/o.op=.assign y) (hx:cX y=some x) :
  Ee P o X a w (({ v:=s.ev x }:Dl).app o.dst s) :=
 fA h hd (x:=a.eval y) (by rcases hop with hop | hop<;>simp[execOp,hop]) (ri hx h)
omit [GI] in
theorem aQT {t:Bool} {x:Value} {f:List Nat} (h:CV w D (.v (.bool t)) φ x f):x=.bool t:=by simp only[CV] at h;exact h.1
omit [GI] in
theorem De {y x:Value} {f:List Nat} (h:CV w D (.v y) φ x f):x=y:=by simp only[CV] at h;exact h.1
omit [GI] in
theorem xZ {y:Value} (h:one y=true):CV w D (.v y) φ y []:=by simp[CV,h]
theorem aRH (h:RelD X s a w D φ F []) (hd:∀ d,o.dst=some d->d < X.n) {c y z:Operand} {xc xy xz:Abs.X} {t:Bool} (hop:o.op=.pick c y z) (hc:cX c=some xc) (hy:cX y=some xy) (hz:cX z=some xz)
  (ht:s.ev xc=.v (.bool t)):Ee P o X a w (({ v:=bif t then s.ev xy else s.ev xz }:Dl).app o.dst s):=by
 have hcv:=ri hc h;rw[ht] at hcv;have hb:=aQT hcv;refine fA h hd (x:=bif t then a.eval y else a.eval z) (by cases t<;>simp[execOp,hop,hb,asBool]) ?_;cases t
 ·exact ri hz h
 ·exact ri hy h
omit [GI] in
theorem amr {v:V} {n:Nat} {x:Value} {f:List Nat} (h:ag7 v=some n) (hc:CV w D v φ x f):x.cells.size=n:=by
 simp only[ag7,Option.map_eq_some_iff] at h;obtain ⟨cs,h1,h2⟩:=h;have:=lC (Z6 h1 hc);simpa [h2] using this
omit [GI] in
mutual
theorem aND:∀ (v:V) (φ:Nat->Option Pl) (x:Value) (f:List Nat),zA v=true->CV w D v φ x f->one x=true
 | .undef,_,_,_,h,_=>by simp[zA] at h
 | .agg _,_,_,_,h,_=>by simp[zA] at h
 | .tup _,_,_,_,h,_=>by simp[zA] at h
 | .v y,_,x,_,_,h=>by simp only[CV] at h;rw[h.1];exact h.2.1
 | .ref _ _ _,_,x,_,_,h=>by simp only[CV] at h;obtain ⟨_,p,_,rfl⟩:=h;rfl
 | .sl _ _ _,_,x,_,_,h=>by simp only[CV] at h;obtain ⟨_,⟨_,_,_,rfl⟩ | ⟨p,o,cap,_,rfl,_⟩⟩:=h<;>rfl
 | .rp _ _ _ _,_,x,_,_,h=>by simp only[CV] at h;obtain ⟨_,b,o,arr,rfl,_⟩:=h;rfl
 | .ro _ _,_,x,_,_,h=>by simp only[CV] at h;obtain ⟨_,⟨_,a,cap,rfl,_⟩ | ⟨b,o,cap,arr,rfl,_⟩⟩:=h<;>rfl
 | .own _ _,_,x,_,_,h=>by simp only[CV] at h;obtain ⟨_,rfl,_⟩ | ⟨b,o,cap,arr,ty,fp',rfl,_⟩:=h<;>rfl
 | .clo _ _,_,x,_,_,h=>by simp only[CV] at h;obtain ⟨xs,rfl,_⟩:=h;rfl
end
omit [GI] in
theorem aDj:∀ {cs:List V} {φ:Nat->Option Pl} {xs:List Value} {f:List Nat},atB cs=true->iU w D cs φ xs f->∀ x ∈ xs,one x=true
 | [],φ,xs,f,_,h=>by simp only[iU] at h;simp[h.1]
 | c::cs,φ,xs,f,hf,h=>by
   simp only[iU] at h;obtain ⟨x,xs',f1,f2,rfl,_,h1,h2⟩:=h;intro y hy;have hc:zA c=true/\atB cs=true:=by simpa [atB] using hf
   rcases List.mem_cons.1 hy with rfl | hy
   ·exact aND _ _ _ _ hc.1 h1
   ·exact aDj hc.2 h2 y hy
omit [GI] in
theorem Zo {v:V} {x:Value} {f:List Nat} (h:azG v=true) (hc:CV w D v φ x f):x.cells.toList.all one=true:=by
 unfold azG at h;split at h
 ·rename_i vs hvs;rw[List.all_eq_true];exact aDj h (Z6 hvs hc)
 ·cases h
omit [GI] in
theorem aSM {v:V} {x:Value} {n:Nat} (hc:CV w D v φ x []) (hs:x.cells.size=n/\x.cells.toList.all one=true):CR w D n [v] φ x.cells.toList []:=by
 simp only[CR];exact⟨x,[],[],[],by simp,hs,rfl,hc,rfl⟩
theorem aPP (h:RelD X s a w D φ F []) {t:TypeId} {y:Operand} {v:V} {n d:Nat} {x:Value} (hop:(o.op=.box t y/\a.eval y=x)\/(o.op=.alloc t/\∃ i,P.info? t=some i/\i.zero=some x))
  (hc:CV w D v φ x []) (hs:ag7 v=some n) (hfl:azG v=true) (hm:gj d v=false) (hdst:o.dst=some d) (hd:d < X.n) (hf:Fresh s d) (hp:d ∉ X.pin) :
  Ee P o X a w (({ v:=.ref d 0 0,new:=some ⟨n,[v]⟩ }:Dl).app o.dst s):=by
 have hsz:=amr hs hc;refine amk h hdst hd hf hp (x:=.pointer (some ⟨w.heap.size,0,none⟩)) (w':=w.alloc (.cells x.cells t)) ?_ rfl rfl rfl x.cells t rfl ⟨n,[v]⟩ (by simp[da,hm]) (aSM hc ⟨hsz,Zo hfl hc⟩) ?_
 ·rcases hop with ⟨hop,rfl⟩ | ⟨hop,i,hi,hz⟩
  ·simp[execOp,hop,Instr.box,newVar,newRow]
  ·simp[execOp,hop,Instr.alloc,zeroValue,typeInfo,hi,hz,newVar,newRow]
 ·simp only[CV,ju];exact⟨trivial,_,rfl,by simp⟩
omit [GI] in
theorem YP (g o:Nat) (t:TypeId) (fr:Nat×Nat):∀ (vs:List Value) (i:Nat) (cur:Array Value) (w:World),ar5 cur fr->w.heap[g]?=some (.cells cur t fr)->o+i+vs.length<=cur.size->(∀ v ∈ vs,v.oneCell'=true) ->
  (storeCells ⟨g,o,none⟩ vs i).run P w=.ok () (w.setRow g (cur.toList.take (o+i)++vs++cur.toList.drop (o+i+vs.length)).toArray)
 | [],i,cur,w,_,hg,_,_=>by
   simp only[storeCells,List.append_nil,List.length_nil,Nat.add_zero,List.take_append_drop,Array.toArray_toList];rw[setRow_self w g cur t fr hg];rfl
 | v::rest,i,cur,w,hok,hg,hl,h1=>by
   simp only[List.length_cons] at hl;have hi:o+i < cur.size:=by omega
   have hadd:(⟨g,o,none⟩:Addr).add i=⟨g,o+i,none⟩:=Addr.add_lit ..;have hcell:w.cell? ⟨g,o+i,none⟩=some cur[o+i]:=by simp[World.cell?,hg,hi]
   have hz:¬(fr.1<=o+i/\o+i < fr.2):=by
    rcases hok with rfl | ⟨_,h⟩
    ·simp
    ·omega
   have hfro:w.frozen? ⟨g,o+i,none⟩=false:=by
    unfold World.frozen?;rw[hg];simpa using hz
   have hst:(store ((⟨g,o,none⟩:Addr).add i) v).run P w=.ok () (w.setRow g (cur.setIfInBounds (o+i) v)):=by
    rw[hadd,run_store P w _ v _ (h1 v (by simp)),hcell];simp[hfro,setCell_eq_setRow w g (o+i) cur t fr v hg]
   have ih:=YP g o t fr rest (i+1) (cur.setIfInBounds (o+i) v) (w.setRow g (cur.setIfInBounds (o+i) v)) (hok.size (by simp)) (setRow_heap w g cur _ t _ hg) (by simp;omega) (fun x hx=>h1 x (by simp[hx]));simp only[storeCells,Sem.run_bind,hst,Result.andThen_ok,ih,setRow_setRow];congr 3;simpa [Array.toList_setIfInBounds,Nat.add_assoc] using list_seg_step cur.toList (o+i) v rest (by simp;omega)
omit [GI] in
theorem axm {b f:Nat} {arr:Array Value} {ty:TypeId} {fr:Nat×Nat} (hok:ar5 arr fr) (hw:w.heap[b]?=some (.cells arr ty fr)) (vs:List Value) (h1:∀ v ∈ vs,one v=true) (hl:f+vs.length<=arr.size) :
  ∃ arr':Array Value,arr'.toList=arr.toList.take f++vs++arr.toList.drop (f+vs.length) /\
   (storeCells ⟨b,f,none⟩ vs).run P w=.ok () { w with heap:=w.heap.setIfInBounds b (.cells arr' ty fr) }:=by
 have h:=YP (P:=P) b f ty fr vs 0 arr w hok hw (by simpa using hl) (fun v hv=>by have:=h1 v hv;cases v<;>simp_all [one,Value.oneCell']);refine⟨_,List.toList_toArray,?_⟩;rw[h];have hb:b < w.heap.size:=(Array.getElem?_eq_some_iff.1 hw).1;have hwb:w.heap[b]=.cells arr ty fr:=by rw[Array.getElem?_eq_getElem hb] at hw;exact Option.some.inj hw
 congr 1;unfold World.setRow;congr 1;refine Array.ext_getElem? fun i=>?_;rw[Array.getElem?_modify,Array.getElem?_setIfInBounds];by_cases e:b=i
 ·subst e;simp[hb,hwb]
 ·simp[e]
omit [GI] in
theorem aEQ {t:TypeId} {i:TypeInfo} (hi:P.info? t=some i) {b f:Nat} {arr:Array Value} {ty:TypeId} {fr:Nat×Nat} (hok:ar5 arr fr) (hw:w.heap[b]?=some (.cells arr ty fr)) (v:Value) (hs:v.cells.size=i.size)
  (h1:∀ x ∈ v.cells.toList,one x=true) (hl:f+v.cells.size<=arr.size) :
  ∃ arr':Array Value,arr'.toList=arr.toList.take f++v.cells.toList++arr.toList.drop (f+v.cells.size) /\
   (storeVar t ⟨b,f,none⟩ v).run P w=.ok () { w with heap:=w.heap.setIfInBounds b (.cells arr' ty fr) }:=by
 obtain ⟨arr',g1,g2⟩:=axm (P:=P) hok hw v.cells.toList h1 (by simpa using hl);refine⟨arr',by simpa using g1,?_⟩;simp only[storeVar,Sem.run_bind,sizeOf,typeInfo,run_program,Result.andThen_ok,hi,Sem.run_pure,hs];simpa using g2
omit [GI] in
theorem Ii {α:Type} (L c:List α) (f q:Nat) (h:f+c.length<=L.length) :
  (L.take f++c++L.drop (f+c.length))[q]?=if q < f then L[q]? else if q < f+c.length then c[q - f]? else L[q]?:=by
 have hf:(L.take f).length=f:=by rw[List.length_take];omega
 split
 ·rename_i h1;rw[List.append_assoc,List.getElem?_append_left (by omega),List.getElem?_take];simp[h1]
 ·rename_i h1;split
  ·rename_i h2;rw[List.getElem?_append_left (by rw[List.length_append];omega),List.getElem?_append_right (by omega),hf]
  ·rename_i h2;rw[List.getElem?_append_right (by rw[List.length_append];omega),List.length_append,hf,List.getElem?_drop];congr 1;omega
omit [GI] in
theorem Hp {α:Type} (L c:List α) (f:Nat) (h:f+c.length<=L.length):(L.take f++c++L.drop (f+c.length)).length=L.length:=by
 simp only[List.length_append,List.length_take,List.length_drop];omega
omit [GI] in
theorem aME {cs:List V} {xs:List Value} {f:List Nat} (h:iU w D cs φ xs f):CV w D (.agg cs) φ (.agg xs.toArray) f:=by
 simp only[CV];exact⟨_,rfl,by simpa using h⟩
omit [GI] in
theorem aRX {n s j:Nat} {e v e':V} {z x:Value} (he:CV w D e φ z []) (hz:z.cells.size=s) (hv:CV w D v φ x []) (hx:x.cells.size=n) (h:aQr n s j e v=some e') :
  j+n<=s/\∃ y,CV w D e' φ y []/\y.cells.size=s/\∀ k,k < s->y.cells[k]?=if k < j then z.cells[k]? else if k < j+n then x.cells[k - j]? else z.cells[k]?:=by
 unfold aQr at h;split at h
 ·rename_i hc;obtain ⟨rfl,rfl,_⟩:=hc;simp only[Option.some.injEq] at h;subst h;refine⟨by omega,x,hv,hx,fun k hk=>?_⟩;simp[hk]
 ·split at h
  ·rename_i cs vs h1 h2;split at h
   ·rename_i hc;obtain ⟨ha,hl,hj⟩:=hc;simp only[Option.some.injEq] at h;subst h;have g1:=Z6 h1 he;have g2:=Z6 h2 hv;have l1:=lC g1;have l2:=lC g2;simp only[Array.length_toList] at l1 l2;have g3:=HL (HL (ahp j g1) g2) (ahn (j+n) g1);simp only[List.append_nil] at g3;refine⟨by omega,_,aME g3,?_,fun k hk=>?_⟩
    ·rw[show ∀ L:List Value,(Value.agg L.toArray).cells=L.toArray from fun _=>rfl,List.size_toArray,show j+n=j+x.cells.toList.length from by simp[hx],Hp _ _ _ (by simp;omega)];simpa using hz
    ·rw[show ∀ L:List Value,(Value.agg L.toArray).cells=L.toArray from fun _=>rfl,List.getElem?_toArray,show j+n=j+x.cells.toList.length from by simp[hx],Ii _ _ _ _ (by simp;omega)];simp
   ·cases h
  ·cases h
theorem aVR (h:RelD X s a w D φ F []) {t:TypeId} {i0:TypeInfo} {ya yx:Operand} {xa xx:Abs.X} (hop:o.op=.store t ya yx) (hi0:P.info? t=some i0) (hxa:cX ya=some xa) (hxx:cX yx=some xx) (hdst:o.dst=none)
  {p:Prop} {δ:Dl} (he:vst i0.size s.hp (s.ev xx) (s.ev xa)=some (p,δ)):Ee P o X a w (δ.app o.dst s):=by
 have hcv:=ri hxa h;have hvx:=ri hxx h;generalize s.ev xa=u at he hcv;generalize s.ev xx=v at he hvx;unfold vst at he;split at he
 ·rename_i id i j;simp only[CV] at hcv;obtain ⟨_,p0,hp0,hxp⟩:=hcv;cases hb:s.hp id with
  | none=>simp[hb] at he
  | some blk =>
    simp only[hb] at he;cases hes:blk.es[i]? with
    | none=>simp[hes] at he
    | some e =>
      simp only[hes] at he;split at he
      ·rename_i hcond;obtain ⟨hne,hnv,hsz,hfl,hn0⟩:=hcond;cases hst:aQr i0.size blk.s j e v with
       | none=>simp[hst] at he
       | some e' =>
         simp only[hst,Option.some.injEq,Prod.mk.injEq] at he;obtain ⟨_,rfl⟩:=he;obtain ⟨p1,arr,ty,f',g1,g2,g3,g4,g5,g6⟩:=aOW h hb hes;rw[hp0] at g1;cases g1;obtain ⟨z,fz,k1,k2,k3,k4⟩:=aFX g6 hes;have:fz=[]:=Gj _ _ _ _ hne k1;subst this;have hxs:=amr hsz hvx;obtain ⟨hjn,y,y1,y2,y3⟩:=aRX k1 k3.1 hvx hxs hst;have hlen:=Z5 g6;have hil:i < blk.es.length:=(List.getElem?_eq_some_iff.1 hes).1;have hmul:(i+1) * blk.s<=blk.es.length * blk.s:=Nat.mul_le_mul_right _ hil;rw[Nat.add_mul,Nat.one_mul] at hmul;simp only[List.length_drop,Array.length_toList] at hlen
         have hle:p0.o+(i * p0.s+j)+(a.eval yx).cells.size<=arr.size:=by
          rw[g2,hxs];have:0 < blk.es.length * blk.s:=Nat.mul_pos (by omega) (by omega);omega
         have hones:=Zo hfl hvx;have hone:∀ x ∈ (a.eval yx).cells.toList,one x=true:=List.all_eq_true.1 hones;obtain ⟨fr,hok,g4⟩:=g4;obtain ⟨arr',q1,q2⟩:=aEQ (P:=P) hi0 hok g4 (a.eval yx) hxs hone hle
         have hl':arr'.size=arr.size:=by
          have:=congrArg List.length q1;rw[show p0.o+(i * p0.s+j)+(a.eval yx).cells.size=p0.o+(i * p0.s+j)+(a.eval yx).cells.toList.length from by simp,Hp _ _ _ (by simpa using hle)] at this;simpa using this
         refine aLq h hb hp0 hok g4 hl' (w':={ w with heap:=w.heap.setIfInBounds p0.b (.cells arr' ty fr) }) ?_ hdst rfl rfl rfl rfl _ ?_
         ·simp[execOp,hop,Instr.storeAt,Instr.sureAddr,hxp,q2]
         ·intro f1 hf1 hcr
          have y4:y.cells.toList.all one=true:=by
           rw[List.all_eq_true];intro c hc;obtain ⟨k,hk⟩:=List.mem_iff_getElem?.1 hc
           have hks:k < blk.s:=by
            have:=(List.getElem?_eq_some_iff.1 hk).1;simpa [y2] using this
           have h3:=y3 k hks;rw[Array.getElem?_toList] at hk;rw[hk] at h3;split at h3
           ·exact List.all_eq_true.1 k3.2 c (List.mem_of_getElem? (i:=k) (by rw[Array.getElem?_toList];exact h3.symm))
           ·split at h3
            ·exact hone c (List.mem_of_getElem? (i:=k - j) (by rw[Array.getElem?_toList];exact h3.symm))
            ·exact List.all_eq_true.1 k3.2 c (List.mem_of_getElem? (i:=k) (by rw[Array.getElem?_toList];exact h3.symm))
          refine aKj hcr hes hne y1 ⟨y2,y4⟩ ?_ ?_ ?_
          ·simp[hl']
          ·intro q hq;rw[List.getElem?_drop,List.getElem?_drop,q1,show p0.o+(i * p0.s+j)+(a.eval yx).cells.size=p0.o+(i * p0.s+j)+(a.eval yx).cells.toList.length from by simp,Ii _ _ _ _ (by simpa using hle)];simp only[Array.length_toList,hxs,g2];split
           ·rfl
           ·rw[if_neg (by omega)]
          ·intro q hq;rw[y3 q hq,List.getElem?_drop,q1,show p0.o+(i * p0.s+j)+(a.eval yx).cells.size=p0.o+(i * p0.s+j)+(a.eval yx).cells.toList.length from by simp,Ii _ _ _ _ (by simpa using hle)];simp only[Array.length_toList,hxs,g2];have hk:=k4 q hq;rw[List.getElem?_drop] at hk;by_cases c1:q < j
           ·rw[if_pos (by omega),if_pos c1,hk]
           ·rw[if_neg (by omega),if_neg c1];by_cases c2:q < j+i0.size
            ·rw[if_pos (by omega),if_pos c2];rw[show p0.o+(i * blk.s+q) - (p0.o+(i * blk.s+j))=q - j from by omega];simp
            ·rw[if_neg (by omega),if_neg c2,hk]
      ·cases he
 ·cases he
end
end Go.Abs
namespace Go.Abs
variable [GI]
section
variable {P : Program} {X : Ctx} {s : St} {a : Act} {w : World} {D : Nat → Prop} {φ : Nat → Option Pl} {F : Nat → List Nat} {o : Oper}
omit [GI] in
theorem aPd {op:BinOp} {t:TypeId} (h:eqK P op t=some .bool):P.underlying t=some .bool:=by
 unfold eqK at h;split at h
 ·split at h<;>try (simp_all;done)
  split at h
  ·split at h<;>cases h
  ·cases h
 ·simp at h
omit [GI] in
theorem aRv:IntKind.i64.max=9223372036854775807:=by decide
def aKv:EK->Value->Value->Option Bool
 | .int,.int k a,.int k' b=>if k=k' then some (a==b) else none
 | .bool,.bool a,.bool b=>some (a==b)
 | .str,.string a,.string b=>some (a.toList==b.toList)
 | _,_,_=>none
def ceq:List EK->List Value->List Value->Option Bool
 | [],[],[]=>some true
 | k::ks,u::us,v::vs=>aKr (aKv k u v) (ceq ks us vs)
 | _,_,_=>none
omit [GI] in
theorem axJ {a b:Option Bool} {r:Bool} (h:aKr a b=some r):∃ p q,a=some p/\b=some q/\r=(p&&q):=by
 cases a<;>cases b<;>simp_all [aKr]
omit [GI] in
theorem aOt {k:EK} {u v:V} {x y:Value} {f g:List Nat} {r:Bool} (h:aR2 k u v=some r) (hx:CV w D u φ x f) (hy:CV w D v φ y g):aKv k x y=some r:=by
 unfold aR2 at h;split at h
 all_goals first
  | (rw[De hx,De hy];simpa [aKv] using h)
  | cases h
omit [GI] in
theorem aMB:∀ (ks:List EK) (us vs:List V) (xs ys:List Value) (f g:List Nat) (r:Bool),veq ks us vs=some r->iU w D us φ xs f->iU w D vs φ ys g->ceq ks xs ys=some r
 | [],us,vs,xs,ys,f,g,r,h,hx,hy=>by
   unfold veq at h;split at h
   ·simp only[iU] at hx hy;rw[hx.1,hy.1];simpa [ceq] using h
   ·contradiction
   ·cases h
 | k::ks,us,vs,xs,ys,f,g,r,h,hx,hy=>by
   unfold veq at h;split at h
   ·contradiction
   ·rename_i k' ks' u us v vs e;cases e;obtain ⟨p,q,h1,h2,rfl⟩:=axJ h;simp only[iU] at hx hy;obtain ⟨x,xs',f1,f2,rfl,rfl,hx1,hx2⟩:=hx;obtain ⟨y,ys',g1,g2,rfl,rfl,hy1,hy2⟩:=hy;simp[ceq,aOt h1 hx1 hy1,aMB ks us vs xs' ys' _ _ _ h2 hx2 hy2,aKr]
   ·cases h
omit [GI] in
theorem aCo:∀ (ks ks':List EK) (xs ys:List Value) (r:Bool),ceq (ks++ks') xs ys=some r ->
  ∃ x1 x2 y1 y2 r1 r2,xs=x1++x2/\ys=y1++y2/\x1.length=ks.length/\y1.length=ks.length/\ceq ks x1 y1=some r1/\ceq ks' x2 y2=some r2/\r=(r1&&r2)
 | [],ks',xs,ys,r,h=>⟨[],xs,[],ys,true,r,rfl,rfl,rfl,rfl,rfl,h,by simp⟩
 | k::ks,ks',[],ys,r,h=>by simp[ceq] at h
 | k::ks,ks',x::xs,[],r,h=>by simp[ceq] at h
 | k::ks,ks',x::xs,y::ys,r,h=>by
   rw[List.cons_append,ceq] at h;obtain ⟨p,q,h1,h2,rfl⟩:=axJ h;obtain ⟨x1,x2,y1,y2,r1,r2,rfl,rfl,g1,g2,g3,g4,rfl⟩:=aCo _ _ _ _ _ h2;exact⟨x::x1,x2,y::y1,y2,p&&r1,r2,rfl,rfl,by simp[g1],by simp[g2],by simp[ceq,h1,g3,aKr],g4,by simp[Bool.and_assoc]⟩
omit [GI] in
theorem arD {k:EK} {x y:Value} {r:Bool} (h:ceq [k] [x] [y]=some r):aKv k x y=some r:=by
 rw[ceq] at h;obtain ⟨p,q,h1,h2,rfl⟩:=axJ h;simp only[ceq,Option.some.injEq] at h2;subst h2;simpa using h1
def acA (P:Program) (t:TypeId) (xs:List Value) (x:Value):Prop :=
 match P.underlying t with
 | some (.struct _)=>x=.agg xs.toArray
 | _=>xs=[x]
omit [GI] in
theorem aGe {m:Nat} {t:TypeId} {ks:List EK} (h:Hx P m t=some ks):∃ d,P.underlying t=some d/\(ahq d=true↔∃ fs,d=.struct fs):=by
 cases m with
 | zero=>cases h
 | succ m =>
   unfold Hx at h;split at h
   ·rename_i hd;exact⟨_,hd,by simp[ahq]⟩
   ·rename_i hd;exact⟨_,hd,by simp[ahq]⟩
   ·rename_i hd;exact⟨_,hd,by simp[ahq]⟩
   ·rename_i fs hd;exact⟨_,hd,by simp[ahq]⟩
   ·cases h
omit [GI] in
theorem aJH {m:Nat} {t:TypeId} {ks:List EK} (h:Hx P m t=some ks) (hi:(P.info? t).map (·.size)=some ks.length) {pre x1 post:List Value} (hl:x1.length=ks.length) (hone:(∀ fs,P.underlying t≠some (.struct fs))->ks.length=1) :
  ∃ v,(part t (pre++x1++post).toArray pre.length).run P w=.ok v w/\acA P t x1 v:=by
 obtain ⟨d,hd,hagg⟩:=aGe h;simp only[Option.map_eq_some_iff] at hi;obtain ⟨i,hi,hs⟩:=hi;cases ha:ahq d with
 | true =>
   obtain ⟨fs,rfl⟩:=hagg.1 ha;refine⟨.agg x1.toArray,?_,by simp[acA,hd]⟩;simp only[part,Sem.run_bind,S7 hd,ha,Result.andThen_ok,if_true];simp only[sizeOf,typeInfo,Sem.run_bind,run_program,Result.andThen_ok,hi,Sem.run_pure];congr 2;rw[hs,<- hl];simp[List.extract_eq_take_drop]
 | false =>
   have hn:∀ fs,P.underlying t≠some (.struct fs):=fun fs e=>by
    rw[hd] at e;cases e;simp[ahq] at ha
   have h1:=hone hn
   match x1,hl with
   | [v],_ =>
     refine⟨v,?_,?_⟩
     ·simp only[part,Sem.run_bind,S7 hd,ha,Result.andThen_ok];simp
     ·unfold acA;split
      ·rename_i fs e;exact absurd e (hn fs)
      ·rfl
   | [],hl=>simp at hl;omega
   | _::_::_,hl=>simp at hl;omega
omit [GI] in
theorem azC {m:Nat} {t:TypeId} {ks:List EK} (h:Hx P m t=some ks) (hn:∀ fs,P.underlying t≠some (.struct fs)):ks.length=1:=by
 cases m with
 | zero=>cases h
 | succ m =>
   unfold Hx at h;split at h
   ·cases h;rfl
   ·cases h;rfl
   ·cases h;rfl
   ·rename_i fs hd;exact absurd hd (hn fs)
   ·cases h
omit [GI] in
theorem aJF {m d:Nat} (ih:∀ t ks xs ys r x y,Hx P m t=some ks->ceq ks xs ys=some r->acA P t xs x->acA P t ys y->(Op.equalIn d t x y).run P w=.ok r w) :
  ∀ (fs:List Field) (ks:List EK) (pre pre' xs ys:List Value) (r:Bool),aPc P (Hx P m) fs pre.length=some ks->pre'.length=pre.length->ceq ks xs ys=some r ->
   (Op.eqFields d (pre++xs).toArray (pre'++ys).toArray fs).run P w=.ok r w
 | [],ks,pre,pre',xs,ys,r,h,hp,hc=>by
   simp only[aPc,Option.some.injEq] at h;subst h;unfold ceq at hc;split at hc<;>simp_all [Op.eqFields]
 | f::fs,ks,pre,pre',xs,ys,r,h,hp,hc=>by
   unfold aPc at h;split at h
   ·rename_i hf;split at h
    ·rename_i kf hkf;split at h
     ·rename_i hs;simp only[Option.map_eq_some_iff] at h;obtain ⟨kl,hkl,rfl⟩:=h;obtain ⟨x1,x2,y1,y2,r1,r2,rfl,rfl,h1,h2,h3,h4,rfl⟩:=aCo _ _ _ _ _ hc;obtain ⟨v,hv,hv'⟩:=aJH (w:=w) (pre:=pre) (x1:=x1) (post:=x2) hkf hs h1 (azC hkf);obtain ⟨u,hu,hu'⟩:=aJH (w:=w) (pre:=pre') (x1:=y1) (post:=y2) hkf hs h2 (azC hkf);have hr:=ih _ _ _ _ _ _ _ hkf h3 hv' hu';rw[hp] at hu;have rest:=aJF ih fs kl (pre++x1) (pre'++y1) x2 y2 r2 (by rw[List.length_append,h1];exact hkl) (by simp[h1,h2,hp]) h4;simp only[Op.eqFields,hf.1,ne_eq,not_false_eq_true,if_true,Sem.run_bind,hf.2];rw[List.append_assoc] at hv hu;rw[hv,Result.andThen_ok,hu,Result.andThen_ok,hr,Result.andThen_ok];cases r1 with
      | false=>simp
      | true =>
        rw[List.append_assoc,List.append_assoc] at rest;simp[rest]
     ·cases h
    ·cases h
   ·cases h
omit [GI] in
theorem aAA:∀ (m d:Nat) (t:TypeId) (ks:List EK) (xs ys:List Value) (r:Bool) (x y:Value),m<=d->Hx P m t=some ks->ceq ks xs ys=some r->acA P t xs x->acA P t ys y->(Op.equalIn d t x y).run P w=.ok r w
 | 0,d,t,ks,xs,ys,r,x,y,hd,h,hc,hx,hy=>by cases h
 | m+1,0,t,ks,xs,ys,r,x,y,hd,h,hc,hx,hy=>by omega
 | m+1,d+1,t,ks,xs,ys,r,x,y,hd,h,hc,hx,hy=>by
   unfold Hx at h;split at h
   ·rename_i k ht;cases h;simp only[acA,ht] at hx hy;subst hx hy;have:=arD hc;unfold aKv at this;split at this
    ·split at this
     ·rename_i hk;subst hk;cases this;simp[Op.equalIn,run_underlying ht]
     ·cases this
    ·contradiction
    ·contradiction
    ·cases this
   ·rename_i ht;cases h;simp only[acA,ht] at hx hy;subst hx hy;have:=arD hc;unfold aKv at this;split at this
    ·contradiction
    ·cases this;simp[Op.equalIn,run_underlying ht]
    ·contradiction
    ·cases this
   ·rename_i ht;cases h;simp only[acA,ht] at hx hy;subst hx hy;have:=arD hc;unfold aKv at this;split at this
    ·contradiction
    ·contradiction
    ·cases this;rw[run_equalIn_string w d t _ _ ht]
    ·cases this
   ·rename_i fs ht;split at h
    ·rename_i hst;simp only[acA,ht] at hx hy;subst hx hy;have hf:P.fieldsOf t=fs:=by simp[Program.fieldsOf,ht]
     rw[run_equalIn_struct w d t _ _ (by rw[hf];exact ht) hst,hf];have:=aJF (P:=P) (w:=w) (m:=m) (d:=d) (fun t ks xs ys r x y h1 h2 h3 h4=>aAA m d t ks xs ys r x y (by omega) h1 h2 h3 h4) fs.toList ks [] [] xs ys r (by simpa using h) rfl hc;simpa using this
    ·cases h
   ·cases h
omit [GI] in
theorem aKB {op:BinOp} {t:TypeId} {ks:List EK} (h:eqK P op t=some (.struct ks)):(op=.eql\/op=.neq)/\Hx P 8 t=some ks/\P.eqGuardType P.depth t=false/\∃ fs,P.underlying t=some (.struct fs):=by
 unfold eqK at h;split at h
 ·rename_i ho;split at h<;>try (cases h;done)
  rename_i fs ht;split at h
  ·rename_i ks' hk;split at h
   ·rename_i hg;cases h;exact⟨ho,hk,hg,fs,ht⟩
   ·cases h
  ·cases h
 ·cases h
omit [GI] in
theorem aGd {op:BinOp} {t:TypeId} (h:eqK P op t=some .nil):∃ e,P.underlying t=some (.slice e):=by
 unfold eqK at h;split at h
 ·split at h<;>try (cases h;done)
  ·rename_i e ht;exact⟨e,ht⟩
  ·split at h
   ·split at h<;>cases h
   ·cases h
 ·cases h
omit [GI] in
theorem asG {op:BinOp} {t e:TypeId} {yx yy:Operand} (ht:P.underlying t=some (.slice e)) (a:Option Addr) (n c m k:Nat) {r:Bool} {p:Prop} {δ:Dl} (hr:r=a.isNone) (he:eqB op p (some r)=some (p,δ)) :
  ∃ z,(do eqGuard op t yx yy (.slice a n c) (.slice none m k);binOp op t (.slice a n c) (.slice none m k):Sem Value).run P w=.ok z w/\δ={ v:=.v z }/\one z=true:=by
 have h0:(Op.equal t (.slice a n c) (.slice none m k)).run P w=.ok a.isNone w:=by
  have e:∀ d,(Op.equalIn (d+1) t (.slice a n c) (.slice none m k)).run P w=.ok a.isNone w:=fun d=>by
   cases a<;>simp[Op.equalIn,run_underlying ht]
  exact e 9999
 cases op<;>simp only[eqB,lH,reduceCtorEq] at he
 all_goals
  simp only[Option.some.injEq,Prod.mk.injEq,true_and] at he;obtain rfl:=he;refine⟨_,?_,rfl,rfl⟩;simp only[eqGuard,binOp,Sem.run_bind];simp[h0,hr]
omit [GI] in
theorem aQc {op:BinOp} {t:TypeId} {k:EqK} {yx yy:Operand} {x y:Value} {u v:V} {p:Prop} {δ:Dl} (hk:eqK P op t=some k) (hx:CV w D u φ x []) (hy:CV w D v φ y [])
  (he:aHw op k u v=some (p,δ)) (hp:p):∃ z,(do eqGuard op t yx yy x y;binOp op t x y:Sem Value).run P w=.ok z w/\δ={ v:=.v z }/\one z=true:=by
 unfold aHw at he;split at he
 ·rename_i i a j b;have hx:=De hx;have hy:=De hy;subst hx hy;cases op<;>simp only[ep,lH] at he
  all_goals first
   | (split at he
      ·rename_i hij;subst hij;simp only[Option.some.injEq,Prod.mk.injEq,reduceCtorEq] at he;obtain ⟨rfl,rfl⟩:=he;refine⟨_,?_,rfl,rfl⟩
       first
        | (simp[eqGuard,binOp,Op.intArith];done)
        | (simp[eqGuard,binOp,Op.intDiv,hp];done)
        | (simp[eqGuard,binOp,Op.intBits];done)
        | (simp[eqGuard,binOp,Op.intCmp];done)
      ·cases he)
   | (simp only[Option.some.injEq,Prod.mk.injEq] at he
      obtain ⟨rfl,rfl⟩:=he;refine⟨_,?_,rfl,rfl⟩;simp[eqGuard,binOp,Op.shift,Int.not_lt.2 hp])
   | (split at he<;>cases he)
 ·rename_i a b;have hx:=De hx;have hy:=De hy;subst hx hy;split at he
  ·rename_i hkb;subst hkb;have ht:=aPd hk;cases op<;>simp only[ep] at he
   all_goals first
    | (simp only[Option.some.injEq,Prod.mk.injEq] at he
       obtain ⟨rfl,rfl⟩:=he;refine⟨_,?_,rfl,rfl⟩
       first
        | (simp only[Sem.run_bind,eqGuard_at_bool,Sem.run_pure,Result.andThen_ok];exact run_eql_bool w t a b ht)
        | (simp only[Sem.run_bind,eqGuard_at_bool,Sem.run_pure,Result.andThen_ok];exact run_neq_bool w t a b ht))
    | cases he
  ·cases he
 ·rename_i a b;have hx:=De hx;have hy:=De hy;subst hx hy;cases op<;>simp only[ep,lH] at he
  all_goals first
   | (simp only[Option.some.injEq,Prod.mk.injEq] at he
      obtain ⟨rfl,rfl⟩:=he;refine⟨_,?_,rfl,by first | rfl | (simp only[one,ByteArray.size_append,decide_eq_true_eq];exact hp)⟩
      first
       | (simp[eqGuard,binOp,Op.stringOp];done)
       | (have h':¬((9223372036854775807:Int) < ((a.size+b.size:Nat):Int)):=by omega
          simp only[eqGuard,binOp,Op.stringOp];simp[aRv];omega))
   | cases he
 ·rename_i us vs;cases k with
  | struct ks =>
    obtain ⟨ho,hkk,hg,fs,ht⟩:=aKB hk;simp only[EqK.veq] at he;cases hv:veq ks us vs with
    | none=>simp[hv,eqB] at he
    | some r =>
      rw[hv] at he;simp only[CV] at hx hy;obtain ⟨xs,rfl,hx⟩:=hx;obtain ⟨ys,rfl,hy⟩:=hy;have hc:=aMB _ _ _ _ _ _ _ _ hv hx hy
      have h0:(Op.equalIn 10000 t (.agg xs) (.agg ys)).run P w=.ok r w :=
       aAA 8 10000 t ks xs.toList ys.toList r _ _ (by omega) hkk hc (by simp[acA,ht]) (by simp[acA,ht])
      rcases ho with rfl | rfl
      ·simp only[eqB,lH,Option.some.injEq,Prod.mk.injEq] at he;obtain ⟨_,rfl⟩:=he;refine⟨_,?_,rfl,rfl⟩;rw[Sem.run_bind,run_eqGuard_agg w _ _ _ _ _ _ hg,Result.andThen_ok,run_eql_struct,h0];rfl
      ·simp only[eqB,lH,Option.some.injEq,Prod.mk.injEq] at he;obtain ⟨_,rfl⟩:=he;refine⟨_,?_,rfl,rfl⟩;rw[Sem.run_bind,run_eqGuard_agg w _ _ _ _ _ _ hg,Result.andThen_ok,run_neq_struct,h0];rfl
  | _=>simp[EqK.veq,eqB] at he
 ·rename_i a n c m j;have hx:=De hx;have hy:=De hy;subst hx hy;cases k with
  | nil =>
    obtain ⟨e,ht⟩:=aGd hk
    have hp':p=True:=by
     exact eq_true hp
    subst hp';exact asG ht a n c m j rfl (by simpa [EqK.nil?] using he)
  | _=>simp[EqK.nil?,eqB] at he
 ·rename_i s' es m j;have hy:=De hy;subst hy;cases k with
  | nil =>
    obtain ⟨e,ht⟩:=aGd hk
    have hpe:(es.isEmpty=false)=p:=by
     cases op<;>simp[eqB,lH,EqK.nil?] at he<;>simpa using he.1
    have hne:es≠[]:=by
     rw[<- hpe] at hp;intro e;subst e;simp at hp
    simp only[CV] at hx;obtain ⟨_,⟨h0,_⟩ | ⟨b,o',cap,arr,rfl,_⟩⟩:=hx
    ·exact absurd h0 hne
    ·rw[hpe] at he;exact asG ht (some _) _ _ m j (r:=false) rfl (by simpa [EqK.nil?] using he)
  | _=>simp[EqK.nil?,eqB] at he
 ·rename_i id i n m j;have hy:=De hy;subst hy;cases k with
  | nil =>
    obtain ⟨e,ht⟩:=aGd hk
    have hpe:(n≠0)=p:=by
     cases op<;>simp[eqB,lH,EqK.nil?] at he<;>simpa using he.1
    have hne:n≠0:=by rw[<- hpe] at hp;exact hp
    simp only[CV] at hx;obtain ⟨_,⟨_,_,h0,_⟩ | ⟨p0,o',cap,_,rfl,_⟩⟩:=hx
    ·exact absurd h0 hne
    ·rw[hpe] at he;exact asG ht (some _) _ _ m j (r:=false) rfl (by simpa [EqK.nil?] using he)
  | _=>simp[EqK.nil?,eqB] at he
 ·cases he
theorem aRG (h:RelD X s a w D φ F []) (hd:∀ d,o.dst=some d->d < X.n) {y:Operand} {x:Abs.X} (hop:o.op=.nilCheck y) (hx:cX y=some x)
  {p:Prop} {δ:Dl} (he:(match s.ev x with | .ref id i j=>ep (.ref id i (j+0)) | .rp s es i j=>ep (.rp s es i (j+0)) | _=>none)=some (p,δ)):Ee P o X a w (δ.app o.dst s):=by
 have hcv:=ri hx h;generalize s.ev x=u at he hcv;split at he
 ·rename_i id i j;simp only[ep,Option.some.injEq,Prod.mk.injEq] at he;obtain ⟨_,rfl⟩:=he;have hcv':=hcv;simp only[CV] at hcv;obtain ⟨_,p0,hp0,hxp⟩:=hcv;refine fA h hd (x:=a.eval y) ?_ hcv';simp[execOp,hop,hxp]
 ·rename_i s' es i j;simp only[ep,Option.some.injEq,Prod.mk.injEq] at he;obtain ⟨_,rfl⟩:=he;have hcv':=hcv;simp only[CV] at hcv;obtain ⟨_,b,o',arr,hxp,hD,hbk,hcr,hni⟩:=hcv;refine fA h hd (x:=a.eval y) ?_ hcv';simp[execOp,hop,hxp]
 ·cases he
theorem aTC (h:RelD X s a w D φ F []) (hd:∀ d,o.dst=some d->d < X.n) {op:BinOp} {t t':TypeId} {k:EqK} {yx yy:Operand} {xx xy:Abs.X} (hop:o.op=.binOp op t yx yy t') (hk:eqK P op t=some k) (hx:cX yx=some xx) (hy:cX yy=some xy)
  {p:Prop} {δ:Dl} (he:aHw op k (s.ev xx) (s.ev xy)=some (p,δ)) (hp:p):Ee P o X a w (δ.app o.dst s):=by
 obtain ⟨z,h1,rfl,h2⟩:=aQc (yx:=yx) (yy:=yy) hk (ri hx h) (ri hy h) he hp;refine fA h hd (x:=z) ?_ (xZ h2);unfold execOp;simp only[hop];rw[Sem.run_bind,h1];rfl
theorem aVS (h:RelD X s a w D φ F []) (hd:∀ d,o.dst=some d->d < X.n) {op:UnOp} {t:TypeId} {y:Operand} {x:Abs.X} (hop:o.op=.unOp op t y) (hx:cX y=some x)
  {p:Prop} {δ:Dl} (he:vun op (s.ev x)=some (p,δ)):Ee P o X a w (δ.app o.dst s):=by
 have hcv:=ri hx h;generalize s.ev x=u at he hcv;unfold vun at he;split at he
 ·rename_i i n;have hxv:=De hcv;split at he
  ·simp only[ep,Option.some.injEq,Prod.mk.injEq] at he;obtain ⟨_,rfl⟩:=he;exact fA h hd (by simp[execOp,hop,hxv,Op.unary,Op.intArith]) (xZ rfl)
  ·cases he
 ·rename_i b;have hxv:=De hcv;split at he
  ·simp only[ep,Option.some.injEq,Prod.mk.injEq] at he;obtain ⟨_,rfl⟩:=he;exact fA h hd (by simp[execOp,hop,hxv,Op.unary]) (xZ rfl)
  ·cases he
 ·cases he
theorem aPR (h:RelD X s a w D φ F []) (hd:∀ d,o.dst=some d->d < X.n) {t:TypeId} {f:Nat} {y:Operand} {x:Abs.X} {fs:Array Field} {fd:Field} {i0:TypeInfo} (hop:o.op=.fieldAddr t y f) (hx:cX y=some x)
  (ht:P.underlying t=some (.struct fs)) (hf:fs[f]?=some fd) (hi:P.info? fd.type=some i0) (hs:i0.size≠0)
  {p:Prop} {δ:Dl} (he:(match s.ev x with | .ref id i j=>ep (.ref id i (j+fd.offset)) | .rp s es i j=>ep (.rp s es i (j+fd.offset)) | _=>none)=some (p,δ)):Ee P o X a w (δ.app o.dst s):=by
 have hcv:=ri hx h;generalize s.ev x=u at he hcv;split at he
 ·rename_i id i j;simp only[ep,Option.some.injEq,Prod.mk.injEq] at he;obtain ⟨_,rfl⟩:=he;simp only[CV] at hcv;obtain ⟨_,p0,hp0,hxp⟩:=hcv;refine fA h hd (x:=.pointer (some ⟨p0.b,p0.o+(i * p0.s+(j+fd.offset)),none⟩)) ?_ ?_
  ·simp[execOp,hop,hxp,Instr.fieldAt,run_underlying ht,hf,Instr.sureAddr,fieldPlace,sizeOf,typeInfo,hi,hs,Addr.add_lit,Nat.add_assoc]
  ·simp only[CV];exact⟨trivial,p0,hp0,rfl⟩
 ·rename_i s' es i j;simp only[ep,Option.some.injEq,Prod.mk.injEq] at he;obtain ⟨_,rfl⟩:=he;simp only[CV] at hcv;obtain ⟨_,b,o',arr,hxp,hD,hbk,hcr,hni⟩:=hcv;refine fA h hd (x:=.pointer (some ⟨b,o'+(i * s'+(j+fd.offset)),none⟩)) ?_ ?_
  ·simp[execOp,hop,hxp,Instr.fieldAt,run_underlying ht,hf,Instr.sureAddr,fieldPlace,sizeOf,typeInfo,hi,hs,Addr.add_lit,Nat.add_assoc]
  ·simp only[CV];exact⟨trivial,b,o',arr,rfl,hD,hbk,hcr,hni⟩
 ·cases he
omit [GI] in
theorem S1 {t:TypeId} {i:TypeInfo} (h:Dd P t=some i):∃ e,P.underlying t=some (.slice e)/\P.info? e=some i:=by
 unfold Dd at h;split at h
 ·rename_i e he;exact⟨e,he,h⟩
 ·cases h
theorem aPS (h:RelD X s a w D φ F []) (hd:∀ d,o.dst=some d->d < X.n) {t:TypeId} {yx yi:Operand} {xx xi:Abs.X} {i0:TypeInfo} (hop:o.op=.indexAddr t yx yi) (hx:cX yx=some xx) (hi:cX yi=some xi)
  (ht:Dd P t=some i0) {p:Prop} {δ:Dl} (he:Vw i0.size s.hp (s.ev xx) (s.ev xi)=some (p,δ)) (hp:p):Ee P o X a w (δ.app o.dst s):=by
 obtain ⟨e,hte,hie⟩:=S1 ht;have hcv:=ri hx h;have hci:=ri hi h;generalize s.ev xx=u at he hcv;generalize s.ev xi=v at he hci;unfold Vw at he;split at he
 ·rename_i id i n k0 k;have hiv:=De hci;cases hb:s.hp id with
  | none=>simp[hb] at he
  | some blk =>
    simp only[hb] at he;split at he
    ·rename_i hbs;simp only[lH,Option.some.injEq,Prod.mk.injEq] at he;obtain ⟨rfl,rfl⟩:=he;simp only[CV] at hcv;obtain ⟨_,⟨_,_,rfl,_⟩ | ⟨p0,o',cap,hp0,hxp,hnc,hcm,hcap⟩⟩:=hcv
     ·omega
     ·have hc0:cap≠0:=by omega
      obtain ⟨ho,_⟩:=hcap.resolve_left hc0
      have hps:p0.s=i0.size:=by
       rcases h.blks id blk hb with ⟨q1,_,_⟩ | ⟨p1,_,_,_,q1,q2,_⟩
       ·rw[hp0] at q1;cases q1
       ·rw[hp0] at q1;cases q1;rw[q2,hbs]
      obtain ⟨m,rfl⟩:=Int.eq_ofNat_of_zero_le hp.1;have hmn:m < n:=by have:=hp.2;omega
      refine fA h hd (x:=.pointer (some ⟨p0.b,p0.o+((i+m) * p0.s+0),none⟩)) ?_ ?_
      ·subst ho;simp[execOp,hop,hxp,hiv,Instr.indexAt,asIntOf,run_underlying hte,hmn,sizeOf,typeInfo,hie,Addr.add_lit,Nat.add_mul,hps,Nat.add_assoc]
      ·simp only[CV];exact⟨trivial,p0,hp0,by simp⟩
    ·cases he
 ·rename_i s' es k0 k;have hiv:=De hci;split at he
  ·rename_i hss;subst hss;simp only[lH,Option.some.injEq,Prod.mk.injEq] at he;obtain ⟨rfl,rfl⟩:=he;simp only[CV] at hcv;obtain ⟨_,⟨rfl,_⟩ | ⟨b,o',cap,arr,hxp,hnc,hcm,hD,hbk,hcr,hni⟩⟩:=hcv
   ·simp at hp;omega
   ·obtain ⟨m,rfl⟩:=Int.eq_ofNat_of_zero_le hp.1;have hmn:m < es.length:=by have:=hp.2;omega
    refine fA h hd (x:=.pointer (some ⟨b,o'+(m * i0.size+0),none⟩)) ?_ ?_
    ·simp[execOp,hop,hxp,hiv,Instr.indexAt,asIntOf,run_underlying hte,hmn,sizeOf,typeInfo,hie,Addr.add_lit]
    ·simp only[CV];exact⟨trivial,b,o',arr,by simp,hD,hbk,hcr,hni⟩
  ·cases he
 ·cases he
theorem aTG (h:RelD X s a w D φ F []) (hd:∀ d,o.dst=some d->d < X.n) {t:TypeId} {yx yi:Operand} {xx xi:Abs.X} (hop:o.op=.index t yx yi) (hx:cX yx=some xx) (hi:cX yi=some xi)
  (ht:P.underlying t=some .string) {p:Prop} {δ:Dl} (he:aJ8 (s.ev xx) (s.ev xi)=some (p,δ)) (hp:p):Ee P o X a w (δ.app o.dst s):=by
 have hcv:=ri hx h;have hci:=ri hi h;generalize s.ev xx=u at he hcv;generalize s.ev xi=v at he hci;unfold aJ8 at he;split at he
 ·rename_i b k0 k;have hiv:=De hci;have hxv:=De hcv;simp only[lH,Option.some.injEq,Prod.mk.injEq] at he;obtain ⟨rfl,rfl⟩:=he;obtain ⟨m,rfl⟩:=Int.eq_ofNat_of_zero_le hp.1;have hm:m < b.size:=by have:=hp.2;omega
  refine fA h hd ?_ (xZ rfl);simp[execOp,hop,hxv,hiv,Instr.index,asIntOf,run_underlying ht,hm]
 ·cases he
omit [GI] in
theorem aMx {t:TypeId} {y:Operand} {c:Call} (hop:o.op=.call c) (hcal:c.callee=.builtin .len) (harg:c.args.toList=[y]) (hty:c.argTypes.toList=[t]) {n:Nat}
  (hr:(Builtin.len_ #[t] o.type #[a.eval y]).run P w=.ok (.int .i64 n) w):(execOp a.eval o).run P w=.ok (.value (.int .i64 n)) w:=by
 obtain ⟨cal,args,tys⟩:=c;simp only at hcal harg hty;obtain rfl:args=#[y]:=by rw[<- Array.toArray_toList (xs:=args),harg]
 obtain rfl:tys=#[t]:=by rw[<- Array.toArray_toList (xs:=tys),hty]
 subst hcal;simp[execOp,hop,resolve,invoke,builtin,hr]
theorem aRF (h:RelD X s a w D φ F []) (hd:∀ d,o.dst=some d->d < X.n) {t:TypeId} {y:Operand} {x:Abs.X} {c:Call} (hop:o.op=.call c) (hcal:c.callee=.builtin .len) (harg:c.args.toList=[y]) (hty:c.argTypes.toList=[t])
  (ht:P.underlying t=some .string) (hx:cX y=some x) {p:Prop} {δ:Dl} (he:aKa (s.ev x)=some (p,δ)):Ee P o X a w (δ.app o.dst s):=by
 have hcv:=ri hx h;generalize s.ev x=u at he hcv;unfold aKa at he;split at he
 ·have hxv:=De hcv;simp only[ep,Option.some.injEq,Prod.mk.injEq] at he;obtain ⟨_,rfl⟩:=he;exact fA h hd (aMx hop hcal harg hty (by simp[hxv,Builtin.len_,run_underlying ht,goInt])) (xZ rfl)
 ·cases he
theorem aRE (h:RelD X s a w D φ F []) (hd:∀ d,o.dst=some d->d < X.n) {t:TypeId} {y:Operand} {x:Abs.X} {c:Call} (hop:o.op=.call c) (hcal:c.callee=.builtin .len) (harg:c.args.toList=[y]) (hty:c.argTypes.toList=[t])
  {e:TypeId} (ht:P.underlying t=some (.slice e)) (hx:cX y=some x) {p:Prop} {δ:Dl} (he:aJ9 (s.ev x)=some (p,δ)):Ee P o X a w (δ.app o.dst s):=by
 have hcv:=ri hx h;generalize s.ev x=u at he hcv
 have key:∀ n b c,a.eval y=.slice b n c->Ee P o X a w (({ v:=.v (.int .i64 n) }:Dl).app o.dst s):=fun n b c hxv =>
  fA h hd (aMx hop hcal harg hty (by simp[hxv,Builtin.len_,run_underlying ht,goInt])) (xZ rfl)
 unfold aJ9 at he;split at he
 ·simp only[ep,Option.some.injEq,Prod.mk.injEq] at he;obtain ⟨_,rfl⟩:=he;exact key _ _ _ (De hcv)
 ·simp only[ep,Option.some.injEq,Prod.mk.injEq] at he;obtain ⟨_,rfl⟩:=he;simp only[CV] at hcv;obtain ⟨_,⟨_,_,rfl,hxv⟩ | ⟨p0,o',cap,hp0,hxv,hnc,hcm,hcap⟩⟩:=hcv
  ·exact key _ _ _ hxv
  ·exact key _ _ _ hxv
 ·simp only[ep,Option.some.injEq,Prod.mk.injEq] at he;obtain ⟨_,rfl⟩:=he;simp only[CV] at hcv;obtain ⟨_,⟨rfl,a',cap,hxv,_⟩ | ⟨b,o',cap,arr,hxv,hnc,hcm,hD,hbk,hcr,hni⟩⟩:=hcv
  ·exact key _ _ _ hxv
  ·exact key _ _ _ hxv
 ·cases he
theorem aTE (h:RelD X s a w D φ F []) (hd:∀ d,o.dst=some d->d < X.n) {y:Operand} {x:Abs.X} {i:Nat} (hop:o.op=.extract y i) (hx:cX y=some x)
  {p:Prop} {δ:Dl} (he:(match s.ev x with | .tup vs=>(match vs[i]? with | some v=>ep v | none=>none) | _=>none)=some (p,δ)):Ee P o X a w (δ.app o.dst s):=by
 have hcv:=ri hx h;generalize s.ev x=u at he hcv;split at he
 ·rename_i vs;split at he
  ·rename_i v hv;simp only[ep,Option.some.injEq,Prod.mk.injEq] at he;obtain ⟨_,rfl⟩:=he;simp only[CV] at hcv;obtain ⟨xs,hxv,hcs⟩:=hcv;obtain ⟨z,f',h1,h2,h3⟩:=VH hcs hv;have:=xr h3;subst this;refine fA h hd (x:=z) ?_ h2;have h1':xs[i]?=some z:=by simpa using h1
   simp[execOp,hop,hxv,Instr.extract,h1']
  ·cases he
 ·cases he
theorem aTF (h:RelD X s a w D φ F []) (hd:∀ d,o.dst=some d->d < X.n) {t:TypeId} {f:Nat} {y:Operand} {x:Abs.X} {fs:Array Field} {fd:Field} {agg:Bool} {n:Nat} (hop:o.op=.field t y f) (hx:cX y=some x)
  (ht:P.underlying t=some (.struct fs)) (hf:fs[f]?=some fd) (hty:aD0 P fd.type=some (agg,n))
  {p:Prop} {δ:Dl} (he:aJ7 agg fd.offset n (s.ev x)=some (p,δ)):Ee P o X a w (δ.app o.dst s):=by
 have hcv:=ri hx h;generalize s.ev x=u at he hcv;obtain ⟨d,i,h1,h2,h3,rfl⟩:=aHv hty;unfold aJ7 at he;split at he
 ·rename_i cs;simp only[CV] at hcv;obtain ⟨xs,hxv,hcs⟩:=hcv;have hl:=lC hcs;simp only[Array.length_toList] at hl;split at he
  ·rename_i ha;subst ha;split at he
   ·rename_i hle;simp only[ep,Option.some.injEq,Prod.mk.injEq] at he;obtain ⟨_,rfl⟩:=he;have hc2:=ahp i.size (ahn fd.offset hcs);refine fA h hd (x:=.agg (xs.extract fd.offset (fd.offset+i.size))) ?_ ?_
    ·simp[execOp,hop,hxv,Instr.field,run_underlying ht,hf,asAgg,part,S7 h1,h3,sizeOf,typeInfo,h2]
    ·simp only[CV];refine⟨_,rfl,?_⟩
     have:(xs.extract fd.offset (fd.offset+i.size)).toList=(xs.toList.drop fd.offset).take i.size:=by
      rw[Array.toList_extract,List.extract_eq_take_drop];congr 1;omega
     rw[this];exact hc2
   ·cases he
  ·rename_i ha;have ha:agg=false:=by simpa using ha
   subst ha;split at he
   ·split at he
    ·rename_i v hv;simp only[ep,Option.some.injEq,Prod.mk.injEq] at he;obtain ⟨_,rfl⟩:=he;obtain ⟨z,f',g1,g2,g3⟩:=VH hcs hv;have:=xr g3;subst this;have g1':xs[fd.offset]?=some z:=by simpa using g1
     refine fA h hd (x:=z) ?_ g2;simp[execOp,hop,hxv,Instr.field,run_underlying ht,hf,asAgg,part,S7 h1,h3,g1']
    ·cases he
   ·cases he
 ·cases he
omit [GI] in
theorem aKb (max:Bool) (k:IntKind):∀ (vs:List V) (a0:Int) (xs:List Value) (r:Int),iU w D vs φ xs []->aFU max k a0 vs=some r ->
  (xs.foldlM (if max then Builtin.max2 else Builtin.min2) (.int k a0)).run P w=.ok (.int k r) w
 | [],a0,xs,r,h,hr=>by
   simp only[iU] at h;obtain ⟨rfl,_⟩:=h;simp only[aFU,Option.some.injEq] at hr;subst hr;simp
 | v::vs,a0,xs,r,h,hr=>by
   simp only[iU] at h;obtain ⟨x,xs',f1,f2,rfl,hf,h1,h2⟩:=h;have hf:=List.append_eq_nil_iff.1 hf.symm;obtain ⟨rfl,rfl⟩:=hf;unfold aFU at hr;split at hr
   ·rename_i e;cases e
   ·rename_i a' k' b rest e;cases e;have hx:=De h1;subst hx;have ih:=aKb max k vs _ xs' r h2 hr;cases max
    ·simp only[Bool.false_eq_true,if_false] at ih ⊢;simp[Builtin.min2,ih]
    ·simp only[if_true] at ih ⊢;simp[Builtin.max2,ih]
   ·cases hr
theorem axP (h:RelD X s a w D φ F []):∀ {ys:List Operand} {xs:List Abs.X},cXs ys=some xs->iU w D (xs.map s.ev) φ (ys.map a.eval) []
 | [],xs,hx=>by simp only[cXs,Option.some.injEq] at hx;subst hx;exact Je
 | y::ys,xs,hx=>by
   unfold cXs at hx;split at hx
   ·rename_i x xs' h1 h2;simp only[Option.some.injEq] at hx;subst hx;simp only[List.map_cons,iU];exact⟨_,_,[],[],rfl,rfl,ri h1 h,axP h h2⟩
   ·cases hx
theorem aSx (h:RelD X s a w D φ F []) (hd:∀ d,o.dst=some d->d < X.n) {max:Bool} {xs:List Abs.X} {c:Call} (hop:o.op=.call c) (hcal:c.callee=.builtin (if max then .max else .min)) (hx:cXs c.args.toList=some xs)
  {p:Prop} {δ:Dl} (he:vmm max (xs.map s.ev)=some (p,δ)):Ee P o X a w (δ.app o.dst s):=by
 have hcv:=axP h hx;unfold vmm at he;split at he
 ·rename_i k a0 rest hxs;split at he
  ·rename_i r hr;simp only[ep,Option.some.injEq,Prod.mk.injEq] at he;obtain ⟨_,rfl⟩:=he;rw[hxs] at hcv;simp only[iU] at hcv;obtain ⟨x,xs',f1,f2,hys,hf,h1,h2⟩:=hcv;have hf:=List.append_eq_nil_iff.1 hf.symm;obtain ⟨rfl,rfl⟩:=hf;have hx:=De h1;subst hx;have hgo:=aKb (P:=P) max k rest a0 xs' r h2 hr
   have hargs:c.args.map a.eval=(Value.int k a0::xs').toArray:=by
    apply Array.ext';simpa using hys
   refine fA h hd (x:=.int k r) ?_ (xZ rfl);cases max
   ·simp only[Bool.false_eq_true,if_false] at hcal hgo;simp[execOp,hop,hcal,resolve,invoke,builtin,Builtin.min_,hargs,hgo]
   ·simp only[if_true] at hcal hgo;simp[execOp,hop,hcal,resolve,invoke,builtin,Builtin.max_,hargs,hgo]
  ·cases he
 ·cases he
theorem aTD (h:RelD X s a w D φ F []) (hd:∀ d,o.dst=some d->d < X.n) {f:Nat} {first cs:Array Operand} {xs:List Abs.X} (hop:o.op=.makeFunc (.func f) first cs) (hfi:first.size=0) (hx:cXs cs.toList=some xs) :
  Ee P o X a w (({ v:=.clo f (xs.map s.ev) }:Dl).app o.dst s):=by
 have hcv:=axP h hx;obtain rfl:first=#[]:=by simpa using hfi
 refine fA h hd (x:=.func (.func f) #[] (cs.map a.eval)) (by simp[execOp,hop,Instr.makeFunc]) ?_;simp only[CV];exact⟨_,rfl,by simpa using hcv⟩
end
end Go.Abs
namespace Go.Abs
variable [GI]
section
variable {P : Program} {X : Ctx} {s : St} {a : Act} {w : World} {D : Nat → Prop} {φ : Nat → Option Pl} {F : Nat → List Nat} {o : Oper}
theorem aO0 (h:RelD X s a w D φ F []) {y:Option Operand} {x:Option Abs.X} (hx:cXo y=some x):(x=none/\y=none)\/∃ x' y',x=some x'/\y=some y'/\CV w D (s.ev x') φ (a.eval y') []:=by
 cases y with
 | none=>simp only[cXo,Option.some.injEq] at hx;exact .inl ⟨hx.symm,rfl⟩
 | some y =>
   simp only[cXo,Option.map_eq_some_iff] at hx;obtain ⟨x',h1,rfl⟩:=hx;exact .inr ⟨x',y,rfl,rfl,ri h1 h⟩
omit [GI] in
theorem ayp {n:Nat} {lo hi:Option V} {p:Prop} {l u:Nat} (h:aDb n lo hi=some (p,l,u)) (hp:p) :
  ((lo=none/\l=0)\/∃ k,lo=some (.v (.int k (l:Int))))/\((hi=none/\u=n)\/∃ k,hi=some (.v (.int k (u:Int))))/\l<=u/\u<=n:=by
 unfold aDb at h;split at h<;>simp only[Option.some.injEq,Prod.mk.injEq,reduceCtorEq] at h
 ·obtain ⟨rfl,rfl,rfl⟩:=h;exact⟨.inl ⟨rfl,rfl⟩,.inl ⟨rfl,rfl⟩,Nat.zero_le _,Nat.le_refl _⟩
 ·obtain ⟨rfl,rfl,rfl⟩:=h;obtain ⟨m,rfl⟩:=Int.eq_ofNat_of_zero_le hp.1;exact⟨.inr ⟨_,rfl⟩,.inl ⟨rfl,rfl⟩,by have:=hp.2;simp;omega,Nat.le_refl _⟩
 ·obtain ⟨rfl,rfl,rfl⟩:=h;obtain ⟨m,rfl⟩:=Int.eq_ofNat_of_zero_le hp.1;exact⟨.inl ⟨rfl,rfl⟩,.inr ⟨_,rfl⟩,Nat.zero_le _,by have:=hp.2;simp;omega⟩
 ·obtain ⟨rfl,rfl,rfl⟩:=h;obtain ⟨m,rfl⟩:=Int.eq_ofNat_of_zero_le hp.1;obtain ⟨m',rfl⟩:=Int.eq_ofNat_of_zero_le (Int.le_trans hp.1 hp.2.1);exact⟨.inr ⟨_,rfl⟩,.inr ⟨_,rfl⟩,by have:=hp.2;simp;omega,by have:=hp.2;simp;omega⟩
theorem aDC (isSlice:Bool) (n cap:Nat) (hn:n<=cap) {lo hi:Option Abs.X} {yl yh:Option Operand} (h:RelD X s a w D φ F []) (hl:cXo yl=some lo) (hh:cXo yh=some hi) {p:Prop} {l u:Nat}
  (hb:aDb n (lo.map s.ev) (hi.map s.ev)=some (p,l,u)) (hp:p):l<=u/\u<=n/\(Instr.sliceBounds isSlice n cap (yl.map a.eval) (yh.map a.eval) none).run P w=.ok (l,u,cap) w:=by
 obtain ⟨q1,q2,q3,q4⟩:=ayp hb hp;refine⟨q3,q4,?_⟩;have c1:u<=cap:=by omega
 have c2:l<=u:=by omega
 rcases aO0 h hl with ⟨rfl,rfl⟩ | ⟨xl,yl',rfl,rfl,h1⟩<;>rcases aO0 h hh with ⟨rfl,rfl⟩ | ⟨xh,yh',rfl,rfl,h2⟩
 ·obtain ⟨_,rfl⟩:=q1.resolve_right (by simp);obtain ⟨_,rfl⟩:=q2.resolve_right (by simp);simp[Instr.sliceBounds]
 ·obtain ⟨_,rfl⟩:=q1.resolve_right (by simp);obtain ⟨k,hk⟩:=q2.resolve_left (by simp);simp only[Option.map_some,Option.some.injEq] at hk;rw[hk] at h2;have hx:=De h2;simp[Instr.sliceBounds,Instr.sliceBound,asIntOf,hx,c1]
 ·obtain ⟨_,rfl⟩:=q2.resolve_right (by simp);obtain ⟨k,hk⟩:=q1.resolve_left (by simp);simp only[Option.map_some,Option.some.injEq] at hk;rw[hk] at h1;have hx:=De h1;simp[Instr.sliceBounds,Instr.sliceBound,asIntOf,hx,c2]
 ·obtain ⟨k,hk⟩:=q1.resolve_left (by simp);obtain ⟨k',hk'⟩:=q2.resolve_left (by simp);simp only[Option.map_some,Option.some.injEq] at hk hk';rw[hk] at h1;rw[hk'] at h2;have hx:=De h1;have hx':=De h2;simp[Instr.sliceBounds,Instr.sliceBound,asIntOf,hx,hx',c1,c2]
omit [GI] in
theorem aLP {b:ByteArray} {lo hi:Option V} {p:Prop} {δ:Dl} (h:aMC b lo hi=some (p,δ)):∃ l u,aDb b.size lo hi=some (p,l,u)/\δ={ v:=.v (.string (b.extract l u)) }:=by
 unfold aMC at h;unfold aDb;split at h<;>simp only[ep,lH,Option.some.injEq,Prod.mk.injEq,reduceCtorEq] at h
 all_goals (obtain ⟨rfl,rfl⟩:=h;exact⟨_,_,rfl,rfl⟩)
theorem aRJ (h:RelD X s a w D φ F []) (hd:∀ d,o.dst=some d->d < X.n) {t:TypeId} {y:Operand} {x:Abs.X} {yl yh:Option Operand} {lo hi:Option Abs.X} (hop:o.op=.slice t y yl yh none) (ht:P.underlying t=some .string)
  (hx:cX y=some x) (hl:cXo yl=some lo) (hh:cXo yh=some hi) {p:Prop} {δ:Dl} (he:aKe (s.ev x) (lo.map s.ev) (hi.map s.ev)=some (p,δ)) (hp:p):Ee P o X a w (δ.app o.dst s):=by
 have hcv:=ri hx h;generalize s.ev x=u at he hcv;unfold aKe at he;split at he;rotate_left
 ·cases he
 rename_i b;obtain ⟨l,u,hb,rfl⟩:=aLP he;have hxv:=De hcv;obtain ⟨_,_,hr⟩:=aDC (P:=P) false b.size b.size (Nat.le_refl _) h hl hh hb hp
 have ho:one (.string (b.extract l u))=true:=by
  have h0:one (.string b)=true:=by simp only[CV] at hcv;exact hcv.2.1
  simp only[one,decide_eq_true_eq] at h0 ⊢;rw[ByteArray.size_extract];omega
 exact fA h hd (by simp[execOp,hop,hxv,Instr.sliceAt,Instr.slice,run_underlying ht,hr]) (xZ ho)
theorem aRI (h:RelD X s a w D φ F []) (hd:∀ d,o.dst=some d->d < X.n) {t e:TypeId} {i0:TypeInfo} {y:Operand} {x:Abs.X} {yl yh:Option Operand} {lo hi:Option Abs.X} (hop:o.op=.slice t y yl yh none) (ht:P.underlying t=some (.slice e)) (hi0:P.info? e=some i0)
  (hx:cX y=some x) (hl:cXo yl=some lo) (hh:cXo yh=some hi) {p:Prop} {δ:Dl} (he:aAM i0.size s.hp (s.ev x) (lo.map s.ev) (hi.map s.ev)=some (p,δ)) (hp:p):Ee P o X a w (δ.app o.dst s):=by
 have hcv:=ri hx h;generalize s.ev x=u at he hcv
 have run:∀ (b:Option Addr) n cap l u,n<=cap->a.eval y=.slice b n cap->aDb n (lo.map s.ev) (hi.map s.ev)=some (p,l,u) ->
   (execOp a.eval o).run P w=.ok (.value (.slice (if cap=l then b else b.map (·.add (l * i0.size))) (u - l) (cap - l))) w:=by
  intro b n cap l u hn hxv hb;obtain ⟨_,_,hr⟩:=aDC (P:=P) true n cap hn h hl hh hb hp;simp[execOp,hop,hxv,Instr.sliceAt,Instr.slice,run_underlying ht,hr,sizeOf,typeInfo,hi0]
 unfold aAM at he;split at he
 ·rename_i s' es;cases hlh:aDb es.length (lo.map s.ev) (hi.map s.ev) with
  | none=>simp[hlh] at he
  | some q =>
    obtain ⟨q,l,u⟩:=q;simp only[hlh] at he;split at he
    ·rename_i hss;subst hss;simp only[lH,Option.some.injEq,Prod.mk.injEq] at he;obtain ⟨rfl,rfl⟩:=he;obtain ⟨_,_,hlu,hun⟩:=ayp hlh hp;have hlen:((es.drop l).take (u - l)).length=u - l:=by rw[List.length_take,List.length_drop];omega
     simp only[CV] at hcv;obtain ⟨_,⟨rfl,a',cap,hxv,hcm⟩ | ⟨b,o',cap,arr,hxv,hnc,hcm,hD,hbk,hcr,hni⟩⟩:=hcv
     ·simp only[List.length_nil] at hun;obtain rfl:u=0:=by omega
      obtain rfl:l=0:=by omega
      refine fA h hd (run _ _ _ _ _ (Nat.zero_le _) hxv hlh) ?_;simp only[CV];exact⟨trivial,.inl ⟨by simp,_,_,rfl,by omega⟩⟩
     ·refine fA h hd (run _ _ _ _ _ hnc hxv hlh) ?_;simp only[CV];refine⟨trivial,?_⟩;by_cases hc:cap=l
      ·left;refine⟨List.eq_nil_of_length_eq_zero (by rw[hlen];omega),_,_,by rw[show u - l=0 from by omega],by omega⟩
      ·right;refine⟨b,o'+l * i0.size,cap - l,arr,?_,by rw[hlen];omega,by omega,hD,hbk,?_,?_⟩
       ·simp[hc,Addr.add_lit,hlen]
       ·have:=VG (u - l) (amP l hcr);rw[List.drop_drop] at this;exact this
       ·exact noIdss_sub hni
    ·cases he
 ·rename_i id i n;cases hb:s.hp id with
  | none=>simp[hb] at he
  | some blk =>
    cases hlh:aDb n (lo.map s.ev) (hi.map s.ev) with
    | none=>simp[hb,hlh] at he
    | some q =>
      obtain ⟨q,l,u⟩:=q;simp only[hb,hlh] at he;split at he
      ·rename_i hbs;simp only[lH,Option.some.injEq,Prod.mk.injEq] at he;obtain ⟨rfl,rfl⟩:=he;obtain ⟨_,_,hlu,hun⟩:=ayp hlh hp;simp only[CV] at hcv;obtain ⟨_,⟨hφ,rfl,rfl,hxv⟩ | ⟨p0,o',cap,hp0,hxv,hnc,hcm,hcap⟩⟩:=hcv
       ·obtain rfl:u=0:=by omega
        obtain rfl:l=0:=by omega
        refine fA h hd (run _ _ _ _ _ (Nat.le_refl _) hxv hlh) ?_;simp[CV,hφ]
       ·refine fA h hd (run _ _ _ _ _ hnc hxv hlh) ?_
        have hps:p0.s=i0.size:=by
         rcases h.blks id blk hb with ⟨q1,_,_⟩ | ⟨p1,_,_,_,q1,q2,_⟩
         ·rw[hp0] at q1;cases q1
         ·rw[hp0] at q1;cases q1;rw[q2,hbs]
        simp only[CV];refine⟨trivial,.inr ⟨p0,if cap=l then o' else o'+l * i0.size,cap - l,hp0,?_,by omega,by omega,?_⟩⟩
        ·split<;>simp[Addr.add_lit]
        ·by_cases hc:cap=l
         ·left;omega
         ·right;obtain ⟨ho,hz⟩:=hcap.resolve_left (by omega);simp only[hc,if_false];have:i+l+(cap - l)=i+cap:=by omega
          rw[this];exact⟨by rw[ho,hps,Nat.add_mul];omega,hz⟩
      ·cases he
 ·cases he
where
 noIdss_sub {es:List V} {l u:Nat} (h:bN es=true):bN ((es.drop l).take (u - l))=true:=by
  have hall:∀ {es:List V},bN es=true↔∀ e ∈ es,gV e=true:=by
   intro es
   induction es with
   | nil=>simp[bN]
   | cons c cs ih=>simp[bN,ih]
  rw[hall] at h ⊢;exact fun e he=>h e (List.mem_of_mem_drop (List.mem_of_mem_take he))
omit [GI] in
theorem aFl (off:Nat):∀ (l:List Value) (k:Nat) (cs:Array Value),off+k+l.length<=cs.size ->
  ((l.zipIdx k).foldl (fun cs (c:Value×Nat)=>cs.setIfInBounds (off+c.2) c.1) cs).toList=cs.toList.take (off+k)++l++cs.toList.drop (off+k+l.length)
 | [],k,cs,_=>by simp
 | x::l,k,cs,h=>by
   simp only[List.length_cons] at h;simp only[List.zipIdx_cons,List.foldl_cons];rw[aFl off l (k+1) _ (by simp;omega)];simp only[Array.toList_setIfInBounds];have hlt:off+k < cs.toList.length:=by simp;omega
   rw[List.set_eq_take_append_cons_drop];simp only[hlt,if_true];have ht:(cs.toList.take (off+k)).length=off+k:=by rw[List.length_take];omega
   rw[show off+(k+1)=off+k+1 from rfl,List.take_append_of_le_length' (x:=x) ht,List.drop_append_of_gt' (x:=x) ht (by omega)];simp[List.drop_drop];congr 1;omega
where
 List.take_append_of_le_length' {A B:List Value} {n:Nat} {x:Value} (h:A.length=n):(A++x::B).take (n+1)=A++[x]:=by
  subst h;rw[List.take_length_add_append];simp
 List.drop_append_of_gt' {A B:List Value} {n m:Nat} {x:Value} (h:A.length=n) (hm:n < m):(A++x::B).drop m=B.drop (m - n - 1):=by
  subst h;obtain ⟨k,rfl⟩:∃ k,m=A.length+(k+1):=⟨m - A.length - 1,by omega⟩;rw[List.drop_length_add_append];simp
omit [GI] in
theorem Td (l cs:Array Value) (off:Nat) (h:off+l.size<=cs.size) :
  (l.zipIdx.foldl (fun cs (c,j)=>cs.setIfInBounds (off+j) c) cs).toList=cs.toList.take off++l.toList++cs.toList.drop (off+l.size):=by
 rw[<- Array.foldl_toList,Array.toList_zipIdx];simpa using aFl off l.toList 0 cs (by simpa using h)
theorem acW (h:RelD X s a w D φ F []) (places:List (Nat×Nat)):∀ (parts:List (Nat×Operand)) (ps:List (Nat×Nat×Abs.X)) (cs cs':List V) (cells:Array Value),cPs places parts=some ps->iU w D cs φ cells.toList [] ->
  axr s.ev cs ps=some cs'->∃ arr,Instr.fill (places.toArray[·]?) cells (parts.map fun x=>(x.1,a.eval x.2))=some arr/\iU w D cs' φ arr.toList []
 | [],ps,cs,cs',cells,hp,hc,hs=>by
   simp only[cPs,Option.some.injEq] at hp;subst hp;simp only[axr,Option.some.injEq] at hs;subst hs;exact⟨cells,by simp[Instr.fill],hc⟩
 | (i,x)::parts,ps,cs,cs',cells,hp,hc,hs=>by
   unfold cPs at hp;split at hp
   ·rename_i off n y ys h1 h2 h3;simp only[Option.some.injEq] at hp;subst hp;unfold axr at hs;split at hs
    ·rename_i vs hvs;split at hs
     ·rename_i hcond;obtain ⟨hl,hle,hno⟩:=hcond;have hcv:=Z6 hvs (ri h2 h);have l1:=lC hcv;have l2:=lC hc;simp only[Array.length_toList] at l1 l2;have hsz:(a.eval x).cells.size=n:=by omega
      have hfold:=Td (a.eval x).cells cells off (by omega);have hc':=HL (HL (ahp off hc) hcv) (ahn (off+n) hc);obtain ⟨arr,g1,g2⟩:=acW h places parts ys _ cs' ((a.eval x).cells.zipIdx.foldl (fun cs (c,j)=>cs.setIfInBounds (off+j) c) cells) h3 (by rw[hfold,hsz];simpa using hc') hs;refine⟨arr,?_,g2⟩;simp only[List.map_cons,Instr.fill];have:places.toArray[i]?=some (off,n):=by simpa using h1
      rw[this];have hc1:¬((a.eval x).cells.size≠n):=by omega
      have hc2:¬(off+(a.eval x).cells.size > cells.size):=by omega
      simp only[hc2,decide_false,Bool.or_false,decide_eq_true_eq,hc1,if_false];exact g1
     ·cases hs
    ·cases hs
   ·cases hp
omit [GI] in
theorem aJu {x:Value} {v:V} {n:Nat} (h:ofV x=some v) (hs:ag7 v=some n):x.cells.toList.all one=true:=by
 unfold ofV at h;split at h
 ·rename_i cs;split at h
  ·rename_i hc;rw[List.all_eq_true];intro y hy;exact Array.all_eq_true'.1 hc y (by simpa [Value.cells] using hy)
  ·cases h
 ·split at h
  ·simp only[Option.some.injEq] at h;subst h;simp[ag7,fR] at hs
  ·cases h
 ·split at h
  ·rename_i this;rw[ayB this];simp[this]
  ·cases h
omit [GI] in
theorem ank {i:TypeInfo} {z:V} (h:aei i=some z):∃ x,i.zero=some x/\ofV x=some z:=by
 unfold aei at h;cases hz:i.zero with
 | none=>simp[hz] at h
 | some x=>exact⟨x,rfl,by simpa [hz] using h⟩
theorem aPQ (h:RelD X s a w D φ F []) (hd:∀ d,o.dst=some d->d < X.n) {t:TypeId} {parts:Array (Nat×Operand)} {fs:Array Field} {i0:TypeInfo} {z:V} {places:List (Nat×Nat)} {ps:List (Nat×Nat×Abs.X)}
  (hop:o.op=.build t parts) (ht:P.underlying t=some (.struct fs)) (hi:P.info? t=some i0) (hz:aei i0=some z) (hpl:aDn P fs=some places) (hps:cPs places parts.toList=some ps)
  {p:Prop} {δ:Dl} (he:aef s.ev z ps=some (p,δ)):Ee P o X a w (δ.app o.dst s):=by
 obtain ⟨x0,hx0,hof⟩:=ank hz;unfold aef at he;split at he
 ·rename_i cs;split at he
  ·rename_i cs' hset;simp only[ep,Option.some.injEq,Prod.mk.injEq] at he;obtain ⟨_,rfl⟩:=he;have hz0:CV w D (.agg cs) φ x0 []:=aDg hof;simp only[CV] at hz0;obtain ⟨xs,rfl,hcs⟩:=hz0;obtain ⟨arr,g1,g2⟩:=acW h places parts.toList ps cs cs' xs hps hcs hset;refine fA h hd (x:=.agg arr) ?_ (by simp only[CV];exact⟨_,rfl,g2⟩)
   have hb:P.built t (parts.map fun x=>(x.1,a.eval x.2)).toList=some arr:=by
    unfold Program.built;unfold aDn at hpl;simp only[hi,ht,hx0,hpl];simpa [Value.cells] using g1
   have:=run_build w t _ arr hb;simp[execOp,hop,this]
  ·cases he
 ·cases he
omit [GI] in
theorem asN {z:V} {x:Value} {n:Nat} (hc:CV w D z φ x []) (hs:x.cells.size=n/\x.cells.toList.all one=true):∀ (k:Nat) (xs:List Value),xs.length=k * n->(∀ i,i < k * n->xs[i]?=x.cells[i % n]?)->CR w D n (List.replicate k z) φ xs []
 | 0,xs,hl,hx=>by simp[CR]
 | k+1,xs,hl,hx=>by
   simp only[List.replicate_succ,CR];refine⟨x,xs.drop n,[],[],?_,hs,rfl,hc,asN hc hs k _ ?_ fun i hi=>?_⟩
   ·refine List.ext_getElem? fun j=>?_;by_cases hj:j < n
    ·rw[hx j (by rw[Nat.add_mul,Nat.one_mul];omega),Nat.mod_eq_of_lt hj,List.getElem?_append_left (by simpa [hs.1] using hj)];simp
    ·rw[List.getElem?_append_right (by simp[hs.1];omega),List.getElem?_drop];congr 1;simp[hs.1];omega
   ·rw[List.length_drop,hl,Nat.add_mul,Nat.one_mul];omega
   ·rw[List.getElem?_drop,hx (n+i) (by rw[Nat.add_mul,Nat.one_mul];omega)];simp
omit [GI] in
theorem aLV {z:V} {x:Value} {n:Nat} (hc:CV w D z φ x []) (hs:x.cells.size=n/\x.cells.toList.all one=true) (k:Nat) (hn:n≠0):CR w D n (List.replicate k z) φ ((Array.range (k * n)).map fun i=>x.cells[i % x.cells.size]!).toList []:=by
 refine asN hc hs k _ (by simp) fun i hi=>?_;have:i % n < x.cells.size:=by rw[hs.1];exact Nat.mod_lt _ (by omega)
 simp only[Array.toList_map,Array.toList_range,List.getElem?_map,List.getElem?_range hi,Option.map_some,hs.1];rw[getElem!_pos x.cells _ this,getElem?_pos x.cells _ this]
theorem aJR (h:RelD X s a w D φ F []) (n:Nat):∀ (parts:List (Nat×Operand)) (ps:List (Nat×Abs.X)) (es es':List V) (cells:Array Value),cPt parts=some ps->CR w D n es φ cells.toList []->cells.size=es.length * n->cO es=true ->
  ag6 s.ev n es ps=some es'->∃ arr,Instr.fill (fun i=>some (i * n,n)) cells (parts.map fun x=>(x.1,a.eval x.2))=some arr/\CR w D n es' φ arr.toList []/\es'.length=es.length/\arr.size=cells.size
 | [],ps,es,es',cells,hp,hc,hl,hno,hs=>by
   simp only[cPt,Option.some.injEq] at hp;subst hp;simp only[ag6,Option.some.injEq] at hs;subst hs;exact⟨cells,by simp[Instr.fill],hc,rfl,rfl⟩
 | (i,x)::parts,ps,es,es',cells,hp,hc,hl,hno,hs=>by
   unfold cPt at hp;split at hp
   ·rename_i y ys h1 h2;simp only[Option.some.injEq] at hp;subst hp;unfold ag6 at hs;split at hs
    ·rename_i hcond;obtain ⟨hi,hsz,hnx,hfl⟩:=hcond;have hcv:=ri h1 h;have hxs:=amr hsz hcv;have hmul:(i+1) * n<=es.length * n:=Nat.mul_le_mul_right _ hi;rw[Nat.add_mul,Nat.one_mul] at hmul;have hfold:=Td (a.eval x).cells cells (i * n) (by omega);obtain ⟨e,he⟩:∃ e,es[i]?=some e:=⟨es[i],List.getElem?_eq_getElem hi⟩;have hne:g9 e=true:=noOwn_get hno he;have hspl:cells.toList.take (i * n)++(a.eval x).cells.toList++cells.toList.drop (i * n+(a.eval x).cells.size)=cells.toList.take (i * n)++(a.eval x).cells.toList++cells.toList.drop (i * n+(a.eval x).cells.toList.length):=by simp
     have hbd:i * n+(a.eval x).cells.toList.length<=cells.toList.length:=by simp;omega
     have hcr:=aKj (e':=s.ev y) (y:=a.eval x) (ys:=((a.eval x).cells.zipIdx.foldl (fun cs (c,j)=>cs.setIfInBounds (i * n+j) c) cells).toList) hc he hne hcv ⟨hxs,Zo hfl hcv⟩
      (by rw[hfold,hspl,Hp _ _ _ hbd]) (fun j hj=>by
       rw[hfold,hspl,Ii _ _ _ _ hbd];simp only[Array.length_toList,hxs];split
       ·rfl
       ·rw[if_neg (by omega)]) (fun j hj=>by
       rw[hfold,hspl,Ii _ _ _ _ hbd];simp only[Array.length_toList,hxs];rw[if_neg (by omega),if_pos (by omega),show i * n+j - i * n=j from by omega];simp)
     have hsz':((a.eval x).cells.zipIdx.foldl (fun cs (c,j)=>cs.setIfInBounds (i * n+j) c) cells).size=cells.size:=by
      have:=congrArg List.length hfold;rw[hspl,Hp _ _ _ hbd] at this;simpa using this
     obtain ⟨arr,g1,g2,g3,g4⟩:=aJR h n parts ys _ es' _ h2 hcr (by rw[hsz',hl,List.length_set]) (asr hno hnx) hs;refine⟨arr,?_,g2,by rw[g3,List.length_set],by rw[g4,hsz']⟩;simp only[List.map_cons,Instr.fill];have hc1:¬((a.eval x).cells.size≠n):=by omega
     have hc2:¬(i * n+(a.eval x).cells.size > cells.size):=by omega
     simp only[hc2,decide_false,Bool.or_false,decide_eq_true_eq,hc1,if_false];exact g1
    ·cases hs
   ·cases hp
where
 noOwn_get {es:List V} {i:Nat} {e:V} (h:cO es=true) (he:es[i]?=some e):g9 e=true:=by
  induction es generalizing i with
  | nil=>simp at he
  | cons c cs ih =>
    simp only[cO,Bool.and_eq_true] at h;cases i with
    | zero=>simp at he;exact he▸h.1
    | succ i=>exact ih h.2 (by simpa using he)
 asr {es:List V} {i:Nat} {e:V} (h:cO es=true) (he:g9 e=true):cO (es.set i e)=true:=by
  induction es generalizing i with
  | nil=>simp[cO]
  | cons c cs ih =>
    simp only[cO,Bool.and_eq_true] at h;cases i with
    | zero=>simp[cO,he,h.2]
    | succ i=>simp[cO,h.1,ih h.2]
omit [GI] in
theorem aaB {z:V} (h:g9 z=true):∀ n,cO (List.replicate n z)=true
 | 0=>rfl
 | n+1=>by simp[List.replicate_succ,cO,h,aaB h n]
omit [GI] in
theorem Pz {z:V} {d:Nat} (h:gj d z=false):∀ n,da d (List.replicate n z)=false
 | 0=>rfl
 | n+1=>by simp[List.replicate_succ,da,h,Pz h n]
omit [GI] in
theorem aay {d:Nat} {e:V} (he:gj d e=false):∀ {es:List V} {i:Nat},da d es=false->da d (es.set i e)=false
 | [],i,h=>by simp[da]
 | c::cs,0,h=>by
   simp only[da,Bool.or_eq_false_iff] at h;simp[da,he,h.2]
 | c::cs,i+1,h=>by
   simp only[da,Bool.or_eq_false_iff] at h;simp[da,h.1,aay he h.2]
omit [GI] in
theorem azT {d:Nat} (hf:Fresh s d) {n:Nat}:∀ {parts:List (Nat×Operand)} {ps:List (Nat×Abs.X)} {es es':List V},cPt parts=some ps->da d es=false->ag6 s.ev n es ps=some es'->da d es'=false
 | [],ps,es,es',hp,hm,hs=>by
   simp only[cPt,Option.some.injEq] at hp;subst hp;simp only[ag6,Option.some.injEq] at hs;subst hs;exact hm
 | (i,x)::parts,ps,es,es',hp,hm,hs=>by
   unfold cPt at hp;split at hp
   ·rename_i y ys h1 h2;simp only[Option.some.injEq] at hp;subst hp;unfold ag6 at hs;split at hs
    ·exact azT hf h2 (aay (aHQ h1 hf) hm) hs
    ·cases hs
   ·cases hp
omit [GI] in
theorem S3 {d n:Nat} {b z s':Nat} {φ:Nat->Option Pl} {cap:Nat} (hn:n<=cap) (hc:cap<=maxLen) (hz:cap * s'<=z):CV w D (.sl d 0 n) (oY φ d (some ⟨b,0,s',z⟩)) (.slice (some ⟨b,0,none⟩) n cap) []:=by
 simp only[CV,ju];exact⟨trivial,.inr ⟨_,0,cap,rfl,rfl,hn,hc,.inr ⟨by simp,by simpa using hz⟩⟩⟩
theorem aNC (h:RelD X s a w D φ F []) {t:TypeId} {n d:Nat} {parts:Array (Nat×Operand)} {i0:TypeInfo} {z:V} {ps:List (Nat×Abs.X)}
  (hop:o.op=.buildSlice t n parts) (ht:Dd P t=some i0) (hz:aei i0=some z) (hps:cPt parts.toList=some ps) (hdst:o.dst=some d) (hd:d < X.n) (hf:Fresh s d) (hp:d ∉ X.pin)
  {p:Prop} {δ:Dl} (he:NF s.ev i0.size z n d ps=some (p,δ)):Ee P o X a w (δ.app o.dst s):=by
 obtain ⟨e,hte,hie⟩:=S1 ht;obtain ⟨x0,hx0,hof⟩:=ank hz;unfold NF at he;split at he
 ·rename_i hcond;obtain ⟨hsz,hn0,hle,hno⟩:=hcond;split at he
  ·rename_i es hset;simp only[Option.some.injEq,Prod.mk.injEq] at he;obtain ⟨_,rfl⟩:=he;have hz0:CV w D z φ x0 []:=aDg hof;have hxs:=amr hsz hz0;have hcr:=aLV hz0 ⟨hxs,aJu hof hsz⟩ n hn0;obtain ⟨arr,g1,g2,g3,g4⟩:=aJR h i0.size parts.toList ps _ es _ hps hcr (by simp) (aaB hno n) hset;simp only[List.length_replicate] at g3;have hsize:arr.size=n * i0.size:=by rw[g4];simp
   refine amk h hdst hd hf hp (x:=.slice (some ⟨w.heap.size,0,none⟩) n n) (w':=w.alloc (.cells arr e)) ?_ rfl rfl rfl arr e rfl ⟨i0.size,es⟩ (azT hf hps (Pz (Ag _ _ (am6 hof)) n) hset) g2
    (S3 (Nat.le_refl _) ?_ (by show n * i0.size<=arr.size;omega))
   ·have hnle:¬(16777216 < n * i0.size):=by omega
    by_cases hnz:n * i0.size=0
    ·have:n=0:=by
      rcases Nat.mul_eq_zero.1 hnz with q | q
      ·exact q
      ·exact absurd q hn0
     subst this;simp only[Nat.zero_mul,Array.range_zero',Array.map_empty] at g1;simp[execOp,hop,Instr.buildSlice,run_underlying hte,sizeOf,typeInfo,hie,g1,newRow,Array.range_zero']
    ·simp[execOp,hop,Instr.buildSlice,run_underlying hte,sizeOf,typeInfo,hie,hnle,hnz,zeroValue,hx0,newRow] at g1 ⊢;simp[g1]
   ·have:n<=n * i0.size:=Nat.le_mul_of_pos_right _ (by omega);unfold maxLen;omega
  ·cases he
 ·cases he
theorem aTH (h:RelD X s a w D φ F []) {t:TypeId} {d:Nat} {yl yc:Operand} {xl xc:Abs.X} {i0:TypeInfo} {z:V}
  (hop:o.op=.makeSlice t yl yc) (ht:Dd P t=some i0) (hz:aei i0=some z) (hl:cX yl=some xl) (hc:cX yc=some xc) (hdst:o.dst=some d) (hd:d < X.n) (hf:Fresh s d) (hpin:d ∉ X.pin)
  {p:Prop} {δ:Dl} (he:aHy i0.size i0.bytes z d (s.ev xl) (s.ev xc)=some (p,δ)) (hp:p):Ee P o X a w (δ.app o.dst s):=by
 obtain ⟨e,hte,hie⟩:=S1 ht;obtain ⟨x0,hx0,hof⟩:=ank hz;have hcl:=ri hl h;have hcc:=ri hc h;generalize s.ev xl=u at he hcl;generalize s.ev xc=v at he hcc;unfold aHy at he;split at he
 ·rename_i l c;split at he
  ·rename_i hcond;obtain ⟨rfl,hsz,hby,hno,hn0⟩:=hcond;simp only[Option.some.injEq,Prod.mk.injEq] at he;obtain ⟨rfl,rfl⟩:=he;have hxl:=De hcl;have hxc:=De hcc;obtain ⟨m,rfl⟩:=Int.eq_ofNat_of_zero_le hp.1;have hm:m<=bR:=by have:=hp.2;omega
   have hz0:CV w D z φ x0 []:=aDg hof;have hxs:=amr hsz hz0;have hcr:=aLV hz0 ⟨hxs,aJu hof hsz⟩ m hn0;have hb:i0.bytes * m<=140737488355328:=Nat.le_trans (Nat.mul_le_mul hby hm) (by unfold bR;decide);simp only[Int.toNat_natCast,Int.ofNat_eq_natCast] at *
   refine amk h hdst hd hf hpin (x:=.slice (some ⟨w.heap.size,0,none⟩) m m) (w':=w.alloc (.cells ((Array.range (m * i0.size)).map fun i=>x0.cells[i % x0.cells.size]!) e)) ?_ rfl rfl rfl _ e rfl ⟨i0.size,List.replicate m z⟩
    (Pz (Ag _ _ (am6 hof)) m) hcr (S3 (Nat.le_refl _) (by unfold maxLen;unfold bR at hm;omega) (by simp))
   have hw1:IntKind.i64.wrap (m:Int)=m:=by
    unfold bR at hm;simp[IntKind.wrap,IntKind.bits,IntKind.signed];omega
   have hb1:¬(281474976710656 < (i0.bytes:Int) * (m:Int)):=by
    rw[<- Int.natCast_mul];omega
   have hm0:¬((m:Int) < 0):=by omega
   by_cases hnz:m * i0.size=0
   ·have:m=0:=by
     rcases Nat.mul_eq_zero.1 hnz with q | q
     ·exact q
     ·exact absurd q hn0
    subst this;simp[execOp,hop,hxl,hxc,Instr.makeSlice,run_underlying hte,asInt,asIntOf,sizeOf,typeInfo,hie,newRow,IntKind.wrap,IntKind.bits,IntKind.signed,Array.range_zero']
   ·simp[execOp,hop,hxl,hxc,Instr.makeSlice,run_underlying hte,asInt,asIntOf,sizeOf,typeInfo,hie,newRow,hw1,hb1,hm0,hnz,zeroValue,hx0]
  ·cases he
 ·cases he
end
end Go.Abs
namespace Go.Abs
variable [GI]
section
variable {P : Program} {X : Ctx} {s : St} {a : Act} {w : World} {D : Nat → Prop} {φ : Nat → Option Pl} {F : Nat → List Nat} {o : Oper}
omit [GI] in
theorem aBw:∀ {s:Nat} {es:List V} {φ:Nat->Option Pl} {xs:List Value} {f:List Nat},CR w D s es φ xs f->∀ x ∈ xs.take (es.length * s),one x=true
 | s,[],φ,xs,f,h,x,hx=>by simp at hx
 | s,e::es,φ,xs,f,h,x,hx=>by
   simp only[CR] at h;obtain ⟨y,rest,f1,f2,rfl,⟨hs,ho⟩,rfl,h1,h⟩:=h;have:(e::es).length * s=y.cells.toList.length+es.length * s:=by simp[hs,Nat.add_mul];omega
   rw[this,List.take_length_add_append] at hx;rcases List.mem_append.1 hx with hx | hx
   ·exact List.all_eq_true.1 ho x hx
   ·exact aBw h x hx
theorem aLD (h:RelD X s a w D φ F []) {y:Operand} {x:Abs.X} (hx:cX y=some x) {sz:Nat} {ds:List V} (hs:Vr sz s.hp (s.ev x)=some ds) :
  ∃ ad c news,a.eval y=.slice ad ds.length c/\news.length=ds.length * sz/\(ds.length≠0->∃ b,ad=some b/\∀ j u,news[j]?=some u->w.cell? (b.add j)=some u)/\(∀ u ∈ news,one u=true) /\
   (cO ds=true->CR w D sz ds φ news []):=by
 have hcv:=ri hx h;generalize s.ev x=v at hs hcv;unfold Vr at hs;split at hs
 ·rename_i id i n;cases hb:s.hp id with
  | none=>simp[hb] at hs
  | some blk =>
    simp only[hb] at hs;split at hs
    ·rename_i hcond;obtain ⟨hbs,hno,hle⟩:=hcond;simp only[Option.some.injEq] at hs;subst hs;have hlen:((blk.es.drop i).take n).length=n:=by rw[List.length_take,List.length_drop];omega
     simp only[CV] at hcv;obtain ⟨_,⟨_,_,rfl,hxv⟩ | ⟨p0,o',cap,hp0,hxv,hnc,hcm,hcap⟩⟩:=hcv
     ·exact⟨none,0,[],by rw[hlen];exact hxv,by simp,by simp,by simp,fun _=>by simp[CR]⟩
     ·rw[hlen];by_cases hn:n=0
      ·subst hn;exact⟨_,cap,[],hxv,by simp,by simp,by simp,fun _=>by simp[CR]⟩
      ·rcases h.blks id blk hb with ⟨q,_,_⟩ | ⟨p1,arr,ty,f',q1,q2,q3,q4,q5,q6⟩
       ·rw[hp0] at q;cases q
       ·rw[hp0] at q1;cases q1;have:f'=[]:=Ta _ _ _ _ hno q6;subst this;obtain ⟨ho,_⟩:=hcap.resolve_left (by omega);have hcr:=VG n (amP i q6);rw[List.drop_drop,hbs] at hcr;have hl:=Z5 q6;simp only[List.length_drop,Array.length_toList,hbs] at hl;have hmul:(i+n) * sz<=blk.es.length * sz:=Nat.mul_le_mul_right _ hle;rw[Nat.add_mul] at hmul;refine⟨_,cap,(arr.toList.drop (p0.o+i * sz)).take (n * sz),hxv,?_,fun _=>⟨_,rfl,fun j u hu=>?_⟩,?_,fun _=>YW hcr fun j hj=>?_⟩
        ·rw[List.length_take,List.length_drop,Array.length_toList];by_cases hz:n * sz=0
         ·omega
         ·have:0 < blk.es.length * sz:=by omega
          omega
        ·rw[List.getElem?_take] at hu;split at hu
         ·rw[List.getElem?_drop,Array.getElem?_toList] at hu;rw[Addr.add_lit,Fo q4.blk,ho,q2,hbs];exact hu
         ·cases hu
        ·have:=aBw hcr;rw[hlen] at this;exact this
        ·rw[hlen] at hj;rw[List.getElem?_take,if_pos hj]
    ·cases hs
 ·rename_i s' es;split at hs
  ·rename_i hss;subst hss;simp only[Option.some.injEq] at hs;subst hs;simp only[CV] at hcv;obtain ⟨_,⟨rfl,a',cap,hxv,_⟩ | ⟨b,o',cap,arr,hxv,hnc,hcm,hD,hbk,hcr,hni⟩⟩:=hcv
   ·exact⟨a',cap,[],hxv,by simp,by simp,by simp,fun _=>by simp[CR]⟩
   ·have hl:=Z5 hcr;rw[List.length_drop] at hl;refine⟨_,cap,(arr.toList.drop o').take (es.length * s'),hxv,?_,fun _=>⟨_,rfl,fun j u hu=>?_⟩,aBw hcr,fun _=>?_⟩
    ·rw[List.length_take,List.length_drop];omega
    ·rw[List.getElem?_take] at hu;split at hu
     ·rw[List.getElem?_drop,Array.getElem?_toList] at hu;rw[Addr.add_lit,Fo hbk];exact hu
     ·cases hu
    ·refine YW (lv (fun _ hb=>hb) _ _ _ _ _ _ (fun _ _=>rfl) (fun id hm=>?_) hcr) fun j hj=>?_
     ·rw[jO id es hni] at hm;cases hm
     ·rw[List.getElem?_take,if_pos hj]
  ·cases hs
 ·simp only[Option.some.injEq] at hs;subst hs;have hxv:=De hcv;exact⟨_,_,[],hxv,by simp,by simp,by simp,fun _=>by simp[CR]⟩
 ·cases hs
omit [GI] in
theorem axl {t:TypeId} {yx yy:Operand} {c:Call} (hop:o.op=.call c) (hcal:c.callee=.builtin .append) (harg:c.args.toList=[yx,yy]) (hty:c.argTypes.toList=[t,t]) {r:Value} {w':World}
  (hr:(Builtin.append_ #[t,t] o.type #[a.eval yx,a.eval yy]).run P w=.ok r w'):(execOp a.eval o).run P w=.ok (.value r) w':=by
 obtain ⟨cal,args,tys⟩:=c;simp only at hcal harg hty;obtain rfl:args=#[yx,yy]:=by rw[<- Array.toArray_toList (xs:=args),harg]
 obtain rfl:tys=#[t,t]:=by rw[<- Array.toArray_toList (xs:=tys),hty]
 subst hcal;simp[execOp,hop,resolve,invoke,builtin,hr]
omit [GI] in
theorem ag3 {t e ty:TypeId} {i:TypeInfo} (ht:P.underlying t=some (.slice e)) (hi:P.info? e=some i) (base:Option Addr) (n cap:Nat) (hn:n<=cap) (y:Option Addr) (c:Nat) :
  (Builtin.append_ #[t,t] ty #[.slice base n cap,.slice y 0 c]).run P w=.ok (.slice base n cap) w:=by
 have hf:(Builtin.firstCells i.size 0 (.slice y 0 c)).run P w=.ok #[] w:=by
  cases y<;>simp[Builtin.firstCells,loadCells,loadCellsFrom]
 cases base<;>simp[Builtin.append_,run_underlying ht,sizeOf,typeInfo,hi,Builtin.lenOf,hn,hf,storeCells]
omit [GI] in
theorem ayM {t e ty ety:TypeId} {i:TypeInfo} (ht:P.underlying t=some (.slice e)) (hi:P.info? e=some i) {b f n cap m c:Nat} {arr:Array Value} {fr:Nat×Nat} (hok:ar5 arr fr) (hw:w.heap[b]?=some (.cells arr ety fr)) {ad:Addr} (news:List Value)
  (hl:news.length=m * i.size) (hnews:∀ j u,news[j]?=some u->w.cell? (ad.add j)=some u) (h1:∀ u ∈ news,one u=true) (hroom:n+m<=cap) (hfit:f+n * i.size+news.length<=arr.size) :
  ∃ arr':Array Value,arr'.toList=arr.toList.take (f+n * i.size)++news++arr.toList.drop (f+n * i.size+news.length) /\
   (Builtin.append_ #[t,t] ty #[.slice (some ⟨b,f,none⟩) n cap,.slice (some ad) m c]).run P w=.ok (.slice (some ⟨b,f,none⟩) (n+m) cap) { w with heap:=w.heap.setIfInBounds b (.cells arr' ety fr) }:=by
 obtain ⟨arr',g1,g2⟩:=axm (P:=P) hok hw news h1 hfit;refine⟨arr',g1,?_⟩;have hf:=run_firstCells_some (P:=P) w i.size m ad m c news hl hnews;simp[Builtin.append_,run_underlying ht,sizeOf,typeInfo,hi,Builtin.lenOf,hroom,hf,Addr.add_lit,g2]
omit [GI] in
theorem Zf {d:Nat} {es:List V} (h:da d es=false) (i n:Nat):da d ((es.drop i).take n)=false:=by
 have hall:∀ {es:List V},da d es=false↔∀ e ∈ es,gj d e=false:=by
  intro es
  induction es with
  | nil=>simp[da]
  | cons c cs ih=>simp[da,ih]
 rw[hall] at h ⊢;exact fun e he=>h e (List.mem_of_mem_drop (List.mem_of_mem_take he))
omit [GI] in
theorem at4 {d:Nat}:∀ {es ds:List V},da d es=false->da d ds=false->da d (es++ds)=false
 | [],ds,_,h=>h
 | c::cs,ds,h,h'=>by
   simp only[da,Bool.or_eq_false_iff,List.cons_append] at h ⊢;exact⟨h.1,at4 h.2 h'⟩
omit [GI] in
theorem aFQ {y:Operand} {x:Abs.X} (hx:cX y=some x) {d:Nat} (hf:Fresh s d) {sz:Nat} {ds:List V} (hs:Vr sz s.hp (s.ev x)=some ds) (hn:∀ sz es,s.ev x=.ro sz es->da d es=false):da d ds=false:=by
 generalize s.ev x=v at hs hn;unfold Vr at hs;split at hs
 ·rename_i id i n;cases hb:s.hp id with
  | none=>simp[hb] at hs
  | some blk =>
    simp only[hb] at hs;split at hs
    ·simp only[Option.some.injEq] at hs;subst hs;exact Zf (hf.hp id blk hb) i n
    ·cases hs
 ·split at hs
  ·simp only[Option.some.injEq] at hs;subst hs;exact hn _ _ rfl
  ·cases hs
 ·simp only[Option.some.injEq] at hs;subst hs;rfl
 ·cases hs
theorem aL6 (h:RelD X s a w D φ F []) {d:Nat} (hdst:o.dst=some d) (hd:d < X.n) (hf:Fresh s d) (hp:d ∉ X.pin) (sz:Nat) (hr:(execOp a.eval o).run P w=.ok (.value (.slice none 0 0)) w) :
  Rel X (({ v:=.sl d 0 0,new:=some ⟨sz,[]⟩ }:Dl).app (some d) s) (a.put (some d) (.slice none 0 0)) w:=by
 have h1:=RelD.settle (f:=[]) (G:=[]) h d hf hp none ⟨sz,[]⟩ (.inl ⟨by simp,rfl,rfl⟩);exact⟨D,_,_,h1.put d hd (.sl d 0 0) (.slice none 0 0) (by simp[CV])⟩
omit [GI] in
theorem aeS {n:Nat} (h:n<=bR):n<=maxLen:=by unfold bR at h;unfold maxLen;omega
theorem aQY (h:RelD X s a w D φ F []) {d:Nat} (hdst:o.dst=some d) (hd:d < X.n) (hf:Fresh s d) (hp:d ∉ X.pin) {sz n cap:Nat} {es:List V} {arr:Array Value} {e:TypeId} {w':World}
  (hr:(execOp a.eval o).run P w=.ok (.value (.slice (some ⟨w.heap.size,0,none⟩) n cap)) w') (hh:w'.heap=w.heap.push (.cells arr e (0,0))) (hos:w'.os=w.os) (htape:w'.tape=w.tape) (hout:w'.output=w.output)
  (hm:da d es=false) (hc:CR w D sz es φ arr.toList []) (hn:n<=cap) (hcm:cap<=maxLen) (hz:cap * sz<=arr.size) (del:Option Nat) :
  Ee P o X a w (({ v:=.sl d 0 n,new:=some ⟨sz,es⟩,del:=del }:Dl).app o.dst s):=by
 cases del with
 | none=>exact amk h hdst hd hf hp hr hos htape hout arr e hh ⟨sz,es⟩ hm hc (S3 hn hcm hz)
 | some id =>
   have h0:=(h.release id).gsub (G':=[]) (List.nil_sublist _)
   have hf':Fresh { s with hp:=oY s.hp id none } d:=⟨hf.sl,fun i b hb=>by
    by_cases e:i=id
    ·subst e;simp at hb
    ·simp only[oY,e,if_false] at hb;exact hf.hp i b hb,by
    by_cases e:d=id
    ·subst e;simp
    ·simp only[oY,e,if_false];exact hf.no⟩
   have h1:=amk (o:=o) (P:=P) h0 hdst hd hf' hp hr hos htape hout arr e hh ⟨sz,es⟩ hm hc (S3 hn hcm hz);exact h1
theorem aOO (h:RelD X s a w D φ F []) {d:Nat} (hdst:o.dst=some d) (hd:d < X.n) (hf:Fresh s d) (hp:d ∉ X.pin) {sz n cap:Nat} {es:List V} {arr:Array Value} {e:TypeId} {w':World}
  (hr:(execOp a.eval o).run P w=.ok (.value (.slice (some ⟨w.heap.size,0,none⟩) n cap)) w') (hh:w'.heap=w.heap.push (.cells arr e (0,0))) (hos:w'.os=w.os) (htape:w'.tape=w.tape) (hout:w'.output=w.output)
  (hm:da d es=false) (id:Nat) {f0:List Nat} (hsub:f0.Sublist (F id)) (hc:CR w D sz es φ arr.toList f0) (hn:n<=cap) (hcm:cap<=maxLen) (hz:cap * sz<=arr.size) :
  Ee P o X a w (({ v:=.sl d 0 n,new:=some ⟨sz,es⟩,del:=some id }:Dl).app o.dst s):=by
 have h0:=(h.release id).gsub (G':=f0++[]) (hsub.append (List.Sublist.refl []))
 have hf':Fresh { s with hp:=oY s.hp id none } d:=⟨hf.sl,fun i b hb=>by
  by_cases e:i=id
  ·subst e;simp at hb
  ·simp only[oY,e,if_false] at hb;exact hf.hp i b hb,by
  by_cases e:d=id
  ·subst e;simp
  ·simp only[oY,e,if_false];exact hf.no⟩
 have h1:=(RelD.newF h0 d hf' hp w' hos htape hout arr e hh ⟨sz,es⟩ hm hc).put d hd _ _ (S3 hn hcm hz);have h2:Rel X (({ v:=.sl d 0 n,new:=some ⟨sz,es⟩,del:=some id }:Dl).app (some d) s) (a.put (some d) (.slice (some ⟨w.heap.size,0,none⟩) n cap)) w':=⟨D,_,_,h1⟩;rw[<- hdst] at h2;exact⟨_,_,w',hr,.inl rfl,h2⟩
theorem aTB (h:RelD X s a w D φ F []) {t:TypeId} {d:Nat} {yx yy:Operand} {xx xy:Abs.X} {i0:TypeInfo} {c:Call} (hop:o.op=.call c) (hcal:c.callee=.builtin .append) (harg:c.args.toList=[yx,yy]) (hty:c.argTypes.toList=[t,t])
  (ht:Dd P t=some i0) (hsz:i0.size≠0) (hzs:(i0.zero.map (·.cells.size))=some i0.size) (hx:cX yx=some xx) (hy:cX yy=some xy) (hdst:o.dst=some d) (hd:d < X.n) (hf:Fresh s d) (hpin:d ∉ X.pin)
  (hro:∀ sz es,s.ev xy=.ro sz es->da d es=false)
  {p:Prop} {δ:Dl} (he:aBu i0.size i0.bytes s.hp d (s.ev xy) (s.ev xx)=some (p,δ)) (hp:p):Ee P o X a w (δ.app o.dst s):=by
 obtain ⟨e,hte,hie⟩:=S1 ht
 obtain ⟨z,hz,hzsz⟩:∃ z,i0.zero=some z/\z.cells.size=i0.size:=by
  cases hz:i0.zero with
  | none=>simp[hz] at hzs
  | some z=>exact⟨z,rfl,by simpa [hz] using hzs⟩
 have hcv:=ri hx h;generalize s.ev xx=u at he hcv
 have key0:∀ ds,a.eval yx=.slice none 0 0->Vr i0.size s.hp (s.ev xy)=some ds->cO ds=true->i0.bytes<=32768->ds.length<=bR->∀ del,(∀ id,del=some id->s.hp d=none) ->
   Ee P o X a w (({ v:=.sl d 0 ds.length,new:=some ⟨i0.size,ds⟩,del:=del }:Dl).app o.dst s):=by
  intro ds hxv hds hno hby hln del hdel;obtain ⟨ad,c',news,s1,s2,s3,s4,s5⟩:=aLD h hy hds;have hmd:da d ds=false:=aFQ hy hf hds hro;by_cases h0:ds.length=0
  ·obtain rfl:ds=[]:=List.eq_nil_of_length_eq_zero h0;have hr:=ag3 (P:=P) (w:=w) (ty:=o.type) hte hie none 0 0 (Nat.le_refl _) ad c';simp only[List.length_nil] at s1;rw[<- hxv,<- s1] at hr;have hrun:=axl hop hcal harg hty hr;rw[hxv] at hrun;refine⟨_,_,w,hrun,.inl rfl,?_⟩;rw[hdst];cases del with
   | none=>exact aL6 h hdst hd hf hpin i0.size hrun
   | some id =>
     have hh0:=(h.release id).gsub (G':=[]) (List.nil_sublist _)
     have hf':Fresh { s with hp:=oY s.hp id none } d:=⟨hf.sl,fun i b hb=>by
      by_cases e:i=id
      ·subst e;simp at hb
      ·simp only[oY,e,if_false] at hb;exact hf.hp i b hb,by
      by_cases e:d=id
      ·subst e;simp
      ·simp only[oY,e,if_false];exact hf.no⟩
     exact aL6 hh0 hdst hd hf' hpin i0.size hrun
  ·obtain ⟨b,rfl,hnews⟩:=s3 h0
   have hb48:ds.length * i0.bytes<=281474976710656:=by
    have:ds.length * i0.bytes<=4294967296 * 32768:=Nat.mul_le_mul hln hby;omega
   have h63:((ds.length:Int))<=9223372036854775807:=by unfold bR at hln;omega
   have hr:=run_append_nil (P:=P) w t o.type e i0 z hte hie hz b ds.length c' news s2 hnews (by omega) h63 hb48;rw[<- hxv,<- s1] at hr;have hrun:=axl hop hcal harg hty hr;have hge:=grownCap_ge w ds.length 0 e;have hcm:=grownCap_le_maxLen w ds.length 0 e (aeS hln);refine aQY h hdst hd hf hpin hrun rfl rfl rfl rfl hmd (YW (s5 hno) fun j hj=>?_) hge hcm ?_ del
   ·simp only[Array.toList_append,List.toList_toArray];rw[List.getElem?_append_left (by omega)]
   ·simp only[Array.size_append,List.size_toArray,size_zeroCells,hzsz,s2];rw[<- Nat.add_mul];exact Nat.mul_le_mul_right _ (by omega)
 unfold aBu at he;split at he
 ·cases hds:Vr i0.size s.hp (s.ev xy) with
  | none=>simp[hds] at he
  | some ds =>
    simp only[hds] at he;split at he
    ·rename_i hcond;simp only[Option.some.injEq,Prod.mk.injEq] at he;obtain ⟨rfl,rfl⟩:=he;exact key0 ds (De hcv) hds hcond.1 hcond.2 hp none (by simp)
    ·cases he
 ·rename_i id i n;cases hb:s.hp id with
  | none=>simp[hb] at he
  | some blk =>
    cases hds:Vr i0.size s.hp (s.ev xy) with
    | none=>simp[hb,hds] at he
    | some ds =>
      simp only[hb,hds] at he;split at he
      ·rename_i hcond;obtain ⟨hbs,hno,rfl,hby⟩:=hcond;simp only[Option.some.injEq,Prod.mk.injEq] at he;obtain ⟨rfl,rfl⟩:=he;obtain ⟨hnl,hnob,hln⟩:=hp;simp only[CV] at hcv;obtain ⟨_,⟨_,_,rfl,hxv⟩ | ⟨p0,o',cap,hp0,hxv,hnc,hcm,hcap⟩⟩:=hcv
       ·have:=key0 ds hxv hds hno hby (by omega) (some id) (fun _ _=>hf.no);simpa using this
       ·obtain ⟨ad,c',news,s1,s2,s3,s4,s5⟩:=aLD h hy hds;have hmd:da d ds=false:=aFQ hy hf hds hro;have hme:da d (blk.es.take n++ds)=false:=at4 (by simpa using Zf (hf.hp id blk hb) 0 n) hmd;rcases h.blks id blk hb with ⟨q,_,_⟩ | ⟨p1,arr,ty,f',q1,q2,q3,q4,q5,q6⟩
        ·rw[hp0] at q;cases q
        ·rw[hp0] at q1;cases q1;have hl:=Z5 q6;rw[List.length_drop,Array.length_toList,hbs] at hl
         have hcr:CR w D i0.size (blk.es.take n) φ (arr.toList.drop p0.o) f':=by
          rw[<- hbs];rcases hnob with hnob | hnob
          ·have:f'=[]:=Ta _ _ _ _ hnob q6;subst this;exact VG n q6
          ·rw[hnob,List.take_length];exact q6
         by_cases hroom:n+ds.length<=cap
         ·
          have h0:=h.release id;rw[q5] at h0
          have hf':Fresh { s with hp:=oY s.hp id none } d:=⟨hf.sl,fun i b hb'=>by
           by_cases e:i=id
           ·subst e;simp at hb'
           ·simp only[oY,e,if_false] at hb';exact hf.hp i b hb',by
           by_cases e:d=id
           ·subst e;simp
           ·simp only[oY,e,if_false];exact hf.no⟩
          by_cases hm0:ds.length=0
          ·obtain rfl:ds=[]:=List.eq_nil_of_length_eq_zero hm0;have hr:=ag3 (P:=P) (w:=w) (ty:=o.type) hte hie (some ⟨p0.b,o',none⟩) n cap hnc ad c';simp only[List.length_nil] at s1;rw[<- hxv,<- s1] at hr;have hrun:=axl hop hcal harg hty hr;rw[hxv] at hrun
           have h1:=RelD.settle (f:=p0.b::f') (G:=[]) h0 d hf' hpin (some p0) ⟨i0.size,blk.es.take n⟩ (.inr ⟨p0,arr,ty,f',by simp,by rw[q2,hbs],q3,q4,rfl,
            lv (fun _ hb=>hb) _ _ _ _ _ _ (fun _ _=>rfl) (fun i hi=>gZ _ _ (IA (d:=d) (by simpa using Zf (hf.hp id blk hb) 0 n) hi)) hcr⟩)
           have h2:=h1.put d hd (.sl d 0 n) (.slice (some ⟨p0.b,o',none⟩) n cap) (by
            simp only[CV,ju];exact⟨trivial,.inr ⟨p0,o',cap,rfl,rfl,hnc,hcm,by simpa using hcap⟩⟩)
           have h6:Rel X (({ v:=.sl d 0 (n+([]:List V).length),new:=some ⟨i0.size,blk.es.take n++[]⟩,del:=some id }:Dl).app (some d) s) (a.put (some d) (.slice (some ⟨p0.b,o',none⟩) n cap)) w :=
            ⟨D,_,_,by simpa [Dl.app,Dl.hp,hpN,hpD,hpW] using h2⟩
           exact⟨_,_,w,hrun,.inl rfl,by rw[hdst];exact h6⟩
          ·obtain ⟨b,rfl,hnews⟩:=s3 hm0;obtain ⟨ho,hzz⟩:=hcap.resolve_left (by omega);simp only[Nat.zero_mul,Nat.add_zero,Nat.zero_add,q2,hbs,q3] at ho hzz;have hmul:(n+ds.length) * i0.size<=cap * i0.size:=Nat.mul_le_mul_right _ hroom;rw[Nat.add_mul] at hmul;obtain ⟨fr,hok,q4⟩:=q4;obtain ⟨arr',g1,g2⟩:=ayM (P:=P) (ty:=o.type) (f:=o') (cap:=cap) (c:=c') hte hie hok q4 news s2 hnews s4 hroom (by rw[ho,s2];omega);rw[<- hxv,<- s1] at g2;have hrun:=axl hop hcal harg hty g2;have hfit:o'+n * i0.size+news.length<=arr.toList.length:=by rw[s2,ho,Array.length_toList (xs:=arr)];omega
           have hl':arr'.size=arr.size:=by
            have:=congrArg List.length g1;rw[Hp _ _ _ hfit] at this;simpa using this
           have hw0:=h.write id blk hb p0 hp0 arr arr' ty hok q4 hl' { w with heap:=w.heap.setIfInBounds p0.b (.cells arr' ty fr) } rfl rfl rfl rfl (blk.es.take n++ds) (fun f1 hf1 _=>by
            rw[q5] at hf1;cases hf1;rw[hbs];rw[<- List.append_nil f'];refine amO (f:=f') (g:=[]) (YW hcr fun j hj=>?_) (YW (s5 hno) fun j hj=>?_)
            ·rw[List.length_take,Nat.min_eq_left hnl] at hj;rw[List.getElem?_drop,List.getElem?_drop,g1,Ii _ _ _ _ hfit,if_pos (by omega)]
            ·rw[List.length_take,Nat.min_eq_left hnl,List.drop_drop,List.getElem?_drop,g1,Ii _ _ _ _ hfit,if_neg (by omega),if_pos (by omega)];congr 1;omega)
           have h3:=hw0.release id;rw[q5] at h3
           have hnew:(w.heap.setIfInBounds p0.b (.cells arr' ty fr))[p0.b]?=some (.cells arr' ty fr):=by
            rw[Array.getElem?_setIfInBounds];simp[(Array.getElem?_eq_some_iff.1 q4).1]
           have hblk:=hw0.blks id ⟨blk.s,blk.es.take n++ds⟩ (by simp)
           have hf3:Fresh { sl:=s.sl,hp:=oY (oY s.hp id (some ⟨blk.s,blk.es.take n++ds⟩)) id none } d:=⟨hf.sl,fun i b hb'=>by
            by_cases e:i=id
            ·subst e;simp at hb'
            ·simp only[oY,e,if_false] at hb';exact hf.hp i b hb',by
            by_cases e:d=id
            ·subst e;simp
            ·simp only[oY,e,if_false];exact hf.no⟩
           have h4:=RelD.settle (f:=p0.b::f') (G:=[]) h3 d hf3 hpin (some p0) ⟨i0.size,blk.es.take n++ds⟩ (by
            rcases hblk with ⟨k,_,_⟩ | ⟨p2,arr2,ty2,f2,k1,k2,k3,k4,k5,k6⟩
            ·rw[hp0] at k;cases k
            ·rw[hp0] at k1;cases k1;rw[q5] at k5;cases k5;obtain ⟨fr2,hok2,k4⟩:=k4;rw[hnew] at k4;cases k4;refine .inr ⟨p0,arr',ty,f',by simp,by rw[q2,hbs],k3,⟨fr,hok2,hnew⟩,rfl,?_⟩;rw[hbs] at k6;exact lv (fun _ hb=>hb) _ _ _ _ _ _ (fun _ _=>rfl) (fun i hi=>gZ _ _ (IA hme hi)) k6)
           have h5:=h4.put d hd (.sl d 0 (n+ds.length)) (.slice (some ⟨p0.b,o',none⟩) (n+ds.length) cap) (by
            simp only[CV,ju];refine⟨trivial,.inr ⟨p0,o',cap,rfl,rfl,hroom,hcm,.inr ⟨by omega,?_⟩⟩⟩;rw[Nat.zero_add,q2,hbs,q3];exact hzz)
           have e:oY (oY s.hp id (some ⟨blk.s,blk.es.take n++ds⟩)) id none=oY s.hp id none:=by
            funext i;unfold oY;split<;>rfl
           simp only[e] at h5
           have h6:Rel X (({ v:=.sl d 0 (n+ds.length),new:=some ⟨i0.size,blk.es.take n++ds⟩,del:=some id }:Dl).app (some d) s) (a.put (some d) (.slice (some ⟨p0.b,o',none⟩) (n+ds.length) cap)) { w with heap:=w.heap.setIfInBounds p0.b (.cells arr' ty fr) } :=
            ⟨D,_,_,h5⟩
           exact⟨_,_,_,hrun,.inl rfl,by rw[hdst];exact h6⟩
         ·
          have hm0:ds.length≠0:=by omega
          obtain ⟨b,rfl,hnews⟩:=s3 hm0
          have hb47:(n+ds.length) * i0.bytes<=140737488355328:=by
           have:(n+ds.length) * i0.bytes<=4294967296 * 32768:=Nat.mul_le_mul hln hby;omega
          have h63:((n+ds.length:Nat):Int)<=9223372036854775807:=by unfold bR at hln;omega
          have holds:∀ j v,(((arr.toList.drop p0.o).take (n * i0.size)))[j]?=some v->w.cell? ((⟨p0.b,o',none⟩:Addr).add j)=some v:=by
           intro j v hv;rw[List.getElem?_take] at hv;split at hv
           ·rename_i hj
            obtain ⟨ho,_⟩:=hcap.resolve_left (fun hc=>by
             obtain rfl:n=0:=by omega
             simp at hj)
            rw[List.getElem?_drop,Array.getElem?_toList] at hv;rw[Addr.add_lit,Fo q4.blk,ho];simpa using hv
           ·cases hv
          have hlo:((arr.toList.drop p0.o).take (n * i0.size)).length=n * i0.size:=by
           have hmul:n * i0.size<=blk.es.length * i0.size:=Nat.mul_le_mul_right _ hnl;rw[List.length_take,List.length_drop,Array.length_toList];omega
          have hr:=run_append_grow (P:=P) w t o.type e i0 z hte hie hz ⟨p0.b,o',none⟩ n cap _ hlo holds b ds.length c' news s2 hnews (by omega) h63 (growslice_fits (by omega) hb47);rw[<- hxv,<- s1] at hr;have hrun:=axl hop hcal harg hty hr;have hge:=grownCap_ge w (n+ds.length) cap e;have hcm':=grownCap_le_maxLen w (n+ds.length) cap e (aeS hln);refine aOO h hdst hd hf hpin hrun rfl rfl rfl rfl hme id (f0:=f'++[]) (by rw[q5,List.append_nil];exact List.sublist_cons_self _ _) (amO (f:=f') (g:=[]) (YW hcr fun j hj=>?_) (YW (s5 hno) fun j hj=>?_)) hge hcm' ?_
          ·rw[List.length_take,Nat.min_eq_left hnl] at hj;simp only[Array.toList_append,List.toList_toArray,List.append_assoc];rw[List.getElem?_append_left (by rw[hlo];exact hj),List.getElem?_take,if_pos hj]
          ·rw[List.length_take,Nat.min_eq_left hnl,List.getElem?_drop];simp only[Array.toList_append,List.toList_toArray,List.append_assoc];rw[List.getElem?_append_right (by rw[hlo];omega),List.getElem?_append_left (by rw[hlo,s2];omega)];congr 1;rw[hlo];omega
          ·simp only[Array.size_append,List.size_toArray,size_zeroCells,hzsz,s2,hlo];rw[<- Nat.add_mul,<- Nat.add_mul];exact Nat.mul_le_mul_right _ (by omega)
      ·cases he
 ·cases he
omit [GI] in
theorem ahv:∀ (ds:List V) (l:List UInt8),Nr ds=some l->cO ds=true
 | [],_,_=>by simp[cO]
 | .v (.int .u8 n)::ds,l,h=>by
   simp only[Nr,Option.map_eq_some_iff] at h;obtain ⟨r,h1,_⟩:=h;simp[cO,g9,ahv ds r h1]
omit [GI] in
theorem aHP:∀ (ds:List V) (l:List UInt8) (news:List Value),Nr ds=some l->CR w D 1 ds φ news []->news.length=ds.length ->
  ∃ ns:List Int,news=ns.map (Value.int .u8)/\l=ns.map fun n=>UInt8.ofNat n.toNat
 | [],l,news,h,_,hn=>by
   simp only[Nr,Option.some.injEq] at h;subst h;exact⟨[],by simpa using List.eq_nil_of_length_eq_zero hn,rfl⟩
 | .v (.int .u8 n)::ds,l,news,h,hc,hn=>by
   simp only[Nr,Option.map_eq_some_iff] at h;obtain ⟨r,h1,rfl⟩:=h;simp only[CR] at hc;obtain ⟨x,rest,f1,f2,rfl,⟨hs,_⟩,hf,h2,h3⟩:=hc;have hx:=De h2;subst hx;obtain ⟨rfl,rfl⟩:=List.append_eq_nil_iff.1 hf.symm;have hcl:(Value.int .u8 n).cells.toList=[Value.int .u8 n]:=rfl;rw[hcl] at hn ⊢;simp only[List.length_append,List.length_cons,List.length_nil] at hn;obtain ⟨ns,rfl,rfl⟩:=aHP ds r rest h1 h3 (by omega);exact⟨n::ns,by simp,by simp⟩
omit [GI] in
theorem aII (ns:List Int):ns.foldl (fun r n=>r.push (UInt8.ofNat n.toNat)) ByteArray.empty=bs (ns.map fun n=>UInt8.ofNat n.toNat):=by
 have:∀ (ns:List Int) (a:List UInt8),ns.foldl (fun r n=>r.push (UInt8.ofNat n.toNat)) (bs a)=bs (a++ns.map fun n=>UInt8.ofNat n.toNat):=by
  intro ns
  induction ns with
  | nil=>intro a;simp
  | cons n ns ih =>
    intro a;have e:(bs a).push (UInt8.ofNat n.toNat)=bs (a++[UInt8.ofNat n.toNat]):=by simp[bs,ByteArray.push]
    simp only[List.foldl_cons,e,ih];simp
 exact this ns []
omit [GI] in
theorem aHG {rest:List Value}:∀ l:List UInt8,CR w D 1 (l.map fun x=>.v (.int .u8 x.toNat)) φ ((l.map fun x=>Value.int .u8 x.toNat)++rest) []
 | []=>by simp[CR]
 | x::l=>by
   simp only[List.map_cons,CR];exact⟨.int .u8 x.toNat,(l.map fun x=>Value.int .u8 x.toNat)++rest,[],[],rfl,⟨rfl,rfl⟩,rfl,⟨rfl,rfl,rfl⟩,aHG l⟩
omit [GI] in
theorem aAP (w:World) (e:TypeId) (b:ByteArray):(Lib.bytesWorld w e b).heap=w.heap.push (.cells (Lib.bytesCells w e b) e ((Lib.bytesCells w e b).size,(Lib.bytesCells w e b).size+1)):=by
 apply Array.ext_getElem?;intro i;rw[Array.getElem?_push];split
 ·rename_i hi;rw[hi];exact Lib.bytesWorld_at_new w e b
 ·rename_i hi;by_cases h:i < w.heap.size
  ·exact Lib.bytesWorld_at_old w e b i h
  ·rw[Array.getElem?_eq_none (by rw[Lib.bytesWorld_size];omega),Array.getElem?_eq_none (by omega)]
omit [GI] in
theorem aK5 (d:Nat) (b:ByteArray):da d (aHq b)=false:=by
 unfold aHq;generalize b.data.toList=l
 induction l with
 | nil=>rfl
 | cons x l ih=>simp only[List.map_cons,da,gj,ih,Bool.or_false]
theorem aRC (h:RelD X s a w D φ F []) (hd:∀ d,o.dst=some d->d < X.n) (hns:∃ d,o.dst=some d) {src dst:TypeId} {y:Operand} {x:Abs.X} {c:CK} (hop:o.op=.convert src dst y) (hx:cX y=some x) (hc:cck P src dst=some c)
  {p:Prop} {δ:Dl} (he:axB c s.hp (o.dst.getD 0) (s.ev x)=some (p,δ)) (hp:p) (hn:δ.new.isSome=true->∀ d,o.dst=some d->Fresh s d/\d ∉ X.pin):Ee P o X a w (δ.app o.dst s):=by
 have hcv:=ri hx h;have key:∀ ds,Vr 1 s.hp (s.ev x)=some ds->_:=fun ds hs=>aLD h hx hs;generalize s.ev x=u at he hcv key;unfold axB at he;split at he
 ·rename_i k0 n;have hxv:=De hcv;split at he
  ·rename_i k;simp only[ep,Option.some.injEq,Prod.mk.injEq] at he;obtain ⟨_,rfl⟩:=he
   have:∃ k1,P.underlying src=some (.int k1)/\P.underlying dst=some (.int k):=by
    unfold cck at hc;split at hc<;>first | (simp_all;done) | (split at hc<;>simp_all)
   obtain ⟨k1,h1,h2⟩:=this;exact fA h hd (by simp[execOp,hop,hxv,convert,run_underlying h1,run_underlying h2,Conv.intToInt]) (xZ rfl)
  ·simp only[lH,Option.some.injEq,Prod.mk.injEq] at he;obtain ⟨rfl,rfl⟩:=he
   have:∃ k1,P.underlying src=some (.int k1)/\P.underlying dst=some .string:=by
    unfold cck at hc;split at hc<;>first | (simp_all;done) | (split at hc<;>simp_all)
   obtain ⟨k1,h1,h2⟩:=this;exact fA h hd (by simp[execOp,hop,hxv,convert,run_underlying h1,run_underlying h2,Conv.intToString]) (xZ (by simpa [one] using hp))
  ·cases he
 ·rename_i b;have hxv:=De hcv;split at he
  ·simp only[ep,Option.some.injEq,Prod.mk.injEq] at he;obtain ⟨_,rfl⟩:=he
   have:P.underlying src=some .string/\P.underlying dst=some .string:=by
    unfold cck at hc;split at hc<;>first | (simp_all;done) | (split at hc<;>simp_all)
   obtain ⟨h1,h2⟩:=this;have ho:one (.string b)=true:=by simp only[CV] at hcv;exact hcv.2.1
   exact fA h hd (by simp[execOp,hop,hxv,convert,run_underlying h1,run_underlying h2]) (xZ ho)
  ·have:∃ e,P.underlying src=some .string/\P.underlying dst=some (.slice e)/\P.underlying e=some (.int .u8):=by
    unfold cck at hc;split at hc<;>first | (simp_all;done) | (split at hc<;>simp_all)
   obtain ⟨e,h1,h2,h3⟩:=this;obtain ⟨d,hdst⟩:=hns
   have hone:b.size<=maxLen:=by
    simp only[CV] at hcv;have:=hcv.2.1;simpa [one,maxLen] using this
   have hge:=grownCap_ge w b.size 0 e;have hcm:=grownCap_le_maxLen w b.size 0 e hone
   have hrun:(execOp a.eval o).run P w=.ok (.value (.slice (some ⟨w.heap.size,0,none⟩) b.size (grownCap w b.size 0 e))) (Lib.bytesWorld w e b):=by
    simp[execOp,hop,hxv,Lib.run_convert_string_bytes w src dst e b h1 h2 h3]
   have hasz:(Lib.bytesCells w e b).size=grownCap w b.size 0 e:=by
    simp only[Lib.bytesCells,Array.size_append,Array.size_map,Array.size_replicate];have:b.data.size=b.size:=rfl;omega
   split at he
   ·rename_i h0;simp only[ep,Option.some.injEq,Prod.mk.injEq] at he;obtain ⟨_,rfl⟩:=he;have g:=(h.grow (Lib.bytesWorld w e b) D [] rfl rfl rfl (by rw[Lib.bytesWorld_size];omega) (fun k hk=>Lib.bytesWorld_at_old w e b k hk) (fun _ hb=>hb) (fun k hk=>⟨.inl hk,by rw[Lib.bytesWorld_size];have:=h.Dlt k hk;omega⟩) (by simp) (by simp)).gsub (G':=[]) (List.nil_sublist _)
    have h4:=g.put d (hd d hdst) (.ro 1 []) (.slice (some ⟨w.heap.size,0,none⟩) b.size (grownCap w b.size 0 e)) (by
     simp only[CV];exact⟨trivial,.inl ⟨trivial,some ⟨w.heap.size,0,none⟩,_,by rw[h0],by rw[h0] at hcm;exact hcm⟩⟩)
    have h5:Rel X (({ v:=.ro 1 [] }:Dl).app (some d) s) (a.put (some d) (.slice (some ⟨w.heap.size,0,none⟩) b.size (grownCap w b.size 0 e))) (Lib.bytesWorld w e b):=⟨D,_,_,h4⟩;rw[<- hdst] at h5;exact⟨_,_,_,hrun,.inl rfl,h5⟩
   ·rename_i h0;simp only[Option.some.injEq,Prod.mk.injEq] at he;obtain ⟨_,rfl⟩:=he;obtain ⟨hf,hpin⟩:=hn rfl d hdst
    have hcells:CR w D 1 (aHq b) φ (Lib.bytesCells w e b).toList []:=by
     have:=aHG (w:=w) (D:=D) (φ:=φ) (rest:=(Array.replicate (grownCap w b.size 0 e - b.size) (Value.int .u8 0)).toList) b.data.toList;simpa [aHq,Lib.bytesCells] using this
    have h3':=(h.newM d hf hpin (Lib.bytesWorld w e b) rfl rfl rfl (Lib.bytesCells w e b) e (.inr ⟨by omega,by simp⟩) (aAP w e b) ⟨1,aHq b⟩ (aK5 d b) hcells).put d (hd d hdst) (.sl d 0 b.size) (.slice (some ⟨w.heap.size,0,none⟩) b.size (grownCap w b.size 0 e)) (S3 hge hcm (by show grownCap w b.size 0 e * 1<=_;omega));have h5:Rel X (({ v:=.sl d 0 b.size,new:=some ⟨1,aHq b⟩ }:Dl).app (some d) s) (a.put (some d) (.slice (some ⟨w.heap.size,0,none⟩) b.size (grownCap w b.size 0 e))) (Lib.bytesWorld w e b):=⟨D,_,_,h3'⟩;have hde:o.dst.getD 0=d:=by rw[hdst];rfl
    rw[hde];rw[<- hdst] at h5;exact⟨_,_,_,hrun,.inl rfl,h5⟩
  ·cases he
 ·split at he
  ·split at he
   ·rename_i ds hds;split at he
    ·rename_i l hl;simp only[lH,Option.some.injEq,Prod.mk.injEq] at he;obtain ⟨rfl,rfl⟩:=he;obtain ⟨ad,c',news,s1,s2,s3,_,s5⟩:=key ds hds;obtain ⟨ns,rfl,rfl⟩:=aHP ds l news hl (s5 (ahv ds l hl)) (by rw[s2];omega)
     have:∃ e,P.underlying src=some (.slice e)/\P.underlying e=some (.int .u8)/\P.underlying dst=some .string:=by
      unfold cck at hc;split at hc<;>first | (simp_all;done) | (split at hc<;>simp_all)
     obtain ⟨e,h1,h2,h3⟩:=this;have hlen:ns.length=ds.length:=by simpa using s2
     have hrun:(convert src dst (.slice ad ds.length c')).run P w=.ok (.string (bs (ns.map fun n=>UInt8.ofNat n.toNat))) w:=by
      rw[run_convert_bytes_string w src dst e ad ds.length c' h1 h2 h3];by_cases h0:ds.length=0
      ·have:ns=[]:=List.eq_nil_of_length_eq_zero (by omega);subst this;rw[h0];cases ad with
       | none=>rfl
       | some b=>rfl
      ·obtain ⟨b,rfl,hb⟩:=s3 h0;have hload:=run_loadCells_list (P:=P) w b (ns.map (Value.int .u8)) hb;rw[List.length_map,hlen] at hload;rw[run_bytesToString w b ds.length c' ns hload,aII]
     refine fA h hd (x:=.string (bs (ns.map fun n=>UInt8.ofNat n.toNat))) ?_ (xZ ?_)
     ·simp[execOp,hop,s1,hrun]
     ·have hsz:(bs (ns.map fun n=>UInt8.ofNat n.toNat)).size=(ns.map fun n=>UInt8.ofNat n.toNat).length:=by simp[bs,ByteArray.size]
      simp only[one,decide_eq_true_eq,hsz];exact hp
    ·cases he
   ·cases he
  ·cases he
end
end Go.Abs
namespace Go.Abs
variable [GI]
def aIX:O->Bool
 | .st _ _ _=>true
 | _=>false
def dOk (st:Bool) (d:Option Nat) (n:Nat):Bool:=match st,d with
 | true,none=>true
 | false,some d=>decide (d < n)
 | _,_=>false
def aBS (P:Program) (ops:Array Oper) (n:Nat) (o:Oper):Option CO :=
 match VB P o.op with
 | none=>none
 | some q =>
   if dOk (aIX q) o.dst n=true then
    match o.guard with
    | none=>some ⟨none,o.dst,q⟩
    | some (j,b)=>match (ops[j]?).bind (·.dst) with
      | some t=>some ⟨some (t,b),o.dst,q⟩
      | none=>none
   else none
section
variable {P : Program} {X : Ctx} {s : St} {a : Act} {w : World} {D : Nat → Prop} {φ : Nat → Option Pl} {F : Nat → List Nat} {o : Oper}
omit [GI] in
theorem aQb {sz:Nat} {es:List V} {x:Value} {f:List Nat} (h:CV w D (.ro sz es) φ x f) (d:Nat):da d es=false:=by
 simp only[CV] at h;obtain ⟨_,⟨rfl,_⟩ | ⟨b,o',cap,arr,hxv,hnc,hcm,hD,hbk,hcr,hni⟩⟩:=h
 ·rfl
 ·exact jO d es hni
theorem aPb {q:O} (hc:VB P o.op=some q) (h:RelD X s a w D φ F []) (hd:∀ d,o.dst=some d->d < X.n) (hst:aIX q=true->o.dst=none) (hns:aIX q=false->∃ d,o.dst=some d)
  {p:Prop} {δ:Dl} (he:eff s.ev s.hp (o.dst.getD 0) q=some (p,δ)) (hp:p) (hn:δ.new.isSome=true->∀ d,o.dst=some d->Fresh s d/\d ∉ X.pin):Ee P o X a w (δ.app o.dst s):=by
 cases hop:o.op with
 | move x =>
   simp only[hop,VB,Option.map_eq_some_iff] at hc;obtain ⟨x',hx,rfl⟩:=hc;simp only[eff,ep,Option.some.injEq,Prod.mk.injEq] at he;obtain ⟨_,rfl⟩:=he;exact aSy h hd (.inl hop) hx
 | assign x =>
   simp only[hop,VB,Option.map_eq_some_iff] at hc;obtain ⟨x',hx,rfl⟩:=hc;simp only[eff,ep,Option.some.injEq,Prod.mk.injEq] at he;obtain ⟨_,rfl⟩:=he;exact aSy h hd (.inr hop) hx
 | pick c y z =>
   simp only[hop,VB] at hc;split at hc<;>simp only[Option.some.injEq,reduceCtorEq] at hc;rename_i xc xy xz h1 h2 h3;subst hc;simp only[eff] at he;split at he
   ·rename_i t ht;simp only[ep,Option.some.injEq,Prod.mk.injEq] at he;obtain ⟨_,rfl⟩:=he;exact aRH h hd hop h1 h2 h3 ht
   ·cases he
 | alloc t =>
   simp only[hop,VB] at hc;split at hc
   ·rename_i i hi;split at hc<;>simp only[Option.some.injEq,reduceCtorEq] at hc;rename_i z hz;subst hc;obtain ⟨d,hdst⟩:=hns rfl;simp only[eff,hdst,Option.getD_some] at he;split at he
    ·rename_i hcond;simp only[Option.some.injEq,Prod.mk.injEq] at he;obtain ⟨_,rfl⟩:=he;obtain ⟨hf,hpin⟩:=hn rfl d hdst;obtain ⟨x0,hx0,hof⟩:=ank hz;exact aPP (y:=.const .nilFunc) h (.inr ⟨hop,i,hi,hx0⟩) (aDg hof) hcond.1 hcond.2.2 (Ag _ _ (am6 hof)) hdst (hd d hdst) hf hpin
    ·cases he
   ·cases hc
 | box t y =>
   simp only[hop,VB] at hc;split at hc<;>simp only[Option.some.injEq,reduceCtorEq] at hc;rename_i i x hi hx;subst hc;obtain ⟨d,hdst⟩:=hns rfl;simp only[eff,hdst,Option.getD_some] at he;split at he
   ·rename_i hcond;simp only[Option.some.injEq,Prod.mk.injEq] at he;obtain ⟨_,rfl⟩:=he;obtain ⟨hf,hpin⟩:=hn rfl d hdst;exact aPP h (.inl ⟨hop,rfl⟩) (ri hx h) hcond.1 hcond.2.2 (aHQ hx hf) hdst (hd d hdst) hf hpin
   ·cases he
 | build t ps =>
   simp only[hop,VB] at hc;split at hc
   ·rename_i fs i hfs hi;split at hc
    ·rename_i z pl hz hpl;simp only[Option.map_eq_some_iff] at hc;obtain ⟨ps',hps,rfl⟩:=hc;simp only[eff] at he;exact aPQ h hd hop hfs hi hz hpl hps he
    ·cases hc
   ·cases hc
 | buildSlice t n ps =>
   simp only[hop,VB] at hc;split at hc
   ·rename_i i hi;split at hc<;>simp only[Option.some.injEq,reduceCtorEq] at hc;rename_i z ps' hz hps;subst hc;obtain ⟨d,hdst⟩:=hns rfl;simp only[eff,hdst,Option.getD_some] at he
    have hnew:δ.new.isSome=true:=by
     unfold NF at he;split at he
     ·split at he
      ·simp only[Option.some.injEq,Prod.mk.injEq] at he;obtain ⟨_,rfl⟩:=he;rfl
      ·cases he
     ·cases he
    obtain ⟨hf,hpin⟩:=hn hnew d hdst;exact aNC h hop hi hz hps hdst (hd d hdst) hf hpin he
   ·cases hc
 | load t y =>
   simp only[hop,VB] at hc;split at hc<;>simp only[Option.some.injEq,reduceCtorEq] at hc;rename_i b n x ht hx;subst hc;simp only[eff] at he;exact aVQ h hd hop ht hx he
 | store t y x =>
   simp only[hop,VB] at hc;split at hc<;>simp only[Option.some.injEq,reduceCtorEq] at hc;rename_i i xa xx hi hxa hxx;subst hc;simp only[eff] at he;exact aVR h hop hi hxa hxx (hst rfl) he
 | binOp op t x y t' =>
   simp only[hop,VB] at hc;split at hc<;>simp only[Option.some.injEq,reduceCtorEq] at hc;rename_i k xx xy hk hx hy;subst hc;simp only[eff] at he;exact aTC h hd hop hk hx hy he hp
 | unOp op t x =>
   simp only[hop,VB,Option.map_eq_some_iff] at hc;obtain ⟨x',hx,rfl⟩:=hc;simp only[eff] at he;exact aVS h hd hop hx he
 | convert sr dt x =>
   simp only[hop,VB] at hc;split at hc<;>simp only[Option.some.injEq,reduceCtorEq] at hc;rename_i c x' hcc hx;subst hc;simp only[eff] at he;exact aRC h hd (hns rfl) hop hx hcc he hp hn
 | makeFunc fn first cs =>
   simp only[hop] at hc;cases fn<;>simp only[VB,reduceCtorEq] at hc;rename_i f;split at hc
   ·rename_i hfi;simp only[Option.map_eq_some_iff] at hc;obtain ⟨xs,hx,rfl⟩:=hc;simp only[eff,ep,Option.some.injEq,Prod.mk.injEq] at he;obtain ⟨_,rfl⟩:=he;exact aTD h hd hop hfi hx
   ·cases hc
 | makeSlice t l c =>
   simp only[hop,VB] at hc;split at hc
   ·rename_i i xl xc hi hl hcc;split at hc<;>simp only[Option.some.injEq,reduceCtorEq] at hc;rename_i z hz;subst hc;obtain ⟨d,hdst⟩:=hns rfl;simp only[eff,hdst,Option.getD_some] at he
    have hnew:δ.new.isSome=true:=by
     unfold aHy at he;split at he
     ·split at he
      ·simp only[Option.some.injEq,Prod.mk.injEq] at he;obtain ⟨_,rfl⟩:=he;rfl
      ·cases he
     ·cases he
    obtain ⟨hf,hpin⟩:=hn hnew d hdst;exact aTH h hop hi hz hl hcc hdst (hd d hdst) hf hpin he hp
   ·cases hc
 | slice t x lo hi mx =>
   simp only[hop] at hc;cases mx<;>simp only[VB,reduceCtorEq] at hc;split at hc
   ·rename_i xx lo' hi' ht hx hl hh;simp only[Option.some.injEq] at hc;subst hc;simp only[eff] at he;exact aRJ h hd hop ht hx hl hh he hp
   ·rename_i e xx lo' hi' ht hx hl hh;split at hc<;>simp only[Option.some.injEq,reduceCtorEq] at hc;rename_i i hi;subst hc;simp only[eff] at he;exact aRI h hd hop ht hi hx hl hh he hp
   ·cases hc
 | nilCheck x =>
   simp only[hop,VB,Option.map_eq_some_iff] at hc;obtain ⟨x',hx,rfl⟩:=hc;simp only[eff] at he;exact aRG h hd hop hx he
 | fieldAddr t x f =>
   simp only[hop,VB] at hc;split at hc
   ·rename_i fs x' ht hx;split at hc
    ·rename_i fd hfd;split at hc
     ·rename_i i hi;split at hc
      ·rename_i hs0;simp only[Option.some.injEq] at hc;subst hc;simp only[eff] at he;exact aPR h hd hop hx ht hfd hi hs0 he
      ·cases hc
     ·cases hc
    ·cases hc
   ·cases hc
 | field t x f =>
   simp only[hop,VB] at hc;split at hc
   ·rename_i fs x' ht hx;split at hc
    ·rename_i fd hfd;split at hc<;>simp only[Option.some.injEq,reduceCtorEq] at hc;rename_i b n hty;subst hc;simp only[eff] at he;exact aTF h hd hop hx ht hfd hty he
    ·cases hc
   ·cases hc
 | indexAddr t x i =>
   simp only[hop,VB] at hc;split at hc<;>simp only[Option.some.injEq,reduceCtorEq] at hc;rename_i e x' i' ht hx hi;subst hc;simp only[eff] at he;exact aPS h hd hop hx hi ht he hp
 | index t x i =>
   simp only[hop,VB] at hc;split at hc<;>simp only[Option.some.injEq,reduceCtorEq] at hc;rename_i x' i' ht hx hi;subst hc;simp only[eff] at he;exact aTG h hd hop hx hi ht he hp
 | extract x i =>
   simp only[hop,VB,Option.map_eq_some_iff] at hc;obtain ⟨x',hx,rfl⟩:=hc;simp only[eff] at he;exact aTE h hd hop hx he
 | call c =>
   simp only[hop,VB] at hc;split at hc
   ·rename_i hcal;split at hc
    ·rename_i y t hargs htys;split at hc<;>simp only[Option.some.injEq,reduceCtorEq] at hc
     ·rename_i x ht hx;subst hc;simp only[eff,if_true] at he;exact aRF h hd hop hcal hargs htys ht hx he
     ·rename_i e x ht hx;subst hc;simp only[eff,Bool.false_eq_true,if_false] at he;exact aRE h hd hop hcal hargs htys ht hx he
    ·cases hc
   ·rename_i hcal;split at hc
    ·rename_i yx yy t u hargs htys;split at hc
     ·rename_i i x y hi hx hy;split at hc
      ·rename_i hcond;obtain ⟨rfl,hs0,hz⟩:=hcond;simp only[Option.some.injEq] at hc;subst hc;obtain ⟨d,hdst⟩:=hns rfl;simp only[eff,hdst,Option.getD_some] at he
       have hnew:δ.new.isSome=true:=by
        unfold aBu at he;split at he
        ·split at he
         ·split at he
          ·simp only[Option.some.injEq,Prod.mk.injEq] at he;obtain ⟨_,rfl⟩:=he;rfl
          ·cases he
         ·cases he
        ·split at he
         ·split at he
          ·split at he
           ·simp only[Option.some.injEq,Prod.mk.injEq] at he;obtain ⟨_,rfl⟩:=he;rfl
           ·cases he
          ·cases he
         ·cases he
        ·cases he
       obtain ⟨hf,hpin⟩:=hn hnew d hdst;exact aTB h hop hcal hargs htys hi hs0 hz hx hy hdst (hd d hdst) hf hpin (fun sz es hro=>aQb (by have:=ri hy h;rw[hro] at this;exact this) d) he hp
      ·cases hc
     ·cases hc
    ·cases hc
   ·rename_i hcal;simp only[Option.map_eq_some_iff] at hc;obtain ⟨xs,hx,rfl⟩:=hc;simp only[eff] at he;exact aSx (max:=false) h hd hop (by simpa using hcal) hx he
   ·rename_i hcal;simp only[Option.map_eq_some_iff] at hc;obtain ⟨xs,hx,rfl⟩:=hc;simp only[eff] at he;exact aSx (max:=true) h hd hop (by simpa using hcal) hx he
   ·simp only[Option.map_eq_some_iff] at hc;obtain ⟨xs,hx,rfl⟩:=hc;simp[eff] at he
   ·simp only[Option.map_eq_some_iff] at hc;obtain ⟨xs,hx,rfl⟩:=hc;simp[eff] at he
   ·cases hc
 | _=>simp[hop,VB] at hc
end
end Go.Abs
namespace Go.Abs
variable [GI]
structure Grow (w:World) (D:Nat->Prop) (W:List Nat) (w':World) (D':Nat->Prop):Prop where
 os:w'.os=w.os
 tape:w'.tape=w.tape
 output:w'.output=w.output
 size:w.heap.size<=w'.heap.size
 old:∀ b,b < w.heap.size->b ∉ W->w'.heap[b]?=w.heap[b]?
 Dup:∀ b,D b->D' b
 Ddn:∀ b,D' b->D b\/w.heap.size<=b\/b ∈ W
 Dlt:∀ b,D' b->b < w'.heap.size
def pz (P:Program) (f:Nat):Bool:=(P.funcs[f]?).map (fun fn=>fn.body.isSome&&fn.name != "runtime.NumGoroutine")==some true
def aa (P:Program) (f:Nat) (args:List V) (res:V):Prop :=
 pz P f=true/\∀ (w:World) (D:Nat->Prop) (xs:List Value),(∀ b,D b->b < w.heap.size)->GI.holds w D->iU w D args (fun _=>none) xs [] ->
  Calls P f xs.toArray w fun e w'=>∃ y D' fp,e=.returned y/\Grow w D [] w' D'/\CV w' D' res (fun _=>none) y fp/\fp.Nodup/\∀ b,b ∈ fp->w.heap.size<=b/\b < w'.heap.size/\¬D' b
def cz (hp:Nat->Option Blk):Nat->V->V
 | 0,_=>.undef
 | k+1,.ref id i j=>match hp id with
   | some b=>.rp b.s (b.es.map (cz hp k)) i j
   | none=>.undef
 | k+1,.sl id i n=>match hp id with
   | some b=>if i+n<=b.es.length then .ro b.s (((b.es.drop i).take n).map (cz hp k)) else .undef
   | none=>.undef
 | k+1,.own s es=>.ro s (es.map (cz hp k))
 | k+1,.agg cs=>.agg (cs.map (cz hp k))
 | k+1,.tup cs=>.tup (cs.map (cz hp k))
 | k+1,.clo f cs=>.clo f (cs.map (cz hp k))
 | _+1,.rp s es i j=>.rp s es i j
 | _+1,.ro s es=>.ro s es
 | _+1,.v x=>.v x
 | _+1,.undef=>.undef
omit [GI] in
theorem H4 {f:V->V} (h:∀ v,gV (f v)=true):∀ es:List V,bN (es.map f)=true
 | []=>rfl
 | e::es=>by simp[bN,h e,H4 h es]
omit [GI] in
theorem z8 (hp:Nat->Option Blk):∀ (k:Nat) (v:V),gV (cz hp k v)=true
 | 0,v=>rfl
 | k+1,.ref id i j=>by simp only[cz];split<;>rfl
 | k+1,.sl id i n=>by simp only[cz];split<;>first | rfl | (split<;>rfl)
 | k+1,.own s es=>by simp[cz,gV]
 | k+1,.agg cs=>by simp only[cz,gV];exact H4 (z8 hp k) cs
 | k+1,.tup cs=>by simp only[cz,gV];exact H4 (z8 hp k) cs
 | k+1,.clo f cs=>by simp only[cz,gV];exact H4 (z8 hp k) cs
 | k+1,.rp s es i j=>by simp[cz,gV]
 | k+1,.ro s es=>by simp[cz,gV]
 | k+1,.v x=>by simp[cz,gV]
 | k+1,.undef=>by simp[cz,gV]
section
variable {w : World} {D : Nat → Prop} {φ : Nat → Option Pl} {F : Nat → List Nat} {hp : Nat → Option Blk}
omit [GI] in
theorem asQ {D':Nat->Prop} {ψ:Nat->Option Pl} {f:V->V} (hf:∀ v x fp,(∀ b,b ∈ fp->D' b)->CV w D v φ x fp->CV w D' (f v) ψ x []) :
  ∀ (cs:List V) (xs:List Value) (fp:List Nat),(∀ b,b ∈ fp->D' b)->iU w D cs φ xs fp->iU w D' (cs.map f) ψ xs []
 | [],xs,fp,_,h=>by simp only[iU] at h;obtain ⟨rfl,_⟩:=h;exact Je
 | c::cs,xs,fp,hfp,h=>by
   simp only[iU] at h;obtain ⟨x,xs',f1,f2,rfl,rfl,h1,h2⟩:=h;simp only[List.map_cons,iU];exact⟨x,xs',[],[],rfl,rfl,hf c x f1 (fun b hb=>hfp b (List.mem_append_left _ hb)) h1,asQ hf cs xs' f2 (fun b hb=>hfp b (List.mem_append_right _ hb)) h2⟩
omit [GI] in
theorem aFZ {D':Nat->Prop} {ψ:Nat->Option Pl} {f:V->V} {s:Nat} (hf:∀ v x fp,(∀ b,b ∈ fp->D' b)->CV w D v φ x fp->CV w D' (f v) ψ x []) :
  ∀ (cs:List V) (xs:List Value) (fp:List Nat),(∀ b,b ∈ fp->D' b)->CR w D s cs φ xs fp->CR w D' s (cs.map f) ψ xs []
 | [],xs,fp,_,h=>by simp[CR]
 | c::cs,xs,fp,hfp,h=>by
   simp only[CR] at h;obtain ⟨x,rest,f1,f2,rfl,hs,rfl,h1,h2⟩:=h;simp only[List.map_cons,CR];exact⟨x,rest,[],[],rfl,hs,rfl,hf c x f1 (fun b hb=>hfp b (List.mem_append_left _ hb)) h1,aFZ hf cs rest f2 (fun b hb=>hfp b (List.mem_append_right _ hb)) h2⟩
omit [GI] in
theorem amU {D':Nat->Prop} (hD:∀ b,D b->D' b) (hF:∀ id b,b ∈ F id->D' b) (hb:∀ id blk,hp id=some blk->p9 w D φ id blk (F id)) :
  ∀ (k:Nat) (ψ:Nat->Option Pl),(ψ=φ\/ψ=fun _=>none)->∀ (v:V) (x:Value) (fp:List Nat),(∀ b,b ∈ fp->D' b)->CV w D v ψ x fp->CV w D' (cz hp k v) (fun _=>none) x []
 | 0,ψ,hψ,v,x,fp,hfp,h=>by simp[cz,CV]
 | k+1,ψ,hψ,v,x,fp,hfp,h=>by
   have ih:∀ ψ,(ψ=φ\/ψ=fun _=>none)->∀ v x fp,(∀ b,b ∈ fp->D' b)->CV w D v ψ x fp->CV w D' (cz hp k v) (fun _=>none) x []:=fun ψ hψ=>amU hD hF hb k ψ hψ
   have same:g9 v=true->CV w D v ψ x fp->gV v=true->CV w D' v (fun _=>none) x []:=fun hn h hi=>by
    have hf:=Gj v ψ x fp hn h;subst hf;exact pS hD _ _ _ _ _ (fun _ _=>rfl) (fun id hm=>by rw[Ag id v hi] at hm;cases hm) h
   cases v with
   | undef=>simp[cz,CV]
   | v y=>simp only[cz];exact same rfl h rfl
   | rp s es i j=>simp only[cz];exact same rfl h rfl
   | ro s es=>simp only[cz];exact same rfl h rfl
   | ref id i j =>
     simp only[CV] at h;obtain ⟨_,p,hp0,rfl⟩:=h;have hψ':ψ=φ:=hψ.resolve_right (fun e=>by rw[e] at hp0;cases hp0);subst hψ';simp only[cz];split
     ·rename_i blk hbl;rcases hb id blk hbl with ⟨q,_,_⟩ | ⟨p1,arr,ty,f',q1,q2,q3,q4,q5,q6⟩
      ·rw[hp0] at q;cases q
      ·rw[hp0] at q1;cases q1;simp only[CV];refine⟨trivial,p.b,p.o,arr,by rw[q2],hF id p.b (by rw[q5];exact List.mem_cons_self),q4.blk,?_,H4 (z8 hp k) _⟩;exact aFZ (ih ψ (.inl rfl)) _ _ f' (fun b hb'=>hF id b (by rw[q5];exact List.mem_cons_of_mem _ hb')) q6
     ·simp[CV]
   | sl id i n =>
     simp only[CV] at h;simp only[cz];split
     ·rename_i blk hbl;split
      ·rename_i hle;have hlen:(((blk.es.drop i).take n).map (cz hp k)).length=n:=by rw[List.length_map,List.length_take,List.length_drop];omega
       simp only[CV];refine⟨trivial,?_⟩;obtain ⟨_,⟨hφ,rfl,rfl,rfl⟩ | ⟨p0,o',cap,hp0,rfl,hnc,hcm,hcap⟩⟩:=h
       ·exact .inl ⟨by simp,none,0,rfl,Nat.zero_le _⟩
       ·by_cases hn:n=0
        ·subst hn;exact .inl ⟨by simp,_,cap,rfl,hcm⟩
        ·have hψ':ψ=φ:=hψ.resolve_right (fun e=>by rw[e] at hp0;cases hp0);subst hψ';rcases hb id blk hbl with ⟨q,_,_⟩ | ⟨p1,arr,ty,f',q1,q2,q3,q4,q5,q6⟩
         ·rw[hp0] at q;cases q
         ·rw[hp0] at q1;cases q1;obtain ⟨ho,_⟩:=hcap.resolve_left (by omega);refine .inr ⟨p0.b,o',cap,arr,by rw[hlen],by rw[hlen];exact hnc,hcm,hF id p0.b (by rw[q5];exact List.mem_cons_self),q4.blk,?_,H4 (z8 hp k) _⟩;have hm:=aFZ (D':=D') (ψ:=fun _=>none) (f:=cz hp k) (ih ψ (.inl rfl)) _ _ f' (fun b hb'=>hF id b (by rw[q5];exact List.mem_cons_of_mem _ hb')) q6;have h3:=VG n (amP i hm);rw[List.drop_drop] at h3;rw[List.map_take,List.map_drop,ho,q2];exact h3
      ·simp[CV]
     ·simp[CV]
   | own s es =>
     simp only[CV] at h;simp only[cz,CV];refine⟨trivial,?_⟩;rcases h with ⟨rfl,rfl,rfl⟩ | ⟨b,o,cap,arr,ty,fp',rfl,h2,h3,h4,h5,rfl,h7,h8⟩
     ·exact .inl ⟨rfl,none,0,rfl,Nat.zero_le _⟩
     ·refine .inr ⟨b,o,cap,arr,by simp,by simpa using h2,h3,hfp b List.mem_cons_self,h5.blk,?_,H4 (z8 hp k) _⟩;exact aFZ (ih _ (.inr rfl)) _ _ fp' (fun b hb'=>hfp b (List.mem_cons_of_mem _ hb')) h7
   | agg cs =>
     simp only[CV] at h;obtain ⟨xs,rfl,h⟩:=h;simp only[cz,CV];exact⟨xs,rfl,asQ (ih ψ hψ) cs _ fp hfp h⟩
   | tup cs =>
     simp only[CV] at h;obtain ⟨xs,rfl,h⟩:=h;simp only[cz,CV];exact⟨xs,rfl,asQ (ih ψ hψ) cs _ fp hfp h⟩
   | clo f cs =>
     simp only[CV] at h;obtain ⟨xs,rfl,h⟩:=h;simp only[cz,CV];exact⟨xs,rfl,asQ (ih ψ hψ) cs _ fp hfp h⟩
end
mutual
def LX (hp:Nat->Option Blk):V->Option (Prop×V×List Nat)
 | .sl id i n=>match hp id with
   | some b=>if bN b.es then some (i=0/\n=b.es.length,.own b.s b.es,[id]) else none
   | none=>none
 | .agg cs=>match aCR hp cs with
   | some (p,vs,ids)=>some (p,.agg vs,ids)
   | none=>none
 | .tup cs=>match aCR hp cs with
   | some (p,vs,ids)=>some (p,.tup vs,ids)
   | none=>none
 | .v x=>some (True,.v x,[])
 | .ro s es=>some (True,.ro s es,[])
 | .rp s es i j=>some (True,.rp s es i j,[])
 | _=>none
def aCR (hp:Nat->Option Blk):List V->Option (Prop×List V×List Nat)
 | []=>some (True,[],[])
 | c::cs=>match LX hp c,aCR hp cs with
   | some (p,v,ids),some (q,vs,ids')=>some (p/\q,v::vs,ids++ids')
   | _,_=>none
end
section
variable {w : World} {D : Nat → Prop} {φ : Nat → Option Pl} {F : Nat → List Nat} {hp : Nat → Option Blk}
omit [GI] in
mutual
theorem aBE (hb:∀ id blk,hp id=some blk->p9 w D φ id blk (F id)):∀ (v:V) (x:Value) (p:Prop) (v':V) (ids:List Nat),LX hp v=some (p,v',ids)->p->CV w D v φ x []->CV w D v' (fun _=>none) x (ids.flatMap F)
 | .undef,x,p,v',ids,hg,hp',h=>by simp[LX] at hg
 | .ref _ _ _,x,p,v',ids,hg,hp',h=>by simp[LX] at hg
 | .own _ _,x,p,v',ids,hg,hp',h=>by simp[LX] at hg
 | .clo _ _,x,p,v',ids,hg,hp',h=>by simp[LX] at hg
 | .v y,x,p,v',ids,hg,hp',h=>by
   simp only[LX,Option.some.injEq,Prod.mk.injEq] at hg;obtain ⟨_,rfl,rfl⟩:=hg;simpa [CV] using h
 | .ro s es,x,p,v',ids,hg,hp',h=>by
   simp only[LX,Option.some.injEq,Prod.mk.injEq] at hg;obtain ⟨_,rfl,rfl⟩:=hg;simp only[CV] at h ⊢;exact⟨rfl,h.2⟩
 | .rp s es i j,x,p,v',ids,hg,hp',h=>by
   simp only[LX,Option.some.injEq,Prod.mk.injEq] at hg;obtain ⟨_,rfl,rfl⟩:=hg;simp only[CV] at h ⊢;exact⟨rfl,h.2⟩
 | .agg cs,x,p,v',ids,hg,hp',h=>by
   simp only[LX] at hg;split at hg<;>simp only[Option.some.injEq,Prod.mk.injEq,reduceCtorEq] at hg;rename_i q vs ids' e;obtain ⟨rfl,rfl,rfl⟩:=hg;simp only[CV] at h ⊢;obtain ⟨xs,rfl,h⟩:=h;exact⟨xs,rfl,aCS hb cs _ _ _ _ e hp' h⟩
 | .tup cs,x,p,v',ids,hg,hp',h=>by
   simp only[LX] at hg;split at hg<;>simp only[Option.some.injEq,Prod.mk.injEq,reduceCtorEq] at hg;rename_i q vs ids' e;obtain ⟨rfl,rfl,rfl⟩:=hg;simp only[CV] at h ⊢;obtain ⟨xs,rfl,h⟩:=h;exact⟨xs,rfl,aCS hb cs _ _ _ _ e hp' h⟩
 | .sl id i n,x,p,v',ids,hg,hp',h=>by
   simp only[LX] at hg;split at hg
   ·rename_i blk hbl;split at hg
    ·rename_i hni;simp only[Option.some.injEq,Prod.mk.injEq] at hg;obtain ⟨rfl,rfl,rfl⟩:=hg;obtain ⟨rfl,rfl⟩:=hp';simp only[CV,List.flatMap_cons,List.flatMap_nil,List.append_nil] at h ⊢;obtain ⟨_,⟨hφ,_,hn,rfl⟩ | ⟨p0,o',cap,hp0,rfl,hnc,hcm,hcap⟩⟩:=h
     ·rcases hb id blk hbl with ⟨_,q,q'⟩ | ⟨p1,arr,ty,f',q1,q2,q3,q4,q5,q6⟩
      ·exact .inl ⟨q,rfl,q'⟩
      ·rw[hφ] at q1;cases q1
     ·rcases hb id blk hbl with ⟨q,_,_⟩ | ⟨p1,arr,ty,f',q1,q2,q3,q4,q5,q6⟩
      ·rw[hp0] at q;cases q
      ·rw[hp0] at q1;cases q1;have q6':=lv (w':=w) (D':=D) (fun _ hb=>hb) _ _ _ (fun _=>none) _ _ (fun _ _=>rfl) (fun id hm=>by rw[jO id _ hni] at hm;cases hm) q6;refine .inr ⟨p0.b,o',cap,arr,ty,f',rfl,hnc,hcm,?_,q4,q5,?_,hni⟩
       ·rcases hcap with hc | ⟨ho,hz⟩
        ·exact .inl hc
        ·exact .inr (by rw[ho,<- q3,<- q2];simpa using hz)
       ·rcases hcap with hc | ⟨ho,hz⟩
        ·have:blk.es=[]:=List.eq_nil_of_length_eq_zero (by omega);rw[this] at q6' ⊢;simpa [CR] using q6'
        ·rw[ho];simpa using q6'
    ·cases hg
   ·cases hg
theorem aCS (hb:∀ id blk,hp id=some blk->p9 w D φ id blk (F id)):∀ (cs:List V) (xs:List Value) (p:Prop) (vs:List V) (ids:List Nat),aCR hp cs=some (p,vs,ids)->p->iU w D cs φ xs []->iU w D vs (fun _=>none) xs (ids.flatMap F)
 | [],xs,p,vs,ids,hg,hp',h=>by
   simp only[aCR,Option.some.injEq,Prod.mk.injEq] at hg;obtain ⟨_,rfl,rfl⟩:=hg;simp only[iU] at h ⊢;exact⟨h.1,rfl⟩
 | c::cs,xs,p,vs,ids,hg,hp',h=>by
   simp only[aCR] at hg;split at hg<;>simp only[Option.some.injEq,Prod.mk.injEq,reduceCtorEq] at hg;rename_i p1 v ids1 q vs' ids' e1 e2;obtain ⟨rfl,rfl,rfl⟩:=hg;simp only[iU] at h;obtain ⟨x,xs',f1,f2,rfl,hf,h1,h2⟩:=h;have hf:=List.append_eq_nil_iff.1 hf.symm;obtain ⟨rfl,rfl⟩:=hf;simp only[iU,List.flatMap_append];exact⟨x,xs',_,_,rfl,rfl,aBE hb c _ _ _ _ e1 hp'.1 h1,aCS hb cs _ _ _ _ e2 hp'.2 h2⟩
end
end
theorem mg {X:Ctx} {s:St} {a:Act} {w:World} {D:Nat->Prop} {φ:Nat->Option Pl} {F:Nat->List Nat} (h:RelD X s a w D φ F []):∀ (ids:List Nat),ids.Nodup->(ids.flatMap F).Nodup
 | [],_=>by simp
 | i::ids,hn=>by
   rw[List.nodup_cons] at hn;rw[List.flatMap_cons,List.nodup_append];refine⟨h.nodup i,mg h ids hn.2,fun b hb c hc e=>?_⟩;subst e;obtain ⟨j,hj,hbj⟩:=List.mem_flatMap.1 hc;exact h.sep i j (fun e=>hn.1 (e▸hj)) b hb hbj
end Go.Abs
namespace Go.Abs
variable [GI]
mutual
def ix (d:Nat):Nat->V->V×List (Nat×Blk)×Nat
 | k,.own s es=>(.sl (d+1000 * k) 0 es.length,[(d+1000 * k,⟨s,es⟩)],k+1)
 | k,.agg cs=>(.agg (takes d k cs).1,(takes d k cs).2.1,(takes d k cs).2.2)
 | k,.tup cs=>(.tup (takes d k cs).1,(takes d k cs).2.1,(takes d k cs).2.2)
 | k,v=>(v,[],k)
def takes (d:Nat):Nat->List V->List V×List (Nat×Blk)×Nat
 | k,[]=>([],[],k)
 | k,c::cs=>((ix d k c).1::(takes d (ix d k c).2.2 cs).1,(ix d k c).2.1++(takes d (ix d k c).2.2 cs).2.1,(takes d (ix d k c).2.2 cs).2.2)
end
mutual
def fW:V->Bool
 | .sl _ _ _=>false
 | .ref _ _ _=>false
 | .clo _ _=>false
 | .agg cs=>Vk cs
 | .tup cs=>Vk cs
 | _=>true
def Vk:List V->Bool
 | []=>true
 | c::cs=>fW c&&Vk cs
end
def VF (f:Nat->Option Blk):List (Nat×Blk)->Nat->Option Blk
 | []=>f
 | (i,b)::l=>VF (oY f i (some b)) l
omit [GI] in
theorem amC (f:Nat->Option Blk):∀ (l l':List (Nat×Blk)),VF f (l++l')=VF (VF f l) l'
 | [],l'=>rfl
 | (i,b)::l,l'=>by simp only[List.cons_append,VF];exact amC _ l l'
mutual
def u5:V->Bool
 | .ro _ es=>es.isEmpty
 | .rp _ _ _ _=>false
 | .own _ es=>pO es
 | .agg cs=>pO cs
 | .tup cs=>pO cs
 | .clo _ cs=>pO cs
 | _=>true
def pO:List V->Bool
 | []=>true
 | c::cs=>u5 c&&pO cs
end
omit [GI] in
mutual
theorem asO {w:World} {D D':Nat->Prop}:∀ (v:V) (φ:Nat->Option Pl) (x:Value) (fp:List Nat),u5 v=true->CV w D v φ x fp->CV w D' v φ x fp
 | .undef,φ,x,fp,_,h=>by simpa [CV] using h
 | .v y,φ,x,fp,_,h=>by simpa [CV] using h
 | .ref _ _ _,φ,x,fp,_,h=>by simpa [CV] using h
 | .sl _ _ _,φ,x,fp,_,h=>by simpa [CV] using h
 | .rp _ _ _ _,φ,x,fp,hn,h=>by simp[u5] at hn
 | .ro s es,φ,x,fp,hn,h=>by
   simp only[u5,List.isEmpty_iff] at hn;subst hn;simp only[CV] at h ⊢;obtain ⟨hf,⟨_,h⟩ | ⟨b,o,cap,arr,h1,h2,h3,h4⟩⟩:=h
   ·exact⟨hf,.inl ⟨trivial,h⟩⟩
   ·exact⟨hf,.inl ⟨trivial,_,cap,by simpa using h1,h3⟩⟩
 | .own s es,φ,x,fp,hn,h=>by
   simp only[u5] at hn;simp only[CV] at h ⊢;rcases h with h | ⟨b,o,cap,arr,ty,fp',h1,h2,h3,h4,h5,h6,h7,h8⟩
   ·exact .inl h
   ·exact .inr ⟨b,o,cap,arr,ty,fp',h1,h2,h3,h4,h5,h6,aBv s es _ _ _ hn h7,h8⟩
 | .agg cs,φ,x,fp,hn,h=>by
   simp only[u5] at hn;simp only[CV] at h ⊢;obtain ⟨xs,h1,h2⟩:=h;exact⟨xs,h1,asS cs _ _ _ hn h2⟩
 | .tup cs,φ,x,fp,hn,h=>by
   simp only[u5] at hn;simp only[CV] at h ⊢;obtain ⟨xs,h1,h2⟩:=h;exact⟨xs,h1,asS cs _ _ _ hn h2⟩
 | .clo _ cs,φ,x,fp,hn,h=>by
   simp only[u5] at hn;simp only[CV] at h ⊢;obtain ⟨xs,h1,h2⟩:=h;exact⟨xs,h1,asS cs _ _ _ hn h2⟩
theorem asS {w:World} {D D':Nat->Prop}:∀ (cs:List V) (φ:Nat->Option Pl) (xs:List Value) (fp:List Nat),pO cs=true->iU w D cs φ xs fp->iU w D' cs φ xs fp
 | [],φ,xs,fp,_,h=>by simpa [iU] using h
 | c::cs,φ,xs,fp,hn,h=>by
   simp only[pO,Bool.and_eq_true] at hn;simp only[iU] at h ⊢;obtain ⟨x,xs',f1,f2,h1,h2,h3,h4⟩:=h;exact⟨x,xs',f1,f2,h1,h2,asO c _ _ _ hn.1 h3,asS cs _ _ _ hn.2 h4⟩
theorem aBv {w:World} {D D':Nat->Prop} (s:Nat):∀ (cs:List V) (φ:Nat->Option Pl) (xs:List Value) (fp:List Nat),pO cs=true->CR w D s cs φ xs fp->CR w D' s cs φ xs fp
 | [],φ,xs,fp,_,h=>by simpa [CR] using h
 | c::cs,φ,xs,fp,hn,h=>by
   simp only[pO,Bool.and_eq_true] at hn;simp only[CR] at h ⊢;obtain ⟨x,xs',f1,f2,h1,h0,h2,h3,h4⟩:=h;exact⟨x,xs',f1,f2,h1,h0,h2,asO c _ _ _ hn.1 h3,aBv s cs _ _ _ hn.2 h4⟩
end
omit [GI] in
theorem aem (hp:Nat->Option Blk):∀ (k:Nat) (v:V),gV v=true->g9 v=true->cz hp k v=cz (fun _=>none) k v
 | 0,v,_,_=>rfl
 | k+1,v,hi,ho=>by
   have hall:∀ cs:List V,bN cs=true->cO cs=true->cs.map (cz hp k)=cs.map (cz (fun _=>none) k):=by
    intro cs
    induction cs with
    | nil=>intros;rfl
    | cons c cs ih =>
      intro h1 h2;simp only[bN,cO,Bool.and_eq_true] at h1 h2;simp[aem hp k c h1.1 h2.1,ih h1.2 h2.2]
   cases v with
   | undef=>rfl
   | v y=>rfl
   | rp s es i j=>rfl
   | ro s es=>rfl
   | ref id i j=>simp[gV] at hi
   | sl id i n=>simp[gV] at hi
   | own s es=>simp[g9] at ho
   | agg cs=>simp only[cz];rw[hall cs (by simpa [gV] using hi) (by simpa [g9] using ho)]
   | tup cs=>simp only[cz];rw[hall cs (by simpa [gV] using hi) (by simpa [g9] using ho)]
   | clo f cs=>simp only[cz];rw[hall cs (by simpa [gV] using hi) (by simpa [g9] using ho)]
section
variable {X : Ctx} {a : Act} {w : World} {D : Nat → Prop}
omit [GI] in
mutual
theorem aHr (d:Nat):∀ (v:V) (k:Nat),k<=(ix d k v).2.2
 | .own s es,k=>by simp[ix]
 | .agg cs,k=>by simp only[ix];exact amB d cs k
 | .tup cs,k=>by simp only[ix];exact amB d cs k
 | .undef,k | .v _,k | .ref _ _ _,k | .sl _ _ _,k | .rp _ _ _ _,k | .ro _ _,k | .clo _ _,k=>by simp[ix]
theorem amB (d:Nat):∀ (cs:List V) (k:Nat),k<=(takes d k cs).2.2
 | [],k=>by simp[takes]
 | c::cs,k=>by simp only[takes];exact Nat.le_trans (aHr d c k) (amB d cs _)
end
structure Took (X:Ctx) (s:St) (a:Act) (w:World) (D:Nat->Prop) (φ:Nat->Option Pl) (F:Nat->List Nat) (G:List Nat) (d k k':Nat) (l:List (Nat×Blk)) (φ':Nat->Option Pl) (F':Nat->List Nat):Prop where
 rel:RelD X { s with hp:=VF s.hp l } a w D φ' F' G
 same:∀ id,(∀ i,k<=i->i < k'->id≠d+1000 * i)->φ' id=φ id
 fresh:∀ j,Fresh s (d+1000 * j)->(∀ i,k<=i->i < k'->j≠i)->Fresh { s with hp:=VF s.hp l } (d+1000 * j)
 sameF:∀ id,(∀ i,k<=i->i < k'->id≠d+1000 * i)->F' id=F id
mutual
theorem aee {d:Nat}:∀ (v:V) (k:Nat) (s:St) (φ:Nat->Option Pl) (F:Nat->List Nat) (x:Value) (fp G:List Nat),fW v=true->RelD X s a w D φ F (fp++G)->CV w D v (fun _=>none) x fp ->
  (∀ i,k<=i->i < (ix d k v).2.2->Fresh s (d+1000 * i)/\d+1000 * i ∉ X.pin) ->
  ∃ φ' F',Took X s a w D φ F G d k (ix d k v).2.2 (ix d k v).2.1 φ' F'/\CV w D (ix d k v).1 φ' x []/\(∀ id,gj id (ix d k v).1=true->∃ i,k<=i/\i < (ix d k v).2.2/\id=d+1000 * i)
 | .own sz es,k,s,φ,F,x,fp,G,hro,h,hv,hf=>by
   simp only[ix] at hf ⊢;obtain ⟨hfr,hpin⟩:=hf k (Nat.le_refl _) (Nat.lt_succ_self _)
   have hmem:∀ id,gj id (.sl (d+1000 * k) 0 es.length)=true->∃ i,k<=i/\i < k+1/\id=d+1000 * i:=fun id hm=>by
    simp only[gj,beq_iff_eq] at hm;exact⟨k,Nat.le_refl _,Nat.lt_succ_self _,hm.symm⟩
   have hsame:∀ (pl:Option Pl) id,(∀ i,k<=i->i < k+1->id≠d+1000 * i)->oY φ (d+1000 * k) pl id=φ id:=fun pl id hi=>gZ _ _ (hi k (Nat.le_refl _) (Nat.lt_succ_self _));have hsameF:∀ (fl:List Nat) id,(∀ i,k<=i->i < k+1->id≠d+1000 * i)->oY F (d+1000 * k) fl id=F id:=fun fl id hi=>gZ _ _ (hi k (Nat.le_refl _) (Nat.lt_succ_self _))
   have hfresh:∀ (hni:∀ j,da (d+1000 * j) es=false) j,Fresh s (d+1000 * j)->(∀ i,k<=i->i < k+1->j≠i)->Fresh { s with hp:=VF s.hp [(d+1000 * k,⟨sz,es⟩)] } (d+1000 * j):=fun hni j hj hne=>by
    have hjk:j≠k:=hne k (Nat.le_refl _) (Nat.lt_succ_self _);refine⟨hj.sl,fun id blk hb=>?_,?_⟩
    ·simp only[VF] at hb;by_cases e:id=d+1000 * k
     ·rw[e,ju] at hb;cases hb;exact hni j
     ·rw[gZ _ _ e] at hb;exact hj.hp id blk hb
    ·simp only[VF];rw[gZ _ _ (by omega)];exact hj.no
   simp only[CV] at hv;rcases hv with ⟨rfl,rfl,rfl⟩ | ⟨b,o,cap,arr,ty,fp',rfl,h2,h3,h4,h5,rfl,h7,h8⟩
   ·refine⟨_,_,⟨RelD.settle (f:=[]) h (d+1000 * k) hfr hpin none ⟨sz,[]⟩ (.inl ⟨by simp,rfl,rfl⟩),hsame none,hfresh fun _=>rfl,hsameF _⟩,?_,hmem⟩;simp[CV]
   ·refine⟨_,_,⟨RelD.settle h (d+1000 * k) hfr hpin (some ⟨b,o,sz,arr.size⟩) ⟨sz,es⟩ (.inr ⟨⟨b,o,sz,arr.size⟩,arr,ty,fp',by simp,rfl,rfl,h5,rfl,?_⟩),hsame _,hfresh fun j=>jO _ _ h8,hsameF _⟩,?_,hmem⟩
    ·exact lv (fun _ hb=>hb) _ _ _ _ _ _ (fun _ _=>rfl) (fun id hm=>by rw[jO id es h8] at hm;cases hm) h7
    ·simp only[CV,ju];refine⟨trivial,.inr ⟨_,o,cap,rfl,rfl,h2,h3,?_⟩⟩;rcases h4 with h4 | h4
     ·exact .inl h4
     ·exact .inr ⟨by simp,by simpa using h4⟩
 | .agg cs,k,s,φ,F,x,fp,G,hro,h,hv,hf=>by
   simp only[ix] at hf ⊢;simp only[CV] at hv;obtain ⟨xs,rfl,hv⟩:=hv;obtain ⟨φ',F',h1,h2,h3⟩:=aDW cs k s φ F xs.toList fp G (by simpa [fW] using hro) h hv hf;exact⟨φ',F',h1,by simp only[CV];exact⟨xs,rfl,h2⟩,fun id hm=>h3 id (by simpa [gj] using hm)⟩
 | .tup cs,k,s,φ,F,x,fp,G,hro,h,hv,hf=>by
   simp only[ix] at hf ⊢;simp only[CV] at hv;obtain ⟨xs,rfl,hv⟩:=hv;obtain ⟨φ',F',h1,h2,h3⟩:=aDW cs k s φ F xs.toList fp G (by simpa [fW] using hro) h hv hf;exact⟨φ',F',h1,by simp only[CV];exact⟨xs,rfl,h2⟩,fun id hm=>h3 id (by simpa [gj] using hm)⟩
 | .undef,k,s,φ,F,x,fp,G,hro,h,hv,hf=>by
   simp only[ix] at hf ⊢;simp only[CV] at hv;subst hv;exact⟨φ,F,⟨h,fun _ _=>rfl,fun j hj _=>hj,fun _ _=>rfl⟩,by simp[CV],fun id hm=>by simp[gj] at hm⟩
 | .v y,k,s,φ,F,x,fp,G,hro,h,hv,hf=>by
   simp only[ix] at hf ⊢;have hfp:fp=[]:=Gj _ _ _ _ rfl hv;subst hfp;exact⟨φ,F,⟨h,fun _ _=>rfl,fun j hj _=>hj,fun _ _=>rfl⟩,by simpa [CV] using hv,fun id hm=>by simp[gj] at hm⟩
 | .ref id i j,k,s,φ,F,x,fp,G,hro,h,hv,hf=>by
   simp only[CV] at hv;obtain ⟨_,p,hp,_⟩:=hv;cases hp
 | .sl id i n,k,s,φ,F,x,fp,G,hro,h,hv,hf=>by
   simp[fW] at hro
 | .rp s' es i j,k,s,φ,F,x,fp,G,hro,h,hv,hf=>by
   simp only[ix] at hf ⊢;have hfp:fp=[]:=Gj _ _ _ _ rfl hv;subst hfp;exact⟨φ,F,⟨h,fun _ _=>rfl,fun j hj _=>hj,fun _ _=>rfl⟩,by simpa [CV] using hv,fun id hm=>by simp[gj] at hm⟩
 | .ro s' es,k,s,φ,F,x,fp,G,hro,h,hv,hf=>by
   simp only[ix] at hf ⊢;have hfp:fp=[]:=Gj _ _ _ _ rfl hv;subst hfp;exact⟨φ,F,⟨h,fun _ _=>rfl,fun j hj _=>hj,fun _ _=>rfl⟩,by simpa [CV] using hv,fun id hm=>by simp[gj] at hm⟩
 | .clo g cs,k,s,φ,F,x,fp,G,hro,h,hv,hf=>by
   simp[fW] at hro
theorem aDW {d:Nat}:∀ (cs:List V) (k:Nat) (s:St) (φ:Nat->Option Pl) (F:Nat->List Nat) (xs:List Value) (fp G:List Nat),Vk cs=true->RelD X s a w D φ F (fp++G)->iU w D cs (fun _=>none) xs fp ->
  (∀ i,k<=i->i < (takes d k cs).2.2->Fresh s (d+1000 * i)/\d+1000 * i ∉ X.pin) ->
  ∃ φ' F',Took X s a w D φ F G d k (takes d k cs).2.2 (takes d k cs).2.1 φ' F'/\iU w D (takes d k cs).1 φ' xs []/\(∀ id,da id (takes d k cs).1=true->∃ i,k<=i/\i < (takes d k cs).2.2/\id=d+1000 * i)
 | [],k,s,φ,F,xs,fp,G,hro,h,hv,hf=>by
   simp only[iU] at hv;obtain ⟨rfl,rfl⟩:=hv;simp only[takes] at hf ⊢;exact⟨φ,F,⟨h,fun _ _=>rfl,fun j hj _=>hj,fun _ _=>rfl⟩,Je,fun id hm=>by simp[da] at hm⟩
 | c::cs,k,s,φ,F,xs,fp,G,hro,h,hv,hf=>by
   simp only[iU] at hv;obtain ⟨x,xs',f1,f2,rfl,rfl,h1,h2⟩:=hv;simp only[takes] at hf ⊢;simp only[Vk,Bool.and_eq_true] at hro;have hle1:=aHr d c k;have hle2:=amB d cs (ix d k c).2.2;rw[List.append_assoc] at h;obtain ⟨φ1,F1,t1,t2,t3⟩:=aee c k s φ F x f1 (f2++G) hro.1 h h1 (fun i hi hi'=>hf i hi (Nat.lt_of_lt_of_le hi' hle2))
   obtain ⟨φ2,F2,u1,u2,u3⟩:=aDW cs (ix d k c).2.2 _ φ1 F1 xs' f2 G hro.2 t1.rel h2 (fun i hi hi'=>by
    have:=hf i (Nat.le_trans hle1 hi) hi';exact⟨t1.fresh i this.1 (fun j hj hj'=>by omega),this.2⟩)
   refine⟨φ2,F2,⟨?_,fun id hid=>?_,fun j hj hne=>?_,fun id hid=>?_⟩,?_,fun id hm=>?_⟩
   ·rw[amC];exact u1.rel
   ·rw[u1.same id (fun i hi hi'=>hid i (Nat.le_trans hle1 hi) hi'),t1.same id (fun i hi hi'=>hid i hi (Nat.lt_of_lt_of_le hi' hle2))]
   ·rw[amC];exact u1.fresh j (t1.fresh j hj (fun i hi hi'=>hne i hi (Nat.lt_of_lt_of_le hi' hle2))) (fun i hi hi'=>hne i (Nat.le_trans hle1 hi) hi')
   ·rw[u1.sameF id (fun i hi hi'=>hid i (Nat.le_trans hle1 hi) hi'),t1.sameF id (fun i hi hi'=>hid i hi (Nat.lt_of_lt_of_le hi' hle2))]
   ·simp only[iU];refine⟨x,xs',[],[],rfl,rfl,pS (fun _ hb=>hb) _ _ _ _ _ (fun _ _=>rfl) (fun id hm=>u1.same id fun i hi hi'=>?_) t2,u2⟩;obtain ⟨j,hj,hj',rfl⟩:=t3 id hm;omega
   ·simp only[da,Bool.or_eq_true] at hm;rcases hm with hm | hm
    ·obtain ⟨i,hi,hi',rfl⟩:=t3 id hm;exact⟨i,hi,Nat.lt_of_lt_of_le hi' hle2,rfl⟩
    ·obtain ⟨i,hi,hi',rfl⟩:=u3 id hm;exact⟨i,Nat.le_trans hle1 hi,hi',rfl⟩
end
def St.took (s:St) (d:Nat) (res:V):St:={ sl:=oY s.sl d (ix d 0 res).1,hp:=VF s.hp (ix d 0 res).2.1 }
theorem aKm {X:Ctx} {s:St} {φ:Nat->Option Pl} {F:Nat->List Nat} (h:RelD X s a w D φ F []) {D':Nat->Prop} (hD:∀ b,D b->D' b) (hF:∀ id b,b ∈ F id->D' b) (k:Nat) :
  ∀ (vs:List V) (xs:List Value),iU w D vs φ xs []->iU w D' (vs.map (cz s.hp k)) (fun _=>none) xs []:=fun vs xs hv =>
 asQ (fun v x fp hfp hc=>amU hD hF h.blks k φ (.inl rfl) v x fp hfp hc) vs xs [] (by simp) hv
omit [GI] in
theorem aBJ {φ:Nat->Option Pl} (hp:Nat->Option Blk) (k:Nat):∀ (vs:List V) (xs:List Value),bN vs=true->cO vs=true->iU w D vs φ xs []->iU w D (vs.map (cz hp k)) (fun _=>none) xs []
 | [],xs,_,_,h=>by simpa [iU] using h
 | v::vs,xs,hi,ho,h=>by
   simp only[bN,cO,Bool.and_eq_true] at hi ho;simp only[iU] at h;obtain ⟨x,xs',f1,f2,rfl,hf,h1,h2⟩:=h;have hf:=List.append_eq_nil_iff.1 hf.symm;obtain ⟨rfl,rfl⟩:=hf;simp only[List.map_cons,iU];refine⟨x,xs',[],[],rfl,rfl,?_,aBJ hp k vs xs' hi.2 ho.2 h2⟩;rw[aem hp k v hi.1 ho.1];exact amU (F:=fun _=>[]) (hp:=fun _=>none) (fun _ hb=>hb) (by simp) (by simp) k φ (.inl rfl) v x [] (by simp) h1
theorem aMa {P:Program} {X:Ctx} {s:St} {f d k:Nat} {vs:List V} {res:V} {xs:List Value} (hP:aa P f (vs.map (cz s.hp k)) res) (h:Rel X s a w) (hv:∀ D φ F,RelD X s a w D φ F []->iU w D vs φ xs [])
  (hd:d < X.n) (hres:fW res=true) (hro:u5 res=true\/(bN vs=true/\cO vs=true)) (hf:∀ i,i < (ix d 0 res).2.2->Fresh s (d+1000 * i)/\d+1000 * i ∉ X.pin) :
  Calls P f xs.toArray w fun e w'=>∃ y,e=.returned y/\Rel X (s.took d res) (a.put (some d) y) w':=by
 obtain ⟨D,φ,F,h⟩:=h;have hvs:=hv D φ F h
 have finish:∀ (D2:Nat->Prop) (w':World) (y:Value) (fp:List Nat),Grow w D [] w' D2->CV w' D2 res (fun _=>none) y fp->fp.Nodup->(∀ b,b ∈ fp->w.heap.size<=b/\b < w'.heap.size/\¬D2 b)->Rel X (s.took d res) (a.put (some d) y) w':=by
  intro D2 w' y fp hg hc hn hfr;have h1:=h.grow w' D2 fp hg.os hg.tape hg.output hg.size (fun b hb=>hg.old b hb (by simp)) hg.Dup (fun b hb=>⟨(hg.Ddn b hb).imp id fun h=>h.resolve_right (by simp),hg.Dlt b hb⟩) hn hfr;rw[List.nil_append,<- List.append_nil fp] at h1;obtain ⟨φ',F',t1,t2,_⟩:=aee (d:=d) res 0 s φ F y fp [] hres h1 hc (fun i _ hi=>hf i hi);exact⟨D2,φ',F',t1.rel.put d hd _ _ t2⟩
 rcases hro with hro | hdir
 ·
  have hargs:=aKm h (D':=fun b=>b < w.heap.size) (fun b hb=>h.Dlt b hb) (fun id b hb=>(h.notD id b hb).2.1) k vs xs hvs;refine(hP.2 w (fun b=>b < w.heap.size) xs (fun _ hb=>hb) (GI.mono h.gi (fun b hb=>h.Dlt b hb) fun _ _=>rfl) hargs).mono ?_;rintro e w' ⟨y,D',fp,rfl,hg,hc,hn,hfr⟩;refine⟨y,rfl,finish (fun b=>D b\/(w.heap.size<=b/\D' b)) w' y fp ?_ (asO res _ _ _ hro hc) hn ?_⟩
  ·exact { hg with Dup:=fun b hb=>.inl hb,Ddn:=fun b hb=>hb.imp id fun h=>.inl h.1,Dlt:=fun b hb=>hb.elim (fun hb=>Nat.lt_of_lt_of_le (h.Dlt b hb) hg.size) (fun hb=>hg.Dlt b hb.2) }
  ·intro b hb;have:=hfr b hb;exact⟨this.1,this.2.1,fun hd=>hd.elim (fun hd=>by have:=h.Dlt b hd;omega) (fun hd=>this.2.2 hd.2)⟩
 ·have hargs:=aBJ s.hp k vs xs hdir.1 hdir.2 hvs;refine(hP.2 w D xs h.Dlt h.gi hargs).mono ?_;rintro e w' ⟨y,D',fp,rfl,hg,hc,hn,hfr⟩;exact⟨y,rfl,finish D' w' y fp hg hc hn hfr⟩
end
end Go.Abs
