/- Orders and pages of a roll, as plain rows. No program in sight. -/
import Derived.Test.YtbeoijlggphklaaGreatBase
set_option linter.unusedVariables false
set_option linter.unusedSimpArgs false
namespace Go.Proofs.YtbeoijlggphklaaGreat
open Go.Abs

/-- x is put into a row from its right end, before those of which p holds. -/
def insR {α : Type} (p : α → Bool) (x : α) (l : List α) : List α := l.take (l.length - (l.reverse.takeWhile p).length) ++ x :: l.drop (l.length - (l.reverse.takeWhile p).length)
theorem insR_at {α : Type} {p : α → Bool} {x : α} {l : List α} {j : Nat} (hj : j ≤ l.length) (h1 : ∀ q (h : q < l.length), j ≤ q → p l[q] = true) (h2 : ∀ h : 0 < j, p (l[j - 1]'(by omega)) = false) :
    insR p x l = l.take j ++ x :: l.drop j := by
  have e : (l.reverse.takeWhile p).length = l.length - j := by
    have h0 : l.reverse = (l.drop j).reverse ++ (l.take j).reverse := by rw [← List.reverse_append, List.take_append_drop]
    have h3 : ∀ a ∈ (l.drop j).reverse, p a = true := by
      intro a ha
      rw [List.mem_reverse] at ha
      obtain ⟨q, hq, rfl⟩ := List.getElem_of_mem ha
      rw [List.getElem_drop]
      exact h1 _ _ (by omega)
    have h4 : (l.take j).reverse.takeWhile p = [] := by
      cases j with
      | zero => simp
      | succ j =>
        have := h2 (by omega)
        rw [List.take_succ_eq_append_getElem (by omega), List.reverse_append]
        simp only [Nat.add_sub_cancel] at this
        simp [this]
    rw [h0, List.takeWhile_append_of_pos h3, h4]
    simp
  unfold insR
  rw [e, show l.length - (l.length - j) = j by omega]
theorem insR_len {α : Type} (p : α → Bool) (x : α) (l : List α) : (insR p x l).length = l.length + 1 := by
  unfold insR
  generalize l.length - (l.reverse.takeWhile p).length = k
  rw [List.length_append, List.length_cons, List.length_take, List.length_drop]; omega
theorem insR_mem {α : Type} {p : α → Bool} {x y : α} {l : List α} : y ∈ insR p x l ↔ y = x ∨ y ∈ l := by
  unfold insR
  generalize l.length - (l.reverse.takeWhile p).length = k
  rw [List.mem_append, List.mem_cons]
  conv => rhs; rw [← List.take_append_drop k l, List.mem_append]
  constructor
  · rintro (h | h | h)
    · exact .inr (.inl h)
    · exact .inl h
    · exact .inr (.inr h)
  · rintro (h | h | h)
    · exact .inr (.inl h)
    · exact .inl h
    · exact .inr (.inr h)
theorem takeWhile_congr {α : Type} {p q : α → Bool} : ∀ {l : List α}, (∀ y ∈ l, p y = q y) → l.takeWhile p = l.takeWhile q
  | [], _ => rfl
  | x :: l, h => by
    rw [List.takeWhile_cons, List.takeWhile_cons, h x (by simp), takeWhile_congr fun y hy => h y (by simp [hy])]
theorem insR_congr {α : Type} {p q : α → Bool} {x : α} {l : List α} (h : ∀ y ∈ l, p y = q y) : insR p x l = insR q x l := by
  unfold insR
  rw [takeWhile_congr (q := q) fun y hy => h y (List.mem_reverse.1 hy)]
theorem insR_map {α β : Type} (f : β → α) (p : α → Bool) (x : β) (l : List β) : insR p (f x) (l.map f) = (insR (fun y => p (f y)) x l).map f := by
  have e : ((l.map f).reverse.takeWhile p).length = (l.reverse.takeWhile fun y => p (f y)).length := by
    rw [← List.map_reverse, List.takeWhile_map, List.length_map]; rfl
  unfold insR
  rw [e, List.length_map, List.map_append, List.map_cons, List.map_take, List.map_drop]
/-- A row in order, stable. -/
def sortR {α : Type} (lt : α → α → Bool) (l : List α) : List α := l.foldl (fun acc x => insR (lt x) x acc) []
theorem sortR_snoc {α : Type} (lt : α → α → Bool) (l : List α) (x : α) : sortR lt (l ++ [x]) = insR (lt x) x (sortR lt l) := by
  unfold sortR
  rw [List.foldl_append]; rfl
theorem sortR_nil {α : Type} (lt : α → α → Bool) : sortR lt ([] : List α) = [] := rfl
/-- From the end. -/
theorem snoc_ind {α : Type} {P : List α → Prop} (h0 : P []) (h1 : ∀ l x, P l → P (l ++ [x])) (l : List α) : P l := by
  have : ∀ n (l : List α), l.length = n → P l := by
    intro n
    induction n with
    | zero => intro l h; rw [List.length_eq_zero_iff.1 h]; exact h0
    | succ n ih =>
      intro l h
      have hne : l ≠ [] := by rintro rfl; simp at h
      rw [← List.dropLast_concat_getLast hne]
      exact h1 _ _ (ih _ (by rw [List.length_dropLast]; omega))
  exact this _ l rfl
theorem sortR_len {α : Type} (lt : α → α → Bool) (l : List α) : (sortR lt l).length = l.length := by
  induction l using snoc_ind with
  | h0 => rfl
  | h1 l x ih => rw [sortR_snoc, insR_len, ih, List.length_append]; rfl
theorem sortR_mem {α : Type} {lt : α → α → Bool} {l : List α} {y : α} : y ∈ sortR lt l ↔ y ∈ l := by
  induction l using snoc_ind with
  | h0 => rfl
  | h1 l x ih =>
    rw [sortR_snoc, insR_mem, ih, List.mem_append, List.mem_singleton]
    exact Or.comm
theorem sortR_map {α β : Type} (f : β → α) (lt : α → α → Bool) (l : List β) : sortR lt (l.map f) = (sortR (fun a b => lt (f a) (f b)) l).map f := by
  induction l using snoc_ind with
  | h0 => rfl
  | h1 l x ih => rw [List.map_append, List.map_cons, List.map_nil, sortR_snoc, ih, insR_map, sortR_snoc]
theorem sortR_none {α : Type} {lt : α → α → Bool} (h : ∀ x y, lt x y = false) (l : List α) : sortR lt l = l := by
  induction l using snoc_ind with
  | h0 => rfl
  | h1 l x ih =>
    rw [sortR_snoc, ih, insR_at (Nat.le_refl _) (fun q h1 h2 => by omega) (fun _ => h _ _)]
    simp

/-! ### Pages -/
def sizeB {α : Type} (sz : α → Nat) (p : List α) : Nat := (p.map sz).sum
theorem sizeB_snoc {α : Type} (sz : α → Nat) (p : List α) (x : α) : sizeB sz (p ++ [x]) = sizeB sz p + sz x := by simp [sizeB]
/-- Pages that are full, and the page that is being filled. -/
def packGo {α : Type} (sz : α → Nat) (h : Nat) : List (List α) → List α → List α → Option (List (List α))
  | done, cur, [] => some (if cur.isEmpty then done else done ++ [cur])
  | done, cur, x :: xs => if h < sz x then none else if cur.isEmpty then packGo sz h done [x] xs else if h < sizeB sz cur + sz x then packGo sz h (done ++ [cur]) [x] xs else packGo sz h done (cur ++ [x]) xs
/-- The pages on which things of some sizes stand. -/
def packs {α : Type} (sz : α → Nat) (h : Nat) (l : List α) : Option (List (List α)) := packGo sz h [] [] l
theorem packGo_map {α β : Type} (f : β → α) (sz : α → Nat) (h : Nat) : ∀ (l : List β) (done : List (List β)) (cur : List β), packGo sz h (done.map (·.map f)) (cur.map f) (l.map f) = (packGo (fun b => sz (f b)) h done cur l).map (·.map (·.map f))
  | [], done, cur => by
    cases cur <;> simp [packGo]
  | x :: xs, done, cur => by
    have e : sizeB sz (cur.map f) = sizeB (fun b => sz (f b)) cur := by simp [sizeB, Function.comp_def]
    have e0 : (cur.map f).isEmpty = cur.isEmpty := by cases cur <;> rfl
    rw [List.map_cons, packGo, packGo, e, e0]
    have h1 := packGo_map f sz h xs done [x]
    have h2 := packGo_map f sz h xs (done ++ [cur]) [x]
    have h3 := packGo_map f sz h xs done (cur ++ [x])
    simp only [List.map_append, List.map_cons, List.map_nil] at h1 h2 h3
    split
    · rfl
    split
    · exact h1
    split
    · exact h2
    · exact h3
theorem packs_map {α β : Type} (f : β → α) (sz : α → Nat) (h : Nat) (l : List β) : packs sz h (l.map f) = (packs (fun b => sz (f b)) h l).map (·.map (·.map f)) := packGo_map f sz h l [] []
/-- What is on pages. -/
theorem packGo_flat {α : Type} {sz : α → Nat} {h : Nat} : ∀ (l : List α) (done : List (List α)) (cur : List α) (ps : List (List α)), packGo sz h done cur l = some ps → ps.flatten = done.flatten ++ cur ++ l
  | [], done, cur, ps, e => by
    rw [packGo] at e
    cases cur with
    | nil => simp at e; simp [← e]
    | cons a t => simp at e; simp [← e]
  | x :: xs, done, cur, ps, e => by
    rw [packGo] at e
    split at e
    · cases e
    split at e
    · rename_i hc
      rw [packGo_flat xs _ _ ps e]
      rw [List.isEmpty_iff.1 hc]; simp
    split at e
    · rw [packGo_flat xs _ _ ps e]; simp
    · rw [packGo_flat xs _ _ ps e]; simp
theorem packs_flat {α : Type} {sz : α → Nat} {h : Nat} {l : List α} {ps : List (List α)} (e : packs sz h l = some ps) : ps.flatten = l := by
  have := packGo_flat _ _ _ _ e
  simpa using this
/-- No page is empty, none too long. -/
theorem packGo_ok {α : Type} {sz : α → Nat} {h : Nat} : ∀ (l : List α) (done : List (List α)) (cur : List α) (ps : List (List α)), (∀ p ∈ done, p ≠ [] ∧ sizeB sz p ≤ h) → sizeB sz cur ≤ h → packGo sz h done cur l = some ps → ∀ p ∈ ps, p ≠ [] ∧ sizeB sz p ≤ h
  | [], done, cur, ps, hd, hc, e => by
    rw [packGo] at e
    cases cur with
    | nil => simp at e; rw [← e]; exact hd
    | cons a t =>
      simp at e
      rw [← e]
      intro p hp
      rw [List.mem_append, List.mem_singleton] at hp
      rcases hp with hp | rfl
      · exact hd p hp
      · exact ⟨by simp, hc⟩
  | x :: xs, done, cur, ps, hd, hc, e => by
    rw [packGo] at e
    split at e
    · cases e
    split at e
    · exact packGo_ok xs _ _ ps hd (by simp [sizeB]; omega) e
    split at e
    · rename_i hx hce _
      refine packGo_ok xs _ _ ps (fun p hp => ?_) (by simp [sizeB]; omega) e
      rw [List.mem_append, List.mem_singleton] at hp
      rcases hp with hp | rfl
      · exact hd p hp
      · exact ⟨by rintro rfl; exact hce rfl, hc⟩
    · exact packGo_ok xs _ _ ps hd (by rw [sizeB_snoc]; omega) e
theorem packs_ok {α : Type} {sz : α → Nat} {h : Nat} {l : List α} {ps : List (List α)} (e : packs sz h l = some ps) : ∀ p ∈ ps, p ≠ [] ∧ sizeB sz p ≤ h :=
  packGo_ok l [] [] ps (by simp) (by simp [sizeB]) e
/-- The page of each. -/
def ofGo {α : Type} : Nat → List (List α) → List Nat
  | _, [] => []
  | k, p :: ps => List.replicate p.length (k + 1) ++ ofGo (k + 1) ps
theorem ofGo_map {α β : Type} (f : List α → List β) (hf : ∀ p, (f p).length = p.length) : ∀ (k : Nat) (ps : List (List α)), ofGo k (ps.map f) = ofGo k ps
  | _, [] => rfl
  | k, p :: ps => by rw [List.map_cons, ofGo, ofGo, hf, ofGo_map f hf (k + 1) ps]
theorem ofGo_append {α : Type} : ∀ (k : Nat) (ps qs : List (List α)), ofGo k (ps ++ qs) = ofGo k ps ++ ofGo (k + ps.length) qs
  | k, [], qs => by simp [ofGo]
  | k, p :: ps, qs => by rw [List.cons_append, ofGo, ofGo, ofGo_append (k + 1) ps qs, List.append_assoc, List.length_cons, show k + 1 + ps.length = k + (ps.length + 1) by omega]
theorem ofGo_len {α : Type} : ∀ (k : Nat) (ps : List (List α)), (ofGo k ps).length = ps.flatten.length
  | _, [] => rfl
  | k, p :: ps => by rw [ofGo, List.length_append, List.length_replicate, ofGo_len (k + 1) ps, List.flatten_cons, List.length_append]
/-! ### How far the pages have come -/
def PagedAt {α : Type} (sz : α → Nat) (h : Nat) (L : List α) (k : Nat) (P : List (List α)) : Prop :=
  (k = 0 ∧ P = []) ∨ ∃ done cur, P = done ++ [cur] ∧ cur ≠ [] ∧ packs sz h L = packGo sz h done cur (L.drop k)
section
variable {α : Type} {sz : α → Nat} {h : Nat} {L : List α} {k : Nat} {P : List (List α)}
theorem PagedAt.fail (hp : PagedAt sz h L k P) (hk : k < L.length) (hs : h < sz L[k]) : packs sz h L = none := by
  rcases hp with ⟨rfl, rfl⟩ | ⟨done, cur, rfl, hc, e⟩
  · cases L with
    | nil => simp at hk
    | cons x L =>
      simp at hs
      rw [packs, packGo, if_pos hs]
  · rw [e, List.drop_eq_getElem_cons hk, packGo, if_pos hs]
theorem PagedAt.new (hp : PagedAt sz h L k P) (hk : k < L.length) (hs : ¬ h < sz L[k]) (hn : P = [] ∨ ∃ done cur, P = done ++ [cur] ∧ h < sizeB sz cur + sz L[k]) : PagedAt sz h L (k + 1) (P ++ [[L[k]]]) := by
  refine .inr ⟨P, [L[k]], rfl, by simp, ?_⟩
  rcases hp with ⟨rfl, rfl⟩ | ⟨done, cur, rfl, hc, e⟩
  · cases L with
    | nil => simp at hk
    | cons x L =>
      simp at hs
      rw [packs, packGo, if_neg (by omega)]
      simp
  · have hc' : cur.isEmpty = false := by cases cur <;> simp_all
    rcases hn with hn | ⟨done', cur', e2, hn⟩
    · simp at hn
    · have e3 := List.append_inj' e2 rfl
      simp only [List.cons.injEq, and_true] at e3
      obtain ⟨rfl, rfl⟩ := e3
      rw [e, List.drop_eq_getElem_cons hk, packGo, if_neg hs, hc', if_neg (by simp), if_pos hn]
theorem PagedAt.add {done : List (List α)} {cur : List α} (hp : PagedAt sz h L k (done ++ [cur])) (hk : k < L.length) (hs : ¬ h < sz L[k]) (hn : ¬ h < sizeB sz cur + sz L[k]) : PagedAt sz h L (k + 1) (done ++ [cur ++ [L[k]]]) := by
  rcases hp with ⟨_, e⟩ | ⟨done', cur', e2, hc, e⟩
  · simp at e
  · have e3 := List.append_inj' e2 rfl
    simp only [List.cons.injEq, and_true] at e3
    obtain ⟨rfl, rfl⟩ := e3
    have hc' : cur.isEmpty = false := by cases cur <;> simp_all
    exact .inr ⟨done, cur ++ [L[k]], rfl, by simp, by rw [e, List.drop_eq_getElem_cons hk, packGo, if_neg hs, hc', if_neg (by simp), if_neg hn]⟩
theorem PagedAt.done (hp : PagedAt sz h L L.length P) : packs sz h L = some P := by
  rcases hp with ⟨h0, rfl⟩ | ⟨done, cur, rfl, hc, e⟩
  · have : L = [] := List.length_eq_zero_iff.1 h0
    subst this; rfl
  · have hc' : cur.isEmpty = false := by cases cur <;> simp_all
    rw [e, List.drop_length, packGo, hc']; rfl
end
end Go.Proofs.YtbeoijlggphklaaGreat
