/- Texts that are divided into lines: in the program. -/
import Derived.Test.YtbeoijlggphklaaGreatStrs
import Derived.Test.YtbeoijlggphklaaGreatSpecSplit
import Derived.Test.YtbeoijlggphklaaGreatMottoLaw
set_option linter.unusedVariables false
set_option linter.unusedSimpArgs false
namespace Go.Proofs.YtbeoijlggphklaaGreat
open Go.Abs

theorem parts_less {c : UInt8} : ∀ {s w : List UInt8}, w ∈ parts c s → w.length ≤ s.length
  | [], w, h => by
    rw [parts] at h
    simp at h; subst h; simp
  | x :: s, w, h => by
    obtain ⟨p, ps, h1, h2⟩ := parts_cons c x s
    rw [h2] at h
    have ih : ∀ v ∈ p :: ps, v.length ≤ s.length := fun v hv => parts_less (by rw [h1]; exact hv)
    have hp := ih p (by simp)
    split at h
    · rcases List.mem_cons.1 h with rfl | h
      · simp
      · have := ih w h; simp; omega
    · rcases List.mem_cons.1 h with rfl | h
      · simp; omega
      · have := ih w (by simp [h]); simp; omega
theorem fillGo_long (w : Int) (m : Nat) (hw : w ≤ m) : ∀ (r : List (List UInt8)) (cur : List UInt8), cur.length ≤ m → (∀ x ∈ r, x.length ≤ m) → ∀ x ∈ fillGo w cur r, x.length ≤ m
  | [], cur, hc, _ => by simpa [fillGo] using hc
  | y :: r, cur, hc, hr => by
    rw [fillGo]
    split
    · exact fillGo_long w m hw r _ (by simp; omega) fun x hx => hr x (by simp [hx])
    · intro x hx
      rcases List.mem_cons.1 hx with rfl | hx
      · exact hc
      · exact fillGo_long w m hw r _ (hr y (by simp)) (fun x hx => hr x (by simp [hx])) x hx
theorem fillGo_count (w : Int) : ∀ (r : List (List UInt8)) (cur : List UInt8), (fillGo w cur r).length ≤ r.length + 1
  | [], cur => by simp [fillGo]
  | x :: r, cur => by
    rw [fillGo]
    split
    · have := fillGo_count w r (cur ++ 32 :: x); simp; omega
    · have := fillGo_count w r x; simp; omega
/-- How far the filling has come. -/
def Wrapped (w : Int) (L out : List (List UInt8)) (i : Nat) : Prop :=
  (i = 0 ∧ out = []) ∨ ∃ done cur, out = done ++ [cur] ∧ cur.length ≤ 1000 ∧ fill w L = done ++ fillGo w cur (L.drop i)
theorem Wrapped.done {w : Int} {L out : List (List UInt8)} (h : Wrapped w L out L.length) : fill w L = out := by
  rcases h with ⟨h0, rfl⟩ | ⟨done, cur, rfl, _, h⟩
  · have : L = [] := List.length_eq_zero_iff.1 h0
    subst this; rfl
  · rw [h, List.drop_length, fillGo]

end Go.Proofs.YtbeoijlggphklaaGreat
