/- The law FnScrolls. -/
import Derived.Test.YtopcfaffljjnbaaDoorCodeWFnScrolls
import Derived.Test.YtopcfaffljjnbaaDoorRTexts
import Derived.Test.YtopcfaffljjnbaaDoorDrawMotto
import Derived.Test.YtopcfaffljjnbaaDoorWRead
set_option linter.unusedVariables false
set_option linter.unusedSimpArgs false
namespace Go.Proofs.YtopcfaffljjnbaaDoor
open Go.Abs

theorem tot_cons (x : List UInt8) (l : List (List UInt8)) : tot (x :: l) = x.length + 1 + tot l := by simp [tot]
theorem tot_join : ∀ (l : List (List UInt8)), l ≠ [] → tot l = (joinW l).length + 1
  | [], h => absurd rfl h
  | [x], _ => by simp [tot, joinW]
  | x :: y :: l, _ => by
    have ih := tot_join (y :: l) (by simp)
    have h := joinW_cons x (y :: l)
    rw [if_neg (by simp)] at h
    rw [tot_cons, ih, h]
    simp only [List.length_append, List.length_cons]; omega
theorem mem_tot {x : List UInt8} : ∀ {l : List (List UInt8)}, x ∈ l → x.length + 1 ≤ tot l
  | y :: l, h => by
    rw [tot_cons]
    rcases List.mem_cons.1 h with rfl | h
    · omega
    · have := mem_tot h; omega
theorem tot_of_join {l : List (List UInt8)} {s : List UInt8} (h : joinW l = s) : tot l ≤ s.length + 1 := by
  cases l with
  | nil => simp [tot]
  | cons x l => rw [tot_join _ (by simp), h]; omega
set_option maxHeartbeats 4000000 in
theorem w_FnScrolls (code : List UInt8) : PCall Tryd.prog n_w_FnScrolls [.ro 1 (code.map Y)] (B true) := by
  obtain ⟨t, w, ⟨ht, hw⟩, hD⟩ := s_DrawEvenLines code
  refine PCall.of fn_w_FnScrolls (by simp) ?_
  simp [c_w_FnScrolls, r_w_FnScrolls_0, r_w_FnScrolls_1]
  refine callQ_v (PCall.arg (w_rBig' code) (by simp)) ?_
  simp
  refine ⟨fun _ => by simp [r_w_FnScrolls_2], fun _ => ?_⟩
  simp [r_w_FnScrolls_3]
  refine callQ_of (PCall.arg hD (by simp)) rfl (.inl (by simp)) (by simp) ?_
  simp [r_w_FnScrolls_4]
  refine callQ_of (PCall.arg (i_EvenLines t w (by omega)) (by simp)) rfl (.inl (by simp)) (by simp) ?_
  simp [r_w_FnScrolls_5]
  refine callQ_of (PCall.arg (s_EvenLines t w (by omega)) (by simp)) rfl (.inl (by simp)) (by simp) ?_
  simp [r_w_FnScrolls_6]
  refine callQ_v (PCall.arg (w_rTexts (evenL t w) (evenL t w)) (by simp)) ?_
  simp
  simp [r_w_FnScrolls_8]
  refine callQ_of (PCall.arg (i_FillLines t w (by omega)) (by simp)) rfl (.inl (by simp)) (by simp) ?_
  simp [r_w_FnScrolls_9]
  refine callQ_of (PCall.arg (s_FillLines t w (by omega)) (by simp)) rfl (.inl (by simp)) (by simp) ?_
  simp [r_w_FnScrolls_10]
  refine callQ_v (PCall.arg (w_rTexts (linesF t w) (linesF t w)) (by simp)) ?_
  simp
  simp [r_w_FnScrolls_12]
  refine ⟨fun _ => by simp [r_w_FnScrolls_13], fun ho => ?_⟩
  obtain ⟨l1, l2, l3, l4⟩ := scroll_law ho
  obtain ⟨r1, r2, r3⟩ := scroll_read ho
  have he := evenL_len t w
  have hf := linesF_len t w
  have te := tot_of_join l1
  have tf := tot_of_join l2
  have we : ∀ x ∈ evenL t w, x.length ≤ 1000 := fun x hx => by have := mem_tot hx; omega
  have wf : ∀ x ∈ linesF t w, x.length ≤ 1000 := fun x hx => by have := mem_tot hx; omega
  simp [r_w_FnScrolls_14]
  refine callQ_v (PCall.arg (w_rJoined (evenL t w) (by omega) (by omega)) (by simp)) ?_
  rw [l1]
  simp
  refine callQ_v (PCall.arg (w_rJoined (linesF t w) (by omega) (by omega)) (by simp)) ?_
  rw [l2]
  simp
  refine callQ_v (PCall.arg (w_rRagged (evenL t w) w (by omega) (by omega) we) (by simp)) ?_
  rw [l3]
  simp
  refine callQ_v (PCall.arg (w_rRagged (linesF t w) w (by omega) (by omega) wf) (by simp)) ?_
  have l4' : ¬ rag w (linesF t w) < evenC t w := by omega
  simp [l4']
  simp [r_w_FnScrolls_16]
  refine callQ_of (PCall.arg (i_ScrollPicture t w (by omega)) (by simp)) rfl (.inl (by simp)) (by simp) ?_
  simp [r_w_FnScrolls_17]
  refine callQ_of (PCall.arg (i_ReadScroll (scrollT t w)) (by simp)) rfl (.inl (by simp)) (by simp) ?_
  rw [r1, r2, r3, ho]
  simp [r_w_FnScrolls_18]
end Go.Proofs.YtopcfaffljjnbaaDoor
