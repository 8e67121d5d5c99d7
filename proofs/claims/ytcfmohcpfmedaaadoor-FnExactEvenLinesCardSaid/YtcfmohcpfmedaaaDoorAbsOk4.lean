/- The abstract layer, part 7: append. -/
import Derived.Test.YtcfmohcpfmedaaaDoorAbsOk3
import Derived.Laws.BytesString
set_option linter.unusedVariables false
set_option linter.unusedSimpArgs false
namespace Go.Abs
variable [GInv]
section
variable {P : Program} {X : Ctx} {s : St} {a : Act} {w : World} {D : Nat → Prop} {φ : Nat → Option Pl} {F : Nat → List Nat} {o : Oper}

omit [GInv] in
theorem CR_ones : ∀ {s : Nat} {es : List V} {φ : Nat → Option Pl} {xs : List Value} {f : List Nat}, CR w D s es φ xs f → ∀ x ∈ xs.take (es.length * s), one x = true
  | s, [], φ, xs, f, h, x, hx => by simp at hx
  | s, e :: es, φ, xs, f, h, x, hx => by
    simp only [CR] at h; obtain ⟨y, rest, f1, f2, rfl, ⟨hs, ho⟩, rfl, h1, h⟩ := h
    have : (e :: es).length * s = y.cells.toList.length + es.length * s := by simp [hs, Nat.add_mul]; omega
    rw [this, List.take_length_add_append] at hx
    rcases List.mem_append.1 hx with hx | hx
    · exact List.all_eq_true.1 ho x hx
    · exact CR_ones h x hx

/-- What append's source holds. -/
theorem src_ok (h : RelD X s a w D φ F []) {y : Operand} {x : Abs.X} (hx : cX y = some x) {sz : Nat} {ds : List V} (hs : srcOf sz s.hp (s.ev x) = some ds) :
    ∃ ad c news, a.eval y = .slice ad ds.length c ∧ news.length = ds.length * sz ∧ (ds.length ≠ 0 → ∃ b, ad = some b ∧ ∀ j u, news[j]? = some u → w.cell? (b.add j) = some u) ∧ (∀ u ∈ news, one u = true) ∧
      (noOwns ds = true → CR w D sz ds φ news []) := by
  have hcv := cX_ok hx h
  generalize s.ev x = v at hs hcv
  unfold srcOf at hs
  split at hs
  · rename_i id i n
    cases hb : s.hp id with
    | none => simp [hb] at hs
    | some blk =>
      simp only [hb] at hs
      split at hs
      · rename_i hcond
        obtain ⟨hbs, hno, hle⟩ := hcond
        simp only [Option.some.injEq] at hs; subst hs
        have hlen : ((blk.es.drop i).take n).length = n := by rw [List.length_take, List.length_drop]; omega
        simp only [CV] at hcv
        obtain ⟨_, ⟨_, _, rfl, hxv⟩ | ⟨p0, o', cap, hp0, hxv, hnc, hcm, hcap⟩⟩ := hcv
        · exact ⟨none, 0, [], by rw [hlen]; exact hxv, by simp, by simp, by simp, fun _ => by simp [CR]⟩
        · rw [hlen]
          by_cases hn : n = 0
          · subst hn; exact ⟨_, cap, [], hxv, by simp, by simp, by simp, fun _ => by simp [CR]⟩
          · rcases h.blks id blk hb with ⟨q, _, _⟩ | ⟨p1, arr, ty, f', q1, q2, q3, q4, q5, q6⟩
            · rw [hp0] at q; cases q
            · rw [hp0] at q1; cases q1
              have : f' = [] := CR_noOwn _ _ _ _ hno q6
              subst this
              obtain ⟨ho, _⟩ := hcap.resolve_left (by omega)
              have hcr := CR_take n (CR_drop i q6)
              rw [List.drop_drop, hbs] at hcr
              have hl := CR_length q6
              simp only [List.length_drop, Array.length_toList, hbs] at hl
              have hmul : (i + n) * sz ≤ blk.es.length * sz := Nat.mul_le_mul_right _ hle
              rw [Nat.add_mul] at hmul
              refine ⟨_, cap, (arr.toList.drop (p0.o + i * sz)).take (n * sz), hxv, ?_, fun _ => ⟨_, rfl, fun j u hu => ?_⟩, ?_, fun _ => CR_ext hcr fun j hj => ?_⟩
              · rw [List.length_take, List.length_drop, Array.length_toList]; 
                by_cases hz : n * sz = 0
                · omega
                · have : 0 < blk.es.length * sz := by omega
                  omega
              · rw [List.getElem?_take] at hu
                split at hu
                · rw [List.getElem?_drop, Array.getElem?_toList] at hu
                  rw [Addr.add_lit, cell?_of_blk (blk?_of_heap q4), ho, q2, hbs]
                  exact hu
                · cases hu
              · have := CR_ones hcr
                rw [hlen] at this
                exact this
              · rw [hlen] at hj
                rw [List.getElem?_take, if_pos hj]
      · cases hs
  · rename_i s' es
    split at hs
    · rename_i hss; subst hss
      simp only [Option.some.injEq] at hs; subst hs
      simp only [CV] at hcv
      obtain ⟨_, ⟨rfl, a', cap, hxv, _⟩ | ⟨b, o', cap, arr, hxv, hnc, hcm, hD, hbk, hcr, hni⟩⟩ := hcv
      · exact ⟨a', cap, [], hxv, by simp, by simp, by simp, fun _ => by simp [CR]⟩
      · have hl := CR_length hcr
        rw [List.length_drop] at hl
        refine ⟨_, cap, (arr.toList.drop o').take (es.length * s'), hxv, ?_, fun _ => ⟨_, rfl, fun j u hu => ?_⟩, CR_ones hcr, fun _ => ?_⟩
        · rw [List.length_take, List.length_drop]; omega
        · rw [List.getElem?_take] at hu
          split at hu
          · rw [List.getElem?_drop, Array.getElem?_toList] at hu
            rw [Addr.add_lit, cell?_of_blk hbk]
            exact hu
          · cases hu
        · refine CR_ext (CR_mono (fun _ hb => hb) _ _ _ _ _ _ (fun _ _ => rfl) (fun id hm => ?_) hcr) fun j hj => ?_
          · rw [ments_noIds id es hni] at hm; cases hm
          · rw [List.getElem?_take, if_pos hj]
    · cases hs
  · simp only [Option.some.injEq] at hs; subst hs
    have hxv := CV_v hcv
    exact ⟨_, _, [], hxv, by simp, by simp, by simp, fun _ => by simp [CR]⟩
  · cases hs

omit [GInv] in
theorem run_app {t : TypeId} {yx yy : Operand} {c : Call} (hop : o.op = .call c) (hcal : c.callee = .builtin .append) (harg : c.args.toList = [yx, yy]) (hty : c.argTypes.toList = [t, t]) {r : Value} {w' : World}
    (hr : (Builtin.append_ #[t, t] o.type #[a.eval yx, a.eval yy]).run P w = .ok r w') : (execOp a.eval o).run P w = .ok (.value r) w' := by
  obtain ⟨cal, args, tys⟩ := c
  simp only at hcal harg hty
  obtain rfl : args = #[yx, yy] := by rw [← Array.toArray_toList (xs := args), harg]
  obtain rfl : tys = #[t, t] := by rw [← Array.toArray_toList (xs := tys), hty]
  subst hcal
  simp [execOp, hop, resolve, invoke, builtin, hr]

omit [GInv] in
/-- Nothing is appended. -/
theorem run_append_zero {t e ty : TypeId} {i : TypeInfo} (ht : P.underlying t = some (.slice e)) (hi : P.info? e = some i) (base : Option Addr) (n cap : Nat) (hn : n ≤ cap) (y : Option Addr) (c : Nat) :
    (Builtin.append_ #[t, t] ty #[.slice base n cap, .slice y 0 c]).run P w = .ok (.slice base n cap) w := by
  have hf : (Builtin.firstCells i.size 0 (.slice y 0 c)).run P w = .ok #[] w := by
    cases y <;> simp [Builtin.firstCells, loadCells, loadCellsFrom]
  cases base <;> simp [Builtin.append_, run_underlying ht, sizeOf, typeInfo, hi, Builtin.lenOf, hn, hf, storeCells]

omit [GInv] in
/-- There is room. -/
theorem run_append_room' {t e ty ety : TypeId} {i : TypeInfo} (ht : P.underlying t = some (.slice e)) (hi : P.info? e = some i) {b f n cap m c : Nat} {arr : Array Value} (hw : w.heap[b]? = some (.cells arr ety (0, 0))) {ad : Addr} (news : List Value)
    (hl : news.length = m * i.size) (hnews : ∀ j u, news[j]? = some u → w.cell? (ad.add j) = some u) (h1 : ∀ u ∈ news, one u = true) (hroom : n + m ≤ cap) (hfit : f + n * i.size + news.length ≤ arr.size) :
    ∃ arr' : Array Value, arr'.toList = arr.toList.take (f + n * i.size) ++ news ++ arr.toList.drop (f + n * i.size + news.length) ∧
      (Builtin.append_ #[t, t] ty #[.slice (some ⟨b, f, none⟩) n cap, .slice (some ad) m c]).run P w = .ok (.slice (some ⟨b, f, none⟩) (n + m) cap) { w with heap := w.heap.setIfInBounds b (.cells arr' ety (0, 0)) } := by
  obtain ⟨arr', g1, g2⟩ := run_store_at (P := P) hw news h1 hfit
  refine ⟨arr', g1, ?_⟩
  have hf := run_firstCells_some (P := P) w i.size m ad m c news hl hnews
  simp [Builtin.append_, run_underlying ht, sizeOf, typeInfo, hi, Builtin.lenOf, hroom, hf, Addr.add_lit, g2]

omit [GInv] in
theorem ments_of_take {d : Nat} {es : List V} (h : ments d es = false) (i n : Nat) : ments d ((es.drop i).take n) = false := by
  have hall : ∀ {es : List V}, ments d es = false ↔ ∀ e ∈ es, ment d e = false := by
    intro es
    induction es with
    | nil => simp [ments]
    | cons c cs ih => simp [ments, ih]
  rw [hall] at h ⊢
  exact fun e he => h e (List.mem_of_mem_drop (List.mem_of_mem_take he))

omit [GInv] in
theorem ments_append {d : Nat} : ∀ {es ds : List V}, ments d es = false → ments d ds = false → ments d (es ++ ds) = false
  | [], ds, _, h => h
  | c :: cs, ds, h, h' => by
    simp only [ments, Bool.or_eq_false_iff, List.cons_append] at h ⊢
    exact ⟨h.1, ments_append h.2 h'⟩

omit [GInv] in
theorem src_fresh {y : Operand} {x : Abs.X} (hx : cX y = some x) {d : Nat} (hf : Fresh s d) {sz : Nat} {ds : List V} (hs : srcOf sz s.hp (s.ev x) = some ds) (hn : ∀ sz es, s.ev x = .ro sz es → ments d es = false) : ments d ds = false := by
  generalize s.ev x = v at hs hn
  unfold srcOf at hs
  split at hs
  · rename_i id i n
    cases hb : s.hp id with
    | none => simp [hb] at hs
    | some blk =>
      simp only [hb] at hs
      split at hs
      · simp only [Option.some.injEq] at hs; subst hs
        exact ments_of_take (hf.hp id blk hb) i n
      · cases hs
  · split at hs
    · simp only [Option.some.injEq] at hs; subst hs; exact hn _ _ rfl
    · cases hs
  · simp only [Option.some.injEq] at hs; subst hs; rfl
  · cases hs

/-- Behind append: a nil slice stays nil. -/
theorem app_nil (h : RelD X s a w D φ F []) {d : Nat} (hdst : o.dst = some d) (hd : d < X.n) (hf : Fresh s d) (hp : d ∉ X.pin) (sz : Nat) (hr : (execOp a.eval o).run P w = .ok (.value (.slice none 0 0)) w) :
    Rel X (({ v := .sl d 0 0, new := some ⟨sz, []⟩ } : Dl).app (some d) s) (a.put (some d) (.slice none 0 0)) w := by
  have h1 := RelD.settle (f := []) (G := []) h d hf hp none ⟨sz, []⟩ (.inl ⟨by simp, rfl, rfl⟩)
  exact ⟨D, _, _, h1.put d hd (.sl d 0 0) (.slice none 0 0) (by simp [CV])⟩

omit [GInv] in
theorem maxLen_lenBound {n : Nat} (h : n ≤ lenBound) : n ≤ maxLen := by unfold lenBound at h; unfold maxLen; omega

/-- Behind append: new memory. -/
theorem app_new (h : RelD X s a w D φ F []) {d : Nat} (hdst : o.dst = some d) (hd : d < X.n) (hf : Fresh s d) (hp : d ∉ X.pin) {sz n cap : Nat} {es : List V} {arr : Array Value} {e : TypeId} {w' : World}
    (hr : (execOp a.eval o).run P w = .ok (.value (.slice (some ⟨w.heap.size, 0, none⟩) n cap)) w') (hh : w'.heap = w.heap.push (.cells arr e (0, 0))) (hos : w'.os = w.os) (htape : w'.tape = w.tape) (hout : w'.output = w.output)
    (hm : ments d es = false) (hc : CR w D sz es φ arr.toList []) (hn : n ≤ cap) (hcm : cap ≤ maxLen) (hz : cap * sz ≤ arr.size) (del : Option Nat) :
    Runs P o X a w (({ v := .sl d 0 n, new := some ⟨sz, es⟩, del := del } : Dl).app o.dst s) := by
  cases del with
  | none => exact runs_new h hdst hd hf hp hr hos htape hout arr e hh ⟨sz, es⟩ hm hc (CV_sl_new hn hcm hz)
  | some id =>
    have h0 := (h.release id).gsub (G' := []) (List.nil_sublist _)
    have hf' : Fresh { s with hp := upd s.hp id none } d := ⟨hf.sl, fun i b hb => by
      by_cases e : i = id
      · subst e; simp at hb
      · simp only [upd, e, if_false] at hb; exact hf.hp i b hb, by
      by_cases e : d = id
      · subst e; simp
      · simp only [upd, e, if_false]; exact hf.no⟩
    have h1 := runs_new (o := o) (P := P) h0 hdst hd hf' hp hr hos htape hout arr e hh ⟨sz, es⟩ hm hc (CV_sl_new hn hcm hz)
    exact h1

/-- Behind append: new memory, into which the elements of the old block go with all that they lead to. -/
theorem app_grow (h : RelD X s a w D φ F []) {d : Nat} (hdst : o.dst = some d) (hd : d < X.n) (hf : Fresh s d) (hp : d ∉ X.pin) {sz n cap : Nat} {es : List V} {arr : Array Value} {e : TypeId} {w' : World}
    (hr : (execOp a.eval o).run P w = .ok (.value (.slice (some ⟨w.heap.size, 0, none⟩) n cap)) w') (hh : w'.heap = w.heap.push (.cells arr e (0, 0))) (hos : w'.os = w.os) (htape : w'.tape = w.tape) (hout : w'.output = w.output)
    (hm : ments d es = false) (id : Nat) {f0 : List Nat} (hsub : f0.Sublist (F id)) (hc : CR w D sz es φ arr.toList f0) (hn : n ≤ cap) (hcm : cap ≤ maxLen) (hz : cap * sz ≤ arr.size) :
    Runs P o X a w (({ v := .sl d 0 n, new := some ⟨sz, es⟩, del := some id } : Dl).app o.dst s) := by
  have h0 := (h.release id).gsub (G' := f0 ++ []) (hsub.append (List.Sublist.refl []))
  have hf' : Fresh { s with hp := upd s.hp id none } d := ⟨hf.sl, fun i b hb => by
    by_cases e : i = id
    · subst e; simp at hb
    · simp only [upd, e, if_false] at hb; exact hf.hp i b hb, by
    by_cases e : d = id
    · subst e; simp
    · simp only [upd, e, if_false]; exact hf.no⟩
  have h1 := (RelD.newF h0 d hf' hp w' hos htape hout arr e hh ⟨sz, es⟩ hm hc).put d hd _ _ (CV_sl_new hn hcm hz)
  have h2 : Rel X (({ v := .sl d 0 n, new := some ⟨sz, es⟩, del := some id } : Dl).app (some d) s) (a.put (some d) (.slice (some ⟨w.heap.size, 0, none⟩) n cap)) w' := ⟨D, _, _, h1⟩
  rw [← hdst] at h2
  exact ⟨_, _, w', hr, .inl rfl, h2⟩

theorem ok_app (h : RelD X s a w D φ F []) {t : TypeId} {d : Nat} {yx yy : Operand} {xx xy : Abs.X} {i0 : TypeInfo} {c : Call} (hop : o.op = .call c) (hcal : c.callee = .builtin .append) (harg : c.args.toList = [yx, yy]) (hty : c.argTypes.toList = [t, t])
    (ht : sliceElem P t = some i0) (hsz : i0.size ≠ 0) (hzs : (i0.zero.map (·.cells.size)) = some i0.size) (hx : cX yx = some xx) (hy : cX yy = some xy) (hdst : o.dst = some d) (hd : d < X.n) (hf : Fresh s d) (hpin : d ∉ X.pin)
    (hro : ∀ sz es, s.ev xy = .ro sz es → ments d es = false)
    {p : Prop} {δ : Dl} (he : vapp i0.size i0.bytes s.hp d (s.ev xy) (s.ev xx) = some (p, δ)) (hp : p) : Runs P o X a w (δ.app o.dst s) := by
  obtain ⟨e, hte, hie⟩ := sliceElem_eq ht
  obtain ⟨z, hz, hzsz⟩ : ∃ z, i0.zero = some z ∧ z.cells.size = i0.size := by
    cases hz : i0.zero with
    | none => simp [hz] at hzs
    | some z => exact ⟨z, rfl, by simpa [hz] using hzs⟩
  have hcv := cX_ok hx h
  generalize s.ev xx = u at he hcv
  -- a nil slice is grown
  have key0 : ∀ ds, a.eval yx = .slice none 0 0 → srcOf i0.size s.hp (s.ev xy) = some ds → noOwns ds = true → i0.bytes ≤ 32768 → ds.length ≤ lenBound → ∀ del, (∀ id, del = some id → s.hp d = none) →
      Runs P o X a w (({ v := .sl d 0 ds.length, new := some ⟨i0.size, ds⟩, del := del } : Dl).app o.dst s) := by
    intro ds hxv hds hno hby hln del hdel
    obtain ⟨ad, c', news, s1, s2, s3, s4, s5⟩ := src_ok h hy hds
    have hmd : ments d ds = false := src_fresh hy hf hds hro
    by_cases h0 : ds.length = 0
    · obtain rfl : ds = [] := List.eq_nil_of_length_eq_zero h0
      have hr := run_append_zero (P := P) (w := w) (ty := o.type) hte hie none 0 0 (Nat.le_refl _) ad c'
      simp only [List.length_nil] at s1
      rw [← hxv, ← s1] at hr
      have hrun := run_app hop hcal harg hty hr
      rw [hxv] at hrun
      refine ⟨_, _, w, hrun, .inl rfl, ?_⟩
      rw [hdst]
      cases del with
      | none => exact app_nil h hdst hd hf hpin i0.size hrun
      | some id =>
        have hh0 := (h.release id).gsub (G' := []) (List.nil_sublist _)
        have hf' : Fresh { s with hp := upd s.hp id none } d := ⟨hf.sl, fun i b hb => by
          by_cases e : i = id
          · subst e; simp at hb
          · simp only [upd, e, if_false] at hb; exact hf.hp i b hb, by
          by_cases e : d = id
          · subst e; simp
          · simp only [upd, e, if_false]; exact hf.no⟩
        exact app_nil hh0 hdst hd hf' hpin i0.size hrun
    · obtain ⟨b, rfl, hnews⟩ := s3 h0
      have hb48 : ds.length * i0.bytes ≤ 281474976710656 := by
        have : ds.length * i0.bytes ≤ 4294967296 * 32768 := Nat.mul_le_mul hln hby
        omega
      have h63 : ((ds.length : Int)) ≤ 9223372036854775807 := by unfold lenBound at hln; omega
      have hr := run_append_nil (P := P) w t o.type e i0 z hte hie hz b ds.length c' news s2 hnews (by omega) h63 hb48
      rw [← hxv, ← s1] at hr
      have hrun := run_app hop hcal harg hty hr
      have hge := grownCap_ge w ds.length 0 e
      have hcm := grownCap_le_maxLen w ds.length 0 e (maxLen_lenBound hln)
      refine app_new h hdst hd hf hpin hrun rfl rfl rfl rfl hmd (CR_ext (s5 hno) fun j hj => ?_) hge hcm ?_ del
      · simp only [Array.toList_append, List.toList_toArray]
        rw [List.getElem?_append_left (by omega)]
      · simp only [Array.size_append, List.size_toArray, size_zeroCells, hzsz, s2]
        rw [← Nat.add_mul]
        exact Nat.mul_le_mul_right _ (by omega)
  unfold vapp at he
  split at he
  · cases hds : srcOf i0.size s.hp (s.ev xy) with
    | none => simp [hds] at he
    | some ds =>
      simp only [hds] at he
      split at he
      · rename_i hcond
        simp only [Option.some.injEq, Prod.mk.injEq] at he
        obtain ⟨rfl, rfl⟩ := he
        exact key0 ds (CV_v hcv) hds hcond.1 hcond.2 hp none (by simp)
      · cases he
  · rename_i id i n
    cases hb : s.hp id with
    | none => simp [hb] at he
    | some blk =>
      cases hds : srcOf i0.size s.hp (s.ev xy) with
      | none => simp [hb, hds] at he
      | some ds =>
        simp only [hb, hds] at he
        split at he
        · rename_i hcond
          obtain ⟨hbs, hno, rfl, hby⟩ := hcond
          simp only [Option.some.injEq, Prod.mk.injEq] at he
          obtain ⟨rfl, rfl⟩ := he
          obtain ⟨hnl, hnob, hln⟩ := hp
          simp only [CV] at hcv
          obtain ⟨_, ⟨_, _, rfl, hxv⟩ | ⟨p0, o', cap, hp0, hxv, hnc, hcm, hcap⟩⟩ := hcv
          · have := key0 ds hxv hds hno hby (by omega) (some id) (fun _ _ => hf.no)
            simpa using this
          · obtain ⟨ad, c', news, s1, s2, s3, s4, s5⟩ := src_ok h hy hds
            have hmd : ments d ds = false := src_fresh hy hf hds hro
            have hme : ments d (blk.es.take n ++ ds) = false := ments_append (by simpa using ments_of_take (hf.hp id blk hb) 0 n) hmd
            rcases h.blks id blk hb with ⟨q, _, _⟩ | ⟨p1, arr, ty, f', q1, q2, q3, q4, q5, q6⟩
            · rw [hp0] at q; cases q
            · rw [hp0] at q1; cases q1
              have hl := CR_length q6
              rw [List.length_drop, Array.length_toList, hbs] at hl
              have hcr : CR w D i0.size (blk.es.take n) φ (arr.toList.drop p0.o) f' := by
                rw [← hbs]
                rcases hnob with hnob | hnob
                · have : f' = [] := CR_noOwn _ _ _ _ hnob q6
                  subst this
                  exact CR_take n q6
                · rw [hnob, List.take_length]; exact q6
              by_cases hroom : n + ds.length ≤ cap
              · -- the block goes on, under its new id
                have h0 := h.release id
                rw [q5] at h0
                have hf' : Fresh { s with hp := upd s.hp id none } d := ⟨hf.sl, fun i b hb' => by
                  by_cases e : i = id
                  · subst e; simp at hb'
                  · simp only [upd, e, if_false] at hb'; exact hf.hp i b hb', by
                  by_cases e : d = id
                  · subst e; simp
                  · simp only [upd, e, if_false]; exact hf.no⟩
                by_cases hm0 : ds.length = 0
                · obtain rfl : ds = [] := List.eq_nil_of_length_eq_zero hm0
                  have hr := run_append_zero (P := P) (w := w) (ty := o.type) hte hie (some ⟨p0.b, o', none⟩) n cap hnc ad c'
                  simp only [List.length_nil] at s1
                  rw [← hxv, ← s1] at hr
                  have hrun := run_app hop hcal harg hty hr
                  rw [hxv] at hrun
                  have h1 := RelD.settle (f := p0.b :: f') (G := []) h0 d hf' hpin (some p0) ⟨i0.size, blk.es.take n⟩ (.inr ⟨p0, arr, ty, f', by simp, by rw [q2, hbs], q3, q4, rfl,
                    CR_mono (fun _ hb => hb) _ _ _ _ _ _ (fun _ _ => rfl) (fun i hi => upd_ne _ _ (ne_of_ments (d := d) (by simpa using ments_of_take (hf.hp id blk hb) 0 n) hi)) hcr⟩)
                  have h2 := h1.put d hd (.sl d 0 n) (.slice (some ⟨p0.b, o', none⟩) n cap) (by
                    simp only [CV, upd_same]
                    exact ⟨trivial, .inr ⟨p0, o', cap, rfl, rfl, hnc, hcm, by simpa using hcap⟩⟩)
                  have h6 : Rel X (({ v := .sl d 0 (n + ([] : List V).length), new := some ⟨i0.size, blk.es.take n ++ []⟩, del := some id } : Dl).app (some d) s) (a.put (some d) (.slice (some ⟨p0.b, o', none⟩) n cap)) w :=
                    ⟨D, _, _, by simpa [Dl.app, Dl.hp, hpN, hpD, hpW] using h2⟩
                  exact ⟨_, _, w, hrun, .inl rfl, by rw [hdst]; exact h6⟩
                · obtain ⟨b, rfl, hnews⟩ := s3 hm0
                  obtain ⟨ho, hzz⟩ := hcap.resolve_left (by omega)
                  simp only [Nat.zero_mul, Nat.add_zero, Nat.zero_add, q2, hbs, q3] at ho hzz
                  have hmul : (n + ds.length) * i0.size ≤ cap * i0.size := Nat.mul_le_mul_right _ hroom
                  rw [Nat.add_mul] at hmul
                  obtain ⟨arr', g1, g2⟩ := run_append_room' (P := P) (ty := o.type) (f := o') (cap := cap) (c := c') hte hie q4 news s2 hnews s4 hroom (by rw [ho, s2]; omega)
                  rw [← hxv, ← s1] at g2
                  have hrun := run_app hop hcal harg hty g2
                  have hfit : o' + n * i0.size + news.length ≤ arr.toList.length := by rw [s2, ho, Array.length_toList (xs := arr)]; omega
                  have hl' : arr'.size = arr.size := by
                    have := congrArg List.length g1
                    rw [splice_length _ _ _ hfit] at this
                    simpa using this
                  -- the block is written first, then it gets its new id
                  have hw0 := h.write id blk hb p0 hp0 arr arr' ty q4 hl' { w with heap := w.heap.setIfInBounds p0.b (.cells arr' ty (0, 0)) } rfl rfl rfl rfl (blk.es.take n ++ ds) (fun f1 hf1 _ => by
                    rw [q5] at hf1; cases hf1
                    rw [hbs]
                    rw [← List.append_nil f']
                    refine CR_append (f := f') (g := []) (CR_ext hcr fun j hj => ?_) (CR_ext (s5 hno) fun j hj => ?_)
                    · rw [List.length_take, Nat.min_eq_left hnl] at hj
                      rw [List.getElem?_drop, List.getElem?_drop, g1, splice_get _ _ _ _ hfit, if_pos (by omega)]
                    · rw [List.length_take, Nat.min_eq_left hnl, List.drop_drop, List.getElem?_drop, g1, splice_get _ _ _ _ hfit, if_neg (by omega), if_pos (by omega)]
                      congr 1; omega)
                  have h3 := hw0.release id
                  rw [q5] at h3
                  have hnew : (w.heap.setIfInBounds p0.b (.cells arr' ty (0, 0)))[p0.b]? = some (.cells arr' ty (0, 0)) := by
                    rw [Array.getElem?_setIfInBounds]; simp [(Array.getElem?_eq_some_iff.1 q4).1]
                  have hblk := hw0.blks id ⟨blk.s, blk.es.take n ++ ds⟩ (by simp)
                  have hf3 : Fresh { sl := s.sl, hp := upd (upd s.hp id (some ⟨blk.s, blk.es.take n ++ ds⟩)) id none } d := ⟨hf.sl, fun i b hb' => by
                    by_cases e : i = id
                    · subst e; simp at hb'
                    · simp only [upd, e, if_false] at hb'; exact hf.hp i b hb', by
                    by_cases e : d = id
                    · subst e; simp
                    · simp only [upd, e, if_false]; exact hf.no⟩
                  have h4 := RelD.settle (f := p0.b :: f') (G := []) h3 d hf3 hpin (some p0) ⟨i0.size, blk.es.take n ++ ds⟩ (by
                    rcases hblk with ⟨k, _, _⟩ | ⟨p2, arr2, ty2, f2, k1, k2, k3, k4, k5, k6⟩
                    · rw [hp0] at k; cases k
                    · rw [hp0] at k1; cases k1
                      rw [q5] at k5; cases k5
                      rw [hnew] at k4; cases k4
                      refine .inr ⟨p0, arr', ty, f', by simp, by rw [q2, hbs], k3, hnew, rfl, ?_⟩
                      rw [hbs] at k6
                      exact CR_mono (fun _ hb => hb) _ _ _ _ _ _ (fun _ _ => rfl) (fun i hi => upd_ne _ _ (ne_of_ments hme hi)) k6)
                  have h5 := h4.put d hd (.sl d 0 (n + ds.length)) (.slice (some ⟨p0.b, o', none⟩) (n + ds.length) cap) (by
                    simp only [CV, upd_same]
                    refine ⟨trivial, .inr ⟨p0, o', cap, rfl, rfl, hroom, hcm, .inr ⟨by omega, ?_⟩⟩⟩
                    rw [Nat.zero_add, q2, hbs, q3]; exact hzz)
                  have e : upd (upd s.hp id (some ⟨blk.s, blk.es.take n ++ ds⟩)) id none = upd s.hp id none := by
                    funext i; unfold upd; split <;> rfl
                  simp only [e] at h5
                  have h6 : Rel X (({ v := .sl d 0 (n + ds.length), new := some ⟨i0.size, blk.es.take n ++ ds⟩, del := some id } : Dl).app (some d) s) (a.put (some d) (.slice (some ⟨p0.b, o', none⟩) (n + ds.length) cap)) { w with heap := w.heap.setIfInBounds p0.b (.cells arr' ty (0, 0)) } :=
                    ⟨D, _, _, h5⟩
                  exact ⟨_, _, _, hrun, .inl rfl, by rw [hdst]; exact h6⟩
              · -- new memory
                have hm0 : ds.length ≠ 0 := by omega
                obtain ⟨b, rfl, hnews⟩ := s3 hm0
                have hb47 : (n + ds.length) * i0.bytes ≤ 140737488355328 := by
                  have : (n + ds.length) * i0.bytes ≤ 4294967296 * 32768 := Nat.mul_le_mul hln hby
                  omega
                have h63 : ((n + ds.length : Nat) : Int) ≤ 9223372036854775807 := by unfold lenBound at hln; omega
                have holds : ∀ j v, (((arr.toList.drop p0.o).take (n * i0.size)))[j]? = some v → w.cell? ((⟨p0.b, o', none⟩ : Addr).add j) = some v := by
                  intro j v hv
                  rw [List.getElem?_take] at hv
                  split at hv
                  · rename_i hj
                    obtain ⟨ho, _⟩ := hcap.resolve_left (fun hc => by
                      obtain rfl : n = 0 := by omega
                      simp at hj)
                    rw [List.getElem?_drop, Array.getElem?_toList] at hv
                    rw [Addr.add_lit, cell?_of_blk (blk?_of_heap q4), ho]
                    simpa using hv
                  · cases hv
                have hlo : ((arr.toList.drop p0.o).take (n * i0.size)).length = n * i0.size := by
                  have hmul : n * i0.size ≤ blk.es.length * i0.size := Nat.mul_le_mul_right _ hnl
                  rw [List.length_take, List.length_drop, Array.length_toList]; omega
                have hr := run_append_grow (P := P) w t o.type e i0 z hte hie hz ⟨p0.b, o', none⟩ n cap _ hlo holds b ds.length c' news s2 hnews (by omega) h63 (growslice_fits (by omega) hb47)
                rw [← hxv, ← s1] at hr
                have hrun := run_app hop hcal harg hty hr
                have hge := grownCap_ge w (n + ds.length) cap e
                have hcm' := grownCap_le_maxLen w (n + ds.length) cap e (maxLen_lenBound hln)
                refine app_grow h hdst hd hf hpin hrun rfl rfl rfl rfl hme id (f0 := f' ++ []) (by rw [q5, List.append_nil]; exact List.sublist_cons_self _ _) (CR_append (f := f') (g := []) (CR_ext hcr fun j hj => ?_) (CR_ext (s5 hno) fun j hj => ?_)) hge hcm' ?_
                · rw [List.length_take, Nat.min_eq_left hnl] at hj
                  simp only [Array.toList_append, List.toList_toArray, List.append_assoc]
                  rw [List.getElem?_append_left (by rw [hlo]; exact hj), List.getElem?_take, if_pos hj]
                · rw [List.length_take, Nat.min_eq_left hnl, List.getElem?_drop]
                  simp only [Array.toList_append, List.toList_toArray, List.append_assoc]
                  rw [List.getElem?_append_right (by rw [hlo]; omega), List.getElem?_append_left (by rw [hlo, s2]; omega)]
                  congr 1; rw [hlo]; omega
                · simp only [Array.size_append, List.size_toArray, size_zeroCells, hzsz, s2, hlo]
                  rw [← Nat.add_mul, ← Nat.add_mul]
                  exact Nat.mul_le_mul_right _ (by omega)
        · cases he
  · cases he
omit [GInv] in
theorem bytesOf_noOwns : ∀ (ds : List V) (l : List UInt8), bytesOf ds = some l → noOwns ds = true
  | [], _, _ => by simp [noOwns]
  | .v (.int .u8 n) :: ds, l, h => by
    simp only [bytesOf, Option.map_eq_some_iff] at h
    obtain ⟨r, h1, _⟩ := h
    simp [noOwns, noOwn, bytesOf_noOwns ds r h1]
omit [GInv] in
theorem bytes_CR : ∀ (ds : List V) (l : List UInt8) (news : List Value), bytesOf ds = some l → CR w D 1 ds φ news [] → news.length = ds.length →
    ∃ ns : List Int, news = ns.map (Value.int .u8) ∧ l = ns.map fun n => UInt8.ofNat n.toNat
  | [], l, news, h, _, hn => by
    simp only [bytesOf, Option.some.injEq] at h
    subst h
    exact ⟨[], by simpa using List.eq_nil_of_length_eq_zero hn, rfl⟩
  | .v (.int .u8 n) :: ds, l, news, h, hc, hn => by
    simp only [bytesOf, Option.map_eq_some_iff] at h
    obtain ⟨r, h1, rfl⟩ := h
    simp only [CR] at hc
    obtain ⟨x, rest, f1, f2, rfl, ⟨hs, _⟩, hf, h2, h3⟩ := hc
    have hx := CV_v h2
    subst hx
    obtain ⟨rfl, rfl⟩ := List.append_eq_nil_iff.1 hf.symm
    have hcl : (Value.int .u8 n).cells.toList = [Value.int .u8 n] := rfl
    rw [hcl] at hn ⊢
    simp only [List.length_append, List.length_cons, List.length_nil] at hn
    obtain ⟨ns, rfl, rfl⟩ := bytes_CR ds r rest h1 h3 (by omega)
    exact ⟨n :: ns, by simp, by simp⟩
omit [GInv] in
theorem foldl_bytes (ns : List Int) : ns.foldl (fun r n => r.push (UInt8.ofNat n.toNat)) ByteArray.empty = bs (ns.map fun n => UInt8.ofNat n.toNat) := by
  have : ∀ (ns : List Int) (a : List UInt8), ns.foldl (fun r n => r.push (UInt8.ofNat n.toNat)) (bs a) = bs (a ++ ns.map fun n => UInt8.ofNat n.toNat) := by
    intro ns
    induction ns with
    | nil => intro a; simp
    | cons n ns ih =>
      intro a
      have e : (bs a).push (UInt8.ofNat n.toNat) = bs (a ++ [UInt8.ofNat n.toNat]) := by simp [bs, ByteArray.push]
      simp only [List.foldl_cons, e, ih]
      simp
  exact this ns []

theorem ok_conv (h : RelD X s a w D φ F []) (hd : ∀ d, o.dst = some d → d < X.n) {src dst : TypeId} {y : Operand} {x : Abs.X} {c : CK} (hop : o.op = .convert src dst y) (hx : cX y = some x) (hc : cck P src dst = some c)
    {p : Prop} {δ : Dl} (he : vconv c s.hp (s.ev x) = some (p, δ)) (hp : p) : Runs P o X a w (δ.app o.dst s) := by
  have hcv := cX_ok hx h
  have key : ∀ ds, srcOf 1 s.hp (s.ev x) = some ds → _ := fun ds hs => src_ok h hx hs
  generalize s.ev x = u at he hcv key
  unfold vconv at he
  split at he
  · rename_i k0 n
    have hxv := CV_v hcv
    split at he
    · rename_i k
      simp only [pure1, Option.some.injEq, Prod.mk.injEq] at he
      obtain ⟨_, rfl⟩ := he
      have : ∃ k1, P.underlying src = some (.int k1) ∧ P.underlying dst = some (.int k) := by
        unfold cck at hc
        split at hc <;> first | (simp_all; done) | (split at hc <;> simp_all)
      obtain ⟨k1, h1, h2⟩ := this
      exact runs_pure h hd (by simp [execOp, hop, hxv, convert, run_underlying h1, run_underlying h2, Conv.intToInt]) (CV_mkv rfl)
    · simp only [pureIf, Option.some.injEq, Prod.mk.injEq] at he
      obtain ⟨rfl, rfl⟩ := he
      have : ∃ k1, P.underlying src = some (.int k1) ∧ P.underlying dst = some .string := by
        unfold cck at hc
        split at hc <;> first | (simp_all; done) | (split at hc <;> simp_all)
      obtain ⟨k1, h1, h2⟩ := this
      exact runs_pure h hd (by simp [execOp, hop, hxv, convert, run_underlying h1, run_underlying h2, Conv.intToString]) (CV_mkv (by simpa [one] using hp))
    · cases he
  · rename_i b
    have hxv := CV_v hcv
    split at he
    · simp only [pure1, Option.some.injEq, Prod.mk.injEq] at he
      obtain ⟨_, rfl⟩ := he
      have : P.underlying src = some .string ∧ P.underlying dst = some .string := by
        unfold cck at hc
        split at hc <;> first | (simp_all; done) | (split at hc <;> simp_all)
      obtain ⟨h1, h2⟩ := this
      have ho : one (.string b) = true := by simp only [CV] at hcv; exact hcv.2.1
      exact runs_pure h hd (by simp [execOp, hop, hxv, convert, run_underlying h1, run_underlying h2]) (CV_mkv ho)
    · cases he
  · split at he
    · split at he
      · rename_i ds hds
        split at he
        · rename_i l hl
          simp only [pureIf, Option.some.injEq, Prod.mk.injEq] at he
          obtain ⟨rfl, rfl⟩ := he
          obtain ⟨ad, c', news, s1, s2, s3, _, s5⟩ := key ds hds
          obtain ⟨ns, rfl, rfl⟩ := bytes_CR ds l news hl (s5 (bytesOf_noOwns ds l hl)) (by rw [s2]; omega)
          have : ∃ e, P.underlying src = some (.slice e) ∧ P.underlying e = some (.int .u8) ∧ P.underlying dst = some .string := by
            unfold cck at hc
            split at hc <;> first | (simp_all; done) | (split at hc <;> simp_all)
          obtain ⟨e, h1, h2, h3⟩ := this
          have hlen : ns.length = ds.length := by simpa using s2
          have hrun : (convert src dst (.slice ad ds.length c')).run P w = .ok (.string (bs (ns.map fun n => UInt8.ofNat n.toNat))) w := by
            rw [run_convert_bytes_string w src dst e ad ds.length c' h1 h2 h3]
            by_cases h0 : ds.length = 0
            · have : ns = [] := List.eq_nil_of_length_eq_zero (by omega)
              subst this
              rw [h0]
              cases ad with
              | none => rfl
              | some b => rfl
            · obtain ⟨b, rfl, hb⟩ := s3 h0
              have hload := run_loadCells_list (P := P) w b (ns.map (Value.int .u8)) hb
              rw [List.length_map, hlen] at hload
              rw [run_bytesToString w b ds.length c' ns hload, foldl_bytes]
          refine runs_pure h hd (x := .string (bs (ns.map fun n => UInt8.ofNat n.toNat))) ?_ (CV_mkv ?_)
          · simp [execOp, hop, s1, hrun]
          · have hsz : (bs (ns.map fun n => UInt8.ofNat n.toNat)).size = (ns.map fun n => UInt8.ofNat n.toNat).length := by simp [bs, ByteArray.size]
            simp only [one, decide_eq_true_eq, hsz]; exact hp
        · cases he
      · cases he
    · cases he
end
end Go.Abs
