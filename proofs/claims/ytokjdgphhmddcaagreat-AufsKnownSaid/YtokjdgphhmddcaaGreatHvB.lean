/- What is proved here: laws of an upper level over the model (values, heaps, operations, regions, calls), and an evaluator of closed calls that is sound. -/
import Derived.Test.YtokjdgphhmddcaaGreatHvA
set_option linter.all false
namespace Go.Hv
open Go
section
variable {cx : Cx} {Γ : Gam} {hh : List (Nat × HObj)} {used : Nat → Prop} {w : World} {nid : Nat}

theorem heap_new (w : World) (o : Obj) : (w.alloc o).heap[w.heap.size]? = some o := by
  show (w.heap.push o)[w.heap.size]? = _
  simp

theorem struct_und (ok : CxOK cx) {t : Nat} {fs : List (Nat × Nat)} (h : (cx.T t).tk = .struct fs) : ∃ fields : Array Field, cx.P.underlying t = some (.struct fields) ∧ fields.toList.map (fun f => (f.offset, f.type)) = fs := by
  obtain ⟨i, d, _, h2, _, _, h5, _⟩ := tok ok (t := t) (by rw [h]; simp)
  rw [h] at h5
  obtain ⟨fields, rfl, h6⟩ := h5
  exact ⟨fields, h2, h6⟩
theorem field_at {fields : Array Field} {fs : List (Nat × Nat)} (h : fields.toList.map (fun f => (f.offset, f.type)) = fs) {i off ft : Nat} (hi : fs[i]? = some (off, ft)) :
    ∃ f, fields[i]? = some f ∧ f.offset = off ∧ f.type = ft := by
  subst h
  rw [List.getElem?_map] at hi
  cases hf : fields.toList[i]? with
  | none => rw [hf] at hi; simp at hi
  | some f => rw [hf] at hi; simp at hi; exact ⟨f, by simpa using hf, hi.1, hi.2⟩

theorem s_move {v : HVal} {u : Value} {k : KT} (hR : HR cx.toCx0 Γ hh used w) (hv : VR Γ w v u) (hk : k v [] nid) : OpRes cx (pure (Next.value u)) hh Γ used w nid k :=
  OpRes.pure hR hk rfl hv

theorem s_alloc (ok : CxOK cx) (hR : HR cx.toCx0 Γ hh used w) (hn : ¬ used nid) {e : Nat} {vs : List HVal} {k : KT} (hk : hopV cx (.alloc e) vs (hget hh) nid k) :
    OpRes cx (do pure (Next.value (← Instr.alloc e true (.tuple #[])))) hh Γ used w nid k := by
  obtain ⟨hno, hk⟩ := nO_spec hk
  obtain ⟨cs, hk, hcs⟩ := flatK_spec hk
  obtain ⟨z, hz1, hz2⟩ := run_zero ok hno
  have E := ext_push (w' := w.alloc (.cells z.cells e)) (b0 := w.heap.size) (d0 := 0) hn hR.used hR.frlt rfl
  obtain ⟨zs, g1, g2, g3⟩ := hcs Γ w z (hz2 Γ w)
  have hnew : (w.alloc (.cells z.cells e)).heap[w.heap.size]? = some (Obj.cells z.cells e (0, 0)) := heap_new w _
  refine OpRes.new (ho := .box cs) (w' := w.alloc (.cells z.cells e)) (o := .cells z.cells e) hR hn hk (run_v (x := .pointer (some ⟨w.heap.size, 0, none⟩)) ?_) rfl ⟨rfl, rfl, rfl⟩ ?_ ?_
  · simp [Instr.alloc, hz1, newVar, newRow]
  · exact ⟨_, _, _, hnew, by simp, CsAt_intro (vs := zs) (VRs_ext E _ _ g2) g3 fun i v hi => by
      rw [cell_arr hnew, g1]; simpa using hi⟩
  · simp only [VR]; exact ⟨_, _, Gam.add_same _ _ _ _, rfl⟩

theorem s_box (hR : HR cx.toCx0 Γ hh used w) (hn : ¬ used nid) {e : Nat} {x : Operand} {vs : List HVal} {u : Value} {k : KT} (hu : VRs Γ w vs [u]) (hk : hopV cx (.box e x) vs (hget hh) nid k) :
    OpRes cx (do pure (Next.value (← Instr.box e u))) hh Γ used w nid k := by
  simp only [hopV] at hk
  split at hk
  · rename_i v
    obtain ⟨_, e', hv⟩ := VRs_one hu
    obtain rfl := by simpa using e'
    obtain ⟨cs, hk, hcs⟩ := flatK_spec hk
    have E := ext_push (w' := w.alloc (.cells u.cells e)) (b0 := w.heap.size) (d0 := 0) hn hR.used hR.frlt rfl
    obtain ⟨zs, g1, g2, g3⟩ := hcs Γ w _ hv
    have hnew : (w.alloc (.cells u.cells e)).heap[w.heap.size]? = some (Obj.cells u.cells e (0, 0)) := heap_new w _
    refine OpRes.new (ho := .box cs) (w' := w.alloc (.cells u.cells e)) (o := .cells u.cells e) hR hn hk (run_v (x := .pointer (some ⟨w.heap.size, 0, none⟩)) ?_) rfl ⟨rfl, rfl, rfl⟩ ?_ ?_
    · simp [Instr.box, newVar, newRow]
    · exact ⟨_, _, _, hnew, by simp, CsAt_intro (vs := zs) (VRs_ext E _ _ g2) g3 fun i v hi => by
        rw [cell_arr hnew, g1]; simpa using hi⟩
    · simp only [VR]; exact ⟨_, _, Gam.add_same _ _ _ _, rfl⟩
  · exact hk.elim

theorem s_fieldAddr (ok : CxOK cx) (hR : HR cx.toCx0 Γ hh used w) {t f : Nat} {x : Operand} {vs : List HVal} {u : Value} {k : KT} (hu : VRs Γ w vs [u]) (hk : hopV cx (.fieldAddr t x f) vs (hget hh) nid k) :
    OpRes cx (do pure (Next.value (← Instr.fieldAt t u f))) hh Γ used w nid k := by
  simp only [hopV] at hk
  split at hk
  · rename_i fs htk
    split at hk
    · rename_i off ft hf
      obtain ⟨fields, h1, h2⟩ := struct_und ok htk
      obtain ⟨fd, h3, h4, h5⟩ := field_at h2 hf
      obtain ⟨hno, hk⟩ := nO_spec hk
      have hsz : Nat.beq (cx.T ft).size 0 = false := by
        cases e : Nat.beq (cx.T ft).size 0
        · rfl
        · rw [e] at hk; exact hk.elim
      rw [hsz] at hk
      have hsz' : (cx.T ft).size ≠ 0 := fun e => by rw [e] at hsz; cases hsz
      have hrun : ∀ b o, u = .pointer (some ⟨b, o, none⟩) → (Instr.fieldAt t u f).run cx.P w = .ok (.pointer (some ⟨b, o + off, none⟩)) w := by
        intro b o hu
        simp [Instr.fieldAt, run_und h1, h3, Instr.sureAddr, hu, fieldPlace, h5, run_size ok hno, hsz', h4, add_none]
      simp only [cond_false] at hk
      split at hk
      · obtain ⟨_, e, hv⟩ := VRs_one hu
        obtain rfl := by simpa using e
        simp only [VR] at hv
        obtain ⟨b, δ, g1, g2⟩ := hv
        exact OpRes.pure hR hk (run_v (hrun _ _ g2)) (by simp only [VR]; exact ⟨b, δ, g1, by rw [Nat.add_assoc]⟩)
      · obtain ⟨_, e, hv⟩ := VRs_one hu
        obtain rfl := by simpa using e
        simp only [VR] at hv
        obtain ⟨b, δ, g1, g2⟩ := hv
        exact OpRes.pure hR hk (run_v (hrun _ _ g2)) (by simp only [VR]; exact ⟨b, δ, g1, by simp only [Nat.add_assoc]⟩)
      · obtain ⟨_, e, hv⟩ := VRs_one hu
        obtain rfl := by simpa using e
        simp only [VR] at hv
        obtain ⟨b, o, g1, g2, g3⟩ := hv
        exact OpRes.pure hR hk (run_v (hrun _ _ g1)) (by simp only [VR]; exact ⟨b, o, by simp only [Nat.add_assoc], g2, g3⟩)
      · exact hk.elim
    · exact hk.elim
  · exact hk.elim

theorem s_field (ok : CxOK cx) (hR : HR cx.toCx0 Γ hh used w) {t f : Nat} {x : Operand} {vs : List HVal} {u : Value} {k : KT} (hu : VRs Γ w vs [u]) (hk : hopV cx (.field t x f) vs (hget hh) nid k) :
    OpRes cx (do pure (Next.value (← Instr.field t u f))) hh Γ used w nid k := by
  simp only [hopV] at hk
  split at hk
  · rename_i fs htk
    split at hk
    · rename_i off ft hf
      obtain ⟨fields, h1, h2⟩ := struct_und ok htk
      obtain ⟨fd, h3, h4, h5⟩ := field_at h2 hf
      obtain ⟨hno, hk⟩ := nO_spec hk
      split at hk
      · obtain ⟨_, e, hv⟩ := VRs_one hu
        obtain rfl := by simpa using e
        simp only [VR] at hv
        obtain ⟨vs, rfl, g1, g2⟩ := hv
        obtain ⟨hv, hk, ⟨ha, hl, rfl⟩ | ⟨ha, hl⟩⟩ := partK_spec hk
        · have hlen := VRs_length g2
          refine OpRes.pure hR hk (run_v (x := .agg ((vs.drop off).take (cx.T ft).size).toArray) ?_) ?_
          · simp [Instr.field, run_und h1, h3, asAgg, part, h5, h4, run_agg ok hno, ha, run_size ok hno]
          · simp only [VR]
            exact ⟨_, rfl, fun y hy => g1 y (List.mem_of_mem_drop (List.mem_of_mem_take hy)), VRs_take _ (VRs_drop _ g2)⟩
        · obtain ⟨v, q1, q2⟩ := VRs_get g2 hl
          refine OpRes.pure hR hk (run_v (x := v) ?_) q2
          simp [Instr.field, run_und h1, h3, asAgg, part, h5, h4, run_agg ok hno, ha, q1]
      · exact hk.elim
    · exact hk.elim
  · exact hk.elim

theorem s_extract (hR : HR cx.toCx0 Γ hh used w) {i : Nat} {x : Operand} {vs : List HVal} {u : Value} {k : KT} (hu : VRs Γ w vs [u]) (hk : hopV cx (.extract x i) vs (hget hh) nid k) :
    OpRes cx (do pure (Next.value (← Instr.extract u i))) hh Γ used w nid k := by
  simp only [hopV] at hk
  split at hk
  · obtain ⟨_, e, hv⟩ := VRs_one hu
    obtain rfl := by simpa using e
    simp only [VR] at hv
    obtain ⟨vs, rfl, g2⟩ := hv
    obtain ⟨c, h1, hk⟩ := cellK_spec hk
    obtain ⟨v, q1, q2⟩ := VRs_get g2 h1
    exact OpRes.pure hR hk (run_v (by simp [Instr.extract, q1])) q2
  · exact hk.elim

theorem elemOK_spec (ok : CxOK cx) {t : Nat} {k : Nat → TI → Prop} (h : elemOK cx t k) : ∃ e, (cx.T t).tk = .slice e ∧ cx.P.underlying t = some (.slice e) ∧ (cx.T e).tk ≠ .other ∧ k e (cx.T e) := by
  unfold elemOK at h
  split at h
  · rename_i e he
    obtain ⟨h1, h2⟩ := nO_spec h
    obtain ⟨i, d, _, h3, _, _, h5, _⟩ := tok ok (t := t) (by rw [he]; simp)
    rw [he] at h5
    obtain rfl := h5
    exact ⟨e, he, h3, h1, h2⟩
  · exact h.elim

theorem s_indexAddr (ok : CxOK cx) (hR : HR cx.toCx0 Γ hh used w) {t : Nat} {x y : Operand} {vs : List HVal} {u z : Value} {k : KT} (hu : VRs Γ w vs [u, z]) (hk : hopV cx (.indexAddr t x y) vs (hget hh) nid k) :
    OpRes cx (do pure (Next.value (← Instr.indexAt t u z))) hh Γ used w nid k := by
  simp only [hopV] at hk
  split at hk
  · rename_i htk
    replace hk := elemOK_spec ok hk
    obtain ⟨e, _, hund, hno, hk⟩ := hk
    have hrun : ∀ (b o len cap i : Nat) (q : IntKind) (n : Int), u = .slice (some ⟨b, o, none⟩) len cap → z = .int q n → 0 ≤ n → n.toNat < len →
        (Instr.indexAt t u z).run cx.P w = .ok (.pointer (some ⟨b, o + n.toNat * (cx.T e).size, none⟩)) w := by
      intro b o len cap i q n hu hz h0 h1
      have : 0 ≤ n ∧ n < (len : Int) := ⟨h0, by omega⟩
      simp [Instr.indexAt, asIntOf, hz, run_und hund, hu, this, run_size ok hno, add_none]
    split at hk
    · rename_i lf es full elems q n
      obtain ⟨_, _, e', hp, hz⟩ := VRs_two hu
      simp only [List.cons.injEq, and_true] at e'
      obtain ⟨rfl, rfl⟩ := e'
      obtain ⟨⟨h0, rfl⟩, cs, hcs, hk⟩ := hk
      simp only [VR] at hz hp
      rcases hp with ⟨rfl, _⟩ | ⟨b, o, cap, h1, h2, h3, h4, h5⟩
      · simp at hcs
      · have hlt : n.toNat < elems.length := (List.getElem?_eq_some_iff.1 hcs).1
        exact OpRes.pure hR hk (run_v (hrun b o _ cap 0 _ _ h1 hz h0 hlt)) (by
          simp only [VR]; exact ⟨b, o + n.toNat * (cx.T e).size, rfl, h4, (EsAt_get h5 hcs).2⟩)
    · rename_i id es j len q n
      obtain ⟨_, _, e', hp, hz⟩ := VRs_two hu
      simp only [List.cons.injEq, and_true] at e'
      obtain ⟨rfl, rfl⟩ := e'
      obtain ⟨⟨h0, hlt, rfl⟩, hk⟩ := hk
      simp only [VR] at hz hp
      obtain ⟨b, δ, o, cap, arr, T, fz, h1, h2, h3, h4, h5, h6, _⟩ := hp
      exact OpRes.pure hR hk (run_v (hrun b o _ cap 0 _ _ h2 hz h0 hlt)) (by
        simp only [VR]; refine ⟨b, δ, h1, ?_⟩
        rw [h4 (by omega), Nat.add_mul]; simp only [Nat.add_zero, Nat.add_assoc])
    · exact hk.elim
  · rename_i n e htk
    obtain ⟨hno, hk⟩ := nO_spec hk
    obtain ⟨i, d, _, hund, _, _, h5, _⟩ := tok ok (t := t) (by rw [htk]; simp)
    rw [htk] at h5
    obtain rfl := h5
    have hrun : ∀ (b o : Nat) (q : IntKind) (m : Int), u = .pointer (some ⟨b, o, none⟩) → z = .int q m → 0 ≤ m → m.toNat < n →
        (Instr.indexAt t u z).run cx.P w = .ok (.pointer (some ⟨b, o + m.toNat * (cx.T e).size, none⟩)) w := by
      intro b o q m hu hz h0 h1
      have : 0 ≤ m ∧ m < (n : Int) := ⟨h0, by omega⟩
      simp [Instr.indexAt, asIntOf, hz, run_und hund, hu, this, run_size ok hno, add_none, Instr.sureAddr]
    split at hk
    · obtain ⟨_, _, e', hp, hz⟩ := VRs_two hu
      simp only [List.cons.injEq, and_true] at e'
      obtain ⟨rfl, rfl⟩ := e'
      obtain ⟨⟨h0, h1⟩, hk⟩ := hk
      simp only [VR] at hz hp
      obtain ⟨b, δ, g1, g2⟩ := hp
      exact OpRes.pure hR hk (run_v (hrun _ _ _ _ g2 hz h0 h1)) (by simp only [VR]; exact ⟨b, δ, g1, by rw [Nat.add_assoc]⟩)
    · obtain ⟨_, _, e', hp, hz⟩ := VRs_two hu
      simp only [List.cons.injEq, and_true] at e'
      obtain ⟨rfl, rfl⟩ := e'
      obtain ⟨⟨h0, h1⟩, hk⟩ := hk
      simp only [VR] at hz hp
      obtain ⟨b, o, g1, g2, g3⟩ := hp
      exact OpRes.pure hR hk (run_v (hrun _ _ _ _ g1 hz h0 h1)) (by simp only [VR]; exact ⟨b, o, by rw [Nat.add_assoc], g2, g3⟩)
    · exact hk.elim
  · exact hk.elim
end
end Go.Hv

namespace Go.Hv
open Go
section
variable {cx : Cx} {Γ : Gam} {hh : List (Nat × HObj)} {used : Nat → Prop} {w : World} {nid : Nat}

theorem s_nilCheck (hR : HR cx.toCx0 Γ hh used w) {x : Operand} {vs : List HVal} {ρ : Operand → Value} {k : KT} {o : Oper} (ho : o.op = .nilCheck x) (hu : VRs Γ w vs [ρ x]) (hk : hopV cx (.nilCheck x) vs (hget hh) nid k) :
    OpRes cx (execOp ρ o) hh Γ used w nid k := by
  simp only [hopV] at hk
  split at hk
  · obtain ⟨_, e, hv⟩ := VRs_one hu
    obtain ⟨rfl⟩ : ρ x = _ := by simpa using e
    have hv0 := hv
    simp only [VR] at hv
    obtain ⟨b, δ, g1, g2⟩ := hv
    exact OpRes.pure hR hk (by simp [execOp, ho, g2]) (g2 ▸ hv0)
  · obtain ⟨_, e, hv⟩ := VRs_one hu
    obtain ⟨rfl⟩ : ρ x = _ := by simpa using e
    have hv0 := hv
    simp only [VR] at hv
    obtain ⟨b, δ, g1, g2⟩ := hv
    exact OpRes.pure hR hk (by simp [execOp, ho, g2]) (g2 ▸ hv0)
  · obtain ⟨_, e, hv⟩ := VRs_one hu
    obtain ⟨rfl⟩ : ρ x = _ := by simpa using e
    have hv0 := hv
    simp only [VR] at hv
    obtain ⟨b, δ, g2, g1⟩ := hv
    exact OpRes.pure hR hk (by simp [execOp, ho, g2]) (g2 ▸ hv0)
  · obtain ⟨_, e, hv⟩ := VRs_one hu
    obtain ⟨rfl⟩ : ρ x = _ := by simpa using e
    have hv0 := hv
    simp only [VR] at hv
    obtain ⟨_, as, us, g2, _⟩ := hv
    exact OpRes.pure hR hk (by simp [execOp, ho, g2]) (g2 ▸ hv0)
  · obtain ⟨_, e, hv⟩ := VRs_one hu
    obtain ⟨rfl⟩ : ρ x = _ := by simpa using e
    have hv0 := hv
    simp only [VR] at hv
    obtain ⟨b, δ, g1, g2⟩ := hv
    exact OpRes.pure hR hk (by simp [execOp, ho, g2]) (g2 ▸ hv0)
  · exact hk.elim

theorem s_index (ok : CxOK cx) (hR : HR cx.toCx0 Γ hh used w) {t : Nat} {x y : Operand} {vs : List HVal} {u z : Value} {k : KT} (hu : VRs Γ w vs [u, z]) (hk : hopV cx (.index t x y) vs (hget hh) nid k) :
    OpRes cx (do pure (Next.value (← Instr.index t u z))) hh Γ used w nid k := by
  simp only [hopV] at hk
  split at hk
  · rename_i htk
    obtain ⟨i, d, _, hund, _, _, h5, _⟩ := tok ok (t := t) (by rw [htk]; simp)
    rw [htk] at h5
    obtain rfl := h5
    split at hk
    · obtain ⟨_, _, e', hp, hz⟩ := VRs_two hu
      simp only [List.cons.injEq, and_true] at e'
      obtain ⟨rfl, rfl⟩ := e'
      obtain ⟨h0, b, hb, hk⟩ := hk
      simp only [VR] at hz hp
      subst hz; subst hp
      refine OpRes.pure hR hk (run_v (x := .int .u8 b.toNat) ?_) (by simp only [VR])
      rename_i s _ n
      have hg : (⟨s.toArray⟩ : ByteArray)[n.toNat]? = some b := by
        have := hb
        simp only [getElem?_def] at this ⊢
        obtain ⟨hlt, e⟩ := List.getElem?_eq_some_iff.1 hb
        rw [dif_pos (show n.toNat < (⟨s.toArray⟩ : ByteArray).size by simpa [ByteArray.size] using hlt)]
        simp only [Option.some.injEq]
        rw [← e]
        show s.toArray[n.toNat]'_ = _
        simp
      simp [Instr.index, asIntOf, run_und hund, h0, hg]
    · exact hk.elim
  · rename_i n e htk
    obtain ⟨i, d, _, hund, _, _, h5, _⟩ := tok ok (t := t) (by rw [htk]; simp)
    rw [htk] at h5
    obtain rfl := h5
    obtain ⟨hno, hk⟩ := nO_spec hk
    split at hk
    · rename_i cells q j _
      obtain ⟨_, _, e', hp, hz⟩ := VRs_two hu
      simp only [List.cons.injEq, and_true] at e'
      obtain ⟨rfl, rfl⟩ := e'
      obtain ⟨⟨h0, h1⟩, hk⟩ := hk
      simp only [VR] at hz hp
      subst hz
      obtain ⟨vs, rfl, g1, g2⟩ := hp
      have hi := And.intro h0 ((Int.toNat_lt h0).1 h1)
      obtain ⟨hv, hk, ⟨ha, hl, rfl⟩ | ⟨ha, hl⟩⟩ := partK_spec hk
      · refine OpRes.pure hR hk (run_v (x := .agg ((vs.drop (j.toNat * (cx.T e).size)).take (cx.T e).size).toArray) ?_) ?_
        · simp [Instr.index, asIntOf, run_und hund, hi, part, run_agg ok hno, ha, run_size ok hno]
        · simp only [VR]
          exact ⟨_, rfl, fun y hy => g1 y (List.mem_of_mem_drop (List.mem_of_mem_take hy)), VRs_take _ (VRs_drop _ g2)⟩
      · obtain ⟨v, q1, q2⟩ := VRs_get g2 hl
        refine OpRes.pure hR hk (run_v (x := v) ?_) q2
        simp [Instr.index, asIntOf, run_und hund, hi, part, run_agg ok hno, ha, run_size ok hno, q1]
    · exact hk.elim
  · exact hk.elim

theorem s_makeFunc (hR : HR cx.toCx0 Γ hh used w) {fn : Fn} {first captured : Array Operand} {ρ : Operand → Value} {vs : List HVal} {k : KT}
    (hu : VRs Γ w vs ((first.toList ++ captured.toList).map ρ)) (hk : hopV cx (.makeFunc fn first captured) vs (hget hh) nid k) :
    OpRes cx (do pure (Next.value (← Instr.makeFunc fn (first.map ρ) (captured.map ρ)))) hh Γ used w nid k := by
  simp only [hopV] at hk
  split at hk
  · rename_i f
    obtain ⟨h1, hk⟩ := takeK_spec hk
    obtain ⟨h2, hk⟩ := dropK_spec hk
    obtain ⟨h3, hk⟩ := takeK_spec hk
    have hl := VRs_length hu
    simp at hl
    refine OpRes.pure hR hk (run_v rfl) ?_
    simp only [VR]
    refine ⟨by simp, first.toList.map ρ, captured.toList.map ρ, by congr 1 <;> (apply Array.ext'; simp), ?_, ?_⟩
    · have := VRs_take first.size hu
      rwa [List.map_append, List.take_left' (by simp)] at this
    · have := VRs_take captured.size (VRs_drop first.size hu)
      rw [List.map_append, List.drop_left' (by simp)] at this
      rwa [show List.take captured.size (List.map ρ captured.toList) = _ from List.take_of_length_le (by simp)] at this
  · exact hk.elim

theorem s_makeMap (hR : HR cx.toCx0 Γ hh used w) (hn : ¬ used nid) {t : Nat} {vs : List HVal} {k : KT} (hk : hopV cx (.makeMap t none) vs (hget hh) nid k) :
    OpRes cx (do pure (Next.value (← Instr.makeMap t none))) hh Γ used w nid k := by
  simp only [hopV] at hk
  refine OpRes.new (ho := .map []) (w' := w.alloc (.map #[] 0)) (o := .map #[] 0) hR hn hk (run_v (x := .map (some w.heap.size)) ?_) rfl ⟨rfl, rfl, rfl⟩ ?_ ?_
  · simp [Instr.makeMap]
  · exact ⟨#[], 0, heap_new _ _, rfl, Born_nil 0⟩
  · simp only [VR]; exact ⟨_, _, Gam.add_same _ _ _ _, rfl⟩

theorem replicate_flatten_get {α : Type} (z : List α) : ∀ (n i : Nat), i < n * z.length → ((List.replicate n z).flatten)[i]? = z[i % z.length]?
  | 0, i, h => by simp at h
  | n + 1, i, h => by
    rw [List.replicate_succ, List.flatten_cons]
    by_cases hi : i < z.length
    · rw [List.getElem?_append_left hi, Nat.mod_eq_of_lt hi]
    · rw [List.getElem?_append_right (by omega)]
      have hpos : 0 < z.length := by
        rcases Nat.eq_zero_or_pos z.length with h0 | h0
        · rw [h0] at h; simp at h
        · exact h0
      rw [replicate_flatten_get z n (i - z.length) (by rw [Nat.add_mul] at h; omega)]
      rw [Nat.mod_eq_sub_mod (Nat.le_of_not_lt hi)]

theorem VRs_replicate {zc : List HVal} {zs : List Value} (h : VRs Γ w zc zs) : ∀ n, VRs Γ w (List.replicate n zc).flatten (List.replicate n zs).flatten
  | 0 => by simp [VRs]
  | n + 1 => by simp only [List.replicate_succ, List.flatten_cons]; exact VRs_append h (VRs_replicate h n)

/-- The cells of n zeros, as make and the literals lay them. -/
theorem zeros_list (z : Array Value) (n sz : Nat) (hz : z.size = sz) : ((Array.range (n * sz)).map (z[· % z.size]!)).toList = (List.replicate n z.toList).flatten := by
  apply List.ext_getElem?
  intro i
  by_cases hi : i < n * sz
  · rw [replicate_flatten_get z.toList n i (by simpa [hz] using hi)]
    have hpos : 0 < z.size := by
      rcases Nat.eq_zero_or_pos z.size with h0 | h0
      · rw [← hz, h0] at hi; simp at hi
      · exact h0
    have hm : i % z.size < z.size := Nat.mod_lt _ hpos
    simp [hi, hm]
  · rw [List.getElem?_eq_none (by simpa using hi), List.getElem?_eq_none (by simp [hz]; omega)]

theorem map_range0 {α : Type} (f : Nat → α) : (Array.range 0).map f = #[] := Array.eq_empty_of_size_eq_zero (by simp)
theorem s_makeSlice (ok : CxOK cx) (hR : HR cx.toCx0 Γ hh used w) (hn : ¬ used nid) {t : Nat} {x y : Operand} {vs : List HVal} {u z : Value} {k : KT} (hu : VRs Γ w vs [u, z])
    (hk : hopV cx (.makeSlice t x y) vs (hget hh) nid k) : OpRes cx (do pure (Next.value (← Instr.makeSlice t u z))) hh Γ used w nid k := by
  simp only [hopV] at hk
  split at hk
  · rename_i l c
    replace hk := elemOK_spec ok hk
    obtain ⟨e, _, hund, hno, hk⟩ := hk
    obtain ⟨zc, hk, hcs⟩ := flatK_spec hk
    obtain ⟨⟨h0, h1, h2, h3, h4⟩, hk⟩ := hk
    obtain ⟨_, _, e', hp, hz⟩ := VRs_two hu
    simp only [List.cons.injEq, and_true] at e'
    obtain ⟨rfl, rfl⟩ := e'
    simp only [VR] at hp hz
    subst hp; subst hz
    obtain ⟨i, d, g1, g2, g3, g4, _, zv, g5, _, g6⟩ := tok ok hno
    obtain ⟨zs, q1, q2, q3⟩ := hcs Γ w zv (g6 Γ w)
    have hzsz : zv.cells.size = (cx.T e).size := by rw [q1]; have := VRs_length q2; simp; omega
    obtain ⟨L, rfl⟩ := Int.eq_ofNat_of_zero_le h0
    obtain ⟨C, rfl⟩ := Int.eq_ofNat_of_zero_le (Int.le_trans h0 h1)
    have hwl : IntKind.i64.wrap (L : Int) = L := by simp [IntKind.wrap, IntKind.signed, IntKind.bits]; omega
    have hwc : IntKind.i64.wrap (C : Int) = C := by simp [IntKind.wrap, IntKind.signed, IntKind.bits]; omega
    obtain ⟨row, hrowd⟩ : ∃ r : Array Value, r = (Array.range (C * (cx.T e).size)).map (zv.cells[· % zv.cells.size]!) := ⟨_, rfl⟩
    have hrow : row.toList = (List.replicate C zs).flatten := by
      have := zeros_list zv.cells C (cx.T e).size hzsz
      rw [q1] at this
      rw [hrowd, q1]
      exact this
    have hrun : (Instr.makeSlice t (.int .i64 (L : Int)) (.int .i64 (C : Int))).run cx.P w = .ok (.slice (some ⟨w.heap.size, 0, none⟩) L C) (w.alloc (.cells row e)) := by
      have hb : ¬ (281474976710656 < (i.bytes : Int) * C) := by rw [g4]; omega
      have hC : ¬ (C : Int) < 0 := by omega
      have hL : ¬ (L : Int) < 0 := by omega
      have hLC : ¬ (L : Int) > C := by omega
      by_cases hzero : C * (cx.T e).size = 0
      · have hr0 : row = #[] := by rw [hrowd, hzero]; exact map_range0 _
        simp only [Instr.makeSlice, Sem.run_bind, run_und hund, asInt, asIntOf, run_info g1, Result.andThen_ok, Sem.run_pure, hwl, hwc]
        simp [hb, hC, hL, hLC, run_size ok hno, hzero, newRow, hr0, map_range0]
      · simp [Instr.makeSlice, run_und hund, asInt, asIntOf, run_info g1, hwl, hwc, hb, hC, hL, hLC, run_size ok hno, hzero, newRow, zeroValue, g5, hrowd]
    have E := ext_push (w' := w.alloc (.cells row e)) (b0 := w.heap.size) (d0 := 0) hn hR.used hR.frlt rfl
    have hnew := heap_new w (.cells row e)
    have hrowsz : row.size = C * (cx.T e).size := by simp [hrowd]
    refine OpRes.new (ho := .arr (cx.T e).size (List.replicate C zc)) (w' := w.alloc (.cells row e)) (o := .cells row e) hR hn (by simpa using hk) (run_v hrun) rfl ⟨rfl, rfl, rfl⟩ ?_ ?_
    · refine ⟨_, _, _, hnew, by simp, EsAt_of_flat (by simp; intro _; exact h4) ?_⟩
      refine CsAt_intro (vs := (List.replicate C zs).flatten) ?_ ?_ ?_
      · exact VRs_replicate (VRs_ext E _ _ q2) C
      · intro y hy
        simp only [List.mem_flatten] at hy
        obtain ⟨l, hl, hy⟩ := hy
        rw [List.mem_replicate] at hl
        exact q3 y (hl.2 ▸ hy)
      · intro j v hj
        rw [cell_arr hnew, Nat.zero_add]
        rw [← hrow] at hj
        simpa using hj
    · simp only [VR]
      exact ⟨w.heap.size, 0, 0, C, row, e, (0, 0), Gam.add_same _ _ _ _, rfl, by omega, by simp, hnew, (by rw [hrowsz]; simp), rfl⟩
  · exact hk.elim
end
end Go.Hv

namespace Go.Hv
open Go
section
variable {cx : Cx} {Γ : Gam} {hh : List (Nat × HObj)} {used : Nat → Prop} {w : World} {nid : Nat}

theorem optInt_spec {has : Bool} {vs : List HVal} {d : Int} {k : Int → List HVal → Prop} (h : optInt has vs d k) :
    ∃ n r, k n r ∧ ((has = false ∧ n = d ∧ r = vs) ∨ (has = true ∧ ∃ q, vs = .int q n :: r)) := by
  cases has
  · exact ⟨d, vs, h, .inl ⟨rfl, rfl, rfl⟩⟩
  · cases vs with
    | nil => exact h.elim
    | cons v r =>
      cases v <;> first | exact h.elim | skip
      rename_i q n
      exact ⟨n, r, h, .inr ⟨rfl, q, rfl⟩⟩

theorem run_sliceBoundH {P : Program} (q : IntKind) (n : Int) (y : Nat) (code : BoundsCode) (h0 : 0 ≤ n) (h1 : n ≤ y) (w : World) : (Instr.sliceBound (.int q n) y code).run P w = .ok n.toNat w := by
  simp [Instr.sliceBound, asIntOf, h0, h1]

/-- What a bound is in the real call. -/
def Bound (o : Option Value) (n d : Int) : Prop := (o = none ∧ n = d) ∨ ∃ q, o = some (.int q n)

theorem run_bounds {P : Program} (isSlice : Bool) (len cap : Nat) (lo hi : Option Value) (l h : Int) (hl : Bound lo l 0) (hh' : Bound hi h len) (h0 : 0 ≤ l) (h1 : l ≤ h) (h2 : h ≤ cap) (w : World) :
    (Instr.sliceBounds isSlice len cap lo hi none).run P w = .ok (l.toNat, h.toNat, cap) w := by
  have hH : ((match hi, (none : Option Value) with
    | some v, some _ => Instr.sliceBound v cap .slice3B
    | some v, none => Instr.sliceBound v cap (if isSlice then .sliceAcap else .sliceAlen)
    | none, none => pure len
    | none, some _ => stuck "Slice: max without high") : Sem Nat).run P w = .ok h.toNat w := by
    rcases hh' with ⟨rfl, rfl⟩ | ⟨q, rfl⟩
    · simp
    · exact run_sliceBoundH q h cap _ (by omega) h2 w
  have hL : ((match lo with
    | some v => Instr.sliceBound v h.toNat .sliceB
    | none => pure 0) : Sem Nat).run P w = .ok l.toNat w := by
    rcases hl with ⟨rfl, rfl⟩ | ⟨q, rfl⟩
    · simp
    · exact run_sliceBoundH q l _ _ h0 (by omega) w
  rcases hh' with ⟨rfl, rfl⟩ | ⟨q, rfl⟩ <;> rcases hl with ⟨rfl, rfl⟩ | ⟨q', rfl⟩
  · simp [Instr.sliceBounds]
  · simp only [Instr.sliceBounds, Sem.run_bind, Sem.run_pure, Result.andThen_ok, Option.isSome_none, Bool.false_eq_true, if_false]
    rw [run_sliceBoundH q' l _ _ h0 (by omega) w]; simp
  · simp only [Instr.sliceBounds, Sem.run_bind, Sem.run_pure, Result.andThen_ok, Option.isSome_none, Bool.false_eq_true, if_false]
    rw [run_sliceBoundH q h cap _ (by omega) h2 w]; simp
  · simp only [Instr.sliceBounds, Sem.run_bind, Sem.run_pure, Result.andThen_ok, Option.isSome_none, Bool.false_eq_true, if_false]
    rw [run_sliceBoundH q h cap _ (by omega) h2 w]
    simp only [Result.andThen_ok]
    rw [run_sliceBoundH q' l _ _ h0 (by omega) w]; simp

theorem opt_bounds {lo hi : Option Operand} {ρ : Operand → Value} {r : List HVal} {d : Int} {k : Int → Int → List HVal → Prop} (hu : VRs Γ w r ((lo.toList ++ hi.toList).map ρ))
    (h : optInt lo.isSome r 0 fun l r' => optInt hi.isSome r' d fun h' x => k l h' x) : ∃ l h' x, k l h' x ∧ Bound (lo.map ρ) l 0 ∧ Bound (hi.map ρ) h' d ∧ (hi.isSome = false → h' = d) := by
  obtain ⟨l, r', h, hl⟩ := optInt_spec h
  obtain ⟨h', x, h, hh'⟩ := optInt_spec h
  refine ⟨l, h', x, h, ?_⟩
  rcases hl with ⟨e1, rfl, rfl⟩ | ⟨e1, q, rfl⟩
  · obtain rfl : lo = none := by cases lo <;> simp_all
    rcases hh' with ⟨e2, rfl, rfl⟩ | ⟨e2, q, rfl⟩
    · obtain rfl : hi = none := by cases hi <;> simp_all
      exact ⟨.inl ⟨rfl, rfl⟩, .inl ⟨rfl, rfl⟩, fun _ => rfl⟩
    · cases hi with
      | none => cases e2
      | some y =>
        simp only [Option.toList, List.nil_append, List.map_cons, List.map_nil] at hu
        simp only [VRs] at hu
        obtain ⟨v, s, e, hv, _⟩ := hu
        simp only [VR] at hv
        simp only [List.cons.injEq] at e
        exact ⟨.inl ⟨rfl, rfl⟩, .inr ⟨q, by simp [e.1, hv]⟩, by simp⟩
  · cases lo with
    | none => cases e1
    | some y =>
      simp only [Option.toList, List.cons_append, List.nil_append, List.map_cons] at hu
      simp only [VRs] at hu
      obtain ⟨v, s, e, hv, hs⟩ := hu
      simp only [VR] at hv
      simp only [List.cons.injEq] at e
      refine ⟨.inr ⟨q, by simp [e.1, hv]⟩, ?_⟩
      rcases hh' with ⟨e2, rfl, rfl⟩ | ⟨e2, q', rfl⟩
      · obtain rfl : hi = none := by cases hi <;> simp_all
        exact ⟨.inl ⟨rfl, rfl⟩, fun _ => rfl⟩
      · cases hi with
        | none => cases e2
        | some z =>
          have e3 := e.2
          simp only [List.map_cons, List.map_nil] at e3
          rw [← e3] at hs
          simp only [VRs] at hs
          obtain ⟨v', s', e', hv', _⟩ := hs
          simp only [VR] at hv'
          simp only [List.cons.injEq] at e'
          exact ⟨.inr ⟨q', by simp [e'.1, hv']⟩, by simp⟩

theorem s_slice (ok : CxOK cx) (hR : HR cx.toCx0 Γ hh used w) {t : Nat} {x : Operand} {lo hi mx : Option Operand} {ρ : Operand → Value} {vs : List HVal} {k : KT}
    (hu : VRs Γ w vs ((x :: (lo.toList ++ hi.toList ++ mx.toList)).map ρ)) (hk : hopV cx (.slice t x lo hi mx) vs (hget hh) nid k) :
    OpRes cx (do pure (Next.value (← Instr.sliceAt t (ρ x) (lo.map ρ) (hi.map ρ) (mx.map ρ)))) hh Γ used w nid k := by
  simp only [hopV] at hk
  cases mx with
  | some m => exact hk.elim
  | none =>
  simp only [Option.isSome_none, cond_false] at hk
  simp only [Option.toList, List.append_nil, List.map_cons] at hu
  split at hk
  · rename_i s r
    simp only [VRs] at hu
    split at hk
    · rename_i htk
      obtain ⟨i, d, _, hund, _, _, h5, _⟩ := tok ok (t := t) (by rw [htk]; simp)
      rw [htk] at h5
      obtain rfl := h5
      obtain ⟨v, us, e, hv, hr⟩ := hu
      simp only [List.cons.injEq] at e
      obtain ⟨e1, e2⟩ := e
      rw [← e2] at hr
      obtain ⟨l, h', x', ⟨⟨h0, h1, h2⟩, hk⟩, hb1, hb2, _⟩ := opt_bounds (k := fun l h' _ => (0 ≤ l ∧ l ≤ h' ∧ h' ≤ s.length) ∧ k (.str ((s.take h'.toNat).drop l.toNat)) [] nid) hr hk
      simp only [VR] at hv
      refine OpRes.pure hR hk (run_v (x := .string ⟨((s.take h'.toNat).drop l.toNat).toArray⟩) ?_) (by simp only [VR])
      have hbd := run_bounds (P := cx.P) false s.length s.length (lo.map ρ) (hi.map ρ) l h' hb1 hb2 h0 h1 h2 w
      have hsz : (⟨s.toArray⟩ : ByteArray).size = s.length := by simp [ByteArray.size]
      rw [e1, hv]
      simp only [Instr.sliceAt, Sem.run_bind, run_und hund, Result.andThen_ok, Option.map_none, Instr.slice, Option.isSome_none, Bool.false_eq_true, if_false, hsz, hbd, Sem.run_pure]
      congr 3
      apply ByteArray.ext
      rw [ByteArray.data_extract]
      apply Array.ext'
      simp only [Array.toList_extract]
      simp [List.drop_take]
    · exact hk.elim
  · rename_i lf es full elems r
    simp only [VRs] at hu
    replace hk := elemOK_spec ok hk
    obtain ⟨e, _, hund, hno, hk⟩ := hk
    obtain ⟨v, us, e0, hv, hr⟩ := hu
    simp only [List.cons.injEq] at e0
    obtain ⟨e1, e2⟩ := e0
    rw [← e2] at hr
    obtain ⟨l, h', x', ⟨⟨h0, h1, h2, h3⟩, hk⟩, hb1, hb2, hb3⟩ := opt_bounds (k := fun l h' _ => (0 ≤ l ∧ l ≤ h' ∧ h' ≤ elems.length ∧ sameOr es (cx.T e).size elems) ∧
      k (.ps lf es (full && (!hi.isSome || Nat.beq h'.toNat elems.length)) ((elems.take h'.toNat).drop l.toNat)) [] nid) hr hk
    simp only [VR] at hv
    rcases hv with ⟨rfl, hv⟩ | ⟨b, o, cap, hv, g2, g3, g4, g5⟩
    · have hh0 : h' = 0 := by simp at h2; omega
      have hl0 : l = 0 := by omega
      subst hh0; subst hl0
      have hbd := run_bounds (P := cx.P) true 0 0 (lo.map ρ) (hi.map ρ) 0 0 hb1 hb2 (by omega) (by omega) (by simp) w
      refine OpRes.pure hR hk (run_v (x := .slice none 0 0) ?_) (by simp only [VR]; exact .inl ⟨by simp, trivial⟩)
      rw [e1, hv]
      simp only [Instr.sliceAt, Sem.run_bind, run_und hund, Result.andThen_ok, Option.map_none, Instr.slice, hbd, run_size ok hno, Sem.run_pure]
      simp
    · have hbd := run_bounds (P := cx.P) true elems.length cap (lo.map ρ) (hi.map ρ) l h' hb1 hb2 h0 h1 (by omega) w
      obtain ⟨L, rfl⟩ := Int.eq_ofNat_of_zero_le h0
      obtain ⟨H, rfl⟩ := Int.eq_ofNat_of_zero_le (Int.le_trans h0 h1)
      have hlen : ((elems.take H).drop L).length = H - L := by simp; omega
      simp only [Int.toNat_natCast] at hk hbd
      refine OpRes.pure hR hk (run_v (x := .slice (if cap = L then some ⟨b, o, none⟩ else some ⟨b, o + L * (cx.T e).size, none⟩) (H - L) (cap - L)) ?_) ?_
      · rw [e1, hv]
        simp only [Instr.sliceAt, Sem.run_bind, run_und hund, Result.andThen_ok, Option.map_none, Instr.slice, hbd, run_size ok hno, Sem.run_pure, Option.map_some, add_none]
      · simp only [VR]
        refine .inr ?_
        by_cases hc : cap = L
        · rw [if_pos hc]
          have : (elems.take H).drop L = [] := by
            apply List.eq_nil_of_length_eq_zero; rw [hlen]; omega
          rw [this]
          refine ⟨b, o, cap - L, by simp; omega, by simp, fun hf => by simp; omega, g4, by simp [EsAt]⟩
        · rw [if_neg hc]
          refine ⟨b, o + L * (cx.T e).size, cap - L, by rw [hlen], by rw [hlen]; omega, fun hf => ?_, g4, ?_⟩
          · simp only [Bool.and_eq_true, Bool.or_eq_true, Bool.not_eq_true', Nat.beq_eq] at hf
            have := g3 hf.1
            rcases hf.2 with hf2 | hf2
            · have := hb3 hf2
              rw [hlen]; omega
            · rw [hlen]; omega
          · rcases h3 with rfl | rfl
            · exact EsAt_drop L (EsAt_take H g5)
            · simp [EsAt]
  · rename_i id es i len cp r
    simp only [VRs] at hu
    replace hk := elemOK_spec ok hk
    obtain ⟨e, _, hund, hno, hk⟩ := hk
    obtain ⟨v, us, e0, hv, hr⟩ := hu
    simp only [List.cons.injEq] at e0
    obtain ⟨e1, e2⟩ := e0
    rw [← e2] at hr
    obtain ⟨l, h', x', ⟨⟨h0, h1, h2, rfl⟩, hk⟩, hb1, hb2, hb3⟩ := opt_bounds (k := fun l h' _ => (0 ≤ l ∧ l ≤ h' ∧ h' ≤ cp.low ∧ es = (cx.T e).size) ∧
      k (.sl id es (i + l.toNat) (h' - l).toNat (cp.less l.toNat)) [] nid) hr hk
    simp only [VR] at hv
    obtain ⟨b, δ, o, cap, arr, T, fz, g1, hv, g2, g3, g4, g5, g6⟩ := hv
    have hlow := Cap.low_le g6
    have hbd := run_bounds (P := cx.P) true len cap (lo.map ρ) (hi.map ρ) l h' hb1 hb2 h0 h1 (by omega) w
    obtain ⟨L, rfl⟩ := Int.eq_ofNat_of_zero_le h0
    obtain ⟨H, rfl⟩ := Int.eq_ofNat_of_zero_le (Int.le_trans h0 h1)
    have hHL : ((H : Int) - (L : Int)).toNat = H - L := by omega
    simp only [Int.toNat_natCast, hHL] at hk hbd
    refine OpRes.pure hR hk (run_v (x := .slice (if cap = L then some ⟨b, o, none⟩ else some ⟨b, o + L * (cx.T e).size, none⟩) (H - L) (cap - L)) ?_) ?_
    · rw [e1, hv]
      simp only [Instr.sliceAt, Sem.run_bind, run_und hund, Result.andThen_ok, Option.map_none, Instr.slice, hbd, run_size ok hno, Sem.run_pure, Option.map_some, add_none]
    · simp only [VR]
      have hcp := Cap.less_ok g6 L
      by_cases hc : cap = L
      · rw [if_pos hc]
        exact ⟨b, δ, o, cap - L, arr, T, fz, g1, by simp, by omega, by omega, g4, by rw [show i + L + (cap - L) = i + cap by omega]; exact g5, hcp⟩
      · rw [if_neg hc]
        refine ⟨b, δ, o + L * (cx.T e).size, cap - L, arr, T, fz, g1, rfl, by omega, fun _ => ?_, g4, by rw [show i + L + (cap - L) = i + cap by omega]; exact g5, hcp⟩
        rw [g3 (by omega), Nat.add_mul]; omega
  · exact hk.elim
end
end Go.Hv

namespace Go.Hv
open Go
section
variable {cx : Cx} {Γ : Gam} {hh : List (Nat × HObj)} {used : Nat → Prop} {w : World} {nid : Nat}

/-! ### Literals of structs and slices -/
/-- 'fill', one part: the cells with the part over them. -/
theorem foldl_set (vs : List Value) : ∀ (off : Nat) (cells : Array Value), off + vs.length ≤ cells.size →
    (vs.zipIdx.foldl (fun cs (c, j) => cs.setIfInBounds (off + j) c) cells).toList = cells.toList.take off ++ vs ++ cells.toList.drop (off + vs.length) := by
  have gen : ∀ (vs : List Value) (i off : Nat) (cells : Array Value), off + i + vs.length ≤ cells.size →
      ((vs.zipIdx i).foldl (fun cs (c, j) => cs.setIfInBounds (off + j) c) cells).toList = cells.toList.take (off + i) ++ vs ++ cells.toList.drop (off + i + vs.length) := by
    intro vs
    induction vs with
    | nil => intro i off cells h; simp
    | cons v vs ih =>
      intro i off cells h
      simp only [List.length_cons] at h
      simp only [List.zipIdx_cons, List.foldl_cons]
      rw [ih (i + 1) off _ (by simp; omega)]
      simp only [Array.toList_setIfInBounds]
      rw [show off + (i + 1) = (off + i) + 1 by omega]
      have := list_seg_step cells.toList (off + i) v vs (by simp; omega)
      rw [show off + i + (v :: vs).length = off + i + (vs.length + 1) by simp]
      exact this
  intro off cells h
  simpa using gen vs 0 off cells (by omega)

theorem fill_cons (place : Nat → Option (Nat × Nat)) (cells : Array Value) (i : Nat) (v : Value) (rest : List (Nat × Value)) {off size : Nat} (hp : place i = some (off, size)) {vs : List Value} (hv : v.cells = vs.toArray)
    (hs : vs.length = size) (hl : off + vs.length ≤ cells.size) :
    Instr.fill place cells ((i, v) :: rest) = Instr.fill place (cells.toList.take off ++ vs ++ cells.toList.drop (off + vs.length)).toArray rest := by
  simp only [Instr.fill, hp]
  rw [if_neg (by rw [hv]; simp [hs]; omega)]
  congr 1
  rw [hv]
  apply Array.ext'
  have := foldl_set vs off cells hl
  simpa using this

theorem build_fill {place : Nat → Option (Nat × Nat)} : ∀ {is : List Nat} {vs : List HVal} {us : List Value} {cells : List HVal} {cs : Array Value} {k : List HVal → Prop}, VRs Γ w vs us → VRs Γ w cells cs.toList →
    (∀ x ∈ cs.toList, x.oneCell' = true) → buildK cx place is vs cells k →
    ∃ cells' cs', k cells' ∧ Instr.fill place cs (is.zip us) = some cs' ∧ VRs Γ w cells' cs'.toList ∧ (∀ x ∈ cs'.toList, x.oneCell' = true) ∧ is.length = vs.length
  | [], [], us, cells, cs, k, hv, hc, h1, h => by
    simp only [VRs] at hv
    subst hv
    exact ⟨cells, cs, by simpa [buildK] using h, by simp [Instr.fill], hc, h1, rfl⟩
  | i :: is, [], us, cells, cs, k, hv, hc, h1, h => by simp [buildK] at h
  | [], v :: vs, us, cells, cs, k, hv, hc, h1, h => by simp [buildK] at h
  | i :: is, v :: vs, us, cells, cs, k, hv, hc, h1, h => by
    simp only [VRs] at hv
    obtain ⟨u, us, rfl, hv, hvs⟩ := hv
    simp only [buildK] at h
    split at h
    · exact h.elim
    · rename_i off sz hp
      obtain ⟨ns, h, hns⟩ := flatK_spec h
      obtain ⟨zs, g1, g2, g3⟩ := hns Γ w _ hv
      obtain ⟨hsz, h⟩ := nonOther_bif h
      obtain ⟨hov, h⟩ := overK_spec h
      have e1 := VRs_length g2
      have e2 := VRs_length hc
      have e3 := Nat.eq_of_beq_eq_true hsz
      simp at e2
      obtain ⟨cells', cs', r1, r2, r3, r4, r5⟩ := build_fill (place := place) (is := is) (cs := (cs.toList.take off ++ zs ++ cs.toList.drop (off + zs.length)).toArray) hvs
        (by rw [← e1]; exact VRs_append (VRs_append (VRs_take _ hc) g2) (VRs_drop _ hc))
        (fun x hx => by
          simp only [List.mem_append] at hx
          rcases hx with (hx | hx) | hx
          · exact h1 x (List.mem_of_mem_take hx)
          · exact g3 x hx
          · exact h1 x (List.mem_of_mem_drop hx)) h
      refine ⟨cells', cs', r1, ?_, r3, r4, by simp [r5]⟩
      rw [List.zip_cons_cons, fill_cons place cs i u _ hp g1 (by omega) (by omega)]
      exact r2

theorem mapM_places (ok : CxOK cx) : ∀ (fields : List Field) (w : World), (∀ f ∈ fields, (cx.T f.type).tk ≠ .other) →
    (fields.mapM (m := Sem) fun f => do pure (f.offset, ← sizeOf f.type)).run cx.P w = .ok (fields.map fun f => (f.offset, (cx.T f.type).size)) w
  | [], w, _ => rfl
  | f :: r, w, h => by
    simp only [List.mapM_cons, Sem.run_bind, run_size ok (h f (by simp)), Result.andThen_ok, Sem.run_pure, mapM_places ok r w (fun g hg => h g (by simp [hg])), List.map_cons]

theorem nOall_spec : ∀ {fs : List (Nat × Nat)} {A : Prop}, nOall cx fs A → (∀ p ∈ fs, (cx.T p.2).tk ≠ .other) ∧ A
  | [], _, h => ⟨by simp, h⟩
  | (o, t) :: r, _, h => by
    obtain ⟨h1, h2⟩ := nO_spec h
    obtain ⟨h3, h4⟩ := nOall_spec h2
    exact ⟨by simpa using ⟨h1, fun a b hab => h3 (a, b) hab⟩, h4⟩

theorem s_build (ok : CxOK cx) (hR : HR cx.toCx0 Γ hh used w) {t : Nat} {parts : Array (Nat × Operand)} {ρ : Operand → Value} {vs : List HVal} {k : KT} (hu : VRs Γ w vs ((parts.toList.map (·.2)).map ρ))
    (hk : hopV cx (.build t parts) vs (hget hh) nid k) : OpRes cx (do pure (Next.value (← Instr.build t (parts.map fun (i, x) => (i, ρ x))))) hh Γ used w nid k := by
  simp only [hopV] at hk
  split at hk
  · rename_i fs htk
    obtain ⟨fields, h1, h2⟩ := struct_und ok htk
    obtain ⟨hall, hk⟩ := nOall_spec hk
    obtain ⟨zc, hk, hzc⟩ := flatK_spec hk
    obtain ⟨z, hz1, hz2⟩ := run_zero ok (t := t) (by rw [htk]; simp)
    obtain ⟨zs, g1, g2, g3⟩ := hzc Γ w z (hz2 Γ w)
    obtain ⟨cells', cs', r1, r2, r3, r4, r5⟩ := build_fill (cs := z.cells) hu (by rw [g1]; exact g2) (by rw [g1]; exact g3) hk
    refine OpRes.pure hR r1 (run_v (x := .agg cs') ?_) ?_
    · have hpl := mapM_places ok fields.toList w (fun f hf => hall (f.offset, f.type) (by rw [← h2]; exact List.mem_map.2 ⟨f, hf, rfl⟩))
      have hpl' : (fields.mapM (m := Sem) fun f => do pure (f.offset, ← sizeOf f.type)).run cx.P w = .ok (fields.map fun f => (f.offset, (cx.T f.type).size)) w := by
        have e : (fields.mapM (m := Sem) fun f => do pure (f.offset, ← sizeOf f.type)) = List.toArray <$> (fields.toList.mapM (m := Sem) fun f => do pure (f.offset, ← sizeOf f.type)) := by
          rw [Array.mapM_eq_mapM_toList]
        rw [e, Sem.run_map, hpl]
        simp only [Result.andThen_ok]
        congr 1
        apply Array.ext'
        simp
      have e0 : ∀ i : Nat, (match (fs[i]? : Option (Nat × Nat)) with | some (off, ft) => some (off, (cx.T ft).size) | none => none) = (fields.map fun f => (f.offset, (cx.T f.type).size))[i]? := fun i => by
        rw [← h2]
        simp only [List.getElem?_map, Array.getElem?_map]
        cases h : fields.toList[i]? with
        | none => simp at h; simp [h]
        | some f => simp at h; simp [h]
      have e1 := funext e0
      have hfill : Instr.fill (fun i => (fields.map fun f => (f.offset, (cx.T f.type).size))[i]?) z.cells (parts.map fun (i, x) => (i, ρ x)).toList = some cs' := by
        rw [← e1]
        have e2 : (parts.map fun (i, x) => (i, ρ x)).toList = (parts.toList.map (·.1)).zip ((parts.toList.map (·.2)).map ρ) := by
          rw [Array.toList_map, List.map_map, List.zip_map']
          rfl
        rw [e2]; exact r2
      simp only [Instr.build, Sem.run_bind, hz1, Result.andThen_ok, run_und h1, hpl', hfill, Sem.run_pure]
    · simp only [VR]; exact ⟨cs'.toList, by simp, r4, r3⟩
  · rename_i n e htk
    obtain ⟨hno, hk⟩ := nO_spec hk
    obtain ⟨i, d, _, hund, _, _, h5, _⟩ := tok ok (t := t) (by rw [htk]; simp)
    rw [htk] at h5
    obtain rfl := h5
    obtain ⟨zc, hk, hzc⟩ := flatK_spec hk
    obtain ⟨z, hz1, hz2⟩ := run_zero ok (t := t) (by rw [htk]; simp)
    obtain ⟨zs, g1, g2, g3⟩ := hzc Γ w z (hz2 Γ w)
    obtain ⟨cells', cs', r1, r2, r3, r4, r5⟩ := build_fill (cs := z.cells) hu (by rw [g1]; exact g2) (by rw [g1]; exact g3) hk
    refine OpRes.pure hR r1 (run_v (x := .agg cs') ?_) ?_
    · have hfill : Instr.fill (fun i => some (i * (cx.T e).size, (cx.T e).size)) z.cells (parts.map fun (i, x) => (i, ρ x)).toList = some cs' := by
        have e2 : (parts.map fun (i, x) => (i, ρ x)).toList = (parts.toList.map (·.1)).zip ((parts.toList.map (·.2)).map ρ) := by
          rw [Array.toList_map, List.map_map, List.zip_map']
          rfl
        rw [e2]; exact r2
      simp only [Instr.build, Sem.run_bind, hz1, Result.andThen_ok, run_und hund, run_size ok hno, hfill, Sem.run_pure]
    · simp only [VR]; exact ⟨cs'.toList, by simp, r4, r3⟩
  · exact hk.elim
end
end Go.Hv

namespace Go.Hv
open Go
section
variable {cx : Cx} {Γ : Gam} {hh : List (Nat × HObj)} {used : Nat → Prop} {w : World} {nid : Nat}

theorem setEl_spec : ∀ {l : List (List HVal)} {i : Nat} {e : List HVal} {k : List (List HVal) → Prop}, setEl l i e k → i < l.length ∧ k (l.set i e)
  | [], _, _, _, h => by simp [setEl] at h
  | _ :: r, 0, e, k, h => ⟨by simp, by simpa [setEl] using h⟩
  | c :: r, i + 1, e, k, h => by
    obtain ⟨h1, h2⟩ := setEl_spec (l := r) (i := i) h
    exact ⟨by simpa using h1, by simpa using h2⟩
theorem flatten_set {α : Type} {n : Nat} : ∀ {l : List (List α)} {i : Nat} {e : List α}, (∀ x ∈ l, x.length = n) → e.length = n → i < l.length →
    (l.set i e).flatten = l.flatten.take (i * n) ++ e ++ l.flatten.drop (i * n + n)
  | [], _, _, _, _, h => by simp at h
  | c :: r, 0, e, hl, he, _ => by
    have : c.length = n := hl c (by simp)
    simp [← this]
  | c :: r, i + 1, e, hl, he, hi => by
    have hc : c.length = n := hl c (by simp)
    have ih := flatten_set (l := r) (i := i) (e := e) (fun x hx => hl x (by simp [hx])) he (by simpa using hi)
    simp only [List.set_cons_succ, List.flatten_cons, ih]
    rw [show (i + 1) * n = c.length + i * n by rw [hc, Nat.add_mul]; omega]
    rw [List.take_length_add_append, show c.length + i * n + n = c.length + (i * n + n) by omega, List.drop_length_add_append]
    simp

theorem flat_len {α : Type} {n : Nat} : ∀ {l : List (List α)}, (∀ e ∈ l, e.length = n) → l.flatten.length = l.length * n
  | [], _ => by simp
  | x :: r, h => by
    simp only [List.flatten_cons, List.length_append, List.length_cons, flat_len (l := r) (fun e he => h e (by simp [he])), h x (by simp)]
    rw [Nat.add_mul]; omega
theorem fill_sl {sz : Nat} : ∀ {is : List Nat} {vs : List HVal} {us : List Value} {els : List (List HVal)} {cs : Array Value} {k : List (List HVal) → Prop}, VRs Γ w vs us → VRs Γ w els.flatten cs.toList →
    (∀ x ∈ cs.toList, x.oneCell' = true) → (∀ e ∈ els, e.length = sz) → fillK sz is vs els k →
    ∃ els' cs', k els' ∧ Instr.fill (fun i => some (i * sz, sz)) cs (is.zip us) = some cs' ∧ VRs Γ w els'.flatten cs'.toList ∧ (∀ x ∈ cs'.toList, x.oneCell' = true) ∧ (∀ e ∈ els', e.length = sz) ∧ els'.length = els.length
  | [], [], us, els, cs, k, hv, hc, h1, hl, h => by
    simp only [VRs] at hv
    subst hv
    exact ⟨els, cs, by simpa [fillK] using h, by simp [Instr.fill], hc, h1, hl, rfl⟩
  | i :: is, [], us, els, cs, k, hv, hc, h1, hl, h => by simp [fillK] at h
  | [], v :: vs, us, els, cs, k, hv, hc, h1, hl, h => by simp [fillK] at h
  | i :: is, v :: vs, us, els, cs, k, hv, hc, h1, hl, h => by
    simp only [VRs] at hv
    obtain ⟨u, us, rfl, hv, hvs⟩ := hv
    simp only [fillK] at h
    obtain ⟨ns, h, hns⟩ := flatK_spec h
    obtain ⟨zs, g1, g2, g3⟩ := hns Γ w _ hv
    obtain ⟨hsz, h⟩ := nonOther_bif h
    obtain ⟨hi, h⟩ := setEl_spec h
    have e1 := VRs_length g2
    have e2 := VRs_length hc
    have e3 := Nat.eq_of_beq_eq_true hsz
    have e4 := flat_len hl
    have e5 : (i + 1) * sz ≤ els.length * sz := Nat.mul_le_mul_right _ hi
    rw [Nat.add_mul] at e5
    rw [Array.length_toList] at e2
    have e6 : cs.size = els.length * sz := e2.symm.trans e4
    have hfl := flatten_set (n := sz) hl e3 hi
    obtain ⟨els', cs', r1, r2, r3, r4, r5, r6⟩ := fill_sl (is := is) (els := els.set i ns) (cs := (cs.toList.take (i * sz) ++ zs ++ cs.toList.drop (i * sz + sz)).toArray) hvs
      (by rw [hfl]; exact VRs_append (VRs_append (VRs_take _ hc) g2) (VRs_drop _ hc))
      (fun x hx => by
        simp only [List.mem_append] at hx
        rcases hx with (hx | hx) | hx
        · exact h1 x (List.mem_of_mem_take hx)
        · exact g3 x hx
        · exact h1 x (List.mem_of_mem_drop hx))
      (fun e he => (List.mem_or_eq_of_mem_set he).elim (hl e) (fun x => x ▸ e3)) h
    refine ⟨els', cs', r1, ?_, r3, r4, r5, by simpa using r6⟩
    rw [List.zip_cons_cons, fill_cons (fun i => some (i * sz, sz)) cs i u _ rfl g1 (by omega) (by rw [← e1, e3]; omega)]
    rw [← e1, e3]
    exact r2

theorem s_buildSlice (ok : CxOK cx) (hR : HR cx.toCx0 Γ hh used w) (hn : ¬ used nid) {t len : Nat} {parts : Array (Nat × Operand)} {ρ : Operand → Value} {vs : List HVal} {k : KT}
    (hu : VRs Γ w vs ((parts.toList.map (·.2)).map ρ)) (hk : hopV cx (.buildSlice t len parts) vs (hget hh) nid k) :
    OpRes cx (do pure (Next.value (← Instr.buildSlice t len (parts.map fun (i, x) => (i, ρ x))))) hh Γ used w nid k := by
  simp only [hopV] at hk
  obtain ⟨e, _, hund, hno, hk⟩ := elemOK_spec ok hk
  obtain ⟨zc, hk, hzc⟩ := flatK_spec hk
  obtain ⟨hb, hk⟩ := nonOther_bif hk
  simp only [Bool.and_eq_true] at hb
  have hle := Nat.le_of_ble_eq_true hb.1
  have hzl := Nat.eq_of_beq_eq_true hb.2
  obtain ⟨z, hz1, hz2⟩ := run_zero ok hno
  obtain ⟨zs, g1, g2, g3⟩ := hzc Γ w z (hz2 Γ w)
  have hzsz : z.cells.size = (cx.T e).size := by rw [g1]; have := VRs_length g2; simp; omega
  obtain ⟨row, hrowd⟩ : ∃ r : Array Value, r = (Array.range (len * (cx.T e).size)).map (z.cells[· % z.cells.size]!) := ⟨_, rfl⟩
  have hrow : row.toList = (List.replicate len zs).flatten := by
    have := zeros_list z.cells len (cx.T e).size hzsz
    rw [hrowd, this, g1]
  obtain ⟨els', cs', r1, r2, r3, r4, r5, r6⟩ := fill_sl (cs := row) hu (by rw [hrow]; exact VRs_replicate g2 len)
    (fun y hy => by
      rw [hrow] at hy
      simp only [List.mem_flatten] at hy
      obtain ⟨l, hl, hy⟩ := hy
      rw [List.mem_replicate] at hl
      exact g3 y (hl.2 ▸ hy)) (by simp; intro _; exact hzl) hk
  simp at r6
  have hsz' : cs'.size = len * (cx.T e).size := by
    have := VRs_length r3
    have h2 := flat_len r5
    rw [h2, r6] at this
    simpa using this.symm
  have e2 : (parts.map fun (i, x) => (i, ρ x)).toList = (parts.toList.map (·.1)).zip ((parts.toList.map (·.2)).map ρ) := by
    rw [Array.toList_map, List.map_map, List.zip_map']
    rfl
  have hrun : (Instr.buildSlice t len (parts.map fun (i, x) => (i, ρ x))).run cx.P w = .ok (.slice (some ⟨w.heap.size, 0, none⟩) len len) (w.alloc (.cells cs' e)) := by
    have hno2 : ¬ (len * (cx.T e).size > 2 ^ 24) := by omega
    by_cases hzero : len * (cx.T e).size = 0
    · have hr0 : row = #[] := by rw [hrowd, hzero]; exact map_range0 _
      rw [hr0] at r2
      simp only [Instr.buildSlice, Sem.run_bind, run_und hund, Result.andThen_ok, run_size ok hno, if_neg hno2, hzero, if_true, Sem.run_pure, map_range0, e2, r2, newRow]
      simp
    · rw [hrowd] at r2
      simp only [Instr.buildSlice, Sem.run_bind, run_und hund, Result.andThen_ok, run_size ok hno, if_neg hno2, hzero, if_false, Sem.run_pure, hz1, e2, r2, newRow]
      simp
  have E := ext_push (w' := w.alloc (.cells cs' e)) (b0 := w.heap.size) (d0 := 0) hn hR.used hR.frlt rfl
  have hnew := heap_new w (.cells cs' e)
  refine OpRes.new (ho := .arr (cx.T e).size els') (w' := w.alloc (.cells cs' e)) (o := .cells cs' e) hR hn r1 (run_v hrun) rfl ⟨rfl, rfl, rfl⟩ ?_ ?_
  · refine ⟨_, _, _, hnew, by simp, EsAt_of_flat r5 (CsAt_intro (VRs_ext E _ _ r3) r4 fun j v hj => ?_)⟩
    rw [cell_arr hnew, Nat.zero_add]
    simpa using hj
  · simp only [VR]
    exact ⟨w.heap.size, 0, 0, len, cs', e, (0, 0), Gam.add_same _ _ _ _, rfl, by omega, by simp, hnew, (by rw [hsz']; simp), rfl⟩
end
end Go.Hv

namespace Go.Hv
open Go
section
variable {cx : Cx} {Γ : Gam} {hh : List (Nat × HObj)} {used : Nat → Prop} {w : World} {nid : Nat}

theorem beq_bytes (a b : ByteArray) : (a == b) = (a.data == b.data) := rfl
theorem bytes_beq (s t : List UInt8) : ((⟨s.toArray⟩ : ByteArray) == ⟨t.toArray⟩) = (s == t) := by
  rw [beq_bytes]
  rw [Bool.eq_iff_iff, beq_iff_eq, beq_iff_eq]
  simp

theorem scalarK_spec (ok : CxOK cx) {t : Nat} {A : Prop} (h : scalarK (cx.T t).tk A) : A ∧ ∃ d, cx.P.underlying t = some d ∧ TKOK d (cx.T t).tk ∧ ((∃ k, d = .int k) ∨ d = .string ∨ d = .bool) := by
  unfold scalarK at h
  have hno : (cx.T t).tk ≠ .other := fun e => by rw [e] at h; exact h
  obtain ⟨i, d, _, h2, _, _, h5, _⟩ := tok ok hno
  cases e : (cx.T t).tk <;> rw [e] at h h5 <;> first | exact h.elim | skip
  · exact ⟨h, d, h2, h5, .inl ⟨_, h5⟩⟩
  · exact ⟨h, d, h2, h5, .inr (.inr h5)⟩
  · exact ⟨h, d, h2, h5, .inr (.inl h5)⟩

theorem keyEq_same {tk : TK} {d : TypeDesc} {a b : HVal} {u v : Value} {r : Bool} (hd : TKOK d tk) (ha : VR Γ w a u) (hb : VR Γ w b v) (h : keyEq tk a b = some r) : Instr.sameNow d u v = some r := by
  unfold keyEq at h
  split at h
  · simp only [VR] at ha hb; subst ha; subst hb
    simp only [TKOK] at hd; subst hd
    exact h
  · simp only [VR] at ha hb; subst ha; subst hb
    simp only [TKOK] at hd; subst hd
    simp only [Instr.sameNow, bytes_beq]; exact h
  · simp only [VR] at ha hb; subst ha; subst hb
    simp only [TKOK] at hd; subst hd
    exact h
  · cases h
theorem find_now {tk : TK} {d : TypeDesc} (hd : TKOK d tk) {key : HVal} {kv : Value} (hk : VR Γ w key kv) : ∀ {es : List (HVal × HVal)} {ents : List MapEntry} {r : Option HVal} (i : Nat), MR Γ w es ents → hfind tk key es = some r →
    (r = none ∧ Instr.findNow d kv ents i = some none) ∨ ∃ j v u, r = some v ∧ Instr.findNow d kv ents i = some (some (i + j, u)) ∧ VR Γ w v u ∧ j < ents.length
  | [], _, _, i, hm, h => by
    simp only [MR] at hm; subst hm
    simp only [hfind, Option.some.injEq] at h
    exact .inl ⟨h.symm, rfl⟩
  | (q, v) :: r', _, r, i, hm, h => by
    simp only [MR] at hm
    obtain ⟨e, s, rfl, h1, h2, h3⟩ := hm
    simp only [hfind] at h
    cases hq : keyEq tk key q with
    | none => rw [hq] at h; cases h
    | some b =>
      have hs := keyEq_same hd hk h1 hq
      rw [hq] at h
      cases b with
      | true =>
        simp only [Option.some.injEq] at h
        exact .inr ⟨0, v, e.val, h.symm, by simp [Instr.findNow, hs], h2, by simp⟩
      | false =>
        rcases find_now hd hk (i + 1) h3 h with ⟨g1, g2⟩ | ⟨j, x, u, g1, g2, g3, g4⟩
        · exact .inl ⟨g1, by simp [Instr.findNow, hs, g2]⟩
        · refine .inr ⟨j + 1, x, u, g1, ?_, g3, by simpa using g4⟩
          simp only [Instr.findNow, hs, g2]
          rw [show i + 1 + j = i + (j + 1) by omega]

theorem run_checkKey {P : Program} {t : Nat} {d : TypeDesc} (h : P.underlying t = some d) (hd : (∃ k, d = .int k) ∨ d = .string ∨ d = .bool) (e : Bool) (n : Nat) (v : Value) (w : World) : (Instr.checkKey e (n + 1) t v).run P w = .ok () w := by
  rcases hd with ⟨k, rfl⟩ | rfl | rfl <;> simp [Instr.checkKey, run_und h]
theorem run_findKey {P : Program} {t : Nat} {d : TypeDesc} (h : P.underlying t = some d) {kv : Value} {es : List MapEntry} {r : Option (Nat × Value)} (hf : Instr.findNow d kv es 0 = some r) (w : World) :
    (Instr.findKey t kv es).run P w = .ok r w := by
  simp [Instr.findKey, run_und h, hf]
theorem run_getMap {P : Program} {w : World} {r : Nat} {es : Array MapEntry} {clock : Nat} (hb : w.heap[r]? = some (.map es clock)) : (getObj r).run P w = .ok (.map es clock) w := by
  simp [getObj, Sem.run, hb]
theorem run_setMap {P : Program} {w : World} {r : Nat} {es : Array MapEntry} {clock : Nat} (o : Obj) (hb : w.heap[r]? = some (.map es clock)) : (setObj r o).run P w = .ok () { w with heap := w.heap.setIfInBounds r o } := by
  simp [setObj, Sem.run, hb]

theorem map_und (ok : CxOK cx) {t kt vt : Nat} (h : (cx.T t).tk = .map kt vt) : cx.P.underlying t = some (.map kt vt) := by
  obtain ⟨i, d, _, h2, _, _, h5, _⟩ := tok ok (t := t) (by rw [h]; simp)
  rw [h] at h5
  exact h5 ▸ h2

theorem map_at (hR : HR cx.toCx0 Γ hh used w) {id b : Nat} {δ : Nat} {es : List (HVal × HVal)} (hg : hget hh id = some (.map es)) (hρ : Γ.ρ id = some (b, δ)) :
    ∃ ents clock, w.heap[b]? = some (Obj.map ents clock) ∧ MR Γ w es ents.toList ∧ Born ents.toList clock := by
  obtain ⟨b', δ', h1, _, h2⟩ := hR.obj _ _ hg
  rw [hρ] at h1
  obtain ⟨rfl, rfl⟩ : b = b' ∧ δ = δ' := by simpa using h1
  exact h2

theorem MR_zip : ∀ {ks vs : List HVal} {es : List MapEntry}, VRs Γ w ks (es.map (·.key)) → VRs Γ w vs (es.map (·.val)) → MR Γ w (ks.zip vs) es
  | [], vs, es, h, _ => by
    simp only [VRs, List.map_eq_nil_iff] at h
    subst h
    simp [MR]
  | q :: ks, vs, es, h, g => by
    simp only [VRs] at h
    obtain ⟨a, r, e1, h1, h2⟩ := h
    cases es with
    | nil => cases e1
    | cons x es =>
      simp only [List.map_cons, List.cons.injEq] at e1
      obtain ⟨rfl, rfl⟩ := e1
      cases vs with
      | nil => simp only [VRs, List.map_cons] at g; cases g
      | cons v vs =>
        simp only [VRs, List.map_cons, List.cons.injEq] at g
        obtain ⟨b, s, ⟨rfl, rfl⟩, g1, g2⟩ := g
        exact ⟨x, es, rfl, h1, g1, MR_zip h2 g2⟩
theorem s_lookup (ok : CxOK cx) (hR : HR cx.toCx0 Γ hh used w) {t : Nat} {x y : Operand} {cok : Bool} {vs : List HVal} {u z : Value} {k : KT} (hu : VRs Γ w vs [u, z]) (hk : hopV cx (.lookup t x y cok) vs (hget hh) nid k) :
    OpRes cx (do pure (Next.value (← Instr.lookup t u z cok))) hh Γ used w nid k := by
  simp only [hopV] at hk
  split at hk
  · rename_i kt vt htk
    have hund := map_und ok htk
    obtain ⟨hno, hk⟩ := nO_spec hk
    obtain ⟨hk, d, hd1, hd2, hd3⟩ := scalarK_spec ok hk
    have main : ∀ {key : HVal} {b : Nat} {es : List (HVal × HVal)} {ents : Array MapEntry} {clock : Nat}, VR Γ w key z → u = .map (some b) → w.heap[b]? = some (Obj.map ents clock) → MR Γ w es ents.toList →
        ((∃ v, hfind (cx.T kt).tk key es = some (some v) ∧ k (bif cok then .tup [v, .bool true] else v) [] nid) ∨
              (hfind (cx.T kt).tk key es = some none ∧ k (bif cok then .tup [(cx.T vt).zero, .bool false] else (cx.T vt).zero) [] nid)) → OpRes cx (do pure (Next.value (← Instr.lookup t u z cok))) hh Γ used w nid k := by
      rintro key b es ents clock hz rfl h2 h3 hk
      obtain ⟨zv, hz1, hz2⟩ := run_zero ok hno
      rcases hk with ⟨v, hf, hk⟩ | ⟨hf, hk⟩
      · rcases find_now hd2 hz 0 h3 hf with ⟨g1, _⟩ | ⟨j, v', u, g1, g2, g3, _⟩
        · cases g1
        · obtain rfl := Option.some.inj g1
          have hrun : (Instr.lookup t (.map (some b)) z cok).run cx.P w = .ok (if cok then .tuple #[u, .bool true] else u) w := by
            simp [Instr.lookup, run_und hund, run_getMap h2, run_checkKey hd1 hd3 _ 9999, run_findKey hd1 g2]
          refine OpRes.pure hR hk (run_v hrun) ?_
          cases cok
          · simpa using g3
          · simp only [cond_true, if_true, VR]
            exact ⟨[u, .bool true], rfl, VRs_cons g3 (VRs_cons (by simp only [VR]) VRs_nil)⟩
      · rcases find_now hd2 hz 0 h3 hf with ⟨_, g2⟩ | ⟨j, v', u, g1, g2, g3, _⟩
        · have hrun : (Instr.lookup t (.map (some b)) z cok).run cx.P w = .ok (if cok then .tuple #[zv, .bool false] else zv) w := by
            simp [Instr.lookup, run_und hund, run_getMap h2, run_checkKey hd1 hd3 _ 9999, run_findKey hd1 g2, hz1]
          refine OpRes.pure hR hk (run_v hrun) ?_
          cases cok
          · simpa using hz2 Γ w
          · simp only [cond_true, if_true, VR]
            exact ⟨[zv, .bool false], rfl, VRs_cons (hz2 Γ w) (VRs_cons (by simp only [VR]) VRs_nil)⟩
        · cases g1
    split at hk
    · rename_i lf ks us key
      obtain ⟨_, _, e', hp, hz⟩ := VRs_two hu
      simp only [List.cons.injEq, and_true] at e'
      obtain ⟨rfl, rfl⟩ := e'
      simp only [VR] at hp
      obtain ⟨b, ents, clock, e1, _, h2, _, h3, h4⟩ := hp
      exact main hz e1 h2 (MR_zip h3 h4) hk
    · rename_i id key
      obtain ⟨_, _, e', hp, hz⟩ := VRs_two hu
      simp only [List.cons.injEq, and_true] at e'
      obtain ⟨rfl, rfl⟩ := e'
      split at hk
      · rename_i es hg
        simp only [VR] at hp
        obtain ⟨b, δ, h1, rfl⟩ := hp
        obtain ⟨ents, clock, h2, h3, hB⟩ := map_at hR hg h1
        exact main hz rfl h2 h3 hk
      · exact hk.elim
    · exact hk.elim
  · exact hk.elim

theorem sameBits_key {tk : TK} {a b : HVal} {u v : Value} (ha : VR Γ w a u) (hb : VR Γ w b v) (h : keyEq tk a b = some true) (n : Nat) : Instr.sameBits (n + 1) v u = true := by
  unfold keyEq at h
  split at h
  · simp only [VR] at ha hb; subst ha; subst hb
    split at h
    · rename_i e; subst e
      have := Option.some.inj h
      simp only [beq_iff_eq] at this
      simp [Instr.sameBits, this]
    · cases h
  · simp only [VR] at ha hb; subst ha; subst hb
    have := Option.some.inj h
    simp only [beq_iff_eq] at this
    simp [Instr.sameBits, this, beq_bytes]
  · simp only [VR] at ha hb; subst ha; subst hb
    have := Option.some.inj h
    simp only [beq_iff_eq] at this
    simp [Instr.sameBits, this]
  · cases h

theorem put_now {tk : TK} {d : TypeDesc} (hd : TKOK d tk) {key nv : HVal} {kv nu : Value} (hk : VR Γ w key kv) (hnv : VR Γ w nv nu) :
    ∀ {es es' : List (HVal × HVal)} {ents : List MapEntry} (i : Nat), MR Γ w es ents → hput tk key nv es = some es' →
    (Instr.findNow d kv ents i = some none ∧ ∀ c, MR Γ w es' (ents ++ [{ key := kv, val := nu, born := c }])) ∨
    ∃ j u e, Instr.findNow d kv ents i = some (some (i + j, u)) ∧ ents[j]? = some e ∧ Instr.sameBits 10000 e.key kv = true ∧ MR Γ w es' (ents.modify j fun e => { e with key := kv, val := nu })
  | [], es', _, i, hm, h => by
    simp only [MR] at hm; subst hm
    simp only [hput, Option.some.injEq] at h
    subst h
    exact .inl ⟨rfl, fun c => ⟨_, [], rfl, hk, hnv, rfl⟩⟩
  | (q, v) :: r', es', _, i, hm, h => by
    simp only [MR] at hm
    obtain ⟨e, s, rfl, h1, h2, h3⟩ := hm
    simp only [hput] at h
    cases hq : keyEq tk key q with
    | none => rw [hq] at h; cases h
    | some b =>
      have hs := keyEq_same hd hk h1 hq
      rw [hq] at h
      cases b with
      | true =>
        simp only [Option.some.injEq] at h
        subst h
        exact .inr ⟨0, e.val, e, by simp [Instr.findNow, hs], rfl, sameBits_key hk h1 hq 9999, ⟨_, s, rfl, hk, hnv, h3⟩⟩
      | false =>
        simp only [Option.map_eq_some_iff] at h
        obtain ⟨r2, h, rfl⟩ := h
        rcases put_now hd hk hnv (i + 1) h3 h with ⟨g1, g2⟩ | ⟨j, u, e', g1, g2, g3, g4⟩
        · exact .inl ⟨by simp [Instr.findNow, hs, g1], fun c => ⟨e, _, rfl, h1, h2, g2 c⟩⟩
        · refine .inr ⟨j + 1, u, e', ?_, by simpa using g2, g3, ⟨e, _, by simp [List.modify_succ_cons], h1, h2, g4⟩⟩
          simp only [Instr.findNow, hs, g1]
          rw [show i + 1 + j = i + (j + 1) by omega]

theorem Born_push {es : List MapEntry} {c : Nat} (h : Born es c) (e : MapEntry) (he : e.born = c) : Born (es ++ [e]) (c + 1) := by
  refine ⟨fun x hx => ?_, ?_⟩
  · rcases List.mem_append.1 hx with hx | hx
    · have := h.1 x hx; omega
    · simp only [List.mem_singleton] at hx; subst hx; omega
  · rw [List.map_append, List.nodup_append]
    refine ⟨h.2, by simp, fun a ha b hb => ?_⟩
    obtain ⟨x, hx, rfl⟩ := List.mem_map.1 ha
    simp only [List.map_cons, List.map_nil, List.mem_singleton] at hb
    have := h.1 x hx
    omega
theorem Born_of_map {es es' : List MapEntry} {c : Nat} (h : Born es c) (hs : es'.map (·.born) = es.map (·.born)) : Born es' c := by
  refine ⟨fun x hx => ?_, hs ▸ h.2⟩
  have : x.born ∈ es'.map (·.born) := List.mem_map.2 ⟨x, hx, rfl⟩
  rw [hs] at this
  obtain ⟨y, hy, e⟩ := List.mem_map.1 this
  rw [← e]; exact h.1 y hy
theorem map_modify_born {f : MapEntry → MapEntry} (hf : ∀ e, (f e).born = e.born) : ∀ (es : List MapEntry) (j : Nat), (es.modify j f).map (·.born) = es.map (·.born)
  | [], j => by simp
  | e :: r, 0 => by simp [hf]
  | e :: r, j + 1 => by simp [List.modify_succ_cons, map_modify_born hf r j]
theorem Born_modify {es : List MapEntry} {c : Nat} (h : Born es c) (j : Nat) {f : MapEntry → MapEntry} (hf : ∀ e, (f e).born = e.born) : Born (es.modify j f) c := Born_of_map h (map_modify_born hf es j)
theorem Born_erase {es : List MapEntry} {c : Nat} (h : Born es c) (j : Nat) : Born (es.eraseIdx j) c :=
  ⟨fun x hx => h.1 x ((List.eraseIdx_sublist es j).subset hx), h.2.sublist ((List.eraseIdx_sublist es j).map _)⟩

theorem drop_now {tk : TK} {d : TypeDesc} (hd : TKOK d tk) {key : HVal} {kv : Value} (hk : VR Γ w key kv) :
    ∀ {es es' : List (HVal × HVal)} {ents : List MapEntry} (i : Nat), MR Γ w es ents → hdrop tk key es = some es' →
    (Instr.findNow d kv ents i = some none ∧ MR Γ w es' ents) ∨ ∃ j u, Instr.findNow d kv ents i = some (some (i + j, u)) ∧ j < ents.length ∧ MR Γ w es' (ents.eraseIdx j)
  | [], es', _, i, hm, h => by
    simp only [MR] at hm; subst hm
    simp only [hdrop, Option.some.injEq] at h
    subst h
    exact .inl ⟨rfl, rfl⟩
  | (q, v) :: r', es', _, i, hm, h => by
    simp only [MR] at hm
    obtain ⟨e, s, rfl, h1, h2, h3⟩ := hm
    simp only [hdrop] at h
    cases hq : keyEq tk key q with
    | none => rw [hq] at h; cases h
    | some b =>
      have hs := keyEq_same hd hk h1 hq
      rw [hq] at h
      cases b with
      | true =>
        simp only [Option.some.injEq] at h
        subst h
        exact .inr ⟨0, e.val, by simp [Instr.findNow, hs], by simp, by simpa using h3⟩
      | false =>
        simp only [Option.map_eq_some_iff] at h
        obtain ⟨r2, h, rfl⟩ := h
        rcases drop_now hd hk (i + 1) h3 h with ⟨g1, g2⟩ | ⟨j, u, g1, g2, g3⟩
        · exact .inl ⟨by simp [Instr.findNow, hs, g1], ⟨e, _, rfl, h1, h2, g2⟩⟩
        · refine .inr ⟨j + 1, u, ?_, by simpa using g2, ⟨e, _, by simp, h1, h2, g3⟩⟩
          simp only [Instr.findNow, hs, g1]
          rw [show i + 1 + j = i + (j + 1) by omega]

theorem set_other (w : World) (b : Nat) (o : Obj) {b' : Nat} (h : b' ≠ b) : (w.heap.setIfInBounds b o)[b']? = w.heap[b']? := by
  rw [Array.getElem?_setIfInBounds_ne (Ne.symm h)]

theorem s_mapUpdate (ok : CxOK cx) (hR : HR cx.toCx0 Γ hh used w) {t : Nat} {x y z : Operand} {vs : List HVal} {a b c : Value} {k : KT} (hu : VRs Γ w vs [a, b, c]) (hk : hopV cx (.mapUpdate t x y z) vs (hget hh) nid k) :
    OpRes cx (do Instr.mapUpdate t a b c; pure Next.skip) hh Γ used w nid k := by
  simp only [hopV] at hk
  split at hk
  · rename_i kt vt htk
    have hund := map_und ok htk
    obtain ⟨hk, d, hd1, hd2, hd3⟩ := scalarK_spec ok hk
    split at hk
    · rename_i id key v
      obtain ⟨_, _, _, e', hp, hy, hz⟩ := VRs_three hu
      simp only [List.cons.injEq, and_true] at e'
      obtain ⟨rfl, rfl, rfl⟩ := e'
      split at hk
      · rename_i es hg
        obtain ⟨es', hput, hk⟩ := hk
        simp only [VR] at hp
        obtain ⟨bl, δ, h1, rfl⟩ := hp
        obtain ⟨ents, clock, h2, h3, hB⟩ := map_at hR hg h1
        have hlt := (Array.getElem?_eq_some_iff.1 h2).1
        have fin : ∀ (ents' : Array MapEntry) (clock' : Nat), MR Γ w es' ents'.toList → Born ents'.toList clock' → (Instr.mapUpdate t (.map (some bl)) b c).run cx.P w = .ok () { w with heap := w.heap.setIfInBounds bl (.map ents' clock') } →
            OpRes cx (do Instr.mapUpdate t (.map (some bl)) b c; pure Next.skip) hh Γ used w nid k := by
          intro ents' clock' hm hB' hrun
          obtain ⟨w', hw'⟩ : ∃ w' : World, w' = { w with heap := w.heap.setIfInBounds bl (.map ents' clock') } := ⟨_, rfl⟩
          have hh1 : w'.heap = w.heap.setIfInBounds bl (.map ents' clock') := by rw [hw']
          rw [← hw'] at hrun
          obtain ⟨q1, q2⟩ := set_block (w' := w') (ho := .map es') hR hg h1 (fun b' hb' => by rw [hh1]; exact set_other w bl _ hb') (by rw [hh1]; simp) (by subst hw'; exact ⟨rfl, rfl, rfl⟩)
            (fun arr T fz h0 => by rw [h2] at h0; cases h0) (fun E => ⟨ents', clock', by rw [hh1]; simp [hlt], MR_ext E _ _ hm, hB'⟩)
          exact ⟨hundef, _, nid, .skip, w', Γ, undef, hk, .inl rfl, by simp [hrun], .inr ⟨rfl, rfl⟩, by simp [hundef, VR, VRs, undef], q1.mono (fun _ h => .inl h), q2⟩
        rcases put_now hd2 hy hz 0 h3 hput with ⟨g1, g2⟩ | ⟨j, u, e, g1, g2, g3, g4⟩
        · refine fin (ents.push { key := b, val := c, born := clock }) (clock + 1) (by simpa using g2 clock) (by simpa using Born_push hB _ rfl) ?_
          simp [Instr.mapUpdate, run_und hund, run_getMap h2, run_checkKey hd1 hd3 _ 9999, run_findKey hd1 g1, run_setMap _ h2]
        · rw [Nat.zero_add] at g1
          refine fin (ents.modify j fun e => { e with key := b, val := c }) clock (by simpa using g4) (by simpa using Born_modify (f := fun e => { e with key := b, val := c }) hB j (fun _ => rfl)) ?_
          have hj : ents[j]? = some e := by simpa using g2
          simp [Instr.mapUpdate, run_und hund, run_getMap h2, run_checkKey hd1 hd3 _ 9999, run_findKey hd1 g1, hj, Instr.keyThatStays, g3, run_setMap _ h2]
      · exact hk.elim
    · exact hk.elim
  · exact hk.elim
theorem s_delete (ok : CxOK cx) (hR : HR cx.toCx0 Γ hh used w) {ats : List Nat} {ty : Nat} {vs : List HVal} {us : List Value} {k : KT} (hu : VRs Γ w vs us) (hk : hbuiltin cx .delete ats vs (hget hh) nid k) :
    OpRes cx (do pure (Next.value (← Builtin.delete_ ats.toArray ty us.toArray))) hh Γ used w nid k := by
  simp only [hbuiltin] at hk
  split at hk
  · rename_i t _ id key
    split at hk
    · rename_i kt vt htk
      have hund := map_und ok htk
      obtain ⟨hk, d, hd1, hd2, hd3⟩ := scalarK_spec ok hk
      obtain ⟨u, kv, rfl, hp, hy⟩ := VRs_two hu
      split at hk
      · rename_i es hg
        obtain ⟨es', hdr, hk⟩ := hk
        simp only [VR] at hp
        obtain ⟨bl, δ, h1, rfl⟩ := hp
        obtain ⟨ents, clock, h2, h3, hB⟩ := map_at hR hg h1
        have hlt := (Array.getElem?_eq_some_iff.1 h2).1
        have fin : ∀ (ents' : Array MapEntry), MR Γ w es' ents'.toList → Born ents'.toList clock → (Builtin.delete_ (t :: ‹List Nat›).toArray ty [Value.map (some bl), kv].toArray).run cx.P w = .ok (.tuple #[]) { w with heap := w.heap.setIfInBounds bl (.map ents' clock) } →
            OpRes cx (do pure (Next.value (← Builtin.delete_ (t :: ‹List Nat›).toArray ty [Value.map (some bl), kv].toArray))) hh Γ used w nid k := by
          intro ents' hm hB' hrun
          obtain ⟨w', hw'⟩ : ∃ w' : World, w' = { w with heap := w.heap.setIfInBounds bl (.map ents' clock) } := ⟨_, rfl⟩
          have hh1 : w'.heap = w.heap.setIfInBounds bl (.map ents' clock) := by rw [hw']
          rw [← hw'] at hrun
          obtain ⟨q1, q2⟩ := set_block (w' := w') (ho := .map es') hR hg h1 (fun b' hb' => by rw [hh1]; exact set_other w bl _ hb') (by rw [hh1]; simp) (by subst hw'; exact ⟨rfl, rfl, rfl⟩)
            (fun arr T fz h0 => by rw [h2] at h0; cases h0) (fun E => ⟨ents', clock, by rw [hh1]; simp [hlt], MR_ext E _ _ hm, hB'⟩)
          exact ⟨_, _, nid, _, w', Γ, _, hk, .inl rfl, run_v hrun, .inl rfl, by simp [VR, VRs], q1.mono (fun _ h => .inl h), q2⟩
        rcases drop_now hd2 hy 0 h3 hdr with ⟨g1, g2⟩ | ⟨j, u, g1, g2, g3⟩
        · refine fin ents g2 hB ?_
          simp [Builtin.delete_, run_und hund, run_getMap h2, run_checkKey hd1 hd3 _ 9999, run_findKey hd1 g1, run_setMap _ h2]
        · rw [Nat.zero_add] at g1
          refine fin (ents.eraseIdxIfInBounds j) (by simpa using g3) (by simpa using Born_erase hB j) ?_
          simp [Builtin.delete_, run_und hund, run_getMap h2, run_checkKey hd1 hd3 _ 9999, run_findKey hd1 g1, run_setMap _ h2]
      · exact hk.elim
    · exact hk.elim
  · exact hk.elim

theorem s_range (ok : CxOK cx) (hR : HR cx.toCx0 Γ hh used w) (hn : ¬ used nid) {t : Nat} {x : Operand} {vs : List HVal} {a : Value} {k : KT} (hu : VRs Γ w vs [a]) (hk : hopV cx (.range t x) vs (hget hh) nid k) :
    OpRes cx (do pure (Next.value (← Instr.range t a))) hh Γ used w nid k := by
  simp only [hopV] at hk
  split at hk
  · rename_i s htk
    obtain ⟨_, e, hs⟩ := VRs_one hu
    simp only [List.cons.injEq, and_true] at e
    subst e
    simp only [VR] at hs
    subst hs
    obtain ⟨i, d, hi, hd, _, _, hok, _⟩ := tok ok (t := t) (by rw [htk]; simp)
    rw [htk] at hok
    simp only [TKOK] at hok
    subst hok
    refine OpRes.new (ho := .siter s 0) (w' := w.alloc (.stringIter ⟨s.toArray⟩ 0)) (o := .stringIter ⟨s.toArray⟩ 0) hR hn hk (run_v (x := .pointer (some ⟨w.heap.size, 0, none⟩)) ?_) rfl ⟨rfl, rfl, rfl⟩ ?_ ?_
    · simp [Instr.range, run_und hd]
    · exact ⟨rfl, heap_new _ _⟩
    · simp only [VR]; exact ⟨_, _, Gam.add_same _ _ _ _, rfl⟩
  · rename_i kt vt id htk
    split at hk
    · rename_i es hg
      have hund := map_und ok htk
      obtain ⟨_, e, hs⟩ := VRs_one hu
      simp only [List.cons.injEq, and_true] at e
      subst e
      simp only [VR] at hs
      obtain ⟨b, δ, h1, rfl⟩ := hs
      obtain ⟨ents, clock, h2, h3, hB⟩ := map_at hR hg h1
      obtain ⟨f1, f2⟩ := freeze_block hR hg h1
      have E := ext_push (o := .mapIter (some b) clock #[] clock) (w' := w.alloc (.mapIter (some b) clock #[] clock)) (b0 := w.heap.size) (d0 := 0) hn f1.used f1.frlt rfl
      obtain ⟨g1, g2⟩ := new_block (w' := w.alloc (.mapIter (some b) clock #[] clock)) (ho := .miter es []) f1 hn rfl ⟨rfl, rfl, rfl⟩
        ⟨rfl, b, #[], clock, ents, clock, heap_new _ _, .inr ⟨rfl, rfl⟩, (push_lt rfl (hR.block_lt hg h1)).trans h2, hB, .inl rfl, by rw [List.filter_eq_self.2 (by simp)]; exact MR_ext (f2.toExt.trans E) _ _ h3, by simp⟩
      refine ⟨_, _, nid + 1, _, _, _, .pointer (some ⟨w.heap.size, 0, none⟩), hk, .inr rfl, run_v ?_, .inl rfl, ?_, g1, f2.trans g2⟩
      · simp [Instr.range, run_und hund, run_getMap h2]
      · simp only [VR]; exact ⟨_, _, Gam.add_same _ _ _ _, rfl⟩
    · exact hk.elim
  · exact hk.elim
theorem filter_born : ∀ (L : List MapEntry) (i : Nat) (e : MapEntry), (L.map (·.born)).Nodup → L[i]? = some e → L.filter (fun x => !(x.born == e.born)) = L.eraseIdx i
  | [], i, e, _, h => by simp at h
  | x :: r, 0, e, hn, h => by
    simp only [List.getElem?_cons_zero, Option.some.injEq] at h
    subst h
    simp only [List.map_cons, List.nodup_cons, List.mem_map, not_exists, not_and] at hn
    simp only [List.filter_cons, beq_self_eq_true, Bool.not_true, Bool.false_eq_true, if_false, List.eraseIdx_zero, List.tail_cons]
    rw [List.filter_eq_self]
    intro y hy
    have := hn.1 y hy
    simpa using this
  | x :: r, i + 1, e, hn, h => by
    simp only [List.getElem?_cons_succ] at h
    simp only [List.map_cons, List.nodup_cons, List.mem_map, not_exists, not_and] at hn
    have hne : (x.born == e.born) = false := by
      have := hn.1 e (List.mem_of_getElem? h)
      simpa using fun h => this h.symm
    simp only [List.filter_cons, hne, Bool.not_false, if_true, List.eraseIdx_cons_succ]
    rw [filter_born r i e hn.2 h]
theorem MR_get : ∀ {es : List (HVal × HVal)} {L : List MapEntry} {i : Nat} {e : MapEntry}, MR Γ w es L → L[i]? = some e → ∃ p, es[i]? = some p ∧ VR Γ w p.1 e.key ∧ VR Γ w p.2 e.val ∧ MR Γ w (es.eraseIdx i) (L.eraseIdx i)
  | [], L, i, e, h, hi => by simp only [MR] at h; subst h; simp at hi
  | (q, v) :: r, _, 0, e, h, hi => by
    obtain ⟨x, s, rfl, h1, h2, h3⟩ := h
    simp only [List.getElem?_cons_zero, Option.some.injEq] at hi
    subst hi
    exact ⟨(q, v), rfl, h1, h2, by simpa using h3⟩
  | (q, v) :: r, _, i + 1, e, h, hi => by
    obtain ⟨x, s, rfl, h1, h2, h3⟩ := h
    simp only [List.getElem?_cons_succ] at hi
    obtain ⟨p, g1, g2, g3, g4⟩ := MR_get h3 hi
    exact ⟨p, by simpa using g1, g2, g3, ⟨x, _, by simp, h1, h2, g4⟩⟩
theorem MR_nil_iff {es : List (HVal × HVal)} {L : List MapEntry} (h : MR Γ w es L) : es = [] ↔ L = [] := by
  cases es with
  | nil => simp only [MR] at h; simp [h]
  | cons x r => obtain ⟨e, s, rfl, _⟩ := h; simp
theorem run_mapNext {P : Program} {bl m clock last ty : Nat} {seen : Array Nat} {ents : Array MapEntry} (g1 : w.heap[bl]? = some (Obj.mapIter (some m) clock seen last)) (g3 : w.heap[m]? = some (Obj.map ents clock)) (hB : Born ents.toList clock)
    (hs : seen = #[] ∨ last = clock) :
    ((ents.toList.filter fun e => !seen.contains e.born) = [] ∧ (Instr.next (.pointer (some ⟨bl, 0, none⟩)) false ty).run P w = .ok (.tuple #[.bool false]) w) ∨
    ∃ (i : Nat) (e : MapEntry) (w1 : World), (ents.toList.filter fun e => !seen.contains e.born)[i]? = some e ∧ w1.heap = w.heap ∧ Like w w1 ∧
      (Instr.next (.pointer (some ⟨bl, 0, none⟩)) false ty).run P w = .ok (.tuple #[.bool true, e.key, e.val]) { w1 with heap := w1.heap.setIfInBounds bl (.mapIter (some m) clock (seen.push e.born) clock) } := by
  have hget : (getObj bl).run P w = .ok (.mapIter (some m) clock seen last) w := by simp [getObj, Sem.run, g1]
  have hgetm : (getObj m).run P w = .ok (.map ents clock) w := by simp [getObj, Sem.run, g3]
  have hgone : (!seen.isEmpty && !ents.isEmpty && ents.all (·.born ≥ last)) = false := by
    rcases hs with rfl | rfl
    · simp
    · cases hE : ents.isEmpty
      · have hne : ents.toList ≠ [] := by intro h0; simp [Array.isEmpty, ← Array.length_toList, h0] at hE
        obtain ⟨x, hx⟩ := List.exists_mem_of_ne_nil _ hne
        have hlt := hB.1 x hx
        have : ents.all (·.born ≥ last) = false := by
          rw [Bool.eq_false_iff]
          intro hall
          rw [Array.all_eq_true'] at hall
          have := hall x (by simpa using hx)
          simp at this
          omega
        simp [this]
      · simp
  obtain ⟨L, hL⟩ : ∃ L, L = ents.filter (fun e => !seen.contains e.born) := ⟨_, rfl⟩
  have hLl : L.toList = ents.toList.filter fun e => !seen.contains e.born := by rw [hL]; simp
  have hlt : ∀ e ∈ L.toList, e.born < clock := fun e he => hB.1 e (by rw [hLl] at he; exact (List.mem_filter.1 he).1)
  have hold : L.filter (fun e => decide (e.born < clock)) = L := by
    apply Array.ext'
    rw [Array.toList_filter]
    exact List.filter_eq_self.2 fun e he => by simpa using hlt e he
  have hnew : L.filter (fun e => decide (e.born ≥ clock)) = #[] := by
    apply Array.ext'
    rw [Array.toList_filter]
    exact List.filter_eq_nil_iff.2 fun e he => by have := hlt e he; simp; omega
  rw [← hLl]
  cases hl : L.toList with
  | nil =>
    refine .inl ⟨rfl, ?_⟩
    have hL0 : L = #[] := by apply Array.ext'; simpa using hl
    simp only [Instr.next, hget, hgetm, Sem.run_bind, Result.andThen_ok, hgone, Bool.false_eq_true, if_false, ← hL, hnew]
    rw [hold, hL0]
    simp [Question.forced]
  | cons x r =>
    have hne : L.isEmpty = false := by
      rw [Bool.eq_false_iff]; intro h0
      have : L = #[] := by simpa using h0
      rw [this] at hl; cases hl
    have hsz : L.size = r.length + 1 := by rw [← Array.length_toList, hl]; rfl
    have key : ∀ (i : Nat) (w1 : World), i < L.size → (choose (.mapNext L.size)).run P w = .ok i w1 → w1.heap = w.heap → Like w w1 → ∃ (i : Nat) (e : MapEntry) (w1 : World), (x :: r)[i]? = some e ∧ w1.heap = w.heap ∧ Like w w1 ∧
        (Instr.next (.pointer (some ⟨bl, 0, none⟩)) false ty).run P w = .ok (.tuple #[.bool true, e.key, e.val]) { w1 with heap := w1.heap.setIfInBounds bl (.mapIter (some m) clock (seen.push e.born) clock) } := by
      intro i w1 hi hc hw1 hlk
      refine ⟨i, L[i], w1, ?_, hw1, hlk, ?_⟩
      · rw [← hl]; simp [hi]
      · have hset : ∀ o, (setObj bl o).run P w1 = .ok () { w1 with heap := w1.heap.setIfInBounds bl o } := by
          intro o
          have : w1.heap[bl]? = some (Obj.mapIter (some m) clock seen last) := by rw [hw1]; exact g1
          simp [setObj, Sem.run, this]
        have hcand : (#[] ++ (L ++ #[]).map some : Array (Option MapEntry)) = L.map some := by simp
        simp only [Instr.next, hget, hgetm, Sem.run_bind, Result.andThen_ok, hgone, Bool.false_eq_true, if_false, ← hL, hold, hnew, hne, hcand, Array.size_map, hc]
        simp [hi, hset]
    refine .inr ?_
    by_cases h1 : L.size ≤ 1
    · refine key 0 w (by omega) ?_ rfl ⟨rfl, rfl, rfl⟩
      rw [run_choose_drew]; simp [Question.forced, h1]
    · refine key (w.tape w.drawn (.mapNext L.size) % L.size) w.drew (Nat.mod_lt _ (by omega)) ?_ rfl ⟨rfl, rfl, rfl⟩
      rw [run_choose_drew]; simp [Question.forced, h1, Question.cut]

theorem s_next (hR : HR cx.toCx0 Γ hh used w) {x : Operand} {b : Bool} {ty : Nat} {vs : List HVal} {a : Value} {k : KT} (hu : VRs Γ w vs [a]) (hk : hopV cx (.next x b) vs (hget hh) nid k) :
    OpRes cx (do pure (Next.value (← Instr.next a b ty))) hh Γ used w nid k := by
  simp only [hopV] at hk
  split at hk
  · rename_i id
    obtain ⟨_, e, hs⟩ := VRs_one hu
    simp only [List.cons.injEq, and_true] at e
    subst e
    split at hk
    · rename_i s pos hg
      simp only [VR] at hs
      obtain ⟨bl, δ, h1, rfl⟩ := hs
      obtain ⟨b', δ', h3, _, h4, h5⟩ := hR.obj _ _ hg
      rw [h1] at h3
      obtain ⟨rfl, rfl⟩ : bl = b' ∧ δ = δ' := by simpa using h3
      subst h4
      have hlt := (Array.getElem?_eq_some_iff.1 h5).1
      have hget : (getObj bl).run cx.P w = .ok (.stringIter ⟨s.toArray⟩ pos) w := by simp [getObj, Sem.run, h5]
      cases hb : Nat.blt pos s.length
      · have hge : ¬ pos < (⟨s.toArray⟩ : ByteArray).size := by
          intro h0
          have : Nat.blt pos s.length = true := Nat.ble_eq_true_of_le (show pos + 1 ≤ s.length from h0)
          rw [hb] at this; cases this
        refine OpRes.pure hR (hk.2 hb) (run_v (x := .tuple #[.bool false]) ?_) ?_
        · simp [Instr.next, hget, hge]
        · simp only [VR]; exact ⟨[.bool false], rfl, VRs_cons (by simp only [VR]) VRs_nil⟩
      · have hlt' : pos < (⟨s.toArray⟩ : ByteArray).size := Nat.le_of_ble_eq_true (show Nat.ble (pos + 1) s.length = true from hb)
        obtain ⟨w', hw'⟩ : ∃ w' : World, w' = { w with heap := w.heap.setIfInBounds bl (.stringIter ⟨s.toArray⟩ (pos + (Utf8.decode ⟨s.toArray⟩ pos).2)) } := ⟨_, rfl⟩
        have hh1 : w'.heap = w.heap.setIfInBounds bl (.stringIter ⟨s.toArray⟩ (pos + (Utf8.decode ⟨s.toArray⟩ pos).2)) := by rw [hw']
        obtain ⟨q1, q2⟩ := set_block (w' := w') (ho := .siter s (pos + (Utf8.decode ⟨s.toArray⟩ pos).2)) hR hg h1 (fun b' hb' => by rw [hh1]; exact set_other w bl _ hb') (by rw [hh1]; simp) (by subst hw'; exact ⟨rfl, rfl, rfl⟩)
          (fun arr T fz h0 => by rw [h5] at h0; cases h0) (fun E => ⟨rfl, by rw [hh1]; simp [hlt]⟩)
        have hset : (setObj bl (.stringIter ⟨s.toArray⟩ (pos + (Utf8.decode ⟨s.toArray⟩ pos).2))).run cx.P w = .ok () w' := by
          rw [hw']; simp [setObj, Sem.run, h5]
        refine ⟨_, _, nid, _, w', Γ, .tuple #[.bool true, goInt pos, .int .i32 (Utf8.decode ⟨s.toArray⟩ pos).1], hk.1 hb, .inl rfl, run_v ?_, .inl rfl, ?_, q1.mono (fun _ h => .inl h), q2⟩
        · simp [Instr.next, hget, hlt', hset]
        · simp only [VR]
          exact ⟨[.bool true, goInt pos, .int .i32 (Utf8.decode ⟨s.toArray⟩ pos).1], rfl, VRs_cons (by simp only [VR]) (VRs_cons (by simp only [VR, goInt]) (VRs_cons (by simp only [VR]) VRs_nil))⟩
    · exact hk.elim
  · rename_i id
    obtain ⟨_, e, hs⟩ := VRs_one hu
    simp only [List.cons.injEq, and_true] at e
    subst e
    split at hk
    · rename_i left cur hg
      simp only [VR] at hs
      obtain ⟨bl, δ, h1, rfl⟩ := hs
      obtain ⟨b', δ', h3, _, h4, m, seen, last, ents, clock, g1, g2, g3, g4, g5, g6, _⟩ := hR.obj _ _ hg
      rw [h1] at h3
      obtain ⟨rfl, rfl⟩ : bl = b' ∧ δ = δ' := by simpa using h3
      subst h4
      have hlt := (Array.getElem?_eq_some_iff.1 g1).1
      rcases run_mapNext (P := cx.P) (ty := ty) g1 g3 g4 g5 with ⟨hL, hrun⟩ | ⟨i, e, w1, hL, hw1, hlk, hrun⟩
      · rw [hL] at g6
        have : left = [] := (MR_nil_iff g6).2 rfl
        subst this
        refine OpRes.pure hR hk (run_v hrun) ?_
        simp only [VR]; exact ⟨[.bool false], rfl, VRs_cons (by simp only [VR]) VRs_nil⟩
      · obtain ⟨p, e1, e2, e3, e4⟩ := MR_get g6 hL
        have hne : left.isEmpty = false := by
          cases left with
          | nil => simp at e1
          | cons => rfl
        rw [hne] at hk
        have hk := hk i p e1
        obtain ⟨w', hw'⟩ : ∃ w' : World, w' = { w1 with heap := w1.heap.setIfInBounds bl (.mapIter (some m) clock (seen.push e.born) clock) } := ⟨_, rfl⟩
        have hh1 : w'.heap = w.heap.setIfInBounds bl (.mapIter (some m) clock (seen.push e.born) clock) := by rw [hw', ← hw1]
        rw [← hw'] at hrun
        have hmb : m ≠ bl := fun h0 => by rw [h0] at g3; rw [g1] at g3; cases g3
        have hfil : (ents.toList.filter fun x => !(seen.push e.born).contains x.born) = (ents.toList.filter fun x => !seen.contains x.born).eraseIdx i := by
          have hnd : ((ents.toList.filter fun x => !seen.contains x.born).map (·.born)).Nodup := g4.2.sublist (List.filter_sublist.map _)
          rw [← filter_born _ i e hnd hL, List.filter_filter]
          apply List.filter_congr
          intro x _
          rw [Array.contains_push, Bool.not_or, Bool.and_comm]
        obtain ⟨q1, q2⟩ := set_block (w' := w') (ho := .miter (left.eraseIdx i) [p]) hR hg h1 (fun b' hb' => by rw [hh1]; exact set_other w bl _ hb') (by rw [hh1]; simp) (by subst hw'; exact ⟨hlk.os, hlk.tape, hlk.output⟩)
          (fun arr T fz h0 => by rw [g1] at h0; cases h0) (fun E => ⟨rfl, m, seen.push e.born, clock, ents, clock, by rw [hh1]; simp [hlt], g2, by rw [hh1, set_other w bl _ hmb]; exact g3, g4, .inr rfl, by rw [hfil]; exact MR_ext E _ _ e4, fun p' hp' => by
            obtain rfl : p' = p := by simpa using hp'
            exact ⟨e, (List.mem_filter.1 (List.mem_of_getElem? hL)).1, by simp, rfl, VR_ext E _ _ e2, VR_ext E _ _ e3⟩⟩)
        refine ⟨_, _, nid, _, w', Γ, _, hk, .inl rfl, run_v hrun, .inl rfl, ?_, q1.mono (fun _ h => .inl h), q2⟩
        simp only [VR]
        exact ⟨[.bool true, e.key, e.val], rfl, VRs_cons (by simp only [VR]) (VRs_cons (VR_ext q2.toExt _ _ e2) (VRs_cons (VR_ext q2.toExt _ _ e3) VRs_nil))⟩
    · exact hk.elim
  · exact hk.elim
theorem s_entry (hR : HR cx.toCx0 Γ hh used w) {x : Operand} {vs : List HVal} {a : Value} {k : KT} (hu : VRs Γ w vs [a]) (hk : hopV cx (.entry x) vs (hget hh) nid k) :
    OpRes cx (do pure (Next.value (← Instr.entry a))) hh Γ used w nid k := by
  simp only [hopV] at hk
  split at hk
  · rename_i id
    obtain ⟨_, e, hs⟩ := VRs_one hu
    simp only [List.cons.injEq, and_true] at e
    subst e
    split at hk
    · rename_i left p hg
      simp only [VR] at hs
      obtain ⟨bl, δ, h1, rfl⟩ := hs
      obtain ⟨b', δ', h3, _, h4, m, seen, last, ents, clock, g1, g2, g3, g4, g5, g6, g7⟩ := hR.obj _ _ hg
      rw [h1] at h3
      obtain ⟨rfl, rfl⟩ : bl = b' ∧ δ = δ' := by simpa using h3
      subst h4
      obtain ⟨e, q1, q2, q3, q4, q5⟩ := g7 p (by simp)
      subst q3
      have hget : (getObj bl).run cx.P w = .ok (.mapIter (some m) last seen last) w := by simp [getObj, Sem.run, g1]
      have hgetm : (getObj m).run cx.P w = .ok (.map ents last) w := by simp [getObj, Sem.run, g3]
      have hfind : ents.find? (fun x => x.born == e.born) = some e := by
        rw [← Array.find?_toList]
        have : ∀ (L : List MapEntry), (L.map (·.born)).Nodup → e ∈ L → L.find? (fun x => x.born == e.born) = some e := by
          intro L
          induction L with
          | nil => intro _ h; cases h
          | cons x r ih =>
            intro hn hm
            simp only [List.map_cons, List.nodup_cons, List.mem_map, not_exists, not_and] at hn
            rcases List.mem_cons.1 hm with rfl | hm
            · simp
            · have hne : (x.born == e.born) = false := by
                have := hn.1 e hm
                simpa using fun h => this h.symm
              rw [List.find?_cons, hne]
              exact ih hn.2 hm
        exact this _ g4.2 q1
      refine OpRes.pure hR hk (run_v (x := .tuple #[e.key, e.val]) ?_) ?_
      · simp [Instr.entry, hget, hgetm, q2, hfind]
      · simp only [VR]
        exact ⟨[e.key, e.val], rfl, VRs_cons q4 (VRs_cons q5 VRs_nil)⟩
    · exact hk.elim
  · exact hk.elim
end
end Go.Hv
