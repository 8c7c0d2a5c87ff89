/- What is proved here: laws of an upper level over the model (values, heaps, operations, regions, calls), and an evaluator of closed calls that is sound. -/
import Derived.Laws.BytesArg
import Derived.Test.YtokjdgphhmddcaaGreatHvB
set_option linter.all false
namespace Go.Hv
open Go
section
variable {cx : Cx} {Γ : Gam} {hh : List (Nat × HObj)} {used : Nat → Prop} {w : World} {nid : Nat}

/-- The result of a computation that leaves the world alone. -/
def Pur1 (cx : Cx) (Γ : Gam) (w : World) (S : Sem Value) (k : HVal → Prop) : Prop := ∃ hv v, k hv ∧ S.run cx.P w = .ok v w ∧ VR Γ w hv v
theorem Pur1.res {S : Sem Value} {k : KT} (hR : HR cx.toCx0 Γ hh used w) (h : Pur1 cx Γ w S (fun v => k v [] nid)) : OpRes cx (do pure (Next.value (← S))) hh Γ used w nid k := by
  obtain ⟨hv, v, h1, h2, h3⟩ := h
  exact OpRes.pure hR h1 (run_v h2) h3
theorem VR_int {q : IntKind} {n : Int} : VR Γ w (.int q n) (.int q n) := by simp only [VR]
theorem VR_bool {b : Bool} : VR Γ w (.bool b) (.bool b) := by simp only [VR]
theorem VR_str {s : List UInt8} : VR Γ w (.str s) (.string ⟨s.toArray⟩) := by simp only [VR]

theorem wrap_i64 {n : Int} (h : -9223372036854775808 ≤ n ∧ n ≤ 9223372036854775807) : IntKind.i64.wrap n = n := by
  obtain ⟨h1, h2⟩ := h
  simp only [IntKind.wrap, IntKind.signed, IntKind.bits]
  simp
  omega

theorem int_bin (op : BinOp) (q : IntKind) (a b : Int) (hsh : op ≠ .shl ∧ op ≠ .shr) {k : HVal → Prop} (h : hintB op q a b k) (t : TypeId) : Pur1 cx Γ w (binOp op t (.int q a) (.int q b)) k := by
  cases op with
  | add =>
    simp only [hintB] at h
    split at h
    · exact ⟨_, _, h.2, by simp [binOp, Op.intArith, wrap_i64 h.1], VR_int⟩
    · exact ⟨_, _, h, by simp [binOp, Op.intArith], VR_int⟩
  | sub =>
    simp only [hintB] at h
    split at h
    · exact ⟨_, _, h.2, by simp [binOp, Op.intArith, wrap_i64 h.1], VR_int⟩
    · exact ⟨_, _, h, by simp [binOp, Op.intArith], VR_int⟩
  | mul =>
    simp only [hintB] at h
    split at h
    · exact ⟨_, _, h.2, by simp [binOp, Op.intArith, wrap_i64 h.1], VR_int⟩
    · exact ⟨_, _, h, by simp [binOp, Op.intArith], VR_int⟩
  | quo =>
    simp only [hintB] at h
    split at h
    · obtain ⟨⟨h0, h1, h2⟩, h⟩ := h
      have e : a.tdiv b = a / b := Int.tdiv_eq_ediv_of_nonneg h0
      have h3 : 0 ≤ a / b := Int.ediv_nonneg h0 (by omega)
      have h4 : a / b ≤ a := Int.ediv_le_self b h0
      exact ⟨_, _, h, by simp [binOp, Op.intDiv, show b ≠ 0 by omega, e, wrap_i64 (n := a / b) ⟨by omega, by omega⟩], VR_int⟩
    · exact ⟨_, _, h.2, by simp [binOp, Op.intDiv, h.1], VR_int⟩
  | rem =>
    simp only [hintB] at h
    split at h
    · obtain ⟨⟨h0, h1⟩, h⟩ := h
      have e : a.tmod b = a % b := Int.tmod_eq_emod_of_nonneg h0
      exact ⟨_, _, h, by simp [binOp, Op.intDiv, show b ≠ 0 by omega, e], VR_int⟩
    · exact ⟨_, _, h.2, by simp [binOp, Op.intDiv, h.1], VR_int⟩
  | and => exact ⟨_, _, h, by simp [binOp, Op.intBits], VR_int⟩
  | or => exact ⟨_, _, h, by simp [binOp, Op.intBits], VR_int⟩
  | xor => exact ⟨_, _, h, by simp [binOp, Op.intBits], VR_int⟩
  | andNot => exact ⟨_, _, h, by simp [binOp, Op.intBits], VR_int⟩
  | eql => exact ⟨_, _, h, by simp [binOp, Op.intCmp], VR_bool⟩
  | neq => exact ⟨_, _, h, by simp [binOp, Op.intCmp], VR_bool⟩
  | lss => exact ⟨_, _, h, by simp [binOp, Op.intCmp], VR_bool⟩
  | leq => exact ⟨_, _, h, by simp [binOp, Op.intCmp], VR_bool⟩
  | gtr => exact ⟨_, _, h, by simp [binOp, Op.intCmp], VR_bool⟩
  | geq => exact ⟨_, _, h, by simp [binOp, Op.intCmp], VR_bool⟩
  | shl => exact absurd rfl hsh.1
  | shr => exact absurd rfl hsh.2

theorem mk_list (s : List UInt8) : (⟨s.toArray⟩ : ByteArray).toList = s := by rw [ByteArray.toList_eq]
theorem mk_size (s : List UInt8) : (⟨s.toArray⟩ : ByteArray).size = s.length := by simp [ByteArray.size]
theorem mk_append (s t : List UInt8) : (⟨s.toArray⟩ : ByteArray) ++ ⟨t.toArray⟩ = ⟨(s ++ t).toArray⟩ := by
  apply ByteArray.ext
  rw [ByteArray.data_append]
  simp

theorem str_bin (op : BinOp) (a b : List UInt8) {k : HVal → Prop} (h : hstrB op a b k) (t : TypeId) : Pur1 cx Γ w (binOp op t (.string ⟨a.toArray⟩) (.string ⟨b.toArray⟩)) k := by
  cases op <;> first | exact h.elim | skip
  case add =>
    refine ⟨_, _, h.2, ?_, VR_str⟩
    have : ¬ ((((⟨a.toArray⟩ : ByteArray).size + (⟨b.toArray⟩ : ByteArray).size : Nat) : Int) > IntKind.i64.max) := by
      rw [mk_size, mk_size]; have := h.1; simp [IntKind.max, IntKind.signed, IntKind.bits]; omega
    simp only [binOp, Op.stringOp, if_neg this, mk_append, Sem.run_pure]
  all_goals exact ⟨_, _, h, by simp [binOp, Op.stringOp, mk_list], VR_bool⟩

theorem eqGuard_plain {op : BinOp} {t : TypeId} {x y : Operand} {a b : Value} (h : (∀ c, a ≠ .agg c) ∧ a ≠ .nilIface) (w : World) : (eqGuard op t x y a b).run cx.P w = .ok () w := by
  obtain ⟨h1, h2⟩ := h
  cases op <;> first | rfl | (cases a <;> first | rfl | (exact absurd rfl h2) | (exact absurd rfl (h1 _)))

theorem equal_succ (t : TypeId) (x y : Value) : Op.equal t x y = Op.equalIn (9999 + 1) t x y := rfl
theorem und_slice {t : Nat} {e : Nat} (h : cx.P.underlying t = some (.slice e)) (b : Option Addr) (n c : Nat) (w : World) :
    (Op.equal t (.slice b n c) (.slice none 0 0)).run cx.P w = .ok b.isNone w := by
  rw [equal_succ]
  generalize 9999 = m
  cases b <;> simp [Op.equalIn, run_und h]
theorem und_ptr {t : Nat} {e : Nat} (h : cx.P.underlying t = some (.pointer e)) (b : Option Addr) (w : World) : (Op.equal t (.pointer b) (.pointer none)).run cx.P w = .ok b.isNone w := by
  rw [equal_succ]
  generalize 9999 = m
  cases b <;> simp [Op.equalIn, run_und h]
theorem und_bool {t : Nat} (h : cx.P.underlying t = some .bool) (a b : Bool) (w : World) : (Op.equal t (.bool a) (.bool b)).run cx.P w = .ok (a == b) w := by
  rw [equal_succ]
  generalize 9999 = m
  simp [Op.equalIn, run_und h]

theorem tk_und (ok : CxOK cx) {t : Nat} (h : (cx.T t).tk ≠ .other) : ∃ d, cx.P.underlying t = some d ∧ TKOK d (cx.T t).tk := by
  obtain ⟨i, d, _, h2, _, _, h5, _⟩ := tok ok h
  exact ⟨d, h2, h5⟩
theorem eq_or {op : BinOp} {t : TypeId} {x y : Value} {r : Bool} {k : HVal → Prop} (h : eqOr op r k) (hx : ∀ w, (Op.equal t x y).run cx.P w = .ok r w)
    (hb : (op = .eql → binOp .eql t x y = do pure (.bool (← Op.equal t x y))) ∧ (op = .neq → binOp .neq t x y = do pure (.bool (!(← Op.equal t x y))))) : Pur1 cx Γ w (binOp op t x y) k := by
  cases op <;> first | exact h.elim | skip
  · refine ⟨_, _, h, ?_, VR_bool⟩
    rw [hb.1 rfl]; simp [hx w]
  · refine ⟨_, _, h, ?_, VR_bool⟩
    rw [hb.2 rfl]; simp [hx w]

theorem und_iface {t : Nat} {ms : Array (String × TypeId)} (h : cx.P.underlying t = some (.interface ms)) (w : World) : (Op.equal t .nilIface .nilIface).run cx.P w = .ok true w ∧ ∀ u v, (Op.equal t (.iface u v) .nilIface).run cx.P w = .ok false w := by
  rw [equal_succ]
  refine ⟨?_, fun u v => ?_⟩
  · generalize 9999 = m
    simp [Op.equalIn, run_und h]
  · rw [equal_succ]
    generalize 9999 = m
    simp [Op.equalIn, run_und h]
theorem s_binOp (ok : CxOK cx) (hR : HR cx.toCx0 Γ hh used w) {op : BinOp} {t t' : Nat} {x y : Operand} {ρ : Operand → Value} (hρ : ∀ v, ρ (.const v) = v) {vs : List HVal} {k : KT} (hu : VRs Γ w vs [ρ x, ρ y])
    (hk : hopV cx (.binOp op t x y t') vs (hget hh) nid k) : OpRes cx (do pure (Next.value (← (do eqGuard op t x y (ρ x) (ρ y); binOp op t (ρ x) (ρ y))))) hh Γ used w nid k := by
  simp only [hopV] at hk
  split at hk
  · rename_i a b
    obtain ⟨_, _, e', ha, hb⟩ := VRs_two hu
    simp only [List.cons.injEq, and_true] at e'
    obtain ⟨e1, e2⟩ := e'
    rw [← e1] at ha
    rw [← e2] at hb
    have guard : ((∀ c, ρ x ≠ .agg c) ∧ ρ x ≠ .nilIface) → Pur1 cx Γ w (binOp op t (ρ x) (ρ y)) (fun v => k v [] nid) →
        OpRes cx (do pure (Next.value (← (do eqGuard op t x y (ρ x) (ρ y); binOp op t (ρ x) (ρ y))))) hh Γ used w nid k := by
      intro hg hp
      refine Pur1.res hR ?_
      obtain ⟨hv, v, h1, h2, h3⟩ := hp
      exact ⟨hv, v, h1, by simp only [Sem.run_bind, eqGuard_plain hg, Result.andThen_ok, h2], h3⟩
    unfold hbinB at hk
    split at hk
    · -- ints
      rename_i q m q' n
      simp only [VR] at ha hb
      refine guard (by rw [ha]; simp) ?_
      rw [ha, hb]
      split at hk
      · refine ⟨_, _, hk.2, ?_, VR_int⟩
        simp only [binOp, Op.shift, if_neg (show ¬ n < 0 by omega), Sem.run_pure]
      · refine ⟨_, _, hk.2, ?_, VR_int⟩
        simp only [binOp, Op.shift, if_neg (show ¬ n < 0 by omega), Sem.run_pure]
      · rename_i h1 h2
        obtain ⟨rfl, hk⟩ := hk
        exact int_bin op q m n ⟨h1, h2⟩ hk t
    · simp only [VR] at ha hb
      refine guard (by rw [ha]; simp) ?_
      rw [ha, hb]
      exact str_bin op _ _ hk t
    · simp only [VR] at ha hb
      refine guard (by rw [ha]; simp) ?_
      rw [ha, hb]
      obtain ⟨h0, hk⟩ := nonOther_bif hk
      have htk : (cx.T t).tk = .bool := by revert h0; cases (cx.T t).tk <;> simp [isBoolT]
      obtain ⟨d, g1, g2⟩ := tk_und ok (t := t) (by rw [htk]; simp)
      rw [htk] at g2
      obtain rfl := g2
      exact eq_or hk (und_bool g1 _ _) ⟨fun _ => rfl, fun _ => rfl⟩
    · -- structs and arrays
      rename_i xs ys
      split at hk <;> first | exact hk.elim | skip
      rename_i ts hts
      split at hk <;> first | exact hk.elim | skip
      rename_i r hr
      obtain ⟨hg, heq⟩ := ok.eqs t ts hts
      simp only [VR] at ha hb
      obtain ⟨us, ha, _, hus⟩ := ha
      obtain ⟨us', hb, _, hus'⟩ := hb
      have hrun : ∀ w0 : World, w0 = w → (Op.equal t (ρ x) (ρ y)).run cx.P w0 = .ok r w0 := fun w0 h0 => by rw [h0, ha, hb]; exact heq xs ys us us' Γ w r hr hus hus'
      have hgd : (eqGuard op t x y (ρ x) (ρ y)).run cx.P w = .ok () w := by
        rw [ha, hb]
        cases op <;> first | rfl | (simp [eqGuard, hg])
      refine Pur1.res hR ?_
      cases op <;> first | exact hk.elim | skip
      · refine ⟨_, _, hk, ?_, VR_bool⟩
        rw [Sem.run_bind, hgd, Result.andThen_ok, ha, hb]
        have := hrun w rfl
        rw [ha, hb] at this
        simp [binOp, this]
      · refine ⟨_, _, hk, ?_, VR_bool⟩
        rw [Sem.run_bind, hgd, Result.andThen_ok, ha, hb]
        have := hrun w rfl
        rw [ha, hb] at this
        simp [binOp, this]
    · -- nil interfaces
      simp only [VR] at ha hb
      obtain ⟨h0, hk⟩ := nonOther_bif hk
      simp only [Bool.and_eq_true] at h0
      have htk : (cx.T t).tk = .iface := by have := h0.1; revert this; cases (cx.T t).tk <;> simp [isIfaceT]
      obtain ⟨d, g1, g2⟩ := tk_und ok (t := t) (by rw [htk]; simp)
      rw [htk] at g2
      obtain ⟨ms, rfl⟩ := g2
      have hgd : (eqGuard op t x y (ρ x) (ρ y)).run cx.P w = .ok () w := by
        have h1 := h0.2
        unfold isNilIface at h1
        split at h1
        · rw [ha, hb]; cases op <;> first | rfl | simp [eqGuard]
        · cases h1
      refine Pur1.res hR ?_
      obtain ⟨hv, v, q1, q2, q3⟩ : Pur1 cx Γ w (binOp op t .nilIface .nilIface) (fun v => k v [] nid) := eq_or hk (fun w => (und_iface g1 w).1) ⟨fun _ => rfl, fun _ => rfl⟩
      exact ⟨hv, v, q1, by rw [Sem.run_bind, hgd, Result.andThen_ok, ha, hb]; exact q2, q3⟩
    · obtain ⟨h0, hk⟩ := nonOther_bif hk
      have htk : (cx.T t).tk = .iface := by revert h0; cases (cx.T t).tk <;> simp [isIfaceT]
      obtain ⟨d, g1, g2⟩ := tk_und ok (t := t) (by rw [htk]; simp)
      rw [htk] at g2
      obtain ⟨ms, rfl⟩ := g2
      simp only [VR] at ha hb
      obtain ⟨u, ha, _⟩ := ha
      refine guard (by rw [ha]; simp) ?_
      rw [ha, hb]
      exact eq_or hk (fun w => (und_iface g1 w).2 _ _) ⟨fun _ => rfl, fun _ => rfl⟩
    · simp only [VR] at ha hb
      refine guard (by rw [ha]; simp) ?_
      rw [ha, hb]
      obtain ⟨h0, hk⟩ := nonOther_bif hk
      obtain ⟨e, htk⟩ : ∃ e, (cx.T t).tk = .ptr e := by revert h0; cases (cx.T t).tk <;> simp [isPtrT]
      obtain ⟨d, g1, g2⟩ := tk_und ok (t := t) (by rw [htk]; simp)
      rw [htk] at g2
      obtain rfl := g2
      exact eq_or hk (und_ptr g1 none) ⟨fun _ => rfl, fun _ => rfl⟩
    · obtain ⟨h0, hk⟩ := nonOther_bif hk
      simp only [Bool.and_eq_true] at h0
      obtain ⟨e, htk⟩ : ∃ e, (cx.T t).tk = .slice e := by revert h0; cases (cx.T t).tk <;> simp [isSliceT]
      obtain ⟨d, g1, g2⟩ := tk_und ok (t := t) (by rw [htk]; simp)
      rw [htk] at g2
      obtain rfl := g2
      have hy : ρ y = .slice none 0 0 := by
        revert h0
        unfold isNilSlice
        split
        · intro _; exact hρ _
        · simp
      simp only [VR] at ha
      obtain ⟨hc1, hc0⟩ := hk
      rcases ha with ⟨rfl, ha⟩ | ⟨bb, o, cap, ha, _⟩
      · refine guard (by rw [ha]; simp) ?_
        rw [ha, hy]
        exact eq_or (hc1 rfl).1 (und_slice g1 none 0 0) ⟨fun _ => rfl, fun _ => rfl⟩
      · refine guard (by rw [ha]; simp) ?_
        rw [ha, hy]
        refine eq_or (r := false) ?_ (und_slice g1 (some _) _ _) ⟨fun _ => rfl, fun _ => rfl⟩
        refine Classical.byCases (fun hE => (hc1 hE).2) (fun hE => hc0 ?_)
        simpa using hE
    · obtain ⟨h0, hk⟩ := nonOther_bif hk
      simp only [Bool.and_eq_true] at h0
      obtain ⟨e, htk⟩ : ∃ e, (cx.T t).tk = .slice e := by revert h0; cases (cx.T t).tk <;> simp [isSliceT]
      obtain ⟨d, g1, g2⟩ := tk_und ok (t := t) (by rw [htk]; simp)
      rw [htk] at g2
      obtain rfl := g2
      have hy : ρ y = .slice none 0 0 := by
        revert h0
        unfold isNilSlice
        split
        · intro _; exact hρ _
        · simp
      simp only [VR] at ha
      obtain ⟨_, _, _, _, _, _, _, _, ha, _⟩ := ha
      refine guard (by rw [ha]; simp) ?_
      rw [ha, hy]
      exact eq_or hk (und_slice g1 (some _) _ _) ⟨fun _ => rfl, fun _ => rfl⟩
    · obtain ⟨h0, hk⟩ := nonOther_bif hk
      simp only [Bool.and_eq_true] at h0
      obtain ⟨e, htk⟩ : ∃ e, (cx.T t).tk = .ptr e := by revert h0; cases (cx.T t).tk <;> simp [isPtrT]
      obtain ⟨d, g1, g2⟩ := tk_und ok (t := t) (by rw [htk]; simp)
      rw [htk] at g2
      obtain rfl := g2
      simp only [VR] at hb
      obtain ⟨ad, had⟩ : ∃ ad, ρ x = .pointer (some ad) := by
        have h1 := h0.2
        unfold isPtr at h1
        split at h1
        · simp only [VR] at ha; obtain ⟨_, _, _, h⟩ := ha; exact ⟨_, h⟩
        · simp only [VR] at ha; obtain ⟨_, _, _, h⟩ := ha; exact ⟨_, h⟩
        · simp only [VR] at ha; obtain ⟨_, _, h, _⟩ := ha; exact ⟨_, h⟩
        · cases h1
      refine guard (by rw [had]; simp) ?_
      rw [had, hb]
      exact eq_or hk (und_ptr g1 (some ad)) ⟨fun _ => rfl, fun _ => rfl⟩
    · exact hk.elim
  · exact hk.elim

theorem s_makeIface (ok : CxOK cx) (hR : HR cx.toCx0 Γ hh used w) {t : Nat} {v : HVal} {u : Value} {k : KT} (hu : VR Γ w v u) (hk : match (cx.T t).tk with | .other | .iface => False | _ => k (.iface t v) [] nid) :
    OpRes cx (do pure (Next.value (← Instr.makeInterface t u))) hh Γ used w nid k := by
  have hno : (cx.T t).tk ≠ .other := fun e => by rw [e] at hk; exact hk
  have hni : (cx.T t).tk ≠ .iface := fun e => by rw [e] at hk; exact hk
  have hk' : k (.iface t v) [] nid := by
    revert hk hno hni
    generalize (cx.T t).tk = q
    cases q <;> simp
  obtain ⟨d, g1, g2⟩ := tk_und ok hno
  refine OpRes.pure hR hk' (run_v (x := .iface t u) ?_) (by simp only [VR]; exact ⟨u, rfl, hu⟩)
  have hd : ∀ ms, d ≠ .interface ms := by
    intro ms e
    subst e
    revert g2 hno hni
    generalize (cx.T t).tk = q
    cases q <;> simp [TKOK]
  cases d <;> first | exact absurd rfl (hd _) | simp [Instr.makeInterface, run_und g1]

theorem s_unOp (hR : HR cx.toCx0 Γ hh used w) {op : UnOp} {t : Nat} {x : Operand} {vs : List HVal} {u : Value} {k : KT} (hu : VRs Γ w vs [u]) (hk : hopV cx (.unOp op t x) vs (hget hh) nid k) :
    OpRes cx (do pure (Next.value (← Op.unary op u))) hh Γ used w nid k := by
  simp only [hopV] at hk
  split at hk
  · obtain ⟨_, e', ha⟩ := VRs_one hu
    obtain rfl : u = _ := by simpa using e'
    simp only [VR] at ha
    subst ha
    exact OpRes.pure hR hk (run_v (by simp [Op.unary])) VR_bool
  · rename_i q n
    obtain ⟨_, e', ha⟩ := VRs_one hu
    obtain rfl : u = _ := by simpa using e'
    simp only [VR] at ha
    subst ha
    simp only [hintB] at hk
    exact OpRes.pure hR hk (run_v (by simp [Op.unary, Op.intBits])) VR_int
  · obtain ⟨_, e', ha⟩ := VRs_one hu
    obtain rfl : u = _ := by simpa using e'
    simp only [VR] at ha
    subst ha
    refine OpRes.pure hR hk.2 (run_v ?_) VR_int
    simp only [Op.unary, Op.intArith, Sem.run_pure]
    rw [wrap_i64 (by omega)]
    simp
  · exact hk.elim
end
end Go.Hv

namespace Go.Hv
open Go
section
variable {cx : Cx} {Γ : Gam} {hh : List (Nat × HObj)} {used : Nat → Prop} {w : World} {nid : Nat}

theorem cell_heap {w w' : World} (h : w'.heap = w.heap) (a : Addr) : w'.cell? a = w.cell? a := by simp [World.cell?, h]
theorem run_loadCellsAt {P : Program} {b o : Nat} {vs : List Value} (h : ∀ i v, vs[i]? = some v → w.cell? ⟨b, o + i, none⟩ = some v) (n : Nat) (hn : n ≤ vs.length) {w' : World} (hw : w'.heap = w.heap) :
    (loadCells ⟨b, o, none⟩ n).run P w' = .ok (vs.take n).toArray w' := by
  have := run_loadCells_list (P := P) w' ⟨b, o, none⟩ (vs.take n) (fun j v hj => by
    rw [add_none]
    rw [List.getElem?_take] at hj
    split at hj
    · rw [cell_heap hw]; exact h j v hj
    · cases hj)
  rwa [show (vs.take n).length = n by simp; omega] at this

theorem arr_at (hR : HR cx.toCx0 Γ hh used w) {id b δ es : Nat} {elems : List (List HVal)} (hg : hget hh id = some (.arr es elems)) (hρ : Γ.ρ id = some (b, δ)) :
    (∀ l, ¬ Γ.fr l b) ∧ ∃ (arr : Array Value) (T : TypeId) (fz : Nat × Nat), w.heap[b]? = some (Obj.cells arr T fz) ∧ (∀ o, o < arr.size → (fz.1 ≤ o && o < fz.2) = false) ∧ EsAt Γ w b δ es elems := by
  obtain ⟨b', δ', h1, h0, h2⟩ := hR.obj _ _ hg
  rw [hρ] at h1
  obtain ⟨rfl, rfl⟩ : b = b' ∧ δ = δ' := by simpa using h1
  exact ⟨h0, h2⟩

/-- What append and copy read. -/
theorem src_spec (hR : HR cx.toCx0 Γ hh used w) {sz : Nat} {v : HVal} {u : Value} {k : List (List HVal) → Prop} (hv : VR Γ w v u) (h : srcK sz (hget hh) v k) :
    ∃ els vs, k els ∧ VRs Γ w els.flatten vs ∧ (∀ x ∈ vs, x.oneCell' = true) ∧ (∀ e ∈ els, e.length = sz) ∧ (∀ w', (Builtin.lenOf u).run cx.P w' = .ok els.length w') ∧
      ∀ n w', w'.heap = w.heap → n ≤ els.length → (Builtin.firstCells sz n u).run cx.P w' = .ok (vs.take (n * sz)).toArray w' := by
  unfold srcK at h
  split at h
  · rename_i lf es f elems
    obtain ⟨hes, hk⟩ := h
    simp only [VR] at hv
    rcases hv with ⟨rfl, rfl⟩ | ⟨b, o, cap, rfl, h2, h3, h4, h5⟩
    · refine ⟨[], [], hk, by simp [VRs], by simp, by simp, fun w' => by simp [Builtin.lenOf], fun n w' hw hn => ?_⟩
      simp at hn; subst hn
      simp [Builtin.firstCells]
    · obtain ⟨vs, g1, g2, g3⟩ := CsAt_elim (EsAt_flat h5)
      have hlen := EsAt_len h5
      have hl2 := VRs_length g1
      have hall : ∀ e ∈ elems, e.length = sz := by
        rcases hes with rfl | rfl
        · exact hlen.2
        · simp
      have hf := flat_len hall
      refine ⟨elems, vs, hk, g1, g2, hall, fun w' => by simp [Builtin.lenOf], fun n w' hw hn => ?_⟩
      have hle : n * sz ≤ elems.length * sz := Nat.mul_le_mul_right _ hn
      simp only [Builtin.firstCells]
      exact run_loadCellsAt g3 (n * sz) (by omega) hw
  · rename_i id es i len cp
    split at h
    · rename_i es' elems hg
      obtain ⟨⟨rfl, rfl, hil⟩, hk⟩ := h
      simp only [VR] at hv
      obtain ⟨b, δ, o, cap, arr, T, fz, h1, rfl, h2, h3, h4, h5, _⟩ := hv
      obtain ⟨_, arr', T', fz', q1, q2, q3⟩ := arr_at hR hg h1
      have hE := EsAt_take len (EsAt_drop i q3)
      obtain ⟨vs, g1, g2, g3⟩ := CsAt_elim (EsAt_flat hE)
      have hlen := EsAt_len hE
      have hl2 := VRs_length g1
      have hll : ((elems.drop i).take len).length = len := by simp; omega
      refine ⟨_, vs, hk, g1, g2, hlen.2, fun w' => by simp only [Builtin.lenOf, Sem.run_pure, hll], fun n w' hw hn => ?_⟩
      have hle : n * es' ≤ ((elems.drop i).take len).length * es' := Nat.mul_le_mul_right _ hn
      simp only [Builtin.firstCells]
      rcases Nat.eq_zero_or_pos cap with h0 | h0
      · have : n = 0 := by omega
        subst this
        have := run_loadCellsAt (P := cx.P) (b := b) (o := o) (w := w) (vs := []) (by simp) 0 (by simp) hw
        simpa using this
      · rw [h3 h0]
        exact run_loadCellsAt g3 (n * es') (by omega) hw
    · exact h.elim
  · rename_i s
    obtain ⟨rfl, hk⟩ := h
    simp only [VR] at hv
    subst hv
    refine ⟨_, s.map fun b => .int .u8 b.toNat, hk, ?_, by simp [Value.oneCell'], by simp, fun w' => by simp [Builtin.lenOf, mk_size], fun n w' hw hn => ?_⟩
    · clear hk
      induction s with
      | nil => simp [VRs]
      | cons b s ih => simp only [List.map_cons, List.flatten_cons]; exact VRs_append (VRs_cons VR_int VRs_nil) ih
    · simp only [Builtin.firstCells, Sem.run_pure]
      congr 1
      apply Array.ext'
      rw [ByteArray.data_extract]
      simp [List.map_take]
  · exact h.elim

theorem bytesOf_spec : ∀ {els : List (List HVal)} {bs : List UInt8} {vs : List Value}, bytesOf els = some bs → VRs Γ w els.flatten vs → ∃ ns : List Int, vs = ns.map (Value.int .u8) ∧ ns.map (fun n => UInt8.ofNat n.toNat) = bs
  | [], bs, vs, h, hv => by
    simp only [bytesOf, Option.some.injEq] at h
    simp only [List.flatten_nil, VRs] at hv
    exact ⟨[], by simp [hv], by simpa using h⟩
  | e :: r, bs, vs, h, hv => by
    unfold bytesOf at h
    split at h
    · simp_all
    · rename_i n r' heq
      simp only [List.cons.injEq] at heq
      obtain ⟨rfl, rfl⟩ := heq
      split at h
      · rename_i hb
        simp only [Option.map_eq_some_iff] at h
        obtain ⟨bs', h, rfl⟩ := h
        simp only [List.flatten_cons, List.cons_append, List.nil_append] at hv
        simp only [VRs] at hv
        obtain ⟨v, us, rfl, h1, h2⟩ := hv
        simp only [VR] at h1
        obtain ⟨ns, e1, e2⟩ := bytesOf_spec h h2
        exact ⟨n :: ns, by simp [h1, e1], by simp [e2]⟩
      · cases h
    · cases h

theorem s_convert (ok : CxOK cx) (hR : HR cx.toCx0 Γ hh used w) {s d : Nat} {x : Operand} {vs : List HVal} {u : Value} {k : KT} (hu : VRs Γ w vs [u]) (hk : hopV cx (.convert s d x) vs (hget hh) nid k) :
    OpRes cx (do pure (Next.value (← convert s d u))) hh Γ used w nid k := by
  simp only [hopV] at hk
  split at hk
  · rename_i hs hd
    obtain ⟨ds, g1, g2⟩ := tk_und ok (t := s) (by rw [hs]; simp)
    obtain ⟨dd, g3, g4⟩ := tk_und ok (t := d) (by rw [hd]; simp)
    rw [hs] at g2; rw [hd] at g4
    obtain rfl := g2; obtain rfl := g4
    obtain ⟨_, e', ha⟩ := VRs_one hu
    obtain rfl : u = _ := by simpa using e'
    simp only [VR] at ha
    subst ha
    exact OpRes.pure hR hk (run_v (by simp [convert, run_und g1, run_und g3, Conv.intToInt])) VR_int
  · rename_i hs hd
    obtain ⟨ds, g1, g2⟩ := tk_und ok (t := s) (by rw [hs]; simp)
    obtain ⟨dd, g3, g4⟩ := tk_und ok (t := d) (by rw [hd]; simp)
    rw [hs] at g2; rw [hd] at g4
    obtain rfl := g2; obtain rfl := g4
    obtain ⟨_, e', ha⟩ := VRs_one hu
    obtain rfl : u = _ := by simpa using e'
    simp only [VR] at ha
    subst ha
    exact OpRes.pure hR hk (run_v (by simp [convert, run_und g1, run_und g3])) VR_str
  · rename_i e v hs hd
    obtain ⟨ds, g1, g2⟩ := tk_und ok (t := s) (by rw [hs]; simp)
    obtain ⟨dd, g3, g4⟩ := tk_und ok (t := d) (by rw [hd]; simp)
    rw [hs] at g2; rw [hd] at g4
    obtain rfl := g2; obtain rfl := g4
    obtain ⟨_, e', ha⟩ := VRs_one hu
    obtain rfl : u = _ := by simpa using e'
    split at hk
    · rename_i he
      obtain ⟨de, g5, g6⟩ := tk_und ok (t := e) (by rw [he]; simp)
      rw [he] at g6
      obtain rfl := g6
      obtain ⟨hsl, hk⟩ := nonOther_bif hk
      obtain ⟨els, vs, ⟨bs, hbs, hk⟩, h1, h2, h3, h4, h5⟩ := src_spec hR ha hk
      obtain ⟨ns, rfl, hns⟩ := bytesOf_spec hbs h1
      refine OpRes.pure hR hk (run_v (x := .string ⟨bs.toArray⟩) ?_) VR_str
      have hl : els.length = ns.length := by
        have := VRs_length h1
        rw [flat_len h3] at this
        simpa using this
      obtain ⟨a, l, c, rfl⟩ : ∃ a l c, u = .slice a l c := by
        unfold isSl at hsl
        split at hsl
        · simp only [VR] at ha
          rcases ha with ⟨_, rfl⟩ | ⟨_, _, _, rfl, _⟩ <;> exact ⟨_, _, _, rfl⟩
        · simp only [VR] at ha
          obtain ⟨_, _, _, _, _, _, _, _, rfl, _⟩ := ha
          exact ⟨_, _, _, rfl⟩
        · cases hsl
      rw [run_convert_bytes_string w s d e a l c g1 g5 g3]
      have hll : l = els.length := by
        have h7 := h4 w
        simp only [Builtin.lenOf, Sem.run_pure, Result.ok.injEq, and_true] at h7
        exact h7
      have h6 := h5 els.length w rfl (Nat.le_refl _)
      rw [List.take_of_length_le (by simp; omega)] at h6
      cases a with
      | none =>
        simp only [Builtin.firstCells, Sem.run_pure, Result.ok.injEq, and_true] at h6
        have : ns = [] := by
          have := congrArg Array.size h6
          simp at this
          exact List.eq_nil_of_length_eq_zero this.symm
        subst this
        simp at hns
        subst hns
        rfl
      | some a =>
        rw [hll]
        rw [run_bytesToString w a els.length c ns (by simpa [Builtin.firstCells] using h6)]
        rw [foldl_push_bytes, hns]
        congr 3
        simp
    · exact hk.elim
  · exact hk.elim
end
end Go.Hv

namespace Go.Hv
open Go
section
variable {cx : Cx} {Γ : Gam} {hh : List (Nat × HObj)} {used : Nat → Prop} {w : World} {nid : Nat}

theorem growBy_le (need : Nat) : ∀ (r c : Nat), Builtin.growBy need r c ≤ max c (need + need / 4 + 192)
  | 0, c => by simp only [Builtin.growBy]; omega
  | r + 1, c => by
    simp only [Builtin.growBy]
    split
    · omega
    · rename_i h
      have := growBy_le need r (c + (c + 768) / 4)
      omega
theorem nextcap_le {need cap : Nat} (h : cap < need) : Builtin.nextslicecap need cap ≤ 2 * need + 600 := by
  unfold Builtin.nextslicecap
  split
  · omega
  · split
    · omega
    · have := growBy_le need 4 cap
      omega

theorem zeroCells_size (z : Array Value) (n : Nat) : (Builtin.zeroCells z n).size = n * z.size := by simp [Builtin.zeroCells]


def SrcT (cx : Cx) (ut : Nat) : Prop := ∃ d, cx.P.underlying ut = some d ∧ ((∃ e', d = .slice e') ∨ d = .string)

/-- What is appended, in the model: what is read of a slice or of a string; or zeros. -/
def SrcA (cx : Cx) (e ut sz n : Nat) (x : Value) (news : List Value) (w : World) : Prop :=
  (SrcT cx ut ∧ (∀ w', (Builtin.lenOf x).run cx.P w' = .ok n w') ∧ ∀ w', w'.heap = w.heap → (Builtin.firstCells sz n x).run cx.P w' = .ok news.toArray w') ∨
  ((∃ k, cx.P.underlying ut = some (.int k)) ∧ (∃ q, x = .int q (n : Int)) ∧ n * ((cx.T e).bytes + 1) ≤ 70368744177664 ∧ ∃ z, (∀ w', (zeroValue e).run cx.P w' = .ok z w') ∧ news.toArray = Builtin.zeroCells z.cells n ∧ z.cells.size = sz)
theorem srcA_spec (ok : CxOK cx) (hR : HR cx.toCx0 Γ hh used w) {e ut : Nat} (hno : (cx.T e).tk ≠ .other) {v : HVal} {u : Value} {k : List (List HVal) → Prop} (hv : VR Γ w v u) (h : srcA (cx.T e) (hget hh) (cx.T ut).tk v k) :
    ∃ els vs, k els ∧ VRs Γ w els.flatten vs ∧ (∀ x ∈ vs, x.oneCell' = true) ∧ (∀ x ∈ els, x.length = (cx.T e).size) ∧
      (els.length * ((cx.T e).bytes + 1) ≤ 70368744177664 → SrcA cx e ut (cx.T e).size els.length u vs w) := by
  have plain : srcK (cx.T e).size (hget hh) v k → SrcT cx ut → ∃ els vs, k els ∧ VRs Γ w els.flatten vs ∧ (∀ x ∈ vs, x.oneCell' = true) ∧ (∀ x ∈ els, x.length = (cx.T e).size) ∧
      (els.length * ((cx.T e).bytes + 1) ≤ 70368744177664 → SrcA cx e ut (cx.T e).size els.length u vs w) := fun h hut => by
    obtain ⟨els, ns, hk, h1, h2, h3, h4, h5⟩ := src_spec hR hv h
    have hnl : ns.length = els.length * (cx.T e).size := by rw [← VRs_length h1]; exact flat_len h3
    refine ⟨els, ns, hk, h1, h2, h3, fun _ => .inl ⟨hut, h4, fun w' hw => ?_⟩⟩
    have := h5 els.length w' hw (Nat.le_refl _)
    rwa [List.take_of_length_le (by omega)] at this
  unfold srcA at h
  split at h
  · rename_i e' htk
    obtain ⟨dd, q1, q2⟩ := tk_und ok (t := ut) (by rw [htk]; simp); rw [htk] at q2; obtain rfl := q2
    exact plain h ⟨_, q1, .inl ⟨_, rfl⟩⟩
  · rename_i htk
    obtain ⟨dd, q1, q2⟩ := tk_und ok (t := ut) (by rw [htk]; simp); rw [htk] at q2; obtain rfl := q2
    exact plain h ⟨_, q1, .inr rfl⟩
  · rename_i kk htk
    obtain ⟨dd, q1, q2⟩ := tk_und ok (t := ut) (by rw [htk]; simp); rw [htk] at q2; obtain rfl := q2
    split at h
    · rename_i q n
      obtain ⟨zc, ⟨⟨hn0, hzl⟩, hk⟩, hzc⟩ := flatK_spec h
      obtain ⟨z, hz1, hz2⟩ := run_zero ok hno
      obtain ⟨zs, g1, g2, g3⟩ := hzc Γ w z (hz2 Γ w)
      simp only [VR] at hv
      subst hv
      obtain ⟨N, rfl⟩ := Int.eq_ofNat_of_zero_le hn0
      have hsz : z.cells.size = (cx.T e).size := by rw [g1]; have := VRs_length g2; simp; omega
      refine ⟨_, (List.replicate N zs).flatten, hk, ?_, ?_, ?_, fun hb => .inr ⟨⟨_, q1⟩, ⟨q, ?_⟩, hb, z, hz1, ?_, hsz⟩⟩
      · simpa using VRs_replicate g2 N
      · intro y hy
        simp only [List.mem_flatten] at hy
        obtain ⟨l, hl, hy⟩ := hy
        rw [List.mem_replicate] at hl
        exact g3 y (hl.2 ▸ hy)
      · intro x hx
        rw [List.mem_replicate] at hx
        rw [hx.2, hzl]
      · simp
      · have := zeros_list z.cells N (cx.T e).size hsz
        apply Array.ext'
        rw [show z.cells.toList = zs by rw [g1]] at this
        simp only [Builtin.zeroCells, hsz, List.length_replicate, Int.toNat_natCast]
        rw [hsz] at this
        exact this.symm
    · exact h.elim
  · exact h.elim

/-- append where there is room (or nothing is appended). -/
theorem run_append_roomH (ok : CxOK cx) {t ut e n sLen sCap sz : Nat} {x : Value} {base : Option Addr} {news : List Value} (hund : cx.P.underlying t = some (.slice e)) (hno : (cx.T e).tk ≠ .other) (hsz : (cx.T e).size = sz)
    (hsrc : SrcA cx e ut sz n x news w) (hroom : sLen + n ≤ sCap) {w2 : World}
    (hst : ∀ a, base = some a → (storeCells (a.add (sLen * sz)) news).run cx.P w = .ok () w2) (hnone : base = none → w2 = w) (ty : Nat) :
    (Builtin.append_ #[t, ut] ty #[.slice base sLen sCap, x]).run cx.P w = .ok (.slice base (sLen + n) sCap) w2 := by
  rcases hsrc with ⟨⟨d, hd1, hd2⟩, hlen, hnew⟩ | ⟨⟨k, hk⟩, ⟨q, rfl⟩, hfit, z, hz, hnews, hzs⟩
  · replace hnew := hnew w rfl
    cases base with
    | none =>
      rw [hnone rfl]
      rcases hd2 with ⟨e', rfl⟩ | rfl <;> simp [Builtin.append_, run_und hund, run_und hd1, run_size ok hno, hsz, hlen, hroom, hnew]
    | some a =>
      have h := hst a rfl
      rcases hd2 with ⟨e', rfl⟩ | rfl <;> simp [Builtin.append_, run_und hund, run_und hd1, run_size ok hno, hsz, hlen, hroom, hnew, h]
  · obtain ⟨i, de, g1, g2, g3, g4, _⟩ := tok ok hno
    have hb1 : n * ((cx.T e).bytes + 1) = n * (cx.T e).bytes + n := by rw [Nat.mul_add]; omega
    have hw : IntKind.i64.wrap (n : Int) = n := by simp [IntKind.wrap, IntKind.signed, IntKind.bits]; omega
    have h0 : ¬ (n : Int) < 0 := by omega
    have h48 : ¬ (281474976710656 < (n : Int) * (i.bytes : Int)) := by rw [g4, ← Int.natCast_mul]; omega
    by_cases hzero : n * sz = 0
    · have hn0 : news = [] := by
        have : Builtin.zeroCells z.cells n = #[] := Array.eq_empty_of_size_eq_zero (by rw [zeroCells_size, hzs]; exact hzero)
        rw [this] at hnews
        simpa using hnews
      subst hn0
      cases base with
      | none => rw [hnone rfl]; simp [Builtin.append_, run_und hund, run_und hk, run_size ok hno, hsz, asInt, asIntOf, hw, h0, h48, run_info g1, hroom, hzero]
      | some a =>
        have h := hst a rfl
        simp [Builtin.append_, run_und hund, run_und hk, run_size ok hno, hsz, asInt, asIntOf, hw, h0, h48, run_info g1, hroom, hzero, h]
    · cases base with
      | none => rw [hnone rfl]; simp [Builtin.append_, run_und hund, run_und hk, run_size ok hno, hsz, asInt, asIntOf, hw, h0, h48, run_info g1, hroom, hzero, hz]
      | some a =>
        have h := hst a rfl
        simp [Builtin.append_, run_und hund, run_und hk, run_size ok hno, hsz, asInt, asIntOf, hw, h0, h48, run_info g1, hroom, hzero, hz, ← hnews, h]

/-- append where there is none. -/
theorem run_append_growH (ok : CxOK cx) {t ut e n sLen sCap sz : Nat} {x : Value} {base : Option Addr} {news olds : List Value} (hund : cx.P.underlying t = some (.slice e)) (hno : (cx.T e).tk ≠ .other) (hsz : (cx.T e).size = sz)
    (hsrc : SrcA cx e ut sz n x news w)
    (hold : (Builtin.firstCells sz sLen (.slice base sLen sCap)).run cx.P w.drew = .ok olds.toArray w.drew) (hroom : ¬ sLen + n ≤ sCap) (hfit : (sLen + n) * ((cx.T e).bytes + 1) ≤ 70368744177664) (ty : Nat) :
    ∃ newCap rest, sLen + n ≤ newCap ∧ (∀ z, (∀ w', (zeroValue e).run cx.P w' = .ok z w') → rest = Builtin.zeroCells z.cells (newCap - (sLen + n))) ∧
      (Builtin.append_ #[t, ut] ty #[.slice base sLen sCap, x]).run cx.P w = .ok (.slice (some ⟨w.heap.size, 0, none⟩) (sLen + n) newCap) (w.drew.alloc (.cells (olds.toArray ++ news.toArray ++ rest) e)) := by
  obtain ⟨i, de, g1, g2, g3, g4, _, z, g5, _, g6⟩ := tok ok hno
  have hzr : ∀ w', (zeroValue e).run cx.P w' = .ok z w' := fun w' => by simp [zeroValue, run_info g1, g5]
  refine ⟨grownCap w (sLen + n) sCap e, Builtin.zeroCells z.cells (grownCap w (sLen + n) sCap e - (sLen + n)), grownCap_ge w (sLen + n) sCap e, fun z' hz' => ?_, ?_⟩
  · have := (hzr w).symm.trans (hz' w)
    simp only [Result.ok.injEq, and_true] at this
    rw [this]
  · have hb1 : (sLen + n) * ((cx.T e).bytes + 1) = (sLen + n) * (cx.T e).bytes + (sLen + n) := by rw [Nat.mul_add]; omega
    have h63' : ¬ (9223372036854775807 < ((sLen : Int) + (n : Int))) := by omega
    have h48' : ¬ (281474976710656 < Builtin.nextslicecap (sLen + n) sCap * i.bytes) := by
      have := growslice_fits (need := sLen + n) (old := sCap) (bytes := i.bytes) (by omega) (by rw [g4]; omega)
      omega
    rcases hsrc with ⟨⟨d, hd1, hd2⟩, hlen, hnew⟩ | ⟨⟨k, hk⟩, ⟨q, rfl⟩, hfitn, z', hz, hnews, hzs⟩
    · replace hnew := hnew w.drew rfl
      rcases hd2 with ⟨e', rfl⟩ | rfl
      · simp [Builtin.append_, run_und hund, run_und hd1, run_size ok hno, hsz, hlen, hroom, h63', h48', Question.forced, hold, hnew, hzr, newRow, run_info g1, grownCap]
        congr 2
        apply Array.ext'
        simp [List.append_assoc]
      · simp [Builtin.append_, run_und hund, run_und hd1, run_size ok hno, hsz, hlen, hroom, h63', h48', Question.forced, hold, hnew, hzr, newRow, run_info g1, grownCap]
        congr 2
        apply Array.ext'
        simp [List.append_assoc]
    · obtain rfl : z' = z := by
        have := (hz w).symm.trans (hzr w)
        simpa using this
      have hb2 : n * ((cx.T e).bytes + 1) = n * (cx.T e).bytes + n := by rw [Nat.mul_add]; omega
      have hw : IntKind.i64.wrap (n : Int) = n := by simp [IntKind.wrap, IntKind.signed, IntKind.bits]; omega
      have h0 : ¬ (n : Int) < 0 := by omega
      have h48 : ¬ (281474976710656 < (n : Int) * (i.bytes : Int)) := by rw [g4, ← Int.natCast_mul]; omega
      by_cases hzero : n * sz = 0
      · have hn0 : news = [] := by
          have : Builtin.zeroCells z'.cells n = #[] := Array.eq_empty_of_size_eq_zero (by rw [zeroCells_size, hzs]; exact hzero)
          rw [this] at hnews
          simpa using hnews
        subst hn0
        simp [Builtin.append_, run_und hund, run_und hk, run_size ok hno, hsz, asInt, asIntOf, hw, h0, h48, hroom, h63', h48', Question.forced, hold, hzr, newRow, run_info g1, grownCap, hzero]
        try (congr 2; apply Array.ext'; simp [List.append_assoc])
      · simp [Builtin.append_, run_und hund, run_und hk, run_size ok hno, hsz, asInt, asIntOf, hw, h0, h48, hroom, h63', h48', Question.forced, hold, hzr, newRow, run_info g1, grownCap, hzero, ← hnews]
        try (congr 2; apply Array.ext'; simp [List.append_assoc])

theorem upto_mono {u : Nat → Prop} {n : Nat} : ∀ i, u i → upto u n (n + 1) i := fun _ h => .inl h

/-- A NEW ROW takes an owned block's place: the new one first, then the old one goes. -/
theorem OpRes.newdel {sem : Sem Next} {k : KT} {hv : HVal} {v : Value} {w' : World} {o : Obj} {ho : HObj} {id : Nat} (hR : HR cx.toCx0 Γ hh used w) (hn : ¬ used nid) (hk : k hv [(nid, some ho), (id, none)] (nid + 1))
    (hrun : sem.run cx.P w = .ok (.value v) w') (hw : w'.heap = w.heap.push o) (hl : Like w w') (hobj : OR (Γ.add nid w.heap.size 0) w' w.heap.size 0 ho)
    (hv' : VR (Γ.add nid w.heap.size 0) w' hv v) : OpRes cx sem hh Γ used w nid k := by
  obtain ⟨h1, h2⟩ := new_block hR hn hw hl hobj
  obtain ⟨h3, h4⟩ := del_block (id := id) h1
  exact ⟨hv, _, nid + 1, _, w', _, v, hk, .inr rfl, hrun, .inl rfl, hv', h3, h2.trans h4⟩

theorem hget_swap (hh : List (Nat × HObj)) {id nid : Nat} (h0 h1 : HObj) (hne : nid ≠ id) (i : Nat) : hget (hset (hdel (hset hh nid h0) id) nid h1) i = hget (hdel (hset hh nid h1) id) i := by
  by_cases e : i = nid
  · subst e
    rw [hget_hset_same, hget_hdel_other _ hne, hget_hset_same]
  · rw [hget_hset_other _ _ e]
    by_cases e2 : i = id
    · subst e2; rw [hget_hdel_same, hget_hdel_same]
    · rw [hget_hdel_other _ e2, hget_hdel_other _ e2, hget_hset_other _ _ e, hget_hset_other _ _ e]

theorem flatten_take {α : Type} {n : Nat} : ∀ {l : List (List α)} (k : Nat), (∀ e ∈ l, e.length = n) → (l.take k).flatten = l.flatten.take (k * n)
  | [], k, _ => by simp
  | x :: r, 0, _ => by simp
  | x :: r, k + 1, h => by
    have hx : x.length = n := h x (by simp)
    simp only [List.take_succ_cons, List.flatten_cons, flatten_take (l := r) k (fun e he => h e (by simp [he]))]
    rw [show (k + 1) * n = x.length + k * n by rw [hx, Nat.add_mul]; omega, List.take_length_add_append]

theorem EsAt_append {b : Nat} : ∀ {es fs : List (List HVal)} {o n : Nat}, EsAt Γ w b o n es → EsAt Γ w b (o + es.length * n) n fs → EsAt Γ w b o n (es ++ fs)
  | [], _, _, _, _, h => by simpa using h
  | x :: es, fs, o, n, h, g => by
    simp only [EsAt] at h
    simp only [List.cons_append, EsAt]
    refine ⟨h.1, h.2.1, EsAt_append h.2.2 ?_⟩
    rwa [show o + n + es.length * n = o + (x :: es).length * n by simp only [List.length_cons]; rw [Nat.add_mul]; omega]
theorem EsAt_same {Γ' : Gam} {w' : World} (E : Ext Γ w Γ' w') {b : Nat} {es : List (List HVal)} {o n : Nat} (hs : ∀ k, k < es.length * n → w'.cell? ⟨b, o + k, none⟩ = w.cell? ⟨b, o + k, none⟩) (h : EsAt Γ w b o n es) : EsAt Γ' w' b o n es := by
  have hl := EsAt_len h
  exact EsAt_of_flat hl.2 (CsAt_same E (fun k hk => hs k (by omega)) (EsAt_flat h))

theorem s_append (ok : CxOK cx) (hR : HR cx.toCx0 Γ hh used w) (hn : ¬ used nid) {ats : List Nat} {ty : Nat} {vs : List HVal} {us : List Value} {k : KT} (hu : VRs Γ w vs us) (hk : hbuiltin cx .append ats vs (hget hh) nid k) :
    OpRes cx (do pure (Next.value (← Builtin.append_ ats.toArray ty us.toArray))) hh Γ used w nid k := by
  simp only [hbuiltin] at hk
  split at hk
  · rename_i t ut more d x
    obtain ⟨u, y, rfl, hd, hx⟩ := VRs_two hu
    replace hk := elemOK_spec ok hk
    obtain ⟨e, _, hund, hno, hk⟩ := hk
    have happ : ∀ v, (Builtin.append_ (t :: ut :: more).toArray ty [u, v].toArray) = Builtin.append_ #[t, ut] ty #[u, v] := fun v => by simp [Builtin.append_]
    rw [happ]
    replace hk := srcA_spec ok hR hno hx hk
    obtain ⟨els, ns, hk, h1, h2, h3, hA⟩ := hk
    have hnl : ns.length = els.length * (cx.T e).size := by rw [← VRs_length h1]; exact flat_len h3
    obtain ⟨sz, hsz⟩ : ∃ sz, (cx.T e).size = sz := ⟨_, rfl⟩
    rw [hsz] at h3 hA hnl hk
    have nothing : els = [] → k d [] nid → ∀ {base : Option Addr} {sLen sCap : Nat}, u = .slice base sLen sCap → sLen ≤ sCap → OpRes cx (do pure (Next.value (← Builtin.append_ #[t, ut] ty #[u, y]))) hh Γ used w nid k := by
      intro he hk base sLen sCap hu hle
      have hns : ns = [] := List.eq_nil_of_length_eq_zero (by rw [hnl, he]; simp)
      rw [hu] at hd ⊢
      refine OpRes.pure hR hk (run_v ?_) hd
      have := run_append_roomH (cx := cx) (w := w) ok (base := base) (sLen := sLen) (sCap := sCap) (news := ns) hund hno hsz (hA (by rw [he]; simp)) (by rw [he]; simpa using hle) (w2 := w) (fun a _ => by rw [hns]; rfl) (fun _ => rfl) ty
      rwa [he, List.length_nil, Nat.add_zero] at this
    have olds_of : ∀ {els0 : List (List HVal)} {os : List Value}, (∀ e ∈ els0, e.length = sz) → VRs Γ w els0.flatten os → os.length = els0.length * sz := fun hl hv => by rw [← VRs_length hv]; exact flat_len hl
    -- a new row
    have anew : ∀ {base : Option Addr} {sLen sCap : Nat} {els0 : List (List HVal)} {os : List Value}, els0.length = sLen → (∀ e ∈ els0, e.length = sz) → VRs Γ w els0.flatten os → (∀ x ∈ os, x.oneCell' = true) →
        (∀ w', w'.heap = w.heap → (Builtin.firstCells sz sLen (.slice base sLen sCap)).run cx.P w' = .ok os.toArray w') → ¬ sLen + els.length ≤ sCap → (sLen + els.length) * ((cx.T e).bytes + 1) ≤ 70368744177664 →
        ∃ (v : Value) (w' : World) (o : Obj), (Builtin.append_ #[t, ut] ty #[.slice base sLen sCap, y]).run cx.P w = .ok v w' ∧ w'.heap = w.heap.push o ∧ Like w w' ∧
          OR (Γ.add nid w.heap.size 0) w' w.heap.size 0 (.arr sz (els0 ++ els)) ∧ VR (Γ.add nid w.heap.size 0) w' (.sl nid sz 0 (sLen + els.length) (.ge (sLen + els.length))) v := by
      intro base sLen sCap els0 os hl0 hl1 hv0 ho0 hold hroom hfit
      obtain ⟨newCap, rest, hc, hrest, hrun⟩ := run_append_growH (cx := cx) (w := w) ok hund hno hsz (hA (Nat.le_trans (Nat.mul_le_mul_right _ (Nat.le_add_left _ _)) hfit)) (hold w.drew rfl) hroom hfit ty
      obtain ⟨z, hz1, hz2⟩ := run_zero ok hno
      have hrest' := hrest z hz1
      have E := ext_push (w' := w.drew.alloc (.cells (os.toArray ++ ns.toArray ++ rest) e)) (b0 := w.heap.size) (d0 := 0) hn hR.used hR.frlt rfl
      have hnew' := heap_new w.drew (.cells (os.toArray ++ ns.toArray ++ rest) e)
      have holen := olds_of hl1 hv0
      have hzsz : z.cells.size = sz := by
        obtain ⟨i, de, g1, g2, g3, g4, _, z', g5, g5', g6⟩ := tok ok hno
        have h7 := hz1 w
        simp only [zeroValue, Sem.run_bind, run_info g1, Result.andThen_ok, g5, Sem.run_pure, Result.ok.injEq, and_true] at h7
        subst h7
        rw [g5', hsz]
      refine ⟨_, _, _, hrun, rfl, ⟨rfl, rfl, rfl⟩, ⟨_, _, _, hnew', by simp, EsAt_of_flat (fun x hx => (List.mem_append.1 hx).elim (hl1 x) (h3 x)) ?_⟩, ?_⟩
      · rw [List.flatten_append]
        refine CsAt_intro (VRs_append (VRs_ext E _ _ hv0) (VRs_ext E _ _ h1)) (fun x hx => (List.mem_append.1 hx).elim (ho0 x) (h2 x)) fun j v hj => ?_
        have e1 := cell_arr (w := w.drew.alloc (.cells (os.toArray ++ ns.toArray ++ rest) e)) (b := w.drew.heap.size) hnew' (0 + j)
        rw [show (w.drew.heap.size) = w.heap.size from rfl] at e1
        rw [e1, Nat.zero_add]
        have hj2 := (List.getElem?_eq_some_iff.1 hj).1
        rw [Array.getElem?_append_left (by simpa using hj2)]
        simpa using hj
      · simp only [VR]
        refine ⟨w.heap.size, 0, 0, newCap, _, e, (0, 0), Gam.add_same _ _ _ _, rfl, hc, by simp, hnew', ?_, hc⟩
        rw [hrest']
        simp only [Array.size_append, List.size_toArray, zeroCells_size, hzsz, holen, hnl, hl0, Nat.zero_add]
        rw [← Nat.add_mul, ← Nat.add_mul]
        rw [show sLen + els.length + (newCap - (sLen + els.length)) = newCap by omega]
        exact Nat.le_refl _
    cases d <;> first | exact hk.elim | skip
    case ps lf es full elems =>
      have hd0 := hd
      simp only [VR] at hd
      obtain ⟨hc1, hc0⟩ := hk
      have hform : ∃ base sCap, u = .slice base elems.length sCap ∧ elems.length ≤ sCap ∧ (full = true → sCap = elems.length) := by
        rcases hd with ⟨rfl, rfl⟩ | ⟨b, o, cap, rfl, q1, q2, _⟩
        · exact ⟨none, 0, by simp, by simp, fun _ => by simp⟩
        · exact ⟨_, _, rfl, q1, q2⟩
      obtain ⟨base, sCap, rfl, hle, hfull⟩ := hform
      by_cases he : els = []
      · exact nothing he (hc1 (by rw [he]; rfl)) rfl hle
      · obtain ⟨⟨q1, q2, q3⟩, hk⟩ := hc0 (by simpa using he)
        have hpos : 0 < els.length := List.length_pos_iff.2 he
        obtain ⟨els0, os, _, r1, r2, r3, r4, r5⟩ := src_spec (k := fun x => x = elems) hR hd0 (show srcK sz (hget hh) (.ps lf es full elems) (fun x => x = elems) from ⟨q1, rfl⟩)
        subst els0
        have hol := olds_of r3 r1
        obtain ⟨v, w', o, g1, g2, g3, g4, g5⟩ := anew (base := base) (sCap := sCap) (els0 := elems) rfl r3 r1 r2 (fun w' hw => by
          have := r5 elems.length w' hw (Nat.le_refl _)
          rwa [List.take_of_length_le (by omega)] at this) (by rw [hfull q2]; omega) q3
        exact OpRes.new hR hn hk (run_v g1) g2 g3 g4 g5
    case sl id es i len cp =>
      have hd0 := hd
      simp only [VR] at hd
      obtain ⟨b, δ, o, cap, arr, T, fz, p1, rfl, p2, p3, p4, p5, p6⟩ := hd
      obtain ⟨hc1, hc0⟩ := hk
      by_cases he : els = []
      · exact nothing he (hc1 (by rw [he]; rfl)) rfl p2
      · have hk := hc0 (by simpa using he)
        have hpos : 0 < els.length := List.length_pos_iff.2 he
        split at hk
        · rename_i es' elems hg
          obtain ⟨⟨q1, q2, q3, q4⟩, hk⟩ := hk
          subst q2
          subst q1
          obtain ⟨hnf, arr', T', fz', a1, a2, a3⟩ := arr_at hR hg p1
          rw [p4] at a1
          simp only [Option.some.injEq, Obj.cells.injEq] at a1
          obtain ⟨rfl, rfl, rfl⟩ := a1
          obtain ⟨els0, os, hels0, r1, r2, r3, r4, r5⟩ := src_spec (k := fun x => x = (elems.drop i).take len) hR hd0
            (show srcK es (hget hh) (.sl id es i len cp) (fun x => x = (elems.drop i).take len) by simp only [srcK, hg, true_and]; exact ⟨q3, trivial⟩)
          subst hels0
          have hll : ((elems.drop i).take len).length = len := by simp; omega
          by_cases hroom : len + els.length ≤ cap
          · -- in place
            have hk : ∃ cp' : Cap, cp'.ok cap ∧ k (.sl nid es 0 (len + els.length) cp') [(nid, some (.arr es ((elems.drop i).take len ++ els))), (id, none)] (nid + 1) := by
              cases cp with
              | ge c =>
                cases hb : Nat.ble (len + els.length) c
                · exact ⟨.ge _, hroom, hk.2 hb⟩
                · exact ⟨.ge c, p6, hk.1 hb⟩
              | eq c =>
                have hc : cap = c := p6
                refine ⟨.eq c, p6, hk.1 ?_⟩
                rw [← hc]; exact Nat.ble_eq_true_of_le hroom
            obtain ⟨cp', hcp', hk⟩ := hk
            have ho := p3 (by omega)
            have hE0 := EsAt_take len (EsAt_drop i a3)
            have Ern : Ext Γ w (Γ.add nid b (δ + i * es)) w := ⟨fun j x h => by
                have e : j ≠ nid := fun e => hn (e ▸ hR.used j x h)
                rw [Gam.add_other _ _ _ e]; exact h, fun _ _ h => h, fun _ _ _ => rfl, fun _ _ _ _ h => ⟨_, _, h, rfl⟩⟩
            obtain ⟨t1, t2⟩ := rename_block (nid := nid) (δ' := δ + i * es) (ho := .arr es ((elems.drop i).take len)) hR hn hg p1 ⟨arr, T, fz, p4, a2, EsAt_ext Ern _ _ _ _ rfl hE0⟩
            have hsum : δ + (i + cap) * es = δ + i * es + cap * es := by rw [Nat.add_mul]; omega
            have hmul : (len + els.length) * es ≤ cap * es := Nat.mul_le_mul_right _ hroom
            rw [Nat.add_mul] at hmul
            obtain ⟨w', e1, e2, e3, e4, arr', e5, e6, e7⟩ := run_storeCellsH (P := cx.P) b (o + len * es) T fz ns 0 arr w p4 a2 (fun k hk => by omega) h2
            simp only [Nat.add_zero] at e7
            have hidne : id ≠ nid := fun e => hn (e ▸ hR.used id _ p1)
            obtain ⟨s1, s2⟩ := set_block (w' := w') (ho := .arr es ((elems.drop i).take len ++ els)) t1 (id := nid) (b := b) (δ := δ + i * es) (by rw [hget_hdel_other _ (Ne.symm hidne), hget_hset_same]) (Gam.add_same _ _ _ _) e2 e3 e4
              (fun arr0 T0 fz0 h0 => by rw [p4] at h0; simp only [Option.some.injEq, Obj.cells.injEq] at h0; obtain ⟨rfl, rfl, rfl⟩ := h0; exact ⟨arr', fz, e5, e6⟩)
              (fun E => ⟨arr', T, fz, e5, by rw [e6]; exact a2, by
                have E2 := t2.toExt.trans E
                refine EsAt_append (EsAt_same E2 (fun k hk => ?_) hE0) ?_
                · rw [hll] at hk
                  rw [cell_arr e5, cell_arr p4, e7, if_neg (by omega)]
                · rw [hll]
                  refine EsAt_of_flat h3 (CsAt_intro (VRs_ext E2 _ _ h1) h2 fun j v hj => ?_)
                  have hj2 := (List.getElem?_eq_some_iff.1 hj).1
                  rw [cell_arr e5, e7, if_pos (by omega), ho]
                  rw [show δ + i * es + len * es + j - (δ + i * es + len * es) = j by omega]; exact hj⟩)
            have hEvo := t2.trans s2
            have hsw := hget_swap hh (id := id) (nid := nid) (.arr es ((elems.drop i).take len)) (.arr es ((elems.drop i).take len ++ els)) (Ne.symm hidne)
            refine ⟨_, _, nid + 1, _, w', _, _, hk, .inr rfl, run_v (run_append_roomH (cx := cx) (w := w) ok (base := some ⟨b, o, none⟩) (sLen := len) (sCap := cap) (news := ns) (w2 := w') hund hno hsz (hA (Nat.le_trans (Nat.mul_le_mul_right _ (Nat.le_add_left _ _)) q4)) hroom
              (fun a ha => by obtain rfl := Option.some.inj ha; rw [add_none]; exact e1) (fun h => by cases h) ty), .inl rfl, ?_, s1.congr hsw, hEvo.congr hsw⟩
            simp only [VR]
            exact ⟨b, δ + i * es, o, cap, arr', T, fz, Gam.add_same _ _ _ _, rfl, hroom, fun _ => by rw [ho]; simp, e5, by rw [e6]; simp; omega, hcp'⟩
          · obtain ⟨v, w', o', g1, g2, g3, g4, g5⟩ := anew (base := some ⟨b, o, none⟩) (sLen := len) (sCap := cap) (els0 := (elems.drop i).take len) hll r3 r1 r2 (fun w' hw => by
              have := r5 len w' hw (by rw [hll]; exact Nat.le_refl _)
              rwa [List.take_of_length_le (by rw [olds_of r3 r1, hll]; exact Nat.le_refl _)] at this) hroom q4
            cases cp with
            | ge c =>
              refine OpRes.newdel hR hn (hk.2 ?_) (run_v g1) g2 g3 g4 g5
              have hc : c ≤ cap := p6
              cases hb : Nat.ble (len + els.length) c
              · rfl
              · exact absurd (Nat.le_of_ble_eq_true hb) (by omega)
            | eq c =>
              have hc : cap = c := p6
              refine OpRes.new hR hn (hk.2 ?_) (run_v g1) g2 g3 g4 g5
              cases hb : Nat.ble (len + els.length) c
              · rfl
              · exact absurd (Nat.le_of_ble_eq_true hb) (by omega)
        · exact hk.elim
  · exact hk.elim
end
end Go.Hv

namespace Go.Hv
open Go
section
variable {cx : Cx} {Γ : Gam} {hh : List (Nat × HObj)} {used : Nat → Prop} {w : World} {nid : Nat}

theorem s_copy (ok : CxOK cx) (hR : HR cx.toCx0 Γ hh used w) {ats : List Nat} {ty : Nat} {vs : List HVal} {us : List Value} {k : KT} (hu : VRs Γ w vs us) (hk : hbuiltin cx .copy ats vs (hget hh) nid k) :
    OpRes cx (do pure (Next.value (← Builtin.copy_ ats.toArray ty us.toArray))) hh Γ used w nid k := by
  simp only [hbuiltin] at hk
  split at hk
  · rename_i t more id es i n _ x
    obtain ⟨u, y, rfl, hd, hx⟩ := VRs_two hu
    replace hk := elemOK_spec ok hk
    obtain ⟨e, _, hund, hno, hk⟩ := hk
    replace hk := src_spec hR hx hk
    obtain ⟨els, ns, hk, h1, h2, h3, h4, h5⟩ := hk
    have hnl : ns.length = els.length * (cx.T e).size := by rw [← VRs_length h1]; exact flat_len h3
    cases hg : hget hh id with
    | none => rw [hg] at hk; exact hk.elim
    | some ho =>
    cases ho <;> rw [hg] at hk <;> first | exact hk.elim | skip
    rename_i es' elems
    obtain ⟨⟨q1, q2, q3⟩, hk⟩ := hk
    have hd0 := hd
    simp only [VR] at hd
    obtain ⟨b, δ, o, cap, arr, T, fz, p1, rfl, p2, p3, p4, p5, p6⟩ := hd
    obtain ⟨hnf, arr', T', fz', a1, a2, a3⟩ := arr_at hR hg p1
    rw [p4] at a1
    simp only [Option.some.injEq, Obj.cells.injEq] at a1
    obtain ⟨rfl, rfl, rfl⟩ := a1
    subst q1
    subst q2
    obtain ⟨m, hm⟩ : ∃ m, min els.length n = m := ⟨_, rfl⟩
    have hml : m ≤ els.length := by omega
    have hmn : m ≤ n := by omega
    have hfc := h5 m w rfl hml
    have hsum : δ + (i + cap) * (cx.T e).size = δ + i * (cx.T e).size + cap * (cx.T e).size := by rw [Nat.add_mul]; omega
    have hmul : m * (cx.T e).size ≤ cap * (cx.T e).size := Nat.mul_le_mul_right _ (by omega)
    have hmul2 : m * (cx.T e).size ≤ els.length * (cx.T e).size := Nat.mul_le_mul_right _ hml
    have hpos : 0 < m * (cx.T e).size → o = δ + i * (cx.T e).size := fun hp => p3 (by
      rcases Nat.eq_zero_or_pos cap with h0 | h0
      · have : m = 0 := by omega
        rw [this] at hp; simp at hp
      · exact h0)
    have htl : (ns.take (m * (cx.T e).size)).length = m * (cx.T e).size := by simp; omega
    obtain ⟨w', e1, e2, e3, e4, arr', e5, e6, e7⟩ := run_storeCellsH (P := cx.P) b o T fz (ns.take (m * (cx.T e).size)) 0 arr w p4 a2 (fun k hk => by
      rw [htl] at hk; have := hpos (by omega); omega) (fun x hx => h2 x (List.mem_of_mem_take hx))
    simp only [Nat.add_zero] at e7
    rw [htl] at e7
    have hset := set_block (w' := w') (ho := .arr (cx.T e).size (elems.take i ++ els.take n ++ elems.drop (i + min els.length n))) hR hg p1 e2 e3 e4
      (fun arr0 T0 fz0 h0 => by rw [p4] at h0; simp only [Option.some.injEq, Obj.cells.injEq] at h0; obtain ⟨rfl, rfl, rfl⟩ := h0; exact ⟨arr', fz, e5, e6⟩)
      (fun E => ⟨arr', T, fz, e5, by rw [e6]; exact a2, by
        have htn : els.take n = els.take m := by
          apply List.take_eq_take_iff.2
          omega
        rw [htn, hm]
        have hil : i ≤ elems.length := by omega
        have hti : (elems.take i).length = i := by simp; omega
        have htm : (els.take m).length = m := by simp; omega
        rw [List.append_assoc]
        refine EsAt_append (EsAt_same E (fun k hk => ?_) (EsAt_take i a3)) ?_
        · rw [hti] at hk
          rw [cell_arr e5, cell_arr p4, e7]
          split
          · rename_i hc
            have := hpos (by omega); omega
          · rfl
        · rw [hti]
          refine EsAt_append ?_ ?_
          · refine EsAt_of_flat (fun x hx => h3 x (List.mem_of_mem_take hx)) ?_
            rw [flatten_take m h3]
            refine CsAt_intro (VRs_take _ (VRs_ext E _ _ h1)) (fun x hx => h2 x (List.mem_of_mem_take hx)) fun j v hj => ?_
            have hj2 := (List.getElem?_eq_some_iff.1 hj).1
            rw [htl] at hj2
            have ho := hpos (by omega)
            rw [cell_arr e5, e7, if_pos (by omega), ho]
            rw [show δ + i * (cx.T e).size + j - (δ + i * (cx.T e).size) = j by omega]; exact hj
          · rw [htm]
            have hE := EsAt_drop (i + m) a3
            rw [show δ + (i + m) * (cx.T e).size = δ + i * (cx.T e).size + m * (cx.T e).size by rw [Nat.add_mul]; omega] at hE
            refine EsAt_same E (fun k hk => ?_) hE
            rw [cell_arr e5, cell_arr p4, e7]
            split
            · rename_i hc
              rcases Nat.eq_zero_or_pos (m * (cx.T e).size) with h0 | h0
              · omega
              · have := hpos h0; omega
            · rfl⟩)
    obtain ⟨s1, s2⟩ := hset
    refine ⟨_, _, nid, _, w', Γ, .int .i64 (m : Nat), hk, .inl rfl, run_v ?_, .inl rfl, ?_, s1.mono (fun _ h => .inl h), s2⟩
    · have hfc' : (Builtin.firstCells (cx.T e).size (Nat.min els.length n) y).run cx.P w = .ok (ns.take (m * (cx.T e).size)).toArray w := by
        rw [show Nat.min els.length n = m from hm]; exact hfc
      have hm' : Nat.min els.length n = m := hm
      rw [hm'] at hfc'
      simp only [Builtin.copy_, List.getElem?_toArray, List.getElem?_cons_zero, List.getElem?_cons_succ, Sem.run_bind, run_und hund, Result.andThen_ok, h4, run_size ok hno, hm', hfc', e1, Sem.run_pure, goInt]
    · rw [hm]; exact VR_int
  · exact hk.elim

theorem s_len (ok : CxOK cx) (hR : HR cx.toCx0 Γ hh used w) {ats : List Nat} {ty : Nat} {vs : List HVal} {us : List Value} {k : KT} (hu : VRs Γ w vs us) (hk : hbuiltin cx .len ats vs (hget hh) nid k) :
    OpRes cx (do pure (Next.value (← Builtin.len_ ats.toArray ty us.toArray))) hh Γ used w nid k := by
  simp only [hbuiltin] at hk
  split at hk
  · obtain ⟨u, rfl, hd⟩ := VRs_one hu
    split at hk
    · rename_i t more
      cases htk : (cx.T t).tk <;> rw [htk] at hk <;> first | exact hk.elim | skip
      obtain ⟨d, q1, q2⟩ := tk_und ok (t := t) (by rw [htk]; simp)
      rw [htk] at q2; obtain rfl := q2
      simp only [VR] at hd
      subst hd
      exact OpRes.pure hR hk (run_v (by simp [Builtin.len_, run_und q1, mk_size, goInt])) VR_int
    · exact hk.elim
  · obtain ⟨u, rfl, hd⟩ := VRs_one hu
    split at hk
    · rename_i t more
      cases htk : (cx.T t).tk <;> rw [htk] at hk <;> first | exact hk.elim | skip
      obtain ⟨d, q1, q2⟩ := tk_und ok (t := t) (by rw [htk]; simp)
      rw [htk] at q2; obtain rfl := q2
      simp only [VR] at hd
      rcases hd with ⟨rfl, rfl⟩ | ⟨b, o, cap, rfl, _⟩
      · exact OpRes.pure hR hk (run_v (by simp [Builtin.len_, run_und q1, goInt])) VR_int
      · exact OpRes.pure hR hk (run_v (by simp [Builtin.len_, run_und q1, goInt])) VR_int
    · exact hk.elim
  · obtain ⟨u, rfl, hd⟩ := VRs_one hu
    split at hk
    · rename_i t more
      cases htk : (cx.T t).tk <;> rw [htk] at hk <;> first | exact hk.elim | skip
      obtain ⟨d, q1, q2⟩ := tk_und ok (t := t) (by rw [htk]; simp)
      rw [htk] at q2; obtain rfl := q2
      simp only [VR] at hd
      obtain ⟨b, δ, o, cap, arr, T, fz, p1, rfl, p2, p3, p4, p5, p6⟩ := hd
      exact OpRes.pure hR hk (run_v (by simp [Builtin.len_, run_und q1, goInt])) VR_int
    · exact hk.elim
  · obtain ⟨u, rfl, hd⟩ := VRs_one hu
    split at hk
    · rename_i t more
      cases htk : (cx.T t).tk <;> rw [htk] at hk <;> first | exact hk.elim | skip
      obtain ⟨d, q1, q2⟩ := tk_und ok (t := t) (by rw [htk]; simp)
      rw [htk] at q2; obtain rfl := q2
      simp only [VR] at hd
      obtain ⟨b, ents, c, rfl, _, h2, _, h3, _⟩ := hd
      refine OpRes.pure hR hk (run_v ?_) VR_int
      have hl := VRs_length h3
      simp [Builtin.len_, run_und q1, run_getMap h2, goInt, hl]
    · exact hk.elim
  · obtain ⟨u, rfl, hd⟩ := VRs_one hu
    split at hk
    · rename_i t more
      split at hk
      · rename_i htk hg
        obtain ⟨d, q1, q2⟩ := tk_und ok (t := t) (by rw [htk]; simp)
        rw [htk] at q2; obtain rfl := q2
        simp only [VR] at hd
        obtain ⟨b, δ, h1, rfl⟩ := hd
        obtain ⟨ents, clock, h2, h3, _⟩ := map_at hR hg h1
        have hl : ∀ {es : List (HVal × HVal)} {l : List MapEntry}, MR Γ w es l → es.length = l.length := by
          intro es
          induction es with
          | nil => intro l h; simp only [MR] at h; simp [h]
          | cons x r ih => intro l h; obtain ⟨e, s, rfl, _, _, h4⟩ := h; simp [ih h4]
        refine OpRes.pure hR hk (run_v ?_) VR_int
        simp [Builtin.len_, run_und q1, run_getMap h2, goInt, hl h3]
      · exact hk.elim
    · exact hk.elim
  · exact hk.elim
theorem s_cap (ok : CxOK cx) (hR : HR cx.toCx0 Γ hh used w) {ats : List Nat} {ty : Nat} {vs : List HVal} {us : List Value} {k : KT} (hu : VRs Γ w vs us) (hk : hbuiltin cx .cap ats vs (hget hh) nid k) :
    OpRes cx (do pure (Next.value (← Builtin.cap_ ats.toArray ty us.toArray))) hh Γ used w nid k := by
  simp only [hbuiltin] at hk
  split at hk
  · obtain ⟨u, rfl, hd⟩ := VRs_one hu
    split at hk
    · rename_i t more
      cases htk : (cx.T t).tk <;> rw [htk] at hk <;> first | exact hk.elim | skip
      obtain ⟨d, q1, q2⟩ := tk_und ok (t := t) (by rw [htk]; simp)
      rw [htk] at q2; obtain rfl := q2
      simp only [VR] at hd
      rcases hd with ⟨rfl, rfl⟩ | ⟨b, o, cap, rfl, _, hc, _⟩
      · exact OpRes.pure hR hk (run_v (by simp [Builtin.cap_, run_und q1, goInt])) VR_int
      · exact OpRes.pure hR hk (run_v (by simp [Builtin.cap_, run_und q1, goInt, hc])) VR_int
    · exact hk.elim
  · rename_i cp
    obtain ⟨u, rfl, hd⟩ := VRs_one hu
    split at hk
    · rename_i t more
      cases htk : (cx.T t).tk <;> rw [htk] at hk <;> first | exact hk.elim | skip
      obtain ⟨d, q1, q2⟩ := tk_und ok (t := t) (by rw [htk]; simp)
      rw [htk] at q2; obtain rfl := q2
      simp only [VR] at hd
      obtain ⟨b, δ, o, cap, arr, T, fz, g1, rfl, g2, _, _, _, g7⟩ := hd
      refine OpRes.pure hR (v := .int .i64 cap) (show k (.int .i64 cap) [] nid from ?_) (run_v (by simp [Builtin.cap_, run_und q1, goInt])) VR_int
      cases cp with
      | ge n => exact hk cap g7
      | eq c => rw [show cap = c from g7]; exact hk
    · exact hk.elim
  · exact hk.elim
theorem s_min (hR : HR cx.toCx0 Γ hh used w) {ats : List Nat} {ty : Nat} {vs : List HVal} {us : List Value} {k : KT} (hu : VRs Γ w vs us) (hk : hbuiltin cx .min ats vs (hget hh) nid k) :
    OpRes cx (do pure (Next.value (← Builtin.min_ ats.toArray ty us.toArray))) hh Γ used w nid k := by
  simp only [hbuiltin] at hk
  split at hk
  · obtain ⟨u, v, rfl, h1, h2⟩ := VRs_two hu
    obtain ⟨rfl, hk⟩ := hk
    simp only [VR] at h1 h2
    subst h1; subst h2
    exact OpRes.pure hR hk (run_v (by simp [Builtin.min_, Builtin.min2])) VR_int
  · exact hk.elim
theorem s_max (hR : HR cx.toCx0 Γ hh used w) {ats : List Nat} {ty : Nat} {vs : List HVal} {us : List Value} {k : KT} (hu : VRs Γ w vs us) (hk : hbuiltin cx .max ats vs (hget hh) nid k) :
    OpRes cx (do pure (Next.value (← Builtin.max_ ats.toArray ty us.toArray))) hh Γ used w nid k := by
  simp only [hbuiltin] at hk
  split at hk
  · obtain ⟨u, v, rfl, h1, h2⟩ := VRs_two hu
    obtain ⟨rfl, hk⟩ := hk
    simp only [VR] at h1 h2
    subst h1; subst h2
    exact OpRes.pure hR hk (run_v (by simp [Builtin.max_, Builtin.max2])) VR_int
  · exact hk.elim

theorem s_builtin (ok : CxOK cx) (hR : HR cx.toCx0 Γ hh used w) (hn : ¬ used nid) {b : Builtin} {ats : Array Nat} {ty : Nat} {consts : Array Bool} {vs : List HVal} {us : List Value} {k : KT} (hu : VRs Γ w vs us)
    (hk : hbuiltin cx b ats.toList vs (hget hh) nid k) : OpRes cx (builtin b ats ty consts us.toArray) hh Γ used w nid k := by
  cases b <;> first | exact hk.elim | skip
  · exact s_append ok hR hn (ty := ty) hu hk
  · exact s_cap ok hR (ty := ty) hu hk
  · exact s_copy ok hR (ty := ty) hu hk
  · exact s_delete ok hR (ty := ty) hu hk
  · exact s_len ok hR (ty := ty) hu hk
  · exact s_max hR (ty := ty) hu hk
  · exact s_min hR (ty := ty) hu hk

/-- ████ EVERY OPERATION. -/
theorem hop_sound (ok : CxOK cx) (hR : HR cx.toCx0 Γ hh used w) (hn : ¬ used nid) (o : Oper) (ρ : Operand → Value) (hρ : ∀ v, ρ (.const v) = v) {vs : List HVal} {k : KT} (hu : VRs Γ w vs ((hargs o.op).map ρ))
    (hk : hopV cx o.op vs (hget hh) nid k) : OpRes cx (execOp ρ o) hh Γ used w nid k := by
  obtain ⟨dst, op, ty, pos, aft, guard⟩ := o
  cases op <;> first | exact hk.elim | skip
  case move x =>
    simp only [hopV] at hk
    split at hk
    · obtain ⟨u, e, h⟩ := VRs_one hu
      have e' : ρ x = u := by simpa [hargs] using e
      exact s_move hR (e' ▸ h) hk
    · exact hk.elim
  case assign x =>
    simp only [hopV] at hk
    split at hk
    · obtain ⟨u, e, h⟩ := VRs_one hu
      have e' : ρ x = u := by simpa [hargs] using e
      exact s_move hR (e' ▸ h) hk
    · exact hk.elim
  case pick c x y =>
    simp only [hopV] at hk
    split at hk
    · rename_i t a b
      obtain ⟨u1, u2, u3, e, h1, h2, h3⟩ := VRs_three hu
      simp only [hargs, List.map_cons, List.map_nil, List.cons.injEq, and_true] at e
      obtain ⟨e1, e2, e3⟩ := e
      simp only [VR] at h1
      cases t
      · exact OpRes.pure hR (hk.2 rfl) (by simp [execOp, e1, h1, asBool]) (e3 ▸ h3)
      · exact OpRes.pure hR (hk.1 rfl) (by simp [execOp, e1, h1, asBool]) (e2 ▸ h2)
    · exact hk.elim
  case range t x => exact s_range (x := x) ok hR hn hu hk
  case next x b => exact s_next (x := x) hR hu hk
  case entry x => exact s_entry (x := x) hR hu hk
  case alloc e => exact s_alloc ok hR hn hk
  case box e x => exact s_box (x := x) hR hn hu hk
  case build t ps => exact s_build ok hR hu hk
  case buildSlice t n ps => exact s_buildSlice ok hR hn hu hk
  case load t x => exact s_load (x := x) ok hR hu hk
  case store t x y => exact s_store (x := x) (y := y) ok hR hu hk
  case nilCheck x => exact s_nilCheck hR rfl hu hk
  case binOp op t x y t' => exact s_binOp ok hR hρ hu hk
  case unOp op t x => exact s_unOp (x := x) hR hu hk
  case convert s d x => exact s_convert (x := x) ok hR hu hk
  case makeFunc fn a c => exact s_makeFunc hR hu hk
  case makeMap t r =>
    cases r with
    | none => exact s_makeMap hR hn hk
    | some _ => exact hk.elim
  case makeSlice t x y => exact s_makeSlice (x := x) (y := y) ok hR hn hu hk
  case slice t x lo hi mx => exact s_slice ok hR (by simpa [hargs] using hu) hk
  case fieldAddr t x f => exact s_fieldAddr (x := x) ok hR hu hk
  case field t x f => exact s_field (x := x) ok hR hu hk
  case indexAddr t x y => exact s_indexAddr (x := x) (y := y) ok hR hu hk
  case index t x y => exact s_index (x := x) (y := y) ok hR hu hk
  case lookup t x y c => exact s_lookup (x := x) (y := y) ok hR hu hk
  case mapUpdate t x y z => exact s_mapUpdate (x := x) (y := y) (z := z) ok hR hu hk
  case insert t x y z => exact s_mapUpdate (x := x) (y := y) (z := z) ok hR hu hk
  case makeInterface t x =>
    simp only [hopV] at hk
    split at hk
    · obtain ⟨u, e, h⟩ := VRs_one hu
      have e' : ρ x = u := by simpa [hargs] using e
      subst e'
      exact s_makeIface ok hR h hk
    · exact hk.elim
  case extract x i => exact s_extract (x := x) hR hu hk
  case call c =>
    obtain ⟨callee, args, ats⟩ := c
    cases callee <;> first | exact hk.elim | skip
    rename_i b
    have he : (args.toList.map ρ).toArray = args.map ρ := by apply Array.ext'; simp
    have h : ∀ consts, OpRes cx (builtin b ats ty consts (args.map ρ)) hh Γ used w nid k := fun consts => by
      have := s_builtin ok hR hn (b := b) (ats := ats) (ty := ty) (consts := consts) (us := args.toList.map ρ) (by simpa [hargs] using hu) hk
      rwa [he] at this
    exact h _
end
end Go.Hv

namespace Go.Hv
open Go

structure St where
  env : List (Nat × HVal)
  hh : List (Nat × HObj)
  next : Nat

def SR (cx : Cx) (Γ : Gam) (s : St) (tmps : Array Value) (w : World) : Prop := EL Γ w s.env tmps ∧ HR cx.toCx0 Γ s.hh (fun i => i < s.next) w

/-- The fence of all that is done here: it lets everything by; in a round of the loop r. -/
def wideR (r : Option Nat) : Fence := { fn := fun _ => True, depth := none, alive := false, round := r }

def RR (Γ : Gam) : Option Nat → Option Nat → Prop
  | none, none => True
  | some id, some b => ∃ δ, Γ.ρ id = some (b, δ)
  | _, _ => False
theorem RR_ext {Γ Γ' : Gam} {w w' : World} (E : Ext Γ w Γ' w') : ∀ {rd r : Option Nat}, RR Γ rd r → RR Γ' rd r
  | none, none, _ => trivial
  | some _, some _, ⟨δ, h⟩ => ⟨δ, E.ρ _ _ h⟩
  | none, some _, h => h.elim
  | some _, none, h => h.elim

abbrev mark (r : Nat) : Deferred := { target := .collected r, args := #[] }

/-- The marks that loops over functions have left among the deferred calls. -/
def MK (w : World) (d : List Deferred) (w' : World) (d' : List Deferred) (Γ' : Gam) (hh' : List (Nat × HObj)) : Prop :=
  ∃ ms : List Nat, d' = ms.map mark ++ d ∧ ms.Nodup ∧ ∀ r ∈ ms, w.heap.size ≤ r ∧ w'.heap[r]? = some (Obj.deferred (some [])) ∧ ¬ Owned Γ' hh' r ∧ ∀ l, ¬ Γ'.fr l r
theorem MK.refl (w : World) (d : List Deferred) (w' : World) (Γ' : Gam) (hh' : List (Nat × HObj)) : MK w d w' d Γ' hh' := ⟨[], rfl, by simp, by simp⟩
theorem MK.trans {w w1 w2 : World} {d d1 d2 : List Deferred} {Γ1 Γ2 : Gam} {h1 h2 : List (Nat × HObj)} (hsz : w.heap.size ≤ w1.heap.size) (a : MK w d w1 d1 Γ1 h1) (b : MK w1 d1 w2 d2 Γ2 h2) (E : Evo h1 Γ1 w1 h2 Γ2 w2) : MK w d w2 d2 Γ2 h2 := by
  obtain ⟨ms, e1, n1, p1⟩ := a
  obtain ⟨ns, e2, n2, p2⟩ := b
  have hlt : ∀ r ∈ ms, r < w1.heap.size := fun r hr => (Array.getElem?_eq_some_iff.1 (p1 r hr).2.1).1
  refine ⟨ns ++ ms, by rw [e2, e1]; simp, ?_, ?_⟩
  · rw [List.nodup_append]
    refine ⟨n2, n1, fun x hx y hy e => ?_⟩
    have := (p2 x hx).1
    have := hlt y hy
    omega
  · intro r hr
    rcases List.mem_append.1 hr with hr | hr
    · obtain ⟨q1, q2⟩ := p2 r hr
      exact ⟨Nat.le_trans hsz q1, q2⟩
    · obtain ⟨q1, q2, q3, q4⟩ := p1 r hr
      have hl := hlt r hr
      exact ⟨q1, (E.keep r hl q3).trans q2, fun h => (E.newown r h).elim q3 (fun h => by omega), fun l h => (E.newfr l r h).elim (q4 l) (fun h => h.elim q3 (fun h => by omega))⟩
/-- the marks stay as they are where the world goes on and no deferred call comes -/
theorem MK.keep {w w' w'' : World} {d d' : List Deferred} {Γ' Γ'' : Gam} {h' h'' : List (Nat × HObj)} (hsz : w.heap.size ≤ w'.heap.size) (a : MK w d w' d' Γ' h') (E : Evo h' Γ' w' h'' Γ'' w'') : MK w d w'' d' Γ'' h'' :=
  a.trans hsz (MK.refl _ _ _ _ _) E

/-- What a piece of code must lead to. -/
def HPost (cx : Cx) (nt : Nat) (s : St) (Γ : Gam) (d : List Deferred) (w : World) (Q : Exit → St → Prop) (e : Exit) (a' : Act) (w' : World) : Prop :=
  ∃ s' Γ', Q e s' ∧ SR cx Γ' s' a'.tmps w' ∧ Evo s.hh Γ w s'.hh Γ' w' ∧ a'.tmps.size = nt ∧ MK w d w' a'.defers Γ' s'.hh ∧ s.next ≤ s'.next

structure HWp (cx : Cx) (nt : Nat) (rd : Option Nat) (c : Code) (Q : Exit → St → Prop) (s : St) : Prop where
  run : ∀ (n : Nat) (r : Option Nat) (Γ : Gam) (a : Act) (w : World), RR Γ rd r → a.tmps.size = nt → SR cx Γ s a.tmps w → c.wpIn (wideR r) n cx.P (HPost cx nt s Γ a.defers w Q) a w

/-- What a call must lead to. -/
structure HCall (cx : Cx) (f : FuncId) (args : List HVal) (hh : List (Nat × HObj)) (next : Nat) (K : HVal → List (Nat × HObj) → Nat → Prop) : Prop where
  run : ∀ (Γ : Gam) (w : World) (vs : List Value), HR cx.toCx0 Γ hh (fun i => i < next) w → VRs Γ w args vs →
    Calls cx.P f vs.toArray w fun e w' => ∃ v hv hh' next' Γ', e = .returned v ∧ K hv hh' next' ∧ VR Γ' w' hv v ∧ HR cx.toCx0 Γ' hh' (fun i => i < next') w' ∧ Evo hh Γ w hh' Γ' w' ∧ next ≤ next'
/-- A call of yield. -/
structure HYield (cx : Cx) (id : Nat) (args : List HVal) (hh : List (Nat × HObj)) (next : Nat) (K : HVal → List (Nat × HObj) → Nat → Prop) : Prop where
  run : ∀ (n : Nat) (r : Option Nat) (Γ : Gam) (w : World) (b δ : Nat) (vs : List Value), HR cx.toCx0 Γ hh (fun i => i < next) w → Γ.ρ id = some (b, δ) → VRs Γ w args vs →
    ∃ (lp : Loop), w.heap[b]? = some (Obj.loop lp) ∧ vs.length = lp.params.size ∧
      RoundIn (wideR r) n cx.P b lp.fn ((lp.params.zip vs.toArray).foldl (fun tmps (t, a) => tmps.setIfInBounds t a) lp.tmps) lp.assign lp.body w fun e w' =>
        ∃ v hv hh' next' Γ', e = .returned v ∧ K hv hh' next' ∧ VR Γ' w' hv v ∧ HR cx.toCx0 Γ' hh' (fun i => i < next') w' ∧ Evo hh Γ w hh' Γ' w' ∧ next ≤ next'

/-! ### Operands -/
def egetK : List (Nat × HVal) → Nat → (HVal → Prop) → Prop
  | [], _, k => k .any
  | (j, v) :: r, i, k => bif Nat.beq i j then k v else egetK r i k
theorem egetK_eq : ∀ (e : List (Nat × HVal)) (i : Nat) (k : HVal → Prop), egetK e i k = k (eget e i)
  | [], _, _ => rfl
  | (j, v) :: r, i, k => by
    simp only [egetK, eget]
    cases Nat.beq i j
    · exact egetK_eq r i k
    · rfl
def gget : List (Nat × List HVal) → Nat → Option (List HVal)
  | [], _ => none
  | (j, c) :: r, i => bif Nat.beq i j then some c else gget r i
def evK (cx : Cx) (env : List (Nat × HVal)) (x : Operand) (k : HVal → Prop) : Prop :=
  match x with
  | .tmp t => egetK env t k
  | .const v => bif okV v then k (ofV v) else False
  | .global g => match gget cx.G g with
    | some c => k (.pp 0 c 0)
    | none => False
  | .func f => k (.func (.func f) [] [])
def evsK (cx : Cx) (env : List (Nat × HVal)) : List Operand → (List HVal → Prop) → Prop
  | [], k => k []
  | x :: r, k => evK cx env x fun v => evsK cx env r fun vs => k (v :: vs)
end Go.Hv

namespace Go.Hv
open Go

/-! ### Operations, one after the other -/
def putK (nt : Nat) (dst : Option Tmp) (v : HVal) (env : List (Nat × HVal)) (k : List (Nat × HVal) → Prop) : Prop :=
  match dst with
  | none => k env
  | some d => bif Nat.blt d nt then k ((d, v) :: env) else False
def callK (cx : Cx) (f : HVal) (args : List HVal) (hh : List (Nat × HObj)) (next : Nat) (K : HVal → List (Nat × HObj) → Nat → Prop) : Prop :=
  match f with
  | .func (.func g) first captured => bif cx.B g then HCall cx g (first ++ (args ++ captured)) hh next K else False
  | .yield id => HYield cx id args hh next K
  | _ => False
def isDefer : Op → Bool
  | .defer _ => true
  | _ => false
def opK (cx : Cx) (nt : Nat) (o : Oper) (s : St) (K : St → Prop) : Prop :=
  evsK cx s.env (hargs o.op) fun vs =>
    match o.op with
    | .call { callee := .value _, .. } => (match vs with
      | f :: args => callK cx f args s.hh s.next fun v hh' next' => putK nt o.dst v s.env fun env' => K ⟨env', hh', next'⟩
      | [] => False)
    | _ => hopV cx o.op vs (hget s.hh) s.next fun v ed nid' => putK nt o.dst v s.env fun env' => K ⟨env', hedit s.hh ed, nid'⟩
/-- The test in front of an operation: what it was is written down. -/
def guardK (ops : List Oper) (o : Oper) (env : List (Nat × HVal)) (K1 K0 : List (Nat × HVal) → Prop) : Prop :=
  match o.guard with
  | none => K1 env
  | some (j, want) => match (ops[j]?).bind (·.dst) with
    | none => False
    | some d => egetK env d fun v => match v with
      | .bool t => BC t (bif want then K1 ((d, .bool true) :: env) else K0 ((d, .bool true) :: env)) (bif want then K0 ((d, .bool false) :: env) else K1 ((d, .bool false) :: env))
      | _ => False
def opsK (cx : Cx) (nt : Nat) (ops : List Oper) : List Oper → St → (St → Prop) → Prop
  | [], s, K => K s
  | o :: rest, s, K => guardK ops o s.env (fun env => opK cx nt o ⟨env, s.hh, s.next⟩ fun s' => opsK cx nt ops rest s' K)
      (fun env => putK nt o.dst hundef env fun env' => opsK cx nt ops rest ⟨env', s.hh, s.next⟩ K)

section
variable {cx : Cx} {Γ : Gam} {w : World}

theorem zeroVal_ok : ∀ {v : Value} {h : HVal}, zeroVal v = some h → ∀ Γ w, VR Γ w h v := by
  intro v h hz Γ w
  unfold zeroVal at hz
  split at hz <;> cases hz <;> simp only [VR]
  exact .inl ⟨trivial, trivial⟩
theorem zeroVals_ok : ∀ {vs : List Value} {hs : List HVal}, zeroVals vs = some hs → (∀ Γ w, VRs Γ w hs vs) ∧ ∀ x ∈ vs, x.oneCell' = true
  | [], hs, h => by
    simp only [zeroVals, Option.some.injEq] at h
    subst h
    exact ⟨fun _ _ => VRs_nil, by simp⟩
  | v :: r, hs, h => by
    simp only [zeroVals] at h
    split at h
    · rename_i a b ha hb
      obtain rfl := Option.some.inj h
      obtain ⟨h1, h2⟩ := zeroVals_ok hb
      refine ⟨fun Γ w => VRs_cons (zeroVal_ok ha Γ w) (h1 Γ w), fun x hx => ?_⟩
      rcases List.mem_cons.1 hx with rfl | hx
      · unfold zeroVal at ha
        split at ha <;> cases ha <;> rfl
      · exact h2 x hx
    · cases h
theorem ofV_ok {v : Value} (h : okV v = true) (Γ : Gam) (w : World) : VR Γ w (ofV v) v := by
  unfold okV at h
  split at h
  · rename_i cs
    obtain ⟨hs, e⟩ := Option.isSome_iff_exists.1 h
    obtain ⟨h1, h2⟩ := zeroVals_ok e
    simp only [ofV, e, VR]
    exact ⟨cs.toList, by simp, h2, h1 Γ w⟩
  · rename_i hn
    obtain ⟨hv, e⟩ := Option.isSome_iff_exists.1 h
    have := zeroVal_ok e Γ w
    unfold ofV
    split
    · exact absurd rfl (hn _)
    · rw [e]; exact this

theorem gget_mem : ∀ {G : List (Nat × List HVal)} {i : Nat} {c : List HVal}, gget G i = some c → (i, c) ∈ G
  | [], _, _, h => by cases h
  | (j, d) :: r, i, c, h => by
    simp only [gget] at h
    cases e : Nat.beq i j
    · rw [e] at h; exact List.mem_cons_of_mem _ (gget_mem h)
    · rw [e] at h
      have := Nat.eq_of_beq_eq_true e
      subst this
      obtain rfl := Option.some.inj h
      exact List.mem_cons_self ..

theorem ev_ok {s : St} {a : Act} {used : Nat → Prop} (hE : EL Γ w s.env a.tmps) (hR : HR cx.toCx0 Γ s.hh used w) {x : Operand} {k : HVal → Prop} (h : evK cx s.env x k) : ∃ v, k v ∧ VR Γ w v (a.eval x) := by
  unfold evK at h
  split at h
  · rw [egetK_eq] at h
    exact ⟨_, h, hE _⟩
  · obtain ⟨h1, h2⟩ := nonOther_bif h
    exact ⟨_, h2, ofV_ok h1 Γ w⟩
  · split at h
    · rename_i g _ c hg
      obtain ⟨h1, h2⟩ := hR.glob g c (gget_mem hg)
      exact ⟨_, h, by simp only [VR]; exact ⟨g, 0, rfl, h1, h2⟩⟩
    · exact h.elim
  · refine ⟨_, h, ?_⟩
    simp only [VR]
    exact ⟨by simp, [], [], rfl, VRs_nil, VRs_nil⟩
theorem evs_ok {s : St} {a : Act} {used : Nat → Prop} (hE : EL Γ w s.env a.tmps) (hR : HR cx.toCx0 Γ s.hh used w) : ∀ {xs : List Operand} {k : List HVal → Prop}, evsK cx s.env xs k →
    ∃ vs, k vs ∧ VRs Γ w vs (xs.map a.eval)
  | [], k, h => ⟨[], h, VRs_nil⟩
  | x :: r, k, h => by
    obtain ⟨v, h1, h2⟩ := ev_ok hE hR h
    obtain ⟨vs, h3, h4⟩ := evs_ok hE hR h1
    exact ⟨v :: vs, h3, VRs_cons h2 h4⟩

theorem EL_put {env : List (Nat × HVal)} {tmps : Array Value} {d : Nat} {hv : HVal} {v : Value} (h : EL Γ w env tmps) (hd : d < tmps.size) (hv' : VR Γ w hv v) : EL Γ w ((d, hv) :: env) (tmps.setIfInBounds d v) := fun i => by
  simp only [eget]
  by_cases e : i = d
  · subst e
    rw [show Nat.beq i i = true by simp]
    simpa [hd] using hv'
  · rw [beq_ff e]
    have := h i
    simpa [Array.getD_eq_getD_getElem?, Array.getElem?_setIfInBounds_ne (Ne.symm e)] using this
theorem put_spec {nt : Nat} {dst : Option Tmp} {v : HVal} {env : List (Nat × HVal)} {k : List (Nat × HVal) → Prop} (h : putK nt dst v env k) {a : Act} (hs : a.tmps.size = nt) {u : Value} (hE : EL Γ w env a.tmps) (hv : VR Γ w v u) :
    ∃ env', k env' ∧ EL Γ w env' (a.put dst u).tmps ∧ (a.put dst u).tmps.size = nt ∧ (a.put dst u).defers = a.defers := by
  unfold putK at h
  split at h
  · exact ⟨env, h, hE, hs, rfl⟩
  · rename_i d
    obtain ⟨h1, h2⟩ := nonOther_bif h
    have hlt : d < a.tmps.size := by
      rw [hs]; exact Nat.le_of_ble_eq_true (show Nat.ble (d + 1) nt = true from h1)
    exact ⟨_, h2, EL_put hE hlt hv, by simp [Act.put, hs], rfl⟩

/-- A test has been made: its slot holds the literal. -/
theorem EL_lit {env : List (Nat × HVal)} {tmps : Array Value} (h : EL Γ w env tmps) {d : Nat} {t : Bool} (ht : eget env d = .bool t) : EL Γ w ((d, .bool t) :: env) tmps := fun i => by
  simp only [eget]
  by_cases e : i = d
  · subst e
    rw [show Nat.beq i i = true by simp]
    have := h i
    rw [ht] at this
    exact this
  · rw [beq_ff e]; exact h i

theorem hundef_ok : VR Γ w hundef undef := by simp [hundef, VR, VRs, undef]

theorem callFunc_run (ok : CxOK cx) {g : Nat} (hg : cx.B g = true) (args : Array Value) (w : World) : (callFunc g args).run cx.P w = .ok (.enter g args) w := by
  obtain ⟨fn, c, h1, h2, h3⟩ := ok.bodied g hg
  have h3' : ¬ fn.name = "runtime.NumGoroutine" := by simpa using h3
  simp [callFunc, Go.program, Sem.run, h1, h2, h3']

/-- ONE OPERATION, walked. -/
theorem op_sound (ok : CxOK cx) {nt : Nat} {o : Oper} {s : St} {K : St → Prop} {a : Act} {n : Nat} {r : Option Nat} {next : Act → World → Prop} {Q : Exit → Act → World → Prop} (hs : a.tmps.size = nt) (hS : SR cx Γ s a.tmps w)
    (h : opK cx nt o s K) (hnext : ∀ a' w' s' Γ', K s' → SR cx Γ' s' a'.tmps w' → a'.tmps.size = nt → a'.defers = a.defers → Evo s.hh Γ w s'.hh Γ' w' → s.next ≤ s'.next → next a' w') : o.wpIn (wideR r) n cx.P a w next Q := by
  obtain ⟨hE, hR⟩ := hS
  unfold opK at h
  obtain ⟨vs, h, hvs⟩ := evs_ok hE hR h
  refine ⟨fun _ _ => trivial, ?_⟩
  have main : ∀ {S : Sem Next}, (o.semAt r a.eval) = S → OpRes cx S s.hh Γ (fun i => i < s.next) w s.next (fun v ed nid' => putK nt o.dst v s.env fun env' => K ⟨env', hedit s.hh ed, nid'⟩) →
      o.uponIn (wideR r) n cx.P a next Q ((o.semAt (wideR r).round a.eval).run cx.P w) := by
    intro S hS hres
    obtain ⟨hv, ed, nid', nx, w', Γ', v, hk, hnid, hrun, hnx, hv', hR', hEvo⟩ := hres
    have e0 : (o.semAt (wideR r).round a.eval).run cx.P w = .ok nx w' := by
      show (o.semAt r a.eval).run cx.P w = _
      rw [hS, hrun]
    rw [e0]
    obtain ⟨env', hK, g1, g2, g3⟩ := put_spec hk hs (EL_ext hEvo.toExt hE) hv'
    have hR'' : HR cx.toCx0 Γ' (hedit s.hh ed) (fun i => i < nid') w' := hR'.mono (fun i hi => by rcases hi with hi | hi <;> omega)
    have fin := hnext (a.put o.dst v) w' ⟨env', hedit s.hh ed, nid'⟩ Γ' hK ⟨g1, hR''⟩ g2 g3 hEvo (by show s.next ≤ nid'; omega)
    rcases hnx with rfl | ⟨rfl, rfl⟩
    · exact fin
    · exact fin
  split at h
  · -- a call of a value
    rename_i x args ats hop
    rw [hop] at hvs
    simp only [hargs] at hvs
    cases vs with
    | nil => exact h.elim
    | cons f as =>
    simp only [VRs, List.map_cons] at hvs
    obtain ⟨fv, us, e, hf, has⟩ := hvs
    simp only [List.cons.injEq] at e
    obtain ⟨rfl, rfl⟩ := e
    have hsem : o.semAt (wideR r).round a.eval = execOp a.eval o := Oper.semAt_eq _ _ _ (by intro c e; rw [hop] at e; cases e)
    rw [hsem]
    simp only [callK] at h
    cases f <;> first | exact h.elim | skip
    case func fn first captured =>
      cases fn <;> first | exact h.elim | skip
      rename_i g
      obtain ⟨hg, h⟩ := nonOther_bif h
      simp only [VR] at hf
      obtain ⟨_, fs, cs, hfv, hfs, hcs⟩ := hf
      have hrun : (execOp a.eval o).run cx.P w = .ok (.enter g ((fs ++ (args.toList.map a.eval ++ cs)).toArray)) w := by
        have e1 : (fs.toArray ++ args.map a.eval ++ cs.toArray) = (fs ++ (args.toList.map a.eval ++ cs)).toArray := by
          apply Array.ext'
          simp [List.append_assoc]
        simp only [execOp, hop, resolve, Deferred.ofValue, hfv, Sem.run_bind, Sem.run_pure, Result.andThen_ok, invoke, callFunc_run ok hg, e1]
      rw [hrun]
      refine ⟨fun h => by simp [wideR] at h, ?_⟩
      have hc := h.run Γ w _ hR (VRs_append hfs (VRs_append has hcs))
      have hc' : CallsIn (wideR r) (n - 1) cx.P g ((fs ++ (args.toList.map a.eval ++ cs)).toArray) w _ := (callsIn_wide (n := n - 1)).2 hc
      refine hc'.mono ?_
      rintro e w' ⟨v, hv, hh', next', Γ', rfl, hk, hv', hR', hEvo, hle⟩
      obtain ⟨env', hK, g1, g2, g3⟩ := put_spec hk hs (EL_ext hEvo.toExt hE) hv'
      exact hnext (a.put o.dst v) w' ⟨env', hh', next'⟩ Γ' hK ⟨g1, hR'⟩ g2 g3 hEvo hle
    case yield id =>
      simp only [VR] at hf
      obtain ⟨b, δ, hρ, hfv⟩ := hf
      obtain ⟨lp, h1, h2, h3⟩ := h.run (n - 1) r Γ w b δ _ hR hρ has
      have hrun : (execOp a.eval o).run cx.P w = .ok (.round b lp.fn ((lp.params.zip (args.toList.map a.eval).toArray).foldl (fun tmps (t, x) => tmps.setIfInBounds t x) lp.tmps) lp.assign lp.body) w := by
        have e1 : (#[] ++ args.map a.eval ++ #[] : Array Value) = (args.toList.map a.eval).toArray := by
          apply Array.ext'; simp
        have e2 : ¬ ((args.toList.map a.eval).toArray.size ≠ lp.params.size) := by simpa using h2
        have e3 : (Instr.getLoop b).run cx.P w = .ok lp w := by simp [Instr.getLoop, getObj, Sem.run, h1]
        have e4 : (#[] ++ args.map a.eval : Array Value) = (args.toList.map a.eval).toArray := by apply Array.ext'; simp
        simp only [execOp, hop, resolve, Deferred.ofValue, hfv, Sem.run_bind, Sem.run_pure, Result.andThen_ok, invoke, Instr.yield, e3, e4, if_neg e2]
      rw [hrun]
      refine ⟨fun h => by simp [wideR] at h, ?_⟩
      refine h3.mono ?_
      rintro e w' ⟨v, hv, hh', next', Γ', rfl, hk, hv', hR', hEvo, hle⟩
      obtain ⟨env', hK, g1, g2, g3⟩ := put_spec hk hs (EL_ext hEvo.toExt hE) hv'
      exact hnext (a.put o.dst v) w' ⟨env', hh', next'⟩ Γ' hK ⟨g1, hR'⟩ g2 g3 hEvo hle
  · rename_i hnc
    have hnd : ∀ c, o.op ≠ .defer c := by
      intro c e
      rw [e] at h
      exact h
    refine main (Oper.semAt_eq r a.eval o hnd) (hop_sound ok hR (Nat.lt_irrefl _) o a.eval (fun _ => rfl) hvs h)
end
end Go.Hv
