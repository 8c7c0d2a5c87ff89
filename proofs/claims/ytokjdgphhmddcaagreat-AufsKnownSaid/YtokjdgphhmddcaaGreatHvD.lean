/- What is proved here: laws of an upper level over the model (values, heaps, operations, regions, calls), and an evaluator of closed calls that is sound. -/
import Derived.RangeFuncRecord
import Derived.Test.YtokjdgphhmddcaaGreatHvC
set_option linter.all false
namespace Go.Hv
open Go
section
variable {cx : Cx}

theorem guard_spec {Γ : Gam} {w : World} {ops : Array Oper} {o : Oper} {env : List (Nat × HVal)} {tmps : Array Value} {K1 K0 : List (Nat × HVal) → Prop} (hE : EL Γ w env tmps) (h : guardK ops.toList o env K1 K0) :
    ∃ env', EL Γ w env' tmps ∧ ((Region.wanted o (yielded ops tmps) = true ∧ K1 env') ∨ (Region.wanted o (yielded ops tmps) = false ∧ K0 env')) := by
  unfold guardK at h
  split at h
  · rename_i hg
    exact ⟨env, hE, .inl ⟨by simp [Region.wanted, hg], h⟩⟩
  · rename_i j want hg
    split at h
    · exact h.elim
    · rename_i d hd
      rw [egetK_eq] at h
      split at h
      · rename_i t ht
        have hv := hE d
        rw [ht] at hv
        simp only [VR] at hv
        have hy : yielded ops tmps j = some t := by
          have hd' : (ops[j]?).bind (·.dst) = some d := by simpa using hd
          have hlt : d < tmps.size := by
            rcases Nat.lt_or_ge d tmps.size with h0 | h0
            · exact h0
            · rw [Array.getD_eq_getD_getElem?, Array.getElem?_eq_none h0] at hv
              simp [undef] at hv
          have hge : tmps[d]? = some (.bool t) := by
            rw [Array.getD_eq_getD_getElem?, Array.getElem?_eq_getElem hlt] at hv
            rw [Array.getElem?_eq_getElem hlt]
            simpa using hv
          simp [yielded, hd', hge]
        have hw : Region.wanted o (yielded ops tmps) = (t == want) := by
          simp only [Region.wanted, hg, hy]
          cases t <;> cases want <;> rfl
        cases t
        · have hk := h.2 rfl
          refine ⟨(d, .bool false) :: env, EL_lit hE ht, ?_⟩
          cases want
          · exact .inl ⟨by rw [hw]; rfl, hk⟩
          · exact .inr ⟨by rw [hw]; rfl, hk⟩
        · have hk := h.1 rfl
          refine ⟨(d, .bool true) :: env, EL_lit hE ht, ?_⟩
          cases want
          · exact .inr ⟨by rw [hw]; rfl, hk⟩
          · exact .inl ⟨by rw [hw]; rfl, hk⟩
      · exact h.elim

theorem ops_sound (ok : CxOK cx) {nt n : Nat} {r : Option Nat} {ops : Array Oper} {Q : Exit → Act → World → Prop} {K : St → Prop} {Γ0 : Gam} {w0 : World} {s0 : St} {d0 : List Deferred}
    (hQ : ∀ a' w' s' Γ', K s' → SR cx Γ' s' a'.tmps w' → a'.tmps.size = nt → a'.defers = d0 → Evo s0.hh Γ0 w0 s'.hh Γ' w' → s0.next ≤ s'.next → Q .normal a' w') :
    ∀ (rest : List Oper) (k : Nat) (s : St) (Γ : Gam) (a : Act) (w : World), (∀ j, rest[j]? = ops[k + j]?) → SR cx Γ s a.tmps w → a.tmps.size = nt → a.defers = d0 → Evo s0.hh Γ0 w0 s.hh Γ w → s0.next ≤ s.next →
      opsK cx nt ops.toList rest s K → wpOpsIn (wideR r) n cx.P ops Q (List.range' k rest.length) a w
  | [], k, s, Γ, a, w, _, hS, hs, hd, hEv, hle, h => hQ a w s Γ h hS hs hd hEv hle
  | o :: rest, k, s, Γ, a, w, hl, hS, hs, hd, hEv, hle, h => by
    simp only [List.length_cons, List.range'_succ]
    have h0 : ops[k]? = some o := by simpa using (hl 0).symm
    have hl' : ∀ j, rest[j]? = ops[k + 1 + j]? := fun j => by
      have := hl (j + 1)
      rw [show k + 1 + j = k + (j + 1) by omega]
      simpa using this
    simp only [wpOpsIn, h0]
    simp only [opsK] at h
    obtain ⟨env', hE', ⟨hw, hk⟩ | ⟨hw, hk⟩⟩ := guard_spec hS.1 h
    · rw [if_pos hw]
      refine op_sound ok (s := ⟨env', s.hh, s.next⟩) hs ⟨hE', hS.2⟩ hk ?_
      intro a' w' s' Γ' hK hS' hs' hd' hEv' hle'
      exact ops_sound ok hQ rest (k + 1) s' Γ' a' w' hl' hS' hs' (hd'.trans hd) (hEv.trans hEv') (Nat.le_trans hle hle') hK
    · rw [if_neg (by rw [hw]; simp)]
      refine ⟨fun _ _ => trivial, ?_⟩
      obtain ⟨env'', hK, g1, g2, g3⟩ := put_spec hk hs hE' hundef_ok
      exact ops_sound ok hQ rest (k + 1) ⟨env'', s.hh, s.next⟩ Γ (a.put o.dst undef) w hl' ⟨g1, hS.2⟩ g2 (g3.trans hd) hEv hle hK

/-! ### Code -/
/-- What cannot be reckoned through: a loop, a range over a function, a region that draws, a scope. -/
def hwp (cx : Cx) (nt : Nat) (rd : Option Nat) : Code → (Exit → St → Prop) → St → Prop
  | .skip, Q, s => Q .normal s
  | .label _, Q, s => Q .normal s
  | .exit id, Q, s => Q (.exit id) s
  | .ret, Q, s => Q .ret s
  | .seq x y, Q, s => hwp cx nt rd x (fun e s' => match e with
    | .normal => hwp cx nt rd y Q s'
    | e => Q e s') s
  | .cond c x y, Q, s => match c with
    | .tmp d => egetK s.env d fun v => match v with
      | .bool t => BC t (hwp cx nt rd x Q ⟨(d, .bool true) :: s.env, s.hh, s.next⟩) (hwp cx nt rd y Q ⟨(d, .bool false) :: s.env, s.hh, s.next⟩)
      | _ => False
    | .const (.bool true) => hwp cx nt rd x Q s
    | .const (.bool false) => hwp cx nt rd y Q s
    | _ => False
  | .block id c, Q, s => hwp cx nt rd c (fun e s' => match e with
    | .exit id' => bif Nat.beq id' id then Q .normal s' else Q (.exit id') s'
    | e => Q e s') s
  | .region id ops draw, Q, s => bif draw then HWp cx nt rd (.region id ops true) Q s else opsK cx nt ops.toList ops.toList s (Q .normal)
  | .loop c, Q, s => HWp cx nt rd (.loop c) Q s
  | .rangeFunc f ps as bd, Q, s => HWp cx nt rd (.rangeFunc f ps as bd) Q s
  | .scope c, Q, s => HWp cx nt rd (.scope c) Q s
  | _, _, _ => False

theorem HPost.start {nt : Nat} {s : St} {Γ : Gam} {d : List Deferred} {w : World} {Q : Exit → St → Prop} {e : Exit} {a : Act} (hQ : Q e s) (hS : SR cx Γ s a.tmps w) (hs : a.tmps.size = nt) (hd : a.defers = d) : HPost cx nt s Γ d w Q e a w :=
  ⟨s, Γ, hQ, hS, Evo.refl _ _ _, hs, hd ▸ MK.refl _ _ _ _ _, Nat.le_refl _⟩
/-- What came before, and what comes behind. -/
theorem HPost.trans {nt : Nat} {s s1 : St} {Γ Γ1 : Gam} {d d1 : List Deferred} {w w1 : World} {Q : Exit → St → Prop} {e : Exit} {a : Act} {w' : World} (hEv : Evo s.hh Γ w s1.hh Γ1 w1) (hm : MK w d w1 d1 Γ1 s1.hh) (hle : s.next ≤ s1.next)
    (h : HPost cx nt s1 Γ1 d1 w1 Q e a w') : HPost cx nt s Γ d w Q e a w' := by
  obtain ⟨s', Γ', h1, h2, h3, h4, h5, h6⟩ := h
  exact ⟨s', Γ', h1, h2, hEv.trans h3, h4, hm.trans hEv.hsz h5 h3, Nat.le_trans hle h6⟩

theorem HWp.mono {nt : Nat} {rd : Option Nat} {c : Code} {Q Q' : Exit → St → Prop} {s : St} (h : HWp cx nt rd c Q s) (hq : ∀ e s', Q e s' → Q' e s') : HWp cx nt rd c Q' s :=
  ⟨fun n r Γ a w hr hs hS => wpIn_mono (h.run n r Γ a w hr hs hS) fun _ _ _ ⟨s', Γ', h1, h2⟩ => ⟨s', Γ', hq _ _ h1, h2⟩⟩

theorem HWp.seq {nt : Nat} {rd : Option Nat} {x y : Code} {Q : Exit → St → Prop} {s : St} (h : HWp cx nt rd x (fun e s' => match e with | .normal => HWp cx nt rd y Q s' | e => Q e s') s) : HWp cx nt rd (.seq x y) Q s :=
  ⟨fun n r Γ a w hr hs hS => by
    refine wpIn_seq (wpIn_mono (h.run n r Γ a w hr hs hS) ?_)
    rintro e a' w' ⟨s', Γ', h1, h2, h3, h4, h5, h6⟩
    cases e with
    | normal =>
      have := h1.run n r Γ' a' w' (RR_ext h3.toExt hr) h4 h2
      exact wpIn_mono this fun e a'' w'' hp => HPost.trans h3 h5 h6 hp
    | _ => exact ⟨s', Γ', h1, h2, h3, h4, h5, h6⟩⟩
theorem HWp.block {nt : Nat} {rd : Option Nat} {id : Nat} {c : Code} {Q : Exit → St → Prop} {s : St} (h : HWp cx nt rd c (fun e s' => match e with | .exit id' => bif Nat.beq id' id then Q .normal s' else Q (.exit id') s' | e => Q e s') s) :
    HWp cx nt rd (.block id c) Q s :=
  ⟨fun n r Γ a w hr hs hS => by
    refine wpIn_block (wpIn_mono (h.run n r Γ a w hr hs hS) ?_)
    rintro e a' w' ⟨s', Γ', h1, h2⟩
    cases e with
    | exit id' =>
      simp only [Exit.inBlock]
      by_cases e : id' = id
      · subst e
        rw [if_pos rfl]
        simp only [show Nat.beq id' id' = true by simp, cond_true] at h1
        exact ⟨s', Γ', h1, h2⟩
      · rw [if_neg e]
        simp only [beq_ff e, cond_false] at h1
        exact ⟨s', Γ', h1, h2⟩
    | _ => exact ⟨s', Γ', h1, h2⟩⟩

/-- ████ THE RECKONING IS SOUND. -/
theorem hwp_sound (ok : CxOK cx) {nt : Nat} {rd : Option Nat} : ∀ (c : Code) (Q : Exit → St → Prop) (s : St), hwp cx nt rd c Q s → HWp cx nt rd c Q s
  | .skip, Q, s, h => ⟨fun n r Γ a w hr hs hS => wpIn_skip (HPost.start h hS hs rfl)⟩
  | .label _, Q, s, h => ⟨fun n r Γ a w hr hs hS => wpIn_label (HPost.start h hS hs rfl)⟩
  | .exit id, Q, s, h => ⟨fun n r Γ a w hr hs hS => wpIn_exit (HPost.start h hS hs rfl)⟩
  | .ret, Q, s, h => ⟨fun n r Γ a w hr hs hS => wpIn_ret (HPost.start h hS hs rfl)⟩
  | .seq x y, Q, s, h => HWp.seq ((hwp_sound ok x _ s h).mono fun e s' h' => by
      cases e with
      | normal => exact hwp_sound ok y Q s' h'
      | _ => exact h')
  | .block id c, Q, s, h => HWp.block (hwp_sound ok c _ s h)
  | .cond c x y, Q, s, h => by
    simp only [hwp] at h
    split at h
    · rename_i d
      rw [egetK_eq] at h
      split at h
      · rename_i t ht
        refine ⟨fun n r Γ a w hr hs hS => ?_⟩
        have hv := hS.1 d
        rw [ht] at hv
        simp only [VR] at hv
        refine wpIn_cond (t := t) hv ?_
        cases t
        · exact (hwp_sound ok y Q _ (h.2 rfl)).run n r Γ a w hr hs ⟨EL_lit hS.1 ht, hS.2⟩
        · exact (hwp_sound ok x Q _ (h.1 rfl)).run n r Γ a w hr hs ⟨EL_lit hS.1 ht, hS.2⟩
      · exact h.elim
    · exact ⟨fun n r Γ a w hr hs hS => wpIn_cond_true rfl ((hwp_sound ok x Q _ h).run n r Γ a w hr hs hS)⟩
    · exact ⟨fun n r Γ a w hr hs hS => wpIn_cond_false rfl ((hwp_sound ok y Q _ h).run n r Γ a w hr hs hS)⟩
    · exact h.elim
  | .region id ops true, Q, s, h => h
  | .region id ops false, Q, s, h => ⟨fun n r Γ a w hr hs hS => by
      refine wpIn_region ?_
      have := ops_sound ok (nt := nt) (n := n) (r := r) (ops := ops) (Q := HPost cx nt s Γ a.defers w Q) (K := Q .normal) (Γ0 := Γ) (w0 := w) (s0 := s) (d0 := a.defers)
        (fun a' w' s' Γ' hK hS' hs' hd' hEv hle => ⟨s', Γ', hK, hS', hEv, hs', hd' ▸ MK.refl _ _ _ _ _, hle⟩) ops.toList 0 s Γ a w (fun j => by simp) hS hs rfl (Evo.refl _ _ _) (Nat.le_refl _) h
      simpa [List.range_eq_range'] using this⟩
  | .loop c, Q, s, h => h
  | .rangeFunc f ps as bd, Q, s, h => h
  | .scope c, Q, s, h => h
  | .goto _, Q, s, h => h.elim
  | .refuse _, Q, s, h => h.elim
end
end Go.Hv

namespace Go.Hv
open Go
section
variable {cx : Cx}

/-! ### A function is entered -/
def initEnv : Nat → List HVal → List (Nat × HVal)
  | _, [] => []
  | i, v :: r => (i, v) :: initEnv (i + 1) r
def resK (cx : Cx) : List ResultVar → St → (List HVal → Prop) → Prop
  | [], _, k => k []
  | .tmp t :: r, s, k => egetK s.env t fun v => resK cx r s fun vs => k (v :: vs)
  | .cell a t :: r, s, k => egetK s.env a fun p => hopV cx (.load t (.tmp a)) [p] (hget s.hh) 0 fun v _ _ => resK cx r s fun vs => k (v :: vs)
/-- What the activation leaves: it has come to its end, and these are its results. -/
def endK (cx : Cx) (rs : List ResultVar) (K : HVal → List (Nat × HObj) → Nat → Prop) (e : Exit) (s : St) : Prop :=
  match e with
  | .normal | .ret => resK cx rs s fun vs => K (match vs with | [v] => v | vs => .tup vs) s.hh s.next
  | _ => False

theorem initEnv_get : ∀ (args : List HVal) (i k : Nat), eget (initEnv i args) k = if i ≤ k then args.getD (k - i) .any else .any
  | [], i, k => by simp [initEnv, eget]
  | v :: r, i, k => by
    simp only [initEnv, eget]
    by_cases e : k = i
    · subst e; simp
    · rw [beq_ff e, cond_false, initEnv_get r (i + 1) k]
      by_cases h : i ≤ k
      · rw [if_pos (by omega), if_pos h, show k - i = (k - (i + 1)) + 1 by omega]; simp
      · rw [if_neg (by omega), if_neg h]
theorem EL_init {Γ : Gam} {w : World} {args : List HVal} {vs : List Value} (h : VRs Γ w args vs) (m : Nat) : EL Γ w (initEnv 0 args) (vs.toArray ++ Array.replicate m undef) := fun i => by
  rw [initEnv_get, if_pos (Nat.zero_le _), Nat.sub_zero]
  have hl := VRs_length h
  by_cases hi : i < args.length
  · obtain ⟨v, h1, h2⟩ := VRs_get h (List.getElem?_eq_getElem hi)
    have e1 : args.getD i .any = args[i] := by simp [List.getD, hi]
    rw [e1]
    have e2 : (vs.toArray ++ Array.replicate m undef).getD i undef = v := by
      rw [Array.getD_eq_getD_getElem?, Array.getElem?_append_left (by simp; omega)]
      simp [h1]
    rw [e2]; exact h2
  · have e1 : args.getD i .any = .any := by simp [List.getD, List.getElem?_eq_none (Nat.le_of_not_lt hi)]
    have e2 : (vs.toArray ++ Array.replicate m undef).getD i undef = undef := by
      rw [Array.getD_eq_getD_getElem?, Array.getElem?_append_right (by simp; omega)]
      simp only [List.size_toArray, Array.getElem?_replicate]
      split <;> rfl
    rw [e1, e2]; simp [VR]

def resOne (tmps : Array Value) (r : ResultVar) : Sem Value :=
  match r with
  | .tmp t => pure (tmps.getD t undef)
  | .cell a t => do loadVar t (← asAddr (tmps.getD a undef))
theorem results_eq (fn : Func) (tmps : Array Value) : results fn tmps = (do
    let vs ← fn.results.mapM (resOne tmps)
    pure (if h : vs.size = 1 then vs[0] else .tuple vs)) := by
  unfold results
  congr 1
theorem res_sound (ok : CxOK cx) {Γ : Gam} {w : World} {used : Nat → Prop} : ∀ {rs : List ResultVar} {s : St} {tmps : Array Value} {k : List HVal → Prop}, EL Γ w s.env tmps → HR cx.toCx0 Γ s.hh used w → resK cx rs s k →
    ∃ hs vs, k hs ∧ VRs Γ w hs vs ∧ (rs.mapM (m := Sem) (resOne tmps)).run cx.P w = .ok vs w
  | [], s, tmps, k, hE, hR, h => ⟨[], [], h, VRs_nil, rfl⟩
  | .tmp t :: r, s, tmps, k, hE, hR, h => by
    simp only [resK, egetK_eq] at h
    obtain ⟨hs, vs, h1, h2, h3⟩ := res_sound ok hE hR h
    exact ⟨_, _, h1, VRs_cons (hE t) h2, by simp [List.mapM_cons, h3, resOne]⟩
  | .cell a t :: r, s, tmps, k, hE, hR, h => by
    simp only [resK, egetK_eq] at h
    obtain ⟨hv, v, ad, h0, e1, e2, e3⟩ := load_sound ok hR (VRs_cons (hE a) VRs_nil) h
    obtain ⟨hs, vs, h1, h2, h3⟩ := res_sound ok hE hR h0
    exact ⟨_, _, h1, VRs_cons e3 h2, by simp [List.mapM_cons, h3, e1, asAddr, e2, resOne]⟩

theorem results_run (ok : CxOK cx) {Γ : Gam} {w : World} {used : Nat → Prop} {fn : Func} {s : St} {tmps : Array Value} {K : HVal → Prop} (hE : EL Γ w s.env tmps) (hR : HR cx.toCx0 Γ s.hh used w)
    (h : resK cx fn.results.toList s fun vs => K (match vs with | [v] => v | vs => .tup vs)) : ∃ hv v, K hv ∧ VR Γ w hv v ∧ (results fn tmps).run cx.P w = .ok v w := by
  obtain ⟨hs, vs, h1, h2, h3⟩ := res_sound ok hE hR h
  have hrun : (fn.results.mapM (m := Sem) (resOne tmps)).run cx.P w = .ok vs.toArray w := by
    rw [Array.mapM_eq_mapM_toList, Sem.run_map, h3]
    rfl
  have hl := VRs_length h2
  refine ⟨_, if h : vs.toArray.size = 1 then vs.toArray[0] else .tuple vs.toArray, h1, ?_, ?_⟩
  · cases hs with
    | nil =>
      have : vs = [] := List.eq_nil_of_length_eq_zero (by simpa using hl.symm)
      subst this
      simp [VR, VRs]
    | cons a r =>
      cases r with
      | nil =>
        obtain ⟨v, rfl, hv⟩ := VRs_one h2
        simpa using hv
      | cons b r =>
        have hne : ¬ vs.toArray.size = 1 := by simp at hl ⊢; omega
        rw [dif_neg hne]
        simp only [VR]
        exact ⟨vs, rfl, h2⟩
  · rw [results_eq]
    simp only [Sem.run_bind]
    rw [hrun]
    rfl

/-- A block that nobody owns, and that is never read, is turned. -/
theorem put_out {Γ : Gam} {hh : List (Nat × HObj)} {used : Nat → Prop} {w : World} {r : Nat} (o : Obj) (hR : HR cx.toCx0 Γ hh used w) (hno : ¬ Owned Γ hh r) (hnf : ∀ l, ¬ Γ.fr l r) (hnc : ∀ (arr : Array Value) (T : TypeId) (fz : Nat × Nat), w.heap[r]? ≠ some (Obj.cells arr T fz)) :
    HR cx.toCx0 Γ hh used (w.putObj r o) ∧ Ext Γ w Γ (w.putObj r o) := by
  have E : Ext Γ w Γ (w.putObj r o) := ⟨fun _ _ h => h, fun _ _ h => h, fun l b h => World.putObj_heap_other (fun e => hnf l (e ▸ h)), fun b arr T fz h => by
    have hne : b ≠ r := fun e => hnc arr T fz (e ▸ h)
    exact ⟨arr, fz, (World.putObj_heap_other hne).trans h, rfl⟩⟩
  refine ⟨⟨fun l b h => by rw [World.putObj_size]; exact hR.frlt l b h, fun id ho h => ?_, hR.inj, hR.used, fun g cs h => ?_⟩, E⟩
  · obtain ⟨b, δ, h1, h2, h3⟩ := hR.obj id ho h
    have hne : b ≠ r := fun e => hno ⟨id, ho, δ, h, e ▸ h1⟩
    exact ⟨b, δ, h1, h2, OR_ext E (World.putObj_heap_other hne) _ h3⟩
  · obtain ⟨h1, h2⟩ := hR.glob g cs h
    exact ⟨h1, CsAt_ext E cs g 0 (E.same _ _ h1) h2⟩

/-- The marks are taken off, and the results are handed over. -/
theorem leave_marks (ok : CxOK cx) {fn : Func} {n : Nat} {hh0 : List (Nat × HObj)} {Γ0 : Gam} {w0 : World} {s : St} {tmps : Array Value} {K : HVal → Prop} {R : Ending → World → Prop}
    (h : resK cx fn.results.toList s fun vs => K (match vs with | [v] => v | vs => .tup vs))
    (hfin : ∀ w' Γ' hv v, K hv → VR Γ' w' hv v → HR cx.toCx0 Γ' s.hh (fun i => i < s.next) w' → Evo hh0 Γ0 w0 s.hh Γ' w' → R (.returned v) w') :
    ∀ (ms : List Nat) (Γ : Gam) (w : World), SR cx Γ s tmps w → Evo hh0 Γ0 w0 s.hh Γ w → ms.Nodup → (∀ r ∈ ms, w0.heap.size ≤ r ∧ w.heap[r]? = some (Obj.deferred (some [])) ∧ ¬ Owned Γ s.hh r ∧ ∀ l, ¬ Γ.fr l r) →
      LeavesInM Fence.wide n cx.P fn tmps R (ms.map mark) .returning w
  | [], Γ, w, hS, hEv, _, _ => by
    obtain ⟨hv, v, h1, h2, h3⟩ := results_run ok hS.1 hS.2 h
    exact ⟨v, h3, hfin w Γ hv v h1 h2 hS.2 hEv⟩
  | r :: ms, Γ, w, hS, hEv, hnd, hms => by
    obtain ⟨q1, q2, q3, q4⟩ := hms r (by simp)
    rw [List.nodup_cons] at hnd
    obtain ⟨g1, g2⟩ := put_out (.deferred none) hS.2 q3 q4 (fun arr T fz e => by rw [q2] at e; cases e)
    refine ⟨by simp, .inl ⟨r, w.putObj r (.deferred none), rfl, run_takeDeferred q2, ?_⟩⟩
    refine leave_marks ok h hfin ms Γ _ ⟨EL_ext g2 hS.1, g1⟩ ?_ hnd.2 fun r' hr' => ?_
    · refine Evo.mk (hEv.toExt.trans g2) (by rw [World.putObj_size]; exact hEv.hsz) (fun b hb hno => ?_) hEv.newfr hEv.newown hEv.os hEv.tape hEv.output
      rw [World.putObj_heap_other (by omega)]
      exact hEv.keep b hb hno
    · obtain ⟨p1, p2, p3, p4⟩ := hms r' (by simp [hr'])
      have hne : r' ≠ r := fun e => hnd.1 (e ▸ hr')
      exact ⟨p1, (World.putObj_heap_other hne).trans p2, p3, p4⟩

/-- ████ A CALL, OUT OF ITS BODY. -/
theorem HCall.enter (ok : CxOK cx) {f : FuncId} {fn : Func} {c : Code} {args : List HVal} {hh : List (Nat × HObj)} {next : Nat} {K : HVal → List (Nat × HObj) → Nat → Prop} (hf : cx.P.funcs[f]? = some fn) (hb : fn.body = some c)
    (hl : args.length ≤ fn.ntmps) (h : HWp cx fn.ntmps none c (endK cx fn.results.toList K) ⟨initEnv 0 args, hh, next⟩) : HCall cx f args hh next K :=
  ⟨fun Γ w vs hR hvs => by
    have hvl := VRs_length hvs
    refine (callsIn_wide (n := 0)).1 (callsIn_of_wp_marks (F := Fence.wide) hf hb trivial ?_)
    have hrun := h.run 0 none Γ { tmps := vs.toArray ++ Array.replicate (fn.ntmps - vs.toArray.size) undef, defers := [] } w trivial (by simp; omega) ⟨EL_init hvs _, hR⟩
    refine wpIn_mono (show c.wpIn Fence.wide 0 cx.P _ _ w from hrun) ?_
    rintro e a' w' ⟨s', Γ', h1, h2, h3, h4, ⟨ms, h5, h6, h7⟩, h8⟩
    have fin : (resK cx fn.results.toList s' fun vs => K (match vs with | [v] => v | vs => .tup vs) s'.hh s'.next) →
        LeavesInM Fence.wide 0 cx.P fn a'.tmps (fun e w' => ∃ v hv hh' next' Γ', e = .returned v ∧ K hv hh' next' ∧ VR Γ' w' hv v ∧ HR cx.toCx0 Γ' hh' (fun i => i < next') w' ∧ Evo hh Γ w hh' Γ' w' ∧ next ≤ next') a'.defers .returning w' := by
      intro h1
      rw [h5, List.append_nil]
      exact leave_marks ok (K := fun v => K v s'.hh s'.next) h1 (fun w'' Γ'' hv v k1 k2 k3 k4 => ⟨v, hv, s'.hh, s'.next, Γ'', rfl, k1, k2, k3, k4, h8⟩) ms Γ' w' h2 h3 h6 h7
    cases e <;> first | exact h1.elim | exact fin h1⟩
end
end Go.Hv

namespace Go.Hv
open Go
section
variable {cx : Cx}

theorem exists_least {p : Nat → Prop} (h : ∃ n, p n) : ∃ n, p n ∧ ∀ m, p m → n ≤ m := by
  obtain ⟨n, hn⟩ := h
  induction n using Nat.strongRecOn with
  | _ n ih =>
    by_cases hm : ∃ m, m < n ∧ p m
    · obtain ⟨m, h1, h2⟩ := hm
      exact ih m h1 h2
    · exact ⟨n, hn, fun m h => Nat.le_of_not_lt fun hlt => hm ⟨m, hlt, h⟩⟩
open Classical in
noncomputable def least (p : Nat → Prop) : Nat := if h : ∃ n, p n then Classical.choose (exists_least h) else 0
theorem least_spec {p : Nat → Prop} {n : Nat} (h : p n) : p (least p) ∧ ∀ m, p m → least p ≤ m := by
  have hx : ∃ n, p n := ⟨n, h⟩
  unfold least
  rw [dif_pos hx]
  exact Classical.choose_spec (exists_least hx)

/-- ████ A LOOP. -/
theorem HWp.loop {nt : Nat} {rd : Option Nat} {c : Code} {Q : Exit → St → Prop} {s : St} (I : St → Prop) (μ : St → Nat) (h0 : I s)
    (round : ∀ s, I s → HWp cx nt rd c (fun e s' => match e with | .normal => I s' ∧ μ s' < μ s | e => Q e s') s) : HWp cx nt rd (.loop c) Q s :=
  ⟨fun n r Γ a w hr hs hS => by
    -- what holds of the real state at a round's head, with the measure m
    let at_ (a' : Act) (w' : World) (m : Nat) : Prop := ∃ s' Γ', I s' ∧ μ s' = m ∧ SR cx Γ' s' a'.tmps w' ∧ Evo s.hh Γ w s'.hh Γ' w' ∧ a'.tmps.size = nt ∧ MK w a.defers w' a'.defers Γ' s'.hh ∧ s.next ≤ s'.next
    refine wpIn_loop (fun a' w' => ∃ m, at_ a' w' m) (fun a' w' => least (at_ a' w')) ⟨μ s, s, Γ, h0, rfl, hS, Evo.refl _ _ _, hs, MK.refl _ _ _ _ _, Nat.le_refl _⟩ ?_
    rintro a' w' ⟨m, hm⟩
    obtain ⟨⟨s', Γ', h1, h2, h3, h4, h5, h6, h7⟩, hleast⟩ := least_spec hm
    have := (round s' h1).run n r Γ' a' w' (RR_ext h4.toExt hr) h5 h3
    refine wpIn_mono this ?_
    rintro e a'' w'' ⟨s'', Γ'', k1, k2, k3, k4, k5, k6⟩
    cases e with
    | normal =>
      obtain ⟨k0, k1⟩ := k1
      have hat : at_ a'' w'' (μ s'') := ⟨s'', Γ'', k0, rfl, k2, h4.trans k3, k4, h6.trans h4.hsz k5 k3, Nat.le_trans h7 k6⟩
      refine ⟨⟨_, hat⟩, ?_⟩
      have := (least_spec hat).2 _ hat
      show least (at_ a'' w'') < least (at_ a' w')
      omega
    | _ => exact HPost.trans h4 h6 h7 ⟨s'', Γ'', k1, k2, k3, k4, k5, k6⟩⟩

/-! ### A call of pure arguments, of a pure result -/
end
-- no block of the upper level is spoken of, and the lifetimes are of those
mutual
def noRef (okL : Nat → Bool) : HVal → Bool
  | .bp .. | .ptr .. | .sl .. | .map _ | .yield _ => false
  | .iface _ v => noRef okL v
  | .pm lf ks vs => okL lf && noRefs okL ks && noRefs okL vs
  | .pp lf cells _ => okL lf && noRefs okL cells
  | .ps lf _ _ elems => okL lf && noRefss okL elems
  | .func _ a c => noRefs okL a && noRefs okL c
  | .agg cells => noRefs okL cells
  | .tup vs => noRefs okL vs
  | _ => true
def noRefs (okL : Nat → Bool) : List HVal → Bool
  | [] => true
  | v :: r => noRef okL v && noRefs okL r
def noRefss (okL : Nat → Bool) : List (List HVal) → Bool
  | [] => true
  | v :: r => noRefs okL v && noRefss okL r
end
def anyL : Nat → Bool := fun _ => true
def otherL (lf : Nat) : Nat → Bool := fun l => !(Nat.beq l lf)

/-- What a pure value asks of two states to be related in both. -/
structure Frs (okL : Nat → Bool) (Γ : Gam) (w : World) (Γ' : Gam) (w' : World) : Prop where
  fr : ∀ l b, okL l = true → Γ.fr l b → Γ'.fr l b
  same : ∀ l b, okL l = true → Γ.fr l b → w'.heap[b]? = w.heap[b]?
mutual
theorem VR_pure {okL : Nat → Bool} {Γ Γ' : Gam} {w w' : World} (E : Frs okL Γ w Γ' w') : ∀ (h : HVal) (v : Value), noRef okL h = true → VR Γ w h v → VR Γ' w' h v
  | .bool _, _, _, h => by simpa [VR] using h
  | .int _ _, _, _, h => by simpa [VR] using h
  | .str _, _, _, h => by simpa [VR] using h
  | .nilp, _, _, h => by simpa [VR] using h
  | .nilm, _, _, h => by simpa [VR] using h
  | .nilf, _, _, h => by simpa [VR] using h
  | .pp lf cells off, _, hn, h => by
    simp only [VR] at h ⊢
    simp only [noRef, Bool.and_eq_true] at hn
    obtain ⟨b, o, h1, h2, h3⟩ := h
    exact ⟨b, o, h1, E.fr _ _ hn.1 h2, CsAt_pure E cells b o hn.2 (E.same _ _ hn.1 h2) h3⟩
  | .ps lf es full elems, _, hn, h => by
    simp only [VR] at h ⊢
    simp only [noRef, Bool.and_eq_true] at hn
    rcases h with h | ⟨b, o, cap, h1, h2, h3, h4, h5⟩
    · exact .inl h
    · exact .inr ⟨b, o, cap, h1, h2, h3, E.fr _ _ hn.1 h4, EsAt_pure E elems b o es hn.2 (E.same _ _ hn.1 h4) h5⟩
  | .func _ first captured, _, hn, h => by
    simp only [VR] at h ⊢
    simp only [noRef, Bool.and_eq_true] at hn
    obtain ⟨h0, vs, us, h1, h2, h3⟩ := h
    exact ⟨h0, vs, us, h1, VRs_pure E first vs hn.1 h2, VRs_pure E captured us hn.2 h3⟩
  | .agg cells, _, hn, h => by
    simp only [VR] at h ⊢
    simp only [noRef] at hn
    obtain ⟨vs, h1, h0, h2⟩ := h
    exact ⟨vs, h1, h0, VRs_pure E cells vs hn h2⟩
  | .tup ws, _, hn, h => by
    simp only [VR] at h ⊢
    simp only [noRef] at hn
    obtain ⟨vs, h1, h2⟩ := h
    exact ⟨vs, h1, VRs_pure E ws vs hn h2⟩
  | .any, _, _, _ => by simp [VR]
  | .pm lf ks vs, _, hn, h => by
    simp only [VR] at h ⊢
    simp only [noRef, Bool.and_eq_true] at hn
    obtain ⟨b, ents, c, h1, h2, h3, h4, h5, h6⟩ := h
    exact ⟨b, ents, c, h1, E.fr _ _ hn.1.1 h2, (E.same _ _ hn.1.1 h2).trans h3, h4, VRs_pure E ks _ hn.1.2 h5, VRs_pure E vs _ hn.2 h6⟩
  | .nili, _, _, h => by simpa [VR] using h
  | .iface _ h, _, hn, hv => by
    simp only [VR] at hv ⊢
    simp only [noRef] at hn
    obtain ⟨u, h1, h2⟩ := hv
    exact ⟨u, h1, VR_pure E h u hn h2⟩
theorem VRs_pure {okL : Nat → Bool} {Γ Γ' : Gam} {w w' : World} (E : Frs okL Γ w Γ' w') : ∀ (hs : List HVal) (vs : List Value), noRefs okL hs = true → VRs Γ w hs vs → VRs Γ' w' hs vs
  | [], _, _, h => by simpa [VRs] using h
  | c :: cs, _, hn, h => by
    simp only [VRs] at h ⊢
    simp only [noRefs, Bool.and_eq_true] at hn
    obtain ⟨v, r, h1, h2, h3⟩ := h
    exact ⟨v, r, h1, VR_pure E c v hn.1 h2, VRs_pure E cs r hn.2 h3⟩
theorem CsAt_pure {okL : Nat → Bool} {Γ Γ' : Gam} {w w' : World} (E : Frs okL Γ w Γ' w') : ∀ (cs : List HVal) (b o : Nat), noRefs okL cs = true → w'.heap[b]? = w.heap[b]? → CsAt Γ w b o cs → CsAt Γ' w' b o cs
  | [], _, _, _, _, _ => by simp [CsAt]
  | c :: cs, b, o, hn, hb, h => by
    simp only [CsAt] at h ⊢
    simp only [noRefs, Bool.and_eq_true] at hn
    obtain ⟨⟨v, h1, h0, h2⟩, h3⟩ := h
    exact ⟨⟨v, (cell_of_block hb).trans h1, h0, VR_pure E c v hn.1 h2⟩, CsAt_pure E cs b (o + 1) hn.2 hb h3⟩
theorem EsAt_pure {okL : Nat → Bool} {Γ Γ' : Gam} {w w' : World} (E : Frs okL Γ w Γ' w') : ∀ (es : List (List HVal)) (b o n : Nat), noRefss okL es = true → w'.heap[b]? = w.heap[b]? → EsAt Γ w b o n es → EsAt Γ' w' b o n es
  | [], _, _, _, _, _, _ => by simp [EsAt]
  | e :: es, b, o, n, hn, hb, h => by
    simp only [EsAt] at h ⊢
    simp only [noRefss, Bool.and_eq_true] at hn
    exact ⟨h.1, CsAt_pure E e b o hn.1 hb h.2.1, EsAt_pure E es b (o + n) n hn.2 hb h.2.2⟩
end

-- a value, its blocks taken for what they hold; lf: the lifetime that they get
mutual
inductive Pur (hh : List (Nat × HObj)) (lf : Nat) : HVal → HVal → Prop
  | refl {v : HVal} (h : noRef anyL v = true) : Pur hh lf v v
  | weak0 {l e e' : Nat} {f f' : Bool} (h : f' = true → f = true) : Pur hh lf (.ps l e f []) (.ps l e' f' [])
  | bp {id off : Nat} {cells cells' : List HVal} (h : hget hh id = some (.box cells)) (hc : PurL hh lf cells cells') : Pur hh lf (.bp id off) (.pp lf cells' off)
  | sl {id es es' i len : Nat} {cp : Cap} {f : Bool} {elems els' : List (List HVal)} (h : hget hh id = some (.arr es' elems)) (he : es = es') (hl : i + len ≤ elems.length) (hf : f = true → cp = .eq len) (hc : PurE hh lf ((elems.drop i).take len) els') : Pur hh lf (.sl id es i len cp) (.ps lf es f els')
  | agg {cs cs' : List HVal} (hc : PurL hh lf cs cs') : Pur hh lf (.agg cs) (.agg cs')
  | tup {cs cs' : List HVal} (hc : PurL hh lf cs cs') : Pur hh lf (.tup cs) (.tup cs')
  | iface {t : Nat} {v v' : HVal} (h : Pur hh lf v v') : Pur hh lf (.iface t v) (.iface t v')
  | any {v : HVal} : Pur hh lf v .any
  | map {id : Nat} {es : List (HVal × HVal)} {ks vs : List HVal} (h : hget hh id = some (.map es)) (hk : PurL hh lf (es.map (·.1)) ks) (hv : PurL hh lf (es.map (·.2)) vs) : Pur hh lf (.map id) (.pm lf ks vs)
  | func {fn : Fn} {a a' c c' : List HVal} (ha : PurL hh lf a a') (hc : PurL hh lf c c') : Pur hh lf (.func fn a c) (.func fn a' c')
inductive PurL (hh : List (Nat × HObj)) (lf : Nat) : List HVal → List HVal → Prop
  | refl {v : List HVal} (h : noRefs anyL v = true) : PurL hh lf v v
  | cons {v v' : HVal} {r r' : List HVal} (h : Pur hh lf v v') (hr : PurL hh lf r r') : PurL hh lf (v :: r) (v' :: r')
inductive PurE (hh : List (Nat × HObj)) (lf : Nat) : List (List HVal) → List (List HVal) → Prop
  | refl {v : List (List HVal)} (h : noRefss anyL v = true) : PurE hh lf v v
  | cons {v v' : List HVal} {r r' : List (List HVal)} (h : PurL hh lf v v') (hr : PurE hh lf r r') : PurE hh lf (v :: r) (v' :: r')
end

theorem MR_lists {Γ : Gam} {w : World} : ∀ {es : List (HVal × HVal)} {l : List MapEntry}, MR Γ w es l → VRs Γ w (es.map (·.1)) (l.map (·.key)) ∧ VRs Γ w (es.map (·.2)) (l.map (·.val))
  | [], _, h => by simp only [MR] at h; subst h; simp [VRs]
  | (k, v) :: r, _, h => by
    obtain ⟨e, s, rfl, h1, h2, h3⟩ := h
    obtain ⟨g1, g2⟩ := MR_lists h3
    exact ⟨VRs_cons h1 g1, VRs_cons h2 g2⟩
/-- All that is owned is let go: it is never written again. -/
def frozenG (Γ : Gam) (hh : List (Nat × HObj)) (lf : Nat) : Nat → Nat → Prop := fun l b => Γ.fr l b ∨ (l = lf ∧ Owned Γ hh b)
theorem frozen_Frs {okL : Nat → Bool} {Γ : Gam} {hh : List (Nat × HObj)} {lf : Nat} {ρ : Nat → Option (Nat × Nat)} {w : World} : Frs okL Γ w ⟨ρ, frozenG Γ hh lf⟩ w :=
  ⟨fun _ _ _ h => Or.inl h, fun _ _ _ _ => rfl⟩
mutual
theorem Pur.sound {cx0 : Cx0} {Γ : Gam} {hh : List (Nat × HObj)} {used : Nat → Prop} {w : World} {lf : Nat} {ρ : Nat → Option (Nat × Nat)} (hR : HR cx0 Γ hh used w) : ∀ {h h' : HVal} {v : Value}, Pur hh lf h h' → VR Γ w h v → VR ⟨ρ, frozenG Γ hh lf⟩ w h' v
  | _, _, _, .refl hn, hv => VR_pure frozen_Frs _ _ hn hv
  | _, _, _, .weak0 hf, hv => by
    simp only [VR] at hv ⊢
    rcases hv with hv | ⟨b, o, cap, h1, h2, h3, h4, h5⟩
    · exact .inl hv
    · exact .inr ⟨b, o, cap, h1, h2, fun h => h3 (hf h), .inl h4, by simp [EsAt]⟩
  | _, _, _, .bp (cells := cells) hg hc, hv => by
    simp only [VR] at hv ⊢
    obtain ⟨b, δ, h1, h2⟩ := hv
    obtain ⟨b', δ', h3, _, arr, T, fz, h4, h5, h6⟩ := hR.obj _ _ hg
    rw [h1] at h3
    obtain ⟨rfl, rfl⟩ : b = b' ∧ δ = δ' := by simpa using h3
    exact ⟨b, δ, h2, .inr ⟨rfl, _, _, δ, hg, h1⟩, PurL.atCs hR hc h6⟩
  | _, _, _, .sl (i := i) (len := len) (elems := elems) (els' := els') hg he hl hf hc, hv => by
    subst he
    simp only [VR] at hv ⊢
    obtain ⟨b, δ, o, cap, arr, T, fz, h1, h2, h3, h4, h5, h6, h7⟩ := hv
    obtain ⟨b', δ', q3, _, arr', T', fz', q4, q5, q6⟩ := hR.obj _ _ hg
    rw [h1] at q3
    obtain ⟨rfl, rfl⟩ : b = b' ∧ δ = δ' := by simpa using q3
    have hE := EsAt_take len (EsAt_drop i q6)
    have hlen := PurE.len hc
    have hll : els'.length = len := by rw [← hlen]; simp; omega
    refine .inr ⟨b, o, cap, by rw [hll]; exact h2, by omega, fun h => by rw [hll]; rw [hf h] at h7; exact h7, .inr ⟨rfl, _, _, δ, hg, h1⟩, ?_⟩
    rcases Nat.eq_zero_or_pos cap with h0 | h0
    · have : els' = [] := List.eq_nil_of_length_eq_zero (by omega)
      rw [this]; simp [EsAt]
    · rw [h4 h0]; exact PurE.atEs hR hc hE
  | _, _, _, .agg hc, hv => by
    simp only [VR] at hv ⊢
    obtain ⟨vs, h1, h0, h2⟩ := hv
    exact ⟨vs, h1, h0, PurL.sound hR hc h2⟩
  | _, _, _, .tup hc, hv => by
    simp only [VR] at hv ⊢
    obtain ⟨vs, h1, h2⟩ := hv
    exact ⟨vs, h1, PurL.sound hR hc h2⟩
  | _, _, _, .iface h, hv => by
    simp only [VR] at hv ⊢
    obtain ⟨u, h1, h2⟩ := hv
    exact ⟨u, h1, Pur.sound hR h h2⟩
  | _, _, _, .any, _ => by simp [VR]
  | _, _, _, .map hg hk hv, h => by
    simp only [VR] at h ⊢
    obtain ⟨b, δ, h1, rfl⟩ := h
    obtain ⟨b', δ', q3, _, ents, clock, q4, q5, q6⟩ := hR.obj _ _ hg
    rw [h1] at q3
    obtain ⟨rfl, rfl⟩ : b = b' ∧ δ = δ' := by simpa using q3
    obtain ⟨m1, m2⟩ := MR_lists q5
    exact ⟨b, ents, clock, rfl, .inr ⟨rfl, _, _, δ, hg, h1⟩, q4, q6, PurL.sound hR hk m1, PurL.sound hR hv m2⟩
  | _, _, _, .func ha hc, hv => by
    simp only [VR] at hv ⊢
    obtain ⟨h0, vs, us, h1, h2, h3⟩ := hv
    exact ⟨h0, vs, us, h1, PurL.sound hR ha h2, PurL.sound hR hc h3⟩
theorem PurL.sound {cx0 : Cx0} {Γ : Gam} {hh : List (Nat × HObj)} {used : Nat → Prop} {w : World} {lf : Nat} {ρ : Nat → Option (Nat × Nat)} (hR : HR cx0 Γ hh used w) : ∀ {h h' : List HVal} {v : List Value}, PurL hh lf h h' → VRs Γ w h v → VRs ⟨ρ, frozenG Γ hh lf⟩ w h' v
  | _, _, _, .refl hn, hv => VRs_pure frozen_Frs _ _ hn hv
  | _, _, _, .cons hp hr, hv => by
    simp only [VRs] at hv ⊢
    obtain ⟨v, r, h1, h2, h3⟩ := hv
    exact ⟨v, r, h1, Pur.sound hR hp h2, PurL.sound hR hr h3⟩
theorem PurL.atCs {cx0 : Cx0} {Γ : Gam} {hh : List (Nat × HObj)} {used : Nat → Prop} {w : World} {lf : Nat} {ρ : Nat → Option (Nat × Nat)} (hR : HR cx0 Γ hh used w) : ∀ {h h' : List HVal} {b o : Nat}, PurL hh lf h h' → CsAt Γ w b o h → CsAt ⟨ρ, frozenG Γ hh lf⟩ w b o h'
  | _, _, _, _, .refl hn, hv => CsAt_pure frozen_Frs _ _ _ hn rfl hv
  | _, _, _, _, .cons hp hr, hv => by
    simp only [CsAt] at hv ⊢
    obtain ⟨⟨v, h1, h0, h2⟩, h3⟩ := hv
    exact ⟨⟨v, h1, h0, Pur.sound hR hp h2⟩, PurL.atCs hR hr h3⟩
theorem PurE.atEs {cx0 : Cx0} {Γ : Gam} {hh : List (Nat × HObj)} {used : Nat → Prop} {w : World} {lf : Nat} {ρ : Nat → Option (Nat × Nat)} (hR : HR cx0 Γ hh used w) : ∀ {h h' : List (List HVal)} {b o n : Nat}, PurE hh lf h h' → EsAt Γ w b o n h → EsAt ⟨ρ, frozenG Γ hh lf⟩ w b o n h'
  | _, _, _, _, _, .refl hn, hv => EsAt_pure frozen_Frs _ _ _ _ hn rfl hv
  | _, _, _, _, _, .cons hp hr, hv => by
    simp only [EsAt] at hv ⊢
    exact ⟨by rw [← hv.1]; exact (PurL.len hp).symm, PurL.atCs hR hp hv.2.1, PurE.atEs hR hr hv.2.2⟩
theorem PurL.len {hh : List (Nat × HObj)} {lf : Nat} : ∀ {h h' : List HVal}, PurL hh lf h h' → h.length = h'.length
  | _, _, .refl _ => rfl
  | _, _, .cons _ hr => by simp only [List.length_cons]; rw [PurL.len hr]
theorem PurE.len {hh : List (Nat × HObj)} {lf : Nat} : ∀ {h h' : List (List HVal)}, PurE hh lf h h' → h.length = h'.length
  | _, _, .refl _ => rfl
  | _, _, .cons _ hr => by simp only [List.length_cons]; rw [PurE.len hr]
end

section
variable {cx : Cx}
def noρ : Nat → Option (Nat × Nat) := fun _ => none
def noneUsed : Nat → Prop := fun _ => False

/-- A call whose arguments and whose result speak of no block. -/
structure PSpec (cx : Cx) (f : FuncId) (args : List HVal) (v : HVal) : Prop where
  pure : noRef anyL v = true
  run : ∀ (fr : Nat → Nat → Prop) (w : World) (vs : List Value), HR cx.toCx0 ⟨noρ, fr⟩ [] noneUsed w → VRs ⟨noρ, fr⟩ w args vs →
    Calls cx.P f vs.toArray w fun e w' => ∃ u fr', e = .returned u ∧ VR ⟨noρ, fr'⟩ w' v u ∧ HR cx.toCx0 ⟨noρ, fr'⟩ [] noneUsed w' ∧ Evo [] ⟨noρ, fr⟩ w [] ⟨noρ, fr'⟩ w'

theorem not_owned_nil {Γ : Gam} {b : Nat} : ¬ Owned Γ [] b := by
  rintro ⟨id, o, δ, h, _⟩
  simp [hget] at h

theorem PSpec.intro {f : FuncId} {args : List HVal} {v : HVal} (hp : noRef anyL v = true) (h : HCall cx f args [] 0 (fun hv hh' _ => Pur hh' 0 hv v)) : PSpec cx f args v :=
  ⟨hp, fun fr w vs hR hvs => by
    refine Calls.mono (h.run ⟨noρ, fr⟩ w vs (hR.mono (fun i hi => hi.elim)) hvs) ?_
    rintro e w' ⟨u, hv, hh', next', Γ', rfl, hk, hu, hR', hE, _⟩
    refine ⟨u, frozenG Γ' hh' 0, rfl, Pur.sound hR' hk hu, ⟨?_, ?_, ?_, ?_, ?_⟩, Evo.mk ⟨?_, ?_, ?_, hE.size⟩ hE.hsz ?_ ?_ ?_ hE.os hE.tape hE.output⟩
    · rintro l b (h1 | ⟨_, id, o, δ, h1, h2⟩)
      · exact hR'.frlt l b h1
      · exact hR'.block_lt h1 h2
    · intro id o h1; simp [hget] at h1
    · intro id id' o o' b δ δ' h1; simp [hget] at h1
    · intro id x h1; simp [noρ] at h1
    · intro g cs h1
      obtain ⟨h2, h3⟩ := hR'.glob g cs h1
      refine ⟨.inl h2, ?_⟩
      exact CsAt_ext (Γ := ⟨noρ, fr⟩) (w := w) ⟨fun _ _ h => by simp [noρ] at h, fun l b h => Or.inl (hE.fr l b h), hE.same, hE.size⟩ cs g 0 (hE.same 0 g (hR.glob g cs h1).1) (hR.glob g cs h1).2
    · intro id x h1; simp [noρ] at h1
    · intro l b h1; exact .inl (hE.fr l b h1)
    · intro l b h1; exact hE.same l b h1
    · intro b hb _; exact hE.keep b hb not_owned_nil
    · rintro l b (h1 | ⟨_, h1⟩)
      · rcases hE.newfr l b h1 with h | h | h
        · exact .inl h
        · exact (not_owned_nil h).elim
        · exact .inr (.inr h)
      · rcases hE.newown b h1 with h | h
        · exact (not_owned_nil h).elim
        · exact .inr (.inr h)
    · intro b h1; exact (not_owned_nil h1).elim⟩

/-- A call that leaves the heap as it is. -/
structure PCall (cx : Cx) (f : FuncId) (args : List HVal) (hh : List (Nat × HObj)) (v : HVal) : Prop where
  run : ∀ (Γ : Gam) (used : Nat → Prop) (w : World) (vs : List Value), HR cx.toCx0 Γ hh used w → VRs Γ w args vs →
    Calls cx.P f vs.toArray w fun e w' => ∃ u Γ', e = .returned u ∧ VR Γ' w' v u ∧ HR cx.toCx0 Γ' hh used w' ∧ Evo hh Γ w hh Γ' w'

/-- ████ BLOCKS ARE LENT for a call: in it they are pure values, of the lifetime lf; what comes back does not speak of them. -/
theorem PSpec.lend {f : FuncId} {args args' : List HVal} {v : HVal} {lf : Nat} {hh : List (Nat × HObj)} (h : PSpec cx f args' v) (hp : PurL hh lf args args') (hlf : noRef (otherL lf) v = true) (hG : ∀ g cs, (g, cs) ∈ cx.G → noRefs anyL cs = true) : PCall cx f args hh v :=
  ⟨fun Γ used w vs hR hvs => by
    have hRe : HR cx.toCx0 ⟨noρ, frozenG Γ hh lf⟩ [] noneUsed w := by
      refine ⟨?_, ?_, ?_, ?_, ?_⟩
      · rintro l b (h1 | ⟨_, id, o, δ, h1, h2⟩)
        · exact hR.frlt l b h1
        · exact hR.block_lt h1 h2
      · intro id o h1; simp [hget] at h1
      · intro id id' o o' b δ δ' h1; simp [hget] at h1
      · intro id x h1; simp [noρ] at h1
      · intro g cs h1
        obtain ⟨h2, h3⟩ := hR.glob g cs h1
        exact ⟨.inl h2, CsAt_pure frozen_Frs cs g 0 (hG g cs h1) rfl h3⟩
    refine Calls.mono (h.run _ w vs hRe (PurL.sound hR hp hvs)) ?_
    rintro e w' ⟨u, fr', rfl, hu, hR', hE⟩
    let Γ' : Gam := ⟨Γ.ρ, fun l b => Γ.fr l b ∨ (l ≠ lf ∧ fr' l b ∧ w.heap.size ≤ b)⟩
    have hX : Ext Γ w Γ' w' := ⟨fun _ _ h => h, fun _ _ h => .inl h, fun l b h => hE.same l b (.inl h), hE.size⟩
    have hown : ∀ {b}, Owned Γ hh b → frozenG Γ hh lf lf b := fun h => .inr ⟨rfl, h⟩
    refine ⟨u, Γ', rfl, ?_, ⟨?_, ?_, ?_, ?_, ?_⟩, Evo.mk hX hE.hsz ?_ ?_ ?_ hE.os hE.tape hE.output⟩
    · refine VR_pure (okL := otherL lf) ⟨fun l b hl h => ?_, fun _ _ _ _ => rfl⟩ v u hlf hu
      have hne : l ≠ lf := by
        intro e; subst e; simp [otherL] at hl
      rcases hE.newfr l b h with h1 | h1 | h1
      · rcases h1 with h1 | ⟨e, _⟩
        · exact .inl h1
        · exact absurd e hne
      · exact (not_owned_nil h1).elim
      · exact .inr ⟨hne, h, h1⟩
    · rintro l b (h1 | ⟨_, h1, h2⟩)
      · exact Nat.lt_of_lt_of_le (hR.frlt l b h1) hE.hsz
      · exact hR'.frlt l b h1
    · intro id o h1
      obtain ⟨b, δ, h2, h3, h4⟩ := hR.obj id o h1
      have hb := hR.block_lt h1 h2
      refine ⟨b, δ, h2, ?_, OR_ext hX (hE.same lf b (hown ⟨id, o, δ, h1, h2⟩)) o h4⟩
      rintro l (h5 | ⟨_, _, h5⟩)
      · exact h3 l h5
      · omega
    · exact hR.inj
    · exact hR.used
    · intro g cs h1
      obtain ⟨h2, h3⟩ := hR.glob g cs h1
      exact ⟨.inl h2, CsAt_ext hX cs g 0 (hX.same _ _ h2) h3⟩
    · intro b hb hno; exact hE.keep b hb not_owned_nil
    · rintro l b (h1 | ⟨_, h1, h2⟩)
      · exact .inl h1
      · exact .inr (.inr h2)
    · intro b h1; exact .inl h1⟩
end
end Go.Hv

namespace Go.Hv
open Go

/-! ### What an operation looks at -/
def touch1 : HVal → List Nat
  | .bp id _ | .ptr id _ _ _ | .sl id _ _ _ _ | .map id => [id]
  | _ => []
def touch : List HVal → List Nat
  | [] => []
  | v :: r => touch1 v ++ touch r

section
variable {cx : Cx} {get get' : Nat → Option HObj} {nid : Nat}

theorem srcK_congr {sz : Nat} {x : HVal} {k k' : List (List HVal) → Prop} (h : ∀ id ∈ touch1 x, get' id = get id) (hk : ∀ l, k l → k' l) (hs : srcK sz get x k) : srcK sz get' x k' := by
  cases x <;> simp only [srcK, touch1, List.mem_singleton, forall_eq] at h hs ⊢ <;> first | exact ⟨hs.1, hk _ hs.2⟩ | exact hs | skip
  rw [h]
  split at hs
  · exact ⟨hs.1, hk _ hs.2⟩
  · exact hs
theorem srcA_congr {ti : TI} {utk : TK} {x : HVal} {k k' : List (List HVal) → Prop} (h : ∀ id ∈ touch1 x, get' id = get id) (hk : ∀ l, k l → k' l) (hs : srcA ti get utk x k) : srcA ti get' utk x k' := by
  unfold srcA at *
  cases utk <;> dsimp only at hs ⊢ <;> first | exact hs | exact srcK_congr h hk hs | skip
  cases x <;> dsimp only at hs ⊢ <;> first | exact hs | skip
  generalize ti.zero = z at hs
  cases z <;> simp only [flatK] at hs ⊢ <;> first | exact hs | exact ⟨hs.1, hk _ hs.2⟩
theorem nO_mono {ti : TI} {A B : Prop} (h : A → B) (a : nO ti A) : nO ti B := by
  unfold nO at *
  split at a
  · exact a
  · exact h a
theorem elemOK_mono {t : Nat} {k k' : Nat → TI → Prop} (h : ∀ e ti, k e ti → k' e ti) (a : elemOK cx t k) : elemOK cx t k' := by
  unfold elemOK at *
  split at a
  · exact nO_mono (h _ _) a
  · exact a
theorem scalarK_mono {tk : TK} {A B : Prop} (h : A → B) (a : scalarK tk A) : scalarK tk B := by
  unfold scalarK at *
  split at a <;> first | exact h a | exact a
theorem BC_mono {t : Bool} {A B A' B' : Prop} (h1 : A → A') (h2 : B → B') (a : BC t A B) : BC t A' B' := ⟨fun e => h1 (a.1 e), fun e => h2 (a.2 e)⟩

theorem hbuiltin_congr {b : Builtin} {ats : List Nat} {vs : List HVal} {k : KT} (h : ∀ id ∈ touch vs, get' id = get id) (hs : hbuiltin cx b ats vs get nid k) : hbuiltin cx b ats vs get' nid k := by
  cases b <;> first | exact hs | skip
  case len =>
    simp only [hbuiltin] at hs ⊢
    split at hs <;> first | exact hs | skip
    rename_i id
    rw [h id (by simp [touch, touch1])]
    exact hs
  case append =>
    simp only [hbuiltin] at hs ⊢
    split at hs <;> first | exact hs | skip
    rename_i t u _ d x
    refine elemOK_mono (fun e ti hs => srcA_congr (fun id hid => h id (by simp [touch, hid])) (fun l hl => ?_) hs) hs
    cases d <;> first | exact hl | skip
    refine BC_mono (fun h => h) (fun hl => ?_) hl
    rw [h _ (by simp [touch, touch1])]
    exact hl
  case delete =>
    simp only [hbuiltin] at hs ⊢
    split at hs <;> first | exact hs | skip
    split at hs <;> first | exact hs | skip
    refine scalarK_mono (fun hs => ?_) hs
    rw [h _ (by simp [touch, touch1])]
    exact hs
  case copy =>
    simp only [hbuiltin] at hs ⊢
    split at hs <;> first | exact hs | skip
    rename_i t _ id es i n _ x
    refine elemOK_mono (fun e ti hs => srcK_congr (fun id hid => h id (by simp [touch, hid])) (fun l hl => ?_) hs) hs
    rw [h id (by simp [touch, touch1])]
    exact hl

theorem hopV_congr {op : Op} {vs : List HVal} {k : KT} (h : ∀ id ∈ touch vs, get' id = get id) (hs : hopV cx op vs get nid k) : hopV cx op vs get' nid k := by
  cases op <;> first | exact hs | skip
  case load t x =>
    simp only [hopV] at hs ⊢
    refine nO_mono (fun hs => ?_) hs
    split at hs <;> first | exact hs | skip
    all_goals
      rename_i id _
      rw [h _ (by simp [touch, touch1])]
      exact hs
  case store t x y =>
    simp only [hopV] at hs ⊢
    refine nO_mono (fun hs => ?_) hs
    split at hs <;> first | exact hs | skip
    all_goals
      rw [h _ (by simp [touch, touch1])]
      exact hs
  case lookup t m y ok =>
    simp only [hopV] at hs ⊢
    split at hs <;> first | exact hs | skip
    refine nO_mono (scalarK_mono fun hs => ?_) hs
    split at hs <;> first | exact hs | skip
    rw [h _ (by simp [touch, touch1])]
    exact hs
  case mapUpdate t m y v =>
    simp only [hopV] at hs ⊢
    split at hs <;> first | exact hs | skip
    refine scalarK_mono (fun hs => ?_) hs
    split at hs <;> first | exact hs | skip
    rw [h _ (by simp [touch, touch1])]
    exact hs
  case insert t m y v =>
    simp only [hopV] at hs ⊢
    split at hs <;> first | exact hs | skip
    refine scalarK_mono (fun hs => ?_) hs
    split at hs <;> first | exact hs | skip
    rw [h _ (by simp [touch, touch1])]
    exact hs
  case convert s d x =>
    simp only [hopV] at hs ⊢
    split at hs <;> first | exact hs | skip
    split at hs <;> first | exact hs | skip
    obtain ⟨hx, hs⟩ := nonOther_bif hs
    · rw [hx]
      exact srcK_congr (fun id hid => h id (by simp [touch, hid])) (fun l hl => hl) hs
  case makeMap t r => cases r <;> exact hs
  case entry x =>
    simp only [hopV] at hs ⊢
    split at hs <;> first | exact hs | skip
    rw [h _ (by simp [touch, touch1])]
    exact hs
  case range t x =>
    simp only [hopV] at hs ⊢
    split at hs <;> first | exact hs | skip
    rw [h _ (by simp [touch, touch1])]
    exact hs
  case next x b =>
    simp only [hopV] at hs ⊢
    split at hs <;> first | exact hs | skip
    all_goals
      rw [h _ (by simp [touch, touch1])]
      exact hs
  case call c =>
    simp only [hopV] at hs ⊢
    split at hs <;> first | exact hs | skip
    exact hbuiltin_congr h hs

/-- The blocks that an operation looks into. -/
def touchOp (op : Op) (vs : List HVal) : List Nat :=
  match op with
  | .load _ _ | .store _ _ _ | .lookup _ _ _ _ | .mapUpdate _ _ _ _ | .insert _ _ _ _ | .range _ _ | .next _ _ | .entry _ | .convert _ _ _ => touch vs
  | .call c => (match c.callee with
    | .builtin .len => (match vs with
      | [.map id] => [id]
      | _ => [])
    | .builtin _ => touch vs
    | _ => [])
  | _ => []
theorem hopV_congr' {op : Op} {vs : List HVal} {k : KT} (h : ∀ id ∈ touchOp op vs, get' id = get id) (hs : hopV cx op vs get nid k) : hopV cx op vs get' nid k := by
  cases op <;> first | exact hs | exact hopV_congr h hs | skip
  case makeMap t r => cases r <;> exact hs
  case call c =>
    obtain ⟨callee, args, ats⟩ := c
    cases callee <;> first | exact hs | skip
    rename_i b
    cases b <;> first | exact hopV_congr h hs | skip
    simp only [hopV, hbuiltin] at hs ⊢
    split at hs <;> first | exact hs | skip
    rename_i id
    rw [h id (by simp [touchOp])]
    exact hs
/-- What an operation gives, and nothing else. -/
def Gives (cx : Cx) (op : Op) (vs : List HVal) (get : Nat → Option HObj) (nid : Nat) (v : HVal) (ed : Eds) (nid' : Nat) : Prop :=
  hopV cx op vs get nid fun v' ed' n' => v' = v ∧ ed' = ed ∧ n' = nid'
theorem Gives.congr {op : Op} {vs : List HVal} {v : HVal} {ed : Eds} {nid' : Nat} (h : ∀ id ∈ touchOp op vs, get' id = get id) (hs : Gives cx op vs get nid v ed nid') : Gives cx op vs get' nid v ed nid' := hopV_congr' h hs
end
end Go.Hv

namespace Go.Hv
open Go

/-! ### Regions that draw their order: what each operation does, once -/
structure Tr where
  put : Option (Nat × HVal)
  ed : Eds
  lo : Nat
  hi : Nat
  reads : List Nat
  ids : List Nat
  deriving Inhabited

def elook : Eds → Nat → Option (Option HObj)
  | [], _ => none
  | (j, o) :: r, i => match elook r i with
    | some x => some x
    | none => bif Nat.beq i j then some o else none
theorem hget_hedit : ∀ (ed : Eds) (hh : List (Nat × HObj)) (i : Nat), hget (hedit hh ed) i = (elook ed i).getD (hget hh i)
  | [], hh, i => rfl
  | (j, some o) :: r, hh, i => by
    simp only [hedit, elook]
    rw [hget_hedit r]
    cases elook r i with
    | some x => rfl
    | none =>
      simp only [Option.getD_none]
      by_cases e : i = j
      · subst e; simp [hget_hset_same]
      · simp [beq_ff e, hget_hset_other hh o e]
  | (j, none) :: r, hh, i => by
    simp only [hedit, elook]
    rw [hget_hedit r]
    cases elook r i with
    | some x => rfl
    | none =>
      simp only [Option.getD_none]
      by_cases e : i = j
      · subst e; simp [hget_hdel_same]
      · simp [beq_ff e, hget_hdel_other hh e]

def fx (x : Nat) (t : Tr) : Option HVal :=
  match t.put with
  | some (d, v) => bif Nat.beq x d then some v else none
  | none => none
def fid (id : Nat) (t : Tr) : Option (Option HObj) := elook t.ed id
/-- What stands there after those operations of S. -/
def gF {α : Type} (f : Tr → Option α) (S : Nat → Bool) : List Tr → Nat → α → α
  | [], _, cur => cur
  | t :: r, i, cur => gF f S r (i + 1) (bif S i then (f t).getD cur else cur)
theorem gF_congr {α : Type} {f : Tr → Option α} {S S' : Nat → Bool} : ∀ {l : List Tr} {i : Nat} {cur : α}, (∀ j t, l[j]? = some t → (f t).isSome = true → S (i + j) = S' (i + j)) → gF f S l i cur = gF f S' l i cur
  | [], _, _, _ => rfl
  | t :: r, i, cur, h => by
    simp only [gF]
    have e : (bif S i then (f t).getD cur else cur) = bif S' i then (f t).getD cur else cur := by
      cases hf : f t with
      | none => cases S i <;> cases S' i <;> rfl
      | some v => rw [show S i = S' i from h 0 t rfl (by rw [hf]; rfl)]
    rw [e]
    exact gF_congr fun j u hj hu => by
      have := h (j + 1) u (by simpa using hj) hu
      rwa [show i + 1 + j = i + (j + 1) by omega]
theorem gF_none {α : Type} {f : Tr → Option α} {S : Nat → Bool} : ∀ {l : List Tr} {i : Nat} {cur : α}, (∀ j t, l[j]? = some t → (f t).isSome = true → S (i + j) = false) → gF f S l i cur = cur
  | [], _, _, _ => rfl
  | t :: r, i, cur, h => by
    simp only [gF]
    have e : (bif S i then (f t).getD cur else cur) = cur := by
      cases hf : f t with
      | none => cases S i <;> rfl
      | some v => rw [show S i = false from h 0 t rfl (by rw [hf]; rfl)]; rfl
    rw [e]
    exact gF_none fun j u hj hu => by
      have := h (j + 1) u (by simpa using hj) hu
      rwa [show i + 1 + j = i + (j + 1) by omega]
theorem gF_add {α : Type} {f : Tr → Option α} {S S' : Nat → Bool} : ∀ {l : List Tr} {k i : Nat} {t0 : Tr} {cur : α}, l[k]? = some t0 → S (i + k) = false → S' (i + k) = true → (∀ j, j ≠ i + k → S' j = S j) →
    (∀ j t, l[j]? = some t → (f t).isSome = true → k < j → S (i + j) = false) → gF f S' l i cur = (f t0).getD (gF f S l i cur)
  | [], k, _, _, _, h, _, _, _, _ => by simp at h
  | t :: r, 0, i, t0, cur, h, hS, hS', hne, hl => by
    obtain rfl : t = t0 := by simpa using h
    simp only [Nat.add_zero] at hS hS'
    have hz : ∀ {S'' : Nat → Bool} {cur : α}, (∀ j, j ≠ i → S'' j = S j) → gF f S'' r (i + 1) cur = cur := fun he => gF_none fun j u hj hu => by
      rw [he _ (by omega)]
      have := hl (j + 1) u (by simpa using hj) hu (by omega)
      rwa [show i + 1 + j = i + (j + 1) by omega]
    simp only [gF]
    rw [hS, hS', hz (fun j hj => hne j (by omega)), hz (fun j hj => rfl)]
    rfl
  | t :: r, k + 1, i, t0, cur, h, hS, hS', hne, hl => by
    simp only [gF]
    rw [show S' i = S i from hne i (by omega)]
    exact gF_add (k := k) (i := i + 1) (by simpa using h) (by rwa [show i + 1 + k = i + (k + 1) by omega]) (by rwa [show i + 1 + k = i + (k + 1) by omega])
      (fun j hj => hne j (by omega)) fun j u hj hu hk => by
        have := hl (j + 1) u (by simpa using hj) hu (by omega)
        rwa [show i + 1 + j = i + (j + 1) by omega]

/-! ### Who comes before whom -/
inductive Bef (ops : Array Oper) : Nat → Nat → Prop
  | base {i : Nat} {o : Oper} {e : Edge} (h : ops[i]? = some o) (he : e ∈ o.after) (hb : Region.binds .any e = true) : Bef ops e.on i
  | step {i j : Nat} {o : Oper} {e : Edge} (h : ops[i]? = some o) (he : e ∈ o.after) (hb : Region.binds .any e = true) (hj : Bef ops j e.on) : Bef ops j i

def edgeMask (ms : List Nat) : List Edge → Nat → Nat
  | [], m => m
  | e :: r, m => edgeMask ms r (bif Region.binds .any e then m ||| (2 ^ e.on) ||| ms.getD e.on 0 else m)
/-- The masks of those that come before, one operation after the other. -/
def masks : List Oper → List Nat → List Nat
  | [], ms => ms
  | o :: r, ms => match edgeMask ms o.after.toList 0 with
    | 0 => masks r (ms ++ [0])
    | m + 1 => masks r (ms ++ [m + 1])

theorem edgeMask_ok {ops : Array Oper} {i : Nat} {o : Oper} (ho : ops[i]? = some o) {ms : List Nat} (hms : ∀ k j, (ms.getD k 0).testBit j = true → Bef ops j k) : ∀ (es : List Edge) (m : Nat), (∀ e ∈ es, e ∈ o.after) → (∀ j, m.testBit j = true → Bef ops j i) →
    ∀ j, (edgeMask ms es m).testBit j = true → Bef ops j i
  | [], m, _, hm, j, h => hm j h
  | e :: r, m, he, hm, j, h => by
    simp only [edgeMask] at h
    refine edgeMask_ok ho hms r _ (fun x hx => he x (by simp [hx])) (fun j hj => ?_) j h
    cases hb : Region.binds .any e
    · rw [hb] at hj; exact hm j hj
    · rw [hb] at hj
      simp only [cond_true, Nat.testBit_or, Bool.or_eq_true] at hj
      rcases hj with (hj | hj) | hj
      · exact hm j hj
      · have := Nat.testBit_two_pow (n := e.on) (m := j)
        rw [this] at hj
        obtain rfl : e.on = j := by simpa using hj
        exact .base ho (he e (by simp)) hb
      · exact .step ho (he e (by simp)) hb (hms _ _ hj)
theorem masks_ok {ops : Array Oper} : ∀ (l : List Oper) (ms : List Nat), (∀ j, l[j]? = ops[ms.length + j]?) → (∀ k j, (ms.getD k 0).testBit j = true → Bef ops j k) → ∀ k j, ((masks l ms).getD k 0).testBit j = true → Bef ops j k
  | [], ms, _, h, k, j, hk => h k j hk
  | o :: r, ms, hl, h, k, j, hk => by
    have ho : ops[ms.length]? = some o := by simpa using (hl 0).symm
    have e : masks (o :: r) ms = masks r (ms ++ [edgeMask ms o.after.toList 0]) := by
      simp only [masks]
      split <;> rename_i hm <;> rw [hm]
    rw [e] at hk
    refine masks_ok r _ (fun j => ?_) (fun k j hkj => ?_) k j hk
    · have := hl (j + 1)
      simp only [List.length_append, List.length_singleton]
      rw [show ms.length + 1 + j = ms.length + (j + 1) by omega]
      simpa using this
    · by_cases hlt : k < ms.length
      · rw [List.getD_eq_getElem?_getD, List.getElem?_append_left hlt, ← List.getD_eq_getElem?_getD] at hkj
        exact h k j hkj
      · rw [List.getD_eq_getElem?_getD, List.getElem?_append_right (by omega)] at hkj
        rcases Nat.lt_or_ge ms.length k with hg | hg
        · rw [List.getElem?_eq_none (by simp; omega)] at hkj
          simp at hkj
        · obtain rfl : k = ms.length := by omega
          simp only [Nat.sub_self, List.getElem?_cons_zero, Option.getD_some] at hkj
          exact edgeMask_ok ho h _ 0 (fun e he => by simpa using he) (fun j hj => by simp at hj) j hkj
theorem masks_bef {ops : Array Oper} {k j : Nat} (h : ((masks ops.toList []).getD k 0).testBit j = true) : Bef ops j k :=
  masks_ok ops.toList [] (fun j => by simp) (fun k j hk => by simp at hk) k j h

def edgesDown : List Oper → Nat → Bool
  | [], _ => true
  | o :: r, i => o.after.all (fun e => !Region.binds .any e || Nat.blt e.on i) && edgesDown r (i + 1)
theorem edgesDown_ok {ops : Array Oper} : ∀ (l : List Oper) (i : Nat), (∀ j, l[j]? = ops[i + j]?) → edgesDown l i = true → ∀ k o e, i ≤ k → ops[k]? = some o → e ∈ o.after → Region.binds .any e = true → e.on < k
  | [], i, hl, _, k, o, e, hk, ho, _, _ => by
    have := hl (k - i)
    rw [show i + (k - i) = k by omega, ho] at this
    simp at this
  | o' :: r, i, hl, h, k, o, e, hk, ho, he, hb => by
    simp only [edgesDown, Bool.and_eq_true] at h
    rcases Nat.eq_or_lt_of_le hk with rfl | hlt
    · have : ops[i]? = some o' := by simpa using (hl 0).symm
      rw [ho] at this
      obtain rfl := Option.some.inj this
      have h1 := Array.all_eq_true'.1 h.1 e he
      simp only [hb, Bool.not_true, Bool.false_or] at h1
      exact Nat.le_of_ble_eq_true h1
    · refine edgesDown_ok r (i + 1) (fun j => ?_) h.2 k o e hlt ho he hb
      have := hl (j + 1)
      rw [show i + 1 + j = i + (j + 1) by omega]
      simpa using this
theorem Bef.lt {ops : Array Oper} (hd : edgesDown ops.toList 0 = true) {j i : Nat} (h : Bef ops j i) : j < i := by
  have D := edgesDown_ok (ops := ops) ops.toList 0 (fun j => by simp) hd
  induction h with
  | base h he hb => exact D _ _ _ (Nat.zero_le _) h he hb
  | step h he hb _ ih => exact Nat.lt_trans ih (D _ _ _ (Nat.zero_le _) h he hb)
end Go.Hv

namespace Go.Hv
open Go

def putE (env : List (Nat × HVal)) (d : Option (Nat × HVal)) : List (Nat × HVal) :=
  match d with
  | none => env
  | some p => p :: env

/-- One operation of a region, from any state in which what it looks at is so. -/
structure OGo (cx : Cx) (nt : Nat) (ops : Array Oper) (i : Nat) (env : List (Nat × HVal)) (hh : List (Nat × HObj)) (used : Nat → Prop) (d : Option (Nat × HVal)) (ed : Eds) (used' : Nat → Prop) : Prop where
  run : ∀ (n : Nat) (r : Option Nat) (Γ : Gam) (a : Act) (w : World) (next : Act → World → Prop) (Q : Exit → Act → World → Prop), a.tmps.size = nt → EL Γ w env a.tmps → HR cx.toCx0 Γ hh used w →
    (∀ a' w' Γ', EL Γ' w' (putE env d) a'.tmps → HR cx.toCx0 Γ' (hedit hh ed) used' w' → a'.tmps.size = nt → a'.defers = a.defers → Evo hh Γ w (hedit hh ed) Γ' w' → next a' w') →
    wpOpIn (wideR r) n cx.P ops Q i next a w

def namesOK : Nat → List Tr → Bool
  | _, [] => true
  | n, t :: r => Nat.beq t.lo n && Nat.ble t.lo t.hi && namesOK t.hi r
def lastName : Nat → List Tr → Nat
  | n, [] => n
  | _, t :: r => lastName t.hi r
theorem namesOK_lo : ∀ {l : List Tr} {n j : Nat} {t : Tr}, namesOK n l = true → l[j]? = some t → n ≤ t.lo ∧ t.lo ≤ t.hi ∧ t.hi ≤ lastName n l
  | [], _, j, t, _, h => by simp at h
  | u :: r, n, j, t, hn, h => by
    simp only [namesOK, Bool.and_eq_true, Nat.beq_eq, Nat.ble_eq] at hn
    obtain ⟨⟨h1, h2⟩, h3⟩ := hn
    have hle : ∀ {l : List Tr} {n : Nat}, namesOK n l = true → n ≤ lastName n l := by
      intro l
      induction l with
      | nil => intro n _; exact Nat.le_refl _
      | cons v s ih =>
        intro n hv
        simp only [namesOK, Bool.and_eq_true, Nat.beq_eq, Nat.ble_eq] at hv
        have := ih hv.2
        simp only [lastName]
        omega
    cases j with
    | zero =>
      obtain rfl : u = t := by simpa using h
      exact ⟨by omega, h2, hle h3⟩
    | succ j =>
      obtain ⟨g1, g2, g3⟩ := namesOK_lo (j := j) h3 (by simpa using h)
      exact ⟨by omega, g2, g3⟩
theorem namesOK_lt : ∀ {l : List Tr} {n i j : Nat} {t u : Tr}, namesOK n l = true → l[i]? = some t → l[j]? = some u → i < j → t.hi ≤ u.lo
  | [], _, i, _, t, _, _, h, _, _ => by simp at h
  | v :: r, n, i, j, t, u, hn, h, k, hl => by
    simp only [namesOK, Bool.and_eq_true, Nat.beq_eq, Nat.ble_eq] at hn
    obtain ⟨⟨h1, h2⟩, h3⟩ := hn
    cases j with
    | zero => omega
    | succ j =>
      cases i with
      | zero =>
        obtain rfl : v = t := by simpa using h
        exact (namesOK_lo (j := j) h3 (by simpa using k)).1
      | succ i => exact namesOK_lt h3 (by simpa using h) (by simpa using k) (by omega)

/-- What the one writes, the other looks at, or writes. -/
def confl (t u : Tr) : Bool :=
  (match u.put with
   | some (x, _) => t.reads.any (Nat.beq x) || (match t.put with | some (y, _) => Nat.beq x y | none => false)
   | none => false) || u.ed.any fun p => t.ids.any (Nat.beq p.1) || t.ed.any fun q => Nat.beq p.1 q.1
def chkAt (ms : List Nat) (i : Nat) (t : Tr) : List Tr → Nat → Bool
  | [], _ => true
  | u :: r, j => (Nat.beq i j || !confl t u || (ms.getD i 0).testBit j || (ms.getD j 0).testBit i) && chkAt ms i t r (j + 1)
def chkAll (ms : List Nat) (all : List Tr) : List Tr → Nat → Bool
  | [], _ => true
  | t :: r, i => chkAt ms i t all 0 && chkAll ms all r (i + 1)
theorem chkAt_ok {ms : List Nat} {i : Nat} {t : Tr} : ∀ {l : List Tr} {k j : Nat} {u : Tr}, chkAt ms i t l k = true → l[j]? = some u → i ≠ k + j → confl t u = true → (ms.getD i 0).testBit (k + j) = true ∨ (ms.getD (k + j) 0).testBit i = true
  | [], _, j, _, _, h, _, _ => by simp at h
  | v :: r, k, 0, u, hc, h, hne, hf => by
    obtain rfl : v = u := by simpa using h
    simp only [chkAt, Bool.and_eq_true, Bool.or_eq_true, hf, Bool.not_true, Nat.beq_eq] at hc
    rcases hc.1 with ((hc | hc) | hc) | hc
    · exact absurd hc (by simpa using hne)
    · cases hc
    · exact .inl hc
    · exact .inr hc
  | v :: r, k, j + 1, u, hc, h, hne, hf => by
    simp only [chkAt, Bool.and_eq_true] at hc
    rw [show k + (j + 1) = k + 1 + j by omega] at hne ⊢
    exact chkAt_ok hc.2 (by simpa using h) hne hf
theorem chkAll_ok {ms : List Nat} {all : List Tr} : ∀ {l : List Tr} {k i : Nat} {t : Tr}, chkAll ms all l k = true → l[i]? = some t → chkAt ms (k + i) t all 0 = true
  | [], _, i, _, _, h => by simp at h
  | v :: r, k, 0, t, hc, h => by
    obtain rfl : v = t := by simpa using h
    simp only [chkAll, Bool.and_eq_true] at hc
    exact hc.1
  | v :: r, k, i + 1, t, hc, h => by
    simp only [chkAll, Bool.and_eq_true] at hc
    rw [show k + (i + 1) = k + 1 + i by omega]
    exact chkAll_ok hc.2 (by simpa using h)
theorem elook_mem : ∀ {ed : Eds} {id : Nat}, (elook ed id).isSome = true → ∃ p ∈ ed, p.1 = id
  | [], id, h => by simp [elook] at h
  | (j, o) :: r, id, h => by
    simp only [elook] at h
    cases hr : elook r id with
    | some x =>
      obtain ⟨p, hp, e⟩ := elook_mem (ed := r) (id := id) (by rw [hr]; rfl)
      exact ⟨p, by simp [hp], e⟩
    | none =>
      rw [hr] at h
      by_cases e : id = j
      · exact ⟨(j, o), by simp, e.symm⟩
      · simp [beq_ff e] at h
theorem confl_id {t u : Tr} {id : Nat} (hu : (elook u.ed id).isSome = true) (ht : id ∈ t.ids ∨ (elook t.ed id).isSome = true) : confl t u = true := by
  obtain ⟨p, hp, rfl⟩ := elook_mem hu
  simp only [confl, Bool.or_eq_true, List.any_eq_true, Nat.beq_eq]
  refine .inr ⟨p, hp, ?_⟩
  rcases ht with ht | ht
  · exact .inl ⟨_, ht, rfl⟩
  · obtain ⟨q, hq, e⟩ := elook_mem ht
    exact .inr ⟨q, hq, e.symm⟩
theorem fx_some {x : Nat} {t : Tr} (h : (fx x t).isSome = true) : ∃ v, t.put = some (x, v) := by
  unfold fx at h
  split at h
  · rename_i d v hp
    by_cases e : x = d
    · subst e; exact ⟨v, hp⟩
    · simp [beq_ff e] at h
  · cases h
theorem confl_x {t u : Tr} {x : Nat} (hu : (fx x u).isSome = true) (ht : x ∈ t.reads ∨ (fx x t).isSome = true) : confl t u = true := by
  obtain ⟨v, hp⟩ := fx_some hu
  simp only [confl, hp, Bool.or_eq_true, List.any_eq_true, Nat.beq_eq]
  refine .inl ?_
  rcases ht with ht | ht
  · exact .inl ⟨_, ht, rfl⟩
  · obtain ⟨v', hq⟩ := fx_some ht
    exact .inr (by simp [hq])
theorem eget_putE (env : List (Nat × HVal)) (t : Tr) (x : Nat) : eget (putE env t.put) x = (fx x t).getD (eget env x) := by
  unfold putE fx
  cases t.put with
  | none => rfl
  | some p =>
    obtain ⟨d, v⟩ := p
    simp only [eget]
    cases Nat.beq x d <;> rfl
theorem EL_congr {Γ : Gam} {w : World} {env env' : List (Nat × HVal)} {tmps : Array Value} (h : ∀ x, eget env x = eget env' x) (hE : EL Γ w env tmps) : EL Γ w env' tmps := fun i => h i ▸ hE i
theorem SR_drawn {cx : Cx} {Γ : Gam} {s : St} {tmps : Array Value} {w : World} (h : SR cx Γ s tmps w) (k : Nat) : SR cx Γ s tmps { w with drawn := k } ∧ Evo s.hh Γ w s.hh Γ { w with drawn := k } := by
  have E : Ext Γ w Γ { w with drawn := k } := ⟨fun _ _ h => h, fun _ _ h => h, fun _ _ _ => rfl, fun _ _ _ _ h => ⟨_, _, h, rfl⟩⟩
  refine ⟨⟨EL_ext E h.1, ⟨h.2.frlt, fun id o ho => ?_, h.2.inj, h.2.used, fun g cs hg => ?_⟩⟩, Evo.mk E (Nat.le_refl _) (fun _ _ _ => rfl) (fun _ _ h => .inl h) (fun _ h => .inl h) rfl rfl rfl⟩
  · obtain ⟨b, δ, h1, h2, h3⟩ := h.2.obj id o ho
    exact ⟨b, δ, h1, h2, OR_ext E rfl o h3⟩
  · obtain ⟨h1, h2⟩ := h.2.glob g cs hg
    exact ⟨h1, CsAt_ext E cs g 0 rfl h2⟩

def below (i : Nat) : Nat → Bool := fun k => Nat.blt k i
def everyone : Nat → Bool := fun _ => true

/-- All that the rule asks: of the region, of its trace. -/
structure Drawn (cx : Cx) (nt : Nat) (ops : Array Oper) (s : St) (tr : List Tr) : Prop where
  len : tr.length = ops.size
  down : edgesDown ops.toList 0 = true
  chk : ∀ i j t u, tr[i]? = some t → tr[j]? = some u → i ≠ j → confl t u = true → ((masks ops.toList []).getD i 0).testBit j = true ∨ ((masks ops.toList []).getD j 0).testBit i = true
  names : namesOK s.next tr = true
  go : ∀ i t, tr[i]? = some t → ∀ env hh (used : Nat → Prop), (∀ x ∈ t.reads, eget env x = gF (fx x) (below i) tr 0 (eget s.env x)) → (∀ id ∈ t.ids, hget hh id = gF (fid id) (below i) tr 0 (hget s.hh id)) →
    (∀ id, t.lo ≤ id → id < t.hi → ¬ used id) → OGo cx nt ops i env hh used t.put t.ed (upto used t.lo t.hi)

theorem Drawn.comp {cx : Cx} {nt : Nat} {ops : Array Oper} {s : St} {tr : List Tr} (D : Drawn cx nt ops s tr) {i j : Nat} {t u : Tr} (hi : tr[i]? = some t) (hj : tr[j]? = some u) (hne : i ≠ j) (hc : confl t u = true) : Bef ops j i ∨ Bef ops i j := by
  exact (D.chk i j t u hi hj hne hc).imp masks_bef masks_bef
end Go.Hv

namespace Go.Hv
open Go
section
variable {cx : Cx} {nt : Nat} {ops : Array Oper} {s : St} {tr : List Tr}

abbrev lis (listed : Array Bool) : Nat → Bool := fun i => listed.getD i false
theorem ready_iff {listed : Array Bool} (hsz : listed.size = ops.size) {i : Nat} : i ∈ Region.ready .any ops listed ↔ ∃ o, ops[i]? = some o ∧ lis listed i = false ∧ ∀ e ∈ o.after, Region.binds .any e = true → lis listed e.on = true := by
  simp only [Region.ready, List.mem_filter, List.mem_range, Bool.and_eq_true, Bool.not_eq_true']
  constructor
  · rintro ⟨h1, h2, h3⟩
    have h4 : ops[i]? = some ops[i] := Array.getElem?_eq_getElem h1
    rw [h4] at h3
    simp only [Option.map_some, Option.getD_some] at h3
    refine ⟨_, h4, ?_, fun e he hb => ?_⟩
    · rw [Array.getD_eq_getD_getElem?, Array.getElem?_eq_getElem (by omega)] at h2
      simp only [lis, Array.getD_eq_getD_getElem?, Array.getElem?_eq_getElem (show i < listed.size by omega)]
      exact h2
    · have := Array.all_eq_true'.1 h3 e he
      simpa [hb] using this
  · rintro ⟨o, h1, h2, h3⟩
    have hlt : i < ops.size := (Array.getElem?_eq_some_iff.1 h1).1
    refine ⟨hlt, ?_, ?_⟩
    · rw [Array.getD_eq_getD_getElem?, Array.getElem?_eq_getElem (by omega)]
      simp only [lis, Array.getD_eq_getD_getElem?, Array.getElem?_eq_getElem (show i < listed.size by omega)] at h2
      exact h2
    · rw [h1]
      simp only [Option.map_some, Option.getD_some]
      refine Array.all_eq_true'.2 fun e he => ?_
      cases hb : Region.binds .any e
      · simp
      · have := h3 e he hb
        simpa using this

/-- Where the region stands. -/
structure Mid (cx : Cx) (nt : Nat) (ops : Array Oper) (s : St) (tr : List Tr) (Γ0 : Gam) (w0 : World) (d0 : List Deferred) (listed : Array Bool) (a : Act) (w : World) (env : List (Nat × HVal)) (hh : List (Nat × HObj)) (Γ : Gam) : Prop where
  size : listed.size = ops.size
  down : ∀ i o e, ops[i]? = some o → lis listed i = true → e ∈ o.after → Region.binds .any e = true → lis listed e.on = true
  el : EL Γ w env a.tmps
  hr : HR cx.toCx0 Γ hh (fun id => id < s.next ∨ ∃ j t, lis listed j = true ∧ tr[j]? = some t ∧ t.lo ≤ id ∧ id < t.hi) w
  sz : a.tmps.size = nt
  df : a.defers = d0
  evo : Evo s.hh Γ0 w0 hh Γ w
  env : ∀ x, eget env x = gF (fx x) (lis listed) tr 0 (eget s.env x)
  hh : ∀ id, hget hh id = gF (fid id) (lis listed) tr 0 (hget s.hh id)

theorem Mid.bef {Γ0 : Gam} {w0 : World} {d0 : List Deferred} {listed : Array Bool} {a : Act} {w : World} {env : List (Nat × HVal)} {hh : List (Nat × HObj)} {Γ : Gam} (M : Mid cx nt ops s tr Γ0 w0 d0 listed a w env hh Γ) {i j : Nat} (h : Bef ops j i) : lis listed i = true → lis listed j = true := by
  induction h with
  | base h he hb => exact fun hl => M.down _ _ _ h hl he hb
  | step h he hb _ ih => exact fun hl => ih (M.down _ _ _ h hl he hb)

theorem count_step {n : Nat} {p q : Nat → Bool} {i : Nat} (hi : i < n) (hp : p i = true) (hq : q i = false) (hne : ∀ j, j ≠ i → q j = p j) : (List.range n).countP p = (List.range n).countP q + 1 := by
  induction n with
  | zero => omega
  | succ n ih =>
    simp only [List.range_succ, List.countP_append, List.countP_cons, List.countP_nil]
    by_cases e : i = n
    · subst e
      have : (List.range i).countP p = (List.range i).countP q := List.countP_congr fun j hj => by
        rw [hne j (by have := List.mem_range.1 hj; omega)]
      rw [this, hp, hq]
      simp
    · rw [ih (by omega), hne n (by omega)]
      omega

theorem Mid.fin {Γ0 : Gam} {w0 : World} {d0 : List Deferred} {listed : Array Bool} {a : Act} {w : World} {env : List (Nat × HVal)} {hh : List (Nat × HObj)} {Γ : Gam} (D : Drawn cx nt ops s tr) (M : Mid cx nt ops s tr Γ0 w0 d0 listed a w env hh Γ) (hall : ∀ i, i < ops.size → lis listed i = true) :
    (∀ x, eget env x = gF (fx x) everyone tr 0 (eget s.env x)) ∧ (∀ id, hget hh id = gF (fid id) everyone tr 0 (hget s.hh id)) ∧ HR cx.toCx0 Γ hh (fun id => id < lastName s.next tr) w := by
  have hl : ∀ j t, tr[j]? = some t → lis listed (0 + j) = everyone (0 + j) := fun j t h => by
    have : j < tr.length := (List.getElem?_eq_some_iff.1 h).1
    rw [Nat.zero_add, hall j (by rw [← D.len]; exact this)]; rfl
  refine ⟨fun x => (M.env x).trans (gF_congr fun j t h _ => hl j t h), fun id => (M.hh id).trans (gF_congr fun j t h _ => hl j t h), M.hr.mono fun id h => ?_⟩
  rcases h with h | ⟨j, t, _, h2, h3, h4⟩
  · cases htr : tr with
    | nil => simpa [lastName, htr] using h
    | cons t r =>
      have := namesOK_lo (j := 0) D.names (by rw [htr]; rfl)
      rw [← htr]
      omega
  · have := namesOK_lo D.names h2
    omega

theorem drawn_run (D : Drawn cx nt ops s tr) {Γ0 : Gam} {w0 : World} {d0 : List Deferred} {n : Nat} {r : Option Nat} {Q : Exit → Act → World → Prop}
    (hQ : ∀ a w env hh Γ, EL Γ w env a.tmps → HR cx.toCx0 Γ hh (fun id => id < lastName s.next tr) w → a.tmps.size = nt → a.defers = d0 → Evo s.hh Γ0 w0 hh Γ w → (∀ x, eget env x = gF (fx x) everyone tr 0 (eget s.env x)) →
      (∀ id, hget hh id = gF (fid id) everyone tr 0 (hget s.hh id)) → Q .normal a w) :
    ∀ (fuel : Nat) (listed : Array Bool) (a : Act) (w : World) (env : List (Nat × HVal)) (hh : List (Nat × HObj)) (Γ : Gam), (List.range ops.size).countP (fun i => !lis listed i) = fuel → Mid cx nt ops s tr Γ0 w0 d0 listed a w env hh Γ →
      wpAnyIn (wideR r) n cx.P .any ops Q fuel listed a w := by
  intro fuel
  have fin : ∀ {listed : Array Bool} {a : Act} {w : World} {env : List (Nat × HVal)} {hh : List (Nat × HObj)} {Γ : Gam}, Mid cx nt ops s tr Γ0 w0 d0 listed a w env hh Γ → Region.ready .any ops listed = [] → Q .normal a w := by
    intro listed a w env hh Γ M hr
    have hall : ∀ i, i < ops.size → lis listed i = true := by
      intro i
      induction i using Nat.strongRecOn with
      | _ i ih =>
        intro hi
        cases hl : lis listed i with
        | true => rfl
        | false =>
          have : i ∈ Region.ready .any ops listed := (ready_iff M.size).2 ⟨ops[i], Array.getElem?_eq_getElem hi, hl, fun e he hb => by
            have hlt := edgesDown_ok (ops := ops) ops.toList 0 (fun j => by simp) D.down i _ e (Nat.zero_le _) (Array.getElem?_eq_getElem hi) he hb
            exact ih _ hlt (by omega)⟩
          rw [hr] at this
          cases this
    obtain ⟨h1, h2, h3⟩ := M.fin D hall
    exact hQ a w env hh Γ M.el h3 M.sz M.df M.evo h1 h2
  induction fuel with
  | zero =>
    intro listed a w env hh Γ hc M
    have hall : ∀ i, i < ops.size → lis listed i = true := by
      intro i hi
      have := List.countP_eq_zero.1 hc i (List.mem_range.2 hi)
      simpa using this
    have hr : Region.ready .any ops listed = [] := by
      apply List.eq_nil_iff_forall_not_mem.2
      intro i hi
      obtain ⟨o, h1, h2, _⟩ := (ready_iff M.size).1 hi
      rw [hall i (Array.getElem?_eq_some_iff.1 h1).1] at h2
      cases h2
    exact ⟨hr, fin M hr⟩
  | succ fuel ih =>
    intro listed a w env hh Γ hc M
    refine ⟨fun hr => fin M hr, fun i hi => ?_⟩
    obtain ⟨o, h1, h2, h3⟩ := (ready_iff M.size).1 hi
    have hlt : i < ops.size := (Array.getElem?_eq_some_iff.1 h1).1
    have htl : i < tr.length := by rw [D.len]; exact hlt
    have ht : tr[i]? = some tr[i] := List.getElem?_eq_getElem htl
    have hbefi : ∀ j, Bef ops j i → lis listed j = true := by
      intro j hb
      cases hb with
      | base h he hb => rw [h1] at h; obtain rfl := Option.some.inj h; exact h3 _ he hb
      | step h he hb hj => rw [h1] at h; obtain rfl := Option.some.inj h; exact M.bef hj (h3 _ he hb)
    have hwho : ∀ j u, tr[j]? = some u → (confl tr[i] u = true ∨ confl u tr[i] = true) → lis listed j = below i j := by
      intro j u hj hcf
      by_cases e : j = i
      · subst e; rw [h2]; exact (show below j j = false by rw [below, ← Bool.not_eq_true]; intro e; exact Nat.lt_irrefl j (Nat.le_of_ble_eq_true e)).symm
      · have hb : Bef ops j i ∨ Bef ops i j := by
          rcases hcf with hcf | hcf
          · exact D.comp ht hj (Ne.symm e) hcf
          · exact (D.comp hj ht e hcf).symm
        rcases hb with hb | hb
        · rw [hbefi j hb]
          have := hb.lt D.down
          exact (Nat.ble_eq_true_of_le this : below i j = true).symm
        · have hlt' := hb.lt D.down
          have hf : lis listed j = false := by
            cases hl : lis listed j with
            | false => rfl
            | true => rw [M.bef hb hl] at h2; cases h2
          rw [hf]
          cases hbl : below i j with
          | false => rfl
          | true =>
            have : j + 1 ≤ i := Nat.le_of_ble_eq_true hbl
            omega
    have hgo := D.go i _ ht env hh (fun id => id < s.next ∨ ∃ j t, lis listed j = true ∧ tr[j]? = some t ∧ t.lo ≤ id ∧ id < t.hi)
      (fun x hx => (M.env x).trans (gF_congr fun j u hj hu => by
        rw [Nat.zero_add]; exact hwho j u hj (.inl (confl_x hu (.inl hx)))))
      (fun id hid => (M.hh id).trans (gF_congr fun j u hj hu => by
        rw [Nat.zero_add]; exact hwho j u hj (.inl (confl_id hu (.inl hid)))))
      (fun id k1 k2 k3 => by
        have hlo := namesOK_lo D.names ht
        rcases k3 with k3 | ⟨j, u, k4, k5, k6, k7⟩
        · omega
        · rcases Nat.lt_trichotomy i j with hij | hij | hij
          · have := namesOK_lt D.names ht k5 hij; omega
          · subst hij; rw [h2] at k4; cases k4
          · have := namesOK_lt D.names k5 ht hij; omega)
    refine hgo.run n r Γ a w _ Q M.sz M.el M.hr fun a' w' Γ' g1 g2 g3 g4 g5 => ?_
    have hsetS : lis (listed.setIfInBounds i true) i = true := by
      simp only [lis, Array.getD_eq_getD_getElem?]
      rw [Array.getElem?_setIfInBounds_self_of_lt (by rw [M.size]; exact hlt)]
      rfl
    have hsetO : ∀ j, j ≠ i → lis (listed.setIfInBounds i true) j = lis listed j := fun j hj => by
      simp only [lis, Array.getD_eq_getD_getElem?]
      rw [Array.getElem?_setIfInBounds_ne (Ne.symm hj)]
    refine ih _ a' w' (putE env tr[i].put) (hedit hh tr[i].ed) Γ' ?_ ⟨by simpa using M.size, ?_, g1, g2.mono ?_, g3, g4.trans M.df, M.evo.trans g5, fun x => ?_, fun id => ?_⟩
    · have := count_step (n := ops.size) (p := fun i => !lis listed i) (q := fun j => !lis (listed.setIfInBounds i true) j) hlt (by simp [h2]) (by simp [hsetS]) (fun j hj => by simp [hsetO j hj])
      omega
    · intro j o' e ho hl he hb
      by_cases ej : j = i
      · subst ej
        rw [h1] at ho
        obtain rfl := Option.some.inj ho
        by_cases ee : e.on = j
        · rw [ee]; exact hsetS
        · rw [hsetO _ ee]; exact h3 e he hb
      · rw [hsetO j ej] at hl
        have := M.down j o' e ho hl he hb
        by_cases ee : e.on = i
        · rw [ee]; exact hsetS
        · rw [hsetO _ ee]; exact this
    · intro id hid
      rcases hid with (hid | ⟨j, u, q1, q2⟩) | hid
      · exact .inl hid
      · refine .inr ⟨j, u, ?_, q2⟩
        by_cases ej : j = i
        · rw [ej]; exact hsetS
        · rw [hsetO j ej]; exact q1
      · exact .inr ⟨i, _, hsetS, ht, hid⟩
    · rw [eget_putE, M.env x]
      cases hf : fx x tr[i] with
      | none =>
        refine gF_congr fun j u hj hu => ?_
        rw [Nat.zero_add]
        by_cases ej : j = i
        · subst ej
          rw [ht] at hj
          obtain rfl := Option.some.inj hj
          rw [hf] at hu; cases hu
        · exact (hsetO j ej).symm
      | some v =>
        have := gF_add (f := fx x) (k := i) (i := 0) (cur := eget s.env x) ht (by rw [Nat.zero_add]; exact h2) (by rw [Nat.zero_add]; exact hsetS) (fun j hj => hsetO j (by omega)) (fun j u hj hu hlt' => by
          rw [Nat.zero_add, hwho j u hj (.inl (confl_x hu (.inr (by rw [hf]; rfl))))]
          cases hb : below i j with
          | false => rfl
          | true =>
            have : j + 1 ≤ i := Nat.le_of_ble_eq_true hb
            omega)
        rw [this, hf]
    · rw [hget_hedit, M.hh id]
      cases hf : elook tr[i].ed id with
      | none =>
        refine gF_congr fun j u hj hu => ?_
        rw [Nat.zero_add]
        by_cases ej : j = i
        · subst ej
          rw [ht] at hj
          obtain rfl := Option.some.inj hj
          rw [show fid id tr[j] = none from hf] at hu; cases hu
        · exact (hsetO j ej).symm
      | some v =>
        have := gF_add (f := fid id) (k := i) (i := 0) (cur := hget s.hh id) ht (by rw [Nat.zero_add]; exact h2) (by rw [Nat.zero_add]; exact hsetS) (fun j hj => hsetO j (by omega)) (fun j u hj hu hlt' => by
          rw [Nat.zero_add, hwho j u hj (.inl (confl_id hu (.inr (by rw [hf]; rfl))))]
          cases hb : below i j with
          | false => rfl
          | true =>
            have : j + 1 ≤ i := Nat.le_of_ble_eq_true hb
            omega)
        rw [this, show fid id tr[i] = some v from hf]

/-- ████ A REGION THAT DRAWS ITS ORDER. -/
theorem HWp.drawn (ok : CxOK cx) (D : Drawn cx nt ops s tr) {rd : Option Nat} {id : Nat} {Q : Exit → St → Prop} {s' : St} (henv : ∀ x, eget s'.env x = gF (fx x) everyone tr 0 (eget s.env x)) (hhh : ∀ id, hget s'.hh id = gF (fid id) everyone tr 0 (hget s.hh id)) (hnx : s'.next = lastName s.next tr)
    (hQ : Q .normal s') : HWp cx nt rd (.region id ops true) Q s :=
  ⟨fun n r Γ a w hr hs hS => by
    refine wpIn_region_any ok.mixed ?_
    obtain ⟨hS', hE'⟩ := SR_drawn hS (w.drawn + 1)
    refine drawn_run D (Γ0 := Γ) (w0 := w) (d0 := a.defers) (fun a' w' env hh Γ' k1 k2 k3 k4 k5 k6 k7 => ?_) ops.size _ a _ s.env s.hh Γ ?_ ⟨by simp, ?_, hS'.1, hS'.2.mono (fun i hi => .inl hi), hs, rfl, hE', fun x => ?_, fun id => ?_⟩
    · refine ⟨s', Γ', hQ, ⟨EL_congr (fun x => (k6 x).trans (henv x).symm) k1, ?_⟩, k5.congr (fun i => (k7 i).trans (hhh i).symm), k3, k4 ▸ MK.refl _ _ _ _ _, ?_⟩
      · rw [hnx]
        exact k2.congr (fun i => (k7 i).trans (hhh i).symm)
      · rw [hnx]
        have hle : ∀ {l : List Tr} {n : Nat}, namesOK n l = true → n ≤ lastName n l := by
          intro l
          induction l with
          | nil => intro n _; exact Nat.le_refl _
          | cons v q ih =>
            intro n hv
            simp only [namesOK, Bool.and_eq_true, Nat.beq_eq, Nat.ble_eq] at hv
            have := ih hv.2
            simp only [lastName]
            omega
        exact hle D.names
    · have h0 : ∀ i, lis (Array.replicate ops.size false) i = false := fun i => by
        simp only [lis, Array.getD_eq_getD_getElem?, Array.getElem?_replicate]
        split <;> rfl
      rw [show (fun i => !lis (Array.replicate ops.size false) i) = fun _ => true from funext fun i => by rw [h0]; rfl]
      simp
    · intro i o e _ hl
      have h0 : lis (Array.replicate ops.size false) i = false := by
        simp only [lis, Array.getD_eq_getD_getElem?, Array.getElem?_replicate]
        split <;> rfl
      rw [h0] at hl; cases hl
    · refine (gF_none fun j t _ _ => ?_).symm
      simp only [lis, Array.getD_eq_getD_getElem?, Array.getElem?_replicate]
      split <;> rfl
    · refine (gF_none fun j t _ _ => ?_).symm
      simp only [lis, Array.getD_eq_getD_getElem?, Array.getElem?_replicate]
      split <;> rfl⟩
end
end Go.Hv
