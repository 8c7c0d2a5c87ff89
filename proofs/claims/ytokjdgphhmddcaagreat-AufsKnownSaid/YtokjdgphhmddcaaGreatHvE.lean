/- What is proved here: laws of an upper level over the model (values, heaps, operations, regions, calls), and an evaluator of closed calls that is sound. -/
import Derived.Test.YtokjdgphhmddcaaGreatHvD
set_option linter.all false
namespace Go.Hv
open Go
section
variable {cx : Cx} {nt : Nat} {ops : Array Oper} {s : St} {tr : List Tr}

/-- In the place of the last operation. -/
def dummyTr (n : Nat) : Tr := ⟨none, [], n, n, [], []⟩
/-- A region whose last operation comes behind all others, in each order: that one is no part of the trace. -/
structure DrawnL (cx : Cx) (nt : Nat) (ops : Array Oper) (s : St) (tr : List Tr) (L : Nat) : Prop where
  len : tr.length = ops.size
  size : ops.size = L + 1
  last : ∀ j, j < L → Bef ops j L
  dum : ∃ n, tr[L]? = some (dummyTr n)
  down : edgesDown ops.toList 0 = true
  chk : ∀ i j t u, tr[i]? = some t → tr[j]? = some u → i ≠ j → confl t u = true → ((masks ops.toList []).getD i 0).testBit j = true ∨ ((masks ops.toList []).getD j 0).testBit i = true
  names : namesOK s.next tr = true
  go : ∀ i t, i ≠ L → tr[i]? = some t → ∀ env hh (used : Nat → Prop), (∀ x ∈ t.reads, eget env x = gF (fx x) (below i) tr 0 (eget s.env x)) → (∀ id ∈ t.ids, hget hh id = gF (fid id) (below i) tr 0 (hget s.hh id)) →
    (∀ id, t.lo ≤ id → id < t.hi → ¬ used id) → OGo cx nt ops i env hh used t.put t.ed (upto used t.lo t.hi)
theorem DrawnL.comp {L : Nat} (D : DrawnL cx nt ops s tr L) {i j : Nat} {t u : Tr} (hi : tr[i]? = some t) (hj : tr[j]? = some u) (hne : i ≠ j) (hc : confl t u = true) : Bef ops j i ∨ Bef ops i j := by
  exact (D.chk i j t u hi hj hne hc).imp masks_bef masks_bef

theorem drawn_run_last {L : Nat} (D : DrawnL cx nt ops s tr L) {Γ0 : Gam} {w0 : World} {d0 : List Deferred} {n : Nat} {r : Option Nat} {Q : Exit → Act → World → Prop}
    (hQ : ∀ a w env hh Γ (next : Act → World → Prop), EL Γ w env a.tmps → HR cx.toCx0 Γ hh (fun id => id < lastName s.next tr) w → a.tmps.size = nt → a.defers = d0 → Evo s.hh Γ0 w0 hh Γ w → (∀ x, eget env x = gF (fx x) everyone tr 0 (eget s.env x)) →
      (∀ id, hget hh id = gF (fid id) everyone tr 0 (hget s.hh id)) → (∀ a' w', Q .normal a' w' → next a' w') → wpOpIn (wideR r) n cx.P ops Q L next a w) :
    ∀ (fuel : Nat) (listed : Array Bool) (a : Act) (w : World) (env : List (Nat × HVal)) (hh : List (Nat × HObj)) (Γ : Gam), (List.range ops.size).countP (fun i => !lis listed i) = fuel → Mid cx nt ops s tr Γ0 w0 d0 listed a w env hh Γ → lis listed L = false →
      wpAnyIn (wideR r) n cx.P .any ops Q fuel listed a w := by
  intro fuel
  have allOf : ∀ {listed : Array Bool}, listed.size = ops.size → Region.ready .any ops listed = [] → ∀ i, i < ops.size → lis listed i = true := by
    intro listed hsz hr i
    induction i using Nat.strongRecOn with
    | _ i ih =>
      intro hi
      cases hl : lis listed i with
      | true => rfl
      | false =>
        have : i ∈ Region.ready .any ops listed := (ready_iff hsz).2 ⟨ops[i], Array.getElem?_eq_getElem hi, hl, fun e he hb => by
          have hlt := edgesDown_ok (ops := ops) ops.toList 0 (fun j => by simp) D.down i _ e (Nat.zero_le _) (Array.getElem?_eq_getElem hi) he hb
          exact ih _ hlt (by omega)⟩
        rw [hr] at this
        cases this
  have hLlt : L < ops.size := by rw [D.size]; omega
  induction fuel with
  | zero =>
    intro listed a w env hh Γ hc M hLf
    have := List.countP_eq_zero.1 hc L (List.mem_range.2 hLlt)
    rw [hLf] at this
    simp at this
  | succ fuel ih =>
    intro listed a w env hh Γ hc M hLf
    refine ⟨fun hr => (by have := allOf M.size hr L hLlt; rw [hLf] at this; cases this), fun i hi => ?_⟩
    obtain ⟨o, h1, h2, h3⟩ := (ready_iff M.size).1 hi
    have hlt : i < ops.size := (Array.getElem?_eq_some_iff.1 h1).1
    have htl : i < tr.length := by rw [D.len]; exact hlt
    have ht : tr[i]? = some tr[i] := List.getElem?_eq_getElem htl
    have hbefi : ∀ j, Bef ops j i → lis listed j = true := by
      intro j hb
      cases hb with
      | base h he hb => rw [h1] at h; obtain rfl := Option.some.inj h; exact h3 _ he hb
      | step h he hb hj => rw [h1] at h; obtain rfl := Option.some.inj h; exact M.bef hj (h3 _ he hb)
    by_cases hiL : i = L
    · subst hiL
      have hall : ∀ j, j < ops.size → j ≠ i → lis listed j = true := fun j hj hne => hbefi j (D.last j (by rw [D.size] at hj; omega))
      obtain ⟨nd, hdum⟩ := D.dum
      have heq : ∀ {α : Type} (f : Tr → Option α) (v : α), f (dummyTr nd) = none → gF f (lis listed) tr 0 v = gF f everyone tr 0 v := by
        intro α f v hf
        refine gF_congr fun j t hj ht => ?_
        rw [Nat.zero_add]
        by_cases e : j = i
        · subst e; rw [hdum] at hj; obtain rfl := Option.some.inj hj; rw [hf] at ht; cases ht
        · rw [hall j (by rw [← D.len]; exact (List.getElem?_eq_some_iff.1 hj).1) e]; rfl
      have hr2 : HR cx.toCx0 Γ hh (fun id => id < lastName s.next tr) w := M.hr.mono fun id h => by
        rcases h with h | ⟨j, t, _, h2, h3, h4⟩
        · have := namesOK_lo (j := i) D.names hdum
          omega
        · have := namesOK_lo D.names h2
          omega
      refine hQ a w env hh Γ _ M.el hr2 M.sz M.df M.evo (fun x => (M.env x).trans (heq _ _ rfl)) (fun id => (M.hh id).trans (heq _ _ rfl)) fun a' w' hq => ?_
      have hsetS : lis (listed.setIfInBounds i true) i = true := by
        simp only [lis, Array.getD_eq_getD_getElem?]
        rw [Array.getElem?_setIfInBounds_self_of_lt (by rw [M.size]; exact hlt)]
        rfl
      have hsetO : ∀ j, j ≠ i → lis (listed.setIfInBounds i true) j = lis listed j := fun j hj => by
        simp only [lis, Array.getD_eq_getD_getElem?]
        rw [Array.getElem?_setIfInBounds_ne (Ne.symm hj)]
      have hr : Region.ready .any ops (listed.setIfInBounds i true) = [] := by
        apply List.eq_nil_iff_forall_not_mem.2
        intro j hj
        obtain ⟨o', q1, q2, _⟩ := (ready_iff (by simpa using M.size)).1 hj
        by_cases e : j = i
        · subst e; rw [hsetS] at q2; cases q2
        · rw [hsetO j e, hall j (Array.getElem?_eq_some_iff.1 q1).1 e] at q2; cases q2
      cases fuel with
      | zero => exact ⟨hr, hq⟩
      | succ f => exact ⟨fun _ => hq, fun j hj => by rw [hr] at hj; cases hj⟩
    have hwho : ∀ j u, tr[j]? = some u → (confl tr[i] u = true ∨ confl u tr[i] = true) → lis listed j = below i j := by
      intro j u hj hcf
      by_cases e : j = i
      · subst e; rw [h2]; exact (show below j j = false by rw [below, ← Bool.not_eq_true]; intro e; exact Nat.lt_irrefl j (Nat.le_of_ble_eq_true e)).symm
      · have hb : Bef ops j i ∨ Bef ops i j := by
          rcases hcf with hcf | hcf
          · exact D.comp ht hj (Ne.symm e) hcf
          · exact (D.comp hj ht e hcf).symm
        rcases hb with hb | hb
        · rw [hbefi j hb]
          have := hb.lt D.down
          exact (Nat.ble_eq_true_of_le this : below i j = true).symm
        · have hlt' := hb.lt D.down
          have hf : lis listed j = false := by
            cases hl : lis listed j with
            | false => rfl
            | true => rw [M.bef hb hl] at h2; cases h2
          rw [hf]
          cases hbl : below i j with
          | false => rfl
          | true =>
            have : j + 1 ≤ i := Nat.le_of_ble_eq_true hbl
            omega
    have hgo := D.go i _ hiL ht env hh (fun id => id < s.next ∨ ∃ j t, lis listed j = true ∧ tr[j]? = some t ∧ t.lo ≤ id ∧ id < t.hi)
      (fun x hx => (M.env x).trans (gF_congr fun j u hj hu => by
        rw [Nat.zero_add]; exact hwho j u hj (.inl (confl_x hu (.inl hx)))))
      (fun id hid => (M.hh id).trans (gF_congr fun j u hj hu => by
        rw [Nat.zero_add]; exact hwho j u hj (.inl (confl_id hu (.inl hid)))))
      (fun id k1 k2 k3 => by
        have hlo := namesOK_lo D.names ht
        rcases k3 with k3 | ⟨j, u, k4, k5, k6, k7⟩
        · omega
        · rcases Nat.lt_trichotomy i j with hij | hij | hij
          · have := namesOK_lt D.names ht k5 hij; omega
          · subst hij; rw [h2] at k4; cases k4
          · have := namesOK_lt D.names k5 ht hij; omega)
    refine hgo.run n r Γ a w _ Q M.sz M.el M.hr fun a' w' Γ' g1 g2 g3 g4 g5 => ?_
    have hsetS : lis (listed.setIfInBounds i true) i = true := by
      simp only [lis, Array.getD_eq_getD_getElem?]
      rw [Array.getElem?_setIfInBounds_self_of_lt (by rw [M.size]; exact hlt)]
      rfl
    have hsetO : ∀ j, j ≠ i → lis (listed.setIfInBounds i true) j = lis listed j := fun j hj => by
      simp only [lis, Array.getD_eq_getD_getElem?]
      rw [Array.getElem?_setIfInBounds_ne (Ne.symm hj)]
    refine ih _ a' w' (putE env tr[i].put) (hedit hh tr[i].ed) Γ' ?_ ⟨by simpa using M.size, ?_, g1, g2.mono ?_, g3, g4.trans M.df, M.evo.trans g5, fun x => ?_, fun id => ?_⟩ (by rw [hsetO L (Ne.symm hiL)]; exact hLf)
    · have := count_step (n := ops.size) (p := fun i => !lis listed i) (q := fun j => !lis (listed.setIfInBounds i true) j) hlt (by simp [h2]) (by simp [hsetS]) (fun j hj => by simp [hsetO j hj])
      omega
    · intro j o' e ho hl he hb
      by_cases ej : j = i
      · subst ej
        rw [h1] at ho
        obtain rfl := Option.some.inj ho
        by_cases ee : e.on = j
        · rw [ee]; exact hsetS
        · rw [hsetO _ ee]; exact h3 e he hb
      · rw [hsetO j ej] at hl
        have := M.down j o' e ho hl he hb
        by_cases ee : e.on = i
        · rw [ee]; exact hsetS
        · rw [hsetO _ ee]; exact this
    · intro id hid
      rcases hid with (hid | ⟨j, u, q1, q2⟩) | hid
      · exact .inl hid
      · refine .inr ⟨j, u, ?_, q2⟩
        by_cases ej : j = i
        · rw [ej]; exact hsetS
        · rw [hsetO j ej]; exact q1
      · exact .inr ⟨i, _, hsetS, ht, hid⟩
    · rw [eget_putE, M.env x]
      cases hf : fx x tr[i] with
      | none =>
        refine gF_congr fun j u hj hu => ?_
        rw [Nat.zero_add]
        by_cases ej : j = i
        · subst ej
          rw [ht] at hj
          obtain rfl := Option.some.inj hj
          rw [hf] at hu; cases hu
        · exact (hsetO j ej).symm
      | some v =>
        have := gF_add (f := fx x) (k := i) (i := 0) (cur := eget s.env x) ht (by rw [Nat.zero_add]; exact h2) (by rw [Nat.zero_add]; exact hsetS) (fun j hj => hsetO j (by omega)) (fun j u hj hu hlt' => by
          rw [Nat.zero_add, hwho j u hj (.inl (confl_x hu (.inr (by rw [hf]; rfl))))]
          cases hb : below i j with
          | false => rfl
          | true =>
            have : j + 1 ≤ i := Nat.le_of_ble_eq_true hb
            omega)
        rw [this, hf]
    · rw [hget_hedit, M.hh id]
      cases hf : elook tr[i].ed id with
      | none =>
        refine gF_congr fun j u hj hu => ?_
        rw [Nat.zero_add]
        by_cases ej : j = i
        · subst ej
          rw [ht] at hj
          obtain rfl := Option.some.inj hj
          rw [show fid id tr[j] = none from hf] at hu; cases hu
        · exact (hsetO j ej).symm
      | some v =>
        have := gF_add (f := fid id) (k := i) (i := 0) (cur := hget s.hh id) ht (by rw [Nat.zero_add]; exact h2) (by rw [Nat.zero_add]; exact hsetS) (fun j hj => hsetO j (by omega)) (fun j u hj hu hlt' => by
          rw [Nat.zero_add, hwho j u hj (.inl (confl_id hu (.inr (by rw [hf]; rfl))))]
          cases hb : below i j with
          | false => rfl
          | true =>
            have : j + 1 ≤ i := Nat.le_of_ble_eq_true hb
            omega)
        rw [this, show fid id tr[i] = some v from hf]


/-- ████ A REGION THAT DRAWS ITS ORDER, BUT FOR ITS LAST OPERATION. -/
theorem HWp.drawnLast (ok : CxOK cx) {L : Nat} (D : DrawnL cx nt ops s tr L) {rd : Option Nat} {id : Nat} {Q : Exit → St → Prop} {s1 : St} {c : Oper} (hc : ops[L]? = some c) (hgd : c.guard = none)
    (henv : ∀ x, eget s1.env x = gF (fx x) everyone tr 0 (eget s.env x)) (hhh : ∀ id, hget s1.hh id = gF (fid id) everyone tr 0 (hget s.hh id)) (hnx : s1.next = lastName s.next tr)
    (hop : opK cx nt c s1 fun s' => ∃ s2 : St, (∀ x, eget s'.env x = eget s2.env x) ∧ s'.hh = s2.hh ∧ s'.next = s2.next ∧ Q .normal s2) : HWp cx nt rd (.region id ops true) Q s :=
  ⟨fun n r Γ a w hr hs hS => by
    refine wpIn_region_any ok.mixed ?_
    obtain ⟨hS', hE'⟩ := SR_drawn hS (w.drawn + 1)
    have hle : ∀ {l : List Tr} {n : Nat}, namesOK n l = true → n ≤ lastName n l := by
      intro l
      induction l with
      | nil => intro n _; exact Nat.le_refl _
      | cons v q ih =>
        intro n hv
        simp only [namesOK, Bool.and_eq_true, Nat.beq_eq, Nat.ble_eq] at hv
        have := ih hv.2
        simp only [lastName]
        omega
    refine drawn_run_last D (Γ0 := Γ) (w0 := w) (d0 := a.defers) (fun a' w' env hh Γ' next k1 k2 k3 k4 k5 k6 k7 hnext => ?_) ops.size _ a _ s.env s.hh Γ ?_ ⟨by simp, ?_, hS'.1, hS'.2.mono (fun i hi => .inl hi), hs, rfl, hE', fun x => ?_, fun id => ?_⟩ ?_
    · have hSR : SR cx Γ' s1 a'.tmps w' := ⟨EL_congr (fun x => (k6 x).trans (henv x).symm) k1, by rw [hnx]; exact k2.congr (fun i => (k7 i).trans (hhh i).symm)⟩
      have hEv : Evo s.hh Γ w s1.hh Γ' w' := k5.congr (fun i => (k7 i).trans (hhh i).symm)
      have hop' := op_sound ok (n := n) (r := r) (next := next) (Q := HPost cx nt s Γ a.defers w Q) k3 hSR hop fun a2 w2 s2 Γ2 ⟨s3, e1, e2, e3, q1⟩ q2 q3 q4 q5 q6 => hnext a2 w2 ⟨s3, Γ2, q1, ⟨EL_congr e1 q2.1, by rw [← e2, ← e3]; exact q2.2⟩, by rw [← e2]; exact hEv.trans q5, q3, by rw [q4, k4]; exact MK.refl _ _ _ _ _, by rw [← e3]; exact Nat.le_trans (by rw [hnx]; exact hle D.names) q6⟩
      unfold wpOpIn
      rw [hc]
      dsimp only
      rw [if_pos (by simp [Region.wanted, hgd])]
      exact hop'
    · have h0 : ∀ i, lis (Array.replicate ops.size false) i = false := fun i => by
        simp only [lis, Array.getD_eq_getD_getElem?, Array.getElem?_replicate]
        split <;> rfl
      rw [show (fun i => !lis (Array.replicate ops.size false) i) = fun _ => true from funext fun i => by rw [h0]; rfl]
      simp
    · intro i o e _ hl
      have h0 : lis (Array.replicate ops.size false) i = false := by
        simp only [lis, Array.getD_eq_getD_getElem?, Array.getElem?_replicate]
        split <;> rfl
      rw [h0] at hl; cases hl
    · refine (gF_none fun j t _ _ => ?_).symm
      simp only [lis, Array.getD_eq_getD_getElem?, Array.getElem?_replicate]
      split <;> rfl
    · refine (gF_none fun j t _ _ => ?_).symm
      simp only [lis, Array.getD_eq_getD_getElem?, Array.getElem?_replicate]
      split <;> rfl
    · simp only [lis, Array.getD_eq_getD_getElem?, Array.getElem?_replicate]
      split <;> rfl⟩
end
end Go.Hv

namespace Go.Hv
open Go

/-! ### Operands and tests, worked out -/
noncomputable def egetF (env : List (Nat × HVal)) (i : Nat) : HVal := List.rec (motive := fun _ => HVal) .any (fun p _ ih => Bool.rec ih p.2 (Nat.beq i p.1)) env
theorem egetF_eq : ∀ (env : List (Nat × HVal)) (i : Nat), egetF env i = eget env i
  | [], _ => rfl
  | (j, v) :: r, i => by
    have e : egetF ((j, v) :: r) i = Bool.rec (egetF r i) v (Nat.beq i j) := rfl
    rw [e]
    simp only [eget]
    cases Nat.beq i j
    · exact egetF_eq r i
    · rfl
noncomputable def hgetF (hh : List (Nat × HObj)) (i : Nat) : Option HObj := List.rec (motive := fun _ => Option HObj) none (fun p _ ih => Bool.rec ih (some p.2) (Nat.beq i p.1)) hh
theorem hgetF_eq1 : ∀ (hh : List (Nat × HObj)) (i : Nat), hgetF hh i = hget hh i
  | [], _ => rfl
  | (j, v) :: r, i => by
    have e : hgetF ((j, v) :: r) i = Bool.rec (hgetF r i) (some v) (Nat.beq i j) := rfl
    rw [e]
    simp only [hget]
    cases Nat.beq i j
    · exact hgetF_eq1 r i
    · rfl
theorem hgetF_eq (hh : List (Nat × HObj)) : hgetF hh = hget hh := funext (hgetF_eq1 hh)
noncomputable def evE (cx : Cx) (env : List (Nat × HVal)) : Operand → Option HVal
  | .tmp t => some (egetF env t)
  | .const v => bif okV v then some (ofV v) else none
  | .global g => match gget cx.G g with
    | some c => some (.pp 0 c 0)
    | none => none
  | .func f => some (.func (.func f) [] [])
noncomputable def evsE (cx : Cx) (env : List (Nat × HVal)) : List Operand → Option (List HVal)
  | [] => some []
  | x :: r => match evE cx env x with
    | none => none
    | some v => match evsE cx env r with
      | none => none
      | some vs => some (v :: vs)
noncomputable def guardE (ops : List Oper) (o : Oper) (env : List (Nat × HVal)) : Option Bool :=
  match o.guard with
  | none => some true
  | some (j, want) => match (ops[j]?).bind (·.dst) with
    | none => none
    | some d => match egetF env d with
      | .bool t => some (t == want)
      | .tup _ => some false
      | _ => none
def dstOK (nt : Nat) : Option Tmp → Bool
  | none => true
  | some d => Nat.blt d nt
def tmpsOf : List Operand → List Nat
  | [] => []
  | .tmp t :: r => t :: tmpsOf r
  | _ :: r => tmpsOf r
def guardTmp (ops : List Oper) (o : Oper) : List Nat :=
  match o.guard with
  | none => []
  | some (j, _) => match (ops[j]?).bind (·.dst) with
    | none => []
    | some d => [d]

theorem evE_congr {cx : Cx} {env env' : List (Nat × HVal)} : ∀ {x : Operand}, (∀ t ∈ tmpsOf [x], eget env t = eget env' t) → evE cx env x = evE cx env' x
  | .tmp t, h => by simp only [evE, egetF_eq]; rw [h t (by simp [tmpsOf])]
  | .const _, _ | .global _, _ | .func _, _ => rfl
theorem tmpsOf_cons (x : Operand) (r : List Operand) : tmpsOf (x :: r) = tmpsOf [x] ++ tmpsOf r := by
  cases x <;> simp [tmpsOf]
theorem evsE_congr {cx : Cx} {env env' : List (Nat × HVal)} : ∀ {xs : List Operand}, (∀ t ∈ tmpsOf xs, eget env t = eget env' t) → evsE cx env xs = evsE cx env' xs
  | [], _ => rfl
  | x :: r, h => by
    simp only [evsE]
    rw [tmpsOf_cons] at h
    rw [evE_congr (env' := env') (x := x) (fun t ht => h t (List.mem_append_left _ ht)), evsE_congr (env' := env') (xs := r) (fun t ht => h t (List.mem_append_right _ ht))]
theorem guardE_congr {ops : List Oper} {o : Oper} {env env' : List (Nat × HVal)} (h : ∀ t ∈ guardTmp ops o, eget env t = eget env' t) : guardE ops o env = guardE ops o env' := by
  unfold guardE
  unfold guardTmp at h
  simp only [egetF_eq]
  generalize o.guard = q at *
  cases q with
  | none => rfl
  | some p =>
    obtain ⟨j, want⟩ := p
    dsimp only at h ⊢
    generalize (ops[j]?).bind (·.dst) = e at *
    cases e with
    | none => rfl
    | some d =>
      dsimp only at h ⊢
      rw [h d (by simp)]

section
variable {cx : Cx} {Γ : Gam} {w : World} {nt : Nat} {ops : Array Oper}

theorem evE_ok {env : List (Nat × HVal)} {hh : List (Nat × HObj)} {a : Act} {used : Nat → Prop} (hE : EL Γ w env a.tmps) (hR : HR cx.toCx0 Γ hh used w) {x : Operand} {v : HVal} (h : evE cx env x = some v) : VR Γ w v (a.eval x) := by
  cases x with
  | tmp t => simp only [evE, egetF_eq] at h; obtain rfl := Option.some.inj h; exact hE t
  | const u =>
    simp only [evE] at h
    cases hu : okV u
    · rw [hu] at h; cases h
    · rw [hu] at h
      obtain rfl := Option.some.inj h
      exact ofV_ok hu Γ w
  | global g =>
    simp only [evE] at h
    split at h
    · rename_i c hg
      obtain rfl := Option.some.inj h
      obtain ⟨h1, h2⟩ := hR.glob g c (gget_mem hg)
      simp only [VR]
      exact ⟨g, 0, rfl, h1, h2⟩
    · cases h
  | func f =>
    obtain rfl := Option.some.inj h
    simp only [VR]
    exact ⟨by simp, [], [], rfl, VRs_nil, VRs_nil⟩
theorem evsE_ok {env : List (Nat × HVal)} {hh : List (Nat × HObj)} {a : Act} {used : Nat → Prop} (hE : EL Γ w env a.tmps) (hR : HR cx.toCx0 Γ hh used w) : ∀ {xs : List Operand} {vs : List HVal}, evsE cx env xs = some vs → VRs Γ w vs (xs.map a.eval)
  | [], vs, h => by obtain rfl := Option.some.inj h; exact VRs_nil
  | x :: r, vs, h => by
    simp only [evsE] at h
    split at h
    · cases h
    · rename_i v hv
      split at h
      · cases h
      · rename_i us hus
        obtain rfl := Option.some.inj h
        exact VRs_cons (evE_ok hE hR hv) (evsE_ok hE hR hus)

theorem guardE_ok {o : Oper} {env : List (Nat × HVal)} {tmps : Array Value} {b : Bool} (hE : EL Γ w env tmps) (h : guardE ops.toList o env = some b) : Region.wanted o (yielded ops tmps) = b := by
  unfold guardE at h
  simp only [egetF_eq] at h
  split at h
  · rename_i hg
    obtain rfl := Option.some.inj h
    simp [Region.wanted, hg]
  · rename_i j want hg
    split at h
    · cases h
    · rename_i d hd
      split at h
      · rename_i t ht
        obtain rfl := Option.some.inj h
        have hv := hE d
        rw [ht] at hv
        simp only [VR] at hv
        have hy : yielded ops tmps j = some t := by
          have hd' : (ops[j]?).bind (·.dst) = some d := by simpa using hd
          have hlt : d < tmps.size := by
            rcases Nat.lt_or_ge d tmps.size with h0 | h0
            · exact h0
            · rw [Array.getD_eq_getD_getElem?, Array.getElem?_eq_none h0] at hv
              simp [undef] at hv
          have hge : tmps[d]? = some (.bool t) := by
            rw [Array.getD_eq_getD_getElem?, Array.getElem?_eq_getElem hlt] at hv
            rw [Array.getElem?_eq_getElem hlt]
            simpa using hv
          simp [yielded, hd', hge]
        simp only [Region.wanted, hg, hy]
        cases t <;> cases want <;> rfl
      · rename_i ws ht
        obtain rfl := Option.some.inj h
        have hv := hE d
        rw [ht] at hv
        simp only [VR] at hv
        obtain ⟨vs, hv, _⟩ := hv
        have hy : yielded ops tmps j = none := by
          have hd' : (ops[j]?).bind (·.dst) = some d := by simpa using hd
          rcases Nat.lt_or_ge d tmps.size with hlt | hlt
          · have hge : tmps[d]? = some (.tuple vs.toArray) := by
              rw [Array.getD_eq_getD_getElem?, Array.getElem?_eq_getElem hlt] at hv
              rw [Array.getElem?_eq_getElem hlt]
              simpa using hv
            simp [yielded, hd', hge]
          · simp [yielded, hd', Array.getElem?_eq_none hlt]
        simp only [Region.wanted, hg, hy]
        cases want <;> rfl
      · cases h

theorem put_EL {env : List (Nat × HVal)} {dst : Option Tmp} {v : HVal} {a : Act} {u : Value} (hd : dstOK nt dst = true) (hs : a.tmps.size = nt) (hE : EL Γ w env a.tmps) (hv : VR Γ w v u) :
    EL Γ w (putE env (dst.map (·, v))) (a.put dst u).tmps ∧ (a.put dst u).tmps.size = nt ∧ (a.put dst u).defers = a.defers := by
  cases dst with
  | none => exact ⟨hE, hs, rfl⟩
  | some d =>
    have hlt : d < a.tmps.size := by rw [hs]; exact Nat.le_of_ble_eq_true (show Nat.ble (d + 1) nt = true from hd)
    exact ⟨EL_put hE hlt hv, by simp [Act.put, hs], rfl⟩

/-- An operation of the list, where the test lets it through. -/
theorem OGo.op (ok : CxOK cx) {i : Nat} {o : Oper} {env : List (Nat × HVal)} {hh : List (Nat × HObj)} {used : Nat → Prop} {vs : List HVal} {v : HVal} {ed : Eds} {nid nid' : Nat} (ho : ops[i]? = some o) (hw : guardE ops.toList o env = some true)
    (hev : evsE cx env (hargs o.op) = some vs) (hg : Gives cx o.op vs (hget hh) nid v ed nid') (hn : ¬ used nid) (hd : dstOK nt o.dst = true) : OGo cx nt ops i env hh used (o.dst.map (·, v)) ed (upto used nid nid') :=
  ⟨fun n r Γ a w next Q hs hE hR hnext => by
    unfold wpOpIn
    rw [ho]
    dsimp only
    rw [guardE_ok hE hw, if_pos rfl]
    refine ⟨fun _ _ => trivial, ?_⟩
    have hnd : ∀ c, o.op ≠ .defer c := by
      intro c e
      rw [Gives, e] at hg
      exact hg
    rw [show (o.semAt (wideR r).round a.eval) = execOp a.eval o from Oper.semAt_eq r a.eval o hnd]
    obtain ⟨hv, ed', nid'', nx, w', Γ', u, ⟨rfl, rfl, rfl⟩, hnid, hrun, hnx, hv', hR', hEvo⟩ := hop_sound ok hR hn o a.eval (fun _ => rfl) (evsE_ok hE hR hev) hg
    rw [hrun]
    obtain ⟨g1, g2, g3⟩ := put_EL hd hs (EL_ext hEvo.toExt hE) hv'
    have fin := hnext (a.put o.dst u) w' Γ' g1 hR' g2 g3 hEvo
    rcases hnx with rfl | ⟨rfl, rfl⟩
    · exact fin
    · exact fin⟩

theorem OGo.skip {i : Nat} {o : Oper} {env : List (Nat × HVal)} {hh : List (Nat × HObj)} {used : Nat → Prop} (ho : ops[i]? = some o) (hw : guardE ops.toList o env = some false) (hd : dstOK nt o.dst = true) :
    OGo cx nt ops i env hh used (o.dst.map (·, hundef)) [] used :=
  ⟨fun n r Γ a w next Q hs hE hR hnext => by
    unfold wpOpIn
    rw [ho]
    dsimp only
    rw [guardE_ok hE hw, if_neg (by simp)]
    refine ⟨fun _ _ => trivial, ?_⟩
    obtain ⟨g1, g2, g3⟩ := put_EL hd hs hE (hundef_ok (Γ := Γ) (w := w))
    exact hnext _ w Γ g1 hR g2 g3 (Evo.refl _ _ _)⟩

theorem OGo.call (ok : CxOK cx) {i : Nat} {o : Oper} {env : List (Nat × HVal)} {hh : List (Nat × HObj)} {used : Nat → Prop} {f : Operand} {c : Call} {g : Nat} {first captured as : List HVal} {v : HVal} (ho : ops[i]? = some o) (hop : o.op = .call c) (hcf : c.callee = .value f)
    (hw : guardE ops.toList o env = some true) (hev : evsE cx env (hargs o.op) = some (.func (.func g) first captured :: as)) (hg : cx.B g = true) (hc : PCall cx g (first ++ (as ++ captured)) hh v) (hd : dstOK nt o.dst = true) :
    OGo cx nt ops i env hh used (o.dst.map (·, v)) [] used :=
  ⟨fun n r Γ a w next Q hs hE hR hnext => by
    unfold wpOpIn
    rw [ho]
    dsimp only
    rw [guardE_ok hE hw, if_pos rfl]
    refine ⟨fun _ _ => trivial, ?_⟩
    rw [show (o.semAt (wideR r).round a.eval) = execOp a.eval o from Oper.semAt_eq r a.eval o (by intro c e; rw [hop] at e; cases e)]
    have hvs := evsE_ok hE hR hev
    obtain ⟨callee, args, ats⟩ := c
    dsimp only at hcf
    subst hcf
    rw [hop] at hvs
    simp only [hargs] at hvs
    simp only [VRs, List.map_cons] at hvs
    obtain ⟨fv, us, e, hf, has⟩ := hvs
    simp only [List.cons.injEq] at e
    obtain ⟨rfl, rfl⟩ := e
    simp only [VR] at hf
    obtain ⟨_, fs, cs, hfv, hfs, hcs⟩ := hf
    have hrun : (execOp a.eval o).run cx.P w = .ok (.enter g ((fs ++ (args.toList.map a.eval ++ cs)).toArray)) w := by
      have e1 : (fs.toArray ++ args.map a.eval ++ cs.toArray) = (fs ++ (args.toList.map a.eval ++ cs)).toArray := by
        apply Array.ext'
        simp [List.append_assoc]
      simp only [execOp, hop, resolve, Deferred.ofValue, hfv, Sem.run_bind, Sem.run_pure, Result.andThen_ok, invoke, callFunc_run ok hg, e1]
    rw [hrun]
    refine ⟨fun h => by simp [wideR] at h, ?_⟩
    have hc := hc.run Γ used w _ hR (VRs_append hfs (VRs_append has hcs))
    have hc' : CallsIn (wideR r) (n - 1) cx.P g ((fs ++ (args.toList.map a.eval ++ cs)).toArray) w _ := (callsIn_wide (n := n - 1)).2 hc
    refine hc'.mono ?_
    rintro e w' ⟨u, Γ', rfl, hu, hR', hEvo⟩
    obtain ⟨g1, g2, g3⟩ := put_EL hd hs (EL_ext hEvo.toExt hE) hu
    exact hnext (a.put o.dst u) w' Γ' g1 hR' g2 g3 hEvo⟩
end
end Go.Hv

namespace Go.Hv
open Go

/-! ### A call on the part of the heap that it can reach -/
/-- What two readings of the numbers have in common. -/
structure Agree (p : Nat → Bool) (Γ Γ' : Gam) : Prop where
  ρ : ∀ id x, p id = true → Γ.ρ id = some x → Γ'.ρ id = some x
  fr : ∀ l b, Γ.fr l b → Γ'.fr l b
mutual
def vIn (p : Nat → Bool) : HVal → Bool
  | .bp id _ => p id
  | .ptr id _ _ _ => p id
  | .sl id _ _ _ _ => p id
  | .map id => p id
  | .yield id => p id
  | .pp _ cells _ => vIns p cells
  | .ps _ _ _ els => vInss p els
  | .pm _ ks vs => vIns p ks && vIns p vs
  | .func _ a c => vIns p a && vIns p c
  | .agg cs => vIns p cs
  | .tup cs => vIns p cs
  | .iface _ v => vIn p v
  | _ => true
def vIns (p : Nat → Bool) : List HVal → Bool
  | [] => true
  | v :: r => vIn p v && vIns p r
def vInss (p : Nat → Bool) : List (List HVal) → Bool
  | [] => true
  | v :: r => vIns p v && vInss p r
end
def pIns (p : Nat → Bool) : List (HVal × HVal) → Bool
  | [] => true
  | (k, v) :: r => vIn p k && vIn p v && pIns p r
def eIns (p : Nat → Bool) : List (Nat × HVal) → Bool
  | [] => true
  | (_, v) :: r => vIn p v && eIns p r
def oIn (p : Nat → Bool) : HObj → Bool
  | .box cs => vIns p cs
  | .arr _ els => vInss p els
  | .map es => pIns p es
  | .siter _ _ => true
  | .miter l c => pIns p l && pIns p c
  | .loop _ _ _ env _ _ _ => eIns p env

section
variable {p : Nat → Bool} {Γ Γ' : Gam} {w : World}
mutual
theorem VR_agree (A : Agree p Γ Γ') : ∀ (h : HVal) (v : Value), vIn p h = true → VR Γ w h v → VR Γ' w h v
  | .bool _, _, _, h => by simpa [VR] using h
  | .int _ _, _, _, h => by simpa [VR] using h
  | .str _, _, _, h => by simpa [VR] using h
  | .nilp, _, _, h => by simpa [VR] using h
  | .nilm, _, _, h => by simpa [VR] using h
  | .nilf, _, _, h => by simpa [VR] using h
  | .nili, _, _, h => by simpa [VR] using h
  | .any, _, _, _ => by simp [VR]
  | .ptr _ _ _ _, _, hp, h => by
    simp only [VR] at h ⊢
    obtain ⟨b, δ, h1, h2⟩ := h
    exact ⟨b, δ, A.ρ _ _ hp h1, h2⟩
  | .bp _ _, _, hp, h => by
    simp only [VR] at h ⊢
    obtain ⟨b, δ, h1, h2⟩ := h
    exact ⟨b, δ, A.ρ _ _ hp h1, h2⟩
  | .map _, _, hp, h => by
    simp only [VR] at h ⊢
    obtain ⟨b, δ, h1, h2⟩ := h
    exact ⟨b, δ, A.ρ _ _ hp h1, h2⟩
  | .yield _, _, hp, h => by
    simp only [VR] at h ⊢
    obtain ⟨b, δ, h1, h2⟩ := h
    exact ⟨b, δ, A.ρ _ _ hp h1, h2⟩
  | .sl _ _ _ _ _, _, hp, h => by
    simp only [VR] at h ⊢
    obtain ⟨b, δ, o, cap, arr, T, fz, h1, h2⟩ := h
    exact ⟨b, δ, o, cap, arr, T, fz, A.ρ _ _ hp h1, h2⟩
  | .pp lf cells off, _, hp, h => by
    simp only [VR] at h ⊢
    obtain ⟨b, o, h1, h2, h3⟩ := h
    exact ⟨b, o, h1, A.fr _ _ h2, CsAt_agree A cells b o hp h3⟩
  | .ps lf es full elems, _, hp, h => by
    simp only [VR] at h ⊢
    rcases h with h | ⟨b, o, cap, h1, h2, h3, h4, h5⟩
    · exact .inl h
    · exact .inr ⟨b, o, cap, h1, h2, h3, A.fr _ _ h4, EsAt_agree A elems b o es hp h5⟩
  | .pm lf ks vs, _, hp, h => by
    simp only [VR] at h ⊢
    simp only [vIn, Bool.and_eq_true] at hp
    obtain ⟨b, ents, c, h1, h2, h3, h4, h5, h6⟩ := h
    exact ⟨b, ents, c, h1, A.fr _ _ h2, h3, h4, VRs_agree A ks _ hp.1 h5, VRs_agree A vs _ hp.2 h6⟩
  | .func _ first captured, _, hp, h => by
    simp only [VR] at h ⊢
    simp only [vIn, Bool.and_eq_true] at hp
    obtain ⟨h0, vs, us, h1, h2, h3⟩ := h
    exact ⟨h0, vs, us, h1, VRs_agree A first vs hp.1 h2, VRs_agree A captured us hp.2 h3⟩
  | .agg cells, _, hp, h => by
    simp only [VR] at h ⊢
    obtain ⟨vs, h1, h0, h2⟩ := h
    exact ⟨vs, h1, h0, VRs_agree A cells vs hp h2⟩
  | .tup ws, _, hp, h => by
    simp only [VR] at h ⊢
    obtain ⟨vs, h1, h2⟩ := h
    exact ⟨vs, h1, VRs_agree A ws vs hp h2⟩
  | .iface _ h, _, hp, hv => by
    simp only [VR] at hv ⊢
    obtain ⟨u, h1, h2⟩ := hv
    exact ⟨u, h1, VR_agree A h u hp h2⟩
theorem VRs_agree (A : Agree p Γ Γ') : ∀ (hs : List HVal) (vs : List Value), vIns p hs = true → VRs Γ w hs vs → VRs Γ' w hs vs
  | [], _, _, h => by simpa [VRs] using h
  | c :: cs, _, hp, h => by
    simp only [VRs] at h ⊢
    simp only [vIns, Bool.and_eq_true] at hp
    obtain ⟨v, r, h1, h2, h3⟩ := h
    exact ⟨v, r, h1, VR_agree A c v hp.1 h2, VRs_agree A cs r hp.2 h3⟩
theorem CsAt_agree (A : Agree p Γ Γ') : ∀ (cs : List HVal) (b o : Nat), vIns p cs = true → CsAt Γ w b o cs → CsAt Γ' w b o cs
  | [], _, _, _, _ => by simp [CsAt]
  | c :: cs, b, o, hp, h => by
    simp only [CsAt] at h ⊢
    simp only [vIns, Bool.and_eq_true] at hp
    obtain ⟨⟨v, h1, h0, h2⟩, h3⟩ := h
    exact ⟨⟨v, h1, h0, VR_agree A c v hp.1 h2⟩, CsAt_agree A cs b (o + 1) hp.2 h3⟩
theorem EsAt_agree (A : Agree p Γ Γ') : ∀ (es : List (List HVal)) (b o n : Nat), vInss p es = true → EsAt Γ w b o n es → EsAt Γ' w b o n es
  | [], _, _, _, _, _ => by simp [EsAt]
  | e :: es, b, o, n, hp, h => by
    simp only [EsAt] at h ⊢
    simp only [vInss, Bool.and_eq_true] at hp
    exact ⟨h.1, CsAt_agree A e b o hp.1 h.2.1, EsAt_agree A es b (o + n) n hp.2 h.2.2⟩
end
theorem MR_agree (A : Agree p Γ Γ') : ∀ (es : List (HVal × HVal)) (l : List MapEntry), pIns p es = true → MR Γ w es l → MR Γ' w es l
  | [], _, _, h => h
  | (k, v) :: r, _, hp, h => by
    simp only [pIns, Bool.and_eq_true] at hp
    obtain ⟨e, s, h1, h2, h3, h4⟩ := h
    exact ⟨e, s, h1, VR_agree A _ _ hp.1.1 h2, VR_agree A _ _ hp.1.2 h3, MR_agree A r s hp.2 h4⟩
theorem pIns_mem : ∀ {l : List (HVal × HVal)} {q : HVal × HVal}, pIns p l = true → q ∈ l → vIn p q.1 = true ∧ vIn p q.2 = true
  | [], _, _, h => by cases h
  | (k, v) :: r, q, hp, h => by
    simp only [pIns, Bool.and_eq_true] at hp
    rcases List.mem_cons.1 h with rfl | h
    · exact hp.1
    · exact pIns_mem hp.2 h
theorem eget_in : ∀ {env : List (Nat × HVal)}, eIns p env = true → ∀ i, vIn p (eget env i) = true
  | [], _, i => rfl
  | (j, v) :: r, h, i => by
    simp only [eIns, Bool.and_eq_true] at h
    simp only [eget]
    cases Nat.beq i j
    · exact eget_in h.2 i
    · exact h.1
theorem OR_agree (A : Agree p Γ Γ') {b δ : Nat} : ∀ (o : HObj), oIn p o = true → OR Γ w b δ o → OR Γ' w b δ o
  | .box cells, hp, ⟨arr, T, fz, h1, h2, h3⟩ => ⟨arr, T, fz, h1, h2, CsAt_agree A cells b δ hp h3⟩
  | .arr es elems, hp, ⟨arr, T, fz, h1, h2, h3⟩ => ⟨arr, T, fz, h1, h2, EsAt_agree A elems b δ es hp h3⟩
  | .map es, hp, ⟨ents, c, h1, h2, h3⟩ => ⟨ents, c, h1, MR_agree A es _ hp h2, h3⟩
  | .miter left cur, hp, ⟨h0, m, seen, last, ents, c, h1, h2, h3, h4, h5, h6, h7⟩ => by
    simp only [oIn, Bool.and_eq_true] at hp
    refine ⟨h0, m, seen, last, ents, c, h1, A.fr _ _ h2, h3, h4, h5, MR_agree A left _ hp.1 h6, fun q hq => ?_⟩
    obtain ⟨e, q1, q2, q3, q4, q5⟩ := h7 q hq
    have := pIns_mem hp.2 hq
    exact ⟨e, q1, q2, q3, VR_agree A _ _ this.1 q4, VR_agree A _ _ this.2 q5⟩
  | .siter _ _, _, h => h
  | .loop .., hp, ⟨r, h1, h2, h3, h4, h5, h6⟩ => ⟨r, h1, h2, h3, h4, fun i => VR_agree A _ _ (eget_in hp i) (h5 i), h6⟩
theorem noRef_in {okL : Nat → Bool} : ∀ {l : List HVal}, noRefs okL l = true → vIns p l = true := by
  have key : (∀ h : HVal, noRef okL h = true → vIn p h = true) ∧ True := by
    refine ⟨fun h => ?_, trivial⟩
    exact HVal.rec (motive_1 := fun h => noRef okL h = true → vIn p h = true) (motive_2 := fun l => noRefs okL l = true → vIns p l = true) (motive_3 := fun l => noRefss okL l = true → vInss p l = true)
      (fun _ _ => rfl) (fun _ _ _ => rfl) (fun _ _ => rfl) (fun _ => rfl) (fun _ _ h => by simp [noRef] at h) (fun _ _ _ _ h => by simp [noRef] at h)
      (fun lf cells off ih h => by simp only [noRef, Bool.and_eq_true] at h; exact ih h.2)
      (fun lf es full elems ih h => by simp only [noRef, Bool.and_eq_true] at h; exact ih h.2)
      (fun _ _ _ _ _ h => by simp [noRef] at h) (fun _ => rfl) (fun _ h => by simp [noRef] at h)
      (fun lf ks vs i1 i2 h => by simp only [noRef, Bool.and_eq_true] at h; simp only [vIn, i1 h.1.2, i2 h.2, Bool.and_self])
      (fun fn a c i1 i2 h => by simp only [noRef, Bool.and_eq_true] at h; simp only [vIn, i1 h.1, i2 h.2, Bool.and_self])
      (fun _ h => by simp [noRef] at h) (fun _ => rfl)
      (fun cells ih h => ih h) (fun vs ih h => ih h) (fun _ => rfl) (fun _ => rfl) (fun t v ih h => ih h)
      (fun _ => rfl) (fun v r i1 i2 h => by simp only [noRefs, Bool.and_eq_true] at h; simp only [vIns, i1 h.1, i2 h.2, Bool.and_self])
      (fun _ => rfl) (fun v r i1 i2 h => by simp only [noRefss, Bool.and_eq_true] at h; simp only [vInss, i1 h.1, i2 h.2, Bool.and_self]) h
  intro l
  induction l with
  | nil => intro _; rfl
  | cons v r ih =>
    intro h
    simp only [noRefs, Bool.and_eq_true] at h
    simp only [vIns, key.1 v h.1, ih h.2, Bool.and_self]
end
def ltB (n : Nat) : Nat → Bool := fun id => Nat.blt id n
def allO (p : Nat → Bool) : List (Nat × HObj) → Bool
  | [] => true
  | (id, o) :: r => p id && oIn p o && allO p r
theorem hget_all {p : Nat → Bool} : ∀ {l : List (Nat × HObj)} {id : Nat} {o : HObj}, allO p l = true → hget l id = some o → p id = true ∧ oIn p o = true
  | [], _, _, _, h => by cases h
  | (j, u) :: r, id, o, ha, h => by
    simp only [allO, Bool.and_eq_true] at ha
    simp only [hget] at h
    cases e : Nat.beq id j
    · rw [e] at h; exact hget_all ha.2 h
    · rw [e] at h
      obtain rfl := Nat.eq_of_beq_eq_true e
      obtain rfl := Option.some.inj h
      exact ha.1
/-- The numbers of the part and of what is new. -/
def inL (hs : List (Nat × HObj)) (lo hi : Nat) (id : Nat) : Bool := (hget hs id).isSome || (Nat.ble lo id && Nat.blt id hi)
def locρ (Γ : Gam) (lo : Nat) : Nat → Option (Nat × Nat) := fun id => if id < lo then (match Γ.ρ id with | some x => some x | none => some (0, 0)) else none
theorem ltB_iff {n id : Nat} : ltB n id = true ↔ id < n := ⟨fun h => Nat.le_of_ble_eq_true h, fun h => Nat.ble_eq_true_of_le h⟩

section
variable {cx : Cx}
/-- ████ THE FRAME: what is done on a part of the heap is done in the whole. -/
theorem HCall.onPart {f : FuncId} {args : List HVal} {hs hh' : List (Nat × HObj)} {lo hi : Nat} {v : HVal} (h : HCall cx f args hs lo (fun v1 h1 n1 => v1 = v ∧ h1 = hh' ∧ n1 = hi)) (hG : ∀ g cs, (g, cs) ∈ cx.G → noRefs anyL cs = true)
    (ha : vIns (ltB lo) args = true) (ho : allO (ltB lo) hs = true) (hv : vIn (inL hs lo hi) v = true) (ho' : allO (inL hs lo hi) hh' = true) {ed : Eds}
    {Γ : Gam} {hh : List (Nat × HObj)} {used : Nat → Prop} {w : World} {vs : List Value} (hR : HR cx.toCx0 Γ hh used w) (hsub : ∀ id o, hget hs id = some o → hget hh id = some o) (hfree : ∀ id, lo ≤ id → id < hi → ¬ used id)
    (hed : ∀ id, hget (hedit hh ed) id = if inL hs lo hi id = true then hget hh' id else hget hh id) (hvs : VRs Γ w args vs) :
    Calls cx.P f vs.toArray w fun e w' => ∃ u Γ', e = .returned u ∧ VR Γ' w' v u ∧ HR cx.toCx0 Γ' (hedit hh ed) (upto used lo hi) w' ∧ Evo hh Γ w (hedit hh ed) Γ' w' := by
  obtain ⟨Γl, hΓl⟩ : ∃ Γl : Gam, Γl = ⟨locρ Γ lo, Γ.fr⟩ := ⟨_, rfl⟩
  have hlρ : ∀ id x, id < lo → Γ.ρ id = some x → Γl.ρ id = some x := fun id x hi hx => by
    rw [hΓl]; simp [locρ, hi, hx]
  have A1 : Agree (ltB lo) Γ Γl := ⟨fun id x hp hx => hlρ id x (ltB_iff.1 hp) hx, fun l b h => by rw [hΓl]; exact h⟩
  have live : ∀ id o, hget hs id = some o → ∃ b δ, Γ.ρ id = some (b, δ) ∧ Γl.ρ id = some (b, δ) ∧ (∀ l, ¬ Γ.fr l b) ∧ OR Γ w b δ o := fun id o h => by
    obtain ⟨b, δ, h1, h2, h3⟩ := hR.obj id o (hsub id o h)
    exact ⟨b, δ, h1, hlρ id _ (ltB_iff.1 (hget_all ho h).1) h1, h2, h3⟩
  have hRl : HR cx.toCx0 Γl hs (fun i => i < lo) w := by
    refine ⟨fun l b h => hR.frlt l b (by rw [hΓl] at h; exact h), fun id o h => ?_, fun id id' o o' b δ δ' h h' hr hr' => ?_, fun id x h => ?_, fun g cs h => ?_⟩
    · obtain ⟨b, δ, h1, h2, h3, h4⟩ := live id o h
      exact ⟨b, δ, h2, fun l hl => h3 l (by rw [hΓl] at hl; exact hl), OR_agree A1 o (hget_all ho h).2 h4⟩
    · obtain ⟨b1, δ1, q1, q2, _⟩ := live id o h
      obtain ⟨b2, δ2, r1, r2, _⟩ := live id' o' h'
      rw [hr] at q2
      rw [hr'] at r2
      obtain ⟨rfl, rfl⟩ : b = b1 ∧ δ = δ1 := by simpa using q2
      obtain ⟨rfl, rfl⟩ : b = b2 ∧ δ' = δ2 := by simpa using r2
      exact hR.inj id id' o o' b δ δ' (hsub _ _ h) (hsub _ _ h') q1 r1
    · rw [hΓl] at h
      simp only [locρ] at h
      split at h
      · assumption
      · cases h
    · obtain ⟨h1, h2⟩ := hR.glob g cs h
      exact ⟨A1.fr _ _ h1, CsAt_agree A1 cs g 0 (noRef_in (hG g cs h)) h2⟩
  refine Calls.mono (h.run Γl w vs hRl (VRs_agree A1 args vs ha hvs)) ?_
  rintro e w' ⟨u, v1, hh1, n1, Γ', rfl, ⟨rfl, rfl, rfl⟩, hu, hR', hE, hle⟩
  obtain ⟨Γ2, hΓ2⟩ : ∃ Γ2 : Gam, Γ2 = ⟨fun id => match Γ.ρ id with | some x => some x | none => if lo ≤ id ∧ id < n1 then Γ'.ρ id else none, Γ'.fr⟩ := ⟨_, rfl⟩
  have hq : ∀ id, inL hs lo n1 id = true → (∃ o, hget hs id = some o) ∨ (lo ≤ id ∧ id < n1) := fun id h => by
    simp only [inL, Bool.or_eq_true, Bool.and_eq_true, Option.isSome_iff_exists] at h
    exact h.imp (fun h => h) fun h => ⟨Nat.le_of_ble_eq_true h.1, Nat.le_of_ble_eq_true h.2⟩
  have hρ2 : ∀ id x, inL hs lo n1 id = true → Γ'.ρ id = some x → Γ2.ρ id = some x := fun id x h hx => by
    rcases hq id h with ⟨o, h⟩ | ⟨h1, h2⟩
    · obtain ⟨b, δ, q1, q2, _⟩ := live id o h
      have := hE.ρ _ _ q2
      rw [hx] at this
      rw [hΓ2]
      simp only [q1]
      exact this.symm
    · cases hr : Γ.ρ id with
      | some y => exact absurd (hR.used _ _ hr) (hfree id h1 h2)
      | none => rw [hΓ2]; simp only [hr]; rw [if_pos ⟨h1, h2⟩]; exact hx
  have A2 : Agree (inL hs lo n1) Γ' Γ2 := ⟨hρ2, fun l b h => by rw [hΓ2]; exact h⟩
  have E2 : Ext Γ w Γ2 w' := ⟨fun id x h => by rw [hΓ2]; simp only [h], fun l b h => by rw [hΓ2]; exact hE.fr l b (by rw [hΓl]; exact h), fun l b h => hE.same l b (by rw [hΓl]; exact h), hE.size⟩
  have hown : ∀ b, Owned Γl hs b → Owned Γ hh b := by
    rintro b ⟨id, o, δ, h1, h2⟩
    obtain ⟨b', δ', q1, q2, _⟩ := live id o h1
    rw [h2] at q2
    obtain ⟨rfl, rfl⟩ : b = b' ∧ δ = δ' := by simpa using q2
    exact ⟨id, o, δ, hsub _ _ h1, q1⟩
  have notown : ∀ id o b δ, inL hs lo n1 id = false → hget hh id = some o → Γ.ρ id = some (b, δ) → ¬ Owned Γl hs b := by
    rintro id o b δ hni h1 h2 ⟨id', o', δ', h3, h4⟩
    obtain ⟨b', δ1, q1, q2, _⟩ := live id' o' h3
    rw [h4] at q2
    obtain ⟨rfl, rfl⟩ : b = b' ∧ δ' = δ1 := by simpa using q2
    have := hR.inj id id' o o' b δ δ' h1 (hsub _ _ h3) h2 q1
    subst this
    simp [inL, h3] at hni
  have look : ∀ id o, hget (hedit hh ed) id = some o → (inL hs lo n1 id = true ∧ hget hh1 id = some o) ∨ (inL hs lo n1 id = false ∧ hget hh id = some o) := fun id o h => by
    rw [hed id] at h
    cases hi : inL hs lo n1 id
    · rw [hi] at h; simp only [Bool.false_eq_true, if_false] at h; exact .inr ⟨rfl, h⟩
    · rw [hi] at h; simp only [if_true] at h; exact .inl ⟨rfl, h⟩
  have frame : ∀ id o b δ, inL hs lo n1 id = false → hget hh id = some o → Γ.ρ id = some (b, δ) → (∀ l, ¬ Γ.fr l b) → ∀ l, ¬ Γ'.fr l b := fun id o b δ hni h1 h2 h3 l hf => by
    rcases hE.newfr l b hf with h | h | h
    · rw [hΓl] at h; exact h3 l h
    · exact notown id o b δ hni h1 h2 h
    · have := hR.block_lt h1 h2; omega
  refine ⟨u, Γ2, rfl, VR_agree A2 _ _ hv hu, ⟨?_, ?_, ?_, ?_, ?_⟩, Evo.mk E2 hE.hsz ?_ ?_ ?_ hE.os hE.tape hE.output⟩
  · intro l b h; rw [hΓ2] at h; exact hR'.frlt l b h
  · intro id o h
    rcases look id o h with ⟨hi, h⟩ | ⟨hi, h⟩
    · obtain ⟨b, δ, q1, q2, q3⟩ := hR'.obj id o h
      exact ⟨b, δ, hρ2 _ _ hi q1, fun l hl => q2 l (by rw [hΓ2] at hl; exact hl), OR_agree A2 o (hget_all ho' h).2 q3⟩
    · obtain ⟨b, δ, q1, q2, q3⟩ := hR.obj id o h
      refine ⟨b, δ, E2.ρ _ _ q1, fun l hl => frame id o b δ hi h q1 q2 l (by rw [hΓ2] at hl; exact hl), OR_ext E2 (hE.keep b (hR.block_lt h q1) (notown id o b δ hi h q1)) o q3⟩
  · intro id id' o o' b δ δ' h h' hr hr'
    rcases look id o h with ⟨hi, h⟩ | ⟨hi, h⟩ <;> rcases look id' o' h' with ⟨hi', h'⟩ | ⟨hi', h'⟩
    · obtain ⟨b1, δ1, q1, _⟩ := hR'.obj id o h
      obtain ⟨b2, δ2, r1, _⟩ := hR'.obj id' o' h'
      have e1 := hρ2 _ _ hi q1
      have e2 := hρ2 _ _ hi' r1
      rw [hr] at e1
      rw [hr'] at e2
      obtain ⟨rfl, rfl⟩ : b = b1 ∧ δ = δ1 := by simpa using e1
      obtain ⟨rfl, rfl⟩ : b = b2 ∧ δ' = δ2 := by simpa using e2
      exact hR'.inj id id' o o' b δ δ' h h' q1 r1
    · exfalso
      obtain ⟨b1, δ1, q1, _⟩ := hR'.obj id o h
      have e1 := hρ2 _ _ hi q1
      rw [hr] at e1
      obtain ⟨rfl, rfl⟩ : b = b1 ∧ δ = δ1 := by simpa using e1
      obtain ⟨b2, δ2, r1, _⟩ := hR.obj id' o' h'
      have e2 := E2.ρ _ _ r1
      rw [hr'] at e2
      obtain ⟨rfl, rfl⟩ : b = b2 ∧ δ' = δ2 := by simpa using e2
      rcases hE.newown b ⟨id, o, δ, h, q1⟩ with k | k
      · exact notown id' o' b δ' hi' h' r1 k
      · have := hR.block_lt h' r1; omega
    · exfalso
      obtain ⟨b1, δ1, q1, _⟩ := hR'.obj id' o' h'
      have e1 := hρ2 _ _ hi' q1
      rw [hr'] at e1
      obtain ⟨rfl, rfl⟩ : b = b1 ∧ δ' = δ1 := by simpa using e1
      obtain ⟨b2, δ2, r1, _⟩ := hR.obj id o h
      have e2 := E2.ρ _ _ r1
      rw [hr] at e2
      obtain ⟨rfl, rfl⟩ : b = b2 ∧ δ = δ2 := by simpa using e2
      rcases hE.newown b ⟨id', o', δ', h', q1⟩ with k | k
      · exact notown id o b δ hi h r1 k
      · have := hR.block_lt h r1; omega
    · obtain ⟨b1, δ1, q1, _⟩ := hR.obj id o h
      obtain ⟨b2, δ2, r1, _⟩ := hR.obj id' o' h'
      have e1 := E2.ρ _ _ q1
      have e2 := E2.ρ _ _ r1
      rw [hr] at e1
      rw [hr'] at e2
      obtain ⟨rfl, rfl⟩ : b = b1 ∧ δ = δ1 := by simpa using e1
      obtain ⟨rfl, rfl⟩ : b = b2 ∧ δ' = δ2 := by simpa using e2
      exact hR.inj id id' o o' b δ δ' h h' q1 r1
  · intro id x h
    rw [hΓ2] at h
    cases hr : Γ.ρ id with
    | some y => exact .inl (hR.used _ _ hr)
    | none =>
      simp only [hr] at h
      split at h
      · rename_i hc; exact .inr hc
      · cases h
  · intro g cs h
    obtain ⟨h1, h2⟩ := hR'.glob g cs h
    exact ⟨A2.fr _ _ h1, CsAt_agree A2 cs g 0 (noRef_in (hG g cs h)) h2⟩
  · intro b hb hno; exact hE.keep b hb fun h => hno (hown b h)
  · intro l b h
    rw [hΓ2] at h
    rcases hE.newfr l b h with k | k | k
    · exact .inl (by rw [hΓl] at k; exact k)
    · exact .inr (.inl (hown b k))
    · exact .inr (.inr k)
  · rintro b ⟨id, o, δ, h, hr⟩
    rcases look id o h with ⟨hi, h⟩ | ⟨hi, h⟩
    · obtain ⟨b1, δ1, q1, _⟩ := hR'.obj id o h
      have e1 := hρ2 _ _ hi q1
      rw [hr] at e1
      obtain ⟨rfl, rfl⟩ : b = b1 ∧ δ = δ1 := by simpa using e1
      exact (hE.newown b ⟨id, o, δ, h, q1⟩).imp (hown b) (fun h => h)
    · obtain ⟨b1, δ1, q1, _⟩ := hR.obj id o h
      have e1 := E2.ρ _ _ q1
      rw [hr] at e1
      obtain ⟨rfl, rfl⟩ : b = b1 ∧ δ = δ1 := by simpa using e1
      exact .inl ⟨id, o, δ, h, q1⟩
end
end Go.Hv

namespace Go.Hv
open Go

/-! ### Values are compared -/
def fnEq : Fn → Fn → Bool
  | .func g, .func g' => Nat.beq g g'
  | _, _ => false
theorem fnEq_ok {f g : Fn} (h : fnEq f g = true) : f = g := by
  unfold fnEq at h
  split at h
  · rw [Nat.eq_of_beq_eq_true h]
  · cases h
mutual
def hvEq : HVal → HVal → Bool
  | .bool a, .bool b => a == b
  | .int k n, .int k' m => bif decide (n = m) then decide (k = k') else false
  | .str a, .str b => a == b
  | .nilp, .nilp => true
  | .bp a o, .bp a' o' => Nat.beq a a' && Nat.beq o o'
  | .ptr a e i o, .ptr a' e' i' o' => Nat.beq a a' && Nat.beq e e' && Nat.beq i i' && Nat.beq o o'
  | .sl a e i l c, .sl a' e' i' l' c' => Nat.beq a a' && Nat.beq e e' && Nat.beq i i' && Nat.beq l l' && decide (c = c')
  | .map a, .map a' => Nat.beq a a'
  | .yield a, .yield a' => Nat.beq a a'
  | .nilm, .nilm => true
  | .nilf, .nilf => true
  | .nili, .nili => true
  | .iface t v, .iface t' v' => bif Nat.beq t t' then hvEq v v' else false
  | .pp lf cs off, .pp lf' cs' off' => bif Nat.beq lf lf' && Nat.beq off off' then hvEqs cs cs' else false
  | .ps lf es f els, .ps lf' es' f' els' => bif Nat.beq lf lf' && Nat.beq es es' && (f == f') then hvEqss els els' else false
  | .func fn a c, .func fn' a' c' => bif fnEq fn fn' then hvEqs a a' && hvEqs c c' else false
  | .agg cs, .agg cs' => hvEqs cs cs'
  | .pm lf ks us, .pm lf' ks' us' => bif Nat.beq lf lf' then hvEqs ks ks' && hvEqs us us' else false
  | .tup cs, .tup cs' => hvEqs cs cs'
  | _, _ => false
def hvEqs : List HVal → List HVal → Bool
  | [], [] => true
  | a :: r, b :: s => bif hvEq a b then hvEqs r s else false
  | _, _ => false
def hvEqss : List (List HVal) → List (List HVal) → Bool
  | [], [] => true
  | a :: r, b :: s => bif hvEqs a b then hvEqss r s else false
  | _, _ => false
end
theorem bif_tt {a b : Bool} (h : (bif a then b else false) = true) : a = true ∧ b = true := by
  cases a
  · cases h
  · exact ⟨rfl, h⟩
mutual
theorem hvEq_ok : ∀ {a b : HVal}, hvEq a b = true → a = b
  | .bool a, b, h => by cases b <;> simp only [hvEq] at h <;> first | (cases h; done) | (simp only [beq_iff_eq] at h; rw [h])
  | .int k n, b, h => by
    cases b <;> simp only [hvEq] at h <;> first | (cases h; done) | skip
    obtain ⟨h1, h2⟩ := bif_tt h
    rw [of_decide_eq_true h1, of_decide_eq_true h2]
  | .str a, b, h => by cases b <;> simp only [hvEq] at h <;> first | (cases h; done) | (simp only [beq_iff_eq] at h; rw [h])
  | .nilp, b, h => by cases b <;> simp only [hvEq] at h <;> first | (cases h; done) | rfl
  | .nilm, b, h => by cases b <;> simp only [hvEq] at h <;> first | (cases h; done) | rfl
  | .nilf, b, h => by cases b <;> simp only [hvEq] at h <;> first | (cases h; done) | rfl
  | .pp lf cs off, b, h => by
    cases b <;> simp only [hvEq] at h <;> first | (cases h; done) | skip
    obtain ⟨h1, h2⟩ := bif_tt h
    simp only [Bool.and_eq_true, Nat.beq_eq] at h1
    rw [h1.1, h1.2, hvEqs_ok h2]
  | .ps lf es f els, b, h => by
    cases b <;> simp only [hvEq] at h <;> first | (cases h; done) | skip
    obtain ⟨h1, h2⟩ := bif_tt h
    simp only [Bool.and_eq_true, Nat.beq_eq, beq_iff_eq] at h1
    rw [h1.1.1, h1.1.2, h1.2, hvEqss_ok h2]
  | .func fn a c, b, h => by
    cases b <;> simp only [hvEq] at h <;> first | (cases h; done) | skip
    obtain ⟨h1, h2⟩ := bif_tt h
    simp only [Bool.and_eq_true] at h2
    rw [fnEq_ok h1, hvEqs_ok h2.1, hvEqs_ok h2.2]
  | .agg cs, b, h => by cases b <;> simp only [hvEq] at h <;> first | (cases h; done) | rw [hvEqs_ok h]
  | .tup cs, b, h => by cases b <;> simp only [hvEq] at h <;> first | (cases h; done) | rw [hvEqs_ok h]
  | .bp .., b, h => by cases b <;> simp only [hvEq] at h <;> first | (cases h; done) | (simp only [Bool.and_eq_true, Nat.beq_eq, decide_eq_true_eq] at h; simp [h])
  | .ptr .., b, h => by cases b <;> simp only [hvEq] at h <;> first | (cases h; done) | (simp only [Bool.and_eq_true, Nat.beq_eq, decide_eq_true_eq] at h; simp [h])
  | .sl .., b, h => by cases b <;> simp only [hvEq] at h <;> first | (cases h; done) | (simp only [Bool.and_eq_true, Nat.beq_eq, decide_eq_true_eq] at h; simp [h])
  | .map _, b, h => by cases b <;> simp only [hvEq] at h <;> first | (cases h; done) | (rw [Nat.eq_of_beq_eq_true h])
  | .yield _, b, h => by cases b <;> simp only [hvEq] at h <;> first | (cases h; done) | (rw [Nat.eq_of_beq_eq_true h])
  | .any, b, h => by cases b <;> simp only [hvEq] at h <;> cases h
  | .pm lf ks us, b, h => by
    cases b <;> simp only [hvEq] at h <;> first | (cases h; done) | skip
    obtain ⟨h1, h2⟩ := bif_tt h
    simp only [Bool.and_eq_true] at h2
    rw [Nat.eq_of_beq_eq_true h1, hvEqs_ok h2.1, hvEqs_ok h2.2]
  | .nili, b, h => by cases b <;> simp only [hvEq] at h <;> first | (cases h; done) | rfl
  | .iface t v, b, h => by
    cases b <;> simp only [hvEq] at h <;> first | (cases h; done) | skip
    obtain ⟨h1, h2⟩ := bif_tt h
    rw [Nat.eq_of_beq_eq_true h1, hvEq_ok h2]
theorem hvEqs_ok : ∀ {a b : List HVal}, hvEqs a b = true → a = b
  | [], b, h => by cases b <;> simp only [hvEqs] at h <;> first | rfl | cases h
  | x :: r, b, h => by
    cases b <;> simp only [hvEqs] at h <;> first | (cases h; done) | skip
    obtain ⟨h1, h2⟩ := bif_tt h
    rw [hvEq_ok h1, hvEqs_ok h2]
theorem hvEqss_ok : ∀ {a b : List (List HVal)}, hvEqss a b = true → a = b
  | [], b, h => by cases b <;> simp only [hvEqss] at h <;> first | rfl | cases h
  | x :: r, b, h => by
    cases b <;> simp only [hvEqss] at h <;> first | (cases h; done) | skip
    obtain ⟨h1, h2⟩ := bif_tt h
    rw [hvEqs_ok h1, hvEqss_ok h2]
end


theorem and_tt {a b : Bool} (h : (a && b) = true) : a = true ∧ b = true := by
  cases a <;> simp_all
def prEq : List (HVal × HVal) → List (HVal × HVal) → Bool
  | [], [] => true
  | (a, b) :: r, (c, d) :: s => bif hvEq a c then (bif hvEq b d then prEq r s else false) else false
  | _, _ => false
theorem prEq_ok : ∀ {a b : List (HVal × HVal)}, prEq a b = true → a = b
  | [], [], _ => rfl
  | (a, b) :: r, (c, d) :: s, h => by
    simp only [prEq] at h
    obtain ⟨h1, h⟩ := bif_tt h
    obtain ⟨h2, h⟩ := bif_tt h
    rw [hvEq_ok h1, hvEq_ok h2, prEq_ok h]
  | [], _ :: _, h => by cases h
  | _ :: _, [], h => by simp [prEq] at h
/-- Objects that are surely the same. -/
def objEq : HObj → HObj → Bool
  | .box a, .box b => hvEqs a b
  | .arr e a, .arr e' b => bif Nat.beq e e' then hvEqss a b else false
  | .map a, .map b => prEq a b
  | _, _ => false
theorem objEq_ok {a b : HObj} (h : objEq a b = true) : a = b := by
  unfold objEq at h
  split at h
  · rw [hvEqs_ok h]
  · obtain ⟨h1, h2⟩ := bif_tt h
    rw [Nat.eq_of_beq_eq_true h1, hvEqss_ok h2]
  · rw [prEq_ok h]
  · cases h

def memK (i : Nat) : List (Nat × HObj) → Bool
  | [] => false
  | (j, _) :: r => bif Nat.beq i j then true else memK i r
def nodupK : List (Nat × HObj) → Bool
  | [] => true
  | (j, _) :: r => bif memK j r then false else nodupK r
theorem memK_ok : ∀ {l : List (Nat × HObj)} {i : Nat}, memK i l = false → hget l i = none
  | [], _, _ => rfl
  | (j, o) :: r, i, h => by
    simp only [memK] at h
    simp only [hget]
    cases e : Nat.beq i j
    · rw [e] at h; exact memK_ok h
    · rw [e] at h; cases h
/-- What of the part has changed. -/
def chgEd : List (Nat × HObj) → List (Nat × HObj) → Eds
  | [], _ => []
  | (id, o) :: r, hh' => match hget hh' id with
    | none => (id, none) :: chgEd r hh'
    | some o' => bif objEq o o' then chgEd r hh' else (id, some o') :: chgEd r hh'
/-- What is new. -/
def newEd (lo : Nat) : List (Nat × HObj) → Eds
  | [] => []
  | (id, o) :: r => bif Nat.ble lo id then (id, some o) :: newEd lo r else newEd lo r
theorem elook_app : ∀ (a b : Eds) (i : Nat), elook (a ++ b) i = match elook b i with | some x => some x | none => elook a i
  | [], b, i => by cases h : elook b i <;> simp [h, elook]
  | (j, o) :: r, b, i => by
    simp only [List.cons_append, elook]
    rw [elook_app r b i]
    cases elook b i <;> rfl
theorem chg_none : ∀ {hs hh' : List (Nat × HObj)} {i : Nat}, hget hs i = none → elook (chgEd hs hh') i = none
  | [], _, _, _ => rfl
  | (j, o) :: r, hh', i, h => by
    simp only [hget] at h
    cases e : Nat.beq i j
    · rw [e] at h
      have ih := chg_none (hh' := hh') h
      simp only [chgEd]
      split
      · simp only [elook, ih, e, cond_false]
      · cases objEq o _
        · simp only [cond_false, elook, ih, e]
        · exact ih
    · rw [e] at h; cases h
theorem chg_some : ∀ {hs hh' : List (Nat × HObj)} {i : Nat} {o : HObj}, nodupK hs = true → hget hs i = some o → elook (chgEd hs hh') i = some (hget hh' i) ∨ (elook (chgEd hs hh') i = none ∧ hget hh' i = some o)
  | [], _, _, _, _, h => by cases h
  | (j, u) :: r, hh', i, o, hn, h => by
    simp only [nodupK] at hn
    have hm : memK j r = false := by
      cases hm : memK j r
      · rfl
      · rw [hm] at hn; cases hn
    rw [hm] at hn
    simp only [hget] at h
    cases e : Nat.beq i j
    · rw [e] at h
      have ih := chg_some (hh' := hh') hn h
      simp only [chgEd]
      split
      · rcases ih with ih | ⟨ih, h2⟩
        · exact .inl (by simp only [elook, ih])
        · exact .inr ⟨by simp only [elook, ih, e, cond_false], h2⟩
      · cases objEq u _
        · rcases ih with ih | ⟨ih, h2⟩
          · exact .inl (by simp only [cond_false, elook, ih])
          · exact .inr ⟨by simp only [cond_false, elook, ih, e], h2⟩
        · exact ih
    · rw [e] at h
      obtain rfl := Option.some.inj h
      obtain rfl := Nat.eq_of_beq_eq_true e
      have hr := chg_none (hh' := hh') (memK_ok hm)
      simp only [chgEd]
      split
      · rename_i hg
        exact .inl (by simp only [elook, hr, e, cond_true, hg])
      · rename_i o' hg
        cases ho : objEq u o'
        · exact .inl (by simp only [cond_false, elook, hr, e, cond_true, hg])
        · rw [objEq_ok ho] at *
          exact .inr ⟨hr, hg⟩
theorem new_low {lo : Nat} : ∀ {hh' : List (Nat × HObj)} {i : Nat}, i < lo → elook (newEd lo hh') i = none
  | [], _, _ => rfl
  | (j, o) :: r, i, h => by
    have ih := new_low (hh' := r) h
    simp only [newEd]
    cases hb : Nat.ble lo j
    · exact ih
    · have : i ≠ j := by have := Nat.le_of_ble_eq_true hb; omega
      simp only [cond_true, elook, ih, beq_ff this, cond_false]
theorem new_high {lo : Nat} : ∀ {hh' : List (Nat × HObj)} {i : Nat}, nodupK hh' = true → lo ≤ i → elook (newEd lo hh') i = (hget hh' i).map some
  | [], _, _, _ => rfl
  | (j, o) :: r, i, hn, h => by
    simp only [nodupK] at hn
    have hm : memK j r = false := by
      cases hm : memK j r
      · rfl
      · rw [hm] at hn; cases hn
    rw [hm] at hn
    have ih := new_high (hh' := r) hn h
    simp only [newEd, hget]
    cases e : Nat.beq i j
    · cases hb : Nat.ble lo j
      · simpa using ih
      · simp only [cond_true, elook, ih, e, cond_false]
        cases hget r i <;> rfl
    · obtain rfl := Nat.eq_of_beq_eq_true e
      rw [show Nat.ble lo i = true from Nat.ble_eq_true_of_le h]
      simp only [cond_true, elook, ih, e, memK_ok hm, Option.map_none, Option.map_some]
theorem part_ed {hs hh' hh : List (Nat × HObj)} {lo hi : Nat} (n1 : nodupK hs = true) (n2 : nodupK hh' = true) (ho : allO (ltB lo) hs = true) (ho' : allO (inL hs lo hi) hh' = true) (hsub : ∀ id o, hget hs id = some o → hget hh id = some o)
    (hfree : ∀ id, lo ≤ id → id < hi → hget hh id = none) (id : Nat) : hget (hedit hh (chgEd hs hh' ++ newEd lo hh')) id = if inL hs lo hi id = true then hget hh' id else hget hh id := by
  rw [hget_hedit, elook_app]
  have hin' : ∀ o, hget hh' id = some o → inL hs lo hi id = true := fun o h => (hget_all ho' h).1
  cases hs1 : hget hs id with
  | some o =>
    have hlt := ltB_iff.1 (hget_all ho hs1).1
    have hi1 : inL hs lo hi id = true := by simp [inL, hs1]
    rw [new_low hlt, if_pos hi1]
    rcases chg_some (hh' := hh') n1 hs1 with h | ⟨h, h2⟩
    · simp [h]
    · simp [h, h2, hsub _ _ hs1]
  | none =>
    rw [chg_none hs1]
    by_cases hlo : lo ≤ id
    · rw [new_high n2 hlo]
      by_cases hlt : id < hi
      · have hi1 : inL hs lo hi id = true := by
          simp only [inL, hs1, Bool.or_eq_true, Bool.and_eq_true]
          exact .inr ⟨Nat.ble_eq_true_of_le hlo, Nat.ble_eq_true_of_le hlt⟩
        rw [if_pos hi1]
        cases hg : hget hh' id with
        | some o => rfl
        | none => simp [hfree id hlo hlt]
      · have hi1 : inL hs lo hi id = false := by
          cases hc : inL hs lo hi id with
          | false => rfl
          | true =>
            simp only [inL, hs1, Bool.or_eq_true, Bool.and_eq_true] at hc
            rcases hc with hc | hc
            · cases hc
            · exact absurd (Nat.le_of_ble_eq_true hc.2) (by omega)
        cases hg : hget hh' id with
        | some o => rw [hin' o hg] at hi1; cases hi1
        | none => simp [hi1]
    · rw [new_low (by omega)]
      have hi1 : inL hs lo hi id = false := by
        cases hc : inL hs lo hi id with
        | false => rfl
        | true =>
          simp only [inL, hs1, Bool.or_eq_true, Bool.and_eq_true] at hc
          rcases hc with hc | hc
          · cases hc
          · exact absurd (Nat.le_of_ble_eq_true hc.1) hlo
      simp [hi1]

section
variable {cx : Cx} {nt : Nat} {ops : Array Oper}
theorem OGo.callPart (ok : CxOK cx) (hG : ∀ g cs, (g, cs) ∈ cx.G → noRefs anyL cs = true) {i : Nat} {o : Oper} {env : List (Nat × HVal)} {hh hs hh' : List (Nat × HObj)} {used : Nat → Prop} {f : Operand} {c : Call} {g lo hi : Nat} {first captured as : List HVal} {v : HVal} (ho : ops[i]? = some o) (hop : o.op = .call c) (hcf : c.callee = .value f)
    (hw : guardE ops.toList o env = some true) (hev : evsE cx env (hargs o.op) = some (.func (.func g) first captured :: as)) (hg : cx.B g = true)
    (hc : HCall cx g (first ++ (as ++ captured)) hs lo (fun v1 h1 n1 => v1 = v ∧ h1 = hh' ∧ n1 = hi))
    (ha : vIns (ltB lo) (first ++ (as ++ captured)) = true) (hos : allO (ltB lo) hs = true) (hvi : vIn (inL hs lo hi) v = true) (hos' : allO (inL hs lo hi) hh' = true) (n1 : nodupK hs = true) (n2 : nodupK hh' = true)
    (hsub : ∀ id o, hget hs id = some o → hget hh id = some o) (hfree : ∀ id, lo ≤ id → id < hi → ¬ used id) (hd : dstOK nt o.dst = true) :
    OGo cx nt ops i env hh used (o.dst.map (·, v)) (chgEd hs hh' ++ newEd lo hh') (upto used lo hi) :=
  ⟨fun n r Γ a w next Q hsz hE hR hnext => by
    unfold wpOpIn
    rw [ho]
    dsimp only
    rw [guardE_ok hE hw, if_pos rfl]
    refine ⟨fun _ _ => trivial, ?_⟩
    rw [show (o.semAt (wideR r).round a.eval) = execOp a.eval o from Oper.semAt_eq r a.eval o (by intro c e; rw [hop] at e; cases e)]
    have hvs := evsE_ok hE hR hev
    obtain ⟨callee, args, ats⟩ := c
    dsimp only at hcf
    subst hcf
    rw [hop] at hvs
    simp only [hargs] at hvs
    simp only [VRs, List.map_cons] at hvs
    obtain ⟨fv, us, e, hf, has⟩ := hvs
    simp only [List.cons.injEq] at e
    obtain ⟨rfl, rfl⟩ := e
    simp only [VR] at hf
    obtain ⟨_, fs, cs, hfv, hfs, hcs⟩ := hf
    have hrun : (execOp a.eval o).run cx.P w = .ok (.enter g ((fs ++ (args.toList.map a.eval ++ cs)).toArray)) w := by
      have e1 : (fs.toArray ++ args.map a.eval ++ cs.toArray) = (fs ++ (args.toList.map a.eval ++ cs)).toArray := by
        apply Array.ext'
        simp [List.append_assoc]
      simp only [execOp, hop, resolve, Deferred.ofValue, hfv, Sem.run_bind, Sem.run_pure, Result.andThen_ok, invoke, callFunc_run ok hg, e1]
    rw [hrun]
    refine ⟨fun h => by simp [wideR] at h, ?_⟩
    have hfr : ∀ id, lo ≤ id → id < hi → hget hh id = none := fun id h1 h2 => by
      cases hg : hget hh id with
      | none => rfl
      | some o' =>
        obtain ⟨b, δ, q, _⟩ := hR.obj id o' hg
        exact absurd (hR.used _ _ q) (hfree id h1 h2)
    have hc2 := HCall.onPart hc hG ha hos hvi hos' hR hsub hfree (part_ed n1 n2 hos hos' hsub hfr) (VRs_append hfs (VRs_append has hcs))
    have hc' : CallsIn (wideR r) (n - 1) cx.P g ((fs ++ (args.toList.map a.eval ++ cs)).toArray) w _ := (callsIn_wide (n := n - 1)).2 hc2
    refine hc'.mono ?_
    rintro e w' ⟨u, Γ', rfl, hu, hR', hEvo⟩
    obtain ⟨g1, g2, g3⟩ := put_EL hd hsz (EL_ext hEvo.toExt hE) hu
    exact hnext (a.put o.dst u) w' Γ' g1 hR' g2 g3 hEvo⟩
end
end Go.Hv

namespace Go.Hv
open Go

/-! ### The operations once more: worked out, on values that stand there -/
section
variable {R : Type}
abbrev KE (R : Type) := HVal → Eds → Nat → Option R
def gd (p : Prop) [Decidable p] (x : Option R) : Option R := bif decide p then x else none
def cellE : List HVal → Nat → (HVal → Option R) → Option R
  | [], _, _ => none
  | c :: _, 0, k => k c
  | _ :: r, i + 1, k => cellE r i k
def takeE : List HVal → Nat → (List HVal → Option R) → Option R
  | _, 0, k => k []
  | [], _ + 1, _ => none
  | c :: r, n + 1, k => takeE r n (fun l => k (c :: l))
def dropE : List HVal → Nat → (List HVal → Option R) → Option R
  | l, 0, k => k l
  | [], _ + 1, _ => none
  | _ :: r, n + 1, k => dropE r n k
def overE : List HVal → Nat → List HVal → (List HVal → Option R) → Option R
  | l, 0, [], k => k l
  | [], 0, _ :: _, _ => none
  | _ :: r, 0, n :: ns, k => overE r 0 ns (fun l => k (n :: l))
  | [], _ + 1, _, _ => none
  | c :: r, o + 1, ns, k => overE r o ns (fun l => k (c :: l))
def flatE : HVal → (List HVal → Option R) → Option R
  | .agg cs, k => k cs
  | .tup _, _ => none
  | .any, _ => none
  | v, k => k [v]
def partE (ti : TI) (cells : List HVal) (off : Nat) (k : HVal → Option R) : Option R :=
  bif ti.tk.agg then dropE cells off (fun r => takeE r ti.size (fun l => k (.agg l))) else cellE cells off k
def nOE (ti : TI) (A : Option R) : Option R :=
  match ti.tk with
  | .other => none
  | _ => A
def buildE (cx : Cx) (place : Nat → Option (Nat × Nat)) : List Nat → List HVal → List HVal → (List HVal → Option R) → Option R
  | [], [], cells, k => k cells
  | i :: is, v :: vs, cells, k => match place i with
    | none => none
    | some (off, sz) => flatE v fun cs => bif Nat.beq cs.length sz then overE cells off cs fun cells' => buildE cx place is vs cells' k else none
  | _, _, _, _ => none
def setElE : List (List HVal) → Nat → List HVal → (List (List HVal) → Option R) → Option R
  | [], _, _, _ => none
  | _ :: r, 0, e, k => k (e :: r)
  | c :: r, i + 1, e, k => setElE r i e fun l => k (c :: l)
def fillE (sz : Nat) : List Nat → List HVal → List (List HVal) → (List (List HVal) → Option R) → Option R
  | [], [], els, k => k els
  | i :: is, v :: vs, els, k => flatE v fun cs => bif Nat.beq cs.length sz then setElE els i cs fun els' => fillE sz is vs els' k else none
  | _, _, _, _ => none

theorem gd_ok {p : Prop} [Decidable p] {x : Option R} {r : R} (h : gd p x = some r) : p ∧ x = some r := by
  unfold gd at h
  by_cases hp : p
  · rw [decide_eq_true hp] at h; exact ⟨hp, h⟩
  · rw [decide_eq_false hp] at h; cases h
theorem bif_ok {c : Bool} {x : Option R} {r : R} (h : (bif c then x else none) = some r) : c = true ∧ x = some r := by
  cases c
  · cases h
  · exact ⟨rfl, h⟩
theorem cell_t : ∀ {l : List HVal} {i : Nat} {k : HVal → Option R} {k' : HVal → Prop} {r : R}, cellE l i k = some r → (∀ x, k x = some r → k' x) → cellK l i k'
  | [], _, _, _, _, h, _ => by cases h
  | c :: _, 0, _, _, _, h, hk => hk c h
  | _ :: r, i + 1, _, _, _, h, hk => cell_t (l := r) (i := i) h hk
theorem take_t : ∀ {l : List HVal} {n : Nat} {k : List HVal → Option R} {k' : List HVal → Prop} {r : R}, takeE l n k = some r → (∀ x, k x = some r → k' x) → takeK l n k'
  | l, 0, _, _, _, h, hk => by cases l <;> exact hk _ h
  | [], _ + 1, _, _, _, h, _ => by cases h
  | c :: q, n + 1, _, _, _, h, hk => take_t (l := q) (n := n) (k := _) h fun x hx => hk _ hx
theorem drop_t : ∀ {l : List HVal} {n : Nat} {k : List HVal → Option R} {k' : List HVal → Prop} {r : R}, dropE l n k = some r → (∀ x, k x = some r → k' x) → dropK l n k'
  | l, 0, _, _, _, h, hk => by cases l <;> exact hk _ h
  | [], _ + 1, _, _, _, h, _ => by cases h
  | c :: q, n + 1, _, _, _, h, hk => drop_t (l := q) (n := n) h hk
theorem over_t : ∀ {l : List HVal} {o : Nat} {ns : List HVal} {k : List HVal → Option R} {k' : List HVal → Prop} {r : R}, overE l o ns k = some r → (∀ x, k x = some r → k' x) → overK l o ns k'
  | l, 0, [], _, _, _, h, hk => by cases l <;> exact hk _ h
  | [], 0, _ :: _, _, _, _, h, _ => by cases h
  | _ :: q, 0, n :: ns, _, _, _, h, hk => over_t (l := q) (o := 0) (ns := ns) (k := _) h fun x hx => hk _ hx
  | [], o + 1, ns, _, _, _, h, _ => by cases ns <;> cases h
  | c :: q, o + 1, ns, k, k', r, h, hk => by
    have h' : overE q o ns (fun l => k (c :: l)) = some r := by cases ns <;> exact h
    have := over_t (l := q) (o := o) (ns := ns) (k' := fun l => k' (c :: l)) h' fun x hx => hk _ hx
    cases ns <;> exact this
theorem flat_t {v : HVal} {k : List HVal → Option R} {k' : List HVal → Prop} {r : R} (h : flatE v k = some r) (hk : ∀ x, k x = some r → k' x) : flatK v k' := by
  cases v <;> simp only [flatE] at h <;> first | exact hk _ h | cases h
theorem part_t {ti : TI} {cells : List HVal} {off : Nat} {k : HVal → Option R} {k' : HVal → Prop} {r : R} (h : partE ti cells off k = some r) (hk : ∀ x, k x = some r → k' x) : partK ti cells off k' := by
  unfold partE at h
  unfold partK
  cases hb : ti.tk.agg
  · rw [hb] at h
    exact cell_t h hk
  · rw [hb] at h
    exact drop_t h fun x hx => take_t hx fun y hy => hk _ hy
theorem nO_t {ti : TI} {A : Option R} {B : Prop} {r : R} (h : nOE ti A = some r) (hk : A = some r → B) : nO ti B := by
  unfold nOE at h
  unfold nO
  split at h <;> simp_all
theorem build_t {cx : Cx} {place : Nat → Option (Nat × Nat)} : ∀ {is : List Nat} {vs cells : List HVal} {k : List HVal → Option R} {k' : List HVal → Prop} {r : R}, buildE cx place is vs cells k = some r → (∀ x, k x = some r → k' x) → buildK cx place is vs cells k'
  | [], [], _, _, _, _, h, hk => hk _ h
  | i :: is, v :: vs, cells, k, k', r, h, hk => by
    simp only [buildE] at h
    simp only [buildK]
    split at h
    · cases h
    · rename_i off sz hp
      rw [hp]
      refine flat_t h fun cs hcs => ?_
      obtain ⟨h1, h2⟩ := bif_ok hcs
      rw [h1]
      exact over_t h2 fun x hx => build_t hx hk
  | [], _ :: _, _, _, _, _, h, _ => by cases h
  | _ :: _, [], _, _, _, _, h, _ => by cases h
theorem setEl_t : ∀ {l : List (List HVal)} {i : Nat} {e : List HVal} {k : List (List HVal) → Option R} {k' : List (List HVal) → Prop} {r : R}, setElE l i e k = some r → (∀ x, k x = some r → k' x) → setEl l i e k'
  | [], _, _, _, _, _, h, _ => by cases h
  | _ :: q, 0, e, _, _, _, h, hk => hk _ h
  | c :: q, i + 1, e, _, _, _, h, hk => setEl_t (l := q) (i := i) (k := _) h fun x hx => hk _ hx
theorem fill_t {sz : Nat} : ∀ {is : List Nat} {vs : List HVal} {els : List (List HVal)} {k : List (List HVal) → Option R} {k' : List (List HVal) → Prop} {r : R}, fillE sz is vs els k = some r → (∀ x, k x = some r → k' x) → fillK sz is vs els k'
  | [], [], _, _, _, _, h, hk => hk _ h
  | i :: is, v :: vs, els, k, k', r, h, hk => by
    simp only [fillE] at h
    simp only [fillK]
    refine flat_t h fun cs hcs => ?_
    obtain ⟨h1, h2⟩ := bif_ok hcs
    rw [h1]
    exact setEl_t h2 fun x hx => fill_t hx hk
  | [], _ :: _, _, _, _, _, h, _ => by cases h
  | _ :: _, [], _, _, _, _, h, _ => by cases h

def hintE (op : BinOp) (q : IntKind) (a b : Int) (k : HVal → Option R) : Option R :=
  match op with
  | .add => match q with
    | .i64 => gd (-9223372036854775808 ≤ a + b ∧ a + b ≤ 9223372036854775807) (k (.int .i64 (a + b)))
    | _ => k (.int q (q.wrap (a + b)))
  | .sub => match q with
    | .i64 => gd (-9223372036854775808 ≤ a - b ∧ a - b ≤ 9223372036854775807) (k (.int .i64 (a - b)))
    | _ => k (.int q (q.wrap (a - b)))
  | .mul => match q with
    | .i64 => gd (-9223372036854775808 ≤ a * b ∧ a * b ≤ 9223372036854775807) (k (.int .i64 (a * b)))
    | _ => k (.int q (q.wrap (a * b)))
  | .quo => match q with
    | .i64 => gd (0 ≤ a ∧ 0 < b ∧ a ≤ 9223372036854775807) (k (.int .i64 (a / b)))
    | _ => gd (b ≠ 0) (k (.int q (q.wrap (a.tdiv b))))
  | .rem => match q with
    | .i64 => gd (0 ≤ a ∧ 0 < b) (k (.int .i64 (a % b)))
    | _ => gd (b ≠ 0) (k (.int q (a.tmod b)))
  | .and => k (.int q (q.wrap (BitVec.ofInt q.bits a &&& BitVec.ofInt q.bits b).toNat))
  | .or => k (.int q (q.wrap (BitVec.ofInt q.bits a ||| BitVec.ofInt q.bits b).toNat))
  | .xor => k (.int q (q.wrap (BitVec.ofInt q.bits a ^^^ BitVec.ofInt q.bits b).toNat))
  | .andNot => k (.int q (q.wrap (BitVec.ofInt q.bits a &&& ~~~(BitVec.ofInt q.bits b)).toNat))
  | .eql => k (.bool (a == b))
  | .neq => k (.bool (a != b))
  | .lss => k (.bool (decide (a < b)))
  | .leq => k (.bool (decide (a ≤ b)))
  | .gtr => k (.bool (decide (a > b)))
  | .geq => k (.bool (decide (a ≥ b)))
  | _ => none
def hstrE (op : BinOp) (a b : List UInt8) (k : HVal → Option R) : Option R :=
  match op with
  | .add => gd (a.length + b.length ≤ 9223372036854775807) (k (.str (a ++ b)))
  | .eql => k (.bool (a == b))
  | .neq => k (.bool (!(a == b)))
  | .lss => k (.bool (Op.bytesLess a b))
  | .leq => k (.bool (Op.bytesLess a b || a == b))
  | .gtr => k (.bool (!(Op.bytesLess a b || a == b)))
  | .geq => k (.bool (!(Op.bytesLess a b)))
  | _ => none
def eqOrE (op : BinOp) (r : Bool) (k : HVal → Option R) : Option R :=
  match op with
  | .eql => k (.bool r)
  | .neq => k (.bool (!r))
  | _ => none
def hbinE (op : BinOp) (tk : TK) (eqc : Option (List TK)) (nily nili : Bool) (x y : HVal) (k : HVal → Option R) : Option R :=
  match x, y with
  | .int q a, .int q' b => match op with
    | .shl => gd (0 ≤ b) (k (.int q (q.wrap (a * 2 ^ (min b.toNat q.bits)))))
    | .shr => gd (0 ≤ b) (k (.int q (a.fdiv (2 ^ (min b.toNat q.bits)))))
    | _ => gd (q = q') (hintE op q a b k)
  | .str a, .str b => hstrE op a b k
  | .bool a, .bool b => bif isBoolT tk then eqOrE op (a == b) k else none
  | .agg xs, .agg ys => match eqc with
    | some ts => (match cellsEq ts xs ys with
      | some r => eqOrE op r k
      | none => none)
    | none => none
  | .nili, .nili => bif isIfaceT tk && nili then eqOrE op true k else none
  | .iface _ _, .nili => bif isIfaceT tk then eqOrE op false k else none
  | .nilp, .nilp => bif isPtrT tk then eqOrE op true k else none
  | .ps _ _ _ elems, .ps _ _ _ _ => bif isSliceT tk && nily then (bif elems.isEmpty then none else eqOrE op false k) else none
  | .sl _ _ _ _ _, .ps _ _ _ _ => bif isSliceT tk && nily then eqOrE op false k else none
  | x, .nilp => bif isPtrT tk && isPtr x then eqOrE op false k else none
  | _, _ => none

def srcE (sz : Nat) (get : Nat → Option HObj) : HVal → (List (List HVal) → Option R) → Option R
  | .ps _ es _ elems, k => bif Nat.beq es sz || elems.isEmpty then k elems else none
  | .sl id es i len _, k => match get id with
    | some (.arr es' elems) => gd (es = sz ∧ es' = sz ∧ i + len ≤ elems.length) (k ((elems.drop i).take len))
    | _ => none
  | .str s, k => gd (sz = 1) (k (s.map fun b => [.int .u8 b.toNat]))
  | _, _ => none
def intE : HVal → (Int → Option R) → Option R
  | .int _ n, k => k n
  | _, _ => none
def optIntE (has : Bool) (vs : List HVal) (d : Int) (k : Int → List HVal → Option R) : Option R :=
  bif has then (match vs with | v :: r => intE v fun n => k n r | [] => none) else k d vs
def elemOKE (cx : Cx) (t : Nat) (k : Nat → TI → Option R) : Option R :=
  match (cx.T t).tk with
  | .slice e => nOE (cx.T e) (k e (cx.T e))
  | _ => none
def roomE (cp : Cap) (n : Nat) (k : Bool → Cap → Option R) : Option R :=
  match cp with
  | .ge c => bif Nat.ble n c then k false (.ge c) else k false (.ge n)
  | .eq c => bif Nat.ble n c then k false (.eq c) else k true (.ge n)
theorem room_t {cp : Cap} {n : Nat} {k : Bool → Cap → Option R} {k' : Bool → Cap → Prop} {r : R} (h : roomE cp n k = some r) (hk : ∀ b c, k b c = some r → k' b c) : roomK cp n k' := by
  cases cp with
  | ge c =>
    simp only [roomE] at h
    simp only [roomK]
    cases hb : Nat.ble n c
    · rw [hb] at h; exact .ff (hk _ _ h)
    · rw [hb] at h; exact .tt (hk _ _ h)
  | eq c =>
    simp only [roomE] at h
    simp only [roomK]
    cases hb : Nat.ble n c
    · rw [hb] at h; exact .ff (hk _ _ h)
    · rw [hb] at h; exact .tt (hk _ _ h)
def sameOrE (es sz : Nat) (elems : List (List HVal)) : Bool := Nat.beq es sz || elems.isEmpty

theorem hint_t {op : BinOp} {q : IntKind} {a b : Int} {k : HVal → Option R} {k' : HVal → Prop} {r : R} (h : hintE op q a b k = some r) (hk : ∀ x, k x = some r → k' x) : hintB op q a b k' := by
  cases op <;> simp only [hintE] at h <;> simp only [hintB] <;> first | exact hk _ h | cases h | skip
  case quo => cases q <;> first | (obtain ⟨h1, h2⟩ := gd_ok h; exact ⟨h1, hk _ h2⟩)
  case rem => cases q <;> first | (obtain ⟨h1, h2⟩ := gd_ok h; exact ⟨h1, hk _ h2⟩)
  all_goals cases q <;> first | exact hk _ h | (obtain ⟨h1, h2⟩ := gd_ok h; exact ⟨h1, hk _ h2⟩)
theorem hstr_t {op : BinOp} {a b : List UInt8} {k : HVal → Option R} {k' : HVal → Prop} {r : R} (h : hstrE op a b k = some r) (hk : ∀ x, k x = some r → k' x) : hstrB op a b k' := by
  cases op <;> simp only [hstrE] at h <;> simp only [hstrB] <;> first | exact hk _ h | (obtain ⟨h1, h2⟩ := gd_ok h; exact ⟨h1, hk _ h2⟩) | cases h
theorem eqOr_t {op : BinOp} {b : Bool} {k : HVal → Option R} {k' : HVal → Prop} {r : R} (h : eqOrE op b k = some r) (hk : ∀ x, k x = some r → k' x) : eqOr op b k' := by
  cases op <;> simp only [eqOrE] at h <;> simp only [eqOr] <;> first | exact hk _ h | cases h
theorem hbin_t {op : BinOp} {tk : TK} {eqc : Option (List TK)} {nily nili : Bool} {x y : HVal} {k : HVal → Option R} {k' : HVal → Prop} {r : R} (h : hbinE op tk eqc nily nili x y k = some r) (hk : ∀ x, k x = some r → k' x) : hbinB op tk eqc nily nili x y k' := by
  unfold hbinE at h
  unfold hbinB
  split at h
  · split at h
    · obtain ⟨h1, h2⟩ := gd_ok h; exact ⟨h1, hk _ h2⟩
    · obtain ⟨h1, h2⟩ := gd_ok h; exact ⟨h1, hk _ h2⟩
    · rename_i h1 h2
      dsimp only
      obtain ⟨h3, h4⟩ := gd_ok h
      split
      · exact absurd rfl h1
      · exact absurd rfl h2
      · exact ⟨h3, hint_t h4 hk⟩
  · exact hstr_t h hk
  · obtain ⟨h1, h2⟩ := bif_ok h
    dsimp only; rw [h1]; exact eqOr_t h2 hk
  · split at h <;> first | (cases h; done) | skip
    split at h <;> first | (cases h; done) | skip
    rename_i q
    dsimp only
    rw [q]
    exact eqOr_t h hk
  · obtain ⟨h1, h2⟩ := bif_ok h
    dsimp only; rw [h1]; exact eqOr_t h2 hk
  · obtain ⟨h1, h2⟩ := bif_ok h
    dsimp only; rw [h1]; exact eqOr_t h2 hk
  · obtain ⟨h1, h2⟩ := bif_ok h
    dsimp only; rw [h1]; exact eqOr_t h2 hk
  · obtain ⟨h1, h2⟩ := bif_ok h
    rename_i elems _ _ _ _
    dsimp only; rw [h1]
    cases he : elems.isEmpty
    · rw [he] at h2; exact .ff (eqOr_t h2 hk)
    · rw [he] at h2; cases h2
  · obtain ⟨h1, h2⟩ := bif_ok h
    dsimp only; rw [h1]; exact eqOr_t h2 hk
  · rename_i hne
    obtain ⟨h1, h2⟩ := bif_ok h
    cases x <;> first | exact absurd rfl hne | (dsimp only; rw [h1]; exact eqOr_t h2 hk)
  · cases h
def srcAE (ti : TI) (get : Nat → Option HObj) (utk : TK) (x : HVal) (k : List (List HVal) → Option R) : Option R :=
  match utk with
  | .slice _ => srcE ti.size get x k
  | .str => srcE ti.size get x k
  | .int _ => (match x with
    | .int _ n => flatE ti.zero fun z => gd (0 ≤ n ∧ z.length = ti.size) (k (List.replicate n.toNat z))
    | _ => none)
  | _ => none
theorem src_t {sz : Nat} {get : Nat → Option HObj} {x : HVal} {k : List (List HVal) → Option R} {k' : List (List HVal) → Prop} {r : R} (h : srcE sz get x k = some r) (hk : ∀ x, k x = some r → k' x) : srcK sz get x k' := by
  cases x <;> simp only [srcE] at h <;> simp only [srcK] <;> first | (cases h; done) | skip
  case ps =>
    obtain ⟨h1, h2⟩ := bif_ok h
    simp only [Bool.or_eq_true, Nat.beq_eq, List.isEmpty_iff] at h1
    exact ⟨h1, hk _ h2⟩
  case sl =>
    split at h
    · obtain ⟨h1, h2⟩ := gd_ok h
      simp_all
    · cases h
  case str => obtain ⟨h1, h2⟩ := gd_ok h; exact ⟨h1, hk _ h2⟩
theorem srcA_t {ti : TI} {get : Nat → Option HObj} {utk : TK} {x : HVal} {k : List (List HVal) → Option R} {k' : List (List HVal) → Prop} {r : R} (h : srcAE ti get utk x k = some r) (hk : ∀ x, k x = some r → k' x) : srcA ti get utk x k' := by
  unfold srcAE at h
  unfold srcA
  cases utk <;> dsimp only at h ⊢ <;> first | (cases h; done) | exact src_t h hk | skip
  cases x <;> dsimp only at h ⊢ <;> first | (cases h; done) | skip
  refine flat_t h fun z hz => ?_
  obtain ⟨h1, h2⟩ := gd_ok hz
  exact ⟨h1, hk _ h2⟩
theorem optInt_t {has : Bool} {vs : List HVal} {d : Int} {k : Int → List HVal → Option R} {k' : Int → List HVal → Prop} {r : R} (h : optIntE has vs d k = some r) (hk : ∀ n l, k n l = some r → k' n l) : optInt has vs d k' := by
  cases has
  · exact hk _ _ h
  · simp only [optIntE, cond_true] at h
    simp only [optInt, cond_true]
    cases vs with
    | nil => cases h
    | cons v q =>
      cases v <;> simp only [intE] at h <;> first | exact hk _ _ h | cases h
theorem elemOK_t {cx : Cx} {t : Nat} {k : Nat → TI → Option R} {k' : Nat → TI → Prop} {r : R} (h : elemOKE cx t k = some r) (hk : ∀ e ti, k e ti = some r → k' e ti) : elemOK cx t k' := by
  unfold elemOKE at h
  unfold elemOK
  split at h
  · rename_i e he
    rw [he]
    exact nO_t h fun h => hk _ _ h
  · cases h
theorem sameOr_ok {es sz : Nat} {elems : List (List HVal)} (h : sameOrE es sz elems = true) : sameOr es sz elems := by
  simp only [sameOrE, Bool.or_eq_true, Nat.beq_eq, List.isEmpty_iff] at h
  exact h
end
end Go.Hv
