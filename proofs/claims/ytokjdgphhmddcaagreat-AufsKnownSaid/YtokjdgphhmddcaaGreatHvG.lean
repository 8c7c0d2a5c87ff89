/- What is proved here: laws of an upper level over the model (values, heaps, operations, regions, calls), and an evaluator of closed calls that is sound. -/
import Derived.DeepKeys
import Derived.Below
import Derived.ChangeSame
import Derived.Lay
import Derived.LaidHandle
import Derived.Test.YtokjdgphhmddcaaGreatHvF
set_option linter.all false
namespace Go.Hv
open Go
section
variable {cx : Cx} {tab : Nat → Option FT} {ih : Run}

/-! ### Loops, round by round -/
def LRun (cx : Cx) (nt : Nat) (rd : Option Nat) (c : Code) (Q : Exit → St → Prop) : Nat → St → Prop
  | 0, _ => False
  | k + 1, s => HWp cx nt rd c (fun e s' => match e with | .normal => LRun cx nt rd c Q k s' | e => Q e s') s
theorem HWp.of_LRun {nt : Nat} {rd : Option Nat} {c : Code} {Q : Exit → St → Prop} {k : Nat} {s : St} (h : LRun cx nt rd c Q k s) : HWp cx nt rd (.loop c) Q s := by
  refine HWp.loop (fun s => ∃ k, LRun cx nt rd c Q k s) (fun s => least fun k => LRun cx nt rd c Q k s) ⟨k, h⟩ ?_
  rintro s1 ⟨k1, h1⟩
  obtain ⟨g1, g2⟩ := least_spec (p := fun k => LRun cx nt rd c Q k s1) h1
  generalize hm : (least fun k => LRun cx nt rd c Q k s1) = m at g1 g2
  cases m with
  | zero => exact g1.elim
  | succ m =>
    refine HWp.mono g1 fun e s' he => ?_
    cases e with
    | normal =>
      refine ⟨⟨m, he⟩, ?_⟩
      have := (least_spec (p := fun k => LRun cx nt rd c Q k s') he).2 m he
      omega
    | _ => exact he
def LoopOK (cx : Cx) (ih : Run) : Prop := ∀ lv nt rd c s e s', ih lv nt rd (.loop c) s = some (e, s') → ∃ k, LRun cx nt rd c (fun e1 s1 => e1 = e ∧ s1 = s') k s

/-! ### Calls that leave the heap as it is -/
noncomputable def callP (cx : Cx) (tab : Nat → Option FT) (ih : Run) (lv : Nat) (g : Nat) (args : List HVal) (get : Nat → Option HObj) : Option (HVal × List Nat) :=
  match mapP (purE get (lv + 1) purFuel) args with
  | none => none
  | some (args', ids) => match callE cx tab ih (lv + 1) g args' [] 0 with
    | none => none
    | some (v, hh', _) => match purE (hget hh') 0 purFuel v with
      | none => none
      | some (v', _) => bif noRef anyL v' && noRef (otherL (lv + 1)) v' then some (v', ids) else none
theorem callP_ok (ok : CxOK cx) (hG : ∀ g cs, (g, cs) ∈ cx.G → noRefs anyL cs = true) (ht : TabOK cx tab) (hih : RunOK cx ih) {lv g : Nat} {args : List HVal} {get : Nat → Option HObj} {v : HVal} {ids : List Nat} (h : callP cx tab ih lv g args get = some (v, ids)) {hh : List (Nat × HObj)} (hi : ∀ id ∈ ids, hget hh id = get id) : PCall cx g args hh v := by
  unfold callP at h
  split at h <;> first | (cases h; done) | skip
  rename_i args' ids' h1
  split at h <;> first | (cases h; done) | skip
  rename_i v1 hh' n1 h2
  split at h <;> first | (cases h; done) | skip
  rename_i v' is h3
  obtain ⟨h4, h5⟩ := bif_ok h
  simp only [Option.some.injEq, Prod.mk.injEq] at h5
  obtain ⟨rfl, rfl⟩ := h5
  simp only [Bool.and_eq_true] at h4
  refine PSpec.lend (lf := lv + 1) (PSpec.intro h4.1 ?_) (mapP_pur (get := get) (hh := hh) (fun v v' is => purE_ok (get := get) (hh := hh) purFuel v v' is) h1 hi) h4.2 hG
  exact (callE_ok ok hG ht hih h2).mono fun v2 h2 n2 he => by
    obtain ⟨rfl, rfl, rfl⟩ := he
    exact purE_ok purFuel _ _ _ h3 fun _ _ => rfl

/-! ### Calls on the part of the heap that they can reach -/
mutual
def idsV : HVal → List Nat
  | .bp id _ => [id]
  | .ptr id _ _ _ => [id]
  | .sl id _ _ _ _ => [id]
  | .map id => [id]
  | .yield id => [id]
  | .func _ a c => idsVs a ++ idsVs c
  | .agg cs => idsVs cs
  | .tup cs => idsVs cs
  | .iface _ v => idsV v
  | _ => []
def idsVs : List HVal → List Nat
  | [] => []
  | v :: r => idsV v ++ idsVs r
end
def idsE : List (List HVal) → List Nat
  | [] => []
  | v :: r => idsVs v ++ idsE r
def idsP : List (HVal × HVal) → List Nat
  | [] => []
  | (k, v) :: r => idsV k ++ (idsV v ++ idsP r)
def idsEnv : List (Nat × HVal) → List Nat
  | [] => []
  | (_, v) :: r => idsV v ++ idsEnv r
def idsO : HObj → List Nat
  | .box cs => idsVs cs
  | .arr _ els => idsE els
  | .map es => idsP es
  | .miter es c => idsP es ++ idsP c
  | .siter _ _ => []
  | .loop _ _ _ env _ _ _ => idsEnv env
noncomputable def reachE (get : Nat → Option HObj) : Nat → List Nat → List (Nat × HObj) → Option (List (Nat × HObj))
  | 0, _, _ => none
  | n + 1, l, acc => match l with
    | [] => some acc
    | id :: r => bif memK id acc then reachE get n r acc else (match get id with
      | some o => reachE get n (idsO o ++ r) ((id, o) :: acc)
      | none => reachE get n r acc)
noncomputable def callL (cx : Cx) (tab : Nat → Option FT) (ih : Run) (lv : Nat) (g : Nat) (args : List HVal) (get : Nat → Option HObj) (next : Nat) : Option (HVal × Eds × Nat × List (Nat × HObj)) :=
  match reachE get 1000 (idsVs args) [] with
  | none => none
  | some hs => match callE cx tab ih lv g args hs next with
    | none => none
    | some (v, hh', hi) => bif Nat.ble next hi && vIns (ltB next) args && allO (ltB next) hs && vIn (inL hs next hi) v && allO (inL hs next hi) hh' && nodupK hs && nodupK hh' then some (v, chgEd hs hh' ++ newEd next hh', hi, hs) else none

/-! ### Regions that draw their order -/
noncomputable def tr1E (cx : Cx) (tab : Nat → Option FT) (ih : Run) (lv nt : Nat) (all : List Oper) (o : Oper) (s : St) : Option Tr :=
  bif dstOK nt o.dst then (match guardE all o s.env with
    | none => none
    | some false => some ⟨o.dst.map (·, hundef), [], s.next, s.next, guardTmp all o, []⟩
    | some true => match evsE cx s.env (hargs o.op) with
      | none => none
      | some vs => bif isCallV o.op then (match vs with
          | .func (.func g) first captured :: as => bif cx.B g then (match callL cx tab ih lv g (first ++ (as ++ captured)) (hgetF s.hh) s.next with
            | some (v, ed, hi, hs) => some ⟨o.dst.map (·, v), ed, s.next, hi, guardTmp all o ++ tmpsOf (hargs o.op), hs.map (·.1)⟩
            | none => none) else none
          | _ => none)
        else match opE cx o.op vs (hgetF s.hh) s.next with
          | some (v, ed, n') => bif Nat.ble n' (s.next + 1) then some ⟨o.dst.map (·, v), ed, s.next, s.next + 1, guardTmp all o ++ tmpsOf (hargs o.op), touchOp o.op vs⟩ else none
          | none => none) else none
def applyTr (s : St) (t : Tr) : St := ⟨match t.put with | none => s.env | some (d, v) => eset s.env d v, hedit s.hh t.ed, t.hi⟩
noncomputable def applyK {R : Type} (s : St) (t : Tr) (k : St → R) : R :=
  heditK s.hh t.ed fun hh => forceN t.hi fun n => match t.put with
    | none => k ⟨s.env, hh, n⟩
    | some (d, v) => forceV v fun v => esetK s.env d v fun env => k ⟨env, hh, n⟩
theorem applyK_eq {R : Type} (s : St) (t : Tr) (k : St → R) : applyK s t k = k (applyTr s t) := by
  unfold applyK applyTr
  rw [heditK_eq, forceN_eq]
  cases t.put with
  | none => rfl
  | some p => obtain ⟨d, v⟩ := p; simp only [forceV_eq, esetK_eq]
noncomputable def trE (cx : Cx) (tab : Nat → Option FT) (ih : Run) (lv nt : Nat) (all : List Oper) : List Oper → St → Option (St × List Tr)
  | [], s => some (s, [])
  | o :: rest, s => match tr1E cx tab ih lv nt all o s with
    | none => none
    | some t => applyK s t fun s1 => match trE cx tab ih lv nt all rest s1 with
      | none => none
      | some (s', l) => some (s', t :: l)
/-- The temporaries: what one writes, no other reads or writes, but in order. It speaks of the text alone. -/
def opReads (all : List Oper) (o : Oper) : List Nat := guardTmp all o ++ tmpsOf (hargs o.op)
def memN (x : Nat) : List Nat → Bool
  | [] => false
  | y :: r => bif Nat.beq x y then true else memN x r
def sameDst (x : Nat) : Option Tmp → Bool
  | none => false
  | some y => Nat.beq x y
def inOrder (ms : List Nat) (i j : Nat) : Bool := bif Nat.beq i j then true else bif (ms.getD i 0).testBit j then true else (ms.getD j 0).testBit i
def statAt (ms : List Nat) (all : List Oper) (d j : Nat) : List Oper → Nat → Bool
  | [], _ => true
  | o :: r, i => bif (bif memN d (opReads all o) then true else sameDst d o.dst) then (bif inOrder ms i j then statAt ms all d j r (i + 1) else false) else statAt ms all d j r (i + 1)
def statAll (ms : List Nat) (all : List Oper) : List Oper → Nat → Bool
  | [], _ => true
  | o :: r, j => match o.dst with
    | none => statAll ms all r (j + 1)
    | some d => bif statAt ms all d j all 0 then statAll ms all r (j + 1) else false
/-- The blocks. -/
def meets (t : Tr) (ed : Eds) : Bool := ed.any fun p => t.ids.any (Nat.beq p.1) || t.ed.any fun q => Nat.beq p.1 q.1
def dynAt (ms : List Nat) (ed : Eds) (j : Nat) : List Tr → Nat → Bool
  | [], _ => true
  | t :: r, i => bif inOrder ms i j then dynAt ms ed j r (i + 1) else bif meets t ed then false else dynAt ms ed j r (i + 1)
def dynAll (ms : List Nat) (all : List Tr) : List Tr → Nat → Bool
  | [], _ => true
  | u :: r, j => match u.ed with
    | [] => dynAll ms all r (j + 1)
    | p :: q => bif dynAt ms (p :: q) j all 0 then dynAll ms all r (j + 1) else false
def statOK (ops : Array Oper) : Bool := edgesDown ops.toList 0 && statAll (masks ops.toList []) ops.toList ops.toList 0
noncomputable def drawE (cx : Cx) (tab : Nat → Option FT) (ih : Run) (lv nt : Nat) (ops : Array Oper) (s : St) : Option St :=
  match trE cx tab ih lv nt ops.toList ops.toList s with
  | none => none
  | some (s', tr) => bif statOK ops then (bif dynAll (masks ops.toList []) tr tr 0 then some s' else none) else none

theorem memN_ok {x : Nat} : ∀ {l : List Nat}, x ∈ l → memN x l = true
  | y :: r, h => by
    simp only [memN]
    by_cases e : x = y
    · subst e; simp
    · rw [beq_ff e]
      simp only [cond_false]
      exact memN_ok ((List.mem_cons.1 h).resolve_left e)
theorem inOrder_ok {ms : List Nat} {i j : Nat} (h : inOrder ms i j = true) (hne : i ≠ j) : (ms.getD i 0).testBit j = true ∨ (ms.getD j 0).testBit i = true := by
  unfold inOrder at h
  rw [beq_ff hne] at h
  simp only [cond_false] at h
  cases hb : (ms.getD i 0).testBit j
  · rw [hb] at h; exact .inr h
  · exact .inl rfl
theorem statAt_ok {ms : List Nat} {all : List Oper} {d j : Nat} : ∀ {l : List Oper} {k i : Nat} {o : Oper}, statAt ms all d j l k = true → l[i]? = some o → (d ∈ opReads all o ∨ o.dst = some d) → inOrder ms (k + i) j = true
  | [], _, i, _, _, h, _ => by simp at h
  | a :: r, k, 0, o, hs, h, ho => by
    obtain rfl : a = o := by simpa using h
    simp only [statAt] at hs
    have : (bif memN d (opReads all a) then true else sameDst d a.dst) = true := by
      rcases ho with ho | ho
      · rw [memN_ok ho]; rfl
      · cases memN d (opReads all a)
        · simp [ho, sameDst]
        · rfl
    rw [this] at hs
    simp only [cond_true] at hs
    cases hi : inOrder ms k j
    · rw [hi] at hs; cases hs
    · simpa using hi
  | a :: r, k, i + 1, o, hs, h, ho => by
    simp only [statAt] at hs
    have : statAt ms all d j r (k + 1) = true := by
      revert hs
      cases (bif memN d (opReads all a) then true else sameDst d a.dst)
      · exact fun h => h
      · simp only [cond_true]
        cases inOrder ms k j
        · intro h; cases h
        · exact fun h => h
    have := statAt_ok (i := i) this (by simpa using h) ho
    rwa [show k + (i + 1) = k + 1 + i by omega]
theorem statAll_ok {ms : List Nat} {all : List Oper} : ∀ {l : List Oper} {k j : Nat} {o : Oper} {d : Nat}, statAll ms all l k = true → l[j]? = some o → o.dst = some d → statAt ms all d (k + j) all 0 = true
  | [], _, j, _, _, _, h, _ => by simp at h
  | a :: r, k, 0, o, d, hs, h, hd => by
    obtain rfl : a = o := by simpa using h
    simp only [statAll, hd] at hs
    cases hb : statAt ms all d k all 0
    · rw [hb] at hs; cases hs
    · simpa using hb
  | a :: r, k, j + 1, o, d, hs, h, hd => by
    simp only [statAll] at hs
    have : statAll ms all r (k + 1) = true := by
      split at hs
      · exact hs
      · cases hb : statAt ms all _ k all 0
        · rw [hb] at hs; cases hs
        · rw [hb] at hs; exact hs
    rw [show k + (j + 1) = k + 1 + j by omega]
    exact statAll_ok this (by simpa using h) hd
theorem dynAt_ok {ms : List Nat} {ed : Eds} {j : Nat} : ∀ {l : List Tr} {k i : Nat} {t : Tr}, dynAt ms ed j l k = true → l[i]? = some t → meets t ed = true → inOrder ms (k + i) j = true
  | [], _, i, _, _, h, _ => by simp at h
  | a :: r, k, 0, t, hs, h, hm => by
    obtain rfl : a = t := by simpa using h
    simp only [dynAt, hm] at hs
    cases hi : inOrder ms k j
    · rw [hi] at hs; cases hs
    · simpa using hi
  | a :: r, k, i + 1, t, hs, h, hm => by
    simp only [dynAt] at hs
    have : dynAt ms ed j r (k + 1) = true := by
      revert hs
      cases inOrder ms k j
      · simp only [cond_false]
        cases meets a ed
        · exact fun h => h
        · intro h; cases h
      · exact fun h => h
    rw [show k + (i + 1) = k + 1 + i by omega]
    exact dynAt_ok this (by simpa using h) hm
theorem dynAll_ok {ms : List Nat} {all : List Tr} : ∀ {l : List Tr} {k j : Nat} {u : Tr}, dynAll ms all l k = true → l[j]? = some u → u.ed ≠ [] → dynAt ms u.ed (k + j) all 0 = true
  | [], _, j, _, _, h, _ => by simp at h
  | a :: r, k, 0, u, hs, h, hn => by
    obtain rfl : a = u := by simpa using h
    simp only [dynAll] at hs
    split at hs
    · rename_i he; exact absurd he hn
    · rename_i p q he
      rw [he]
      cases hb : dynAt ms (p :: q) k all 0
      · rw [hb] at hs; cases hs
      · simpa using hb
  | a :: r, k, j + 1, u, hs, h, hn => by
    simp only [dynAll] at hs
    have : dynAll ms all r (k + 1) = true := by
      split at hs
      · exact hs
      · rename_i p q he
        cases hb : dynAt ms (p :: q) k all 0
        · rw [hb] at hs; cases hs
        · rw [hb] at hs; exact hs
    rw [show k + (j + 1) = k + 1 + j by omega]
    exact dynAll_ok this (by simpa using h) hn

theorem gF_shift {α : Type} {f : Tr → Option α} {S : Nat → Bool} : ∀ {l : List Tr} {k : Nat} {c : α}, gF f S l (k + 1) c = gF f (fun j => S (j + 1)) l k c
  | [], _, _ => rfl
  | t :: r, k, c => by
    simp only [gF]
    exact gF_shift
theorem eget_applyTr (s : St) (t : Tr) (x : Nat) : eget (applyTr s t).env x = (fx x t).getD (eget s.env x) := by
  unfold applyTr fx
  cases t.put with
  | none => rfl
  | some p =>
    obtain ⟨d, v⟩ := p
    dsimp only
    rw [eget_eset]
    cases Nat.beq x d <;> rfl
theorem tr1E_names {lv nt : Nat} {all : List Oper} {o : Oper} {s : St} {t : Tr} (h : tr1E cx tab ih lv nt all o s = some t) : t.lo = s.next ∧ t.lo ≤ t.hi := by
  unfold tr1E at h
  obtain ⟨_, h⟩ := bif_ok h
  split at h
  · cases h
  · obtain rfl := Option.some.inj h; exact ⟨rfl, Nat.le_refl _⟩
  · split at h
    · cases h
    · rename_i o' _ _ vs _
      cases hc : isCallV o.op
      · rw [hc] at h
        simp only [cond_false] at h
        split at h
        · obtain ⟨_, h⟩ := bif_ok h
          obtain rfl := Option.some.inj h; exact ⟨rfl, Nat.le_succ _⟩
        · cases h
      · rw [hc] at h
        simp only [cond_true] at h
        split at h
        · obtain ⟨_, h⟩ := bif_ok h
          split at h
          · rename_i hcp
            obtain rfl := Option.some.inj h
            refine ⟨rfl, ?_⟩
            unfold callL at hcp
            split at hcp <;> first | (cases hcp; done) | skip
            split at hcp <;> first | (cases hcp; done) | skip
            obtain ⟨hchk, hcp⟩ := bif_ok hcp
            simp only [Option.some.injEq, Prod.mk.injEq] at hcp
            obtain ⟨_, _, rfl, _⟩ := hcp
            simp only [Bool.and_eq_true] at hchk
            exact Nat.le_of_ble_eq_true hchk.1.1.1.1.1.1
          · cases h
        · cases h

theorem tr1E_text {lv nt : Nat} {all : List Oper} {o : Oper} {s : St} {t : Tr} (h : tr1E cx tab ih lv nt all o s = some t) : (∀ x v, t.put = some (x, v) → o.dst = some x) ∧ ∀ x ∈ t.reads, x ∈ opReads all o := by
  have hput : ∀ {w v : HVal} {x : Nat}, o.dst.map (·, w) = some (x, v) → o.dst = some x := by
    intro w v x
    cases o.dst with
    | none => intro h; cases h
    | some d => intro h; simp only [Option.map_some, Option.some.injEq, Prod.mk.injEq] at h; rw [h.1]
  unfold tr1E at h
  obtain ⟨_, h⟩ := bif_ok h
  split at h
  · cases h
  · obtain rfl := Option.some.inj h; exact ⟨fun x v hp => hput hp, fun x hx => List.mem_append_left _ hx⟩
  · split at h
    · cases h
    · cases hc : isCallV o.op
      · rw [hc] at h
        simp only [cond_false] at h
        split at h
        · obtain ⟨_, h⟩ := bif_ok h
          obtain rfl := Option.some.inj h; exact ⟨fun x v hp => hput hp, fun x hx => hx⟩
        · cases h
      · rw [hc] at h
        simp only [cond_true] at h
        split at h
        · obtain ⟨_, h⟩ := bif_ok h
          split at h
          · obtain rfl := Option.some.inj h; exact ⟨fun x v hp => hput hp, fun x hx => hx⟩
          · cases h
        · cases h

theorem trE_ok {lv nt : Nat} {all : List Oper} : ∀ {rest : List Oper} {s s' : St} {l : List Tr}, trE cx tab ih lv nt all rest s = some (s', l) →
    l.length = rest.length ∧ namesOK s.next l = true ∧ s'.next = lastName s.next l ∧ (∀ x, eget s'.env x = gF (fx x) everyone l 0 (eget s.env x)) ∧ (∀ id, hget s'.hh id = gF (fid id) everyone l 0 (hget s.hh id)) ∧
      ∀ i t, l[i]? = some t → ∃ o si, rest[i]? = some o ∧ tr1E cx tab ih lv nt all o si = some t ∧ (∀ x, eget si.env x = gF (fx x) (below i) l 0 (eget s.env x)) ∧ (∀ id, hget si.hh id = gF (fid id) (below i) l 0 (hget s.hh id)) ∧ si.next = t.lo
  | [], s, s', l, h => by
    simp only [trE, Option.some.injEq, Prod.mk.injEq] at h
    obtain ⟨rfl, rfl⟩ := h
    exact ⟨rfl, rfl, rfl, fun _ => rfl, fun _ => rfl, fun i t h => by simp at h⟩
  | o :: rest, s, s', l, h => by
    simp only [trE] at h
    split at h
    · cases h
    · rename_i t ht
      rw [applyK_eq] at h
      split at h
      · cases h
      · rename_i s2 l2 h2
        simp only [Option.some.injEq, Prod.mk.injEq] at h
        obtain ⟨rfl, rfl⟩ := h
        obtain ⟨k1, k2, k3, k4, k5, k6⟩ := trE_ok h2
        obtain ⟨n1, n2⟩ := tr1E_names ht
        have hx : ∀ x, eget (applyTr s t).env x = (fx x t).getD (eget s.env x) := eget_applyTr s t
        have hid : ∀ id, hget (applyTr s t).hh id = (fid id t).getD (hget s.hh id) := fun id => hget_hedit _ _ _
        refine ⟨by simp [k1], ?_, k3, fun x => ?_, fun id => ?_, fun i u hu => ?_⟩
        · simp only [namesOK, Bool.and_eq_true, Nat.beq_eq, Nat.ble_eq]
          exact ⟨⟨n1, n2⟩, k2⟩
        · rw [k4 x, hx]
          simp only [gF, gF_shift]
          rfl
        · rw [k5 id, hid]
          simp only [gF, gF_shift]
          rfl
        · cases i with
          | zero =>
            obtain rfl : t = u := by simpa using hu
            refine ⟨o, s, rfl, ht, fun x => ?_, fun id => ?_, n1.symm⟩
            · exact (gF_none fun j t' _ _ => by simp [below, Nat.blt]; rfl).symm
            · exact (gF_none fun j t' _ _ => by simp [below, Nat.blt]; rfl).symm
          | succ i =>
            obtain ⟨o', si, q1, q2, q3, q4, q5⟩ := k6 i u (by simpa using hu)
            have hb : (fun j => below (i + 1) (j + 1)) = below i := by
              funext j
              cases hbl : below i j
              · cases hbl' : below (i + 1) (j + 1)
                · rfl
                · have h1 : j + 1 + 1 ≤ i + 1 := Nat.le_of_ble_eq_true hbl'
                  have h2 : below i j = true := Nat.ble_eq_true_of_le (show j + 1 ≤ i by omega)
                  rw [hbl] at h2; cases h2
              · have h1 : j + 1 ≤ i := Nat.le_of_ble_eq_true hbl
                exact Nat.ble_eq_true_of_le (show j + 1 + 1 ≤ i + 1 by omega)
            have h0 : below (i + 1) 0 = true := Nat.ble_eq_true_of_le (show 0 + 1 ≤ i + 1 by omega)
            refine ⟨o', si, by simpa using q1, q2, fun x => ?_, fun id => ?_, q5⟩
            · rw [q3 x, hx]
              simp only [gF, gF_shift, hb, h0]
              rfl
            · rw [q4 id, hid]
              simp only [gF, gF_shift, hb, h0]
              rfl

theorem OGo.mono_used {nt : Nat} {ops : Array Oper} {i : Nat} {env : List (Nat × HVal)} {hh : List (Nat × HObj)} {used u1 u2 : Nat → Prop} {d : Option (Nat × HVal)} {ed : Eds} (h : OGo cx nt ops i env hh used d ed u1) (hu : ∀ id, u1 id → u2 id) : OGo cx nt ops i env hh used d ed u2 :=
  ⟨fun n r Γ a w next Q hs hE hR hnext => h.run n r Γ a w next Q hs hE hR fun a' w' Γ' g1 g2 => hnext a' w' Γ' g1 (g2.mono hu)⟩

theorem hget_mem1 : ∀ {l : List (Nat × HObj)} {id : Nat} {o : HObj}, hget l id = some o → id ∈ l.map (·.1)
  | [], _, _, h => by cases h
  | (j, u) :: r, id, o, h => by
    simp only [hget] at h
    cases e : Nat.beq id j
    · rw [e] at h; exact List.mem_cons_of_mem _ (hget_mem1 h)
    · rw [Nat.eq_of_beq_eq_true e]; exact List.mem_cons_self ..
theorem reachE_ok {get : Nat → Option HObj} : ∀ {n : Nat} {l : List Nat} {acc hs : List (Nat × HObj)}, reachE get n l acc = some hs → (∀ id o, hget acc id = some o → get id = some o) → ∀ id o, hget hs id = some o → get id = some o
  | 0, _, _, _, h, _ => by cases h
  | n + 1, l, acc, hs, h, ha => by
    simp only [reachE] at h
    split at h
    · obtain rfl := Option.some.inj h; exact ha
    · rename_i id r
      cases hm : memK id acc
      · rw [hm] at h
        simp only [cond_false] at h
        split at h
        · rename_i o hg
          refine reachE_ok h fun id' o' h' => ?_
          simp only [hget] at h'
          cases e : Nat.beq id' id
          · rw [e] at h'; exact ha id' o' h'
          · rw [e] at h'
            obtain rfl := Nat.eq_of_beq_eq_true e
            obtain rfl := Option.some.inj h'
            exact hg
        · exact reachE_ok h ha
      · rw [hm] at h; exact reachE_ok h ha
theorem tr1E_go (ok : CxOK cx) (hG : ∀ g cs, (g, cs) ∈ cx.G → noRefs anyL cs = true) (ht : TabOK cx tab) (hih : RunOK cx ih) {lv nt : Nat} {ops : Array Oper} {i : Nat} {o : Oper} {si : St} {t : Tr} (ho : ops[i]? = some o) (h : tr1E cx tab ih lv nt ops.toList o si = some t)
    {env : List (Nat × HVal)} {hh : List (Nat × HObj)} {used : Nat → Prop} (hx : ∀ x ∈ t.reads, eget env x = eget si.env x) (hi : ∀ id ∈ t.ids, hget hh id = hget si.hh id) (hn : ∀ id, t.lo ≤ id → id < t.hi → ¬ used id) : OGo cx nt ops i env hh used t.put t.ed (upto used t.lo t.hi) := by
  unfold tr1E at h
  simp only [hgetF_eq] at h
  obtain ⟨hd, h⟩ := bif_ok h
  split at h
  · cases h
  · rename_i hg
    obtain rfl := Option.some.inj h
    exact (OGo.skip ho ((guardE_congr hx).trans hg) hd).mono_used fun _ h => .inl h
  · rename_i hg
    split at h
    · cases h
    · rename_i vs hvs
      cases hc : isCallV o.op
      · rw [hc] at h
        simp only [cond_false] at h
        split at h
        · rename_i v ed n' hop
          obtain ⟨hle, h⟩ := bif_ok h
          obtain rfl := Option.some.inj h
          have hle := Nat.le_of_ble_eq_true hle
          refine (OGo.op ok ho ((guardE_congr fun x hx' => hx x (List.mem_append_left _ hx')).trans hg) ((evsE_congr fun x hx' => hx x (List.mem_append_right _ hx')).trans hvs) ((opE_ok hop).congr hi) (hn _ (Nat.le_refl _) (Nat.lt_succ_self _)) hd).mono_used fun id hid => ?_
          rcases hid with hid | hid
          · exact .inl hid
          · exact .inr ⟨hid.1, Nat.lt_of_lt_of_le hid.2 hle⟩
        · cases h
      · rw [hc] at h
        simp only [cond_true] at h
        split at h
        · rename_i g first captured as
          obtain ⟨hB, h⟩ := bif_ok h
          split at h
          · rename_i v ed hi' hs hcp
            obtain rfl := Option.some.inj h
            unfold isCallV at hc
            split at hc <;> first | (cases hc; done) | skip
            rename_i x args ats hop
            unfold callL at hcp
            split at hcp <;> first | (cases hcp; done) | skip
            rename_i hs1 hre
            split at hcp <;> first | (cases hcp; done) | skip
            rename_i v1 hh' hi1 hcall
            obtain ⟨hchk, hcp⟩ := bif_ok hcp
            simp only [Option.some.injEq, Prod.mk.injEq] at hcp
            obtain ⟨rfl, rfl, rfl, rfl⟩ := hcp
            simp only [Bool.and_eq_true] at hchk
            obtain ⟨⟨⟨⟨⟨⟨_, c2⟩, c3⟩, c4⟩, c5⟩, c6⟩, c7⟩ := hchk
            have hsub : ∀ id o, hget hs1 id = some o → hget hh id = some o := fun id o h => by
              have hm : id ∈ hs1.map (·.1) := hget_mem1 h
              rw [hi id hm]
              exact reachE_ok hre (fun id o h => by cases h) id o h
            exact OGo.callPart ok hG ho hop rfl ((guardE_congr fun x hx' => hx x (List.mem_append_left _ hx')).trans hg) ((evsE_congr fun x hx' => hx x (List.mem_append_right _ hx')).trans hvs) hB (callE_ok ok hG ht hih hcall) c2 c3 c4 c5 c6 c7 hsub hn hd
          · cases h
        · cases h

theorem drawE_ok (ok : CxOK cx) (hG : ∀ g cs, (g, cs) ∈ cx.G → noRefs anyL cs = true) (ht : TabOK cx tab) (hih : RunOK cx ih) {lv nt id : Nat} {rd : Option Nat} {ops : Array Oper} {s s' : St} (h : drawE cx tab ih lv nt ops s = some s') : HWp cx nt rd (.region id ops true) (fun e1 s1 => e1 = .normal ∧ s1 = s') s := by
  unfold drawE at h
  split at h
  · cases h
  · rename_i s2 tr htr
    obtain ⟨h1, h2⟩ := bif_ok h
    obtain ⟨h3, h4⟩ := bif_ok h2
    obtain rfl := Option.some.inj h4
    simp only [statOK, Bool.and_eq_true] at h1
    obtain ⟨k1, k2, k3, k4, k5, k6⟩ := trE_ok htr
    refine HWp.drawn ok (s := s) (tr := tr) ⟨by rw [k1]; simp, h1.1, fun i j t u hi hj hne hc => ?_, k2, fun i t hit env hh used e1 e2 e3 => ?_⟩ k4 k5 k3 ⟨rfl, rfl⟩
    · obtain ⟨oi, si, a1, a2, _⟩ := k6 i t hi
      obtain ⟨oj, sj, b1, b2, _⟩ := k6 j u hj
      obtain ⟨a3, a4⟩ := tr1E_text a2
      obtain ⟨b3, b4⟩ := tr1E_text b2
      have hc' := hc
      simp only [confl, Bool.or_eq_true] at hc'
      rcases hc' with hx | hm
      · cases hp : u.put with
        | none => rw [hp] at hx; cases hx
        | some p =>
          obtain ⟨x, v⟩ := p
          rw [hp] at hx
          have hd := b3 x v hp
          have hs := statAll_ok h1.2 b1 hd
          rw [Nat.zero_add] at hs
          have := statAt_ok (i := i) hs a1 (by
            simp only [Bool.or_eq_true, List.any_eq_true, Nat.beq_eq] at hx
            rcases hx with ⟨y, hy, rfl⟩ | hx
            · exact .inl (a4 _ hy)
            · cases hq : t.put with
              | none => rw [hq] at hx; cases hx
              | some q =>
                obtain ⟨y, v'⟩ := q
                rw [hq] at hx
                have := Nat.eq_of_beq_eq_true hx
                subst this
                exact .inr (a3 _ _ hq))
          rw [Nat.zero_add] at this
          exact inOrder_ok this hne
      · have hn : u.ed ≠ [] := by
          intro e; rw [e] at hm; cases hm
        have hs := dynAll_ok h3 hj hn
        rw [Nat.zero_add] at hs
        have := dynAt_ok (i := i) hs hi hm
        rw [Nat.zero_add] at this
        exact inOrder_ok this hne
    obtain ⟨o, si, q1, q2, q3, q4, q5⟩ := k6 i t hit
    exact tr1E_go ok hG ht hih (by simpa using q1) q2 (fun x hx => (e1 x hx).trans (q3 x).symm) (fun id hid => (e2 id hid).trans (q4 id).symm) e3

/-! ### Regions whose last operation is a call that may do anything -/
def lastOK (ops : Array Oper) : Bool :=
  match ops.toList.getLast? with
  | none => false
  | some c => match c.guard with
    | some _ => false
    | none => isCallV c.op && (List.range (ops.size - 1)).all fun j => ((masks ops.toList []).getD (ops.size - 1) 0).testBit j
noncomputable def drawLastE (cx : Cx) (tab : Nat → Option FT) (ih : Run) (lv nt : Nat) (ops : Array Oper) (s : St) : Option St :=
  match ops.toList.getLast? with
  | none => none
  | some c => match trE cx tab ih lv nt ops.toList ops.toList.dropLast s with
    | none => none
    | some (s1, tr) => bif statOK ops then (bif dynAll (masks ops.toList []) tr tr 0 then op1E cx tab ih lv c s1.env s1.hh s1.next fun v hh' next' => putS nt c.dst v s1.env hh' next' fun s' => some s' else none) else none
noncomputable def drawAny (cx : Cx) (tab : Nat → Option FT) (ih : Run) (lv nt : Nat) (ops : Array Oper) (s : St) : Option St := bif lastOK ops then drawLastE cx tab ih lv nt ops s else drawE cx tab ih lv nt ops s

theorem gF_snoc {α : Type} {f : Tr → Option α} {who : Nat → Bool} {d : Tr} (hd : f d = none) : ∀ (l : List Tr) (i : Nat) (v : α), gF f who (l ++ [d]) i v = gF f who l i v
  | [], i, v => by
    simp only [List.nil_append, gF, hd, Option.getD_none]
    cases who i <;> rfl
  | t :: r, i, v => by
    simp only [List.cons_append, gF]
    exact gF_snoc hd r (i + 1) _
theorem lastName_snoc : ∀ (l : List Tr) (n : Nat), lastName n (l ++ [dummyTr (lastName n l)]) = lastName n l
  | [], n => rfl
  | t :: r, n => by
    simp only [List.cons_append, lastName]
    exact lastName_snoc r t.hi
theorem namesOK_snoc : ∀ (l : List Tr) (n : Nat), namesOK n l = true → namesOK n (l ++ [dummyTr (lastName n l)]) = true
  | [], n, _ => by simp [namesOK, lastName, dummyTr]
  | t :: r, n, h => by
    simp only [namesOK, Bool.and_eq_true] at h
    simp only [List.cons_append, namesOK, lastName, Bool.and_eq_true]
    exact ⟨h.1, namesOK_snoc r t.hi h.2⟩

theorem drawLastE_ok (ok : CxOK cx) (hG : ∀ g cs, (g, cs) ∈ cx.G → noRefs anyL cs = true) (ht : TabOK cx tab) (hih : RunOK cx ih) {lv nt id : Nat} {rd : Option Nat} {ops : Array Oper} {s s' : St} (hl : lastOK ops = true) (h : drawLastE cx tab ih lv nt ops s = some s') :
    HWp cx nt rd (.region id ops true) (fun e1 s1 => e1 = .normal ∧ s1 = s') s := by
  unfold drawLastE at h
  unfold lastOK at hl
  split at h
  · cases h
  · rename_i c hc
    rw [hc] at hl
    dsimp only at hl
    split at hl
    · cases hl
    · rename_i hgd
      simp only [Bool.and_eq_true, List.all_eq_true, List.mem_range] at hl
      split at h
      · cases h
      · rename_i s1 tr htr
        obtain ⟨h1, h2⟩ := bif_ok h
        obtain ⟨h3, h4⟩ := bif_ok h2
        simp only [statOK, Bool.and_eq_true] at h1
        obtain ⟨k1, k2, k3, k4, k5, k6⟩ := trE_ok htr
        have hne : ops.toList ≠ [] := by intro e; rw [e] at hc; cases hc
        have hpos : 0 < ops.size := by rw [← Array.length_toList]; exact List.length_pos_iff.2 hne
        have hk1 : tr.length = ops.size - 1 := by rw [k1]; simp
        have hsz : ops.size = ops.size - 1 + 1 := by omega
        have hcL : ops[ops.size - 1]? = some c := by
          rw [List.getLast?_eq_getElem?] at hc
          simpa using hc
        have hpre : ∀ (i : Nat) (o : Oper), ops.toList.dropLast[i]? = some o → ops.toList[i]? = some o ∧ i < ops.size - 1 := fun i o ho => by
          have hlt := (List.getElem?_eq_some_iff.1 ho).1
          simp only [List.length_dropLast, Array.length_toList] at hlt
          rw [List.getElem?_dropLast] at ho
          simp only [Array.length_toList] at ho
          rw [if_pos hlt] at ho
          exact ⟨ho, hlt⟩
        have htr' : ∀ i, i ≠ ops.size - 1 → ∀ t, (tr ++ [dummyTr (lastName s.next tr)])[i]? = some t → tr[i]? = some t := fun i hi t h => by
          have hlt := (List.getElem?_eq_some_iff.1 h).1
          simp only [List.length_append, List.length_cons, List.length_nil, hk1] at hlt
          rwa [List.getElem?_append_left (by omega)] at h
        have hdum : (tr ++ [dummyTr (lastName s.next tr)])[ops.size - 1]? = some (dummyTr (lastName s.next tr)) := by
          rw [List.getElem?_append_right (by omega), hk1]
          simp
        have hcd : ∀ n (u : Tr), confl (dummyTr n) u = false ∧ confl u (dummyTr n) = false := fun n u => by
          constructor
          · unfold confl dummyTr
            cases u.put <;> simp
          · simp [confl, dummyTr]
        refine HWp.drawnLast ok (s := s) (tr := tr ++ [dummyTr (lastName s.next tr)]) (L := ops.size - 1) (s1 := s1) (c := c) ⟨?_, hsz, fun j hj => masks_bef (hl.2 j hj), ⟨_, hdum⟩, h1.1, fun i j t u hi hj hne' hcf => ?_, namesOK_snoc tr _ k2, fun i t hiL hit env hh used e1 e2 e3 => ?_⟩ hcL hgd ?_ ?_ ?_ ?_
        · simp [hk1]; omega
        · by_cases ei : i = ops.size - 1
          · subst ei
            rw [hdum] at hi
            obtain rfl := Option.some.inj hi
            rw [(hcd _ u).1] at hcf; cases hcf
          by_cases ej : j = ops.size - 1
          · subst ej
            rw [hdum] at hj
            obtain rfl := Option.some.inj hj
            rw [(hcd _ t).2] at hcf; cases hcf
          have hi := htr' i ei t hi
          have hj := htr' j ej u hj
          obtain ⟨oi, si, a1, a2, _⟩ := k6 i t hi
          obtain ⟨oj, sj, b1, b2, _⟩ := k6 j u hj
          obtain ⟨a3, a4⟩ := tr1E_text a2
          obtain ⟨b3, b4⟩ := tr1E_text b2
          have hc' := hcf
          simp only [confl, Bool.or_eq_true] at hc'
          rcases hc' with hx | hm
          · cases hp : u.put with
            | none => rw [hp] at hx; cases hx
            | some p =>
              obtain ⟨x, v⟩ := p
              rw [hp] at hx
              have hd := b3 x v hp
              have hs := statAll_ok h1.2 (hpre _ _ b1).1 hd
              rw [Nat.zero_add] at hs
              have := statAt_ok (i := i) hs (hpre _ _ a1).1 (by
                simp only [Bool.or_eq_true, List.any_eq_true, Nat.beq_eq] at hx
                rcases hx with ⟨y, hy, rfl⟩ | hx
                · exact .inl (a4 _ hy)
                · cases hq : t.put with
                  | none => rw [hq] at hx; cases hx
                  | some q =>
                    obtain ⟨y, v'⟩ := q
                    rw [hq] at hx
                    have := Nat.eq_of_beq_eq_true hx
                    subst this
                    exact .inr (a3 _ _ hq))
              rw [Nat.zero_add] at this
              exact inOrder_ok this hne'
          · have hn : u.ed ≠ [] := by
              intro e; rw [e] at hm; cases hm
            have hs := dynAll_ok h3 hj hn
            rw [Nat.zero_add] at hs
            have := dynAt_ok (i := i) hs hi hm
            rw [Nat.zero_add] at this
            exact inOrder_ok this hne'
        · have hit := htr' i hiL t hit
          obtain ⟨o, si, q1, q2, q3, q4, q5⟩ := k6 i t hit
          exact tr1E_go ok hG ht hih (by simpa using (hpre _ _ q1).1) q2 (fun x hx => ((e1 x hx).trans (gF_snoc rfl tr 0 _)).trans (q3 x).symm) (fun id hid => ((e2 id hid).trans (gF_snoc rfl tr 0 _)).trans (q4 id).symm) e3
        · exact fun x => (k4 x).trans (gF_snoc rfl tr 0 _).symm
        · exact fun x => (k5 x).trans (gF_snoc rfl tr 0 _).symm
        · rw [k3, lastName_snoc]
        · refine op1E_ok ok hG ht hih h4 fun v hh' next' hp => ?_
          obtain ⟨hd', env', he, hk⟩ := putS_ok hp
          obtain rfl := Option.some.inj hk
          have key : ∃ s2 : St, (∀ x, eget (putE s1.env (c.dst.map (·, v))) x = eget s2.env x) ∧ hh' = s2.hh ∧ next' = s2.next ∧ (Exit.normal = Exit.normal ∧ s2 = ⟨env', hh', next'⟩) := ⟨⟨env', hh', next'⟩, fun x => (he x).symm, rfl, rfl, rfl, rfl⟩
          unfold putK
          unfold dstOK at hd'
          revert hd' key
          cases c.dst with
          | none => exact fun _ key => key
          | some d => intro hd' key; dsimp only at hd' ⊢; rw [hd']; exact key
theorem drawAny_ok (ok : CxOK cx) (hG : ∀ g cs, (g, cs) ∈ cx.G → noRefs anyL cs = true) (ht : TabOK cx tab) (hih : RunOK cx ih) {lv nt id : Nat} {rd : Option Nat} {ops : Array Oper} {s s' : St} (h : drawAny cx tab ih lv nt ops s = some s') :
    HWp cx nt rd (.region id ops true) (fun e1 s1 => e1 = .normal ∧ s1 = s') s := by
  unfold drawAny at h
  cases hl : lastOK ops
  · rw [hl] at h; exact drawE_ok ok hG ht hih h
  · rw [hl] at h; exact drawLastE_ok ok hG ht hih hl h
end
end Go.Hv

namespace Go.Hv
open Go

def rdLiveE (rd : Option Nat) (hh : List (Nat × HObj)) : Bool :=
  match rd with
  | none => true
  | some id => match hget hh id with
    | some (.loop ..) => true
    | _ => false
def notBusy : LoopState → Bool
  | .busy => false
  | _ => true
section
variable (cx : Cx) (tab : Nat → Option FT) (ih : Run) (lv nt : Nat) (rd : Option Nat) (s : St)
noncomputable def x_done (e : Exit) : Option (Exit × St) := some (e, s)
noncomputable def x_seq (x y : Code) : Option (Exit × St) := match ih lv nt rd x s with
  | some (.normal, s1) => ih lv nt rd y s1
  | o => o
noncomputable def x_block (id : Nat) (c : Code) : Option (Exit × St) := match ih lv nt rd c s with
  | some (.exit id', s1) => bif Nat.beq id' id then some (.normal, s1) else some (.exit id', s1)
  | o => o
noncomputable def x_cond (c : Operand) (x y : Code) : Option (Exit × St) := match c with
  | .tmp d => (match egetF s.env d with
    | .bool true => ih lv nt rd x s
    | .bool false => ih lv nt rd y s
    | _ => none)
  | .const (.bool true) => ih lv nt rd x s
  | .const (.bool false) => ih lv nt rd y s
  | _ => none
noncomputable def x_region (ops : Array Oper) (draw : Bool) : Option (Exit × St) :=
  bif draw then (match drawAny cx tab ih lv nt ops s with
      | some s1 => some (.normal, s1)
      | none => none)
    else (match opsE cx tab ih lv nt ops.toList ops.toList s with
      | some s1 => some (.normal, s1)
      | none => none)
noncomputable def x_loop (c : Code) : Option (Exit × St) := match ih lv nt rd c s with
  | some (.normal, s1) => ih lv nt rd (.loop c) s1
  | o => o
noncomputable def x_scope (c : Code) : Option (Exit × St) := match ih lv nt rd c s with
  | some (.goto _, _) => none
  | o => o
noncomputable def x_range (x : Operand) (ps : Array Tmp) (as bd : Code) : Option (Exit × St) :=
  bif rdLiveE rd s.hh then (match evE cx s.env x with
      | some (.func (.func g) first captured) => bif cx.B g then (match callE cx tab ih lv g (first ++ ([.yield s.next] ++ captured)) (hset s.hh s.next (loopO .ready none nt s.env ps as bd)) (s.next + 1) with
        | some (_, hh', n') => (match hget hh' s.next with
          | some (.loop st pe _ _ _ _ _) => bif notBusy st then hdelK hh' s.next fun hh2 => (match pe with
            | none => some (.normal, ⟨s.env, hh2, n'⟩)
            | some c => ih lv nt rd c ⟨s.env, hh2, n'⟩) else none
          | _ => none)
        | none => none) else none
      | _ => none) else none
end
noncomputable def stepF (c : Code) : Cx → (Nat → Option FT) → Run → Nat → Nat → Option Nat → St → Option (Exit × St) := match c with
  | .skip => fun _ _ _ _ _ _ s => x_done s .normal
  | .label _ => fun _ _ _ _ _ _ s => x_done s .normal
  | .exit id => fun _ _ _ _ _ _ s => x_done s (.exit id)
  | .ret => fun _ _ _ _ _ _ s => x_done s .ret
  | .seq x y => fun _ _ ih lv nt rd s => x_seq ih lv nt rd s x y
  | .block id c => fun _ _ ih lv nt rd s => x_block ih lv nt rd s id c
  | .cond c x y => fun _ _ ih lv nt rd s => x_cond ih lv nt rd s c x y
  | .region _ ops draw => fun cx tab ih lv nt _ s => x_region cx tab ih lv nt s ops draw
  | .loop c => fun _ _ ih lv nt rd s => x_loop ih lv nt rd s c
  | .scope c => fun _ _ ih lv nt rd s => x_scope ih lv nt rd s c
  | .rangeFunc x ps as bd => fun cx tab ih lv nt rd s => x_range cx tab ih lv nt rd s x ps as bd
  | _ => fun _ _ _ _ _ _ _ => none
noncomputable def stepE (cx : Cx) (tab : Nat → Option FT) (ih : Run) : Run := fun lv nt rd c s => stepF c cx tab ih lv nt rd s
noncomputable def exec (cx : Cx) (tab : Nat → Option FT) (n : Nat) : Run := Nat.rec (motive := fun _ => Run) (fun _ _ _ _ _ => none) (fun _ ih => stepE cx tab ih) n

section
variable {cx : Cx} {tab : Nat → Option FT} {ih : Run}

theorem stepE_ok (ok : CxOK cx) (hG : ∀ g cs, (g, cs) ∈ cx.G → noRefs anyL cs = true) (ht : TabOK cx tab) (hih : RunOK cx ih) (hlo : LoopOK cx ih) : RunOK cx (stepE cx tab ih) ∧ LoopOK cx (stepE cx tab ih) := by
  have loops : LoopOK cx (stepE cx tab ih) := by
    intro lv nt rd c s e s' h
    simp only [stepE, stepF, x_seq, x_block, x_cond, x_region, x_loop, x_scope, x_range] at h
    split at h
    · rename_i s1 h1
      obtain ⟨k, hk⟩ := hlo _ _ _ _ _ _ _ h
      refine ⟨k + 1, (hih _ _ _ _ _ _ _ h1).mono fun e1 t1 he => ?_⟩
      obtain ⟨rfl, rfl⟩ := he
      exact hk
    · rename_i hne
      refine ⟨1, (hih _ _ _ _ _ _ _ h).mono fun e1 t1 he => ?_⟩
      obtain ⟨rfl, rfl⟩ := he
      cases e1 <;> first | exact ⟨rfl, rfl⟩ | exact absurd h (hne _)
  refine ⟨?_, loops⟩
  intro lv nt rd c s e s' h
  cases c with
  | skip =>
    simp only [stepE, stepF, x_done, Option.some.injEq, Prod.mk.injEq] at h
    exact hwp_sound ok .skip _ s ⟨h.1, h.2⟩
  | label l =>
    simp only [stepE, stepF, x_done, Option.some.injEq, Prod.mk.injEq] at h
    exact hwp_sound ok (.label l) _ s ⟨h.1, h.2⟩
  | exit id =>
    simp only [stepE, stepF, x_done, Option.some.injEq, Prod.mk.injEq] at h
    exact hwp_sound ok (.exit id) _ s ⟨h.1, h.2⟩
  | ret =>
    simp only [stepE, stepF, x_done, Option.some.injEq, Prod.mk.injEq] at h
    exact hwp_sound ok .ret _ s ⟨h.1, h.2⟩
  | goto l => cases h
  | refuse l => cases h
  | seq x y =>
    simp only [stepE, stepF, x_seq, x_block, x_cond, x_region, x_loop, x_scope, x_range] at h
    refine HWp.seq ?_
    split at h
    · rename_i s1 h1
      refine (hih _ _ _ _ _ _ _ h1).mono fun e1 t1 he => ?_
      obtain ⟨rfl, rfl⟩ := he
      exact hih _ _ _ _ _ _ _ h
    · rename_i hne
      refine (hih _ _ _ _ _ _ _ h).mono fun e1 t1 he => ?_
      obtain ⟨rfl, rfl⟩ := he
      cases e1 <;> first | exact ⟨rfl, rfl⟩ | exact absurd h (hne _)
  | block id c =>
    simp only [stepE, stepF, x_seq, x_block, x_cond, x_region, x_loop, x_scope, x_range] at h
    refine HWp.block ?_
    split at h
    · rename_i id' s1 h1
      refine (hih _ _ _ _ _ _ _ h1).mono fun e1 t1 he => ?_
      obtain ⟨rfl, rfl⟩ := he
      dsimp only
      cases hb : Nat.beq id' id
      · rw [hb] at h
        simp only [cond_false, Option.some.injEq, Prod.mk.injEq] at h
        exact ⟨h.1, h.2⟩
      · rw [hb] at h
        simp only [cond_true, Option.some.injEq, Prod.mk.injEq] at h
        exact ⟨h.1, h.2⟩
    · rename_i hne
      refine (hih _ _ _ _ _ _ _ h).mono fun e1 t1 he => ?_
      obtain ⟨rfl, rfl⟩ := he
      cases e1 <;> first | exact ⟨rfl, rfl⟩ | exact absurd h (hne _ _)
  | cond x c1 c2 =>
    have hcond : ∀ {c : Code} {b : Bool} {s : St} (_ : HWp cx nt rd c (fun e1 s1 => e1 = e ∧ s1 = s') s) (d : Nat) (_ : eget s.env d = .bool b) (_ : c = bif b then c1 else c2), HWp cx nt rd (.cond (.tmp d) c1 c2) (fun e1 s1 => e1 = e ∧ s1 = s') s := by
      intro c b s hc d hd hcb
      refine ⟨fun n r Γ a w hr hs hS => ?_⟩
      have hv := hS.1 d
      rw [hd] at hv
      simp only [VR] at hv
      refine wpIn_cond (t := b) hv ?_
      cases b
      · simp only [cond_false] at hcb; subst hcb; exact hc.run n r Γ a w hr hs hS
      · simp only [cond_true] at hcb; subst hcb; exact hc.run n r Γ a w hr hs hS
    cases x with
    | tmp d =>
      simp only [stepE, stepF, x_seq, x_block, x_cond, x_region, x_loop, x_scope, x_range] at h
      split at h <;> first | (cases h; done) | skip
      · rename_i hd
        exact hcond (hih _ _ _ _ _ _ _ h) d ((egetF_eq _ _).symm.trans hd) rfl
      · rename_i hd
        exact hcond (hih _ _ _ _ _ _ _ h) d ((egetF_eq _ _).symm.trans hd) rfl
    | const v =>
      cases v <;> first | (cases h; done) | skip
      rename_i b
      cases b
      · exact ⟨fun n r Γ a w hr hs hS => wpIn_cond_false rfl ((hih _ _ _ _ _ _ _ h).run n r Γ a w hr hs hS)⟩
      · exact ⟨fun n r Γ a w hr hs hS => wpIn_cond_true rfl ((hih _ _ _ _ _ _ _ h).run n r Γ a w hr hs hS)⟩
    | global g => cases h
    | func f => cases h
  | region id ops draw =>
    simp only [stepE, stepF, x_seq, x_block, x_cond, x_region, x_loop, x_scope, x_range] at h
    cases draw
    · simp only [cond_false] at h
      split at h <;> first | (cases h; done) | skip
      rename_i s1 h1
      simp only [Option.some.injEq, Prod.mk.injEq] at h
      obtain ⟨rfl, rfl⟩ := h
      refine ⟨fun n r Γ a w hr hs hS => wpIn_region ?_⟩
      have := opsE_ok (lv := lv) ok hG ht hih (n := n) (nt := nt) (r := r) (ops := ops) (Q := HPost cx nt s Γ a.defers w (fun e1 s2 => e1 = .normal ∧ s2 = s1)) (Γ0 := Γ) (w0 := w) (s0 := s) (s1 := s1) (d0 := a.defers)
        (fun a' w' Γ' hS' hs' hd' hEv hle => ⟨s1, Γ', ⟨rfl, rfl⟩, hS', hEv, hs', hd' ▸ MK.refl _ _ _ _ _, hle⟩) ops.toList 0 s Γ a w (fun j => by simp) hS hs rfl (Evo.refl _ _ _) (Nat.le_refl _) h1
      simpa [List.range_eq_range'] using this
    · simp only [cond_true] at h
      split at h <;> first | (cases h; done) | skip
      rename_i s1 h1
      simp only [Option.some.injEq, Prod.mk.injEq] at h
      obtain ⟨rfl, rfl⟩ := h
      exact drawAny_ok ok hG ht hih h1
  | loop c =>
    obtain ⟨k, hk⟩ := loops lv nt rd c s e s' h
    exact HWp.of_LRun hk
  | scope c =>
    simp only [stepE, stepF, x_seq, x_block, x_cond, x_region, x_loop, x_scope, x_range] at h
    refine HWp.scope ?_
    split at h <;> first | (cases h; done) | skip
    rename_i hne
    refine (hih _ _ _ _ _ _ _ h).mono fun e1 t1 he => ?_
    obtain ⟨rfl, rfl⟩ := he
    cases e1 <;> first | exact ⟨rfl, rfl⟩ | exact absurd h (hne _ _)
  | rangeFunc x ps as bd =>
    simp only [stepE, stepF, x_seq, x_block, x_cond, x_region, x_loop, x_scope, x_range] at h
    obtain ⟨h0, h⟩ := bif_ok h
    split at h <;> first | (cases h; done) | skip
    rename_i g first captured hx
    obtain ⟨hB, h⟩ := bif_ok h
    split at h <;> first | (cases h; done) | skip
    rename_i v hh' n' hc
    split at h <;> first | (cases h; done) | skip
    rename_i st pe nt' env' ps' as' bd' hg
    obtain ⟨hnb, h⟩ := bif_ok h
    rw [hdelK_eq] at h
    have hrd : rdLive rd s.hh := by
      unfold rdLiveE at h0
      unfold rdLive
      cases rd with
      | none => trivial
      | some id =>
        dsimp only at h0 ⊢
        split at h0
        · rename_i hl
          exact ⟨_, _, _, _, _, _, _, hl⟩
        · cases h0
    refine HWp.rangeFunc ok hrd hx hB ((callE_ok ok hG ht hih hc).mono fun v1 h1 n1 he => ?_)
    obtain ⟨rfl, rfl, rfl⟩ := he
    refine ⟨_, _, _, _, _, _, _, hg, ?_, ?_⟩
    · intro e; subst e; cases hnb
    · cases pe with
      | none =>
        simp only [Option.some.injEq, Prod.mk.injEq] at h
        exact ⟨h.1, h.2⟩
      | some c => exact hih _ _ _ _ _ _ _ h

theorem exec_ok (ok : CxOK cx) (hG : ∀ g cs, (g, cs) ∈ cx.G → noRefs anyL cs = true) (ht : TabOK cx tab) : ∀ n, RunOK cx (exec cx tab n) ∧ LoopOK cx (exec cx tab n)
  | 0 => ⟨fun _ _ _ _ _ _ _ h => (nomatch h), fun _ _ _ _ _ _ _ h => (nomatch h)⟩
  | n + 1 => by
    obtain ⟨h1, h2⟩ := exec_ok ok hG ht n
    exact stepE_ok ok hG ht h1 h2

/-- ████ A CALL, WORKED OUT. -/
theorem runs (ok : CxOK cx) (hG : ∀ g cs, (g, cs) ∈ cx.G → noRefs anyL cs = true) (ht : TabOK cx tab) {n g : Nat} {args : List HVal} {v : HVal} {hh' : List (Nat × HObj)} {next' : Nat} (h : callE cx tab (exec cx tab n) 0 g args [] 0 = some (v, hh', next')) :
    HCall cx g args [] 0 (fun v1 h1 n1 => v1 = v ∧ h1 = hh' ∧ n1 = next') := callE_ok ok hG ht (exec_ok ok hG ht n).1 h
end
end Go.Hv

namespace Go.Hv
open Go

/-! ### Structs and arrays of scalars are compared cell by cell -/
def scalOf (P : Program) (t : Nat) : Option TK :=
  match P.underlying t with
  | some (.int k) => some (.int k)
  | some .bool => some .bool
  | some .string => some .str
  | _ => none
def fieldsTK (P : Program) : Nat → List Field → Option (List TK)
  | _, [] => some []
  | off, f :: fs => bif !(f.name == "_") && Nat.beq f.offset off then (match scalOf P f.type with
    | some tk => (match fieldsTK P (off + 1) fs with
      | some ts => some (tk :: ts)
      | none => none)
    | none => none) else none
def eqcOf (P : Program) (t : Nat) : Option (List TK) :=
  bif P.eqGuardType P.depth t then none else
  match P.underlying t with
  | some (.struct fs) => bif P.stoodInHeld t then none else fieldsTK P 0 fs.toList
  | some (.array n e) => (match scalOf P e with
    | some tk => bif Nat.beq (P.cellsOf e) 1 then some (List.replicate n tk) else none
    | none => none)
  | _ => none

section
variable {P : Program} {Γ : Gam} {w : World}
theorem eq_scal {t : Nat} {tk : TK} (ht : scalOf P t = some tk) {x y : HVal} {u v : Value} (hx : VR Γ w x u) (hy : VR Γ w y v) {b : Bool} (h : keyEq tk x y = some b) (n : Nat) :
    (Op.equalIn (n + 1) t u v).run P w = .ok b w ∧ ∀ (us : Array Value) (off : Nat) (z : Value), us[off]? = some z → (part t us off).run P w = .ok z w := by
  unfold scalOf at ht
  split at ht
  · rename_i k hu
    obtain rfl := Option.some.inj ht
    refine ⟨?_, fun us off z hz => by simp [part, isAgg, run_und hu, hz]⟩
    unfold keyEq at h
    split at h <;> first | (cases h; done) | (exact nomatch ‹TK.int _ = TK.str›) | (exact nomatch ‹TK.int _ = TK.bool›) | skip
    simp only [VR] at hx hy
    subst hx; subst hy
    split at h
    · rename_i e
      subst e
      obtain rfl := Option.some.inj h
      simp [Op.equalIn, run_und hu]
    · cases h
  · rename_i hu
    obtain rfl := Option.some.inj ht
    refine ⟨?_, fun us off z hz => by simp [part, isAgg, run_und hu, hz]⟩
    unfold keyEq at h
    split at h <;> first | (cases h; done) | skip
    all_goals first | (exact nomatch ‹TK.bool = TK.int _›) | (exact nomatch ‹TK.bool = TK.str›) | (exact nomatch ‹TK.str = TK.int _›) | (exact nomatch ‹TK.str = TK.bool›) | skip
    simp only [VR] at hx hy
    subst hx; subst hy
    obtain rfl := Option.some.inj h
    simp [Op.equalIn, run_und hu]
  · rename_i hu
    obtain rfl := Option.some.inj ht
    refine ⟨?_, fun us off z hz => by simp [part, isAgg, run_und hu, hz]⟩
    unfold keyEq at h
    split at h <;> first | (cases h; done) | skip
    all_goals first | (exact nomatch ‹TK.bool = TK.int _›) | (exact nomatch ‹TK.bool = TK.str›) | (exact nomatch ‹TK.str = TK.int _›) | (exact nomatch ‹TK.str = TK.bool›) | skip
    simp only [VR] at hx hy
    subst hx; subst hy
    obtain rfl := Option.some.inj h
    simp [Op.equalIn, run_und hu, bytes_beq]
  · cases ht

theorem eq_fields (n : Nat) (us vs : List Value) : ∀ (fs : List Field) (off : Nat) (ts : List TK) (xs ys : List HVal) (r : Bool), fieldsTK P off fs = some ts → cellsEq ts xs ys = some r →
    VRs Γ w xs (us.drop off) → VRs Γ w ys (vs.drop off) → (Op.eqFields (n + 1) us.toArray vs.toArray fs).run P w = .ok r w
  | [], off, ts, xs, ys, r, h, hc, _, _ => by
    simp only [fieldsTK, Option.some.injEq] at h
    subst h
    cases xs <;> cases ys <;> simp only [cellsEq] at hc <;> first | (cases hc; done) | skip
    obtain rfl := Option.some.inj hc
    simp [Op.eqFields]
  | f :: fs, off, ts, xs, ys, r, h, hc, hx, hy => by
    simp only [fieldsTK] at h
    obtain ⟨h1, h⟩ := bif_ok h
    simp only [Bool.and_eq_true, Bool.not_eq_true', Nat.beq_eq] at h1
    obtain ⟨h1, rfl⟩ := h1
    split at h <;> first | (cases h; done) | skip
    rename_i tk htk
    split at h <;> first | (cases h; done) | skip
    rename_i ts' hts
    obtain rfl := Option.some.inj h
    cases xs <;> cases ys <;> simp only [cellsEq] at hc <;> first | (cases hc; done) | skip
    rename_i x xs y ys
    split at hc <;> first | (cases hc; done) | skip
    rename_i b hb
    split at hc <;> first | (cases hc; done) | skip
    rename_i c hcc
    obtain rfl := Option.some.inj hc
    simp only [VRs] at hx hy
    obtain ⟨u, us', e1, g1, g2⟩ := hx
    obtain ⟨v, vs', e2, g3, g4⟩ := hy
    have u1 : us.toArray[f.offset]? = some u := by
      have := congrArg (fun l => l[0]?) e1
      simpa using this
    have v1 : vs.toArray[f.offset]? = some v := by
      have := congrArg (fun l => l[0]?) e2
      simpa using this
    have u2 : us.drop (f.offset + 1) = us' := by
      have := congrArg List.tail e1
      simpa using this
    have v2 : vs.drop (f.offset + 1) = vs' := by
      have := congrArg List.tail e2
      simpa using this
    obtain ⟨q1, q2⟩ := eq_scal htk g1 g3 hb n
    have hne : f.name ≠ "_" := by intro e; rw [e] at h1; simp at h1
    have ih := eq_fields n us vs fs (f.offset + 1) ts' xs ys c hts hcc (u2 ▸ g2) (v2 ▸ g4)
    simp only [Op.eqFields, hne, ne_eq, not_false_eq_true, if_true, Sem.run_bind, q2 _ _ _ u1, q2 _ _ _ v1, q1, Result.andThen_ok]
    cases b
    · simp
    · simpa using ih
theorem eq_items (n : Nat) {e : Nat} {tk : TK} (he : scalOf P e = some tk) (us vs : List Value) : ∀ (m off : Nat) (xs ys : List HVal) (r : Bool), cellsEq (List.replicate m tk) xs ys = some r →
    VRs Γ w xs (us.drop off) → VRs Γ w ys (vs.drop off) → (Op.eqItems (n + 1) e 1 us.toArray vs.toArray (List.range' off m)).run P w = .ok r w
  | 0, off, xs, ys, r, hc, _, _ => by
    cases xs <;> cases ys <;> simp only [List.replicate, cellsEq] at hc <;> first | (cases hc; done) | skip
    obtain rfl := Option.some.inj hc
    simp [Op.eqItems]
  | m + 1, off, xs, ys, r, hc, hx, hy => by
    cases xs <;> cases ys <;> simp only [List.replicate_succ, cellsEq] at hc <;> first | (cases hc; done) | skip
    rename_i x xs y ys
    split at hc <;> first | (cases hc; done) | skip
    rename_i b hb
    split at hc <;> first | (cases hc; done) | skip
    rename_i c hcc
    obtain rfl := Option.some.inj hc
    simp only [VRs] at hx hy
    obtain ⟨u, us', e1, g1, g2⟩ := hx
    obtain ⟨v, vs', e2, g3, g4⟩ := hy
    have u1 : us.toArray[off]? = some u := by
      have := congrArg (fun l => l[0]?) e1
      simpa using this
    have v1 : vs.toArray[off]? = some v := by
      have := congrArg (fun l => l[0]?) e2
      simpa using this
    have u2 : us.drop (off + 1) = us' := by
      have := congrArg List.tail e1
      simpa using this
    have v2 : vs.drop (off + 1) = vs' := by
      have := congrArg List.tail e2
      simpa using this
    obtain ⟨q1, q2⟩ := eq_scal he g1 g3 hb n
    have ih := eq_items n he us vs m (off + 1) xs ys c hcc (u2 ▸ g2) (v2 ▸ g4)
    simp only [List.range'_succ, Op.eqItems, Nat.mul_one, Sem.run_bind, q2 _ _ _ u1, q2 _ _ _ v1, q1, Result.andThen_ok]
    cases b
    · simp
    · simpa using ih
end
theorem eqcOf_ok (P : Program) (t : Nat) (ts : List TK) (h : eqcOf P t = some ts) : EqOK P t ts := by
  unfold eqcOf at h
  cases hg : P.eqGuardType P.depth t
  · rw [hg] at h
    refine ⟨hg, fun xs ys us vs Γ w r hc hx hy => ?_⟩
    simp only [cond_false] at h
    rw [show Op.equal t (.agg us.toArray) (.agg vs.toArray) = Op.equalIn (9998 + 1 + 1) t (.agg us.toArray) (.agg vs.toArray) from rfl]
    split at h
    · rename_i fs hu
      cases hs : P.stoodInHeld t
      · rw [hs] at h
        have hfs : P.fieldsOf t = fs := by simp [Program.fieldsOf, hu]
        rw [run_equalIn_struct w (9998 + 1) t _ _ (by rw [hfs]; exact hu) hs, hfs]
        exact eq_fields 9998 us vs fs.toList 0 ts xs ys r h hc (by simpa using hx) (by simpa using hy)
      · rw [hs] at h; cases h
    · rename_i n e hu
      split at h <;> first | (cases h; done) | skip
      rename_i tk htk
      obtain ⟨h1, h⟩ := bif_ok h
      obtain rfl := Option.some.inj h
      have h1 := Nat.eq_of_beq_eq_true h1
      have hi : ∃ i, P.info? e = some i := by
        unfold scalOf at htk
        split at htk <;> first | (cases htk; done) | exact info_of_underlying ‹_›
      obtain ⟨i, hi⟩ := hi
      rw [run_equalIn_array w (9998 + 1) _ _ hu hi, h1, List.range_eq_range']
      exact eq_items 9998 htk us vs n 0 xs ys r hc (by simpa using hx) (by simpa using hy)
    · cases h
  · rw [hg] at h; cases h
end Go.Hv

namespace Go.Hv
open Go

/-! ### The tables of a program -/
def tkOf : TypeDesc → TK
  | .int k => .int k
  | .bool => .bool
  | .string => .str
  | .pointer e => .ptr e
  | .slice e => .slice e
  | .array n e => .arr n e
  | .struct fs => .struct (fs.toList.map fun f => (f.offset, f.type))
  | .map k v => .map k v
  | .func _ _ _ => .func
  | .interface _ => .iface
  | _ => .other
theorem tkOf_ok (d : TypeDesc) : TKOK d (tkOf d) := by
  cases d <;> simp only [tkOf, TKOK]
  · exact ⟨_, rfl, rfl⟩
  · exact ⟨_, _, _, rfl⟩
  · exact ⟨_, rfl⟩
def otherTI : TI := { tk := .other, size := 0, bytes := 0, zero := hundef }
def tiOf (P : Program) (t : Nat) : TI :=
  match P.info? t with
  | none => otherTI
  | some i => match P.underlying t with
    | none => otherTI
    | some d => match i.zero with
      | none => otherTI
      | some z => bif okV z && Nat.beq z.cells.size i.size then { tk := tkOf d, size := i.size, bytes := i.bytes, zero := ofV z } else otherTI
theorem tiOf_ok (P : Program) (t : Nat) : TOK P t (tiOf P t) := by
  unfold tiOf
  split
  · exact .inl rfl
  · rename_i i hi
    split
    · exact .inl rfl
    · rename_i d hd
      split
      · exact .inl rfl
      · rename_i z hz
        cases hb : okV z && Nat.beq z.cells.size i.size
        · exact .inl rfl
        · simp only [Bool.and_eq_true, Nat.beq_eq] at hb
          exact .inr ⟨i, d, hi, hd, rfl, rfl, tkOf_ok d, z, hz, hb.2, fun Γ w => ofV_ok hb.1 Γ w⟩
def bodiedOf (P : Program) (g : Nat) : Bool :=
  match P.funcs[g]? with
  | some fn => fn.body.isSome && !(fn.name == "runtime.NumGoroutine")
  | none => false
/-- What the program's variables hold, by their numbers. -/
abbrev Glob := List (Nat × List HVal)
def GlobOK (G : Glob) : Prop := ∀ g cs, (g, cs) ∈ G → noRefs anyL cs = true
def cxOf (P : Program) (G : Glob) : Cx := { P := P, G := G, T := tiOf P, B := bodiedOf P, E := eqcOf P }
abbrev Hooks := Nat → Option (List HVal → Option HVal)
def HooksOK (P : Program) (G : Glob) (hk : Hooks) : Prop := ∀ g sp args v, hk g = some sp → sp args = some v → PSpec (cxOf P G) g args v
abbrev SHooks := Nat → Option (List HVal → List (Nat × HObj) → Nat → Option Res)
def SHooksOK (P : Program) (G : Glob) (hs : SHooks) : Prop := ∀ g sp, hs g = some sp → ∀ args hh next v hh' n', sp args hh next = some (v, hh', n') → HCall (cxOf P G) g args hh next (fun v1 h1 n1 => v1 = v ∧ h1 = hh' ∧ n1 = n')
def noS : SHooks := fun _ => none
theorem noS_ok (P : Program) (G : Glob) : SHooksOK P G noS := fun _ _ h => by cases h
def tabOf (P : Program) (hk : Hooks) (hs : SHooks) (g : Nat) : Option FT :=
  match P.funcs[g]? with
  | some fn => match fn.body with
    | some c => (match hk g with
      | some sp => some ⟨fn.ntmps, fn.results.toList, c, true, sp, hs g⟩
      | none => some ⟨fn.ntmps, fn.results.toList, c, false, fun _ => none, hs g⟩)
    | none => none
  | none => none
theorem cxOf_ok {P : Program} {G : Glob} (h : P.follows .mixedOrders = true) : CxOK (cxOf P G) where
  types := tiOf_ok P
  bodied := fun g hg => by
    have hg : bodiedOf P g = true := hg
    unfold bodiedOf at hg
    split at hg
    · rename_i fn hf
      simp only [Bool.and_eq_true, Bool.not_eq_true'] at hg
      obtain ⟨c, hc⟩ := Option.isSome_iff_exists.1 hg.1
      exact ⟨fn, c, hf, hc, hg.2⟩
    · cases hg
  mixed := h
  eqs := eqcOf_ok P
theorem tabOf_ok {P : Program} {G : Glob} {hk : Hooks} {hs : SHooks} (h0 : HooksOK P G hk) (h1 : SHooksOK P G hs) : TabOK (cxOf P G) (tabOf P hk hs) := fun f ft h => by
  unfold tabOf at h
  split at h
  · rename_i fn hf
    split at h
    · rename_i c hc
      split at h
      · rename_i sp hs
        obtain rfl := Option.some.inj h
        exact ⟨fn, hf, hc, rfl, rfl, fun _ args v hv => h0 f sp args v (by assumption) hv, h1 f⟩
      · obtain rfl := Option.some.inj h
        exact ⟨fn, hf, hc, rfl, rfl, (fun h => nomatch h), h1 f⟩
    · cases h
  · cases h
/-- A call of a function of the program, worked out, from an empty heap. -/
noncomputable def runE (P : Program) (G : Glob) (hk : Hooks) (hs : SHooks) (n g : Nat) (args : List HVal) : Option Res := callE (cxOf P G) (tabOf P hk hs) (exec (cxOf P G) (tabOf P hk hs) n) 0 g args [] 0
theorem runE_ok {P : Program} {G : Glob} (hG : GlobOK G) {hk : Hooks} {hs : SHooks} (h0 : HooksOK P G hk) (h1 : SHooksOK P G hs) (hm : P.follows .mixedOrders = true) {n g : Nat} {args : List HVal} {v : HVal} {hh' : List (Nat × HObj)} {next' : Nat} (h : runE P G hk hs n g args = some (v, hh', next')) :
    HCall (cxOf P G) g args [] 0 (fun v1 h1 n1 => v1 = v ∧ h1 = hh' ∧ n1 = next') := runs (cxOf_ok hm) hG (tabOf_ok h0 h1) h
end Go.Hv

namespace Go.Hv
open Go Go.RowKit Go.ChangeShapes
theorem Evo.below {hh hh' : List (Nat × HObj)} {Γ Γ' : Gam} {w w' : World} (hE : Evo hh Γ w hh' Γ' w') (hno : ∀ b, b < w.heap.size → ¬ Owned Γ hh b) : Below w.heap.size w w' :=
  ⟨hE.os, hE.tape, hE.output, hE.hsz, fun b hb => hE.keep b hb (hno b hb)⟩
/-- A closed call, from any world in which the program's variables hold what they should. -/
theorem HCall.closed {cx : Cx} {g : Nat} {K : HVal → List (Nat × HObj) → Nat → Prop} (h : HCall cx g [] [] 0 K) (w : World) (fr : Nat → Prop) (hlt : ∀ b, fr b → b < w.heap.size)
    (hglob : ∀ g cs, (g, cs) ∈ cx.G → fr g ∧ CsAt ⟨noρ, fun l b => l = 0 ∧ fr b⟩ w g 0 cs) :
    Calls cx.P g #[] w fun e w' => ∃ v hv hh' n' Γ', e = .returned v ∧ K hv hh' n' ∧ VR Γ' w' hv v ∧ Below w.heap.size w w' := by
  have hR : HR cx.toCx0 ⟨noρ, fun l b => l = 0 ∧ fr b⟩ [] (fun i => i < 0) w := by
    refine ⟨fun _ b h => hlt b h.2, fun id o h => by simp [hget] at h, fun _ _ _ _ _ _ _ h => by simp [hget] at h, fun id x h => by simp [noρ] at h, fun g cs h => ?_⟩
    exact ⟨⟨rfl, (hglob g cs h).1⟩, (hglob g cs h).2⟩
  refine Calls.mono (h.run _ w [] hR VRs_nil) ?_
  rintro e w' ⟨v, hv, hh', n', Γ', rfl, hk, hv', hR', hE, _⟩
  exact ⟨v, hv, hh', n', Γ', rfl, hk, hv', hE.below fun b _ => not_owned_nil⟩
/-- `post_of_same`, of what was there before the call alone. -/
theorem post_of_below {H : Type} {enc : TypeId × Value → H} {P : Program} {f : Func} {s : ChangeSpec} {apart fresh handsOn again : Bool} {W W' : World} {args : Array Value} {v : Value} {ds gs : List (DataW H)} {before pa pv : List MemPlace}
    (hW : DataW.Whole enc P f.params.toList s.vars apart W args.toList ds gs before)
    (hres : ∀ (b : Nat) (sp : Nat → Bool) (hd : Bool), DataW.TrodAll enc P W' b sp hd f.resultTypes.toList (v.resultList f.resultTypes.size) (s.fn H (ds ++ gs)).results [])
    (hargs : ∀ sp : Nat → Bool, (∀ p ∈ before, sp p.block = true) → DataW.TrodAll enc P W' 0 sp true f.params.toList args.toList (s.fn H (ds ++ gs)).args pa)
    (hvars : ∀ sp : Nat → Bool, (∀ p ∈ before, sp p.block = true) → DataW.TrodVars enc P W' sp s.vars (s.fn H (ds ++ gs)).vars pv)
    (hps : before = pa ++ pv) (hb : Below W.heap.size W W')
    (hok : ∀ (j : Nat) (t : TypeId) (r : Value), f.resultTypes[j]? = some t → (v.resultList f.resultTypes.size)[j]? = some r → Value.okWide P W' .any 0 t r) :
    s.post enc P f apart fresh handsOn again W args v W' := by
  have hlt : ∀ p ∈ before, p.block < W.heap.size := fun p hp => hW.lt p hp
  have hold : ∀ p ∈ before, (fun b => decide (b < W.heap.size)) p.block = true := fun p hp => by simpa using hlt p hp
  refine ⟨ds, gs, before, [], pa, pv, hW, hres _ _ _, hargs _ hold, hvars _ hold, hb.frame _, fun _ => ?_⟩
  obtain ⟨_, _, _, _, _, hz, hn⟩ := hW
  refine ⟨hok, _, _, ([] ++ pa) ++ pv, ⟨[] ++ pa, pv, trodAll_append (hargs _ (fun _ _ => rfl)) (hres _ _ _), hvars _ (fun _ _ => rfl), rfl, ?_, ?_⟩, ?_⟩
  · intro b off hp
    have hp' : MemPlace.cell b off ∈ before := by rw [hps]; simpa using hp
    rw [hb.frozen (show (⟨b, off, none⟩ : Addr).block < W.heap.size from hlt _ hp')]
    exact hz b off hp'
  · intro ha
    have := hn ha
    rw [hps] at this
    simpa using this
  · intro p hp _
    rw [hps]
    simpa using hp
end Go.Hv

namespace Go.Hv
open Go

/-! ### A table of calls that are known -/
/-- Calls that are known: the function, the arguments, the result. -/
abbrev Known := List (Nat × List HVal × HVal)
def kfind (g : Nat) (args : List HVal) : Known → Option HVal
  | [] => none
  | (g', a, v) :: r => bif Nat.beq g g' then (bif hvEqs args a then some v else kfind g args r) else kfind g args r
def khas (g : Nat) : Known → Bool
  | [] => false
  | (g', _, _) :: r => bif Nat.beq g g' then true else khas g r
def KnownOK (P : Program) (G : Glob) (ks : Known) : Prop := ∀ g a v, (g, a, v) ∈ ks → PSpec (cxOf P G) g a v
theorem kfind_ok {P : Program} {G : Glob} {g : Nat} {args : List HVal} {v : HVal} : ∀ {ks : Known}, KnownOK P G ks → kfind g args ks = some v → PSpec (cxOf P G) g args v
  | [], _, h => by cases h
  | (g', a, u) :: r, hk, h => by
    have hr : KnownOK P G r := fun g a v hm => hk g a v (List.mem_cons_of_mem _ hm)
    simp only [kfind] at h
    cases hg : Nat.beq g g'
    · rw [hg] at h; exact kfind_ok hr h
    · rw [hg] at h
      cases ha : hvEqs args a
      · rw [ha] at h; exact kfind_ok hr h
      · rw [ha] at h
        obtain rfl := Option.some.inj h
        rw [Nat.eq_of_beq_eq_true hg, hvEqs_ok ha]
        exact hk _ _ _ (List.mem_cons_self ..)
theorem KnownOK.nil (P : Program) (G : Glob) : KnownOK P G [] := fun _ _ _ h => by cases h
theorem KnownOK.cons {P : Program} {G : Glob} {g : Nat} {a : List HVal} {v : HVal} {ks : Known} (h : PSpec (cxOf P G) g a v) (hk : KnownOK P G ks) : KnownOK P G ((g, a, v) :: ks) := by
  intro g' a' v' hm
  rcases List.mem_cons.1 hm with e | hm
  · cases e; exact h
  · exact hk _ _ _ hm
/-- The table, over other hooks. -/
def hooksWith (ks : Known) (hk : Hooks) : Hooks := fun g => bif khas g ks then some (fun args => match kfind g args ks with
  | some v => some v
  | none => match hk g with
    | some sp => sp args
    | none => none) else hk g
theorem hooksWith_ok {P : Program} {G : Glob} {ks : Known} {hk : Hooks} (h1 : KnownOK P G ks) (h2 : HooksOK P G hk) : HooksOK P G (hooksWith ks hk) := by
  intro g sp args v h hv
  unfold hooksWith at h
  cases hb : khas g ks
  · rw [hb] at h; exact h2 g sp args v h hv
  · rw [hb] at h
    obtain rfl := Option.some.inj h
    dsimp only at hv
    split at hv
    · rename_i u hu
      obtain rfl := Option.some.inj hv
      exact kfind_ok h1 hu
    · split at hv
      · rename_i sp' hs
        exact h2 g sp' args v hs hv
      · cases hv
/-- A run is a contract. -/
theorem PSpec.of_run {P : Program} {G : Glob} (hG : GlobOK G) {hk : Hooks} {hs : SHooks} (h0 : HooksOK P G hk) (h1 : SHooksOK P G hs) (hm : P.follows .mixedOrders = true) {n g : Nat} {args : List HVal} {v : HVal}
    (h : (match runE P G hk hs n g args with | some (v1, hh, _) => (match purE (hget hh) 0 purFuel v1 with | some (v2, _) => bif hvEq v2 v then noRef anyL v2 else false | none => false) | none => false) = true) : PSpec (cxOf P G) g args v := by
  split at h
  · rename_i v1 hh n' hr
    split at h
    · rename_i v2 ids hp
      obtain ⟨h3, h4⟩ := bif_tt h
      have := hvEq_ok h3
      subst this
      exact PSpec.intro h4 ((runE_ok hG h0 h1 hm hr).mono fun v3 h3 n3 he => by
        obtain ⟨rfl, rfl, rfl⟩ := he
        exact purE_ok purFuel _ _ _ hp fun _ _ => rfl)
    · cases h
  · cases h
end Go.Hv

namespace Go.Hv
open Go
def cloneCode (t : Nat) : Code :=
  (Code.region 0 #[{ dst := some 2, op := Op.assign (Operand.const (Value.slice none 0 0)), type := t, pos := "slices.go:355", after := #[], guard := none }] false).seq
    (((Code.region 1 #[{ dst := some 3, op := Op.move (Operand.tmp 0), type := t, pos := "slices.go:357", after := #[], guard := none },
        { dst := some 4, op := Op.binOp BinOp.eql t (Operand.tmp 3) (Operand.const (Value.slice none 0 0)) t, type := 4, pos := "slices.go:357", after := #[{ on := 0, ground := Ground.data }], guard := none }] false).seq
      (Code.cond (Operand.tmp 4)
        ((Code.region 2 #[{ dst := some 2, op := Op.assign (Operand.const (Value.slice none 0 0)), type := t, pos := "slices.go:358", after := #[], guard := none }] false).seq Code.ret)
        Code.skip)).seq
    ((Code.region 3 #[{ dst := some 5, op := Op.buildSlice t 0 #[], type := t, pos := "slices.go:362", after := #[], guard := none },
        { dst := some 6, op := Op.move (Operand.tmp 0), type := t, pos := "slices.go:362", after := #[], guard := none },
        { dst := some 7, op := Op.call { callee := Callee.builtin Builtin.append, args := #[Operand.tmp 5, Operand.tmp 6], argTypes := #[t, t] }, type := t, pos := "slices.go:362",
          after := #[{ on := 0, ground := Ground.data }, { on := 1, ground := Ground.data }], guard := none },
        { dst := some 2, op := Op.assign (Operand.tmp 7), type := t, pos := "slices.go:362",
          after := #[{ on := 2, ground := Ground.data }, { on := 2, ground := Ground.chain }, { on := 0, ground := Ground.phase }, { on := 1, ground := Ground.phase }, { on := 2, ground := Ground.phase }], guard := none }] false).seq Code.ret))
theorem nO_of {ti : TI} (h : (match ti.tk with | .other => false | _ => true) = true) (A : Prop) : Go.Hv.nO ti A ↔ A := by
  unfold Go.Hv.nO
  split
  · rename_i e; rw [e] at h; cases h
  · exact Iff.rfl
/-- What is asked of the type of the elements. -/
structure ElemT (cx : Cx) (t e sz bytes : Nat) (zs : List HVal) : Prop where
  sl : (cx.T t).tk = .slice e
  nO : ∀ A, Go.Hv.nO (cx.T e) A ↔ A
  size : (cx.T e).size = sz
  bytes : (cx.T e).bytes = bytes
  zero : ∀ k, flatK (cx.T e).zero k ↔ k zs
  len : zs.length = sz
set_option maxRecDepth 10000 in
theorem clone_body {cx : Cx} {t e sz bytes : Nat} {zs : List HVal} (T : ElemT cx t e sz bytes zs) {elems : List (List HVal)} {lf es : Nat} {f : Bool} (hp : noRefss anyL elems = true) (hes : es = sz ∨ elems = []) (hb : elems.length * (bytes + 1) ≤ 70368744177664) :
    hwp cx 8 none (cloneCode t) (endK cx [.tmp 2] (fun hv hh' _ => Pur hh' 0 hv (.ps 0 sz elems.isEmpty elems))) ⟨initEnv 0 [.ps lf es f elems], [], 0⟩ := by
  have hT := T.sl
  have hl : Nat.beq zs.length sz = true := by rw [T.len]; simp
  simp only [cloneCode, hwp, opsK, guardK, opK, hargs, evsK, evK, okV, zeroVal, ofV, Option.isSome, cond_true, cond_false, egetK, initEnv, hopV, putK, hbinB, hT, isSliceT, isNilSlice, Bool.and_self, Nat.beq, Nat.blt, Nat.ble]
  cases elems with
  | nil =>
    refine .tt ⟨?_, ?_⟩
    · simp only [eqOr]
      refine .tt ?_
      simp only [endK, resK, egetK, Nat.beq, cond_true, hedit]
      exact .weak0 fun _ => rfl
    · simp only [eqOr, List.map_nil, evsK, elemOK, hT, T.nO, T.zero, T.size, Nat.zero_mul, Nat.ble, hl, Bool.and_self, cond_true, fillK, List.replicate]
      refine .ff ?_
      simp only [hbuiltin, elemOK, hT, T.nO, srcA, srcK, T.size, List.isEmpty, true_and]
      refine ⟨.inr trivial, .tt ?_⟩
      simp only [endK, resK, egetK, Nat.beq, cond_true, cond_false, hedit]
      exact .sl (es' := sz) (elems := []) rfl rfl (by simp) (fun _ => rfl) (.refl rfl)
  | cons e0 r =>
    have hes : es = sz := hes.resolve_right (by simp)
    subst hes
    refine .ff ?_
    simp only [eqOr]
    refine .ff ?_
    simp only [List.map_nil, evsK, elemOK, hT, T.nO, T.zero, T.size, Nat.zero_mul, Nat.ble, hl, Bool.and_self, cond_true, fillK, List.replicate]
    simp only [hbuiltin, elemOK, hT, T.nO, srcA, srcK, T.size, List.isEmpty, true_and]
    refine ⟨.inl trivial, .ff ?_⟩
    simp only [hedit, hget, hset, lset, lrep, Nat.beq, cond_true, cond_false, T.bytes, true_and, Nat.zero_add, List.length_nil, Nat.le_refl]
    refine ⟨hb, ?_⟩
    simp only [roomK, List.length_cons]
    refine .ff ?_
    simp only [endK, resK, egetK, Nat.beq, cond_true, cond_false]
    refine .sl (es' := es) (elems := List.take 0 (List.drop 0 []) ++ e0 :: r) rfl rfl (by simp) (by simp) ?_
    have e1 : List.take (r.length + 1) (List.drop 0 (List.take 0 (List.drop 0 []) ++ e0 :: r)) = e0 :: r := by simp
    rw [e1]
    exact .refl hp
theorem clone_spec {cx : Cx} (ok : CxOK cx) {t e sz bytes g : Nat} {zs : List HVal} {fn : Func} (T : ElemT cx t e sz bytes zs) (hf : cx.P.funcs[g]? = some fn) (hc : fn.body = some (cloneCode t)) (hn : fn.ntmps = 8) (hr : fn.results.toList = [.tmp 2])
    {elems : List (List HVal)} {lf es : Nat} {f : Bool} (hp : noRefss anyL elems = true) (hes : es = sz ∨ elems = []) (hb : elems.length * (bytes + 1) ≤ 70368744177664) : PSpec cx g [.ps lf es f elems] (.ps 0 sz elems.isEmpty elems) := by
  have h := hwp_sound ok _ _ _ (clone_body (lf := lf) (f := f) T hp hes hb)
  refine PSpec.intro (by simp [noRef, anyL, hp]) (HCall.enter ok hf hc ?_ ?_)
  · rw [hn]; simp
  · rw [hn, hr]; exact h
/-- The hook: of empty slices alone (of others the copy may be written to). -/
def cloneHook (sz : Nat) : List HVal → Option HVal
  | [.ps _ _ _ []] => some (.ps 0 sz true [])
  | _ => none
theorem cloneHook_ok {cx : Cx} (ok : CxOK cx) {t e sz bytes g : Nat} {zs : List HVal} {fn : Func} (T : ElemT cx t e sz bytes zs) (hf : cx.P.funcs[g]? = some fn) (hc : fn.body = some (cloneCode t)) (hn : fn.ntmps = 8) (hr : fn.results.toList = [.tmp 2])
    {args : List HVal} {v : HVal} (h : cloneHook sz args = some v) : PSpec cx g args v := by
  unfold cloneHook at h
  split at h
  · obtain rfl := Option.some.inj h
    exact clone_spec ok T hf hc hn hr rfl (.inr rfl) (by simp)
  · cases h
end Go.Hv

namespace Go.Hv
open Go Go.RowKit Go.ChangeShapes
/-- A known closed call that gives a bool, at a start that holds the variables. -/
theorem PSpec.closed {cx : Cx} {g : Nat} {b : Bool} (h : PSpec cx g [] (.bool b)) (w : World) (fr : Nat → Prop) (hlt : ∀ b, fr b → b < w.heap.size)
    (hglob : ∀ g cs, (g, cs) ∈ cx.G → fr g ∧ CsAt ⟨noρ, fun l b => l = 0 ∧ fr b⟩ w g 0 cs) :
    Calls cx.P g #[] w fun e w' => e = .returned (.bool b) ∧ Below w.heap.size w w' := by
  have hR : HR cx.toCx0 ⟨noρ, fun l b => l = 0 ∧ fr b⟩ [] noneUsed w := by
    refine ⟨fun _ b h => hlt b h.2, fun id o h => by simp [hget] at h, fun _ _ _ _ _ _ _ h => by simp [hget] at h, fun id x h => by simp [noρ] at h, fun g cs h => ?_⟩
    exact ⟨⟨rfl, (hglob g cs h).1⟩, (hglob g cs h).2⟩
  refine Calls.mono (h.run _ w [] hR VRs_nil) ?_
  rintro e w' ⟨u, fr', rfl, hu, _, hE⟩
  simp only [VR] at hu
  exact ⟨by rw [hu], hE.below fun b _ => not_owned_nil⟩
/-- The listed variables laid over any start. -/
theorem laidMet_over {P : Program} {w0 w' : World} {laid : List (String × DataW Unit)} (hh : w'.heap = (w0.layVars P laid).heap)
    (hf : w0.layFits P laid [] = true) (hi : w0.layIfaces P laid w' = true) : laidMet P laid w' := by
  have e1 : (laid.filter fun x => (laid.map (·.1)).contains x.1) = laid := List.filter_eq_self.2 fun x hx => List.contains_iff_mem.2 (List.mem_map.2 ⟨x, hx, rfl⟩)
  have e2 : (laid.filter fun x => !(laid.map (·.1)).contains x.1) = [] := List.filter_eq_nil_iff.2 fun x hx => by rw [List.contains_iff_mem.2 (List.mem_map.2 ⟨x, hx, rfl⟩)]; simp
  exact laidMet_layVars (w0 := w0) (laid.map (·.1)) [] (by rw [e1]; exact hh) (by rw [e1]; exact hf) (by rw [e1]; exact hi) (by rw [e2]; exact LaidIn.none)
end Go.Hv
