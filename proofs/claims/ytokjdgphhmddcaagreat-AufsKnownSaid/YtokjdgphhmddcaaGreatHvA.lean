/- What is proved here: laws of an upper level over the model (values, heaps, operations, regions, calls), and an evaluator of closed calls that is sound. -/
import Derived.RangeFuncLeaves
import Derived.OrdersIn
import Derived.Below
import Derived.WalkKit
import Derived.Laws.NewFold
set_option linter.all false
namespace Go.Hv
open Go

/-- What is known of a capacity. -/
inductive Cap where
  | ge (n : Nat)
  | eq (n : Nat)
  deriving Inhabited, DecidableEq
def Cap.low : Cap → Nat
  | .ge n => n
  | .eq n => n
def Cap.less (k : Nat) : Cap → Cap
  | .ge n => .ge (n - k)
  | .eq n => .eq (n - k)
def Cap.ok (c : Nat) : Cap → Prop
  | .ge n => n ≤ c
  | .eq n => c = n
theorem Cap.low_le {c : Nat} {cp : Cap} (h : cp.ok c) : cp.low ≤ c := by
  cases cp with
  | ge n => exact h
  | eq n => exact Nat.le_of_eq h.symm
theorem Cap.less_ok {c : Nat} {cp : Cap} (h : cp.ok c) (k : Nat) : (cp.less k).ok (c - k) := by
  cases cp with
  | ge n => exact Nat.sub_le_sub_right h k
  | eq n => simp only [Cap.ok, Cap.less] at h ⊢; rw [h]
/-- Values of the upper level. -/
inductive HVal where
  | bool (b : Bool)
  | int (k : IntKind) (n : Int)
  | str (s : List UInt8)
  | nilp
  | bp (id off : Nat)
  | ptr (id es i off : Nat)
  | pp (lf : Nat) (cells : List HVal) (off : Nat)
  | ps (lf es : Nat) (full : Bool) (elems : List (List HVal))
  /-- a slice of an owned block; its capacity, where that is known -/
  | sl (id es i len : Nat) (cp : Cap)
  | nilm
  | map (id : Nat)
  /-- a map that is never changed again: its keys, its values -/
  | pm (lf : Nat) (ks vs : List HVal)
  | func (fn : Fn) (first captured : List HVal)
  | yield (id : Nat)
  | nilf
  | agg (cells : List HVal)
  | tup (vs : List HVal)
  /-- a value of which nothing is known -/
  | any
  | nili
  | iface (t : Nat) (v : HVal)
  deriving Inhabited

def hundef : HVal := .tup []

inductive HObj where
  | box (cells : List HVal)
  | arr (es : Nat) (elems : List (List HVal))
  | map (es : List (HVal × HVal))
  | siter (s : List UInt8) (pos : Nat)
  /-- an iteration over a map that is never changed again: what is left, where it stands -/
  | miter (left cur : List (HVal × HVal))
  | loop (state : LoopState) (pending : Option Code) (nt : Nat) (env : List (Nat × HVal)) (params : List Nat) (assign body : Code)
  deriving Inhabited

/-- How the upper level lies in a world: rho: where each block of the upper level lies; fr: the real blocks that are never written again, by lifetime. -/
structure Gam where
  ρ : Nat → Option (Nat × Nat)
  fr : Nat → Nat → Prop

/-- The entries of a map have been born at different times, all of them past. -/
def Born (es : List MapEntry) (clock : Nat) : Prop := (∀ e ∈ es, e.born < clock) ∧ (es.map (·.born)).Nodup

theorem Born_nil (c : Nat) : Born [] c := ⟨by simp, by simp⟩

mutual
def VR (Γ : Gam) (w : World) : HVal → Value → Prop
  | .bool b, v => v = .bool b
  | .int k n, v => v = .int k n
  | .str s, v => v = .string ⟨s.toArray⟩
  | .nilp, v => v = .pointer none
  | .bp id off, v => ∃ b δ, Γ.ρ id = some (b, δ) ∧ v = .pointer (some ⟨b, δ + off, none⟩)
  | .ptr id es i off, v => ∃ b δ, Γ.ρ id = some (b, δ) ∧ v = .pointer (some ⟨b, δ + i * es + off, none⟩)
  | .pp lf cells off, v => ∃ b o, v = .pointer (some ⟨b, o + off, none⟩) ∧ Γ.fr lf b ∧ CsAt Γ w b o cells
  | .ps lf es full elems, v => (elems = [] ∧ v = .slice none 0 0) ∨
      ∃ b o cap, v = .slice (some ⟨b, o, none⟩) elems.length cap ∧ elems.length ≤ cap ∧ (full = true → cap = elems.length) ∧ Γ.fr lf b ∧ EsAt Γ w b o es elems
  | .sl id es i len cp, v => ∃ b δ o cap arr T fz, Γ.ρ id = some (b, δ) ∧ v = .slice (some ⟨b, o, none⟩) len cap ∧ len ≤ cap ∧ (0 < cap → o = δ + i * es) ∧
      w.heap[b]? = some (.cells arr T fz) ∧ δ + (i + cap) * es ≤ arr.size ∧ cp.ok cap
  | .nilm, v => v = .map none
  | .map id, v => ∃ b δ, Γ.ρ id = some (b, δ) ∧ v = .map (some b)
  | .func fn first captured, v => (∀ l, fn ≠ .yield l) ∧ ∃ vs us : List Value, v = .func fn vs.toArray us.toArray ∧ VRs Γ w first vs ∧ VRs Γ w captured us
  | .yield id, v => ∃ b δ, Γ.ρ id = some (b, δ) ∧ v = .func (.yield b) #[] #[]
  | .nilf, v => v = .nilFunc
  | .agg cells, v => ∃ vs : List Value, v = .agg vs.toArray ∧ (∀ x ∈ vs, x.oneCell' = true) ∧ VRs Γ w cells vs
  | .tup ws, v => ∃ vs : List Value, v = .tuple vs.toArray ∧ VRs Γ w ws vs
  | .any, _ => True
  | .pm lf ks vs, v => ∃ b ents clock, v = .map (some b) ∧ Γ.fr lf b ∧ w.heap[b]? = some (Obj.map ents clock) ∧ Born ents.toList clock ∧ VRs Γ w ks (ents.toList.map (·.key)) ∧ VRs Γ w vs (ents.toList.map (·.val))
  | .nili, v => v = .nilIface
  | .iface t h, v => ∃ u, v = .iface t u ∧ VR Γ w h u
def VRs (Γ : Gam) (w : World) : List HVal → List Value → Prop
  | [], vs => vs = []
  | c :: cs, vs => ∃ v r, vs = v :: r ∧ VR Γ w c v ∧ VRs Γ w cs r
def CsAt (Γ : Gam) (w : World) (b : Nat) : Nat → List HVal → Prop
  | _, [] => True
  | o, c :: cs => (∃ v, w.cell? ⟨b, o, none⟩ = some v ∧ v.oneCell' = true ∧ VR Γ w c v) ∧ CsAt Γ w b (o + 1) cs
def EsAt (Γ : Gam) (w : World) (b : Nat) : Nat → Nat → List (List HVal) → Prop
  | _, _, [] => True
  | o, es, e :: r => e.length = es ∧ CsAt Γ w b o e ∧ EsAt Γ w b (o + es) es r
end

/-- What every step keeps. -/
structure Ext (Γ : Gam) (w : World) (Γ' : Gam) (w' : World) : Prop where
  ρ : ∀ id x, Γ.ρ id = some x → Γ'.ρ id = some x
  fr : ∀ l b, Γ.fr l b → Γ'.fr l b
  same : ∀ l b, Γ.fr l b → w'.heap[b]? = w.heap[b]?
  size : ∀ (b : Nat) (arr : Array Value) (T : TypeId) (fz : Nat × Nat), w.heap[b]? = some (Obj.cells arr T fz) → ∃ (arr' : Array Value) (fz' : Nat × Nat), w'.heap[b]? = some (Obj.cells arr' T fz') ∧ arr'.size = arr.size

theorem Ext.refl (Γ : Gam) (w : World) : Ext Γ w Γ w := ⟨fun _ _ h => h, fun _ _ h => h, fun _ _ _ => rfl, fun _ _ _ _ h => ⟨_, _, h, rfl⟩⟩
theorem Ext.trans {Γ Γ' Γ'' : Gam} {w w' w'' : World} (h : Ext Γ w Γ' w') (k : Ext Γ' w' Γ'' w'') : Ext Γ w Γ'' w'' :=
  ⟨fun _ _ e => k.ρ _ _ (h.ρ _ _ e), fun _ _ e => k.fr _ _ (h.fr _ _ e), fun l b e => (k.same l b (h.fr _ _ e)).trans (h.same l b e),
   fun b arr T fz e => by
    obtain ⟨a1, f1, e1, s1⟩ := h.size b arr T fz e
    obtain ⟨a2, f2, e2, s2⟩ := k.size b a1 T f1 e1
    exact ⟨a2, f2, e2, s2.trans s1⟩⟩

theorem cell_of_block {w w' : World} {b o : Nat} (h : w'.heap[b]? = w.heap[b]?) : w'.cell? ⟨b, o, none⟩ = w.cell? ⟨b, o, none⟩ := by
  simp [World.cell?, h]

mutual
theorem VR_ext {Γ Γ' : Gam} {w w' : World} (E : Ext Γ w Γ' w') : ∀ (h : HVal) (v : Value), VR Γ w h v → VR Γ' w' h v
  | .bool _, _, h => by simpa [VR] using h
  | .int _ _, _, h => by simpa [VR] using h
  | .str _, _, h => by simpa [VR] using h
  | .nilp, _, h => by simpa [VR] using h
  | .nilm, _, h => by simpa [VR] using h
  | .nilf, _, h => by simpa [VR] using h
  | .ptr _ _ _ _, _, h => by
    simp only [VR] at h ⊢
    obtain ⟨b, δ, h1, h2⟩ := h
    exact ⟨b, δ, E.ρ _ _ h1, h2⟩
  | .bp _ _, _, h => by
    simp only [VR] at h ⊢
    obtain ⟨b, δ, h1, h2⟩ := h
    exact ⟨b, δ, E.ρ _ _ h1, h2⟩
  | .pp lf cells off, _, h => by
    simp only [VR] at h ⊢
    obtain ⟨b, o, h1, h2, h3⟩ := h
    exact ⟨b, o, h1, E.fr _ _ h2, CsAt_ext E cells b o (E.same _ _ h2) h3⟩
  | .ps lf es full elems, _, h => by
    simp only [VR] at h ⊢
    rcases h with h | ⟨b, o, cap, h1, h2, h3, h4, h5⟩
    · exact .inl h
    · exact .inr ⟨b, o, cap, h1, h2, h3, E.fr _ _ h4, EsAt_ext E elems b o es (E.same _ _ h4) h5⟩
  | .sl _ _ _ _ _, _, h => by
    simp only [VR] at h ⊢
    obtain ⟨b, δ, o, cap, arr, T, fz, h1, h2, h3, h4, h5, h6, h7⟩ := h
    obtain ⟨arr', fz', e1, e2⟩ := E.size _ _ _ _ h5
    exact ⟨b, δ, o, cap, arr', T, fz', E.ρ _ _ h1, h2, h3, h4, e1, by omega, h7⟩
  | .map _, _, h => by
    simp only [VR] at h ⊢
    obtain ⟨b, δ, h1, h2⟩ := h
    exact ⟨b, δ, E.ρ _ _ h1, h2⟩
  | .yield _, _, h => by
    simp only [VR] at h ⊢
    obtain ⟨b, δ, h1, h2⟩ := h
    exact ⟨b, δ, E.ρ _ _ h1, h2⟩
  | .func _ first captured, _, h => by
    simp only [VR] at h ⊢
    obtain ⟨h0, vs, us, h1, h2, h3⟩ := h
    exact ⟨h0, vs, us, h1, VRs_ext E first vs h2, VRs_ext E captured us h3⟩
  | .agg cells, _, h => by
    simp only [VR] at h ⊢
    obtain ⟨vs, h1, h0, h2⟩ := h
    exact ⟨vs, h1, h0, VRs_ext E cells vs h2⟩
  | .tup ws, _, h => by
    simp only [VR] at h ⊢
    obtain ⟨vs, h1, h2⟩ := h
    exact ⟨vs, h1, VRs_ext E ws vs h2⟩
  | .any, _, _ => by simp [VR]
  | .pm lf ks vs, _, h => by
    simp only [VR] at h ⊢
    obtain ⟨b, ents, c, h1, h2, h3, h4, h5, h6⟩ := h
    exact ⟨b, ents, c, h1, E.fr _ _ h2, (E.same _ _ h2).trans h3, h4, VRs_ext E ks _ h5, VRs_ext E vs _ h6⟩
  | .nili, _, h => by simpa [VR] using h
  | .iface _ h, _, hv => by
    simp only [VR] at hv ⊢
    obtain ⟨u, h1, h2⟩ := hv
    exact ⟨u, h1, VR_ext E h u h2⟩
theorem VRs_ext {Γ Γ' : Gam} {w w' : World} (E : Ext Γ w Γ' w') : ∀ (hs : List HVal) (vs : List Value), VRs Γ w hs vs → VRs Γ' w' hs vs
  | [], _, h => by simpa [VRs] using h
  | c :: cs, _, h => by
    simp only [VRs] at h ⊢
    obtain ⟨v, r, h1, h2, h3⟩ := h
    exact ⟨v, r, h1, VR_ext E c v h2, VRs_ext E cs r h3⟩
theorem CsAt_ext {Γ Γ' : Gam} {w w' : World} (E : Ext Γ w Γ' w') : ∀ (cs : List HVal) (b o : Nat), w'.heap[b]? = w.heap[b]? → CsAt Γ w b o cs → CsAt Γ' w' b o cs
  | [], _, _, _, _ => by simp [CsAt]
  | c :: cs, b, o, hb, h => by
    simp only [CsAt] at h ⊢
    obtain ⟨⟨v, h1, h0, h2⟩, h3⟩ := h
    exact ⟨⟨v, (cell_of_block hb).trans h1, h0, VR_ext E c v h2⟩, CsAt_ext E cs b (o + 1) hb h3⟩
theorem EsAt_ext {Γ Γ' : Gam} {w w' : World} (E : Ext Γ w Γ' w') : ∀ (es : List (List HVal)) (b o n : Nat), w'.heap[b]? = w.heap[b]? → EsAt Γ w b o n es → EsAt Γ' w' b o n es
  | [], _, _, _, _, _ => by simp [EsAt]
  | e :: es, b, o, n, hb, h => by
    simp only [EsAt] at h ⊢
    exact ⟨h.1, CsAt_ext E e b o hb h.2.1, EsAt_ext E es b (o + n) n hb h.2.2⟩
end

def eget : List (Nat × HVal) → Nat → HVal
  | [], _ => .any
  | (j, v) :: r, i => bif Nat.beq i j then v else eget r i
def hget : List (Nat × HObj) → Nat → Option HObj
  | [], _ => none
  | (j, v) :: r, i => bif Nat.beq i j then some v else hget r i
def lrep {α : Type} : List (Nat × α) → Nat → α → Option (List (Nat × α))
  | [], _, _ => none
  | (j, p) :: r, i, o => bif Nat.beq i j then some ((j, o) :: r) else match lrep r i o with
    | some r' => some ((j, p) :: r')
    | none => none
/-- What is new stands first. -/
def lset {α : Type} (h : List (Nat × α)) (i : Nat) (o : α) : List (Nat × α) :=
  match lrep h i o with
  | some h' => h'
  | none => (i, o) :: h
def hset (h : List (Nat × HObj)) (i : Nat) (o : HObj) : List (Nat × HObj) := lset h i o
def hdel : List (Nat × HObj) → Nat → List (Nat × HObj)
  | [], _ => []
  | (j, p) :: r, i => bif Nat.beq i j then hdel r i else (j, p) :: hdel r i

theorem beq_ff {k i : Nat} (h : k ≠ i) : Nat.beq k i = false := by
  cases e : Nat.beq k i
  · rfl
  · exact absurd (Nat.eq_of_beq_eq_true e) h
theorem lrep_hget : ∀ {h h' : List (Nat × HObj)} {i : Nat} {o : HObj}, lrep h i o = some h' → hget h' i = some o ∧ ∀ k, k ≠ i → hget h' k = hget h k
  | [], _, _, _, e => by cases e
  | (j, p) :: r, h', i, o, e => by
    simp only [lrep] at e
    cases hb : Nat.beq i j
    · rw [hb] at e
      simp only [cond_false] at e
      split at e
      · rename_i r' hr
        obtain rfl := Option.some.inj e
        obtain ⟨h1, h2⟩ := lrep_hget hr
        refine ⟨by simp only [hget, hb, cond_false, h1], fun k hk => ?_⟩
        simp only [hget, h2 k hk]
      · cases e
    · rw [hb] at e
      simp only [cond_true] at e
      obtain rfl := Option.some.inj e
      have : i = j := Nat.eq_of_beq_eq_true hb
      subst this
      refine ⟨by simp only [hget, hb, cond_true], fun k hk => ?_⟩
      simp only [hget, beq_ff hk, cond_false]
theorem hget_hset_same (h : List (Nat × HObj)) (i : Nat) (o : HObj) : hget (hset h i o) i = some o := by
  unfold hset lset
  split
  · rename_i h' e; exact (lrep_hget e).1
  · simp [hget]
theorem hget_hset_other (h : List (Nat × HObj)) {i k : Nat} (o : HObj) (hk : k ≠ i) : hget (hset h i o) k = hget h k := by
  unfold hset lset
  split
  · rename_i h' e; exact (lrep_hget e).2 k hk
  · simp [hget, beq_ff hk]
theorem hget_hdel_same (h : List (Nat × HObj)) (i : Nat) : hget (hdel h i) i = none := by
  induction h with
  | nil => simp [hdel, hget]
  | cons x r ih =>
    obtain ⟨j, p⟩ := x
    simp only [hdel]
    cases e : Nat.beq i j <;> simp [hget, e, ih]
theorem hget_hdel_other (h : List (Nat × HObj)) {i k : Nat} (hk : k ≠ i) : hget (hdel h i) k = hget h k := by
  induction h with
  | nil => simp [hdel]
  | cons x r ih =>
    obtain ⟨j, p⟩ := x
    simp only [hdel]
    cases e : Nat.beq i j
    · simp only [cond_false, hget, ih]
    · have : i = j := by simpa using e
      subst this
      simp [hget, beq_ff hk, ih]

def EL (Γ : Gam) (w : World) (env : List (Nat × HVal)) (tmps : Array Value) : Prop :=
  ∀ i : Nat, VR Γ w (eget env i) (tmps.getD i undef)

def MR (Γ : Gam) (w : World) : List (HVal × HVal) → List MapEntry → Prop
  | [], es => es = []
  | (k, v) :: r, es => ∃ e s, es = e :: s ∧ VR Γ w k e.key ∧ VR Γ w v e.val ∧ MR Γ w r s

/-- How an object of the upper level lies at a real block. -/
def OR (Γ : Gam) (w : World) (b δ : Nat) : HObj → Prop
  | .box cells => ∃ (arr : Array Value) (T : TypeId) (fz : Nat × Nat), w.heap[b]? = some (Obj.cells arr T fz) ∧ (∀ o, o < arr.size → (fz.1 ≤ o && o < fz.2) = false) ∧
      CsAt Γ w b δ cells
  | .arr es elems => ∃ (arr : Array Value) (T : TypeId) (fz : Nat × Nat), w.heap[b]? = some (Obj.cells arr T fz) ∧ (∀ o, o < arr.size → (fz.1 ≤ o && o < fz.2) = false) ∧
      EsAt Γ w b δ es elems
  | .map es => ∃ ents clock, w.heap[b]? = some (Obj.map ents clock) ∧ MR Γ w es ents.toList ∧ Born ents.toList clock
  | .miter left cur => δ = 0 ∧ ∃ m seen last ents clock, w.heap[b]? = some (Obj.mapIter (some m) clock seen last) ∧ Γ.fr 0 m ∧ w.heap[m]? = some (Obj.map ents clock) ∧ Born ents.toList clock ∧
      (seen = #[] ∨ last = clock) ∧ MR Γ w left (ents.toList.filter fun e => !seen.contains e.born) ∧
      (∀ p ∈ cur, ∃ e ∈ ents.toList, seen.back? = some e.born ∧ last = clock ∧ VR Γ w p.1 e.key ∧ VR Γ w p.2 e.val)
  | .siter s pos => δ = 0 ∧ w.heap[b]? = some (Obj.stringIter ⟨s.toArray⟩ pos)
  | .loop st pe nt env ps as bd => ∃ r : Loop, w.heap[b]? = some (Obj.loop r) ∧ r.state = st ∧ r.pending = pe ∧ r.tmps.size = nt ∧ EL Γ w env r.tmps ∧ r.params = ps.toArray ∧
      r.assign = as ∧ r.body = bd

/-- What is fixed: the program, what its variables hold. -/
structure Cx0 where
  P : Program
  G : List (Nat × List HVal)

structure HR (cx : Cx0) (Γ : Gam) (hh : List (Nat × HObj)) (used : Nat → Prop) (w : World) : Prop where
  frlt : ∀ l b, Γ.fr l b → b < w.heap.size
  obj : ∀ id o, hget hh id = some o → ∃ b δ, Γ.ρ id = some (b, δ) ∧ (∀ l, ¬ Γ.fr l b) ∧ OR Γ w b δ o
  inj : ∀ id id' o o' b δ δ', hget hh id = some o → hget hh id' = some o' → Γ.ρ id = some (b, δ) → Γ.ρ id' = some (b, δ') → id = id'
  used : ∀ id x, Γ.ρ id = some x → used id
  glob : ∀ g cs, (g, cs) ∈ cx.G → Γ.fr 0 g ∧ CsAt Γ w g 0 cs

def Owned (Γ : Gam) (hh : List (Nat × HObj)) (b : Nat) : Prop := ∃ id o δ, hget hh id = some o ∧ Γ.ρ id = some (b, δ)

/-- A step from one state to another. -/
structure Evo (hh : List (Nat × HObj)) (Γ : Gam) (w : World) (hh' : List (Nat × HObj)) (Γ' : Gam) (w' : World) : Prop extends Ext Γ w Γ' w' where
  hsz : w.heap.size ≤ w'.heap.size
  keep : ∀ b, b < w.heap.size → ¬ Owned Γ hh b → w'.heap[b]? = w.heap[b]?
  newfr : ∀ l b, Γ'.fr l b → Γ.fr l b ∨ Owned Γ hh b ∨ w.heap.size ≤ b
  newown : ∀ b, Owned Γ' hh' b → Owned Γ hh b ∨ w.heap.size ≤ b
  os : w'.os = w.os
  tape : w'.tape = w.tape
  output : w'.output = w.output

theorem Evo.refl (hh : List (Nat × HObj)) (Γ : Gam) (w : World) : Evo hh Γ w hh Γ w :=
  { Ext.refl Γ w with hsz := Nat.le_refl _, keep := fun _ _ _ => rfl, newfr := fun _ _ h => .inl h, newown := fun _ h => .inl h, os := rfl, tape := rfl, output := rfl }

theorem Evo.trans {h0 h1 h2 : List (Nat × HObj)} {Γ0 Γ1 Γ2 : Gam} {w0 w1 w2 : World} (a : Evo h0 Γ0 w0 h1 Γ1 w1) (b : Evo h1 Γ1 w1 h2 Γ2 w2) : Evo h0 Γ0 w0 h2 Γ2 w2 :=
  { a.toExt.trans b.toExt with
    hsz := Nat.le_trans a.hsz b.hsz
    keep := fun x hx hn => (b.keep x (Nat.lt_of_lt_of_le hx a.hsz) (fun ho => (a.newown x ho).elim hn (fun h => by omega))).trans (a.keep x hx hn)
    newfr := fun l x h => by
      rcases b.newfr l x h with h | h | h
      · exact a.newfr l x h
      · rcases a.newown x h with h | h
        · exact .inr (.inl h)
        · exact .inr (.inr h)
      · exact .inr (.inr (Nat.le_trans a.hsz h))
    newown := fun x h => by
      rcases b.newown x h with h | h
      · exact a.newown x h
      · exact .inr (Nat.le_trans a.hsz h)
    os := b.os.trans a.os
    tape := b.tape.trans a.tape
    output := b.output.trans a.output }

theorem MR_ext {Γ Γ' : Gam} {w w' : World} (E : Ext Γ w Γ' w') : ∀ (es : List (HVal × HVal)) (l : List MapEntry), MR Γ w es l → MR Γ' w' es l
  | [], _, h => h
  | (k, v) :: r, _, h => by
    obtain ⟨e, s, h1, h2, h3, h4⟩ := h
    exact ⟨e, s, h1, VR_ext E _ _ h2, VR_ext E _ _ h3, MR_ext E r s h4⟩
theorem EL_ext {Γ Γ' : Gam} {w w' : World} (E : Ext Γ w Γ' w') {env : List (Nat × HVal)} {t : Array Value} (h : EL Γ w env t) : EL Γ' w' env t :=
  fun i => VR_ext E _ _ (h i)
theorem OR_ext {Γ Γ' : Gam} {w w' : World} (E : Ext Γ w Γ' w') {b δ : Nat} (hb : w'.heap[b]? = w.heap[b]?) : ∀ (o : HObj), OR Γ w b δ o → OR Γ' w' b δ o
  | .box cells, ⟨arr, T, fz, h1, h2, h3⟩ => ⟨arr, T, fz, hb.trans h1, h2, CsAt_ext E cells b δ hb h3⟩
  | .arr es elems, ⟨arr, T, fz, h1, h2, h3⟩ => ⟨arr, T, fz, hb.trans h1, h2, EsAt_ext E elems b δ es hb h3⟩
  | .map es, ⟨ents, c, h1, h2, h3⟩ => ⟨ents, c, hb.trans h1, MR_ext E es _ h2, h3⟩
  | .miter left cur, ⟨h0, m, seen, last, ents, c, h1, h2, h3, h4, h5, h6, h7⟩ => ⟨h0, m, seen, last, ents, c, hb.trans h1, E.fr _ _ h2, (E.same _ _ h2).trans h3, h4, h5, MR_ext E left _ h6, fun p hp => by
    obtain ⟨e, q1, q2, q3, q4, q5⟩ := h7 p hp
    exact ⟨e, q1, q2, q3, VR_ext E _ _ q4, VR_ext E _ _ q5⟩⟩
  | .siter _ _, ⟨h0, h1⟩ => ⟨h0, hb.trans h1⟩
  | .loop .., ⟨r, h1, h2, h3, h4, h5, h6⟩ => ⟨r, hb.trans h1, h2, h3, h4, EL_ext E h5, h6⟩
end Go.Hv

namespace Go.Hv
open Go

/-! ### Types -/
inductive TK where
  | other | int (k : IntKind) | bool | str | ptr (e : Nat) | slice (e : Nat) | arr (n e : Nat) | struct (fs : List (Nat × Nat)) | map (k v : Nat) | func | iface
  deriving Inhabited
structure TI where
  tk : TK
  size : Nat
  bytes : Nat
  zero : HVal
  deriving Inhabited
def TKOK (d : TypeDesc) : TK → Prop
  | .other => True
  | .int k => d = .int k
  | .bool => d = .bool
  | .str => d = .string
  | .ptr e => d = .pointer e
  | .slice e => d = .slice e
  | .arr n e => d = .array n e
  | .struct fs => ∃ fields : Array Field, d = .struct fields ∧ fields.toList.map (fun f => (f.offset, f.type)) = fs
  | .map k v => d = .map k v
  | .func => ∃ a b c, d = .func a b c
  | .iface => ∃ ms, d = .interface ms
/-- What the table says of a type holds of the program. -/
def TOK (P : Program) (t : Nat) (ti : TI) : Prop :=
  ti.tk = .other ∨ ∃ i d, P.info? t = some i ∧ P.underlying t = some d ∧ i.size = ti.size ∧ i.bytes = ti.bytes ∧ TKOK d ti.tk ∧ ∃ z, i.zero = some z ∧ z.cells.size = ti.size ∧ ∀ Γ w, VR Γ w ti.zero z

def TK.agg : TK → Bool
  | .struct _ | .arr _ _ => true
  | _ => false

structure Cx extends Cx0 where
  T : Nat → TI
  B : Nat → Bool
  /-- types of structs and arrays that are compared cell by cell: the kinds of the cells -/
  E : Nat → Option (List TK)

/-! ### Lists, in the style that hands on -/
def cellK : List HVal → Nat → (HVal → Prop) → Prop
  | [], _, _ => False
  | c :: _, 0, k => k c
  | _ :: r, i + 1, k => cellK r i k
def takeK : List HVal → Nat → (List HVal → Prop) → Prop
  | _, 0, k => k []
  | [], _ + 1, _ => False
  | c :: r, n + 1, k => takeK r n (fun l => k (c :: l))
def dropK : List HVal → Nat → (List HVal → Prop) → Prop
  | l, 0, k => k l
  | [], _ + 1, _ => False
  | _ :: r, n + 1, k => dropK r n k
/-- the cells with others over them, from a place on -/
def overK : List HVal → Nat → List HVal → (List HVal → Prop) → Prop
  | l, 0, [], k => k l
  | [], 0, _ :: _, _ => False
  | _ :: r, 0, n :: ns, k => overK r 0 ns (fun l => k (n :: l))
  | [], _ + 1, _, _ => False
  | c :: r, o + 1, ns, k => overK r o ns (fun l => k (c :: l))
def flatK : HVal → (List HVal → Prop) → Prop
  | .agg cs, k => k cs
  | .tup _, _ => False
  | .any, _ => False
  | v, k => k [v]
def partK (ti : TI) (cells : List HVal) (off : Nat) (k : HVal → Prop) : Prop :=
  bif ti.tk.agg then dropK cells off (fun r => takeK r ti.size (fun l => k (.agg l))) else cellK cells off k

/-- the table knows the type -/
def nO (ti : TI) (A : Prop) : Prop :=
  match ti.tk with
  | .other => False
  | _ => A
/-- What an operation on a map finds. -/
def keyEq : TK → HVal → HVal → Option Bool
  | .int _, .int k a, .int k' b => if k = k' then some (a == b) else none
  | .str, .str a, .str b => some (a == b)
  | .bool, .bool a, .bool b => some (a == b)
  | _, _, _ => none

/-- A test: both ways are owed, each under what it has shown. -/
inductive BC (t : Bool) (A B : Prop) : Prop
  | mk (h1 : t = true → A) (h0 : t = false → B)
theorem BC.tt {A B : Prop} (h : A) : BC true A B := ⟨fun _ => h, fun e => absurd e (by decide)⟩
theorem BC.ff {A B : Prop} (h : B) : BC false A B := ⟨fun e => absurd e (by decide), fun _ => h⟩

abbrev Eds := List (Nat × Option HObj)
abbrev KT := HVal → Eds → Nat → Prop

def zeroVal : Value → Option HVal
  | .bool b => some (.bool b)
  | .int k n => some (.int k n)
  | .string s => some (.str s.data.toList)
  | .pointer none => some .nilp
  | .slice none 0 0 => some (.ps 0 0 true [])
  | .map none => some .nilm
  | .nilFunc => some .nilf
  | .nilIface => some .nili
  | _ => none
def zeroVals : List Value → Option (List HVal)
  | [] => some []
  | v :: r => match zeroVal v, zeroVals r with
    | some h, some hs => some (h :: hs)
    | _, _ => none
/-- What a value written in the text is. -/
def ofV : Value → HVal
  | .agg cs => match zeroVals cs.toList with | some hs => .agg hs | none => hundef
  | v => match zeroVal v with | some h => h | none => hundef
def okV : Value → Bool
  | .agg cs => (zeroVals cs.toList).isSome
  | v => (zeroVal v).isSome

def bytesOf : List (List HVal) → Option (List UInt8)
  | [] => some []
  | [.int .u8 n] :: r => if 0 ≤ n ∧ n < 256 then (bytesOf r).map (UInt8.ofNat n.toNat :: ·) else none
  | _ => none

def hfind (tk : TK) (key : HVal) : List (HVal × HVal) → Option (Option HVal)
  | [] => some none
  | (q, v) :: r => match keyEq tk key q with
    | some true => some (some v)
    | some false => hfind tk key r
    | none => none
def hput (tk : TK) (key v : HVal) : List (HVal × HVal) → Option (List (HVal × HVal))
  | [] => some [(key, v)]
  | (q, u) :: r => match keyEq tk key q with
    | some true => some ((key, v) :: r)
    | some false => (hput tk key v r).map ((q, u) :: ·)
    | none => none

def hdrop (tk : TK) (key : HVal) : List (HVal × HVal) → Option (List (HVal × HVal))
  | [] => some []
  | (q, u) :: r => match keyEq tk key q with
    | some true => some r
    | some false => (hdrop tk key r).map ((q, u) :: ·)
    | none => none
def cellsEq : List TK → List HVal → List HVal → Option Bool
  | [], [], [] => some true
  | tk :: ts, x :: xs, y :: ys => match keyEq tk x y with
    | some b => (match cellsEq ts xs ys with
      | some c => some (b && c)
      | none => none)
    | none => none
  | _, _, _ => none

/-- The parts of a struct, one over the other. -/
def buildK (cx : Cx) (place : Nat → Option (Nat × Nat)) : List Nat → List HVal → List HVal → (List HVal → Prop) → Prop
  | [], [], cells, k => k cells
  | i :: is, v :: vs, cells, k => match place i with
    | none => False
    | some (off, sz) => flatK v fun cs => bif Nat.beq cs.length sz then overK cells off cs fun cells' => buildK cx place is vs cells' k else False
  | _, _, _, _ => False
def setEl : List (List HVal) → Nat → List HVal → (List (List HVal) → Prop) → Prop
  | [], _, _, _ => False
  | _ :: r, 0, e, k => k (e :: r)
  | c :: r, i + 1, e, k => setEl r i e fun l => k (c :: l)
def fillK (sz : Nat) : List Nat → List HVal → List (List HVal) → (List (List HVal) → Prop) → Prop
  | [], [], els, k => k els
  | i :: is, v :: vs, els, k => flatK v fun cs => bif Nat.beq cs.length sz then setEl els i cs fun els' => fillK sz is vs els' k else False
  | _, _, _, _ => False

def hintB (op : BinOp) (q : IntKind) (a b : Int) (k : HVal → Prop) : Prop :=
  match op with
  | .add => match q with
    | .i64 => (-9223372036854775808 ≤ a + b ∧ a + b ≤ 9223372036854775807) ∧ k (.int .i64 (a + b))
    | _ => k (.int q (q.wrap (a + b)))
  | .sub => match q with
    | .i64 => (-9223372036854775808 ≤ a - b ∧ a - b ≤ 9223372036854775807) ∧ k (.int .i64 (a - b))
    | _ => k (.int q (q.wrap (a - b)))
  | .mul => match q with
    | .i64 => (-9223372036854775808 ≤ a * b ∧ a * b ≤ 9223372036854775807) ∧ k (.int .i64 (a * b))
    | _ => k (.int q (q.wrap (a * b)))
  | .quo => match q with
    | .i64 => (0 ≤ a ∧ 0 < b ∧ a ≤ 9223372036854775807) ∧ k (.int .i64 (a / b))
    | _ => b ≠ 0 ∧ k (.int q (q.wrap (a.tdiv b)))
  | .rem => match q with
    | .i64 => (0 ≤ a ∧ 0 < b) ∧ k (.int .i64 (a % b))
    | _ => b ≠ 0 ∧ k (.int q (a.tmod b))
  | .and => k (.int q (q.wrap (BitVec.ofInt q.bits a &&& BitVec.ofInt q.bits b).toNat))
  | .or => k (.int q (q.wrap (BitVec.ofInt q.bits a ||| BitVec.ofInt q.bits b).toNat))
  | .xor => k (.int q (q.wrap (BitVec.ofInt q.bits a ^^^ BitVec.ofInt q.bits b).toNat))
  | .andNot => k (.int q (q.wrap (BitVec.ofInt q.bits a &&& ~~~(BitVec.ofInt q.bits b)).toNat))
  | .eql => k (.bool (a == b))
  | .neq => k (.bool (a != b))
  | .lss => k (.bool (decide (a < b)))
  | .leq => k (.bool (decide (a ≤ b)))
  | .gtr => k (.bool (decide (a > b)))
  | .geq => k (.bool (decide (a ≥ b)))
  | _ => False
def hstrB (op : BinOp) (a b : List UInt8) (k : HVal → Prop) : Prop :=
  match op with
  | .add => a.length + b.length ≤ 9223372036854775807 ∧ k (.str (a ++ b))
  | .eql => k (.bool (a == b))
  | .neq => k (.bool (!(a == b)))
  | .lss => k (.bool (Op.bytesLess a b))
  | .leq => k (.bool (Op.bytesLess a b || a == b))
  | .gtr => k (.bool (!(Op.bytesLess a b || a == b)))
  | .geq => k (.bool (!(Op.bytesLess a b)))
  | _ => False
def isPtr : HVal → Bool
  | .bp .. | .ptr .. | .pp .. => true
  | _ => false
def isNilSlice : Operand → Bool
  | .const (.slice none 0 0) => true
  | _ => false
def eqOr (op : BinOp) (r : Bool) (k : HVal → Prop) : Prop :=
  match op with
  | .eql => k (.bool r)
  | .neq => k (.bool (!r))
  | _ => False
def isSliceT : TK → Bool
  | .slice _ => true
  | _ => false
def isPtrT : TK → Bool
  | .ptr _ => true
  | _ => false
def isIfaceT : TK → Bool
  | .iface => true
  | _ => false
def isNilIface : Operand → Bool
  | .const .nilIface => true
  | _ => false
def isBoolT : TK → Bool
  | .bool => true
  | _ => false
def hbinB (op : BinOp) (tk : TK) (eqc : Option (List TK)) (nily nili : Bool) (x y : HVal) (k : HVal → Prop) : Prop :=
  match x, y with
  | .int q a, .int q' b => match op with
    | .shl => 0 ≤ b ∧ k (.int q (q.wrap (a * 2 ^ (min b.toNat q.bits))))
    | .shr => 0 ≤ b ∧ k (.int q (a.fdiv (2 ^ (min b.toNat q.bits))))
    | _ => q = q' ∧ hintB op q a b k
  | .str a, .str b => hstrB op a b k
  | .bool a, .bool b => bif isBoolT tk then eqOr op (a == b) k else False
  | .agg xs, .agg ys => match eqc with
    | some ts => (match cellsEq ts xs ys with
      | some r => eqOr op r k
      | none => False)
    | none => False
  | .nili, .nili => bif isIfaceT tk && nili then eqOr op true k else False
  | .iface _ _, .nili => bif isIfaceT tk then eqOr op false k else False
  | .nilp, .nilp => bif isPtrT tk then eqOr op true k else False
  | .ps _ _ _ elems, .ps _ _ _ _ => bif isSliceT tk && nily then BC elems.isEmpty (eqOr op true k ∧ eqOr op false k) (eqOr op false k) else False
  | .sl _ _ _ _ _, .ps _ _ _ _ => bif isSliceT tk && nily then eqOr op false k else False
  | x, .nilp => bif isPtrT tk && isPtr x then eqOr op false k else False
  | _, _ => False

/-- The elements that an operand of append or copy hands over. -/
def srcK (sz : Nat) (get : Nat → Option HObj) : HVal → (List (List HVal) → Prop) → Prop
  | .ps _ es _ elems, k => (es = sz ∨ elems = []) ∧ k elems
  | .sl id es i len _, k => match get id with
    | some (.arr es' elems) => (es = sz ∧ es' = sz ∧ i + len ≤ elems.length) ∧ k ((elems.drop i).take len)
    | _ => False
  | .str s, k => sz = 1 ∧ k (s.map fun b => [.int .u8 b.toNat])
  | _, _ => False
/-- What append takes: the elements of a slice or of a string, or as many zeros as its second operand says (append of make). -/
def srcA (ti : TI) (get : Nat → Option HObj) (utk : TK) (x : HVal) (k : List (List HVal) → Prop) : Prop :=
  match utk with
  | .slice _ => srcK ti.size get x k
  | .str => srcK ti.size get x k
  | .int _ => (match x with
    | .int _ n => flatK ti.zero fun z => (0 ≤ n ∧ z.length = ti.size) ∧ k (List.replicate n.toNat z)
    | _ => False)
  | _ => False
def isSl : HVal → Bool
  | .ps .. | .sl .. => true
  | _ => false
def intK : HVal → (Int → Prop) → Prop
  | .int _ n, k => k n
  | _, _ => False
def optInt (has : Bool) (vs : List HVal) (d : Int) (k : Int → List HVal → Prop) : Prop :=
  bif has then (match vs with | v :: r => intK v fun n => k n r | [] => False) else k d vs
def elemOK (cx : Cx) (t : Nat) (k : Nat → TI → Prop) : Prop :=
  match (cx.T t).tk with
  | .slice e => nO (cx.T e) (k e (cx.T e))
  | _ => False
/-- What cap gives. -/
def capK : Cap → (Nat → Prop) → Prop
  | .eq c, k => k c
  | .ge n, k => ∀ c : Nat, n ≤ c → k c
/-- Whether what is appended finds room: if it does not, the old block stays as it is; if that is not known, the old one is given up. -/
def roomK (cp : Cap) (n : Nat) (k : Bool → Cap → Prop) : Prop :=
  match cp with
  | .ge c => BC (Nat.ble n c) (k false (.ge c)) (k false (.ge n))
  | .eq c => BC (Nat.ble n c) (k false (.eq c)) (k true (.ge n))
def sameOr (es sz : Nat) (elems : List (List HVal)) : Prop := es = sz ∨ elems = []

def scalarK (tk : TK) (A : Prop) : Prop :=
  match tk with
  | .int _ | .str | .bool => A
  | _ => False
def hbuiltin (cx : Cx) (b : Builtin) (ats : List Nat) (vs : List HVal) (get : Nat → Option HObj) (nid : Nat) (k : KT) : Prop :=
  match b with
  | .len => match vs with
    | [.str s] => (match ats with | t :: _ => (match (cx.T t).tk with | .str => k (.int .i64 s.length) [] nid | _ => False) | [] => False)
    | [.ps _ _ _ elems] => (match ats with | t :: _ => (match (cx.T t).tk with | .slice _ => k (.int .i64 elems.length) [] nid | _ => False) | [] => False)
    | [.sl _ _ _ n _] => (match ats with | t :: _ => (match (cx.T t).tk with | .slice _ => k (.int .i64 n) [] nid | _ => False) | [] => False)
    | [.pm _ ks _] => (match ats with | t :: _ => (match (cx.T t).tk with | .map _ _ => k (.int .i64 ks.length) [] nid | _ => False) | [] => False)
    | [.map id] => (match ats with
      | t :: _ => (match (cx.T t).tk, get id with | .map _ _, some (.map es) => k (.int .i64 es.length) [] nid | _, _ => False)
      | [] => False)
    | _ => False
  | .cap => match vs with
    | [.ps _ _ true elems] => (match ats with | t :: _ => (match (cx.T t).tk with | .slice _ => k (.int .i64 elems.length) [] nid | _ => False) | [] => False)
    | [.sl _ _ _ n cp] => (match ats with | t :: _ => (match (cx.T t).tk with | .slice _ => capK cp fun c => k (.int .i64 c) [] nid | _ => False) | [] => False)
    | _ => False
  | .min => match vs with
    | [.int q a, .int q' b] => q = q' ∧ k (.int q (if b < a then b else a)) [] nid
    | _ => False
  | .max => match vs with
    | [.int q a, .int q' b] => q = q' ∧ k (.int q (if b > a then b else a)) [] nid
    | _ => False
  | .append => match ats, vs with
    | t :: u :: _, [d, x] => elemOK cx t fun _ ti => srcA ti get (cx.T u).tk x fun xs => match d with
        | .ps _ es full elems => BC xs.isEmpty (k d [] nid)
            ((sameOr es ti.size elems ∧ full = true ∧ (elems.length + xs.length) * (ti.bytes + 1) ≤ 70368744177664) ∧
              k (.sl nid ti.size 0 (elems.length + xs.length) (.ge (elems.length + xs.length))) [(nid, some (.arr ti.size (elems ++ xs)))] (nid + 1))
        | .sl id es i len cp => BC xs.isEmpty (k d [] nid) (match get id with
            | some (.arr es' elems) => (es = ti.size ∧ es' = ti.size ∧ i + len ≤ elems.length ∧ (len + xs.length) * (ti.bytes + 1) ≤ 70368744177664) ∧
                roomK cp (len + xs.length) fun keep cp' => k (.sl nid ti.size 0 (len + xs.length) cp') ((nid, some (.arr ti.size ((elems.drop i).take len ++ xs))) :: (bif keep then [] else [(id, none)])) (nid + 1)
            | _ => False)
        | _ => False
    | _, _ => False
  | .delete => match ats, vs with
    | t :: _, [.map id, key] => (match (cx.T t).tk with
      | .map kt _ => scalarK (cx.T kt).tk (match get id with
        | some (.map es) => ∃ es', hdrop (cx.T kt).tk key es = some es' ∧ k (.tup []) [(id, some (.map es'))] nid
        | _ => False)
      | _ => False)
    | _, _ => False
  | .copy => match ats, vs with
    | t :: _, [.sl id es i n _, x] => elemOK cx t fun _ ti => srcK ti.size get x fun xs => match get id with
        | some (.arr es' elems) => (es = ti.size ∧ es' = ti.size ∧ i + n ≤ elems.length) ∧
            k (.int .i64 (min xs.length n : Nat)) [(id, some (.arr es' (elems.take i ++ xs.take n ++ elems.drop (i + min xs.length n))))] nid
        | _ => False
    | _, _ => False
  | _ => False

/-- The operands of an operation, in order. -/
def hargs : Op → List Operand
  | .range _ x | .next x _ => [x]
  | .move x | .assign x | .box _ x | .load _ x | .nilCheck x | .unOp _ _ x | .convert _ _ x | .field _ x _ | .fieldAddr _ x _ | .extract x _ | .makeInterface _ x | .entry x => [x]
  | .pick c a b => [c, a, b]
  | .build _ ps | .buildSlice _ _ ps => ps.toList.map (·.2)
  | .store _ a v | .binOp _ _ a v _ | .makeSlice _ a v | .indexAddr _ a v | .index _ a v | .lookup _ a v _ => [a, v]
  | .makeFunc _ f c => f.toList ++ c.toList
  | .slice _ x l h m => x :: (l.toList ++ h.toList ++ m.toList)
  | .mapUpdate _ m k v | .insert _ m k v => [m, k, v]
  | .call c => match c.callee with
    | .value f => f :: c.args.toList
    | .invoke r _ => r :: c.args.toList
    | .builtin _ => c.args.toList
  | _ => []
def nOall (cx : Cx) : List (Nat × Nat) → Prop → Prop
  | [], A => A
  | (_, t) :: r, A => nO (cx.T t) (nOall cx r A)
def hopV (cx : Cx) (op : Op) (vs : List HVal) (get : Nat → Option HObj) (nid : Nat) (k : KT) : Prop :=
  match op with
  | .move _ | .assign _ => match vs with
    | [v] => k v [] nid
    | _ => False
  | .pick _ _ _ => match vs with
    | [.bool t, a, b] => BC t (k a [] nid) (k b [] nid)
    | _ => False
  | .alloc e => nO (cx.T e) (flatK (cx.T e).zero fun cs => k (.bp nid 0) [(nid, some (.box cs))] (nid + 1))
  | .box _ _ => match vs with
    | [v] => flatK v fun cs => k (.bp nid 0) [(nid, some (.box cs))] (nid + 1)
    | _ => False
  | .build t parts => match (cx.T t).tk with
    | .struct fs => nOall cx fs (flatK (cx.T t).zero fun z => buildK cx (fun i => match fs[i]? with
        | some (off, ft) => some (off, (cx.T ft).size)
        | none => none) (parts.toList.map (·.1)) vs z fun cs => k (.agg cs) [] nid)
    | .arr _ e => nO (cx.T e) (flatK (cx.T t).zero fun z => buildK cx (fun i => some (i * (cx.T e).size, (cx.T e).size)) (parts.toList.map (·.1)) vs z fun cs => k (.agg cs) [] nid)
    | _ => False
  | .buildSlice t len parts => elemOK cx t fun _ ti => flatK ti.zero fun z =>
      bif Nat.ble (len * ti.size) 16777216 && Nat.beq z.length ti.size then
        fillK ti.size (parts.toList.map (·.1)) vs (List.replicate len z) fun els => k (.sl nid ti.size 0 len (.eq len)) [(nid, some (.arr ti.size els))] (nid + 1)
      else False
  | .load t _ => nO (cx.T t) (match vs with
      | [.bp id off] => (match get id with
        | some (.box cells) => partK (cx.T t) cells off fun v => k v [] nid
        | _ => False)
      | [.ptr id es i off] => (match get id with
        | some (.arr es' elems) => es = es' ∧ ∃ cs, elems[i]? = some cs ∧ partK (cx.T t) cs off fun v => k v [] nid
        | _ => False)
      | [.pp _ cells off] => partK (cx.T t) cells off fun v => k v [] nid
      | _ => False)
  | .store t _ _ => nO (cx.T t) (match vs with
      | [.bp id off, v] => (match get id with
        | some (.box cells) => flatK v fun cs => bif Nat.beq cs.length (cx.T t).size then overK cells off cs fun cells' => k hundef [(id, some (.box cells'))] nid else False
        | _ => False)
      | [.ptr id es i off, v] => (match get id with
        | some (.arr es' elems) => es = es' ∧ ∃ c, elems[i]? = some c ∧ flatK v fun cs => bif Nat.beq cs.length (cx.T t).size then
            overK c off cs fun c' => k hundef [(id, some (.arr es' (elems.set i c')))] nid else False
        | _ => False)
      | _ => False)
  | .nilCheck _ => match vs with
    | [.bp id off] => k (.bp id off) [] nid
    | [.ptr id es i off] => k (.ptr id es i off) [] nid
    | [.pp lf cells off] => k (.pp lf cells off) [] nid
    | [.func (.func f) a c] => k (.func (.func f) a c) [] nid
    | [.yield id] => k (.yield id) [] nid
    | _ => False
  | .binOp op t _ y _ => match vs with
    | [a, b] => hbinB op (cx.T t).tk (cx.E t) (isNilSlice y) (isNilIface y) a b fun v => k v [] nid
    | _ => False
  | .unOp op _ _ => match op, vs with
    | .not, [.bool t] => k (.bool (!t)) [] nid
    | .xor, [.int q n] => hintB .xor q (if q.signed then -1 else q.max) n fun v => k v [] nid
    | .neg, [.int .i64 n] => (-9223372036854775807 ≤ n ∧ n ≤ 9223372036854775807) ∧ k (.int .i64 (-n)) [] nid
    | _, _ => False
  | .convert s d _ => match (cx.T s).tk, (cx.T d).tk, vs with
    | .int _, .int q, [.int _ n] => k (.int q (q.wrap n)) [] nid
    | .str, .str, [.str a] => k (.str a) [] nid
    | .slice e, .str, [x] => (match (cx.T e).tk with
      | .int .u8 => bif isSl x then srcK 1 get x fun els => ∃ b, bytesOf els = some b ∧ k (.str b) [] nid else False
      | _ => False)
    | _, _, _ => False
  | .makeFunc fn first captured => match fn with
    | .func f => takeK vs first.size fun a => dropK vs first.size fun r => takeK r captured.size fun c => k (.func (.func f) a c) [] nid
    | _ => False
  | .makeMap _ none => k (.map nid) [(nid, some (.map []))] (nid + 1)
  | .makeSlice t _ _ => match vs with
    | [.int .i64 l, .int .i64 c] => elemOK cx t fun _ ti => flatK ti.zero fun z => (0 ≤ l ∧ l ≤ c ∧ ti.bytes * c ≤ 140737488355328 ∧ c ≤ 140737488355328 ∧ z.length = ti.size) ∧
        k (.sl nid ti.size 0 l.toNat (.eq c.toNat)) [(nid, some (.arr ti.size (List.replicate c.toNat z)))] (nid + 1)
    | _ => False
  | .slice t _ lo hi mx => bif mx.isSome then False else match vs with
    | .str s :: r => (match (cx.T t).tk with
      | .str => optInt lo.isSome r 0 fun l r' => optInt hi.isSome r' s.length fun h _ => (0 ≤ l ∧ l ≤ h ∧ h ≤ s.length) ∧ k (.str ((s.take h.toNat).drop l.toNat)) [] nid
      | _ => False)
    | .ps lf es full elems :: r => elemOK cx t fun _ ti => optInt lo.isSome r 0 fun l r' => optInt hi.isSome r' elems.length fun h _ =>
        (0 ≤ l ∧ l ≤ h ∧ h ≤ elems.length ∧ sameOr es ti.size elems) ∧ k (.ps lf es (full && (!hi.isSome || Nat.beq h.toNat elems.length)) ((elems.take h.toNat).drop l.toNat)) [] nid
    | .sl id es i len cp :: r => elemOK cx t fun _ ti => optInt lo.isSome r 0 fun l r' => optInt hi.isSome r' len fun h _ =>
        (0 ≤ l ∧ l ≤ h ∧ h ≤ cp.low ∧ es = ti.size) ∧ k (.sl id es (i + l.toNat) (h - l).toNat (cp.less l.toNat)) [] nid
    | _ => False
  | .fieldAddr t _ f => match (cx.T t).tk with
    | .struct fs => (match fs[f]? with
      | some (off, ft) => nO (cx.T ft) (bif Nat.beq (cx.T ft).size 0 then False else match vs with
          | [.bp id o] => k (.bp id (o + off)) [] nid
          | [.ptr id es i o] => k (.ptr id es i (o + off)) [] nid
          | [.pp lf cells o] => k (.pp lf cells (o + off)) [] nid
          | _ => False)
      | none => False)
    | _ => False
  | .field t _ f => match (cx.T t).tk with
    | .struct fs => (match fs[f]? with
      | some (off, ft) => nO (cx.T ft) (match vs with
          | [.agg cells] => partK (cx.T ft) cells off fun v => k v [] nid
          | _ => False)
      | none => False)
    | _ => False
  | .indexAddr t _ _ => match (cx.T t).tk with
    | .slice _ => elemOK cx t fun _ ti => (match vs with
      | [.ps lf es _ elems, .int _ i] => (0 ≤ i ∧ es = ti.size) ∧ ∃ cs, elems[i.toNat]? = some cs ∧ k (.pp lf cs 0) [] nid
      | [.sl id es j len _, .int _ i] => (0 ≤ i ∧ i.toNat < len ∧ es = ti.size) ∧ k (.ptr id es (j + i.toNat) 0) [] nid
      | _ => False)
    | .arr n e => nO (cx.T e) (match vs with
        | [.bp id o, .int _ i] => (0 ≤ i ∧ i.toNat < n) ∧ k (.bp id (o + i.toNat * (cx.T e).size)) [] nid
        | [.pp lf cells o, .int _ i] => (0 ≤ i ∧ i.toNat < n) ∧ k (.pp lf cells (o + i.toNat * (cx.T e).size)) [] nid
        | _ => False)
    | _ => False
  | .index t _ _ => match (cx.T t).tk with
    | .str => (match vs with
      | [.str s, .int _ i] => 0 ≤ i ∧ ∃ b, s[i.toNat]? = some b ∧ k (.int .u8 b.toNat) [] nid
      | _ => False)
    | .arr n e => nO (cx.T e) (match vs with
      | [.agg cells, .int _ i] => (0 ≤ i ∧ i.toNat < n) ∧ partK (cx.T e) cells (i.toNat * (cx.T e).size) fun v => k v [] nid
      | _ => False)
    | _ => False
  | .lookup t _ _ ok => match (cx.T t).tk with
    | .map kt vt => nO (cx.T vt) (scalarK (cx.T kt).tk (match vs with
        | [.pm _ ks us, key] => (∃ v, hfind (cx.T kt).tk key (ks.zip us) = some (some v) ∧ k (bif ok then .tup [v, .bool true] else v) [] nid) ∨
              (hfind (cx.T kt).tk key (ks.zip us) = some none ∧ k (bif ok then .tup [(cx.T vt).zero, .bool false] else (cx.T vt).zero) [] nid)
        | [.map id, key] => (match get id with
          | some (.map es) => (∃ v, hfind (cx.T kt).tk key es = some (some v) ∧ k (bif ok then .tup [v, .bool true] else v) [] nid) ∨
              (hfind (cx.T kt).tk key es = some none ∧ k (bif ok then .tup [(cx.T vt).zero, .bool false] else (cx.T vt).zero) [] nid)
          | _ => False)
        | _ => False))
    | _ => False
  | .mapUpdate t _ _ _ | .insert t _ _ _ => match (cx.T t).tk with
    | .map kt _ => scalarK (cx.T kt).tk (match vs with
        | [.map id, key, v] => (match get id with
          | some (.map es) => ∃ es', hput (cx.T kt).tk key v es = some es' ∧ k hundef [(id, some (.map es'))] nid
          | _ => False)
        | _ => False)
    | _ => False
  | .range t _ => match (cx.T t).tk, vs with
    | .str, [.str s] => k (.bp nid 0) [(nid, some (.siter s 0))] (nid + 1)
    | .map _ _, [.map id] => (match get id with
      | some (.map es) => k (.bp nid 0) [(id, none), (nid, some (.miter es []))] (nid + 1)
      | _ => False)
    | _, _ => False
  | .next _ isS => match isS, vs with
    | true, [.bp id 0] => (match get id with
      | some (.siter s pos) => BC (Nat.blt pos s.length) (k (.tup [.bool true, .int .i64 pos, .int .i32 (Utf8.decode ⟨s.toArray⟩ pos).1]) [(id, some (.siter s (pos + (Utf8.decode ⟨s.toArray⟩ pos).2)))] nid)
          (k (.tup [.bool false]) [] nid)
      | _ => False)
    | false, [.bp id 0] => (match get id with
      | some (.miter left _) => bif left.isEmpty then k (.tup [.bool false]) [] nid else ∀ i p, left[i]? = some p → k (.tup [.bool true, p.1, p.2]) [(id, some (.miter (left.eraseIdx i) [p]))] nid
      | _ => False)
    | _, _ => False
  | .entry _ => match vs with
    | [.bp id 0] => (match get id with
      | some (.miter _ [p]) => k (.tup [p.1, p.2]) [] nid
      | _ => False)
    | _ => False
  | .makeInterface t _ => match vs with
    | [v] => (match (cx.T t).tk with
      | .other | .iface => False
      | _ => k (.iface t v) [] nid)
    | _ => False
  | .extract _ i => match vs with
    | [.tup ws] => cellK ws i fun v => k v [] nid
    | _ => False
  | .call c => match c.callee with
    | .builtin b => hbuiltin cx b c.argTypes.toList vs get nid k
    | _ => False
  | _ => False
end Go.Hv

namespace Go.Hv
open Go

/-! ### The lists' own laws -/
theorem cellK_spec : ∀ {l : List HVal} {i : Nat} {k : HVal → Prop}, cellK l i k → ∃ c, l[i]? = some c ∧ k c
  | [], _, _, h => by simp [cellK] at h
  | c :: _, 0, _, h => ⟨c, rfl, h⟩
  | _ :: r, i + 1, _, h => by
    obtain ⟨c, h1, h2⟩ := cellK_spec (l := r) (i := i) h
    exact ⟨c, by simpa using h1, h2⟩
theorem takeK_spec : ∀ {l : List HVal} {n : Nat} {k : List HVal → Prop}, takeK l n k → n ≤ l.length ∧ k (l.take n)
  | l, 0, k, h => ⟨Nat.zero_le _, by simpa [takeK] using h⟩
  | [], _ + 1, _, h => by simp [takeK] at h
  | c :: r, n + 1, _, h => by
    obtain ⟨h1, h2⟩ := takeK_spec (l := r) (n := n) h
    exact ⟨by simpa using h1, by simpa using h2⟩
theorem dropK_spec : ∀ {l : List HVal} {n : Nat} {k : List HVal → Prop}, dropK l n k → n ≤ l.length ∧ k (l.drop n)
  | l, 0, k, h => ⟨Nat.zero_le _, by simpa [dropK] using h⟩
  | [], _ + 1, _, h => by simp [dropK] at h
  | c :: r, n + 1, _, h => by
    obtain ⟨h1, h2⟩ := dropK_spec (l := r) (n := n) h
    exact ⟨by simpa using h1, by simpa using h2⟩
theorem overK_spec : ∀ {l : List HVal} {o : Nat} {ns : List HVal} {k : List HVal → Prop}, overK l o ns k → o + ns.length ≤ l.length ∧ k (l.take o ++ ns ++ l.drop (o + ns.length))
  | l, 0, [], k, h => ⟨by simp, by cases l <;> simpa [overK] using h⟩
  | [], 0, _ :: _, _, h => by simp [overK] at h
  | _ :: r, 0, n :: ns, _, h => by
    obtain ⟨h1, h2⟩ := overK_spec (l := r) (o := 0) (ns := ns) h
    refine ⟨by simpa using h1, ?_⟩
    simpa [Nat.add_comm] using h2
  | [], _ + 1, ns, _, h => by cases ns <;> simp [overK] at h
  | c :: r, o + 1, ns, k, h => by
    have h' : overK r o ns fun l => k (c :: l) := by cases ns <;> simpa [overK] using h
    obtain ⟨h1, h2⟩ := overK_spec h'
    refine ⟨by simp only [List.length_cons]; omega, ?_⟩
    rw [show o + 1 + ns.length = (o + ns.length) + 1 by omega]
    simpa using h2

/-! ### The relation on lists -/
theorem VRs_length {Γ : Gam} {w : World} : ∀ {hs : List HVal} {vs : List Value}, VRs Γ w hs vs → hs.length = vs.length
  | [], _, h => by simp only [VRs] at h; simp [h]
  | c :: cs, _, h => by
    simp only [VRs] at h
    obtain ⟨v, r, rfl, _, h3⟩ := h
    simp [VRs_length h3]
theorem VRs_get {Γ : Gam} {w : World} : ∀ {hs : List HVal} {vs : List Value} {i : Nat} {c : HVal}, VRs Γ w hs vs → hs[i]? = some c → ∃ v, vs[i]? = some v ∧ VR Γ w c v
  | [], _, _, _, _, hc => by simp at hc
  | c :: cs, _, 0, c', h, hc => by
    simp only [VRs] at h
    obtain ⟨v, r, rfl, h2, _⟩ := h
    obtain rfl : c = c' := by simpa using hc
    exact ⟨v, rfl, h2⟩
  | c :: cs, _, i + 1, c', h, hc => by
    simp only [VRs] at h
    obtain ⟨v, r, rfl, _, h3⟩ := h
    obtain ⟨u, h4, h5⟩ := VRs_get (i := i) h3 (by simpa using hc)
    exact ⟨u, by simpa using h4, h5⟩
theorem VRs_cons {Γ : Gam} {w : World} {c : HVal} {v : Value} {cs : List HVal} {vs : List Value} (h : VR Γ w c v) (hs : VRs Γ w cs vs) : VRs Γ w (c :: cs) (v :: vs) := by
  simp only [VRs]; exact ⟨v, vs, rfl, h, hs⟩
theorem VRs_nil {Γ : Gam} {w : World} : VRs Γ w [] [] := by simp [VRs]
theorem VRs_take {Γ : Gam} {w : World} : ∀ {hs : List HVal} {vs : List Value} (n : Nat), VRs Γ w hs vs → VRs Γ w (hs.take n) (vs.take n)
  | [], _, n, h => by simp only [VRs] at h; subst h; simp [VRs]
  | c :: cs, _, 0, h => by simp [VRs]
  | c :: cs, _, n + 1, h => by
    simp only [VRs] at h
    obtain ⟨v, r, rfl, h2, h3⟩ := h
    exact VRs_cons h2 (VRs_take n h3)
theorem VRs_drop {Γ : Gam} {w : World} : ∀ {hs : List HVal} {vs : List Value} (n : Nat), VRs Γ w hs vs → VRs Γ w (hs.drop n) (vs.drop n)
  | [], _, n, h => by simp only [VRs] at h; subst h; simp [VRs]
  | c :: cs, _, 0, h => by simpa using h
  | c :: cs, _, n + 1, h => by
    simp only [VRs] at h
    obtain ⟨v, r, rfl, h2, h3⟩ := h
    exact VRs_drop n h3
theorem VRs_append {Γ : Gam} {w : World} : ∀ {hs gs : List HVal} {vs us : List Value}, VRs Γ w hs vs → VRs Γ w gs us → VRs Γ w (hs ++ gs) (vs ++ us)
  | [], _, _, _, h, g => by simp only [VRs] at h; subst h; simpa using g
  | c :: cs, _, _, _, h, g => by
    simp only [VRs] at h
    obtain ⟨v, r, rfl, h2, h3⟩ := h
    exact VRs_cons h2 (VRs_append h3 g)

theorem CsAt_intro {Γ : Gam} {w : World} {b : Nat} : ∀ {cs : List HVal} {vs : List Value} {o : Nat}, VRs Γ w cs vs → (∀ x ∈ vs, x.oneCell' = true) →
    (∀ i v, vs[i]? = some v → w.cell? ⟨b, o + i, none⟩ = some v) → CsAt Γ w b o cs
  | [], _, _, _, _, _ => by simp [CsAt]
  | c :: cs, _, o, h, h1, hc => by
    simp only [VRs] at h
    obtain ⟨v, r, rfl, h2, h3⟩ := h
    simp only [CsAt]
    refine ⟨⟨v, by simpa using hc 0 v rfl, h1 v (by simp), h2⟩, CsAt_intro h3 (fun x hx => h1 x (by simp [hx])) fun i u hu => ?_⟩
    have := hc (i + 1) u (by simpa using hu)
    rwa [show o + 1 + i = o + (i + 1) by omega]
theorem CsAt_elim {Γ : Gam} {w : World} {b : Nat} : ∀ {cs : List HVal} {o : Nat}, CsAt Γ w b o cs →
    ∃ vs, VRs Γ w cs vs ∧ (∀ x ∈ vs, x.oneCell' = true) ∧ ∀ i v, vs[i]? = some v → w.cell? ⟨b, o + i, none⟩ = some v
  | [], _, _ => ⟨[], VRs_nil, by simp, by simp⟩
  | c :: cs, o, h => by
    simp only [CsAt] at h
    obtain ⟨⟨v, h1, h0, h2⟩, h3⟩ := h
    obtain ⟨vs, g1, g2, g3⟩ := CsAt_elim h3
    refine ⟨v :: vs, VRs_cons h2 g1, by simpa [h0] using g2, fun i u hu => ?_⟩
    cases i with
    | zero => obtain rfl : v = u := by simpa using hu
              simpa using h1
    | succ i =>
      have := g3 i u (by simpa using hu)
      rwa [show o + 1 + i = o + (i + 1) by omega] at this
theorem CsAt_drop {Γ : Gam} {w : World} {b : Nat} : ∀ {cs : List HVal} {o : Nat} (n : Nat), CsAt Γ w b o cs → CsAt Γ w b (o + n) (cs.drop n)
  | [], _, n, _ => by simp [CsAt]
  | c :: cs, o, 0, h => by simpa using h
  | c :: cs, o, n + 1, h => by
    simp only [CsAt] at h
    have := CsAt_drop n h.2
    simpa [show o + 1 + n = o + (n + 1) by omega] using this
theorem CsAt_take {Γ : Gam} {w : World} {b : Nat} : ∀ {cs : List HVal} {o : Nat} (n : Nat), CsAt Γ w b o cs → CsAt Γ w b o (cs.take n)
  | [], _, n, _ => by simp [CsAt]
  | c :: cs, o, 0, h => by simp [CsAt]
  | c :: cs, o, n + 1, h => by
    simp only [CsAt] at h
    simp only [List.take_succ_cons, CsAt]
    exact ⟨h.1, CsAt_take n h.2⟩
theorem CsAt_append {Γ : Gam} {w : World} {b : Nat} : ∀ {cs ds : List HVal} {o : Nat}, CsAt Γ w b o cs → CsAt Γ w b (o + cs.length) ds → CsAt Γ w b o (cs ++ ds)
  | [], _, _, _, h => by simpa using h
  | c :: cs, ds, o, h, g => by
    simp only [CsAt] at h
    simp only [List.cons_append, CsAt]
    refine ⟨h.1, CsAt_append h.2 ?_⟩
    rw [show o + 1 + cs.length = o + (c :: cs).length by simp only [List.length_cons]; omega]
    exact g
theorem EsAt_get {Γ : Gam} {w : World} {b : Nat} : ∀ {es : List (List HVal)} {o n i : Nat} {e : List HVal}, EsAt Γ w b o n es → es[i]? = some e → e.length = n ∧ CsAt Γ w b (o + i * n) e
  | [], _, _, _, _, _, he => by simp at he
  | x :: es, o, n, 0, e, h, he => by
    simp only [EsAt] at h
    obtain rfl : x = e := by simpa using he
    exact ⟨h.1, by simpa using h.2.1⟩
  | x :: es, o, n, i + 1, e, h, he => by
    simp only [EsAt] at h
    have := EsAt_get (i := i) h.2.2 (by simpa using he)
    rwa [show o + n + i * n = o + (i + 1) * n by rw [Nat.add_mul]; omega] at this
theorem EsAt_flat {Γ : Gam} {w : World} {b : Nat} : ∀ {es : List (List HVal)} {o n : Nat}, EsAt Γ w b o n es → CsAt Γ w b o es.flatten
  | [], _, _, _ => by simp [CsAt]
  | x :: es, o, n, h => by
    simp only [EsAt] at h
    simp only [List.flatten_cons]
    refine CsAt_append h.2.1 ?_
    rw [h.1]
    exact EsAt_flat h.2.2
theorem EsAt_len {Γ : Gam} {w : World} {b : Nat} : ∀ {es : List (List HVal)} {o n : Nat}, EsAt Γ w b o n es → es.flatten.length = es.length * n ∧ ∀ e ∈ es, e.length = n
  | [], _, _, _ => by simp
  | x :: es, o, n, h => by
    simp only [EsAt] at h
    obtain ⟨h1, h2⟩ := EsAt_len h.2.2
    simp only [List.flatten_cons, List.length_append, h1, h.1, List.length_cons, List.mem_cons]
    exact ⟨by rw [Nat.add_mul]; omega, fun e he => he.elim (fun x => x ▸ h.1) (h2 e)⟩
theorem EsAt_of_flat {Γ : Gam} {w : World} {b : Nat} : ∀ {es : List (List HVal)} {o n : Nat}, (∀ e ∈ es, e.length = n) → CsAt Γ w b o es.flatten → EsAt Γ w b o n es
  | [], _, _, _, _ => by simp [EsAt]
  | x :: es, o, n, hl, h => by
    simp only [EsAt]
    simp only [List.flatten_cons] at h
    have hx : x.length = n := hl x (by simp)
    refine ⟨hx, ?_, EsAt_of_flat (fun e he => hl e (by simp [he])) ?_⟩
    · have := CsAt_take x.length h; simpa using this
    · have := CsAt_drop x.length h; simpa [hx] using this
theorem EsAt_drop {Γ : Gam} {w : World} {b : Nat} : ∀ {es : List (List HVal)} {o n : Nat} (k : Nat), EsAt Γ w b o n es → EsAt Γ w b (o + k * n) n (es.drop k)
  | [], _, _, k, _ => by simp [EsAt]
  | x :: es, o, n, 0, h => by simpa using h
  | x :: es, o, n, k + 1, h => by
    simp only [EsAt] at h
    have := EsAt_drop k h.2.2
    rw [show o + n + k * n = o + (k + 1) * n by rw [Nat.add_mul]; omega] at this
    simpa using this
theorem EsAt_take {Γ : Gam} {w : World} {b : Nat} : ∀ {es : List (List HVal)} {o n : Nat} (k : Nat), EsAt Γ w b o n es → EsAt Γ w b o n (es.take k)
  | [], _, _, k, _ => by simp [EsAt]
  | x :: es, o, n, 0, h => by simp [EsAt]
  | x :: es, o, n, k + 1, h => by
    simp only [EsAt] at h
    simp only [List.take_succ_cons, EsAt]
    exact ⟨h.1, h.2.1, EsAt_take k h.2.2⟩

theorem oneCell_of_VR {Γ : Gam} {w : World} {h : HVal} {v : Value} (hv : VR Γ w h v) (ha : ∀ cs, h ≠ .agg cs) (ht : ∀ cs, h ≠ .tup cs) (hy : h ≠ .any) : v.oneCell' = true := by
  cases h with
  | agg cs => exact absurd rfl (ha cs)
  | tup cs => exact absurd rfl (ht cs)
  | any => exact absurd rfl hy
  | iface => simp only [VR] at hv; obtain ⟨u, rfl, _⟩ := hv; rfl
  | pm => simp only [VR] at hv; obtain ⟨b, ents, c, rfl, _⟩ := hv; rfl
  | bool | int | str | nilp | nilm | nilf | nili => simp only [VR] at hv; subst hv; rfl
  | ps lf es f elems =>
    simp only [VR] at hv
    rcases hv with ⟨_, rfl⟩ | ⟨b, o, cap, rfl, _⟩ <;> rfl
  | func => simp only [VR] at hv; obtain ⟨_, vs, us, rfl, _⟩ := hv; rfl
  | sl => simp only [VR] at hv; obtain ⟨b, δ, o, cap, arr, T, fz, _, rfl, _⟩ := hv; rfl
  | bp | ptr | map | yield => simp only [VR] at hv; obtain ⟨b, δ, _, rfl⟩ := hv; rfl
  | pp => simp only [VR] at hv; obtain ⟨b, o, rfl, _⟩ := hv; rfl

/-- The cells of a value. -/
theorem flatK_spec {v : HVal} {k : List HVal → Prop} (h : flatK v k) : ∃ cs, k cs ∧ ∀ Γ w x, VR Γ w v x → ∃ vs, x.cells = vs.toArray ∧ VRs Γ w cs vs ∧ ∀ y ∈ vs, y.oneCell' = true := by
  have one : ∀ (u : HVal), (∀ cs, u ≠ .agg cs) → (∀ cs, u ≠ .tup cs) → u ≠ .any → ∀ Γ w x, VR Γ w u x → ∃ vs : List Value, x.cells = vs.toArray ∧ VRs Γ w [u] vs ∧ ∀ y ∈ vs, y.oneCell' = true := by
    intro u ha ht hy Γ w x hx
    have h1 := oneCell_of_VR hx ha ht hy
    refine ⟨[x], ?_, VRs_cons hx VRs_nil, by simpa using h1⟩
    cases x <;> first | rfl | simp [Value.oneCell'] at h1
  cases v with
  | agg cs =>
    refine ⟨cs, h, fun Γ w x hx => ?_⟩
    simp only [VR] at hx
    obtain ⟨vs, rfl, h1, h2⟩ := hx
    exact ⟨vs, rfl, h2, h1⟩
  | tup cs => simp [flatK] at h
  | any => simp [flatK] at h
  | _ => exact ⟨_, h, one _ (by simp) (by simp) (by simp)⟩
end Go.Hv

namespace Go.Hv
open Go

def hedit : List (Nat × HObj) → Eds → List (Nat × HObj)
  | hh, [] => hh
  | hh, (i, some o) :: r => hedit (hset hh i o) r
  | hh, (i, none) :: r => hedit (hdel hh i) r

/-- the numbers that are taken -/
def upto (used : Nat → Prop) (nid nid' : Nat) : Nat → Prop := fun id => used id ∨ (nid ≤ id ∧ id < nid')

def Gam.add (Γ : Gam) (nid b δ : Nat) : Gam := { ρ := fun i => if i = nid then some (b, δ) else Γ.ρ i, fr := Γ.fr }
theorem Gam.add_same (Γ : Gam) (nid b δ : Nat) : (Γ.add nid b δ).ρ nid = some (b, δ) := by simp [Gam.add]
theorem Gam.add_other (Γ : Gam) {nid i : Nat} (b δ : Nat) (h : i ≠ nid) : (Γ.add nid b δ).ρ i = Γ.ρ i := by simp [Gam.add, h]

/-- Two worlds whose streams are one. -/
structure Like (w w' : World) : Prop where
  os : w'.os = w.os
  tape : w'.tape = w.tape
  output : w'.output = w.output

def OpRes (cx : Cx) (sem : Sem Next) (hh : List (Nat × HObj)) (Γ : Gam) (used : Nat → Prop) (w : World) (nid : Nat) (k : KT) : Prop :=
  ∃ hv ed nid' nx w' Γ' v, k hv ed nid' ∧ (nid' = nid ∨ nid' = nid + 1) ∧ sem.run cx.P w = .ok nx w' ∧ (nx = .value v ∨ (nx = .skip ∧ v = undef)) ∧ VR Γ' w' hv v ∧
    HR cx.toCx0 Γ' (hedit hh ed) (upto used nid nid') w' ∧ Evo hh Γ w (hedit hh ed) Γ' w'

section
variable {cx : Cx} {Γ : Gam} {hh : List (Nat × HObj)} {used : Nat → Prop} {w : World} {nid : Nat}

theorem HR.mono {c0 : Cx0} {u u' : Nat → Prop} (h : HR c0 Γ hh u w) (hu : ∀ i, u i → u' i) : HR c0 Γ hh u' w := { h with used := fun i x e => hu i (h.used i x e) }

theorem OpRes.pure {sem : Sem Next} {k : KT} {hv : HVal} {v : Value} (hR : HR cx.toCx0 Γ hh used w) (hk : k hv [] nid) (hrun : sem.run cx.P w = .ok (.value v) w) (hv' : VR Γ w hv v) :
    OpRes cx sem hh Γ used w nid k :=
  ⟨hv, [], nid, _, w, Γ, v, hk, .inl rfl, hrun, .inl rfl, hv', hR.mono (fun _ h => .inl h), Evo.refl _ _ _⟩

theorem HR.block_lt {c0 : Cx0} {id : Nat} {o : HObj} {b δ : Nat} (hR : HR c0 Γ hh used w) (h : hget hh id = some o) (hr : Γ.ρ id = some (b, δ)) : b < w.heap.size := by
  obtain ⟨b', δ', h1, _, h2⟩ := hR.obj id o h
  rw [hr] at h1
  obtain ⟨rfl, rfl⟩ : b = b' ∧ δ = δ' := by simpa using h1
  cases o with
  | box => obtain ⟨_, _, _, h, _⟩ := h2; exact (Array.getElem?_eq_some_iff.1 h).1
  | arr => obtain ⟨_, _, _, h, _⟩ := h2; exact (Array.getElem?_eq_some_iff.1 h).1
  | map => obtain ⟨_, _, h, _⟩ := h2; exact (Array.getElem?_eq_some_iff.1 h).1
  | miter => obtain ⟨_, _, _, _, _, _, h, _⟩ := h2; exact (Array.getElem?_eq_some_iff.1 h).1
  | siter => exact (Array.getElem?_eq_some_iff.1 h2.2).1
  | loop => obtain ⟨_, h, _⟩ := h2; exact (Array.getElem?_eq_some_iff.1 h).1

/-- A NEW BLOCK. -/
theorem ext_push {w' : World} {o : Obj} (hn : ¬ used nid) (hu : ∀ id x, Γ.ρ id = some x → used id) (hfr : ∀ l b, Γ.fr l b → b < w.heap.size) (hw : w'.heap = w.heap.push o) (b0 d0 : Nat) :
    Ext Γ w (Γ.add nid b0 d0) w' where
  ρ := fun id x h => by
    have e : id ≠ nid := fun e => hn (e ▸ hu id x h)
    rw [Gam.add_other _ _ _ e]; exact h
  fr := fun _ _ h => h
  same := fun l b h => by
    rw [hw, Array.getElem?_push, if_neg (by have := hfr l b h; omega)]
  size := fun b arr T fz h => by
    have hb : b < w.heap.size := (Array.getElem?_eq_some_iff.1 h).1
    exact ⟨arr, fz, by rw [hw, Array.getElem?_push, if_neg (by omega)]; exact h, rfl⟩

theorem push_lt {w' : World} {o : Obj} (hw : w'.heap = w.heap.push o) {b : Nat} (hb : b < w.heap.size) : w'.heap[b]? = w.heap[b]? := by
  rw [hw, Array.getElem?_push, if_neg (by omega)]

theorem new_block {w' : World} {o : Obj} {ho : HObj} (hR : HR cx.toCx0 Γ hh used w) (hn : ¬ used nid) (hw : w'.heap = w.heap.push o) (hl : Like w w')
    (hobj : OR (Γ.add nid w.heap.size 0) w' w.heap.size 0 ho) :
    HR cx.toCx0 (Γ.add nid w.heap.size 0) (hset hh nid ho) (upto used nid (nid + 1)) w' ∧ Evo hh Γ w (hset hh nid ho) (Γ.add nid w.heap.size 0) w' := by
  have E := ext_push (b0 := w.heap.size) (d0 := 0) hn hR.used hR.frlt hw
  have hsz : w'.heap.size = w.heap.size + 1 := by rw [hw, Array.size_push]
  have hlive : ∀ id o', hget hh id = some o' → id ≠ nid := fun id o' h e => by
    obtain ⟨b, δ, h1, _⟩ := hR.obj id o' h
    exact hn (e ▸ hR.used id _ h1)
  refine ⟨⟨?_, ?_, ?_, ?_, ?_⟩, { E with hsz := by omega, keep := ?_, newfr := ?_, newown := ?_, os := hl.os, tape := hl.tape, output := hl.output }⟩
  · intro l b h; have := hR.frlt l b h; omega
  · intro id o' h
    by_cases hid : id = nid
    · subst hid
      rw [hget_hset_same] at h
      obtain rfl := Option.some.inj h
      exact ⟨_, _, Gam.add_same _ _ _ _, fun l hf => by have := hR.frlt l _ hf; omega, hobj⟩
    · rw [hget_hset_other _ _ hid] at h
      obtain ⟨b, δ, h1, h2, h3⟩ := hR.obj id o' h
      exact ⟨b, δ, E.ρ _ _ h1, h2, OR_ext E (push_lt hw (hR.block_lt h h1)) _ h3⟩
  · intro id id' o1 o2 b δ δ' h h' hr hr'
    by_cases hid : id = nid
    · by_cases hid' : id' = nid
      · rw [hid, hid']
      · subst hid
        rw [Gam.add_same] at hr
        rw [hget_hset_other _ _ hid'] at h'
        rw [Gam.add_other _ _ _ hid'] at hr'
        have := hR.block_lt h' hr'
        simp at hr; omega
    · rw [hget_hset_other _ _ hid] at h
      rw [Gam.add_other _ _ _ hid] at hr
      by_cases hid' : id' = nid
      · subst hid'
        rw [Gam.add_same] at hr'
        have := hR.block_lt h hr
        simp at hr'; omega
      · rw [hget_hset_other _ _ hid'] at h'
        rw [Gam.add_other _ _ _ hid'] at hr'
        exact hR.inj id id' o1 o2 b δ δ' h h' hr hr'
  · intro id x h
    by_cases hid : id = nid
    · exact .inr (by omega)
    · rw [Gam.add_other _ _ _ hid] at h; exact .inl (hR.used id x h)
  · intro g cs h
    obtain ⟨h1, h2⟩ := hR.glob g cs h
    exact ⟨h1, CsAt_ext E cs g 0 (E.same _ _ h1) h2⟩
  · intro b hb _; exact push_lt hw hb
  · intro l b h; exact .inl h
  · rintro b ⟨id, o', δ, h, hr⟩
    by_cases hid : id = nid
    · subst hid; rw [Gam.add_same] at hr; simp at hr; exact .inr (by omega)
    · rw [hget_hset_other _ _ hid] at h
      rw [Gam.add_other _ _ _ hid] at hr
      exact .inl ⟨id, o', δ, h, hr⟩

theorem OpRes.new {sem : Sem Next} {k : KT} {hv : HVal} {v : Value} {w' : World} {o : Obj} {ho : HObj} (hR : HR cx.toCx0 Γ hh used w) (hn : ¬ used nid) (hk : k hv [(nid, some ho)] (nid + 1))
    (hrun : sem.run cx.P w = .ok (.value v) w') (hw : w'.heap = w.heap.push o) (hl : Like w w') (hobj : OR (Γ.add nid w.heap.size 0) w' w.heap.size 0 ho)
    (hv' : VR (Γ.add nid w.heap.size 0) w' hv v) : OpRes cx sem hh Γ used w nid k := by
  obtain ⟨h1, h2⟩ := new_block hR hn hw hl hobj
  exact ⟨hv, _, nid + 1, _, w', _, v, hk, .inr rfl, hrun, .inl rfl, hv', h1, h2⟩

/-- AN OWNED BLOCK IS WRITTEN: the block's kind and size stay, all else lies as it lay. -/
theorem set_block {w' : World} {id : Nat} {old ho : HObj} {b δ : Nat} (hR : HR cx.toCx0 Γ hh used w) (hg : hget hh id = some old) (hρ : Γ.ρ id = some (b, δ))
    (hoth : ∀ b', b' ≠ b → w'.heap[b']? = w.heap[b']?) (hsz : w'.heap.size = w.heap.size) (hl : Like w w')
    (hcell : ∀ (arr : Array Value) (T : TypeId) (fz : Nat × Nat), w.heap[b]? = some (Obj.cells arr T fz) → ∃ (arr' : Array Value) (fz' : Nat × Nat), w'.heap[b]? = some (Obj.cells arr' T fz') ∧ arr'.size = arr.size)
    (hobj : Ext Γ w Γ w' → OR Γ w' b δ ho) :
    HR cx.toCx0 Γ (hset hh id ho) used w' ∧ Evo hh Γ w (hset hh id ho) Γ w' := by
  have hnf : ∀ l, ¬ Γ.fr l b := fun l => by
    obtain ⟨b', δ', h1, h2, _⟩ := hR.obj id old hg
    rw [hρ] at h1
    obtain ⟨rfl, rfl⟩ : b = b' ∧ δ = δ' := by simpa using h1
    exact h2 l
  have E : Ext Γ w Γ w' := ⟨fun _ _ h => h, fun _ _ h => h, fun l b' h => hoth b' (fun e => hnf l (e ▸ h)), fun b' arr T fz h => by
    by_cases e : b' = b
    · subst e; exact hcell arr T fz h
    · exact ⟨arr, fz, (hoth b' e).trans h, rfl⟩⟩
  have live : ∀ id' o', hget (hset hh id ho) id' = some o' → ∃ o'', hget hh id' = some o'' := fun id' o' h => by
    by_cases e : id' = id
    · exact ⟨old, e ▸ hg⟩
    · rw [hget_hset_other _ _ e] at h; exact ⟨o', h⟩
  refine ⟨⟨fun l x h => by have := hR.frlt l x h; omega, ?_, ?_, hR.used, ?_⟩, { E with hsz := by omega, keep := ?_, newfr := fun _ _ h => .inl h, newown := ?_, os := hl.os, tape := hl.tape, output := hl.output }⟩
  · intro id' o' h
    by_cases e : id' = id
    · subst e
      rw [hget_hset_same] at h
      obtain rfl := Option.some.inj h
      exact ⟨b, δ, hρ, hnf, hobj E⟩
    · rw [hget_hset_other _ _ e] at h
      obtain ⟨b', δ', h1, h2, h3⟩ := hR.obj id' o' h
      have hne : b' ≠ b := fun hb => e (hR.inj id' id o' old b δ' δ h hg (hb ▸ h1) hρ)
      exact ⟨b', δ', h1, h2, OR_ext E (hoth b' hne) _ h3⟩
  · intro id1 id2 o1 o2 b1 δ1 δ2 h1 h2 r1 r2
    obtain ⟨p1, q1⟩ := live _ _ h1
    obtain ⟨p2, q2⟩ := live _ _ h2
    exact hR.inj id1 id2 p1 p2 b1 δ1 δ2 q1 q2 r1 r2
  · intro g cs h
    obtain ⟨h1, h2⟩ := hR.glob g cs h
    exact ⟨h1, CsAt_ext E cs g 0 (E.same _ _ h1) h2⟩
  · intro b' _ hno; exact hoth b' (fun e => hno ⟨id, old, δ, hg, e ▸ hρ⟩)
  · rintro b' ⟨id', o', δ', h, hr⟩
    obtain ⟨o'', h''⟩ := live _ _ h
    exact .inl ⟨id', o'', δ', h'', hr⟩

/-- A block goes out of sight. -/
theorem del_block {id : Nat} (hR : HR cx.toCx0 Γ hh used w) : HR cx.toCx0 Γ (hdel hh id) used w ∧ Evo hh Γ w (hdel hh id) Γ w := by
  have live : ∀ id' o', hget (hdel hh id) id' = some o' → hget hh id' = some o' := fun id' o' h => by
    by_cases e : id' = id
    · subst e; rw [hget_hdel_same] at h; cases h
    · rwa [hget_hdel_other _ e] at h
  refine ⟨⟨hR.frlt, fun id' o' h => hR.obj id' o' (live _ _ h), fun i1 i2 o1 o2 b d d' h1 h2 => hR.inj i1 i2 o1 o2 b d d' (live _ _ h1) (live _ _ h2), hR.used, hR.glob⟩,
    { Ext.refl Γ w with hsz := Nat.le_refl _, keep := fun _ _ _ => rfl, newfr := fun _ _ h => .inl h, newown := ?_, os := rfl, tape := rfl, output := rfl }⟩
  rintro b ⟨id', o', δ, h, hr⟩
  exact .inl ⟨id', o', δ, live _ _ h, hr⟩

/-- An owned block is let go: it is never written again. -/
theorem freeze_block {id b δ : Nat} {old : HObj} (hR : HR cx.toCx0 Γ hh used w) (hg : hget hh id = some old) (hρ : Γ.ρ id = some (b, δ)) :
    HR cx.toCx0 ⟨Γ.ρ, fun l x => Γ.fr l x ∨ (l = 0 ∧ x = b)⟩ (hdel hh id) used w ∧ Evo hh Γ w (hdel hh id) ⟨Γ.ρ, fun l x => Γ.fr l x ∨ (l = 0 ∧ x = b)⟩ w := by
  have live : ∀ id' o', hget (hdel hh id) id' = some o' → id' ≠ id ∧ hget hh id' = some o' := fun id' o' h => by
    by_cases e : id' = id
    · subst e; rw [hget_hdel_same] at h; cases h
    · rw [hget_hdel_other _ e] at h; exact ⟨e, h⟩
  have hnf : ∀ l, ¬ Γ.fr l b := fun l => by
    obtain ⟨b', d, h1, h2, _⟩ := hR.obj id old hg
    rw [hρ] at h1
    obtain ⟨rfl, rfl⟩ : b = b' ∧ δ = d := by simpa using h1
    exact h2 l
  have E : Ext Γ w ⟨Γ.ρ, fun l x => Γ.fr l x ∨ (l = 0 ∧ x = b)⟩ w := ⟨fun _ _ h => h, fun _ _ h => .inl h, fun _ _ _ => rfl, fun _ _ _ _ h => ⟨_, _, h, rfl⟩⟩
  refine ⟨⟨?_, ?_, ?_, hR.used, ?_⟩, { E with hsz := Nat.le_refl _, keep := fun _ _ _ => rfl, newfr := ?_, newown := ?_, os := rfl, tape := rfl, output := rfl }⟩
  · rintro l x (h | ⟨_, rfl⟩)
    · exact hR.frlt l x h
    · exact hR.block_lt hg hρ
  · intro id' o' h
    obtain ⟨hne, h⟩ := live _ _ h
    obtain ⟨b', δ', h1, h2, h3⟩ := hR.obj id' o' h
    refine ⟨b', δ', h1, ?_, OR_ext E rfl _ h3⟩
    rintro l (h4 | ⟨_, rfl⟩)
    · exact h2 l h4
    · exact hne (hR.inj id' id o' old _ δ' δ h hg h1 hρ)
  · intro i1 i2 o1 o2 x d d' h1 h2
    exact hR.inj i1 i2 o1 o2 x d d' (live _ _ h1).2 (live _ _ h2).2
  · intro g cs h
    obtain ⟨h1, h2⟩ := hR.glob g cs h
    exact ⟨.inl h1, CsAt_ext E cs g 0 rfl h2⟩
  · rintro l x (h | ⟨_, rfl⟩)
    · exact .inl h
    · exact .inr (.inl ⟨id, old, δ, hg, hρ⟩)
  · rintro x ⟨id', o', d, h, hr⟩
    exact .inl ⟨id', o', d, (live _ _ h).2, hr⟩

theorem HR.congr {c0 : Cx0} {h1 h2 : List (Nat × HObj)} (he : ∀ i, hget h1 i = hget h2 i) (hR : HR c0 Γ h1 used w) : HR c0 Γ h2 used w :=
  ⟨hR.frlt, fun id o h => hR.obj id o ((he id).trans h), fun i j o o' b d d' h h' => hR.inj i j o o' b d d' ((he i).trans h) ((he j).trans h'), hR.used, hR.glob⟩
theorem Owned.congr {h1 h2 : List (Nat × HObj)} (he : ∀ i, hget h1 i = hget h2 i) {b : Nat} (h : Owned Γ h1 b) : Owned Γ h2 b := by
  obtain ⟨id, o, δ, h, r⟩ := h
  exact ⟨id, o, δ, (he id).symm.trans h, r⟩
theorem Evo.congr {h0 h1 h2 : List (Nat × HObj)} {Γ' : Gam} {w' : World} (he : ∀ i, hget h1 i = hget h2 i) (E : Evo h0 Γ w h1 Γ' w') : Evo h0 Γ w h2 Γ' w' :=
  { E with newown := fun b h => E.newown b (h.congr (fun i => (he i).symm)) }

/-- An owned block gets another number, and another beginning. -/
theorem rename_block {id : Nat} {old ho : HObj} {b δ δ' : Nat} (hR : HR cx.toCx0 Γ hh used w) (hn : ¬ used nid) (hg : hget hh id = some old) (hρ : Γ.ρ id = some (b, δ))
    (hobj : OR (Γ.add nid b δ') w b δ' ho) :
    HR cx.toCx0 (Γ.add nid b δ') (hdel (hset hh nid ho) id) (upto used nid (nid + 1)) w ∧ Evo hh Γ w (hdel (hset hh nid ho) id) (Γ.add nid b δ') w := by
  have hne : nid ≠ id := fun e => hn (e ▸ hR.used id _ hρ)
  have hnf : ∀ l, ¬ Γ.fr l b := fun l => by
    obtain ⟨b', d, h1, h2, _⟩ := hR.obj id old hg
    rw [hρ] at h1
    obtain ⟨rfl, rfl⟩ : b = b' ∧ δ = d := by simpa using h1
    exact h2 l
  have E : Ext Γ w (Γ.add nid b δ') w := ⟨fun i x h => by
      have e : i ≠ nid := fun e => hn (e ▸ hR.used i x h)
      rw [Gam.add_other _ _ _ e]; exact h, fun _ _ h => h, fun _ _ _ => rfl, fun _ _ _ _ h => ⟨_, _, h, rfl⟩⟩
  have look : ∀ i o, hget (hdel (hset hh nid ho) id) i = some o → (i = nid ∧ o = ho) ∨ (i ≠ nid ∧ i ≠ id ∧ hget hh i = some o) := fun i o h => by
    by_cases e : i = id
    · subst e; rw [hget_hdel_same] at h; cases h
    · rw [hget_hdel_other _ e] at h
      by_cases e' : i = nid
      · subst e'; rw [hget_hset_same] at h; exact .inl ⟨rfl, (Option.some.inj h).symm⟩
      · rw [hget_hset_other _ _ e'] at h; exact .inr ⟨e', e, h⟩
  refine ⟨⟨hR.frlt, ?_, ?_, ?_, ?_⟩, { E with hsz := Nat.le_refl _, keep := fun _ _ _ => rfl, newfr := fun _ _ h => .inl h, newown := ?_, os := rfl, tape := rfl, output := rfl }⟩
  · intro i o h
    rcases look i o h with ⟨rfl, rfl⟩ | ⟨e1, e2, h⟩
    · exact ⟨b, δ', Gam.add_same _ _ _ _, hnf, hobj⟩
    · obtain ⟨b', d, h1, h2, h3⟩ := hR.obj i o h
      exact ⟨b', d, E.ρ _ _ h1, h2, OR_ext E rfl _ h3⟩
  · intro i j o o' x d d' h h' hr hr'
    rcases look i o h with ⟨rfl, rfl⟩ | ⟨e1, e2, g⟩
    · rcases look j o' h' with ⟨rfl, rfl⟩ | ⟨f1, f2, g'⟩
      · rfl
      · rw [Gam.add_same] at hr
        rw [Gam.add_other _ _ _ f1] at hr'
        obtain ⟨rfl, rfl⟩ : b = x ∧ δ' = d := by simpa using hr
        exact absurd (hR.inj j id o' old b d' δ g' hg hr' hρ) f2
    · rw [Gam.add_other _ _ _ e1] at hr
      rcases look j o' h' with ⟨rfl, rfl⟩ | ⟨f1, f2, g'⟩
      · rw [Gam.add_same] at hr'
        obtain ⟨rfl, rfl⟩ : b = x ∧ δ' = d' := by simpa using hr'
        exact absurd (hR.inj i id o old b d δ g hg hr hρ) e2
      · rw [Gam.add_other _ _ _ f1] at hr'
        exact hR.inj i j o o' x d d' g g' hr hr'
  · intro i x h
    by_cases e : i = nid
    · exact .inr (by omega)
    · rw [Gam.add_other _ _ _ e] at h; exact .inl (hR.used i x h)
  · intro g cs h
    obtain ⟨h1, h2⟩ := hR.glob g cs h
    exact ⟨h1, CsAt_ext E cs g 0 rfl h2⟩
  · rintro x ⟨i, o, d, h, hr⟩
    rcases look i o h with ⟨rfl, rfl⟩ | ⟨e1, e2, h⟩
    · rw [Gam.add_same] at hr
      obtain ⟨rfl, rfl⟩ : b = x ∧ δ' = d := by simpa using hr
      exact .inl ⟨id, old, δ, hg, hρ⟩
    · rw [Gam.add_other _ _ _ e1] at hr
      exact .inl ⟨i, o, d, h, hr⟩
end
end Go.Hv

namespace Go.Hv
open Go

def EqOK (P : Program) (t : Nat) (ts : List TK) : Prop :=
  P.eqGuardType P.depth t = false ∧ ∀ (xs ys : List HVal) (us vs : List Value) (Γ : Gam) (w : World) (r : Bool), cellsEq ts xs ys = some r → VRs Γ w xs us → VRs Γ w ys vs →
    (Op.equal t (.agg us.toArray) (.agg vs.toArray)).run P w = .ok r w
structure CxOK (cx : Cx) : Prop where
  eqs : ∀ t ts, cx.E t = some ts → EqOK cx.P t ts
  types : ∀ t, TOK cx.P t (cx.T t)
  bodied : ∀ g, cx.B g = true → ∃ fn c, cx.P.funcs[g]? = some fn ∧ fn.body = some c ∧ (fn.name == "runtime.NumGoroutine") = false
  mixed : cx.P.follows .mixedOrders = true

section
variable {cx : Cx} {Γ : Gam} {hh : List (Nat × HObj)} {used : Nat → Prop} {w : World} {nid : Nat}

theorem nO_spec {ti : TI} {A : Prop} (h : nO ti A) : ti.tk ≠ .other ∧ A := by
  unfold nO at h
  cases e : ti.tk <;> rw [e] at h <;> first | exact h.elim | exact ⟨by simp, h⟩
theorem tok (ok : CxOK cx) {t : Nat} (h : (cx.T t).tk ≠ .other) : ∃ i d, cx.P.info? t = some i ∧ cx.P.underlying t = some d ∧ i.size = (cx.T t).size ∧ i.bytes = (cx.T t).bytes ∧
    TKOK d (cx.T t).tk ∧ ∃ z, i.zero = some z ∧ z.cells.size = (cx.T t).size ∧ ∀ Γ w, VR Γ w (cx.T t).zero z := (ok.types t).resolve_left h

theorem run_und {P : Program} {t : Nat} {d : TypeDesc} (h : P.underlying t = some d) (w : World) : (underlying t).run P w = .ok d w := run_underlying h w
theorem run_info {P : Program} {t : Nat} {i : TypeInfo} (h : P.info? t = some i) (w : World) : (typeInfo t).run P w = .ok i w := by simp [typeInfo, Go.program, Sem.run, h]
theorem run_size (ok : CxOK cx) {t : Nat} (h : (cx.T t).tk ≠ .other) (w : World) : (sizeOf t).run cx.P w = .ok (cx.T t).size w := by
  obtain ⟨i, d, h1, _, h3, _⟩ := tok ok h
  simp [sizeOf, run_info h1, h3]
theorem run_zero (ok : CxOK cx) {t : Nat} (h : (cx.T t).tk ≠ .other) : ∃ z, (∀ w, (zeroValue t).run cx.P w = .ok z w) ∧ ∀ Γ w, VR Γ w (cx.T t).zero z := by
  obtain ⟨i, d, h1, _, _, _, _, z, hz, _, hv⟩ := tok ok h
  exact ⟨z, fun w => by simp [zeroValue, run_info h1, hz], hv⟩
theorem run_agg (ok : CxOK cx) {t : Nat} (h : (cx.T t).tk ≠ .other) (w : World) : (isAgg t).run cx.P w = .ok (cx.T t).tk.agg w := by
  obtain ⟨i, d, _, h2, _, _, h5, _⟩ := tok ok h
  simp only [isAgg, Sem.run_bind, run_und h2, Result.andThen_ok]
  cases htk : (cx.T t).tk <;> rw [htk] at h5 <;> simp only [TKOK] at h5
  case other => exact absurd htk h
  case struct => obtain ⟨f, rfl, _⟩ := h5; rfl
  case func => obtain ⟨_, _, _, rfl⟩ := h5; rfl
  case iface => obtain ⟨_, rfl⟩ := h5; rfl
  all_goals (subst h5; rfl)

theorem add_none (b o n : Nat) : (⟨b, o, none⟩ : Addr).add n = ⟨b, o + n, none⟩ := by
  unfold Addr.add; split
  · rename_i h; subst h; rfl
  · rfl

theorem partK_spec {ti : TI} {cells : List HVal} {off : Nat} {k : HVal → Prop} (h : partK ti cells off k) :
    ∃ hv, k hv ∧ ((ti.tk.agg = true ∧ off + ti.size ≤ cells.length ∧ hv = .agg ((cells.drop off).take ti.size)) ∨ (ti.tk.agg = false ∧ cells[off]? = some hv)) := by
  unfold partK at h
  cases e : ti.tk.agg
  · rw [e] at h
    obtain ⟨c, h1, h2⟩ := cellK_spec h
    exact ⟨c, h2, .inr ⟨rfl, h1⟩⟩
  · rw [e] at h
    obtain ⟨h1, h2⟩ := dropK_spec h
    obtain ⟨h3, h4⟩ := takeK_spec h2
    rw [List.length_drop] at h3
    exact ⟨_, h4, .inl ⟨rfl, by omega, rfl⟩⟩

/-- A load, where cells lie. -/
theorem load_part (ok : CxOK cx) {t : Nat} (ht : (cx.T t).tk ≠ .other) {b o off : Nat} {cells : List HVal} (hc : CsAt Γ w b o cells) {k : HVal → Prop} (h : partK (cx.T t) cells off k) :
    ∃ hv v, k hv ∧ (loadVar t ⟨b, o + off, none⟩).run cx.P w = .ok v w ∧ VR Γ w hv v := by
  obtain ⟨hv, hk, ⟨ha, hl, rfl⟩ | ⟨ha, hl⟩⟩ := partK_spec h
  · obtain ⟨vs, h1, h2, h3⟩ := CsAt_elim (CsAt_take (cx.T t).size (CsAt_drop off hc))
    have hlen : vs.length = (cx.T t).size := by
      have := VRs_length h1
      simp at this; omega
    refine ⟨_, .agg vs.toArray, hk, ?_, ?_⟩
    · have hrun := run_loadCells_list (P := cx.P) w ⟨b, o + off, none⟩ vs (fun j v hj => by rw [add_none]; exact h3 j v hj)
      rw [hlen] at hrun
      simp [loadVar, run_agg ok ht, ha, run_size ok ht, hrun]
    · simp only [VR]; exact ⟨vs, rfl, h2, h1⟩
  · obtain ⟨vs, h1, h2, h3⟩ := CsAt_elim hc
    obtain ⟨v, h4, h5⟩ := VRs_get h1 hl
    refine ⟨hv, v, hk, ?_, h5⟩
    simp [loadVar, run_agg ok ht, ha, h3 off v h4]

theorem run_v {P : Program} {S : Sem Value} {x : Value} {w w' : World} (h : S.run P w = .ok x w') : (do pure (Next.value (← S)) : Sem Next).run P w = .ok (.value x) w' := by
  simp [h]

theorem VRs_one {h : HVal} {vs : List Value} (hv : VRs Γ w [h] vs) : ∃ v, vs = [v] ∧ VR Γ w h v := by
  simp only [VRs] at hv
  obtain ⟨v, r, rfl, h1, rfl⟩ := hv
  exact ⟨v, rfl, h1⟩
theorem VRs_two {g h : HVal} {vs : List Value} (hv : VRs Γ w [g, h] vs) : ∃ u v, vs = [u, v] ∧ VR Γ w g u ∧ VR Γ w h v := by
  simp only [VRs] at hv
  obtain ⟨u, r, rfl, h1, v, r', rfl, h2, rfl⟩ := hv
  exact ⟨u, v, rfl, h1, h2⟩
theorem VRs_three {f g h : HVal} {vs : List Value} (hv : VRs Γ w [f, g, h] vs) : ∃ t u v, vs = [t, u, v] ∧ VR Γ w f t ∧ VR Γ w g u ∧ VR Γ w h v := by
  simp only [VRs] at hv
  obtain ⟨t, _, rfl, h0, u, r, rfl, h1, v, r', rfl, h2, rfl⟩ := hv
  exact ⟨t, u, v, rfl, h0, h1, h2⟩

theorem load_sound (ok : CxOK cx) (hR : HR cx.toCx0 Γ hh used w) {t : Nat} {x : Operand} {vs : List HVal} {u : Value} {k : KT} (hu : VRs Γ w vs [u]) (hk : hopV cx (.load t x) vs (hget hh) nid k) :
    ∃ hv v a, k hv [] nid ∧ u = .pointer (some a) ∧ (loadVar t a).run cx.P w = .ok v w ∧ VR Γ w hv v := by
  obtain ⟨hno, hk'⟩ := nO_spec hk
  have fin : ∀ {b o off : Nat} {cells : List HVal}, u = .pointer (some ⟨b, o + off, none⟩) → CsAt Γ w b o cells → partK (cx.T t) cells off (fun v => k v [] nid) →
      ∃ hv v a, k hv [] nid ∧ u = .pointer (some a) ∧ (loadVar t a).run cx.P w = .ok v w ∧ VR Γ w hv v := by
    intro b o off cells hu hc hp
    obtain ⟨hv, v, h1, h2, h3⟩ := load_part ok hno hc hp
    exact ⟨hv, v, _, h1, hu, h2, h3⟩
  split at hk'
  · rename_i id off
    split at hk'
    · rename_i cells hg
      obtain ⟨v, e, hv⟩ := VRs_one hu
      obtain rfl : u = v := by simpa using e
      simp only [VR] at hv
      obtain ⟨b, δ, h1, h2⟩ := hv
      obtain ⟨b', δ', h3, _, arr, T, fz, h4, h5, h6⟩ := hR.obj _ _ hg
      rw [h1] at h3
      obtain ⟨rfl, rfl⟩ : b = b' ∧ δ = δ' := by simpa using h3
      exact fin h2 h6 hk'
    · exact hk'.elim
  · rename_i id es i off
    split at hk'
    · rename_i es' elems hg
      obtain ⟨v, e, hv⟩ := VRs_one hu
      obtain rfl : u = v := by simpa using e
      simp only [VR] at hv
      obtain ⟨b, δ, h1, h2⟩ := hv
      obtain ⟨b', δ', h3, _, arr, T, fz, h4, h5, h6⟩ := hR.obj _ _ hg
      rw [h1] at h3
      obtain ⟨rfl, rfl⟩ : b = b' ∧ δ = δ' := by simpa using h3
      obtain ⟨rfl, cs, hcs, hk'⟩ := hk'
      exact fin h2 (EsAt_get h6 hcs).2 hk'
    · exact hk'.elim
  · rename_i lf cells off
    obtain ⟨v, e, hv⟩ := VRs_one hu
    obtain rfl : u = v := by simpa using e
    simp only [VR] at hv
    obtain ⟨b, o, h1, h2, h3⟩ := hv
    exact fin h1 h3 hk'
  · exact hk'.elim

theorem s_load (ok : CxOK cx) (hR : HR cx.toCx0 Γ hh used w) {t : Nat} {x : Operand} {vs : List HVal} {u : Value} {k : KT} (hu : VRs Γ w vs [u]) (hk : hopV cx (.load t x) vs (hget hh) nid k) :
    OpRes cx (do pure (Next.value (← Instr.loadAt t u))) hh Γ used w nid k := by
  obtain ⟨hv, v, a, h1, h2, h3, h4⟩ := load_sound ok hR hu hk
  exact OpRes.pure hR h1 (run_v (by simp [Instr.loadAt, Instr.sureAddr, h2, h3])) h4
theorem cell_arr {b : Nat} {arr : Array Value} {T : TypeId} {fz : Nat × Nat} (h : w.heap[b]? = some (Obj.cells arr T fz)) (o : Nat) : w.cell? ⟨b, o, none⟩ = arr[o]? := by
  simp [World.cell?, h]

/-- Cells are stored, one after the other. -/
theorem run_storeCellsH {P : Program} (b o : Nat) (T : TypeId) (fz : Nat × Nat) : ∀ (vs : List Value) (i : Nat) (arr : Array Value) (w : World), w.heap[b]? = some (Obj.cells arr T fz) →
    (∀ j, j < arr.size → (fz.1 ≤ j && j < fz.2) = false) → (∀ k, k < vs.length → o + i + k < arr.size) → (∀ x ∈ vs, x.oneCell' = true) →
    ∃ w', (storeCells ⟨b, o, none⟩ vs i).run P w = .ok () w' ∧ (∀ b', b' ≠ b → w'.heap[b']? = w.heap[b']?) ∧ w'.heap.size = w.heap.size ∧ Like w w' ∧
      ∃ arr' : Array Value, w'.heap[b]? = some (Obj.cells arr' T fz) ∧ arr'.size = arr.size ∧ ∀ j, arr'[j]? = if o + i ≤ j ∧ j < o + i + vs.length then vs[j - (o + i)]? else arr[j]?
  | [], i, arr, w, h, _, _, _ => ⟨w, rfl, fun _ _ => rfl, rfl, ⟨rfl, rfl, rfl⟩, arr, h, rfl, fun j => by
      rw [if_neg]; simp only [List.length_nil]; omega⟩
  | v :: vs, i, arr, w, h, hfz, hl, h1 => by
    have hlt : o + i < arr.size := hl 0 (by simp)
    have hb : b < w.heap.size := (Array.getElem?_eq_some_iff.1 h).1
    have hcell : w.cell? ⟨b, o + i, none⟩ = some arr[o + i] := by rw [cell_arr h]; exact Array.getElem?_eq_getElem hlt
    have hfro : w.frozen? ⟨b, o + i, none⟩ = false := by simp only [World.frozen?, h]; exact hfz _ hlt
    let w1 := w.setCell ⟨b, o + i, none⟩ v
    have hst : (store ((⟨b, o, none⟩ : Addr).add i) v).run P w = .ok () w1 := by
      rw [run_store P w _ v .plain (h1 v (by simp)), add_none]
      simp [hcell, hfro, w1]
    have hb1 : w1.heap[b]? = some (Obj.cells (arr.setIfInBounds (o + i) v) T fz) := by
      show (w.heap.modify b _)[b]? = _
      rw [Array.getElem?_modify, if_pos rfl, h]
      rfl
    have hsz1 : w1.heap.size = w.heap.size := by simp [w1, World.setCell]
    obtain ⟨w', e1, e2, e3, e4, arr', e5, e6, e7⟩ := run_storeCellsH (P := P) b o T fz vs (i + 1) _ w1 hb1 (by simpa using hfz) (fun k hk => by
      have := hl (k + 1) (by simp only [List.length_cons]; omega)
      simp; omega) (fun x hx => h1 x (by simp [hx]))
    refine ⟨w', ?_, ?_, by rw [e3, hsz1], ⟨e4.os, e4.tape, e4.output⟩, arr', e5, by simpa using e6, ?_⟩
    · simp only [storeCells, Sem.run_bind, hst, Result.andThen_ok, e1]
    · intro b' hne
      rw [e2 b' hne]
      show (w.heap.modify b _)[b']? = _
      rw [Array.getElem?_modify, if_neg (fun e => hne e.symm)]
    · intro j
      rw [e7 j]
      by_cases hj : o + i = j
      · subst hj
        rw [if_neg (by omega), if_pos ⟨by omega, by simp only [List.length_cons]; omega⟩]
        simp [hlt]
      · by_cases hj2 : o + (i + 1) ≤ j ∧ j < o + (i + 1) + vs.length
        · rw [if_pos hj2, if_pos ⟨by omega, by simp only [List.length_cons]; omega⟩]
          rw [show j - (o + i) = (j - (o + (i + 1))) + 1 by omega]
          simp
        · rw [if_neg hj2, if_neg (by simp only [List.length_cons]; omega)]
          simp [hj]

theorem nonOther_bif {c : Bool} {A : Prop} (h : bif c then A else False) : c = true ∧ A := by
  cases c
  · exact h.elim
  · exact ⟨rfl, h⟩

/-- The cells of a block, some of them stored anew. -/
theorem CsAt_over {Γ : Gam} {w' : World} {b o off : Nat} {cells ns : List HVal} {vs : List Value} {arr arr' : Array Value} {T : TypeId} {fz : Nat × Nat} (E : Ext Γ w Γ w') (hc : CsAt Γ w b o cells)
    (ha : w.heap[b]? = some (Obj.cells arr T fz)) (ha' : w'.heap[b]? = some (Obj.cells arr' T fz))
    (hs : ∀ j, arr'[j]? = if o + off ≤ j ∧ j < o + off + vs.length then vs[j - (o + off)]? else arr[j]?) (hv : VRs Γ w ns vs) (h1 : ∀ x ∈ vs, x.oneCell' = true) (hl : off + ns.length ≤ cells.length) :
    CsAt Γ w' b o (cells.take off ++ ns ++ cells.drop (off + ns.length)) := by
  have hlen := VRs_length hv
  obtain ⟨us, g1, g2, g3⟩ := CsAt_elim hc
  have hul := VRs_length g1
  have hu : ∀ i v, us[i]? = some v → arr[o + i]? = some v := fun i v hi => by rw [← cell_arr ha]; exact g3 i v hi
  refine CsAt_intro (vs := us.take off ++ vs ++ us.drop (off + vs.length)) ?_ ?_ ?_
  · rw [← hlen]
    exact VRs_append (VRs_append (VRs_ext E _ _ (VRs_take _ g1)) (VRs_ext E _ _ hv)) (VRs_ext E _ _ (VRs_drop _ g1))
  · intro x hx
    simp only [List.mem_append] at hx
    rcases hx with (hx | hx) | hx
    · exact g2 x (List.mem_of_mem_take hx)
    · exact h1 x hx
    · exact g2 x (List.mem_of_mem_drop hx)
  · intro i v hi
    rw [cell_arr ha', hs]
    have hto : (us.take off).length = off := by simp; omega
    by_cases c1 : i < off
    · rw [if_neg (by omega)]
      rw [List.append_assoc, List.getElem?_append_left (by rw [hto]; exact c1), List.getElem?_take, if_pos c1] at hi
      exact hu i v hi
    · by_cases c2 : i < off + vs.length
      · rw [if_pos ⟨by omega, by omega⟩]
        rw [List.append_assoc, List.getElem?_append_right (by rw [hto]; omega), hto, List.getElem?_append_left (by omega)] at hi
        rw [show o + i - (o + off) = i - off by omega]; exact hi
      · rw [if_neg (by omega)]
        rw [List.getElem?_append_right (by simp only [List.length_append, hto]; omega)] at hi
        simp only [List.length_append, hto, List.getElem?_drop] at hi
        rw [show off + vs.length + (i - (off + vs.length)) = i by omega] at hi
        exact hu i v hi

theorem CsAt_lt {b o : Nat} {cells : List HVal} {arr : Array Value} {T : TypeId} {fz : Nat × Nat} (ha : w.heap[b]? = some (Obj.cells arr T fz)) (hc : CsAt Γ w b o cells) {i : Nat} (hi : i < cells.length) : o + i < arr.size := by
  obtain ⟨us, q1, q2, q3⟩ := CsAt_elim hc
  have ql := VRs_length q1
  have := q3 i us[i] (List.getElem?_eq_getElem (by omega))
  rw [cell_arr ha] at this
  exact (Array.getElem?_eq_some_iff.1 this).1
theorem CsAt_same {Γ' : Gam} {w' : World} (E : Ext Γ w Γ' w') {b : Nat} : ∀ {cs : List HVal} {o : Nat}, (∀ k, k < cs.length → w'.cell? ⟨b, o + k, none⟩ = w.cell? ⟨b, o + k, none⟩) → CsAt Γ w b o cs → CsAt Γ' w' b o cs
  | [], _, _, _ => by simp [CsAt]
  | c :: cs, o, hs, h => by
    simp only [CsAt] at h ⊢
    obtain ⟨⟨v, h1, h0, h2⟩, h3⟩ := h
    refine ⟨⟨v, ?_, h0, VR_ext E _ _ h2⟩, CsAt_same E (fun k hk => ?_) h3⟩
    · have := hs 0 (by simp); rw [Nat.add_zero] at this; rw [this]; exact h1
    · have := hs (k + 1) (by simp only [List.length_cons]; omega)
      rwa [show o + (k + 1) = o + 1 + k by omega] at this
theorem EsAt_of_get {b : Nat} : ∀ {es : List (List HVal)} {o n : Nat}, (∀ i e, es[i]? = some e → e.length = n ∧ CsAt Γ w b (o + i * n) e) → EsAt Γ w b o n es
  | [], _, _, _ => by simp [EsAt]
  | x :: es, o, n, h => by
    simp only [EsAt]
    have h0 := h 0 x rfl
    refine ⟨h0.1, by simpa using h0.2, EsAt_of_get fun i e he => ?_⟩
    have := h (i + 1) e (by simpa using he)
    rwa [show o + (i + 1) * n = o + n + i * n by rw [Nat.add_mul]; omega] at this

/-- An element of a row, some of its cells stored anew. -/
theorem EsAt_over {w' : World} {b o i off n : Nat} {elems : List (List HVal)} {c ns : List HVal} {vs : List Value} {arr arr' : Array Value} {T : TypeId} {fz : Nat × Nat} (E : Ext Γ w Γ w')
    (hc : EsAt Γ w b o n elems) (hi : elems[i]? = some c) (ha : w.heap[b]? = some (Obj.cells arr T fz)) (ha' : w'.heap[b]? = some (Obj.cells arr' T fz))
    (hs : ∀ j, arr'[j]? = if o + i * n + off ≤ j ∧ j < o + i * n + off + vs.length then vs[j - (o + i * n + off)]? else arr[j]?) (hv : VRs Γ w ns vs) (h1 : ∀ x ∈ vs, x.oneCell' = true)
    (hl : off + ns.length ≤ c.length) :
    EsAt Γ w' b o n (elems.set i (c.take off ++ ns ++ c.drop (off + ns.length))) := by
  have hlen := VRs_length hv
  obtain ⟨hcl, hca⟩ := EsAt_get hc hi
  refine EsAt_of_get fun j e he => ?_
  by_cases hj : i = j
  · subst hj
    have hlt : i < elems.length := (List.getElem?_eq_some_iff.1 hi).1
    rw [List.getElem?_set_self hlt] at he
    obtain rfl := Option.some.inj he
    exact ⟨by simp; omega, CsAt_over E hca ha ha' hs hv h1 hl⟩
  · rw [List.getElem?_set_ne hj] at he
    obtain ⟨g1, g2⟩ := EsAt_get hc he
    refine ⟨g1, CsAt_same E (fun k hk => ?_) g2⟩
    rw [cell_arr ha', cell_arr ha, hs, if_neg]
    rintro ⟨x1, x2⟩
    rcases Nat.lt_or_gt_of_ne hj with hlt | hgt
    · have : (i + 1) * n ≤ j * n := Nat.mul_le_mul_right _ hlt
      rw [Nat.add_mul] at this; omega
    · have : (j + 1) * n ≤ i * n := Nat.mul_le_mul_right _ hgt
      rw [Nat.add_mul] at this; omega

theorem s_store (ok : CxOK cx) (hR : HR cx.toCx0 Γ hh used w) {t : Nat} {x y : Operand} {vs : List HVal} {u z : Value} {k : KT} (hu : VRs Γ w vs [u, z]) (hk : hopV cx (.store t x y) vs (hget hh) nid k) :
    OpRes cx (do Instr.storeAt t u z; pure Next.skip) hh Γ used w nid k := by
  obtain ⟨hno, hk'⟩ := nO_spec hk
  have fin : ∀ {id : Nat} {old : HObj} {b δ p : Nat} {arr : Array Value} {T : TypeId} {fz : Nat × Nat} {ns : List HVal} {zs : List Value} {ho : HObj}, u = .pointer (some ⟨b, p, none⟩) → hget hh id = some old → Γ.ρ id = some (b, δ) →
      w.heap[b]? = some (Obj.cells arr T fz) → (∀ j, j < arr.size → (fz.1 ≤ j && j < fz.2) = false) → (∀ j, j < zs.length → p + j < arr.size) → z.cells = zs.toArray → zs.length = (cx.T t).size → (∀ x ∈ zs, x.oneCell' = true) →
      (∀ w' arr', Ext Γ w Γ w' → w'.heap[b]? = some (Obj.cells arr' T fz) → arr'.size = arr.size → (∀ j : Nat, arr'[j]? = if p ≤ j ∧ j < p + zs.length then zs[j - p]? else arr[j]?) → OR Γ w' b δ ho) →
      k hundef [(id, some ho)] nid → OpRes cx (do Instr.storeAt t u z; pure Next.skip) hh Γ used w nid k := by
    intro id old b δ p arr T fz ns zs ho hu hg hρ ha hfz hl hz hzl h1 hobj hkk
    obtain ⟨w', e1, e2, e3, e4, arr', e5, e6, e7⟩ := run_storeCellsH (P := cx.P) b p T fz zs 0 arr w ha hfz (by simpa using hl) h1
    simp only [Nat.add_zero] at e7
    obtain ⟨h2, h3⟩ := set_block hR hg hρ e2 e3 e4 (fun arr0 T0 fz0 h0 => by
      rw [ha] at h0; simp only [Option.some.injEq, Obj.cells.injEq] at h0; obtain ⟨rfl, rfl, rfl⟩ := h0; exact ⟨arr', fz, e5, e6⟩) (fun E => hobj w' arr' E e5 e6 e7)
    refine ⟨hundef, _, nid, .skip, w', Γ, undef, hkk, .inl rfl, ?_, .inr ⟨rfl, rfl⟩, by simp [hundef, VR, VRs, undef], h2.mono (fun _ h => .inl h), h3⟩
    have hz2 : z.cells.size = (cx.T t).size := by rw [hz]; simpa using hzl
    simp [Instr.storeAt, Instr.sureAddr, hu, storeVar, run_size ok hno, hz, hzl, e1]
  split at hk'
  · rename_i id off v
    obtain ⟨_, _, e, hp, hz⟩ := VRs_two hu
    simp only [List.cons.injEq, and_true] at e
    obtain ⟨rfl, rfl⟩ := e
    split at hk'
    · rename_i cells hg
      obtain ⟨cs, hk', hcs⟩ := flatK_spec hk'
      obtain ⟨zs, g1, g2, g3⟩ := hcs Γ w _ hz
      obtain ⟨hsz, hk'⟩ := nonOther_bif hk'
      obtain ⟨hov, hk'⟩ := overK_spec hk'
      simp only [VR] at hp
      obtain ⟨b, δ, h1, h2⟩ := hp
      obtain ⟨b', δ', h3, _, arr, T, fz, h4, h5, h6⟩ := hR.obj _ _ hg
      rw [h1] at h3
      obtain ⟨rfl, rfl⟩ : b = b' ∧ δ = δ' := by simpa using h3
      have hlen := VRs_length g2
      have hsz' := Nat.eq_of_beq_eq_true hsz
      have hfit : ∀ j, j < zs.length → δ + off + j < arr.size := fun j hj => by
        have := CsAt_lt h4 h6 (i := off + j) (by omega)
        omega
      exact fin (ns := cs) (ho := .box _) h2 hg h1 h4 h5 hfit g1 (by omega) g3 (fun w' arr' E q1 q2 q3 => ⟨arr', T, fz, q1, by rw [q2]; exact h5, CsAt_over E h6 h4 q1 q3 g2 g3 hov⟩) hk'
    · exact hk'.elim
  · rename_i id es i off v
    obtain ⟨_, _, e, hp, hz⟩ := VRs_two hu
    simp only [List.cons.injEq, and_true] at e
    obtain ⟨rfl, rfl⟩ := e
    split at hk'
    · rename_i es' elems hg
      obtain ⟨rfl, c, hc, hk'⟩ := hk'
      obtain ⟨cs, hk', hcs⟩ := flatK_spec hk'
      obtain ⟨zs, g1, g2, g3⟩ := hcs Γ w _ hz
      obtain ⟨hsz, hk'⟩ := nonOther_bif hk'
      obtain ⟨hov, hk'⟩ := overK_spec hk'
      simp only [VR] at hp
      obtain ⟨b, δ, h1, h2⟩ := hp
      obtain ⟨b', δ', h3, _, arr, T, fz, h4, h5, h6⟩ := hR.obj _ _ hg
      rw [h1] at h3
      obtain ⟨rfl, rfl⟩ : b = b' ∧ δ = δ' := by simpa using h3
      have hlen := VRs_length g2
      have hsz' := Nat.eq_of_beq_eq_true hsz
      have hfit : ∀ j, j < zs.length → δ + i * es + off + j < arr.size := fun j hj => by
        have := CsAt_lt h4 (EsAt_get h6 hc).2 (i := off + j) (by omega)
        omega
      exact fin (ns := cs) (ho := .arr _ _) h2 hg h1 h4 h5 hfit g1 (by omega) g3 (fun w' arr' E q1 q2 q3 => ⟨arr', T, fz, q1, by rw [q2]; exact h5, EsAt_over E h6 hc h4 q1 q3 g2 g3 hov⟩) hk'
    · exact hk'.elim
  · exact hk'.elim
end
end Go.Hv
