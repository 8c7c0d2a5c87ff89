/- What is proved here: laws of an upper level over the model (values, heaps, operations, regions, calls), and an evaluator of closed calls that is sound. -/
import Derived.Scope
import Derived.RangeFuncNested
import Derived.Test.YtokjdgphhmddcaaGreatHvE
set_option linter.all false
namespace Go.Hv
open Go
section
variable {R : Type}

def scalarE (tk : TK) (A : Option R) : Option R :=
  match tk with
  | .int _ | .str | .bool => A
  | _ => none
theorem scalar_t {tk : TK} {A : Option R} {B : Prop} {r : R} (h : scalarE tk A = some r) (hk : A = some r → B) : scalarK tk B := by
  unfold scalarE at h
  unfold scalarK
  split at h <;> first | exact hk h | cases h

def hbuiltinE (cx : Cx) (b : Builtin) (ats : List Nat) (vs : List HVal) (get : Nat → Option HObj) (nid : Nat) (k : KE R) : Option R :=
  match b with
  | .len => match vs with
    | [.str s] => (match ats with | t :: _ => (match (cx.T t).tk with | .str => k (.int .i64 s.length) [] nid | _ => none) | [] => none)
    | [.ps _ _ _ elems] => (match ats with | t :: _ => (match (cx.T t).tk with | .slice _ => k (.int .i64 elems.length) [] nid | _ => none) | [] => none)
    | [.sl _ _ _ n _] => (match ats with | t :: _ => (match (cx.T t).tk with | .slice _ => k (.int .i64 n) [] nid | _ => none) | [] => none)
    | [.pm _ ks _] => (match ats with | t :: _ => (match (cx.T t).tk with | .map _ _ => k (.int .i64 ks.length) [] nid | _ => none) | [] => none)
    | [.map id] => (match ats with
      | t :: _ => (match (cx.T t).tk, get id with | .map _ _, some (.map es) => k (.int .i64 es.length) [] nid | _, _ => none)
      | [] => none)
    | _ => none
  | .cap => match vs with
    | [.ps _ _ true elems] => (match ats with | t :: _ => (match (cx.T t).tk with | .slice _ => k (.int .i64 elems.length) [] nid | _ => none) | [] => none)
    | [.sl _ _ _ _ (.eq c)] => (match ats with | t :: _ => (match (cx.T t).tk with | .slice _ => k (.int .i64 c) [] nid | _ => none) | [] => none)
    | _ => none
  | .min => match vs with
    | [.int q a, .int q' b] => gd (q = q') (k (.int q (if b < a then b else a)) [] nid)
    | _ => none
  | .max => match vs with
    | [.int q a, .int q' b] => gd (q = q') (k (.int q (if b > a then b else a)) [] nid)
    | _ => none
  | .append => match ats, vs with
    | t :: u :: _, [d, x] => elemOKE cx t fun _ ti => srcAE ti get (cx.T u).tk x fun xs => match d with
        | .ps _ es full elems => bif xs.isEmpty then k d [] nid
            else gd ((sameOrE es ti.size elems = true) ∧ full = true ∧ (elems.length + xs.length) * (ti.bytes + 1) ≤ 70368744177664)
              (k (.sl nid ti.size 0 (elems.length + xs.length) (.ge (elems.length + xs.length))) [(nid, some (.arr ti.size (elems ++ xs)))] (nid + 1))
        | .sl id es i len cp => bif xs.isEmpty then k d [] nid else (match get id with
            | some (.arr es' elems) => gd (es = ti.size ∧ es' = ti.size ∧ i + len ≤ elems.length ∧ (len + xs.length) * (ti.bytes + 1) ≤ 70368744177664)
                (roomE cp (len + xs.length) fun keep cp' => k (.sl nid ti.size 0 (len + xs.length) cp') ((nid, some (.arr ti.size ((elems.drop i).take len ++ xs))) :: (bif keep then [] else [(id, none)])) (nid + 1))
            | _ => none)
        | _ => none
    | _, _ => none
  | .delete => match ats, vs with
    | t :: _, [.map id, key] => (match (cx.T t).tk with
      | .map kt _ => scalarE (cx.T kt).tk (match get id with
        | some (.map es) => (match hdrop (cx.T kt).tk key es with
          | some es' => k (.tup []) [(id, some (.map es'))] nid
          | none => none)
        | _ => none)
      | _ => none)
    | _, _ => none
  | .copy => match ats, vs with
    | t :: _, [.sl id es i n _, x] => elemOKE cx t fun _ ti => srcE ti.size get x fun xs => match get id with
        | some (.arr es' elems) => gd (es = ti.size ∧ es' = ti.size ∧ i + n ≤ elems.length)
            (k (.int .i64 (min xs.length n : Nat)) [(id, some (.arr es' (elems.take i ++ xs.take n ++ elems.drop (i + min xs.length n))))] nid)
        | _ => none
    | _, _ => none
  | _ => none

theorem hbuiltin_t {cx : Cx} {b : Builtin} {ats : List Nat} {vs : List HVal} {get : Nat → Option HObj} {nid : Nat} {k : KE R} {k' : KT} {r : R} (h : hbuiltinE cx b ats vs get nid k = some r) (hk : ∀ v ed n, k v ed n = some r → k' v ed n) :
    hbuiltin cx b ats vs get nid k' := by
  cases b <;> first | (cases h; done) | skip
  case len =>
    simp only [hbuiltinE] at h
    simp only [hbuiltin]
    split at h <;> first | (cases h; done) | skip
    all_goals
      split at h <;> first | (cases h; done) | skip
      split at h <;> first | (cases h; done) | skip
      simp_all
  case cap =>
    simp only [hbuiltinE] at h
    simp only [hbuiltin]
    split at h <;> first | (cases h; done) | skip
    · split at h <;> first | (cases h; done) | skip
      split at h <;> first | (cases h; done) | skip
      simp_all
    · split at h <;> first | (cases h; done) | skip
      split at h <;> first | (cases h; done) | skip
      rename_i q
      dsimp only
      rw [q]
      exact hk _ _ _ h
  case min =>
    simp only [hbuiltinE] at h
    simp only [hbuiltin]
    split at h <;> first | (cases h; done) | skip
    obtain ⟨h1, h2⟩ := gd_ok h
    exact ⟨h1, hk _ _ _ h2⟩
  case max =>
    simp only [hbuiltinE] at h
    simp only [hbuiltin]
    split at h <;> first | (cases h; done) | skip
    obtain ⟨h1, h2⟩ := gd_ok h
    exact ⟨h1, hk _ _ _ h2⟩
  case append =>
    simp only [hbuiltinE] at h
    simp only [hbuiltin]
    split at h <;> first | (cases h; done) | skip
    rename_i t u _ d x
    refine elemOK_t h fun e ti h => ?_
    refine srcA_t h fun xs hx => ?_
    cases d <;> first | (cases hx; done) | skip
    case ps lf es full elems =>
      dsimp only at hx ⊢
      cases he : xs.isEmpty
      · rw [he] at hx
        obtain ⟨⟨g1, g2, g3⟩, g4⟩ := gd_ok hx
        exact .ff ⟨⟨sameOr_ok g1, g2, g3⟩, hk _ _ _ g4⟩
      · rw [he] at hx
        exact .tt (hk _ _ _ hx)
    case sl id es i len =>
      dsimp only at hx ⊢
      cases he : xs.isEmpty
      · rw [he] at hx
        simp only [cond_false] at hx
        refine .ff ?_
        split at hx
        · rename_i es' elems hg
          obtain ⟨g1, g2⟩ := gd_ok hx
          rw [hg]
          exact ⟨g1, room_t g2 fun _ _ h => hk _ _ _ h⟩
        · cases hx
      · rw [he] at hx
        exact .tt (hk _ _ _ hx)
  case delete =>
    simp only [hbuiltinE] at h
    simp only [hbuiltin]
    split at h <;> first | (cases h; done) | skip
    split at h <;> first | (cases h; done) | skip
    rename_i qq
    dsimp only
    rw [qq]
    refine scalar_t h fun h => ?_
    split at h <;> first | (cases h; done) | skip
    rename_i q
    rw [q]
    split at h <;> first | (cases h; done) | exact ⟨_, by assumption, hk _ _ _ h⟩
  case copy =>
    simp only [hbuiltinE] at h
    simp only [hbuiltin]
    split at h <;> first | (cases h; done) | skip
    refine elemOK_t h fun e ti h => src_t h fun xs hx => ?_
    split at hx
    · rename_i es' elems hg
      obtain ⟨g1, g2⟩ := gd_ok hx
      rw [hg]
      exact ⟨g1, hk _ _ _ g2⟩
    · cases hx

def nOallE (cx : Cx) : List (Nat × Nat) → Option R → Option R
  | [], A => A
  | (_, t) :: r, A => nOE (cx.T t) (nOallE cx r A)
theorem nOall_t {cx : Cx} {A : Option R} {B : Prop} {r : R} : ∀ {l : List (Nat × Nat)}, nOallE cx l A = some r → (A = some r → B) → nOall cx l B
  | [], h, hk => hk h
  | (_, t) :: q, h, hk => nO_t h fun h => nOall_t (l := q) h hk
def e_move  (cx : Cx) (vs : List HVal) (get : Nat → Option HObj) (nid : Nat) (k : KE R) : Option R := match vs with
    | [v] => k v [] nid
    | _ => none
def e_pick  (cx : Cx) (vs : List HVal) (get : Nat → Option HObj) (nid : Nat) (k : KE R) : Option R := match vs with
    | [.bool t, a, b] => bif t then k a [] nid else k b [] nid
    | _ => none
def e_alloc (e : Nat) (cx : Cx) (vs : List HVal) (get : Nat → Option HObj) (nid : Nat) (k : KE R) : Option R := nOE (cx.T e) (flatE (cx.T e).zero fun cs => k (.bp nid 0) [(nid, some (.box cs))] (nid + 1))
def e_box  (cx : Cx) (vs : List HVal) (get : Nat → Option HObj) (nid : Nat) (k : KE R) : Option R := match vs with
    | [v] => flatE v fun cs => k (.bp nid 0) [(nid, some (.box cs))] (nid + 1)
    | _ => none
def e_build (t : Nat) (parts : Array (Nat × Operand)) (cx : Cx) (vs : List HVal) (get : Nat → Option HObj) (nid : Nat) (k : KE R) : Option R := match (cx.T t).tk with
    | .struct fs => nOallE cx fs (flatE (cx.T t).zero fun z => buildE cx (fun i => match fs[i]? with
        | some (off, ft) => some (off, (cx.T ft).size)
        | none => none) (parts.toList.map (·.1)) vs z fun cs => k (.agg cs) [] nid)
    | .arr _ e => nOE (cx.T e) (flatE (cx.T t).zero fun z => buildE cx (fun i => some (i * (cx.T e).size, (cx.T e).size)) (parts.toList.map (·.1)) vs z fun cs => k (.agg cs) [] nid)
    | _ => none
def e_buildSlice (t : Nat) (len : Nat) (parts : Array (Nat × Operand)) (cx : Cx) (vs : List HVal) (get : Nat → Option HObj) (nid : Nat) (k : KE R) : Option R := elemOKE cx t fun _ ti => flatE ti.zero fun z =>
      bif Nat.ble (len * ti.size) 16777216 && Nat.beq z.length ti.size then
        fillE ti.size (parts.toList.map (·.1)) vs (List.replicate len z) fun els => k (.sl nid ti.size 0 len (.eq len)) [(nid, some (.arr ti.size els))] (nid + 1)
      else none
def e_load (t : Nat) (cx : Cx) (vs : List HVal) (get : Nat → Option HObj) (nid : Nat) (k : KE R) : Option R := nOE (cx.T t) (match vs with
      | [.bp id off] => (match get id with
        | some (.box cells) => partE (cx.T t) cells off fun v => k v [] nid
        | _ => none)
      | [.ptr id es i off] => (match get id with
        | some (.arr es' elems) => gd (es = es') (match elems[i]? with
          | some cs => partE (cx.T t) cs off fun v => k v [] nid
          | none => none)
        | _ => none)
      | [.pp _ cells off] => partE (cx.T t) cells off fun v => k v [] nid
      | _ => none)
def e_store (t : Nat) (cx : Cx) (vs : List HVal) (get : Nat → Option HObj) (nid : Nat) (k : KE R) : Option R := nOE (cx.T t) (match vs with
      | [.bp id off, v] => (match get id with
        | some (.box cells) => flatE v fun cs => bif Nat.beq cs.length (cx.T t).size then overE cells off cs fun cells' => k hundef [(id, some (.box cells'))] nid else none
        | _ => none)
      | [.ptr id es i off, v] => (match get id with
        | some (.arr es' elems) => gd (es = es') (match elems[i]? with
          | some c => flatE v fun cs => bif Nat.beq cs.length (cx.T t).size then overE c off cs fun c' => k hundef [(id, some (.arr es' (elems.set i c')))] nid else none
          | none => none)
        | _ => none)
      | _ => none)
def e_nilCheck  (cx : Cx) (vs : List HVal) (get : Nat → Option HObj) (nid : Nat) (k : KE R) : Option R := match vs with
    | [.bp id off] => k (.bp id off) [] nid
    | [.ptr id es i off] => k (.ptr id es i off) [] nid
    | [.pp lf cells off] => k (.pp lf cells off) [] nid
    | [.func (.func f) a c] => k (.func (.func f) a c) [] nid
    | [.yield id] => k (.yield id) [] nid
    | _ => none
def e_binOp (op : BinOp) (t : Nat) (y : Operand) (cx : Cx) (vs : List HVal) (get : Nat → Option HObj) (nid : Nat) (k : KE R) : Option R := match vs with
    | [a, b] => hbinE op (cx.T t).tk (cx.E t) (isNilSlice y) (isNilIface y) a b fun v => k v [] nid
    | _ => none
def e_unOp (op : UnOp) (cx : Cx) (vs : List HVal) (get : Nat → Option HObj) (nid : Nat) (k : KE R) : Option R := match op, vs with
    | .not, [.bool t] => k (.bool (!t)) [] nid
    | .xor, [.int q n] => hintE .xor q (if q.signed then -1 else q.max) n fun v => k v [] nid
    | .neg, [.int .i64 n] => gd (-9223372036854775807 ≤ n ∧ n ≤ 9223372036854775807) (k (.int .i64 (-n)) [] nid)
    | _, _ => none
def e_convert (s : Nat) (d : Nat) (cx : Cx) (vs : List HVal) (get : Nat → Option HObj) (nid : Nat) (k : KE R) : Option R := match (cx.T s).tk, (cx.T d).tk, vs with
    | .int _, .int q, [.int _ n] => k (.int q (q.wrap n)) [] nid
    | .str, .str, [.str a] => k (.str a) [] nid
    | .slice e, .str, [x] => (match (cx.T e).tk with
      | .int .u8 => bif isSl x then srcE 1 get x fun els => (match bytesOf els with | some b => k (.str b) [] nid | none => none) else none
      | _ => none)
    | _, _, _ => none
def e_makeFunc (fn : Fn) (first : Array Operand) (captured : Array Operand) (cx : Cx) (vs : List HVal) (get : Nat → Option HObj) (nid : Nat) (k : KE R) : Option R := match fn with
    | .func f => takeE vs first.size fun a => dropE vs first.size fun r => takeE r captured.size fun c => k (.func (.func f) a c) [] nid
    | _ => none
def e_makeMap  (cx : Cx) (vs : List HVal) (get : Nat → Option HObj) (nid : Nat) (k : KE R) : Option R := k (.map nid) [(nid, some (.map []))] (nid + 1)
def e_makeSlice (t : Nat) (cx : Cx) (vs : List HVal) (get : Nat → Option HObj) (nid : Nat) (k : KE R) : Option R := match vs with
    | [.int .i64 l, .int .i64 c] => elemOKE cx t fun _ ti => flatE ti.zero fun z => gd (0 ≤ l ∧ l ≤ c ∧ ti.bytes * c ≤ 140737488355328 ∧ c ≤ 140737488355328 ∧ z.length = ti.size)
        (k (.sl nid ti.size 0 l.toNat (.eq c.toNat)) [(nid, some (.arr ti.size (List.replicate c.toNat z)))] (nid + 1))
    | _ => none
def e_slice (t : Nat) (lo : Option Operand) (hi : Option Operand) (mx : Option Operand) (cx : Cx) (vs : List HVal) (get : Nat → Option HObj) (nid : Nat) (k : KE R) : Option R := bif mx.isSome then none else match vs with
    | .str s :: r => (match (cx.T t).tk with
      | .str => optIntE lo.isSome r 0 fun l r' => optIntE hi.isSome r' s.length fun h _ => gd (0 ≤ l ∧ l ≤ h ∧ h ≤ s.length) (k (.str ((s.take h.toNat).drop l.toNat)) [] nid)
      | _ => none)
    | .ps lf es full elems :: r => elemOKE cx t fun _ ti => optIntE lo.isSome r 0 fun l r' => optIntE hi.isSome r' elems.length fun h _ =>
        gd (0 ≤ l ∧ l ≤ h ∧ h ≤ elems.length ∧ sameOrE es ti.size elems = true) (k (.ps lf es (full && (!hi.isSome || Nat.beq h.toNat elems.length)) ((elems.take h.toNat).drop l.toNat)) [] nid)
    | .sl id es i len cp :: r => elemOKE cx t fun _ ti => optIntE lo.isSome r 0 fun l r' => optIntE hi.isSome r' len fun h _ =>
        gd (0 ≤ l ∧ l ≤ h ∧ h ≤ cp.low ∧ es = ti.size) (k (.sl id es (i + l.toNat) (h - l).toNat (cp.less l.toNat)) [] nid)
    | _ => none
def e_fieldAddr (t : Nat) (f : Nat) (cx : Cx) (vs : List HVal) (get : Nat → Option HObj) (nid : Nat) (k : KE R) : Option R := match (cx.T t).tk with
    | .struct fs => (match fs[f]? with
      | some (off, ft) => nOE (cx.T ft) (bif Nat.beq (cx.T ft).size 0 then none else match vs with
          | [.bp id o] => k (.bp id (o + off)) [] nid
          | [.ptr id es i o] => k (.ptr id es i (o + off)) [] nid
          | [.pp lf cells o] => k (.pp lf cells (o + off)) [] nid
          | _ => none)
      | none => none)
    | _ => none
def e_field (t : Nat) (f : Nat) (cx : Cx) (vs : List HVal) (get : Nat → Option HObj) (nid : Nat) (k : KE R) : Option R := match (cx.T t).tk with
    | .struct fs => (match fs[f]? with
      | some (off, ft) => nOE (cx.T ft) (match vs with
          | [.agg cells] => partE (cx.T ft) cells off fun v => k v [] nid
          | _ => none)
      | none => none)
    | _ => none
def e_indexAddr (t : Nat) (cx : Cx) (vs : List HVal) (get : Nat → Option HObj) (nid : Nat) (k : KE R) : Option R := match (cx.T t).tk with
    | .slice _ => elemOKE cx t fun _ ti => (match vs with
      | [.ps lf es _ elems, .int _ i] => gd (0 ≤ i ∧ es = ti.size) (match elems[i.toNat]? with
        | some cs => k (.pp lf cs 0) [] nid
        | none => none)
      | [.sl id es j len _, .int _ i] => gd (0 ≤ i ∧ i.toNat < len ∧ es = ti.size) (k (.ptr id es (j + i.toNat) 0) [] nid)
      | _ => none)
    | .arr n e => nOE (cx.T e) (match vs with
        | [.bp id o, .int _ i] => gd (0 ≤ i ∧ i.toNat < n) (k (.bp id (o + i.toNat * (cx.T e).size)) [] nid)
        | [.pp lf cells o, .int _ i] => gd (0 ≤ i ∧ i.toNat < n) (k (.pp lf cells (o + i.toNat * (cx.T e).size)) [] nid)
        | _ => none)
    | _ => none
def e_index (t : Nat) (cx : Cx) (vs : List HVal) (get : Nat → Option HObj) (nid : Nat) (k : KE R) : Option R := match (cx.T t).tk with
    | .str => (match vs with
      | [.str s, .int _ i] => gd (0 ≤ i) (match s[i.toNat]? with
        | some b => k (.int .u8 b.toNat) [] nid
        | none => none)
      | _ => none)
    | .arr n e => nOE (cx.T e) (match vs with
      | [.agg cells, .int _ i] => gd (0 ≤ i ∧ i.toNat < n) (partE (cx.T e) cells (i.toNat * (cx.T e).size) fun v => k v [] nid)
      | _ => none)
    | _ => none
def e_lookup (t : Nat) (ok : Bool) (cx : Cx) (vs : List HVal) (get : Nat → Option HObj) (nid : Nat) (k : KE R) : Option R := match (cx.T t).tk with
    | .map kt vt => nOE (cx.T vt) (scalarE (cx.T kt).tk (match vs with
        | [.pm _ ks us, key] => (match hfind (cx.T kt).tk key (ks.zip us) with
            | some (some v) => k (bif ok then .tup [v, .bool true] else v) [] nid
            | some none => k (bif ok then .tup [(cx.T vt).zero, .bool false] else (cx.T vt).zero) [] nid
            | none => none)
        | [.map id, key] => (match get id with
          | some (.map es) => (match hfind (cx.T kt).tk key es with
            | some (some v) => k (bif ok then .tup [v, .bool true] else v) [] nid
            | some none => k (bif ok then .tup [(cx.T vt).zero, .bool false] else (cx.T vt).zero) [] nid
            | none => none)
          | _ => none)
        | _ => none))
    | _ => none
def e_mapUpdate (t : Nat) (cx : Cx) (vs : List HVal) (get : Nat → Option HObj) (nid : Nat) (k : KE R) : Option R := match (cx.T t).tk with
    | .map kt _ => scalarE (cx.T kt).tk (match vs with
        | [.map id, key, v] => (match get id with
          | some (.map es) => (match hput (cx.T kt).tk key v es with
            | some es' => k hundef [(id, some (.map es'))] nid
            | none => none)
          | _ => none)
        | _ => none)
    | _ => none
def e_range (t : Nat) (cx : Cx) (vs : List HVal) (get : Nat → Option HObj) (nid : Nat) (k : KE R) : Option R := match (cx.T t).tk, vs with
    | .str, [.str s] => k (.bp nid 0) [(nid, some (.siter s 0))] (nid + 1)
    | .map _ _, [.map id] => (match get id with
      | some (.map es) => k (.bp nid 0) [(id, none), (nid, some (.miter es []))] (nid + 1)
      | _ => none)
    | _, _ => none
def e_next (isS : Bool) (cx : Cx) (vs : List HVal) (get : Nat → Option HObj) (nid : Nat) (k : KE R) : Option R := match isS, vs with
    | true, [.bp id 0] => (match get id with
      | some (.siter s pos) => bif Nat.blt pos s.length then k (.tup [.bool true, .int .i64 pos, .int .i32 (Utf8.decode ⟨s.toArray⟩ pos).1]) [(id, some (.siter s (pos + (Utf8.decode ⟨s.toArray⟩ pos).2)))] nid
          else k (.tup [.bool false]) [] nid
      | _ => none)
    | false, [.bp id 0] => (match get id with
      | some (.miter [] _) => k (.tup [.bool false]) [] nid
      | some (.miter [p] _) => k (.tup [.bool true, p.1, p.2]) [(id, some (.miter [] [p]))] nid
      | _ => none)
    | _, _ => none
def e_entry (cx : Cx) (vs : List HVal) (get : Nat → Option HObj) (nid : Nat) (k : KE R) : Option R := match vs with
    | [.bp id 0] => (match get id with
      | some (.miter _ [p]) => k (.tup [p.1, p.2]) [] nid
      | _ => none)
    | _ => none
def e_makeIface (t : Nat) (cx : Cx) (vs : List HVal) (get : Nat → Option HObj) (nid : Nat) (k : KE R) : Option R := match vs with
    | [v] => (match (cx.T t).tk with
      | .other => none
      | .iface => none
      | _ => k (.iface t v) [] nid)
    | _ => none
def e_extract (i : Nat) (cx : Cx) (vs : List HVal) (get : Nat → Option HObj) (nid : Nat) (k : KE R) : Option R := match vs with
    | [.tup ws] => cellE ws i fun v => k v [] nid
    | _ => none
def e_call (c : Call) (cx : Cx) (vs : List HVal) (get : Nat → Option HObj) (nid : Nat) (k : KE R) : Option R := match c.callee with
    | .builtin b => hbuiltinE cx b c.argTypes.toList vs get nid k
    | _ => none
def hopD (op : Op) : Cx → List HVal → (Nat → Option HObj) → Nat → KE R → Option R :=
  match op with
  | .move _ | .assign _ => e_move
  | .pick _ _ _ => e_pick
  | .alloc e => e_alloc e
  | .box _ _ => e_box
  | .build t parts => e_build t parts
  | .buildSlice t len parts => e_buildSlice t len parts
  | .load t _ => e_load t
  | .store t _ _ => e_store t
  | .nilCheck _ => e_nilCheck
  | .binOp op t _ y _ => e_binOp op t y
  | .unOp op _ _ => e_unOp op
  | .convert s d _ => e_convert s d
  | .makeFunc fn first captured => e_makeFunc fn first captured
  | .makeMap _ none => e_makeMap
  | .makeSlice t _ _ => e_makeSlice t
  | .slice t _ lo hi mx => e_slice t lo hi mx
  | .fieldAddr t _ f => e_fieldAddr t f
  | .field t _ f => e_field t f
  | .indexAddr t _ _ => e_indexAddr t
  | .index t _ _ => e_index t
  | .lookup t _ _ ok => e_lookup t ok
  | .mapUpdate t _ _ _ => e_mapUpdate t
  | .insert t _ _ _ => e_mapUpdate t
  | .range t _ => e_range t
  | .next _ isS => e_next isS
  | .makeInterface t _ => e_makeIface t
  | .entry _ => e_entry
  | .extract _ i => e_extract i
  | .call c => e_call c
  | _ => fun _ _ _ _ _ => none
def hopE (cx : Cx) (op : Op) (vs : List HVal) (get : Nat → Option HObj) (nid : Nat) (k : KE R) : Option R := hopD op cx vs get nid k

theorem next_eq {cx : Cx} {x : Operand} {id nid : Nat} {get : Nat → Option HObj} {k : KT} : hopV cx (.next x true) [.bp id 0] get nid k = (match get id with
      | some (.siter s pos) => BC (Nat.blt pos s.length) (k (.tup [.bool true, .int .i64 pos, .int .i32 (Utf8.decode ⟨s.toArray⟩ pos).1]) [(id, some (.siter s (pos + (Utf8.decode ⟨s.toArray⟩ pos).2)))] nid)
          (k (.tup [.bool false]) [] nid)
      | _ => False) := rfl
theorem hop_t {cx : Cx} {op : Op} {vs : List HVal} {get : Nat → Option HObj} {nid : Nat} {k : KE R} {k' : KT} {r : R} (h : hopE cx op vs get nid k = some r) (hk : ∀ v ed n, k v ed n = some r → k' v ed n) : hopV cx op vs get nid k' := by
  cases op <;> first | (cases h; done) | skip
  case move x =>
    simp only [hopE, hopD, e_move] at h
    simp only [hopV]
    split at h <;> first | (cases h; done) | exact hk _ _ _ h
  case assign x =>
    simp only [hopE, hopD, e_move] at h
    simp only [hopV]
    split at h <;> first | (cases h; done) | exact hk _ _ _ h
  case pick c x y =>
    simp only [hopE, hopD, e_pick] at h
    simp only [hopV]
    split at h <;> first | (cases h; done) | skip
    rename_i t a b
    cases t
    · exact .ff (hk _ _ _ h)
    · exact .tt (hk _ _ _ h)
  case alloc e =>
    simp only [hopE, hopD, e_alloc] at h
    exact nO_t h fun h => flat_t h fun _ h => hk _ _ _ h
  case box e x =>
    simp only [hopE, hopD, e_box] at h
    simp only [hopV]
    split at h <;> first | (cases h; done) | exact flat_t h fun _ h => hk _ _ _ h
  case build t ps =>
    simp only [hopE, hopD, e_build] at h
    simp only [hopV]
    split at h <;> first | (cases h; done) | skip
    · rename_i fs hf
      rw [hf]
      exact nOall_t h fun h => flat_t h fun z h => build_t h fun _ h => hk _ _ _ h
    · rename_i n e hf
      rw [hf]
      exact nO_t h fun h => flat_t h fun z h => build_t h fun _ h => hk _ _ _ h
  case buildSlice t n ps =>
    simp only [hopE, hopD, e_buildSlice] at h
    simp only [hopV]
    refine elemOK_t h fun e ti h => flat_t h fun z h => ?_
    obtain ⟨h1, h2⟩ := bif_ok h
    rw [h1]
    exact fill_t h2 fun _ h => hk _ _ _ h
  case load t x =>
    simp only [hopE, hopD, e_load] at h
    simp only [hopV]
    refine nO_t h fun h => ?_
    split at h <;> first | (cases h; done) | skip
    · split at h <;> first | (cases h; done) | skip
      rename_i hg
      dsimp only
      rw [hg]
      exact part_t h fun _ h => hk _ _ _ h
    · split at h <;> first | (cases h; done) | skip
      rename_i hg
      dsimp only
      rw [hg]
      obtain ⟨h1, h2⟩ := gd_ok h
      split at h2 <;> first | (cases h2; done) | skip
      exact ⟨h1, _, by assumption, part_t h2 fun _ h => hk _ _ _ h⟩
    · exact part_t h fun _ h => hk _ _ _ h
  case store t x y =>
    simp only [hopE, hopD, e_store] at h
    simp only [hopV]
    refine nO_t h fun h => ?_
    split at h <;> first | (cases h; done) | skip
    · split at h <;> first | (cases h; done) | skip
      rename_i hg
      dsimp only
      rw [hg]
      refine flat_t h fun cs h => ?_
      obtain ⟨h1, h2⟩ := bif_ok h
      rw [h1]
      exact over_t h2 fun _ h => hk _ _ _ h
    · split at h <;> first | (cases h; done) | skip
      rename_i hg
      dsimp only
      rw [hg]
      obtain ⟨h1, h2⟩ := gd_ok h
      split at h2 <;> first | (cases h2; done) | skip
      refine ⟨h1, _, by assumption, flat_t h2 fun cs h => ?_⟩
      obtain ⟨h1, h2⟩ := bif_ok h
      rw [h1]
      exact over_t h2 fun _ h => hk _ _ _ h
  case nilCheck x =>
    simp only [hopE, hopD, e_nilCheck] at h
    simp only [hopV]
    split at h <;> first | (cases h; done) | exact hk _ _ _ h
  case binOp op t x y t' =>
    simp only [hopE, hopD, e_binOp] at h
    simp only [hopV]
    split at h <;> first | (cases h; done) | exact hbin_t h fun _ h => hk _ _ _ h
  case unOp op t x =>
    simp only [hopE, hopD, e_unOp] at h
    simp only [hopV]
    split at h <;> first | (cases h; done) | exact hk _ _ _ h | (obtain ⟨h1, h2⟩ := gd_ok h; exact ⟨h1, hk _ _ _ h2⟩) | exact hint_t h fun _ h => hk _ _ _ h
  case convert s d x =>
    simp only [hopE, hopD, e_convert] at h
    simp only [hopV]
    split at h <;> first | (cases h; done) | skip
    · rename_i q1 q2
      rw [q1, q2]
      exact hk _ _ _ h
    · rename_i q1 q2
      rw [q1, q2]
      exact hk _ _ _ h
    · rename_i q1 q2
      rw [q1, q2]
      dsimp only
      split at h <;> first | (cases h; done) | skip
      rename_i q3
      rw [q3]
      dsimp only
      obtain ⟨h1, h2⟩ := bif_ok h
      rw [h1]
      refine src_t h2 fun xs h => ?_
      split at h <;> first | (cases h; done) | exact ⟨_, by assumption, hk _ _ _ h⟩
  case makeFunc fn f c =>
    simp only [hopE, hopD, e_makeFunc] at h
    simp only [hopV]
    split at h <;> first | (cases h; done) | skip
    exact take_t h fun a h => drop_t h fun q h => take_t h fun c h => hk _ _ _ h
  case makeMap t q => cases q <;> first | (cases h; done) | exact hk _ _ _ h
  case makeSlice t x y =>
    simp only [hopE, hopD, e_makeSlice] at h
    simp only [hopV]
    split at h <;> first | (cases h; done) | skip
    refine elemOK_t h fun e ti h => flat_t h fun z h => ?_
    obtain ⟨h1, h2⟩ := gd_ok h
    exact ⟨h1, hk _ _ _ h2⟩
  case slice t x lo hi mx =>
    simp only [hopE, hopD, e_slice] at h
    simp only [hopV]
    cases mx with
    | some _ => cases h
    | none =>
      simp only [Option.isSome_none, cond_false] at h ⊢
      split at h <;> first | (cases h; done) | skip
      · split at h <;> first | (cases h; done) | skip
        rename_i q
        rw [q]
        refine optInt_t h fun l r' h => optInt_t h fun hh _ h => ?_
        obtain ⟨h1, h2⟩ := gd_ok h
        exact ⟨h1, hk _ _ _ h2⟩
      · refine elemOK_t h fun e ti h => optInt_t h fun l r' h => optInt_t h fun hh _ h => ?_
        obtain ⟨⟨g1, g2, g3, g4⟩, h2⟩ := gd_ok h
        exact ⟨⟨g1, g2, g3, sameOr_ok g4⟩, hk _ _ _ h2⟩
      · refine elemOK_t h fun e ti h => optInt_t h fun l r' h => optInt_t h fun hh _ h => ?_
        obtain ⟨h1, h2⟩ := gd_ok h
        exact ⟨h1, hk _ _ _ h2⟩
  case fieldAddr t x f =>
    simp only [hopE, hopD, e_fieldAddr] at h
    simp only [hopV]
    split at h <;> first | (cases h; done) | skip
    rename_i fs q
    rw [q]
    dsimp only
    split at h <;> first | (cases h; done) | skip
    rename_i off ft q
    rw [q]
    refine nO_t h fun h => ?_
    cases hz : Nat.beq (cx.T ft).size 0
    · rw [hz] at h
      simp only [cond_false] at h ⊢
      split at h <;> first | (cases h; done) | exact hk _ _ _ h
    · rw [hz] at h; cases h
  case field t x f =>
    simp only [hopE, hopD, e_field] at h
    simp only [hopV]
    split at h <;> first | (cases h; done) | skip
    rename_i fs q
    rw [q]
    dsimp only
    split at h <;> first | (cases h; done) | skip
    rename_i off ft q
    rw [q]
    refine nO_t h fun h => ?_
    split at h <;> first | (cases h; done) | exact part_t h fun _ h => hk _ _ _ h
  case indexAddr t x y =>
    simp only [hopE, hopD, e_indexAddr] at h
    simp only [hopV]
    split at h <;> first | (cases h; done) | skip
    · rename_i q
      rw [q]
      refine elemOK_t h fun e ti h => ?_
      split at h <;> first | (cases h; done) | skip
      · obtain ⟨h1, h2⟩ := gd_ok h
        split at h2 <;> first | (cases h2; done) | exact ⟨h1, _, by assumption, hk _ _ _ h2⟩
      · obtain ⟨h1, h2⟩ := gd_ok h
        exact ⟨h1, hk _ _ _ h2⟩
    · rename_i q
      rw [q]
      refine nO_t h fun h => ?_
      split at h <;> first | (cases h; done) | (obtain ⟨h1, h2⟩ := gd_ok h; exact ⟨h1, hk _ _ _ h2⟩)
  case index t x y =>
    simp only [hopE, hopD, e_index] at h
    simp only [hopV]
    split at h <;> first | (cases h; done) | skip
    · rename_i q
      rw [q]
      dsimp only
      split at h <;> first | (cases h; done) | skip
      obtain ⟨h1, h2⟩ := gd_ok h
      split at h2 <;> first | (cases h2; done) | exact ⟨h1, _, by assumption, hk _ _ _ h2⟩
    · rename_i q
      rw [q]
      refine nO_t h fun h => ?_
      split at h <;> first | (cases h; done) | skip
      obtain ⟨h1, h2⟩ := gd_ok h
      exact ⟨h1, part_t h2 fun _ h => hk _ _ _ h⟩
  case lookup t x y ok =>
    simp only [hopE, hopD, e_lookup] at h
    simp only [hopV]
    split at h <;> first | (cases h; done) | skip
    rename_i q
    rw [q]
    refine nO_t h fun h => scalar_t h fun h => ?_
    split at h <;> first | (cases h; done) | skip
    · split at h <;> first | (cases h; done) | skip
      · exact .inl ⟨_, by assumption, hk _ _ _ h⟩
      · exact .inr ⟨by assumption, hk _ _ _ h⟩
    · split at h <;> first | (cases h; done) | skip
      rename_i q
      dsimp only
      rw [q]
      dsimp only
      split at h <;> first | (cases h; done) | skip
      · exact .inl ⟨_, by assumption, hk _ _ _ h⟩
      · exact .inr ⟨by assumption, hk _ _ _ h⟩
  case mapUpdate t x y v =>
    simp only [hopE, hopD, e_mapUpdate] at h
    simp only [hopV]
    split at h <;> first | (cases h; done) | skip
    rename_i q
    rw [q]
    refine scalar_t h fun h => ?_
    split at h <;> first | (cases h; done) | skip
    split at h <;> first | (cases h; done) | skip
    rename_i q
    dsimp only
    rw [q]
    dsimp only
    split at h <;> first | (cases h; done) | exact ⟨_, by assumption, hk _ _ _ h⟩
  case insert t x y v =>
    simp only [hopE, hopD, e_mapUpdate] at h
    simp only [hopV]
    split at h <;> first | (cases h; done) | skip
    rename_i q
    rw [q]
    refine scalar_t h fun h => ?_
    split at h <;> first | (cases h; done) | skip
    split at h <;> first | (cases h; done) | skip
    rename_i q
    dsimp only
    rw [q]
    dsimp only
    split at h <;> first | (cases h; done) | exact ⟨_, by assumption, hk _ _ _ h⟩
  case range t x =>
    simp only [hopE, hopD, e_range] at h
    simp only [hopV]
    split at h <;> first | (cases h; done) | skip
    · rename_i q
      rw [q]
      exact hk _ _ _ h
    · rename_i q
      rw [q]
      dsimp only
      split at h <;> first | (cases h; done) | skip
      rename_i q
      rw [q]
      exact hk _ _ _ h
  case entry x =>
    simp only [hopE, hopD, e_entry] at h
    split at h <;> first | (cases h; done) | skip
    split at h <;> first | (cases h; done) | skip
    rename_i q
    simp only [hopV, q]
    exact hk _ _ _ h
  case makeInterface t x =>
    simp only [hopE, hopD, e_makeIface] at h
    simp only [hopV]
    split at h <;> first | (cases h; done) | skip
    split at h <;> first | (cases h; done) | skip
    rename_i h1 h2
    dsimp only
    split <;> first | exact absurd ‹_› h1 | exact absurd ‹_› h2 | exact hk _ _ _ h
  case next x b =>
    simp only [hopE, hopD, e_next] at h
    split at h <;> first | (cases h; done) | skip
    · split at h <;> first | (cases h; done) | skip
      rename_i s pos q
      rw [next_eq, q]
      dsimp only
      cases hb : Nat.blt pos s.length
      · rw [hb] at h; exact .ff (hk _ _ _ h)
      · rw [hb] at h; exact .tt (hk _ _ _ h)
    · split at h <;> first | (cases h; done) | skip
      · rename_i q
        simp only [hopV]
        rw [q]
        exact hk _ _ _ h
      · rename_i p q
        simp only [hopV]
        rw [q]
        simp only [List.isEmpty, cond_false]
        intro i p' hp
        cases i with
        | zero =>
          simp only [List.getElem?_cons_zero, Option.some.injEq] at hp
          subst hp
          exact hk _ _ _ h
        | succ i => simp at hp
  case extract x i =>
    simp only [hopE, hopD, e_extract] at h
    simp only [hopV]
    split at h <;> first | (cases h; done) | exact cell_t h fun _ h => hk _ _ _ h
  case call c =>
    simp only [hopE, hopD, e_call] at h
    simp only [hopV]
    split at h <;> first | (cases h; done) | skip
    rename_i q
    rw [q]
    exact hbuiltin_t h hk

/-- The operation, worked out to its end. -/
def opE (cx : Cx) (op : Op) (vs : List HVal) (get : Nat → Option HObj) (nid : Nat) : Option (HVal × Eds × Nat) := hopE cx op vs get nid fun v ed n => some (v, ed, n)
theorem opE_ok {cx : Cx} {op : Op} {vs : List HVal} {get : Nat → Option HObj} {nid : Nat} {v : HVal} {ed : Eds} {n : Nat} (h : opE cx op vs get nid = some (v, ed, n)) : Gives cx op vs get nid v ed n :=
  hop_t h fun v' ed' n' e => by
    simp only [Option.some.injEq, Prod.mk.injEq] at e
    exact ⟨e.1, e.2.1, e.2.2⟩
end
end Go.Hv

namespace Go.Hv
open Go
section
variable {cx : Cx}

/-! ### A scope whose labels nobody jumps to -/
theorem stepR_scope {P : Program} {b : Frame} {a : Act} {k : List Item} {cs : List Frame} {w : World} {c : Code} : step P (lone (b.atR a (.code (.scope c) :: k)) cs w) = .next (lone (b.atR a (.code c :: .inScope c :: k)) cs w) :=
  step_lone_go (by simp [stepG, stepG.exec, Frame.atR])
theorem stepR_inScope {P : Program} {b : Frame} {a : Act} {k : List Item} {cs : List Frame} {w : World} {c : Code} : step P (lone (b.atR a (.inScope c :: k)) cs w) = .next (lone (b.atR a k) cs w) :=
  step_lone_go (by simp [stepG, stepG.exec, Frame.atR])
theorem wpIn_scope_straight {F : Fence} {n : Nat} {P : Program} {Q : Exit → Act → World → Prop} {a : Act} {w : World} {c : Code} (h : c.wpIn F n P (Exit.noGoto Q) a w) : (Code.scope c).wpIn F n P Q a w := by
  intro b k cs hro hb hr
  have h0 : (lone (b.atR a (.code (.scope c) :: k)) cs w).fenced P F := fenced_calm hb hr rfl
  obtain ⟨e, a₁, w₁, hq, harr⟩ := h b (.inScope c :: k) cs hro hb hr
  cases e with
  | normal => exact ⟨.normal, a₁, w₁, hq, .head h0 stepR_scope (StepsIn.trans harr (.one (fenced_calm hb hr rfl) stepR_inScope))⟩
  | exit id' =>
    have hx : exitTo id' (.inScope c :: k) = exitTo id' k := by simp [exitTo]
    exact ⟨.exit id', a₁, w₁, hq, fun k' hk => .head h0 stepR_scope (harr.1 k' (by rw [hx]; exact hk)),
      fun hr' hk => let ⟨k₁, h1, h2⟩ := harr.2 hr' (by rw [hx]; exact hk); ⟨k₁, h1, .head h0 stepR_scope h2⟩⟩
  | goto l => exact hq.elim
  | ret => exact ⟨_, a₁, w₁, hq, .of_steps (.one h0 stepR_scope) harr⟩
  | panic ch => exact ⟨_, a₁, w₁, hq, .of_steps (.one h0 stepR_scope) harr⟩
  | outgrown => exact ⟨_, a₁, w₁, hq, .of_steps (.one h0 stepR_scope) harr⟩
theorem HWp.scope {nt : Nat} {rd : Option Nat} {c : Code} {Q : Exit → St → Prop} {s : St} (h : HWp cx nt rd c (fun e s' => match e with | .goto _ => False | e => Q e s') s) : HWp cx nt rd (.scope c) Q s :=
  ⟨fun n r Γ a w hr hs hS => by
    refine wpIn_scope_straight (wpIn_mono (h.run n r Γ a w hr hs hS) ?_)
    rintro e a' w' ⟨s', Γ', h1, h2⟩
    cases e with
    | goto l => exact h1.elim
    | _ => exact ⟨s', Γ', h1, h2⟩⟩

/-! ### Ranges over functions -/
/-- A block that nobody owns is laid. -/
theorem push_free {Γ : Gam} {hh : List (Nat × HObj)} {used : Nat → Prop} {w : World} (o : Obj) (hR : HR cx.toCx0 Γ hh used w) : HR cx.toCx0 Γ hh used (w.alloc o) ∧ Evo hh Γ w hh Γ (w.alloc o) := by
  have hlt : ∀ {b}, b < w.heap.size → (w.alloc o).heap[b]? = w.heap[b]? := fun hb => push_lt (w' := w.alloc o) rfl hb
  have E : Ext Γ w Γ (w.alloc o) := ⟨fun _ _ h => h, fun _ _ h => h, fun l b h => hlt (hR.frlt l b h), fun b arr T fz h => ⟨arr, fz, (hlt (Array.getElem?_eq_some_iff.1 h).1).trans h, rfl⟩⟩
  have hsz : (w.alloc o).heap.size = w.heap.size + 1 := by simp
  refine ⟨⟨fun l b h => by have := hR.frlt l b h; omega, fun id ho h => ?_, hR.inj, hR.used, fun g cs h => ?_⟩, Evo.mk E (by omega) (fun b hb _ => hlt hb) (fun _ _ h => .inl h) (fun _ h => .inl h) rfl rfl rfl⟩
  · obtain ⟨b, δ, h1, h2, h3⟩ := hR.obj id ho h
    exact ⟨b, δ, h1, h2, OR_ext E (hlt (hR.block_lt h h1)) ho h3⟩
  · obtain ⟨h1, h2⟩ := hR.glob g cs h
    exact ⟨h1, CsAt_ext E cs g 0 (E.same _ _ h1) h2⟩

abbrev loopO (st : LoopState) (pe : Option Code) (nt : Nat) (env : List (Nat × HVal)) (ps : Array Tmp) (as bd : Code) : HObj := .loop st pe nt env ps.toList as bd
/-- What comes behind the call of the function that is ranged over. -/
def afterRange (cx : Cx) (nt : Nat) (rd : Option Nat) (Q : Exit → St → Prop) (s : St) (hh' : List (Nat × HObj)) (next' : Nat) : Prop :=
  ∃ st pe nt' env' ps' as' bd', hget hh' s.next = some (.loop st pe nt' env' ps' as' bd') ∧ st ≠ .busy ∧ match pe with
    | none => Q .normal ⟨s.env, hdel hh' s.next, next'⟩
    | some c => HWp cx nt rd c Q ⟨s.env, hdel hh' s.next, next'⟩

def rdLive (rd : Option Nat) (hh : List (Nat × HObj)) : Prop :=
  match rd with
  | none => True
  | some id => ∃ st pe nt env ps as bd, hget hh id = some (.loop st pe nt env ps as bd)

/-- ████ A RANGE OVER A FUNCTION. -/
theorem HWp.rangeFunc (ok : CxOK cx) {nt : Nat} {rd : Option Nat} {x : Operand} {ps : Array Tmp} {as bd : Code} {Q : Exit → St → Prop} {s : St} {g : Nat} {first captured : List HVal} (hrd : rdLive rd s.hh) (hx : evE cx s.env x = some (.func (.func g) first captured)) (hg : cx.B g = true)
    (h : HCall cx g (first ++ ([.yield s.next] ++ captured)) (hset s.hh s.next (loopO .ready none nt s.env ps as bd)) (s.next + 1) (fun _ hh' next' => afterRange cx nt rd Q s hh' next')) : HWp cx nt rd (.rangeFunc x ps as bd) Q s :=
  ⟨fun n r Γ a w hr hs hS => by
    refine wpIn_rangeFunc fun fn _ => ?_
    -- the record is laid
    have enter : ∃ (l : Nat) (mk : List Deferred) (w1 : World) (rec : Loop), (Instr.enterLoop fn a.tmps ps as bd r).run cx.P w = .ok (l, mk) w1 ∧ (rec.state = .ready ∧ rec.pending = none ∧ rec.tmps = a.tmps ∧ rec.params = ps ∧ rec.assign = as ∧ rec.body = bd) ∧
        ∃ w0, w1 = w0.alloc (.loop rec) ∧ l = w0.heap.size ∧ ((mk = [] ∧ w0 = w) ∨ (mk = [mark w.heap.size] ∧ w0 = w.alloc (.deferred (some [])))) := by
      cases r with
      | none => exact ⟨_, _, _, _, run_enterLoop_outer fn a.tmps ps as bd, ⟨rfl, rfl, rfl, rfl, rfl, rfl⟩, _, rfl, by simp, .inr ⟨rfl, rfl⟩⟩
      | some b =>
        cases rd with
        | none => exact hr.elim
        | some id =>
          obtain ⟨δ, hρ⟩ := hr
          obtain ⟨st, pe, nt', env', ps', as', bd', hl⟩ := hrd
          obtain ⟨b', δ', h1, _, r0, h2, _⟩ := hS.2.obj _ _ hl
          rw [hρ] at h1
          obtain ⟨rfl, rfl⟩ : b = b' ∧ δ = δ' := by simpa using h1
          exact ⟨_, _, _, _, run_enterLoop_inner h2 fn a.tmps ps as bd, ⟨rfl, rfl, rfl, rfl, rfl, rfl⟩, _, rfl, rfl, .inl ⟨rfl, rfl⟩⟩
    obtain ⟨l, mk, w1, rec, hent, ⟨r1, r2, r3, r4, r5, r6⟩, w0, rfl, rfl, hmk⟩ := enter
    -- the first step
    have step0 : HR cx.toCx0 Γ s.hh (fun i => i < s.next) w0 ∧ Evo s.hh Γ w s.hh Γ w0 := by
      rcases hmk with ⟨_, rfl⟩ | ⟨_, rfl⟩
      · exact ⟨hS.2, Evo.refl _ _ _⟩
      · exact push_free _ hS.2
    have E0 : EL Γ w0 s.env a.tmps := EL_ext step0.2.toExt hS.1
    have hobj : OR (Γ.add s.next w0.heap.size 0) (w0.alloc (.loop rec)) w0.heap.size 0 (loopO .ready none nt s.env ps as bd) := by
      refine ⟨rec, World.alloc_heap_new _ _, r1, r2, by rw [r3]; exact hs, ?_, by simpa using r4, r5, r6⟩
      rw [r3]
      exact EL_ext (ext_push (used := fun i => i < s.next) (w' := w0.alloc (.loop rec)) (Nat.lt_irrefl _) step0.1.used step0.1.frlt rfl _ _) E0
    obtain ⟨hR1, hE1⟩ := new_block (nid := s.next) step0.1 (Nat.lt_irrefl _) (w' := w0.alloc (.loop rec)) rfl ⟨rfl, rfl, rfl⟩ hobj
    have hE01 := step0.2.trans hE1
    have hρ1 := Gam.add_same Γ s.next w0.heap.size 0
    -- the call
    have hv := evE_ok (a := a) (EL_ext hE01.toExt hS.1) hR1 hx
    simp only [VR] at hv
    obtain ⟨_, fs, cs, hfv, hfs, hcs⟩ := hv
    have hyield : VR (Γ.add s.next w0.heap.size 0) (w0.alloc (.loop rec)) (.yield s.next) (.func (.yield w0.heap.size) #[] #[]) := by
      simp only [VR]
      exact ⟨_, _, hρ1, rfl⟩
    have e1 : (fs.toArray ++ #[Value.func (.yield w0.heap.size) #[] #[]] ++ cs.toArray : Array Value) = (fs ++ ([Value.func (.yield w0.heap.size) #[] #[]] ++ cs)).toArray := by
      apply Array.ext'
      simp
    refine ⟨_, _, _, ⟨.fn (.func g) cs.toArray, fs.toArray ++ #[Value.func (.yield w0.heap.size) #[] #[]]⟩, w0.alloc (.loop rec), g, (fs ++ ([Value.func (.yield w0.heap.size) #[] #[]] ++ cs)).toArray, w0.alloc (.loop rec), hent, ?_, fun _ _ => trivial, ?_, by simp [wideR], ?_⟩
    · have ec : a.eval (.const (.func (.yield w0.heap.size) #[] #[])) = Value.func (.yield w0.heap.size) #[] #[] := rfl
      simp [resolve, rangeCall, hfv, Deferred.ofValue, ec]
    · simp only [invoke, e1, callFunc_run ok hg]
    have hc := h.run _ _ _ (hR1.mono (fun i hi => by rcases hi with hi | hi <;> omega)) (VRs_append hfs (VRs_append (VRs_cons hyield VRs_nil) hcs))
    have hc' : CallsIn (wideR r) (n - 1) cx.P g _ (w0.alloc (.loop rec)) _ := (callsIn_wide (n := n - 1)).2 hc
    refine hc'.mono ?_
    rintro e w3 ⟨v, hv, hh', next', Γ', rfl, ⟨st, pe, nt', env', ps', as', bd', k1, k2, k3⟩, hv', hR', hEvo, hle⟩
    -- the statement's end
    obtain ⟨b', δ', q1, q2, rec', q3, q4, q5, q6⟩ := hR'.obj _ _ k1
    have hb := hEvo.ρ _ _ hρ1
    rw [hb] at q1
    obtain ⟨rfl, rfl⟩ : w0.heap.size = b' ∧ 0 = δ' := by simpa using q1
    subst q5
    refine ⟨rec'.pending, _, run_endLoop q3 (by rw [q4]; exact k2), ?_⟩
    obtain ⟨d1, d2⟩ := del_block (id := s.next) hR'
    have hno : ¬ Owned Γ' (hdel hh' s.next) w0.heap.size := by
      rintro ⟨id, o, δ, g1, g2⟩
      by_cases e : id = s.next
      · rw [e, hget_hdel_same] at g1; cases g1
      · rw [hget_hdel_other _ e] at g1
        exact e (hR'.inj _ _ _ _ _ _ _ g1 k1 g2 hb)
    obtain ⟨p1, p2⟩ := put_out (.loop { rec' with state := .exhausted }) d1 hno q2 (fun arr T fz e => by rw [q3] at e; cases e)
    have hEfin : Evo hh' Γ' w3 (hdel hh' s.next) Γ' (w3.putObj w0.heap.size (.loop { rec' with state := .exhausted })) :=
      Evo.mk p2 (by rw [World.putObj_size]; exact Nat.le_refl _) (fun b hb' hn => World.putObj_heap_other (fun e => hn ⟨_, _, _, k1, e ▸ hb⟩)) (fun _ _ h => .inl h) d2.newown rfl rfl rfl
    have hEall := hE01.trans (hEvo.trans hEfin)
    have hel : EL Γ' (w3.putObj w0.heap.size (.loop { rec' with state := .exhausted })) s.env a.tmps := EL_ext hEall.toExt hS.1
    have hmk' : MK w a.defers (w3.putObj w0.heap.size (.loop { rec' with state := .exhausted })) (mk ++ a.defers) Γ' (hdel hh' s.next) := by
      rcases hmk with ⟨rfl, _⟩ | ⟨rfl, e0⟩
      · exact MK.refl _ _ _ _ _
      · have hD : w0.heap[w.heap.size]? = some (Obj.deferred (some [])) := by rw [e0]; exact World.alloc_heap_new _ _
        have hDlt : w.heap.size < w0.heap.size := (Array.getElem?_eq_some_iff.1 hD).1
        have hno0 : ¬ Owned Γ s.hh w.heap.size := by
          rintro ⟨id, o, δ, g1, g2⟩
          have := hS.2.block_lt g1 g2
          omega
        have hfr0 : ∀ l, ¬ Γ.fr l w.heap.size := fun l hl => by
          have := hS.2.frlt l _ hl
          omega
        have hEr := hE1.trans (hEvo.trans hEfin)
        refine ⟨[w.heap.size], rfl, by simp, fun D hD' => ?_⟩
        obtain rfl : D = w.heap.size := by simpa using hD'
        refine ⟨Nat.le_refl _, (hEr.keep _ hDlt hno0).trans hD, fun ho => ?_, fun l hl => ?_⟩
        · rcases hEr.newown _ ho with ho | ho
          · exact hno0 ho
          · omega
        · rcases hEr.newfr l _ hl with ho | ho | ho
          · exact hfr0 l ho
          · exact hno0 ho
          · omega
    have hsr : SR cx Γ' ⟨s.env, hdel hh' s.next, next'⟩ a.tmps (w3.putObj w0.heap.size (.loop { rec' with state := .exhausted })) := ⟨hel, p1⟩
    have hle' : s.next ≤ next' := by omega
    revert k3
    generalize rec'.pending = pe at *
    intro k3
    cases pe with
    | none => exact ⟨_, Γ', k3, hsr, hEall, hs, hmk', hle'⟩
    | some c =>
      have := k3.run n r Γ' { a with defers := mk ++ a.defers } _ (RR_ext hEall.toExt hr) hs hsr
      exact wpIn_mono this fun e a'' w'' hp => HPost.trans hEall hmk' hle' hp⟩
end
end Go.Hv

namespace Go.Hv
open Go
section
variable {cx : Cx}

/-! ### A call of yield: a round of the loop -/
def putPs : List Nat → List HVal → List (Nat × HVal) → List (Nat × HVal)
  | p :: ps, v :: vs, env => putPs ps vs ((p, v) :: env)
  | _, _, env => env
theorem putPs_EL {Γ : Gam} {w : World} {nt : Nat} : ∀ {ps : List Nat} {args : List HVal} {vs : List Value} {env : List (Nat × HVal)} {tmps : Array Value}, ps.all (fun p => Nat.blt p nt) = true → tmps.size = nt → EL Γ w env tmps → VRs Γ w args vs →
    EL Γ w (putPs ps args env) ((ps.zip vs).foldl (fun t (p, v) => t.setIfInBounds p v) tmps) ∧ ((ps.zip vs).foldl (fun t (p, v) => t.setIfInBounds p v) tmps).size = nt
  | [], args, vs, env, tmps, _, hs, hE, _ => by cases args <;> exact ⟨hE, hs⟩
  | p :: ps, [], vs, env, tmps, _, hs, hE, hv => by
    simp only [VRs] at hv
    subst hv
    exact ⟨hE, hs⟩
  | p :: ps, v :: args, vs, env, tmps, hp, hs, hE, hv => by
    simp only [VRs] at hv
    obtain ⟨u, us, rfl, h1, h2⟩ := hv
    simp only [List.all_cons, Bool.and_eq_true] at hp
    have hlt : p < tmps.size := by rw [hs]; exact Nat.le_of_ble_eq_true hp.1
    exact putPs_EL (tmps := tmps.setIfInBounds p u) hp.2 (by simpa using hs) (EL_put hE hlt h1) h2

/-- How a round ends. -/
def roundK (id : Nat) (K : HVal → List (Nat × HObj) → Nat → Prop) (e : Exit) (s : St) : Prop :=
  ∃ st pe nt env ps as bd, hget s.hh id = some (.loop st pe nt env ps as bd) ∧ match e with
    | .normal => K (.bool true) (hset s.hh id (.loop .ready none nt env ps as bd)) s.next
    | .ret => K (.bool false) (hset s.hh id (.loop .done (some .ret) nt env ps as bd)) s.next
    | .exit i => K (.bool false) (hset s.hh id (.loop .done (some (.exit i)) nt env ps as bd)) s.next
    | .goto t => K (.bool false) (hset s.hh id (.loop .done (some (.goto t)) nt env ps as bd)) s.next
    | _ => False

/-- the record is turned -/
theorem set_loop {Γ : Gam} {hh : List (Nat × HObj)} {used : Nat → Prop} {w : World} {id b δ nt : Nat} {st st' : LoopState} {pe pe' : Option Code} {env : List (Nat × HVal)} {ps : List Nat} {as bd : Code} {rec : Loop} (hR : HR cx.toCx0 Γ hh used w)
    (hg : hget hh id = some (.loop st pe nt env ps as bd)) (hρ : Γ.ρ id = some (b, δ)) (hw : w.heap[b]? = some (.loop rec)) :
    HR cx.toCx0 Γ (hset hh id (.loop st' pe' nt env ps as bd)) used (w.putObj b (.loop { rec with state := st', pending := pe' })) ∧ Evo hh Γ w (hset hh id (.loop st' pe' nt env ps as bd)) Γ (w.putObj b (.loop { rec with state := st', pending := pe' })) := by
  have hlt := (Array.getElem?_eq_some_iff.1 hw).1
  obtain ⟨b', δ', q1, q2, rec', q3, q4, q5, q6, q7, q8, q9⟩ := hR.obj _ _ hg
  rw [hρ] at q1
  obtain ⟨rfl, rfl⟩ : b = b' ∧ δ = δ' := by simpa using q1
  rw [hw] at q3
  obtain rfl : rec = rec' := by simpa using q3
  exact set_block hR hg hρ (fun b' hb' => World.putObj_heap_other hb') World.putObj_size ⟨rfl, rfl, rfl⟩ (fun arr T fz e => by rw [hw] at e; cases e)
    fun E => ⟨_, World.putObj_heap_same hlt, rfl, rfl, q6, EL_ext E q7, q8, q9⟩

theorem HYield.intro {id nt next : Nat} {args : List HVal} {hh : List (Nat × HObj)} {env : List (Nat × HVal)} {ps : List Nat} {as bd : Code} {pe : Option Code} {K : HVal → List (Nat × HObj) → Nat → Prop} (hg : hget hh id = some (.loop .ready pe nt env ps as bd))
    (hlen : args.length = ps.length) (hps : ps.all (fun p => Nat.blt p nt) = true)
    (h : HWp cx nt (some id) as (fun e s1 => e = .normal ∧ ∃ pe1 nt1 env1 ps1 as1 bd1, hget s1.hh id = some (.loop .ready pe1 nt1 env1 ps1 as1 bd1) ∧ HWp cx nt (some id) bd (roundK id K) ⟨s1.env, hset s1.hh id (.loop .busy pe1 nt1 env1 ps1 as1 bd1), s1.next⟩) ⟨putPs ps args env, hh, next⟩) :
    HYield cx id args hh next K :=
  ⟨fun n r Γ w b δ vs hR hρ hvs => by
    obtain ⟨b', δ', q1, q2, rec, q3, q4, q5, q6, q7, q8, q9, q10⟩ := hR.obj _ _ hg
    rw [hρ] at q1
    obtain ⟨rfl, rfl⟩ : b = b' ∧ δ = δ' := by simpa using q1
    have hvl := VRs_length hvs
    have q8' : rec.params = ps.toArray := q8
    refine ⟨rec, q3, by rw [q8']; simp; omega, ?_⟩
    have htm := putPs_EL hps q6 q7 hvs
    have efold : (rec.params.zip vs.toArray).foldl (fun t (p, v) => t.setIfInBounds p v) rec.tmps = (ps.zip vs).foldl (fun t (p, v) => t.setIfInBounds p v) rec.tmps := by
      rw [q8', ← Array.foldl_toList]
      simp
    rw [efold, q9, q10]
    refine roundIn_of_wpIn trivial ?_
    have hrun := h.run n (some b) Γ { tmps := (ps.zip vs).foldl (fun t (p, v) => t.setIfInBounds p v) rec.tmps, defers := [] } w ⟨δ, hρ⟩ htm.2 ⟨htm.1, hR⟩
    refine wpIn_mono (show as.wpIn ((wideR r).inRound b) n cx.P _ _ w from hrun) ?_
    rintro e a1 w1 ⟨s1, Γ1, ⟨rfl, pe1, nt1, env1, ps1, as1, bd1, k1, k2⟩, hS1, hE1, hs1, _, hle1⟩
    have hρ1 := hE1.ρ _ _ hρ
    obtain ⟨b1, δ1, p1, p2, rec1, p3, p4, _⟩ := hS1.2.obj _ _ k1
    rw [hρ1] at p1
    obtain ⟨rfl, rfl⟩ : b = b1 ∧ δ = δ1 := by simpa using p1
    obtain ⟨g1, g2⟩ := set_loop (st' := .busy) (pe' := pe1) hS1.2 k1 hρ1 p3
    refine ⟨_, run_beginRound p3 p4, ?_⟩
    have p5 : rec1.pending = pe1 := by
      obtain ⟨b1, δ1, p1, p2, rec1', p3', _, p5, _⟩ := hS1.2.obj _ _ k1
      rw [hρ1] at p1
      obtain ⟨rfl, rfl⟩ : b = b1 ∧ δ = δ1 := by simpa using p1
      rw [p3] at p3'
      obtain rfl : rec1 = rec1' := by simpa using p3'
      exact p5
    have eb : ({ rec1 with state := .busy } : Loop) = { rec1 with state := .busy, pending := pe1 } := by rw [← p5]
    rw [eb]
    have hrun2 := k2.run n (some b) Γ1 a1 _ ⟨δ, hρ1⟩ hs1 ⟨EL_ext g2.toExt hS1.1, g1⟩
    refine wpIn_mono (show bd.wpIn ((wideR r).inRound b) n cx.P _ a1 _ from hrun2) ?_
    rintro e a2 w2 ⟨s2, Γ2, ⟨st2, pe2, nt2, env2, ps2, as2, bd2, m1, m2⟩, hS2, hE2, hs2, _, hle2⟩
    have hρ2 := hE2.ρ _ _ hρ1
    obtain ⟨b2, δ2, u1, u2, rec2, u3, u4, _⟩ := hS2.2.obj _ _ m1
    rw [hρ2] at u1
    obtain ⟨rfl, rfl⟩ : b = b2 ∧ δ = δ2 := by simpa using u1
    have fin : ∀ (jump : Option Code), K (.bool jump.isNone) (hset s2.hh id (.loop (if jump.isNone then .ready else .done) jump nt2 env2 ps2 as2 bd2)) s2.next →
        ∃ v w', (Instr.endRound b jump).run cx.P w2 = .ok v w' ∧ ∃ v0 hv hh' next' Γ', Ending.returned v = .returned v0 ∧ K hv hh' next' ∧ VR Γ' w' hv v0 ∧ HR cx.toCx0 Γ' hh' (fun i => i < next') w' ∧ Evo hh Γ w hh' Γ' w' ∧ next ≤ next' := by
      intro jump hK
      obtain ⟨g3, g4⟩ := set_loop (st' := if jump.isNone then .ready else .done) (pe' := jump) hS2.2 m1 hρ2 u3
      refine ⟨_, _, run_endRound jump u3, _, _, _, _, Γ2, rfl, hK, by simp only [VR], g3, ((hE1.trans g2).trans hE2).trans g4, Nat.le_trans hle1 hle2⟩
    cases e <;> first | exact m2.elim | skip
    · exact fin none m2
    · exact fin (some (.exit _)) m2
    · exact fin (some (.goto _)) m2
    · exact fin (some .ret) m2⟩
end
end Go.Hv

namespace Go.Hv
open Go

/-! ### The walk, worked out: values and lists are brought to their heads on the way -/
section
variable {R : Type}
def forceN (n : Nat) (k : Nat → R) : R := match n with
  | 0 => k 0
  | m + 1 => k (m + 1)
def forceI (n : Int) (k : Int → R) : R := match n with
  | .ofNat m => forceN m fun m => k (.ofNat m)
  | .negSucc m => forceN m fun m => k (.negSucc m)
def forceB (b : Bool) (k : Bool → R) : R := match b with
  | true => k true
  | false => k false
noncomputable def forceL {α : Type} (l : List α) : (List α → R) → R :=
  List.rec (motive := fun _ => (List α → R) → R) (fun k => k []) (fun a _ ih k => ih fun r => k (a :: r)) l
def forceP (o : Cap) (k : Cap → R) : R := match o with
  | .ge n => forceN n fun n => k (.ge n)
  | .eq n => forceN n fun n => k (.eq n)
noncomputable def forceV (v : HVal) (k : HVal → R) : R := match v with
  | .int q n => forceI n fun n => k (.int q n)
  | .bool b => forceB b fun b => k (.bool b)
  | .str s => forceL s fun s => k (.str s)
  | .sl id es i len cp => forceN id fun id => forceN i fun i => forceN len fun len => forceP cp fun cp => k (.sl id es i len cp)
  | .ptr id es i off => forceN id fun id => forceN i fun i => forceN off fun off => k (.ptr id es i off)
  | .bp id off => forceN id fun id => forceN off fun off => k (.bp id off)
  | .agg cs => forceL cs fun cs => k (.agg cs)
  | .tup cs => forceL cs fun cs => k (.tup cs)
  | v => k v
noncomputable def forceO (o : HObj) (k : HObj → R) : R := match o with
  | .box cs => forceL cs fun cs => k (.box cs)
  | .arr es els => forceL els fun els => k (.arr es els)
  | .map es => forceL es fun es => k (.map es)
  | o => k o
theorem forceN_eq (n : Nat) (k : Nat → R) : forceN n k = k n := by cases n <;> rfl
theorem forceI_eq (n : Int) (k : Int → R) : forceI n k = k n := by cases n <;> simp [forceI, forceN_eq]
theorem forceB_eq (b : Bool) (k : Bool → R) : forceB b k = k b := by cases b <;> rfl
theorem forceL_eq {α : Type} : ∀ (l : List α) (k : List α → R), forceL l k = k l
  | [], _ => rfl
  | a :: r, k => forceL_eq r (fun r => k (a :: r))
theorem forceP_eq (o : Cap) (k : Cap → R) : forceP o k = k o := by cases o <;> simp [forceP, forceN_eq]
theorem forceV_eq (v : HVal) (k : HVal → R) : forceV v k = k v := by cases v <;> simp [forceV, forceI_eq, forceB_eq, forceL_eq, forceN_eq, forceP_eq]
theorem forceO_eq (o : HObj) (k : HObj → R) : forceO o k = k o := by cases o <;> simp [forceO, forceL_eq]

def eset (env : List (Nat × HVal)) (d : Nat) (v : HVal) : List (Nat × HVal) := lset env d v
theorem lrep_eget : ∀ {h h' : List (Nat × HVal)} {i : Nat} {o : HVal}, lrep h i o = some h' → eget h' i = o ∧ ∀ k, k ≠ i → eget h' k = eget h k
  | [], _, _, _, e => by cases e
  | (j, p) :: r, h', i, o, e => by
    simp only [lrep] at e
    cases hb : Nat.beq i j
    · rw [hb] at e
      simp only [cond_false] at e
      split at e
      · rename_i r' hr
        obtain rfl := Option.some.inj e
        obtain ⟨h1, h2⟩ := lrep_eget hr
        refine ⟨by simp only [eget, hb, cond_false, h1], fun k hk => ?_⟩
        simp only [eget, h2 k hk]
      · cases e
    · rw [hb] at e
      simp only [cond_true] at e
      obtain rfl := Option.some.inj e
      have : i = j := Nat.eq_of_beq_eq_true hb
      subst this
      refine ⟨by simp only [eget, hb, cond_true], fun k hk => ?_⟩
      simp only [eget, beq_ff hk, cond_false]
theorem eget_eset (env : List (Nat × HVal)) (d : Nat) (v : HVal) (i : Nat) : eget (eset env d v) i = bif Nat.beq i d then v else eget env i := by
  by_cases h : i = d
  · subst h
    rw [show Nat.beq i i = true by simp]
    unfold eset lset
    split
    · rename_i h' e; exact (lrep_eget e).1
    · simp [eget]
  · rw [beq_ff h]
    unfold eset lset
    split
    · rename_i h' e; exact (lrep_eget e).2 i h
    · simp [eget, beq_ff h]
noncomputable def lrepK {α : Type} (h : List (Nat × α)) (i : Nat) (o : α) : (List (Nat × α) → R) → R → R :=
  List.rec (motive := fun _ => (List (Nat × α) → R) → R → R) (fun _ f => f) (fun p r ih k f => Bool.rec (ih (fun r' => k (p :: r')) f) (k ((p.1, o) :: r)) (Nat.beq i p.1)) h
theorem lrepK_eq {α : Type} : ∀ (h : List (Nat × α)) (i : Nat) (o : α) (k : List (Nat × α) → R) (f : R), lrepK h i o k f = match lrep h i o with | some h' => k h' | none => f
  | [], _, _, _, _ => rfl
  | (j, p) :: r, i, o, k, f => by
    have e : lrepK ((j, p) :: r) i o k f = Bool.rec (lrepK r i o (fun r' => k ((j, p) :: r')) f) (k ((j, o) :: r)) (Nat.beq i j) := rfl
    rw [e]
    simp only [lrep]
    cases Nat.beq i j
    · simp only [cond_false]
      rw [lrepK_eq r]
      cases lrep r i o <;> rfl
    · rfl
noncomputable def lsetK {α : Type} (h : List (Nat × α)) (i : Nat) (o : α) (k : List (Nat × α) → R) : R := lrepK h i o k (k ((i, o) :: h))
theorem lsetK_eq {α : Type} (h : List (Nat × α)) (i : Nat) (o : α) (k : List (Nat × α) → R) : lsetK h i o k = k (lset h i o) := by
  unfold lsetK lset
  rw [lrepK_eq]
  cases lrep h i o <;> rfl
noncomputable def esetK (env : List (Nat × HVal)) (d : Nat) (v : HVal) (k : List (Nat × HVal) → R) : R := lsetK env d v k
theorem esetK_eq (env : List (Nat × HVal)) (d : Nat) (v : HVal) (k : List (Nat × HVal) → R) : esetK env d v k = k (eset env d v) := lsetK_eq env d v k
noncomputable def hsetK (h : List (Nat × HObj)) (i : Nat) (o : HObj) (k : List (Nat × HObj) → R) : R := lsetK h i o k
theorem hsetK_eq (h : List (Nat × HObj)) (i : Nat) (o : HObj) (k : List (Nat × HObj) → R) : hsetK h i o k = k (hset h i o) := lsetK_eq h i o k
def hdelK : List (Nat × HObj) → Nat → (List (Nat × HObj) → R) → R
  | [], _, k => k []
  | (j, p) :: r, i, k => bif Nat.beq i j then hdelK r i k else hdelK r i fun r' => k ((j, p) :: r')
theorem hdelK_eq : ∀ (h : List (Nat × HObj)) (i : Nat) (k : List (Nat × HObj) → R), hdelK h i k = k (hdel h i)
  | [], _, _ => rfl
  | (j, p) :: r, i, k => by
    simp only [hdelK, hdel]
    cases Nat.beq i j
    · exact hdelK_eq r i _
    · exact hdelK_eq r i _
noncomputable def heditK : List (Nat × HObj) → Eds → (List (Nat × HObj) → R) → R
  | hh, [], k => k hh
  | hh, (i, some o) :: r, k => forceN i fun i => forceO o fun o => hsetK hh i o fun hh => heditK hh r k
  | hh, (i, none) :: r, k => hdelK hh i fun hh => heditK hh r k
theorem heditK_eq : ∀ (ed : Eds) (hh : List (Nat × HObj)) (k : List (Nat × HObj) → R), heditK hh ed k = k (hedit hh ed)
  | [], _, _ => rfl
  | (i, some o) :: r, hh, k => by simp only [heditK, hedit, forceN_eq, forceO_eq, hsetK_eq]; exact heditK_eq r _ k
  | (i, none) :: r, hh, k => by simp only [heditK, hedit, hdelK_eq]; exact heditK_eq r _ k
noncomputable def putS (nt : Nat) (dst : Option Tmp) (v : HVal) (env : List (Nat × HVal)) (hh : List (Nat × HObj)) (next : Nat) (k : St → Option R) : Option R :=
  match dst with
  | none => forceN next fun next => k ⟨env, hh, next⟩
  | some d => bif Nat.blt d nt then forceV v fun v => esetK env d v fun env => forceN next fun next => k ⟨env, hh, next⟩ else none
theorem putS_ok {nt : Nat} {dst : Option Tmp} {v : HVal} {env : List (Nat × HVal)} {hh : List (Nat × HObj)} {next : Nat} {k : St → Option R} {r : R} (h : putS nt dst v env hh next k = some r) :
    dstOK nt dst = true ∧ ∃ env', (∀ x, eget env' x = eget (putE env (dst.map (·, v))) x) ∧ k ⟨env', hh, next⟩ = some r := by
  cases dst with
  | none => exact ⟨rfl, env, fun _ => rfl, by simpa [putS, forceN_eq] using h⟩
  | some d =>
    simp only [putS, forceV_eq, esetK_eq, forceN_eq] at h
    obtain ⟨h1, h2⟩ := bif_ok h
    refine ⟨h1, _, fun x => ?_, h2⟩
    rw [eget_eset]
    rfl
end

section
/-! ### Values taken for what they hold -/
def mapP (f : HVal → Option (HVal × List Nat)) : List HVal → Option (List HVal × List Nat)
  | [] => some ([], [])
  | v :: r => match f v with
    | some (v', is) => (match mapP f r with
      | some (r', js) => some (v' :: r', is ++ js)
      | none => none)
    | none => none
def mapPE (f : HVal → Option (HVal × List Nat)) : List (List HVal) → Option (List (List HVal) × List Nat)
  | [] => some ([], [])
  | v :: r => match mapP f v with
    | some (v', is) => (match mapPE f r with
      | some (r', js) => some (v' :: r', is ++ js)
      | none => none)
    | none => none
def fullOf (cp : Cap) (len : Nat) : Bool := match cp with | .eq c => Nat.beq c len | .ge _ => false
theorem fullOf_ok {cp : Cap} {len : Nat} (h : fullOf cp len = true) : cp = .eq len := by
  cases cp with
  | ge => cases h
  | eq c => rw [Nat.eq_of_beq_eq_true h]
def purE (get : Nat → Option HObj) (lf : Nat) : Nat → HVal → Option (HVal × List Nat)
  | 0, _ => none
  | n + 1, v => bif noRef anyL v then some (v, []) else match v with
    | .bp id off => (match get id with
      | some (.box cells) => (match mapP (purE get lf n) cells with
        | some (cs, is) => some (.pp lf cs off, id :: is)
        | none => none)
      | _ => none)
    | .sl id es i len cp => (match get id with
      | some (.arr es' elems) => bif Nat.beq es es' && Nat.ble (i + len) elems.length then (match mapPE (purE get lf n) ((elems.drop i).take len) with
        | some (els, is) => some (.ps lf es (fullOf cp len) els, id :: is)
        | none => none) else none
      | _ => none)
    | .map id => (match get id with
      | some (.map es) => (match mapP (purE get lf n) (es.map (·.1)) with
        | some (ks, is) => (match mapP (purE get lf n) (es.map (·.2)) with
          | some (us, js) => some (.pm lf ks us, id :: (is ++ js))
          | none => none)
        | none => none)
      | _ => none)
    | .agg cs => (match mapP (purE get lf n) cs with
      | some (cs', is) => some (.agg cs', is)
      | none => none)
    | .tup cs => (match mapP (purE get lf n) cs with
      | some (cs', is) => some (.tup cs', is)
      | none => none)
    | .func fn a c => (match mapP (purE get lf n) a with
      | some (a', is) => (match mapP (purE get lf n) c with
        | some (c', js) => some (.func fn a' c', is ++ js)
        | none => none)
      | none => none)
    | _ => none

theorem mapP_pur {get : Nat → Option HObj} {hh : List (Nat × HObj)} {lf : Nat} {f : HVal → Option (HVal × List Nat)} (hf : ∀ v v' is, f v = some (v', is) → (∀ id ∈ is, hget hh id = get id) → Pur hh lf v v') :
    ∀ {l l' : List HVal} {is : List Nat}, mapP f l = some (l', is) → (∀ id ∈ is, hget hh id = get id) → PurL hh lf l l'
  | [], l', is, h, _ => by
    simp only [mapP, Option.some.injEq, Prod.mk.injEq] at h
    rw [← h.1]; exact .refl rfl
  | v :: r, l', is, h, hi => by
    simp only [mapP] at h
    split at h
    · rename_i v' is1 h1
      split at h
      · rename_i r' js h2
        simp only [Option.some.injEq, Prod.mk.injEq] at h
        obtain ⟨rfl, rfl⟩ := h
        exact .cons (hf _ _ _ h1 fun id hid => hi id (List.mem_append_left _ hid)) (mapP_pur hf h2 fun id hid => hi id (List.mem_append_right _ hid))
      · cases h
    · cases h
theorem mapPE_pur {get : Nat → Option HObj} {hh : List (Nat × HObj)} {lf : Nat} {f : HVal → Option (HVal × List Nat)} (hf : ∀ v v' is, f v = some (v', is) → (∀ id ∈ is, hget hh id = get id) → Pur hh lf v v') :
    ∀ {l l' : List (List HVal)} {is : List Nat}, mapPE f l = some (l', is) → (∀ id ∈ is, hget hh id = get id) → PurE hh lf l l'
  | [], l', is, h, _ => by
    simp only [mapPE, Option.some.injEq, Prod.mk.injEq] at h
    rw [← h.1]; exact .refl rfl
  | v :: r, l', is, h, hi => by
    simp only [mapPE] at h
    split at h
    · rename_i v' is1 h1
      split at h
      · rename_i r' js h2
        simp only [Option.some.injEq, Prod.mk.injEq] at h
        obtain ⟨rfl, rfl⟩ := h
        exact .cons (mapP_pur hf h1 fun id hid => hi id (List.mem_append_left _ hid)) (mapPE_pur hf h2 fun id hid => hi id (List.mem_append_right _ hid))
      · cases h
    · cases h
theorem purE_ok {get : Nat → Option HObj} {hh : List (Nat × HObj)} {lf : Nat} : ∀ (n : Nat) (v v' : HVal) (is : List Nat), purE get lf n v = some (v', is) → (∀ id ∈ is, hget hh id = get id) → Pur hh lf v v'
  | 0, _, _, _, h, _ => by cases h
  | n + 1, v, v', is, h, hi => by
    have ih := purE_ok (get := get) (hh := hh) (lf := lf) n
    simp only [purE] at h
    cases hn : noRef anyL v
    · rw [hn] at h
      simp only [cond_false] at h
      cases v <;> first | (cases h; done) | skip
      case bp id off =>
        dsimp only at h
        split at h <;> first | (cases h; done) | skip
        rename_i cells hg
        split at h <;> first | (cases h; done) | skip
        rename_i cs is' hm
        simp only [Option.some.injEq, Prod.mk.injEq] at h
        obtain ⟨rfl, rfl⟩ := h
        exact .bp ((hi id (by simp)).trans hg) (mapP_pur ih hm fun x hx => hi x (by simp [hx]))
      case sl id es i len cp =>
        dsimp only at h
        split at h <;> first | (cases h; done) | skip
        rename_i es' elems hg
        obtain ⟨h1, h2⟩ := bif_ok h
        simp only [Bool.and_eq_true, Nat.beq_eq, Nat.ble_eq] at h1
        split at h2 <;> first | (cases h2; done) | skip
        rename_i els is' hm
        simp only [Option.some.injEq, Prod.mk.injEq] at h2
        obtain ⟨rfl, rfl⟩ := h2
        exact .sl ((hi id (by simp)).trans hg) h1.1 h1.2 fullOf_ok (mapPE_pur ih hm fun x hx => hi x (by simp [hx]))
      case map id =>
        dsimp only at h
        split at h <;> first | (cases h; done) | skip
        rename_i es hg
        split at h <;> first | (cases h; done) | skip
        rename_i ks is1 hm1
        split at h <;> first | (cases h; done) | skip
        rename_i us is2 hm2
        simp only [Option.some.injEq, Prod.mk.injEq] at h
        obtain ⟨rfl, rfl⟩ := h
        exact .map ((hi id (by simp)).trans hg) (mapP_pur ih hm1 fun x hx => hi x (by simp [hx])) (mapP_pur ih hm2 fun x hx => hi x (by simp [hx]))
      case agg cs =>
        dsimp only at h
        split at h <;> first | (cases h; done) | skip
        rename_i cs' is' hm
        simp only [Option.some.injEq, Prod.mk.injEq] at h
        obtain ⟨rfl, rfl⟩ := h
        exact .agg (mapP_pur ih hm hi)
      case tup cs =>
        dsimp only at h
        split at h <;> first | (cases h; done) | skip
        rename_i cs' is' hm
        simp only [Option.some.injEq, Prod.mk.injEq] at h
        obtain ⟨rfl, rfl⟩ := h
        exact .tup (mapP_pur ih hm hi)
      case func fn a c =>
        dsimp only at h
        split at h <;> first | (cases h; done) | skip
        rename_i a' is1 hm1
        split at h <;> first | (cases h; done) | skip
        rename_i c' is2 hm2
        simp only [Option.some.injEq, Prod.mk.injEq] at h
        obtain ⟨rfl, rfl⟩ := h
        exact .func (mapP_pur ih hm1 fun x hx => hi x (List.mem_append_left _ hx)) (mapP_pur ih hm2 fun x hx => hi x (List.mem_append_right _ hx))
    · rw [hn] at h
      simp only [cond_true, Option.some.injEq, Prod.mk.injEq] at h
      rw [← h.1]; exact .refl hn
end
def purFuel : Nat := 24

structure FT where
  nt : Nat
  res : List ResultVar
  body : Code
  /-- what is known of the function's calls of pure values -/
  hooked : Bool
  spec : List HVal → Option HVal
  /-- what is known of its calls in a heap -/
  sspec : Option (List HVal → List (Nat × HObj) → Nat → Option (HVal × List (Nat × HObj) × Nat))
abbrev Run := Nat → Nat → Option Nat → Code → St → Option (Exit × St)
abbrev Res := HVal × List (Nat × HObj) × Nat

section
variable (cx : Cx) (tab : Nat → Option FT) (ih : Run)
def resE : List ResultVar → St → Option (List HVal)
  | [], _ => some []
  | .tmp t :: r, s => match resE r s with
    | some vs => some (eget s.env t :: vs)
    | none => none
  | .cell a t :: r, s => match opE cx (.load t (.tmp a)) [eget s.env a] (hget s.hh) 0 with
    | some (v, _, _) => (match resE r s with
      | some vs => some (v :: vs)
      | none => none)
    | none => none
def isEnd : Exit → Bool
  | .normal | .ret => true
  | _ => false
noncomputable def hookE (ft : FT) (lv : Nat) (args : List HVal) (hh : List (Nat × HObj)) : Option HVal :=
  bif ft.hooked then (match mapP (purE (hget hh) (lv + 1) purFuel) args with
    | some (args', _) => (match ft.spec args' with
      | some v => bif noRef (otherL (lv + 1)) v then some v else none
      | none => none)
    | none => none) else none
noncomputable def callE (lv : Nat) (g : Nat) (args : List HVal) (hh : List (Nat × HObj)) (next : Nat) : Option Res :=
  match tab g with
  | none => none
  | some ft => match (match ft.sspec with | some f => f args hh next | none => none) with
   | some r => some r
   | none => match hookE ft lv args hh with
    | some v => some (v, hh, next)
    | none => bif Nat.ble args.length ft.nt then
      (match ih lv ft.nt none ft.body ⟨initEnv 0 args, hh, next⟩ with
       | some (e, s) => bif isEnd e then (match resE cx ft.res s with
          | some vs => some ((match vs with | [v] => v | vs => .tup vs), s.hh, s.next)
          | none => none) else none
       | none => none) else none
noncomputable def yieldE (lv : Nat) (id : Nat) (args : List HVal) (hh : List (Nat × HObj)) (next : Nat) : Option Res :=
  match hget hh id with
  | some (.loop .ready _ nt env ps as bd) => bif Nat.beq args.length ps.length && ps.all (fun p => Nat.blt p nt) then
      (match ih lv nt (some id) as ⟨putPs ps args env, hh, next⟩ with
       | some (.normal, s1) => (match hget s1.hh id with
          | some (.loop .ready pe1 nt1 env1 ps1 as1 bd1) => (match ih lv nt (some id) bd ⟨s1.env, hset s1.hh id (.loop .busy pe1 nt1 env1 ps1 as1 bd1), s1.next⟩ with
            | some (e, s2) => (match hget s2.hh id with
              | some (.loop _ _ nt2 env2 ps2 as2 bd2) => (match e with
                | .normal => some (.bool true, hset s2.hh id (.loop .ready none nt2 env2 ps2 as2 bd2), s2.next)
                | .ret => some (.bool false, hset s2.hh id (.loop .done (some .ret) nt2 env2 ps2 as2 bd2), s2.next)
                | .exit i => some (.bool false, hset s2.hh id (.loop .done (some (.exit i)) nt2 env2 ps2 as2 bd2), s2.next)
                | _ => none)
              | _ => none)
            | none => none)
          | _ => none)
       | _ => none) else none
  | _ => none

/-- One operation: what it gives is handed on. -/
noncomputable def callOpE {R : Type} (lv : Nat) (vs : List HVal) (hh : List (Nat × HObj)) (next : Nat) (k : HVal → List (Nat × HObj) → Nat → Option R) : Option R :=
  match vs with
  | .func (.func g) first captured :: as => bif cx.B g then (match callE cx tab ih lv g (first ++ (as ++ captured)) hh next with
    | some (v, hh', next') => k v hh' next'
    | none => none) else none
  | .yield id :: as => (match yieldE ih lv id as hh next with
    | some (v, hh', next') => k v hh' next'
    | none => none)
  | _ => none
def isCallV : Op → Bool
  | .call { callee := .value _, .. } => true
  | _ => false
noncomputable def op1E {R : Type} (lv : Nat) (o : Oper) (env : List (Nat × HVal)) (hh : List (Nat × HObj)) (next : Nat) (k : HVal → List (Nat × HObj) → Nat → Option R) : Option R :=
  match evsE cx env (hargs o.op) with
  | none => none
  | some vs => bif isCallV o.op then callOpE cx tab ih lv vs hh next k
    else hopE cx o.op vs (hgetF hh) next fun v ed next' => heditK hh ed fun hh' => k v hh' next'
noncomputable def opsE (lv nt : Nat) (all : List Oper) : List Oper → St → Option St
  | [], s => some s
  | o :: rest, s => match guardE all o s.env with
    | none => none
    | some false => putS nt o.dst hundef s.env s.hh s.next fun s' => opsE lv nt all rest s'
    | some true => op1E cx tab ih lv o s.env s.hh s.next fun v hh' next' => putS nt o.dst v s.env hh' next' fun s' => opsE lv nt all rest s'

/-- What the walk's word must be worth. -/
def RunOK : Prop := ∀ lv nt rd c s e s', ih lv nt rd c s = some (e, s') → HWp cx nt rd c (fun e1 s1 => e1 = e ∧ s1 = s') s
def TabOK : Prop := ∀ f ft, tab f = some ft → ∃ fn, cx.P.funcs[f]? = some fn ∧ fn.body = some ft.body ∧ fn.ntmps = ft.nt ∧ fn.results.toList = ft.res ∧ (ft.hooked = true → ∀ args v, ft.spec args = some v → PSpec cx f args v) ∧ (∀ sp, ft.sspec = some sp → ∀ args hh next v hh' n', sp args hh next = some (v, hh', n') → HCall cx f args hh next (fun v1 h1 n1 => v1 = v ∧ h1 = hh' ∧ n1 = n'))
end

section
variable {cx : Cx} {tab : Nat → Option FT} {ih : Run}
theorem HCall.mono {f : FuncId} {args : List HVal} {hh : List (Nat × HObj)} {next : Nat} {K K' : HVal → List (Nat × HObj) → Nat → Prop} (h : HCall cx f args hh next K) (hk : ∀ v h n, K v h n → K' v h n) : HCall cx f args hh next K' :=
  ⟨fun Γ w vs hR hvs => Calls.mono (h.run Γ w vs hR hvs) fun e w' ⟨v, hv, hh', next', Γ', h1, h2, h3⟩ => ⟨v, hv, hh', next', Γ', h1, hk _ _ _ h2, h3⟩⟩
theorem HYield.mono {id : Nat} {args : List HVal} {hh : List (Nat × HObj)} {next : Nat} {K K' : HVal → List (Nat × HObj) → Nat → Prop} (h : HYield cx id args hh next K) (hk : ∀ v h n, K v h n → K' v h n) : HYield cx id args hh next K' :=
  ⟨fun n r Γ w b δ vs hR hρ hvs => by
    obtain ⟨lp, h1, h2, h3⟩ := h.run n r Γ w b δ vs hR hρ hvs
    exact ⟨lp, h1, h2, h3.mono fun e w' ⟨v, hv, hh', next', Γ', q1, q2, q3⟩ => ⟨v, hv, hh', next', Γ', q1, hk _ _ _ q2, q3⟩⟩⟩

theorem resE_ok : ∀ {rs : List ResultVar} {s : St} {vs : List HVal} {k : List HVal → Prop}, resE cx rs s = some vs → k vs → resK cx rs s k
  | [], s, vs, k, h, hk => by obtain rfl := Option.some.inj h; exact hk
  | .tmp t :: r, s, vs, k, h, hk => by
    simp only [resE] at h
    split at h
    · rename_i us hu
      obtain rfl := Option.some.inj h
      simp only [resK, egetK_eq]
      exact resE_ok hu hk
    · cases h
  | .cell a t :: r, s, vs, k, h, hk => by
    simp only [resE] at h
    split at h
    · rename_i v ed n hv
      split at h
      · rename_i us hu
        obtain rfl := Option.some.inj h
        simp only [resK, egetK_eq]
        refine hop_t (k := fun v ed n => some (v, ed, n)) hv fun v' ed' n' e => ?_
        simp only [Option.some.injEq, Prod.mk.injEq] at e
        obtain ⟨rfl, _, _⟩ := e
        exact resE_ok hu hk
      · cases h
    · cases h

theorem PCall.toHCall {f : FuncId} {args : List HVal} {hh : List (Nat × HObj)} {next : Nat} {v : HVal} (h : PCall cx f args hh v) : HCall cx f args hh next (fun v1 h1 n1 => v1 = v ∧ h1 = hh ∧ n1 = next) :=
  ⟨fun Γ w vs hR hvs => Calls.mono (h.run Γ _ w vs hR hvs) fun e w' ⟨u, Γ', h1, h2, h3, h4⟩ => ⟨u, v, hh, next, Γ', h1, ⟨rfl, rfl, rfl⟩, h2, h3, h4, Nat.le_refl _⟩⟩
theorem callE_ok (ok : CxOK cx) (hG : ∀ g cs, (g, cs) ∈ cx.G → noRefs anyL cs = true) (ht : TabOK cx tab) (hih : RunOK cx ih) {lv g : Nat} {args : List HVal} {hh : List (Nat × HObj)} {next : Nat} {v : HVal} {hh' : List (Nat × HObj)} {next' : Nat} (h : callE cx tab ih lv g args hh next = some (v, hh', next')) :
    HCall cx g args hh next (fun v1 h1 n1 => v1 = v ∧ h1 = hh' ∧ n1 = next') := by
  unfold callE at h
  split at h
  · cases h
  · rename_i ft hft
    obtain ⟨fn, f1, f2, f3, f4, f5, f6⟩ := ht g ft hft
    split at h
    · rename_i r hr
      obtain rfl := Option.some.inj h
      split at hr
      · rename_i sp hs
        exact f6 sp hs _ _ _ _ _ _ hr
      · cases hr
    split at h
    · rename_i v1 hv1
      simp only [Option.some.injEq, Prod.mk.injEq] at h
      obtain ⟨rfl, rfl, rfl⟩ := h
      unfold hookE at hv1
      obtain ⟨g1, g2⟩ := bif_ok hv1
      split at g2 <;> first | (cases g2; done) | skip
      rename_i args' ids hm
      split at g2 <;> first | (cases g2; done) | skip
      rename_i v2 hs
      obtain ⟨g3, g4⟩ := bif_ok g2
      obtain rfl := Option.some.inj g4
      exact ((f5 g1 _ _ hs).lend (lf := lv + 1) (mapP_pur (get := hget hh) (hh := hh) (fun v v' is => purE_ok (get := hget hh) (hh := hh) purFuel v v' is) hm fun _ _ => rfl) g3 hG).toHCall
    obtain ⟨h1, h2⟩ := bif_ok h
    split at h2
    · rename_i e s hrun
      obtain ⟨h3, h4⟩ := bif_ok h2
      split at h4
      · rename_i vs hvs
        simp only [Option.some.injEq, Prod.mk.injEq] at h4
        obtain ⟨h5, h6, h7⟩ := h4
        refine HCall.enter ok f1 f2 (by rw [f3]; exact Nat.le_of_ble_eq_true h1) ?_
        rw [f3, f4]
        refine (hih _ _ _ _ _ _ _ hrun).mono fun e1 s1 he => ?_
        obtain ⟨rfl, rfl⟩ := he
        have : resK cx ft.res s1 (fun vs => (match vs with | [v] => v | vs => HVal.tup vs) = v ∧ s1.hh = hh' ∧ s1.next = next') := resE_ok hvs ⟨h5, h6, h7⟩
        cases e1 <;> first | exact this | cases h3
      · cases h4
    · cases h2

theorem yieldE_ok (hih : RunOK cx ih) {lv id : Nat} {args : List HVal} {hh : List (Nat × HObj)} {next : Nat} {v : HVal} {hh' : List (Nat × HObj)} {next' : Nat} (h : yieldE ih lv id args hh next = some (v, hh', next')) :
    HYield cx id args hh next (fun v1 h1 n1 => v1 = v ∧ h1 = hh' ∧ n1 = next') := by
  unfold yieldE at h
  split at h
  · rename_i pe nt env ps as bd hg
    obtain ⟨h1, h2⟩ := bif_ok h
    simp only [Bool.and_eq_true, Nat.beq_eq] at h1
    split at h2
    · rename_i s1 hrun
      split at h2
      · rename_i pe1 nt1 env1 ps1 as1 bd1 hg1
        split at h2
        · rename_i e s2 hrun2
          split at h2
          · rename_i st2 pe2 nt2 env2 ps2 as2 bd2 hg2
            refine HYield.intro hg h1.1 h1.2 ((hih _ _ _ _ _ _ _ hrun).mono fun e1 t1 he => ?_)
            obtain ⟨rfl, rfl⟩ := he
            refine ⟨rfl, _, _, _, _, _, _, hg1, (hih _ _ _ _ _ _ _ hrun2).mono fun e2 t2 he => ?_⟩
            obtain ⟨rfl, rfl⟩ := he
            refine ⟨_, _, _, _, _, _, _, hg2, ?_⟩
            cases e2 <;> first | (cases h2; done) | (simp only [Option.some.injEq, Prod.mk.injEq] at h2; exact ⟨h2.1, h2.2.1, h2.2.2⟩)
          · cases h2
        · cases h2
      · cases h2
    · cases h2
  · cases h

theorem evsK_of {env : List (Nat × HVal)} : ∀ {xs : List Operand} {vs : List HVal} {k : List HVal → Prop}, evsE cx env xs = some vs → k vs → evsK cx env xs k
  | [], vs, k, h, hk => by obtain rfl := Option.some.inj h; exact hk
  | x :: r, vs, k, h, hk => by
    simp only [evsE] at h
    split at h
    · cases h
    · rename_i v hv
      split at h
      · cases h
      · rename_i us hus
        obtain rfl := Option.some.inj h
        simp only [evsK]
        have key : ∀ {k' : HVal → Prop}, k' v → evK cx env x k' := by
          intro k' hk'
          unfold evE at hv
          unfold evK
          split at hv
          · rw [egetF_eq] at hv; dsimp only; rw [egetK_eq]; obtain rfl := Option.some.inj hv; exact hk'
          · obtain ⟨q1, q2⟩ := bif_ok hv
            dsimp only; rw [q1]; obtain rfl := Option.some.inj q2; exact hk'
          · split at hv
            · rename_i hg
              dsimp only; rw [hg]; obtain rfl := Option.some.inj hv; exact hk'
            · cases hv
          · obtain rfl := Option.some.inj hv; exact hk'
        exact key (evsK_of hus hk)

theorem op1E_ok (ok : CxOK cx) (hG : ∀ g cs, (g, cs) ∈ cx.G → noRefs anyL cs = true) (ht : TabOK cx tab) (hih : RunOK cx ih) {R : Type} {lv nt : Nat} {o : Oper} {env : List (Nat × HVal)} {hh : List (Nat × HObj)} {next : Nat} {k : HVal → List (Nat × HObj) → Nat → Option R} {r : R} {K : St → Prop}
    (h : op1E cx tab ih lv o env hh next k = some r) (hk : ∀ v hh' next', k v hh' next' = some r → putK nt o.dst v env fun env' => K ⟨env', hh', next'⟩) : opK cx nt o ⟨env, hh, next⟩ K := by
  unfold op1E at h
  split at h
  · cases h
  · rename_i vs hvs
    unfold opK
    refine evsK_of hvs ?_
    cases hc : isCallV o.op
    · rw [hc] at h
      simp only [cond_false, hgetF_eq] at h
      have main : hopV cx o.op vs (hget hh) next fun v ed nid' => putK nt o.dst v env fun env' => K ⟨env', hedit hh ed, nid'⟩ :=
        hop_t h fun v ed n he => hk _ _ _ (by rwa [heditK_eq] at he)
      dsimp only
      split
      · rename_i x args ats hop
        rw [hop] at hc
        cases hc
      · exact main
    · rw [hc] at h
      simp only [cond_true] at h
      unfold isCallV at hc
      split at hc <;> first | (cases hc; done) | skip
      rename_i x args ats hop
      dsimp only
      rw [hop]
      dsimp only
      unfold callOpE at h
      split at h
      · rename_i g first captured as
        obtain ⟨h1, h2⟩ := bif_ok h
        simp only [callK]
        rw [h1]
        split at h2
        · rename_i v hh' next' hc
          exact (callE_ok ok hG ht hih hc).mono fun v1 h1 n1 he => by
            obtain ⟨rfl, rfl, rfl⟩ := he
            exact hk _ _ _ h2
        · cases h2
      · rename_i id as
        simp only [callK]
        split at h
        · rename_i v hh' next' hc
          exact (yieldE_ok hih hc).mono fun v1 h1 n1 he => by
            obtain ⟨rfl, rfl, rfl⟩ := he
            exact hk _ _ _ h
        · cases h
      · cases h
end
end Go.Hv

namespace Go.Hv
open Go
section
variable {cx : Cx} {tab : Nat → Option FT} {ih : Run}

theorem opsE_ok (ok : CxOK cx) (hG : ∀ g cs, (g, cs) ∈ cx.G → noRefs anyL cs = true) (ht : TabOK cx tab) (hih : RunOK cx ih) {nt n lv : Nat} {r : Option Nat} {ops : Array Oper} {Q : Exit → Act → World → Prop} {Γ0 : Gam} {w0 : World} {s0 s1 : St} {d0 : List Deferred}
    (hQ : ∀ a' w' Γ', SR cx Γ' s1 a'.tmps w' → a'.tmps.size = nt → a'.defers = d0 → Evo s0.hh Γ0 w0 s1.hh Γ' w' → s0.next ≤ s1.next → Q .normal a' w') :
    ∀ (rest : List Oper) (k : Nat) (s : St) (Γ : Gam) (a : Act) (w : World), (∀ j, rest[j]? = ops[k + j]?) → SR cx Γ s a.tmps w → a.tmps.size = nt → a.defers = d0 → Evo s0.hh Γ0 w0 s.hh Γ w → s0.next ≤ s.next →
      opsE cx tab ih lv nt ops.toList rest s = some s1 → wpOpsIn (wideR r) n cx.P ops Q (List.range' k rest.length) a w
  | [], k, s, Γ, a, w, _, hS, hs, hd, hEv, hle, h => by
    obtain rfl := Option.some.inj h
    exact hQ a w Γ hS hs hd hEv hle
  | o :: rest, k, s, Γ, a, w, hl, hS, hs, hd, hEv, hle, h => by
    simp only [List.length_cons, List.range'_succ]
    have h0 : ops[k]? = some o := by simpa using (hl 0).symm
    have hl' : ∀ j, rest[j]? = ops[k + 1 + j]? := fun j => by
      have := hl (j + 1)
      rw [show k + 1 + j = k + (j + 1) by omega]
      simpa using this
    simp only [wpOpsIn, h0]
    simp only [opsE] at h
    split at h
    · cases h
    · rename_i hg
      rw [guardE_ok hS.1 hg, if_neg (by simp)]
      obtain ⟨hd', env', he, hk⟩ := putS_ok h
      obtain ⟨g1, g2, g3⟩ := put_EL hd' hs hS.1 (hundef_ok (Γ := Γ) (w := w))
      exact ⟨fun _ _ => trivial, opsE_ok ok hG ht hih hQ rest (k + 1) ⟨env', s.hh, s.next⟩ Γ _ w hl' ⟨EL_congr (fun x => (he x).symm) g1, hS.2⟩ g2 (g3.trans hd) hEv hle hk⟩
    · rename_i hg
      rw [guardE_ok hS.1 hg, if_pos rfl]
      have hop : opK cx nt o s fun s' => ∃ s2 : St, (∀ x, eget s'.env x = eget s2.env x) ∧ s'.hh = s2.hh ∧ s'.next = s2.next ∧ opsE cx tab ih lv nt ops.toList rest s2 = some s1 := by
        refine op1E_ok ok hG ht hih h fun v hh' next' hp => ?_
        obtain ⟨hd', env', he, hk⟩ := putS_ok hp
        have key : ∃ s2 : St, (∀ x, eget (putE s.env (o.dst.map (·, v))) x = eget s2.env x) ∧ hh' = s2.hh ∧ next' = s2.next ∧ opsE cx tab ih lv nt ops.toList rest s2 = some s1 := ⟨⟨env', hh', next'⟩, fun x => (he x).symm, rfl, rfl, hk⟩
        unfold putK
        unfold dstOK at hd'
        revert hd' key
        cases o.dst with
        | none => exact fun _ key => key
        | some d => intro hd' key; dsimp only at hd' ⊢; rw [hd']; exact key
      refine op_sound ok hs hS hop ?_
      rintro a' w' s' Γ' ⟨s2, e1, e2, e3, e4⟩ hS' hs' hd' hEv' hle'
      refine opsE_ok ok hG ht hih hQ rest (k + 1) s2 Γ' a' w' hl' ⟨EL_congr e1 hS'.1, ?_⟩ hs' (hd'.trans hd) ?_ ?_ e4
      · rw [← e2, ← e3]; exact hS'.2
      · rw [← e2]; exact hEv.trans hEv'
      · rw [← e3]; exact Nat.le_trans hle hle'

end
end Go.Hv
