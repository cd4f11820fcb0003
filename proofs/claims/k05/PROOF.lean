import PyProof.Rows.All
import Wide.All
import OpenK.AllK
import Wide.FinOn
import HandS.ForMost
import HandS.TupMul
import PyProof.EqAt
import PyProof.NeKinds
import HandS.Exc
import HandS.ExcOwn
import HandS.TryOnly
import HandS.TryMany
import HandS.IsInst
import HandS.TupAny
import HandS.Wide
import HandS.Style
import HandS.Flow
import PyProof.ReprRoads
import PyProof.CallFns
import KE.GoesNew
import HandS.Iter
import HandS.Comp
import HandS.CallSlots
import HandS.Defaults
import HandS.Ends
import HandS.HeadEnd
import HandS.HeadHook2
import HandS.Head0
import HandS.Head1
import HandS.Head2
import HandS.HeadHook1
import HandS.SortInts
import HandS.ExcValue
import PyProof.TupleOfSeq
import HandS.Star
import HandS.Conv
import PyProof.Rows.RegStrFacts
import PyProof.P3Eq
import PySem.Challenge.RW_sweeporders_k05_whole_cuts_opposites_and
import KE.KStateDown
import Lean
set_option Elab.async false
set_option linter.all false
set_option maxRecDepth 100000
set_option maxHeartbeats 4000000
namespace DL
open PySem PySem.Spec L2 PySem.SeqAt
open PyProof.Rows hiding St
/-- tuple * int, where the tuple itself is handed back -/
theorem tuple_mulS (l : Addr) (items : Array Value) (n : Nat) (dd : Option Addr) (sl : Array (Option Value)) (x : Int) (u : Tok) (c0 : (decide (x < -(2 ^ 63)) || decide (x ≥ 2 ^ 63)) = false) (c1 : (items.isEmpty || x == 1) = true) :
    Meets (Builtin.«tuple.__mul__» ⟨[.ref l, .int x u], []⟩) (fun _ R s => s.heap.get? l = some { cls := .type "tuple", dict := dd, data := .seq items n, slots := sl } ∧
      R (.ok (.ret (Value.ref l))) { s with heap := s.heap, toks := s.toks }) :=
  .of_wp fun prog w A R s h => by
    obtain ⟨hp, g, d, tk, os⟩ := s
    obtain ⟨hl, h⟩ := h
    have f1 := AutoSeq1.idx_int
    wp_walk using wpAny_loadPart' hl
    repeat (first
      | (refine wpAny_ite_false (decide_eq_false (by rw [c0]; exact Bool.false_ne_true)) ?_; wp_walk using wpAny_loadPart' hl)
      | (refine wpAny_ite_true (decide_eq_true c1) ?_; wp_walk using wpAny_loadPart' hl))
    exact ⟨_, rfl, h⟩
/-- .. where it is empty by the number -/
theorem tuple_mulE (l : Addr) (items : Array Value) (n : Nat) (dd : Option Addr) (sl : Array (Option Value)) (x : Int) (u : Tok) (c0 : (decide (x < -(2 ^ 63)) || decide (x ≥ 2 ^ 63)) = false) (c1 : (items.isEmpty || x == 1) = false) (c2 : (decide (x ≤ 0) || items.isEmpty) = true) :
    Meets (Builtin.«tuple.__mul__» ⟨[.ref l, .int x u], []⟩) (fun _ R s => s.heap.get? l = some { cls := .type "tuple", dict := dd, data := .seq items n, slots := sl } ∧
      R (.ok (.ret (Value.ref s.heap.objs.size))) { s with heap := s.heap.push { cls := Value.type "tuple", data := Data.seq #[] }, toks := s.toks }) :=
  .of_wp fun prog w A R s h => by
    obtain ⟨hp, g, d, tk, os⟩ := s
    obtain ⟨hl, h⟩ := h
    have f1 := AutoSeq1.idx_int
    wp_walk using wpAny_loadPart' hl
    repeat (first
      | (refine wpAny_ite_false (decide_eq_false (by rw [c0]; exact Bool.false_ne_true)) ?_; wp_walk using wpAny_loadPart' hl)
      | (refine wpAny_ite_false (decide_eq_false (by rw [c1]; exact Bool.false_ne_true)) ?_; wp_walk using wpAny_loadPart' hl)
      | (refine wpAny_ite_true (decide_eq_true c2) ?_; wp_walk using wpAny_loadPart' hl))
    exact ⟨_, rfl, h⟩
def rRepS (K : PySem.W.Frag) : R2 := fun x y H Q => ∃ l k xs, x = .ref l ∧ y = .int k ∧ SqT K H l xs ∧ -(2 ^ 63) ≤ k ∧ k < 2 ^ 63 ∧ ((xs = [] ∨ k = 1) ∧ Q (.ref l) H ∨ xs ≠ [] ∧ k ≤ 0 ∧ ∀ p, H p = none → Q (.ref p) (upd H p (.tup [])))
section
variable {X : Cx}
theorem op_repS : OpR X (binaryOp .Mult) (rRepS X.K) := by
  rintro pins s σ H x y v u Q I rx ry ⟨l, k, xs, rfl, rfl, hT, h1, h2, hq⟩
  cases rx
  obtain ⟨t, rfl⟩ := ry
  obtain ⟨its, r, ⟨⟨cls, dd, data, sl⟩, ho, hc, n, hd⟩, hs⟩ := I.tuple hT
  simp only at hc hd
  subst hc hd
  have c0 : (decide (k < -(2 ^ 63)) || decide (k ≥ 2 ^ 63)) = false := by
    rw [decide_eq_false (by omega), decide_eq_false (by omega)] <;> rfl
  have go : ∀ {Rr : Value → Shared → Prop}, wpAny (model X.prog X.w) X.A (call (.builtin "tuple.__mul__") [.ref l, .int k t]) Rr X.xe s → wpAny (model X.prog X.w) X.A (binaryOp .Mult (.ref l) (.int k t)) Rr X.xe s := fun {Rr} m => wpAny_binaryOp_repeat_ref (T := "tuple") (U := "int") (by decide) ⟨_, ho, rfl⟩ (fun s' => typeIs_int s' k t) noFill_tuple_mul PySem.F.fills_int_mul PySem.F.slot_int_rmul repeat_tuple PySem.F.slot_int_index.lookup
    (call_meets PySem.F.slot_int_rmul (typeIs_int s k t) PySem.F.entry_int_rmul (PySem.F.args_int_rmul_2 _ _) (int_rmul_tuple k t l its.toArray n dd sl) ⟨ho, rfl, (show s.TypeIs (.ref l) "tuple" from ⟨_, ho, rfl⟩), m⟩)
  rcases hq with ⟨hc, q⟩ | ⟨hne, hk, q⟩
  · refine go (call_meets PySem.F.slot_tuple_mul ⟨_, ho, rfl⟩ PySem.F.entry_tuple_mul (PySem.F.args_tuple_mul_2 _ _) (tuple_mulS l its.toArray n dd sl k t c0 ?_) ⟨ho, .ref l, H, I, rfl, q⟩)
    rcases hc with rfl | rfl
    · cases r
      rfl
    · simp
  · have hn : its.toArray.isEmpty = false := by
      cases its with
      | nil => exact absurd (List.eq_nil_of_length_eq_zero r.length) hne
      | cons a b => rfl
    refine go (call_meets PySem.F.slot_tuple_mul ⟨_, ho, rfl⟩ PySem.F.entry_tuple_mul (PySem.F.args_tuple_mul_2 _ _) (tuple_mulE l its.toArray n dd sl k t c0 ?_ ?_) ⟨ho, ?_⟩)
    · rw [hn, Bool.false_or]
      exact beq_eq_false_iff_ne.mpr (by omega)
    · rw [decide_eq_true hk, Bool.true_or]
    · refine ⟨.ref s.heap.objs.size, _, I.laid (t' := s.toks) (o := .tup []) (fun b ob q => Heap.get?_push_of_some _ q) (Nat.le_refl _) ?_, rfl, q _ (I.hok.fresh (Nat.le_refl _))⟩
      exact ⟨Nat.zero_le _, [], .nil, IsTup.new _ _⟩
/-- == where the lengths tell: lists of different lengths, an empty tuple and another -/
def rLen2 (K : PySem.W.Frag) (k : Bool) : R2 := fun x y H Q => ∃ a b xs ys, x = .ref a ∧ y = .ref b ∧ ((SqL K H a xs ∧ SqL K H b ys ∧ xs.length ≠ ys.length) ∨ (SqT K H a xs ∧ SqT K H b ys ∧ xs.isEmpty ≠ ys.isEmpty)) ∧ Q (.bl k) H
theorem emp_min {xs ys : List V} {us ws : List Value} (h : xs.isEmpty ≠ ys.isEmpty) (r1 : xs.length = us.length) (r2 : ys.length = ws.length) (e : Nat → Bool) : ((List.range (min us.toArray.size ws.toArray.size)).all e && us.toArray.size == ws.toArray.size) = false := by
  have hne : us.length ≠ ws.length := fun q => h (by
    cases xs with
    | nil => cases ys with
      | nil => rfl
      | cons a b => rw [← r1, ← r2] at q; cases q
    | cons a b => cases ys with
      | nil => rw [← r1, ← r2] at q; cases q
      | cons c d => rfl)
  rw [List.size_toArray, List.size_toArray, beq_eq_false_iff_ne.mpr hne, Bool.and_false]
theorem no_items {xs ys : List V} {us ws : List Value} (h : xs.isEmpty ≠ ys.isEmpty) (r1 : xs.length = us.length) (r2 : ys.length = ws.length) {A : Around} {s : Shared} (j : Nat) (h1 : j < us.toArray.size) (h2 : j < ws.toArray.size) : EqAt A s us.toArray[j] ws.toArray[j] true := by
  rw [List.size_toArray] at h1 h2
  cases xs with
  | nil => rw [← r1] at h1; exact absurd h1 (Nat.not_lt_zero _)
  | cons a b => cases ys with
    | nil => rw [← r2] at h2; exact absurd h2 (Nat.not_lt_zero _)
    | cons c d => exact absurd rfl h
theorem op_eqLen (hu : X.A.units < cLine) : OpR X (compareOp .Eq) (rLen2 X.K false) := by
  rintro pins s σ H x y v u Q I rx ry ⟨a, b, xs, ys, rfl, rfl, h, q⟩
  cases rx
  cases ry
  rcases h with ⟨h1, h2, hn⟩ | ⟨h1, h2, hn⟩
  · obtain ⟨us, r1, p1, _⟩ := I.list h1
    obtain ⟨ws, r2, p2, _⟩ := I.list h2
    refine eq_list_lengthsAt p1.isList p2.isList ?_ hu ⟨.bl false, H, I, rfl, q⟩
    rw [List.size_toArray, List.size_toArray, bne_iff_ne, ← r1.length, ← r2.length]
    exact hn
  · obtain ⟨us, r1, p1, _⟩ := I.tuple h1
    obtain ⟨ws, r2, p2, _⟩ := I.tuple h2
    refine eq_tupleAt (e := fun _ => true) (show s.heap.IsTuple a us.toArray from p1) (show s.heap.IsTuple b ws.toArray from p2) hu (no_items hn r1.length r2.length) ?_
    rw [emp_min hn r1.length r2.length]
    exact ⟨.bl false, H, I, rfl, q⟩
theorem op_neLen (hu : X.A.units < cLine) : OpR X (compareOp .NotEq) (rLen2 X.K true) := by
  rintro pins s σ H x y v u Q I rx ry ⟨a, b, xs, ys, rfl, rfl, h, q⟩
  cases rx
  cases ry
  rcases h with ⟨h1, h2, hn⟩ | ⟨h1, h2, hn⟩
  · obtain ⟨us, r1, p1, _⟩ := I.list h1
    obtain ⟨ws, r2, p2, _⟩ := I.list h2
    refine RcNeAt.lists_lengths p1.isList p2.isList ?_ hu X.prog X.w X.xe _ ⟨.bl true, H, I, rfl, q⟩
    rw [List.size_toArray, List.size_toArray, bne_iff_ne, ← r1.length, ← r2.length]
    exact hn
  · obtain ⟨us, r1, p1, _⟩ := I.tuple h1
    obtain ⟨ws, r2, p2, _⟩ := I.tuple h2
    refine RcNeAt.tuples (e := fun _ => true) (show s.heap.IsTuple a us.toArray from p1) (show s.heap.IsTuple b ws.toArray from p2) hu (no_items hn r1.length r2.length) X.prog X.w X.xe _ ?_
    rw [emp_min hn r1.length r2.length]
    exact ⟨.bl true, H, I, rfl, q⟩
end
end DL

set_option Elab.async false
set_option linter.all false
set_option maxRecDepth 100000
/-! DL: values as trees over the hand layer. -/
namespace DL
open PySem PySem.Spec L2
open PyProof.Rows hiding St

/-- a value as a tree: what may be read of it for good -/
inductive D where
  | non | bl (b : Bool) | int (i : Int) | str (x : Str) | ty (n : String) | ref (a : Addr)
  | tup (ds : List D) | lst (ds : List D) | sq (ds : List D) | dct (kvs : List (Key × D))
  deriving Inhabited

mutual
def Rep (K : PySem.W.Frag) (H : Hp) : D → V → Prop
  | .non, v => v = .non
  | .bl b, v => v = .bl b
  | .int i, v => v = .int i
  | .str x, v => v = .str x
  | .ty n, v => v = .ty n
  | .ref a, v => v = .ref a
  | .tup ds, v => ∃ a vs, v = .ref a ∧ SqT K H a vs ∧ Reps K H ds vs
  | .lst ds, v => ∃ a vs, v = .ref a ∧ H a = some (.lst vs) ∧ Reps K H ds vs
  | .sq ds, v => ∃ a vs, v = .ref a ∧ SqL K H a vs ∧ Reps K H ds vs
  | .dct kvs, v => ∃ a ws, v = .ref a ∧ H a = some (.dK ws) ∧ RepK K H kvs ws
def Reps (K : PySem.W.Frag) (H : Hp) : List D → List V → Prop
  | [], vs => vs = []
  | d :: ds, vs => ∃ v r, vs = v :: r ∧ Rep K H d v ∧ Reps K H ds r
def RepK (K : PySem.W.Frag) (H : Hp) : List (Key × D) → List (Key × V) → Prop
  | [], ws => ws = []
  | (k, d) :: r, ws => ∃ v t, ws = (k, v) :: t ∧ Rep K H d v ∧ RepK K H r t
end

theorem same_seqT {K : PySem.W.Frag} {H H' : Hp} {a : Addr} {xs : List V} (e : Same H H') (h : SqT K H a xs) : SqT K H' a xs := by
  rcases h with (h | ⟨o, h⟩) | h
  · exact .inl (.inl (e _ _ h))
  · exact .inl (.inr ⟨o, e _ _ h⟩)
  · exact .inr h

section
variable {K : PySem.W.Frag} {H H' : Hp}
mutual
theorem Rep.mono (e : Same H H') : ∀ (d : D) (v : V), Rep K H d v → Rep K H' d v
  | .non, _, h => h
  | .bl _, _, h => h
  | .int _, _, h => h
  | .str _, _, h => h
  | .ty _, _, h => h
  | .ref _, _, h => h
  | .tup ds, _, h => by
    obtain ⟨a, vs, e1, h1, h2⟩ := h
    exact ⟨a, vs, e1, same_seqT e h1, Reps.mono e ds vs h2⟩
  | .lst ds, _, h => by
    obtain ⟨a, vs, e1, h1, h2⟩ := h
    exact ⟨a, vs, e1, e _ _ h1, Reps.mono e ds vs h2⟩
  | .sq ds, _, h => by
    obtain ⟨a, vs, e1, h1, h2⟩ := h
    exact ⟨a, vs, e1, e.seq h1, Reps.mono e ds vs h2⟩
  | .dct kvs, _, h => by
    obtain ⟨a, ws, e1, h1, h2⟩ := h
    exact ⟨a, ws, e1, e _ _ h1, RepK.mono e kvs ws h2⟩
theorem Reps.mono (e : Same H H') : ∀ (ds : List D) (vs : List V), Reps K H ds vs → Reps K H' ds vs
  | [], _, h => h
  | d :: ds, _, h => by
    obtain ⟨v, r, e1, h1, h2⟩ := h
    exact ⟨v, r, e1, Rep.mono e d v h1, Reps.mono e ds r h2⟩
theorem RepK.mono (e : Same H H') : ∀ (ds : List (Key × D)) (vs : List (Key × V)), RepK K H ds vs → RepK K H' ds vs
  | [], _, h => h
  | (k, d) :: r, _, h => by
    obtain ⟨v, t, e1, h1, h2⟩ := h
    exact ⟨v, t, e1, Rep.mono e d v h1, RepK.mono e r t h2⟩
end
end

section
variable {K : PySem.W.Frag} {H : Hp}
theorem Reps.len : ∀ {ds : List D} {vs : List V}, Reps K H ds vs → ds.length = vs.length
  | [], _, h => by cases (show _ = _ from h); rfl
  | d :: ds, _, h => by
    obtain ⟨v, r, rfl, _, h2⟩ := h
    rw [List.length_cons, List.length_cons, Reps.len h2]
theorem Reps.get : ∀ {ds : List D} {vs : List V} {i : Nat} {d : D}, Reps K H ds vs → ds[i]? = some d → ∃ v, vs[i]? = some v ∧ Rep K H d v
  | [], _, _, _, _, e => by simp at e
  | d :: ds, _, 0, d', h, e => by
    obtain ⟨v, r, rfl, h1, _⟩ := h
    simp at e
    subst e
    exact ⟨v, rfl, h1⟩
  | d :: ds, _, i + 1, d', h, e => by
    obtain ⟨v, r, rfl, _, h2⟩ := h
    simpa using Reps.get (i := i) (d := d') h2 (by simpa using e)
theorem Reps.get' : ∀ {ds : List D} {vs : List V} {i : Nat} {v : V}, Reps K H ds vs → vs[i]? = some v → ∃ d, ds[i]? = some d ∧ Rep K H d v
  | [], _, _, _, h, e => by
    cases (show _ = _ from h)
    simp at e
  | d :: ds, _, 0, v', h, e => by
    obtain ⟨v, r, rfl, h1, _⟩ := h
    simp at e
    subst e
    exact ⟨d, rfl, h1⟩
  | d :: ds, _, i + 1, v', h, e => by
    obtain ⟨v, r, rfl, _, h2⟩ := h
    simpa using Reps.get' (i := i) (v := v') h2 (by simpa using e)
theorem Reps.app : ∀ {ds es : List D} {vs ws : List V}, Reps K H ds vs → Reps K H es ws → Reps K H (ds ++ es) (vs ++ ws)
  | [], _, _, _, h, g => by cases (show _ = _ from h); exact g
  | d :: ds, _, _, _, h, g => by
    obtain ⟨v, r, rfl, h1, h2⟩ := h
    exact ⟨v, r ++ _, rfl, h1, Reps.app h2 g⟩
theorem Reps.one {d : D} {v : V} (h : Rep K H d v) : Reps K H [d] [v] := ⟨v, [], rfl, h, rfl⟩
theorem Reps.drop : ∀ {ds : List D} {vs : List V} (n : Nat), Reps K H ds vs → Reps K H (ds.drop n) (vs.drop n)
  | _, _, 0, h => h
  | [], _, n + 1, h => by cases (show _ = _ from h); exact rfl
  | d :: ds, _, n + 1, h => by
    obtain ⟨v, r, rfl, h1, h2⟩ := h
    exact Reps.drop n h2
theorem Reps.take : ∀ {ds : List D} {vs : List V} (n : Nat), Reps K H ds vs → Reps K H (ds.take n) (vs.take n)
  | _, _, 0, h => rfl
  | [], _, n + 1, h => by cases (show _ = _ from h); exact rfl
  | d :: ds, _, n + 1, h => by
    obtain ⟨v, r, rfl, h1, h2⟩ := h
    exact ⟨v, r.take n, rfl, h1, Reps.take n h2⟩
theorem Reps.set : ∀ {ds : List D} {vs : List V} {d : D} {v : V} (n : Nat), Reps K H ds vs → Rep K H d v → Reps K H (ds.set n d) (vs.set n v)
  | [], _, _, _, _, h, _ => by cases (show _ = _ from h); exact rfl
  | d :: ds, _, _, _, 0, h, g => by
    obtain ⟨v, r, rfl, h1, h2⟩ := h
    exact ⟨_, r, rfl, g, h2⟩
  | d :: ds, _, _, _, n + 1, h, g => by
    obtain ⟨v, r, rfl, h1, h2⟩ := h
    exact ⟨v, _, rfl, h1, Reps.set n h2 g⟩
theorem Reps.erase : ∀ {ds : List D} {vs : List V} (n : Nat), Reps K H ds vs → Reps K H (ds.eraseIdx n) (vs.eraseIdx n)
  | [], _, _, h => by cases (show _ = _ from h); exact rfl
  | d :: ds, _, 0, h => by
    obtain ⟨v, r, rfl, h1, h2⟩ := h
    exact h2
  | d :: ds, _, n + 1, h => by
    obtain ⟨v, r, rfl, h1, h2⟩ := h
    exact ⟨v, _, rfl, h1, Reps.erase n h2⟩
theorem Reps.rep : ∀ {ds : List D} {vs : List V} (n : Nat), Reps K H ds vs → Reps K H (List.replicate n ds).flatten (List.replicate n vs).flatten
  | _, _, 0, h => rfl
  | _, _, n + 1, h => by
    rw [List.replicate_succ, List.replicate_succ, List.flatten_cons, List.flatten_cons]
    exact h.app (Reps.rep n h)
theorem Reps.rev : ∀ {ds : List D} {vs : List V}, Reps K H ds vs → Reps K H ds.reverse vs.reverse
  | [], _, h => by cases (show _ = _ from h); exact rfl
  | d :: ds, _, h => by
    obtain ⟨v, r, rfl, h1, h2⟩ := h
    rw [List.reverse_cons, List.reverse_cons]
    exact (Reps.rev h2).app (Reps.one h1)
end

/-- a slot: nothing, a value, or a list (a dict) that this frame alone holds -/
inductive Sl where
  | emp | val (d : D) | lst (ds : List D) | dct (kvs : List (Key × D))
  deriving Inhabited
/-- lists that several frames may change, by their places -/
abbrev Gam := List (Addr × List D)
structure DSt where
  ρ : List Sl
  Γ : Gam
/-- what is fixed while a def runs: the heap at its entry, the shared lists' places then, the places that it must not reach -/
structure Zf where
  H0 : Hp
  G0 : List Addr
  B : Addr → Prop

open Classical in
noncomputable def hid (H : Hp) (M : Addr → Prop) : Hp := fun b => if M b then none else H b
theorem hid_some {H : Hp} {M : Addr → Prop} {b : Addr} {o : HO} : hid H M b = some o ↔ ¬ M b ∧ H b = some o := by
  unfold hid
  by_cases h : M b
  · rw [if_pos h]
    constructor
    · intro q
      cases q
    · intro q
      exact absurd h q.1
  · rw [if_neg h]
    constructor
    · intro q
      exact ⟨h, q⟩
    · intro q
      exact q.2
theorem same_hid {H H' : Hp} {M M' : Addr → Prop} (h : ∀ b o, ¬ M b → H b = some o → ¬ M' b ∧ H' b = some o) : Same (hid H M) (hid H' M') := fun b o e => by
  rw [hid_some] at e ⊢
  exact h b o e.1 e.2
theorem hid_same {H : Hp} {M : Addr → Prop} : Same (hid H M) H := fun b o e => (hid_some.mp e).2

abbrev dom (Γ : Gam) : List Addr := Γ.map (·.1)
abbrev Own := Nat → Option Addr
def mut1 (Z : Zf) (s : DSt) (o : Own) (b : Addr) : Prop := Z.B b ∨ b ∈ dom s.Γ ∨ ∃ i, o i = some b
def mut2 (Z : Zf) (s : DSt) (b : Addr) : Prop := Z.B b ∨ b ∈ dom s.Γ
/-- what stands for good; what stands while nothing of this frame's own is changed -/
noncomputable abbrev S1 (Z : Zf) (H : Hp) (s : DSt) (o : Own) : Hp := hid H (mut1 Z s o)
noncomputable abbrev S2 (Z : Zf) (H : Hp) (s : DSt) : Hp := hid H (mut2 Z s)
theorem S12 {Z : Zf} {H : Hp} {s : DSt} {o : Own} : Same (S1 Z H s o) (S2 Z H s) := same_hid fun b _ h e => ⟨fun q => h (q.elim .inl fun q => .inr (.inl q)), e⟩

def SlotOk (K : PySem.W.Frag) (S H : Hp) : Option Sl → Option (Option V) → Option Addr → Prop
  | some (.val d), w, oa => oa = none ∧ ∃ v, w = some (some v) ∧ Rep K S d v
  | some (.lst ds), w, oa => ∃ a vs, oa = some a ∧ w = some (some (.ref a)) ∧ H a = some (.lst vs) ∧ Reps K S ds vs
  | some (.dct kvs), w, oa => ∃ a ws, oa = some a ∧ w = some (some (.ref a)) ∧ H a = some (.dK ws) ∧ RepK K S kvs ws
  | _, _, oa => oa = none

structure SR (K : PySem.W.Frag) (Z : Zf) (σ : St) (H : Hp) (s : DSt) (o : Own) : Prop where
  len : s.ρ.length = σ.length
  slot : ∀ i, SlotOk K (S1 Z H s o) H s.ρ[i]? σ[i]? (o i)
  inj : ∀ i j a, o i = some a → o j = some a → i = j
  own : ∀ i a, o i = some a → Z.H0 a = none ∧ a ∉ dom s.Γ ∧ ¬ Z.B a
  gam : ∀ a ds, (a, ds) ∈ s.Γ → ∃ vs, H a = some (.lst vs) ∧ Reps K (S1 Z H s o) ds vs
  gnd : (dom s.Γ).Nodup
  gold : ∀ a ∈ dom s.Γ, ¬ Z.B a ∧ (a ∈ Z.G0 ∨ Z.H0 a = none)
  frame : ∀ b u, Z.H0 b = some u → b ∉ Z.G0 → H b = some u
  bok : ∀ b, Z.B b → ∃ u, H b = some u
  gok : ∀ b ∈ Z.G0, ∃ u, H b = some u

/-- what an expression leaves as it was -/
structure Stp (Z : Zf) (H : Hp) (s : DSt) (o : Own) (H' : Hp) (s' : DSt) (o' : Own) : Prop where
  s1 : Same (S1 Z H s o) (S1 Z H' s' o')
  s2 : Same (S2 Z H s) (S2 Z H' s')
  new : ∀ b, H' b = none → H b = none
  keepB : ∀ b u, Z.B b → H b = some u → H' b = some u
theorem Stp.refl {Z : Zf} {H : Hp} {s : DSt} {o : Own} : Stp Z H s o H s o := ⟨Same.refl _, Same.refl _, fun _ h => h, fun _ _ _ h => h⟩
theorem Stp.trans {Z : Zf} {H H1 H2 : Hp} {s s1 s2 : DSt} {o o1 o2 : Own} (a : Stp Z H s o H1 s1 o1) (b : Stp Z H1 s1 o1 H2 s2 o2) : Stp Z H s o H2 s2 o2 :=
  ⟨a.s1.trans b.s1, a.s2.trans b.s2, fun c h => a.new c (b.new c h), fun c u hb h => b.keepB c u hb (a.keepB c u hb h)⟩

/-- an exception: its class, what it keeps -/
structure Ex where
  cls : Value
  fs : List (Str × D)
def RepF (K : PySem.W.Frag) (H : Hp) : List (Str × D) → List (Str × V) → Prop
  | [], ws => ws = []
  | (k, d) :: r, ws => ∃ v t, ws = (k, v) :: t ∧ Rep K H d v ∧ RepF K H r t
def XRep (K : PySem.W.Frag) (S H : Hp) (x : Ex) (cls : Value) (dd : Option Addr) : Prop :=
  cls = x.cls ∧ ((x.fs = [] ∧ dd = none) ∨ ∃ d ws, dd = some d ∧ H d = some (.xd ws) ∧ RepF K S x.fs ws)

abbrev DE' := Ex → DSt → Prop
/-- readings over trees -/
abbrev DT := DE' → DSt → (D → DSt → Prop) → Prop
abbrev DTs := DE' → DSt → (List D → DSt → Prop) → Prop
abbrev DTt := DE' → DSt → (Bool → DSt → Prop) → Prop
def Mono {α : Type} (t : DE' → DSt → (α → DSt → Prop) → Prop) : Prop := ∀ E s (Q Q' : α → DSt → Prop), (∀ d s', Q d s' → Q' d s') → t E s Q → t E s Q'

/-- the wish about exceptions at the layer's level meets the one over trees -/
def EOk (K : PySem.W.Frag) (Z : Zf) (E : DE') (W : WX) : Prop := ∀ x s' cls dd σ H' o', E x s' → SR K Z σ H' s' o' → XRep K (S1 Z H' s' o') H' x cls dd → W cls dd σ H'

/-- read: the list itself may be this frame's own -/
def RepR (K : PySem.W.Frag) (S T : Hp) : D → V → Prop
  | .lst ds, v => ∃ a vs, v = .ref a ∧ T a = some (.lst vs) ∧ Reps K S ds vs
  | .dct kvs, v => ∃ a ws, v = .ref a ∧ T a = some (.dK ws) ∧ RepK K S kvs ws
  | d, v => Rep K S d v
theorem Rep.toR {K : PySem.W.Frag} {S T : Hp} (e : Same S T) : ∀ {d : D} {v : V}, Rep K S d v → RepR K S T d v
  | .non, _, h => h
  | .bl _, _, h => h
  | .int _, _, h => h
  | .str _, _, h => h
  | .ty _, _, h => h
  | .ref _, _, h => h
  | .tup _, _, h => h
  | .sq _, _, h => h
  | .lst _, _, ⟨a, vs, e1, h1, h2⟩ => ⟨a, vs, e1, e _ _ h1, h2⟩
  | .dct _, _, ⟨a, vs, e1, h1, h2⟩ => ⟨a, vs, e1, e _ _ h1, h2⟩
theorem RepR.mono {K : PySem.W.Frag} {S T S' T' : Hp} (e : Same S S') (e2 : Same T T') : ∀ {d : D} {v : V}, RepR K S T d v → RepR K S' T' d v
  | .non, _, h => h
  | .bl _, _, h => h
  | .int _, _, h => h
  | .str _, _, h => h
  | .ty _, _, h => h
  | .ref _, _, h => h
  | .tup _, _, h => Rep.mono (K := K) e (.tup _) _ h
  | .sq _, _, h => Rep.mono (K := K) e (.sq _) _ h
  | .lst _, _, ⟨a, vs, e1, h1, h2⟩ => ⟨a, vs, e1, e2 _ _ h1, Reps.mono e _ _ h2⟩
  | .dct _, _, ⟨a, vs, e1, h1, h2⟩ => ⟨a, vs, e1, e2 _ _ h1, RepK.mono e _ _ h2⟩
def RepRs (K : PySem.W.Frag) (S T : Hp) : List D → List V → Prop
  | [], vs => vs = []
  | d :: ds, vs => ∃ v r, vs = v :: r ∧ RepR K S T d v ∧ RepRs K S T ds r
theorem RepRs.mono {K : PySem.W.Frag} {S T S' T' : Hp} (e : Same S S') (e2 : Same T T') : ∀ {ds : List D} {vs : List V}, RepRs K S T ds vs → RepRs K S' T' ds vs
  | [], _, h => h
  | d :: ds, _, ⟨v, r, e1, h1, h2⟩ => ⟨v, r, e1, h1.mono e e2, RepRs.mono e e2 h2⟩

def aE (K : PySem.W.Frag) (Z : Zf) (t : DT) (E : DE') : TE := fun σ H Q => ∃ s o, SR K Z σ H s o ∧ t E s fun d s' => ∀ v H' o', SR K Z σ H' s' o' → Stp Z H s o H' s' o' → Rep K (S1 Z H' s' o') d v → Q v H'
/-- .. read, not kept -/
def aR (K : PySem.W.Frag) (Z : Zf) (t : DT) (E : DE') : TE := fun σ H Q => ∃ s o, SR K Z σ H s o ∧ t E s fun d s' => ∀ v H' o', SR K Z σ H' s' o' → Stp Z H s o H' s' o' → RepR K (S1 Z H' s' o') (S2 Z H' s') d v → Q v H'
/-- the place a is barred too -/
def Zf.add (Z : Zf) (a : Addr) : Zf := { Z with B := fun b => b = a ∨ Z.B b }
/-- .. a list that nobody else holds -/
def aF (K : PySem.W.Frag) (Z : Zf) (t : DTs) (E : DE') : TE := fun σ H Q => ∃ s o, SR K Z σ H s o ∧ t E s fun ds s' => ∀ a vs H' o', SR K (Z.add a) σ H' s' o' → Stp Z H s o H' s' o' → H a = none → H' a = some (.lst vs) → ¬ mut1 Z s' o' a →
  Reps K (S1 (Z.add a) H' s' o') ds vs → Q (.ref a) H'
abbrev DTk := DE' → DSt → (List (Key × D) → DSt → Prop) → Prop
def aK (K : PySem.W.Frag) (Z : Zf) (t : DTk) (E : DE') : TE := fun σ H Q => ∃ s o, SR K Z σ H s o ∧ t E s fun ds s' => ∀ a vs H' o', SR K (Z.add a) σ H' s' o' → Stp Z H s o H' s' o' → H a = none → H' a = some (.dK vs) → ¬ mut1 Z s' o' a →
  RepK K (S1 (Z.add a) H' s' o') ds vs → Q (.ref a) H'
/-- arguments -/
def aA (K : PySem.W.Frag) (Z : Zf) (t : DTs) (E : DE') : TA := fun σ H Q => ∃ s o, SR K Z σ H s o ∧ t E s fun ds s' => ∀ vs H' o', SR K Z σ H' s' o' → Stp Z H s o H' s' o' → Reps K (S1 Z H' s' o') ds vs → Q vs H'
def aRs (K : PySem.W.Frag) (Z : Zf) (t : DTs) (E : DE') : TA := fun σ H Q => ∃ s o, SR K Z σ H s o ∧ t E s fun ds s' => ∀ vs H' o', SR K Z σ H' s' o' → Stp Z H s o H' s' o' → RepRs K (S1 Z H' s' o') (S2 Z H' s') ds vs → Q vs H'
def aT (K : PySem.W.Frag) (Z : Zf) (t : DTt) (E : DE') : TT := fun σ H Q => ∃ s o, SR K Z σ H s o ∧ t E s fun b s' => ∀ H' o', SR K Z σ H' s' o' → Stp Z H s o H' s' o' → Q b H'

theorem PE.weak {X : Cx} {e : Expr} {t t' : TE} (h : PE X e t) (w : ∀ σ H Q, t' σ H Q → t σ H Q) : PE X e t' := ⟨fun pins s σ H Q I q => h.run pins s σ H Q I (w σ H Q q)⟩
theorem PT.weak {X : Cx} {e : Expr} {t t' : TT} (h : PT X e t) (w : ∀ σ H Q, t' σ H Q → t σ H Q) : PT X e t' := ⟨fun pins s σ H Q I q => h.run pins s σ H Q I (w σ H Q q)⟩
theorem PA.weak {X : Cx} {e : List Expr} {t t' : TA} (h : PA X e t) (w : ∀ σ H Q, t' σ H Q → t σ H Q) : PA X e t' := ⟨fun pos pins s σ H Q I q => h.run pos pins s σ H Q I (w σ H Q q)⟩
theorem PS.weak {X : Cx} {e : Stmt} {t t' : TS} (h : PS X e t) (w : ∀ D σ H, t' D σ H → t D σ H) : PS X e t' := ⟨fun pins s σ H Q I q => h.run pins s σ H Q I (w Q σ H q)⟩
theorem PSs.weak {X : Cx} {e : List Stmt} {t t' : TS} (h : PSs X e t) (w : ∀ D σ H, t' D σ H → t D σ H) : PSs X e t' := ⟨fun pins s σ H Q I q => h.run pins s σ H Q I (w Q σ H q)⟩
end DL

set_option Elab.async false
set_option linter.all false
set_option maxRecDepth 100000
namespace DL
open PySem PySem.Spec L2
open PyProof.Rows hiding St
section
variable {K : PySem.W.Frag} {Z : Zf} {σ : St} {H H' : Hp} {s : DSt} {o : Own}
theorem SR.mutH (r : SR K Z σ H s o) {b : Addr} (h : mut1 Z s o b) : ∃ u, H b = some u := by
  rcases h with h | h | ⟨i, h⟩
  · exact r.bok b h
  · obtain ⟨⟨a, ds⟩, hm, e⟩ := List.mem_map.mp h
    subst e
    obtain ⟨vs, e, _⟩ := r.gam a ds hm
    exact ⟨_, e⟩
  · have q := r.slot i
    rw [h] at q
    cases e : s.ρ[i]? with
    | none => rw [e] at q; cases (show _ = none from q)
    | some x =>
      rw [e] at q
      cases x with
      | emp => cases (show _ = none from q)
      | val d => cases q.1
      | lst ds =>
        obtain ⟨a, vs, e1, _, e2, _⟩ := q
        cases e1
        exact ⟨_, e2⟩
      | dct ds =>
        obtain ⟨a, vs, e1, _, e2, _⟩ := q
        cases e1
        exact ⟨_, e2⟩
theorem SR.fresh (r : SR K Z σ H s o) {p : Addr} (h : H p = none) : ¬ mut1 Z s o p := fun q => by
  obtain ⟨u, e⟩ := r.mutH q
  rw [h] at e
  cases e
theorem same_alloc {M : Addr → Prop} (e : Same H H') : Same (hid H M) (hid H' M) := same_hid fun b o n h => ⟨n, e _ _ h⟩
theorem SlotOk.mono {S S' : Hp} (e1 : Same S S') {x : Option Sl} {w : Option (Option V)} {a : Option Addr} (e2 : ∀ b, a = some b → ∀ u, H b = some u → H' b = some u) (h : SlotOk K S H x w a) : SlotOk K S' H' x w a := by
  cases x with
  | none => exact h
  | some x =>
    cases x with
    | emp => exact h
    | val d => obtain ⟨h1, v, h2, h3⟩ := h; exact ⟨h1, v, h2, Rep.mono e1 d v h3⟩
    | lst ds => obtain ⟨b, vs, h1, h2, h3, h4⟩ := h; exact ⟨b, vs, h1, h2, e2 b h1 _ h3, Reps.mono e1 _ _ h4⟩
    | dct ds => obtain ⟨b, vs, h1, h2, h3, h4⟩ := h; exact ⟨b, vs, h1, h2, e2 b h1 _ h3, RepK.mono e1 _ _ h4⟩
theorem SR.alloc (r : SR K Z σ H s o) (e : Same H H') : SR K Z σ H' s o :=
  ⟨r.len, fun i => (r.slot i).mono (same_alloc e) fun b _ u h => e _ _ h, r.inj, r.own, fun a ds hm => by
    obtain ⟨vs, h1, h2⟩ := r.gam a ds hm
    exact ⟨vs, e _ _ h1, Reps.mono (same_alloc e) _ _ h2⟩, r.gnd, r.gold, fun b u h1 h2 => e _ _ (r.frame b u h1 h2), fun b h => (r.bok b h).imp fun u h => e _ _ h, fun b h => (r.gok b h).imp fun u h => e _ _ h⟩
theorem Stp.alloc (e : Same H H') : Stp Z H s o H' s o := ⟨same_alloc e, same_alloc e, fun b h => e.free h, fun b u _ h => e _ _ h⟩
theorem same_new {p : Addr} {u : HO} (h : H p = none) : Same H (upd H p u) := fun b x e => by
  rw [upd_ne (ne_of_none e h)]
  exact e
theorem SR.sameH (r : SR K Z σ H s o) : Same (S1 Z H s o) H := hid_same

/-- slot i freezes: its list is a value from now on -/
def Sl.frozen : Sl → Sl
  | .lst ds => .val (.lst ds)
  | .dct ds => .val (.dct ds)
  | x => x
def unOwn (o : Own) (i : Nat) : Own := fun j => if j = i then none else o j
theorem SR.freeze (r : SR K Z σ H s o) (i : Nat) {x : Sl} (hx : s.ρ[i]? = some x) : SR K Z σ H ⟨s.ρ.set i x.frozen, s.Γ⟩ (unOwn o i) ∧ Stp Z H s o H ⟨s.ρ.set i x.frozen, s.Γ⟩ (unOwn o i) := by
  have sub : Same (S1 Z H s o) (S1 Z H ⟨s.ρ.set i x.frozen, s.Γ⟩ (unOwn o i)) := same_hid fun b u n h => ⟨fun q => n (by
    rcases q with q | q | ⟨j, q⟩
    · exact .inl q
    · exact .inr (.inl q)
    · unfold unOwn at q
      split at q
      · cases q
      · exact .inr (.inr ⟨j, q⟩)), h⟩
  have lt : i < s.ρ.length := (List.getElem?_eq_some_iff.mp hx).1
  have os : ∀ {j a}, unOwn o i j = some a → o j = some a ∧ j ≠ i := fun {j a} q => by
    unfold unOwn at q
    split at q
    · cases q
    · rename_i ne
      exact ⟨q, ne⟩
  refine ⟨⟨by simpa using r.len, fun j => ?_, fun j k a h1 h2 => r.inj j k a (os h1).1 (os h2).1, fun j a h => r.own j a (os h).1, fun a ds hm => ?_, r.gnd, r.gold, r.frame, r.bok, r.gok⟩, ⟨sub, Same.refl _, fun _ h => h, fun _ _ _ h => h⟩⟩
  · by_cases hj : j = i
    · subst hj
      have q := r.slot j
      rw [hx] at q
      show SlotOk K _ H (s.ρ.set j x.frozen)[j]? _ _
      rw [List.getElem?_set_self lt, show unOwn o j j = none from if_pos rfl]
      cases x with
      | emp => exact rfl
      | val d => obtain ⟨h1, v, h2, h3⟩ := q; exact ⟨rfl, v, h2, Rep.mono sub d v h3⟩
      | lst ds =>
        obtain ⟨a, vs, h1, h2, h3, h4⟩ := q
        refine ⟨rfl, .ref a, h2, a, vs, rfl, ?_, Reps.mono sub _ _ h4⟩
        refine hid_some.mpr ⟨fun z => ?_, h3⟩
        obtain ⟨_, n2, n3⟩ := r.own j a h1
        rcases z with z | z | ⟨k, z⟩
        · exact n3 z
        · exact n2 z
        · obtain ⟨z1, z2⟩ := os z
          exact z2 (r.inj k j a z1 h1)
      | dct ds =>
        obtain ⟨a, vs, h1, h2, h3, h4⟩ := q
        refine ⟨rfl, .ref a, h2, a, vs, rfl, ?_, RepK.mono sub _ _ h4⟩
        refine hid_some.mpr ⟨fun z => ?_, h3⟩
        obtain ⟨_, n2, n3⟩ := r.own j a h1
        rcases z with z | z | ⟨k, z⟩
        · exact n3 z
        · exact n2 z
        · obtain ⟨z1, z2⟩ := os z
          exact z2 (r.inj k j a z1 h1)
    · show SlotOk K _ H (s.ρ.set i x.frozen)[j]? _ _
      rw [List.getElem?_set_ne (Ne.symm hj), show unOwn o i j = o j from if_neg hj]
      exact (r.slot j).mono sub fun _ _ _ h => h
  · obtain ⟨vs, h1, h2⟩ := r.gam a ds hm
    exact ⟨vs, h1, Reps.mono sub _ _ h2⟩
end

/-! ### judgements -/
structure DE (X : Cx) (Z : Zf) (e : Expr) (t : DT) : Prop where
  mono : Mono t
  run : ∀ E W, Takes X W → EOk X.K Z E W → PE X e (aE X.K Z t E)
structure DR (X : Cx) (Z : Zf) (e : Expr) (t : DT) : Prop where
  mono : Mono t
  run : ∀ E W, Takes X W → EOk X.K Z E W → PE X e (aR X.K Z t E)
structure DF (X : Cx) (Z : Zf) (e : Expr) (t : DTs) : Prop where
  mono : Mono t
  run : ∀ E W, Takes X W → EOk X.K Z E W → PE X e (aF X.K Z t E)
structure DK (X : Cx) (Z : Zf) (e : Expr) (t : DTk) : Prop where
  mono : Mono t
  run : ∀ E W, Takes X W → EOk X.K Z E W → PE X e (aK X.K Z t E)
structure DA (X : Cx) (Z : Zf) (es : List Expr) (t : DTs) : Prop where
  mono : Mono t
  run : ∀ E W, Takes X W → EOk X.K Z E W → PA X es (aA X.K Z t E)
structure DAR (X : Cx) (Z : Zf) (es : List Expr) (t : DTs) : Prop where
  mono : Mono t
  run : ∀ E W, Takes X W → EOk X.K Z E W → PA X es (aRs X.K Z t E)
structure DTe (X : Cx) (Z : Zf) (e : Expr) (t : DTt) : Prop where
  mono : Mono t
  run : ∀ E W, Takes X W → EOk X.K Z E W → PT X e (aT X.K Z t E)
structure DW (X : Cx) (Z : Zf) (e : Expr) (t : DTt) : Prop where
  mono : Mono t
  run : ∀ E W, Takes X W → EOk X.K Z E W → PW X e (aT X.K Z t E)

section
variable {X : Cx} {Z : Zf} {e : Expr} {t : DT}
theorem DE.toR (h : DE X Z e t) : DR X Z e t := ⟨h.mono, fun E W tk ek => PE.weak (h.run E W tk ek) fun σ H Q ⟨s, o, r, q⟩ =>
  ⟨s, o, r, h.mono _ _ _ _ (fun d s' hq v H' o' r' st rp => hq v H' o' r' st (rp.toR S12)) q⟩⟩
/-- a new list is a value -/
def dFrz (t : DTs) : DT := fun E s Q => t E s fun ds s' => Q (.lst ds) s'
theorem Mono.frz {t : DTs} (m : Mono t) : Mono (dFrz t) := fun E s Q Q' h q => m _ _ _ _ (fun ds s' x => h _ _ x) q
theorem add_sub {H : Hp} {s : DSt} {o : Own} {a : Addr} : Same (S1 (Z.add a) H s o) (S1 Z H s o) := same_hid fun b u n h => ⟨fun z => n (z.elim (fun z => .inl (.inr z)) .inr), h⟩
theorem add_sub2 {H : Hp} {s : DSt} {a : Addr} : Same (S2 (Z.add a) H s) (S2 Z H s) := same_hid fun b u n h => ⟨fun z => n (z.elim (fun z => .inl (.inr z)) .inr), h⟩
theorem SR.drop {K : PySem.W.Frag} {σ : St} {H : Hp} {s : DSt} {o : Own} {a : Addr} (r : SR K (Z.add a) σ H s o) : SR K Z σ H s o :=
  ⟨r.len, fun i => (r.slot i).mono add_sub fun _ _ _ h => h, r.inj, fun i b h => ⟨(r.own i b h).1, (r.own i b h).2.1, fun z => (r.own i b h).2.2 (.inr z)⟩, fun b ds h => (r.gam b ds h).imp fun vs h => ⟨h.1, Reps.mono add_sub _ _ h.2⟩, r.gnd,
    fun b h => ⟨fun z => (r.gold b h).1 (.inr z), (r.gold b h).2⟩, r.frame, fun b h => r.bok b (.inr h), r.gok⟩
/-- a new object is barred -/
theorem SR.addNew {K : PySem.W.Frag} {σ : St} {H : Hp} {s : DSt} {o : Own} {p : Addr} {u : HO} (r : SR K Z σ H s o) (np : H p = none) : SR K (Z.add p) σ (upd H p u) s o ∧ Same (S1 Z H s o) (S1 (Z.add p) (upd H p u) s o) := by
  have e := same_new (u := u) np
  have sub : Same (S1 Z H s o) (S1 (Z.add p) (upd H p u) s o) := same_hid fun b x n h => ⟨fun z => by
    rcases z with z | z | z
    · rcases z with z | z
      · rw [z, np] at h
        cases h
      · exact n (.inl z)
    · exact n (.inr (.inl z))
    · exact n (.inr (.inr z)), e _ _ h⟩
  refine ⟨⟨r.len, fun i => (r.slot i).mono sub fun _ _ _ h => e _ _ h, r.inj, fun i b h => ⟨(r.own i b h).1, (r.own i b h).2.1, fun z => ?_⟩, fun b ds h => (r.gam b ds h).imp fun vs h => ⟨e _ _ h.1, Reps.mono sub _ _ h.2⟩, r.gnd,
    fun b h => ⟨fun z => ?_, (r.gold b h).2⟩, fun b x h1 h2 => e _ _ (r.frame b x h1 h2), fun b h => ?_, fun b h => (r.gok b h).imp fun x h => e _ _ h⟩, sub⟩
  · rcases z with z | z
    · subst z
      exact r.fresh np (.inr (.inr ⟨i, h⟩))
    · exact (r.own i b h).2.2 z
  · rcases z with z | z
    · subst z
      exact r.fresh np (.inr (.inl h))
    · exact (r.gold b h).1 z
  · rcases h with h | h
    · subst h
      exact ⟨_, upd_same⟩
    · exact (r.bok b h).imp fun x h => e _ _ h
theorem frz_rep {K : PySem.W.Frag} {H : Hp} {s : DSt} {o : Own} {a : Addr} {vs : List V} {ds : List D} (h1 : H a = some (.lst vs)) (h2 : ¬ mut1 Z s o a) (h3 : Reps K (S1 (Z.add a) H s o) ds vs) : Rep K (S1 Z H s o) (.lst ds) (.ref a) :=
  ⟨a, vs, rfl, hid_some.mpr ⟨h2, h1⟩, Reps.mono add_sub _ _ h3⟩
theorem DF.toE {t : DTs} (h : DF X Z e t) : DE X Z e (dFrz t) := ⟨h.mono.frz, fun E W tk ek => PE.weak (h.run E W tk ek) fun σ H Q ⟨s, o, r, q⟩ =>
  ⟨s, o, r, h.mono _ _ _ _ (fun ds s' hq a vs H' o' r' st n1 n2 n3 rp => hq _ H' o' r'.drop st (frz_rep n2 n3 rp)) q⟩⟩
def dFrzK (t : DTk) : DT := fun E s Q => t E s fun ds s' => Q (.dct ds) s'
theorem DK.toE {t : DTk} (h : DK X Z e t) : DE X Z e (dFrzK t) := ⟨fun E s Q Q' m q => h.mono _ _ _ _ (fun ds s' x => m _ _ x) q, fun E W tk ek => PE.weak (h.run E W tk ek) fun σ H Q ⟨s, o, r, q⟩ =>
  ⟨s, o, r, h.mono _ _ _ _ (fun ds s' hq a vs H' o' r' st n1 n2 n3 rp => hq _ H' o' r'.drop st ⟨a, vs, rfl, hid_some.mpr ⟨n3, n2⟩, RepK.mono add_sub _ _ rp⟩) q⟩⟩

/-! ### names, constants -/
def dC (d : D) : DT := fun _ s Q => Q d s
theorem de_c {v : V} {d : D} (h : PE X e (tC v)) (hr : ∀ S, Rep X.K S d v) : DE X Z e (dC d) :=
  ⟨fun E s Q Q' m q => m _ _ q, fun E W tk ek => PE.weak h fun σ H Q ⟨s, o, r, q⟩ => q v H o r Stp.refl (hr _)⟩
def slotD (Q : D → DSt → Prop) (s : DSt) (i : Nat) : Option Sl → Prop
  | some (.val d) => Q d s
  | some (.lst ds) => Q (.lst ds) ⟨s.ρ.set i (.val (.lst ds)), s.Γ⟩
  | some (.dct ds) => Q (.dct ds) ⟨s.ρ.set i (.val (.dct ds)), s.Γ⟩
  | _ => False
def dVar (i : Nat) : DT := fun _ s Q => slotD Q s i s.ρ[i]?
theorem de_var {i : Nat} (h : PE X e (tVar i)) : DE X Z e (dVar i) := by
  refine ⟨fun E s Q Q' m q => ?_, fun E W tk ek => PE.weak h fun σ H Q ⟨s, o, r, q⟩ => ?_⟩
  · unfold dVar at q ⊢
    cases hx : s.ρ[i]? with
    | none => rw [hx] at q; exact q.elim
    | some x =>
      rw [hx] at q
      cases x with
      | emp => exact q.elim
      | val d => exact m _ _ q
      | lst ds => exact m _ _ q
      | dct ds => exact m _ _ q
  · unfold dVar at q
    cases hx : s.ρ[i]? with
    | none => rw [hx] at q; exact q.elim
    | some x =>
      rw [hx] at q
      have sl := r.slot i
      rw [hx] at sl
      cases x with
      | emp => exact q.elim
      | val d =>
        obtain ⟨_, v, e1, e2⟩ := sl
        exact ⟨v, e1, q v H o r Stp.refl e2⟩
      | lst ds =>
        obtain ⟨fr, st⟩ := r.freeze i hx
        have s2 := fr.slot i
        have lt : i < s.ρ.length := (List.getElem?_eq_some_iff.mp hx).1
        have s3 : SlotOk X.K _ H (s.ρ.set i (.val (.lst ds)))[i]? _ _ := s2
        rw [List.getElem?_set_self lt] at s3
        obtain ⟨_, v, e1, e2⟩ := s3
        exact ⟨v, e1, q v H _ fr st e2⟩
      | dct ds =>
        obtain ⟨fr, st⟩ := r.freeze i hx
        have s2 := fr.slot i
        have lt : i < s.ρ.length := (List.getElem?_eq_some_iff.mp hx).1
        have s3 : SlotOk X.K _ H (s.ρ.set i (.val (.dct ds)))[i]? _ _ := s2
        rw [List.getElem?_set_self lt] at s3
        obtain ⟨_, v, e1, e2⟩ := s3
        exact ⟨v, e1, q v H _ fr st e2⟩
def slotP (Q : D → DSt → Prop) (s : DSt) : Option Sl → Prop
  | some (.val d) => Q d s
  | some (.lst ds) => Q (.lst ds) s
  | some (.dct ds) => Q (.dct ds) s
  | _ => False
/-- read, not kept -/
def dPeek (i : Nat) : DT := fun _ s Q => slotP Q s s.ρ[i]?
theorem dr_var {i : Nat} (h : PE X e (tVar i)) : DR X Z e (dPeek i) := by
  refine ⟨fun E s Q Q' m q => ?_, fun E W tk ek => PE.weak h fun σ H Q ⟨s, o, r, q⟩ => ?_⟩
  · unfold dPeek at q ⊢
    cases hx : s.ρ[i]? with
    | none => rw [hx] at q; exact q.elim
    | some x =>
      rw [hx] at q
      cases x with
      | emp => exact q.elim
      | val d => exact m _ _ q
      | lst ds => exact m _ _ q
      | dct ds => exact m _ _ q
  · unfold dPeek at q
    cases hx : s.ρ[i]? with
    | none => rw [hx] at q; exact q.elim
    | some x =>
      rw [hx] at q
      have sl := r.slot i
      rw [hx] at sl
      cases x with
      | emp => exact q.elim
      | val d =>
        obtain ⟨_, v, e1, e2⟩ := sl
        exact ⟨v, e1, q v H o r Stp.refl (e2.toR S12)⟩
      | lst ds =>
        obtain ⟨a, vs, e0, e1, e2, e3⟩ := sl
        obtain ⟨_, n2, n3⟩ := r.own i a e0
        exact ⟨.ref a, e1, q (.ref a) H o r Stp.refl ⟨a, vs, rfl, hid_some.mpr ⟨fun z => z.elim n3 n2, e2⟩, e3⟩⟩
      | dct ds =>
        obtain ⟨a, vs, e0, e1, e2, e3⟩ := sl
        obtain ⟨_, n2, n3⟩ := r.own i a e0
        exact ⟨.ref a, e1, q (.ref a) H o r Stp.refl ⟨a, vs, rfl, hid_some.mpr ⟨fun z => z.elim n3 n2, e2⟩, e3⟩⟩

/-! ### operations by values -/
/-- what an operation hands on: a value that was there or new objects -/
def Dlv (K : PySem.W.Frag) (Z : Zf) (H : Hp) (s : DSt) (o : Own) (Q : VK) (d : D) : Prop := ∀ v H', Same H H' → Rep K (S1 Z H' s o) d v → Q v H'
/-- two values -/
abbrev P2 := DSt → D → D → (D → Prop) → Prop
def P2.Mono (p : P2) : Prop := ∀ s x y (Q Q' : D → Prop), (∀ d, Q d → Q' d) → p s x y Q → p s x y Q'
structure Op2 (X : Cx) (Z : Zf) (r : R2) (p : P2) : Prop where
  mono : p.Mono
  run : ∀ σ H s o x y dx dy Q, SR X.K Z σ H s o → RepR X.K (S1 Z H s o) (S2 Z H s) dx x → RepR X.K (S1 Z H s o) (S2 Z H s) dy y → p s dx dy (Dlv X.K Z H s o Q) → r x y H Q
def dOp (p : P2) (ta tb : DT) : DT := fun E s Q => ta E s fun x s1 => tb E s1 fun y s2 => p s2 x y fun z => Q z s2
theorem Mono.op {p : P2} {ta tb : DT} (m : p.Mono) (ma : Mono ta) (mb : Mono tb) : Mono (dOp p ta tb) := fun E s Q Q' h q =>
  ma _ _ _ _ (fun x s1 q => mb _ _ _ _ (fun y s2 q => m _ _ _ _ _ (fun d z => h _ _ z) q) q) q
theorem op_weak {K : PySem.W.Frag} {r : R2} {p : P2} {ta tb : DT} {E : DE'} {σ : St} {H : Hp} {Q : VK} (hK : X.K = K) (hp : Op2 X Z r p) (ma : Mono ta) (mb : Mono tb) (h : aE X.K Z (dOp p ta tb) E σ H Q) : tOp r (aR X.K Z ta E) (aR X.K Z tb E) σ H Q := by
  obtain ⟨s, o, sr, q⟩ := h
  refine ⟨s, o, sr, ma _ _ _ _ (fun dx s1 hx x H1 o1 sr1 st1 rx => ⟨s1, o1, sr1, mb _ _ _ _ (fun dy s2 hy y H2 o2 sr2 st2 ry => ?_) hx⟩) q⟩
  refine hp.run σ H2 s2 o2 x y dx dy Q sr2 (rx.mono st2.s1 st2.s2) ry (hp.mono _ _ _ _ _ (fun d hd v H' e rp => ?_) hy)
  exact hd v H' o2 (sr2.alloc e) ((st1.trans st2).trans (.alloc e)) rp
variable {a b : Expr} {ta tb : DT} {pos : Pos}
theorem de_op {op : Operator} {r : R2} {p : P2} (ho : OpR X (binaryOp op) r) (hp : Op2 X Z r p) (ha : DR X Z a ta) (hb : DR X Z b tb) : DE X Z (.BinOp a op b pos) (dOp p ta tb) :=
  ⟨.op hp.mono ha.mono hb.mono, fun E W tk ek => PE.weak (pe_op ho (ha.run E W tk ek) (hb.run E W tk ek)) fun σ H Q h => op_weak rfl hp ha.mono hb.mono h⟩
theorem de_cmp {op : CmpOp} {r : R2} {p : P2} (ho : OpR X (compareOp op) r) (hp : Op2 X Z r p) (ha : DR X Z a ta) (hb : DR X Z b tb) (hm : behindInMarks op b = false) : DE X Z (.Compare a [op] [b] pos) (dOp p ta tb) :=
  ⟨.op hp.mono ha.mono hb.mono, fun E W tk ek => PE.weak (pe_cmpR ho (ha.run E W tk ek) (hb.run E W tk ek) hm) fun σ H Q h => op_weak rfl hp ha.mono hb.mono h⟩
theorem de_ix {r : R2} {p : P2} (ho : IxR X r) (hp : Op2 X Z r p) (ha : DR X Z a ta) (hb : DR X Z b tb) (hs : PlainIx b) : DE X Z (.Subscript a b pos) (dOp p ta tb) :=
  ⟨.op hp.mono ha.mono hb.mono, fun E W tk ek => PE.weak (pe_ix ho (ha.run E W tk ek) (hb.run E W tk ek) hs) fun σ H Q h => op_weak rfl hp ha.mono hb.mono h⟩

/-- one value -/
abbrev P1 := DSt → D → (D → Prop) → Prop
def P1.Mono (p : P1) : Prop := ∀ s x (Q Q' : D → Prop), (∀ d, Q d → Q' d) → p s x Q → p s x Q'
structure Op1 (X : Cx) (Z : Zf) (r : V → Hp → VK → Prop) (p : P1) : Prop where
  mono : p.Mono
  run : ∀ σ H s o x dx Q, SR X.K Z σ H s o → RepR X.K (S1 Z H s o) (S2 Z H s) dx x → p s dx (Dlv X.K Z H s o Q) → r x H Q
def dUn (p : P1) (ta : DT) : DT := fun E s Q => ta E s fun x s1 => p s1 x fun z => Q z s1
theorem de_un {op : UnaryOp} {r : V → Hp → VK → Prop} {p : P1} (ho : UnR X (unaryOp op) r) (hp : Op1 X Z r p) (ha : DR X Z a ta) : DE X Z (.UnaryOp op a pos) (dUn p ta) := by
  refine ⟨fun E s Q Q' m q => ha.mono _ _ _ _ (fun x s1 q => hp.mono _ _ _ _ (fun d z => m _ _ z) q) q, fun E W tk ek => PE.weak (pe_un ho (ha.run E W tk ek)) fun σ H Q ⟨s, o, sr, q⟩ => ?_⟩
  refine ⟨s, o, sr, ha.mono _ _ _ _ (fun dx s1 hx x H1 o1 sr1 st1 rx => ?_) q⟩
  exact hp.run σ H1 s1 o1 x dx Q sr1 rx (hp.mono _ _ _ _ (fun d hd v H' e rp => hd v H' o1 (sr1.alloc e) (st1.trans (.alloc e)) rp) hx)

/-! ### arguments -/
def dNil : DTs := fun _ s Q => Q [] s
def dCons (t : DT) (u : DTs) : DTs := fun E s Q => t E s fun d s1 => u E s1 fun ds s2 => Q (d :: ds) s2
theorem Mono.nil : Mono dNil := fun _ _ _ _ h q => h _ _ q
theorem Mono.cons {t : DT} {u : DTs} (a : Mono t) (b : Mono u) : Mono (dCons t u) := fun E s Q Q' h q => a _ _ _ _ (fun d s1 q => b _ _ _ _ (fun ds s2 z => h _ _ z) q) q
theorem da_nil : DA X Z [] dNil := ⟨.nil, fun E W tk ek => PA.weak pa_nil fun σ H Q ⟨s, o, sr, q⟩ => q [] H o sr Stp.refl rfl⟩
theorem dar_nil : DAR X Z [] dNil := ⟨.nil, fun E W tk ek => PA.weak pa_nil fun σ H Q ⟨s, o, sr, q⟩ => q [] H o sr Stp.refl rfl⟩
variable {es : List Expr} {u : DTs}
theorem da_cons (ha : DE X Z e t) (hr : DA X Z es u) (hs : starEach (e :: es) X.env = (false, eval e X.env) :: starEach es X.env) : DA X Z (e :: es) (dCons t u) := by
  refine ⟨.cons ha.mono hr.mono, fun E W tk ek => PA.weak (pa_cons (ha.run E W tk ek) (hr.run E W tk ek) hs) fun σ H Q ⟨s, o, sr, q⟩ => ?_⟩
  refine ⟨s, o, sr, ha.mono _ _ _ _ (fun d s1 hd v H1 o1 sr1 st1 rd => ⟨s1, o1, sr1, hr.mono _ _ _ _ (fun ds s2 hds vs H2 o2 sr2 st2 rds => ?_) hd⟩) q⟩
  exact hds (v :: vs) H2 o2 sr2 (st1.trans st2) ⟨v, vs, rfl, Rep.mono st2.s1 _ _ rd, rds⟩
theorem dar_cons (ha : DR X Z e t) (hr : DAR X Z es u) (hs : starEach (e :: es) X.env = (false, eval e X.env) :: starEach es X.env) : DAR X Z (e :: es) (dCons t u) := by
  refine ⟨.cons ha.mono hr.mono, fun E W tk ek => PA.weak (pa_cons (ha.run E W tk ek) (hr.run E W tk ek) hs) fun σ H Q ⟨s, o, sr, q⟩ => ?_⟩
  refine ⟨s, o, sr, ha.mono _ _ _ _ (fun d s1 hd v H1 o1 sr1 st1 rd => ⟨s1, o1, sr1, hr.mono _ _ _ _ (fun ds s2 hds vs H2 o2 sr2 st2 rds => ?_) hd⟩) q⟩
  exact hds (v :: vs) H2 o2 sr2 (st1.trans st2) ⟨v, vs, rfl, rd.mono st2.s1 st2.s2, rds⟩
/-- (a, b, ..); [a, b, ..] -/
def dTup (t : DTs) : DT := fun E s Q => t E s fun ds s' => ds.length ≤ sizeLine ∧ Q (.tup ds) s'
theorem de_tup {k : Nat} (h : DA X Z es u) : DE X Z (.Tuple es k pos) (dTup u) := by
  refine ⟨fun E s Q Q' m q => h.mono _ _ _ _ (fun ds s' z => ⟨z.1, m _ _ z.2⟩) q, fun E W tk ek => PE.weak (pe_tup (h.run E W tk ek)) fun σ H Q ⟨s, o, sr, q⟩ => ?_⟩
  refine ⟨s, o, sr, h.mono _ _ _ _ (fun ds s1 hd vs H1 o1 sr1 st1 rd => ⟨?_, fun p np => ?_⟩) q⟩
  · rw [← rd.len]
    exact hd.1
  · have e := same_new (u := .tup vs) np
    exact hd.2 _ _ o1 (sr1.alloc e) (st1.trans (.alloc e)) ⟨p, vs, rfl, .inl (.inl (hid_some.mpr ⟨sr1.fresh np, upd_same⟩)), Reps.mono (same_alloc e) _ _ rd⟩
def dLst (t : DTs) : DTs := fun E s Q => t E s fun ds s' => ds.length ≤ sizeLine ∧ Q ds s'
theorem df_lst (h : DA X Z es u) : DF X Z (.List es pos) (dLst u) := by
  refine ⟨fun E s Q Q' m q => h.mono _ _ _ _ (fun ds s' z => ⟨z.1, m _ _ z.2⟩) q, fun E W tk ek => PE.weak (pe_lst (h.run E W tk ek)) fun σ H Q ⟨s, o, sr, q⟩ => ?_⟩
  refine ⟨s, o, sr, h.mono _ _ _ _ (fun ds s1 hd vs H1 o1 sr1 st1 rd => ⟨?_, fun p np => ?_⟩) q⟩
  · rw [← rd.len]
    exact hd.1
  · have e := same_new (u := .lst vs) np
    obtain ⟨a1, a2⟩ := sr1.addNew (u := .lst vs) np
    exact hd.2 p vs _ o1 a1 (st1.trans (.alloc e)) (st1.new _ np) upd_same (sr1.fresh np) (Reps.mono a2 _ _ rd)
end
end DL

set_option Elab.async false
set_option linter.all false
set_option maxRecDepth 100000
namespace DL
open PySem PySem.Spec L2
open PyProof.Rows hiding St

def BOp (X : Cx) (Z : Zf) (f : Value → Value → Sem Value) (p : P2) : Prop := ∃ r, OpR X f r ∧ Op2 X Z r p
def BIx (X : Cx) (Z : Zf) (p : P2) : Prop := ∃ r, IxR X r ∧ Op2 X Z r p
def BUn (X : Cx) (Z : Zf) (f : Value → Sem Value) (p : P1) : Prop := ∃ r, UnR X f r ∧ Op1 X Z r p
/-- a built-in called -/
abbrev PN := DSt → List D → (D → Prop) → Prop
def PN.Mono (p : PN) : Prop := ∀ s x (Q Q' : D → Prop), (∀ d, Q d → Q' d) → p s x Q → p s x Q'
structure OpN (X : Cx) (Z : Zf) (r : List V → Hp → VK → Prop) (p : PN) : Prop where
  mono : p.Mono
  run : ∀ σ H s o xs dxs Q, SR X.K Z σ H s o → RepRs X.K (S1 Z H s o) (S2 Z H s) dxs xs → p s dxs (Dlv X.K Z H s o Q) → r xs H Q
def BCall (X : Cx) (Z : Zf) (f : Value) (p : PN) : Prop := ∃ r, CallR X f r ∧ OpN X Z r p

section
variable {X : Cx} {Z : Zf} {σ : St} {H : Hp} {s : DSt} {o : Own} {Q : VK} {K : PySem.W.Frag}
theorem Dlv.int {i : Int} (h : Dlv K Z H s o Q (.int i)) : Q (.int i) H := h _ H (Same.refl _) rfl
theorem Dlv.bl {i : Bool} (h : Dlv K Z H s o Q (.bl i)) : Q (.bl i) H := h _ H (Same.refl _) rfl
theorem Dlv.str {i : Str} (h : Dlv K Z H s o Q (.str i)) : Q (.str i) H := h _ H (Same.refl _) rfl
theorem Dlv.same {d : D} {v : V} (h : Dlv K Z H s o Q d) (r : Rep K (S1 Z H s o) d v) : Q v H := h _ H (Same.refl _) r
theorem Dlv.tup {ds : List D} {vs : List V} {p : Addr} (sr : SR K Z σ H s o) (h : Dlv K Z H s o Q (.tup ds)) (r : Reps K (S1 Z H s o) ds vs) (np : H p = none) : Q (.ref p) (upd H p (.tup vs)) :=
  h _ _ (same_new np) ⟨p, vs, rfl, .inl (.inl (hid_some.mpr ⟨sr.fresh np, upd_same⟩)), Reps.mono (same_alloc (same_new np)) _ _ r⟩
theorem Dlv.lst {ds : List D} {vs : List V} {p : Addr} (sr : SR K Z σ H s o) (h : Dlv K Z H s o Q (.lst ds)) (r : Reps K (S1 Z H s o) ds vs) (np : H p = none) : Q (.ref p) (upd H p (.lst vs)) :=
  h _ _ (same_new np) ⟨p, vs, rfl, hid_some.mpr ⟨sr.fresh np, upd_same⟩, Reps.mono (same_alloc (same_new np)) _ _ r⟩
theorem seqT_hid {M : Addr → Prop} {a : Addr} {vs : List V} (h : SqT K (hid H M) a vs) : SqT K H a vs := same_seqT hid_same h
theorem seqL_hid {M : Addr → Prop} {a : Addr} {vs : List V} (h : SqL K (hid H M) a vs) : SqL K H a vs := Same.seq hid_same h
theorem at_hid {M : Addr → Prop} {a : Addr} {u : HO} (h : hid H M a = some u) : H a = some u := (hid_some.mp h).2

/-! ### + - * // % ** -/
def pAdd : P2 := fun _ x y Q => match x with
  | .int i => (match y with | .int j => Q (.int (i + j)) | _ => False)
  | .str a => (match y with | .str b => a.length + b.length ≤ sizeLine ∧ Q (.str (a ++ b)) | _ => False)
  | .tup a => (match y with | .tup b => a.length + b.length ≤ sizeLine ∧ Q (.tup (a ++ b)) | _ => False)
  | .lst a => (match y with | .lst b => a.length + b.length ≤ sizeLine ∧ Q (.lst (a ++ b)) | _ => False)
  | _ => False
theorem bop_add : BOp X Z (binaryOp .Add) pAdd := by
  refine ⟨_, (op_add.or op_add_str).or (op_catA.or op_cat), fun s x y Q Q' h q => ?_, fun σ H s o x y dx dy Q sr rx ry q => ?_⟩
  · cases x with
    | int i => cases y with
      | int j => exact h _ q
      | _ => exact q.elim
    | str i => cases y with
      | str j => exact ⟨q.1, h _ q.2⟩
      | _ => exact q.elim
    | tup i => cases y with
      | tup j => exact ⟨q.1, h _ q.2⟩
      | _ => exact q.elim
    | lst i => cases y with
      | lst j => exact ⟨q.1, h _ q.2⟩
      | _ => exact q.elim
    | _ => exact q.elim
  · cases dx with
    | int i => cases dy with
      | int j =>
        cases (show _ = _ from rx)
        cases (show _ = _ from ry)
        exact .inl (.inl ⟨i, j, rfl, rfl, q.int⟩)
      | _ => exact q.elim
    | str i => cases dy with
      | str j =>
        cases (show _ = _ from rx)
        cases (show _ = _ from ry)
        exact .inl (.inr ⟨i, j, rfl, rfl, q.1, q.2.str⟩)
      | _ => exact q.elim
    | tup i => cases dy with
      | tup j =>
        obtain ⟨a, vs, rfl, h1, h2⟩ := rx
        obtain ⟨b, ws, rfl, h3, h4⟩ := ry
        obtain ⟨q1, q2⟩ := q
        refine .inr (.inl ⟨a, b, vs, ws, rfl, rfl, seqT_hid h1, seqT_hid h3, by rw [← h2.len, ← h4.len]; exact q1, fun e => ?_, fun _ e => ?_, fun _ _ p np => q2.tup sr (h2.app h4) np⟩)
        · subst e
          have e2 := h2.len
          have e3 : i = [] := List.length_eq_zero_iff.mp e2
          subst e3
          exact q2.same ⟨b, ws, rfl, h3, h4⟩
        · subst e
          have e2 := h4.len
          have e3 : j = [] := List.length_eq_zero_iff.mp e2
          subst e3
          rw [List.append_nil] at q2
          exact q2.same ⟨a, vs, rfl, h1, h2⟩
      | _ => exact q.elim
    | lst i => cases dy with
      | lst j =>
        obtain ⟨a, vs, rfl, h1, h2⟩ := rx
        obtain ⟨b, ws, rfl, h3, h4⟩ := ry
        obtain ⟨q1, q2⟩ := q
        exact .inr (.inr ⟨a, b, vs, ws, rfl, rfl, at_hid h1, at_hid h3, by rw [← h2.len, ← h4.len]; exact q1, fun p np => q2.lst sr (h2.app h4) np⟩)
      | _ => exact q.elim
    | _ => exact q.elim
/-- two ints -/
def pI (C : Int → Int → Prop) (g : Int → Int → D) : P2 := fun _ x y Q => match x with
  | .int i => (match y with | .int j => C i j ∧ Q (g i j) | _ => False)
  | _ => False
theorem op2_I {r : R2} {C C' : Int → Int → Prop} {g : Int → Int → D} {g' : Int → Int → V} (hr : ∀ i j H Q, C' i j → Q (g' i j) H → r (.int i) (.int j) H Q) (hC : ∀ i j, C i j → C' i j) (hg : ∀ S i j, Rep X.K S (g i j) (g' i j)) : Op2 X Z r (pI C g) := by
  refine ⟨fun s x y Q Q' h q => ?_, fun σ H s o x y dx dy Q sr rx ry q => ?_⟩
  · cases x with
    | int i => cases y with
      | int j => exact ⟨q.1, h _ q.2⟩
      | _ => exact q.elim
    | _ => exact q.elim
  · cases dx with
    | int i => cases dy with
      | int j =>
        cases (show _ = _ from rx)
        cases (show _ = _ from ry)
        exact hr i j H Q (hC i j q.1) (q.2.same (hg _ i j))
      | _ => exact q.elim
    | _ => exact q.elim
theorem bop_sub : BOp X Z (binaryOp .Sub) (pI (fun _ _ => True) fun i j => .int (i - j)) := ⟨_, op_sub, op2_I (C' := fun _ _ => True) (fun i j H Q _ q => ⟨i, j, rfl, rfl, q⟩) (fun _ _ h => h) fun _ _ _ => rfl⟩
theorem bop_fdiv : BOp X Z (binaryOp .FloorDiv) (pI CDivW fun i j => .int (i / j)) := ⟨_, op_fdivW, op2_I (C' := CDivW) (fun i j H Q c q => ⟨i, j, rfl, rfl, c, q⟩) (fun _ _ h => h) fun _ _ _ => rfl⟩
theorem bop_mod : BOp X Z (binaryOp .Mod) (pI (fun _ j => 0 < j) fun i j => .int (i % j)) := ⟨_, op_mod, op2_I (C' := fun _ j => 0 < j) (fun i j H Q c q => ⟨i, j, rfl, rfl, c, q⟩) (fun _ _ h => h) fun _ _ _ => rfl⟩
theorem bop_pow : BOp X Z (binaryOp .Pow) (pI CPow fun i j => .int (i ^ j.toNat)) := ⟨_, op_pow, op2_I (C' := CPow) (fun i j H Q c q => ⟨i, j, rfl, rfl, c, q⟩) (fun _ _ h => h) fun _ _ _ => rfl⟩
def pMul : P2 := fun s x y Q => match x with
  | .int i => (match y with | .int j => CMulW i j ∧ Q (.int (i * j)) | _ => False)
  | .lst a => (match y with | .int k => -(2 ^ 63) ≤ k ∧ k < 2 ^ 63 ∧ a.length * k.toNat ≤ sizeLine ∧ Q (.lst (List.replicate k.toNat a).flatten) | _ => False)
  | .tup a => (match y with | .int k => -(2 ^ 63) ≤ k ∧ k < 2 ^ 63 ∧ (a = [] ∨ k ≤ 1 ∨ (k ≤ 1000 ∧ a.length ≤ 1000)) ∧ Q (.tup (List.replicate k.toNat a).flatten) | _ => False)
  | _ => False
theorem rep_nil {α : Type} (n : Nat) : (List.replicate n ([] : List α)).flatten = [] := by
  induction n with
  | zero => rfl
  | succ n ih => rw [List.replicate_succ, List.flatten_cons, ih]; rfl
theorem bop_mul : BOp X Z (binaryOp .Mult) pMul := by
  refine ⟨_, ((op_mulW.or op_rep).or op_repT).or op_repS, fun s x y Q Q' h q => ?_, fun σ H s o x y dx dy Q sr rx ry q => ?_⟩
  · cases x with
    | int i => cases y with
      | int j => exact ⟨q.1, h _ q.2⟩
      | _ => exact q.elim
    | tup i => cases y with
      | int j => exact ⟨q.1, q.2.1, q.2.2.1, h _ q.2.2.2⟩
      | _ => exact q.elim
    | lst i => cases y with
      | int j => exact ⟨q.1, q.2.1, q.2.2.1, h _ q.2.2.2⟩
      | _ => exact q.elim
    | _ => exact q.elim
  · cases dx with
    | int i => cases dy with
      | int j =>
        cases (show _ = _ from rx)
        cases (show _ = _ from ry)
        exact .inl (.inl (.inl ⟨i, j, rfl, rfl, q.1, q.2.int⟩))
      | _ => exact q.elim
    | tup i => cases dy with
      | int j =>
        obtain ⟨a, vs, rfl, h1, h2⟩ := rx
        cases (show _ = _ from ry)
        obtain ⟨q1, q2, q3, q4⟩ := q
        have hl := h2.len
        by_cases hi : i = []
        · subst hi
          rw [rep_nil] at q4
          have e : vs = [] := List.length_eq_zero_iff.mp hl.symm
          exact .inr ⟨a, j, vs, rfl, rfl, seqT_hid h1, q1, q2, .inl ⟨.inl e, q4.same ⟨a, vs, rfl, h1, h2⟩⟩⟩
        · have hv : vs ≠ [] := fun e => hi (by subst e; exact List.length_eq_zero_iff.mp hl)
          by_cases hj : 2 ≤ j
          · have q3' : j ≤ 1000 ∧ i.length ≤ 1000 := by
              rcases q3 with z | z | z
              · exact absurd z hi
              · omega
              · exact z
            exact .inl (.inr ⟨a, j, vs, rfl, rfl, seqT_hid h1, hv, hj, q3'.1, by rw [← hl]; exact q3'.2, fun p np => q4.tup sr (h2.rep _) np⟩)
          · by_cases hj1 : j = 1
            · subst hj1
              have e : (List.replicate (1 : Int).toNat i).flatten = i := by
                rw [show (1 : Int).toNat = 1 from rfl]
                simp
              rw [e] at q4
              exact .inr ⟨a, 1, vs, rfl, rfl, seqT_hid h1, q1, q2, .inl ⟨.inr rfl, q4.same ⟨a, vs, rfl, h1, h2⟩⟩⟩
            · have e : j.toNat = 0 := by omega
              rw [e, List.replicate_zero, List.flatten_nil] at q4
              exact .inr ⟨a, j, vs, rfl, rfl, seqT_hid h1, q1, q2, .inr ⟨hv, by omega, fun p np => q4.tup sr (vs := []) rfl np⟩⟩
      | _ => exact q.elim
    | lst i => cases dy with
      | int j =>
        obtain ⟨a, vs, rfl, h1, h2⟩ := rx
        cases (show _ = _ from ry)
        obtain ⟨q1, q2, q3, q4⟩ := q
        exact .inl (.inl (.inr ⟨a, j, vs, rfl, rfl, at_hid h1, q1, q2, by rw [← h2.len]; exact q3, fun p np => q4.lst sr (h2.rep _) np⟩))
      | _ => exact q.elim
    | _ => exact q.elim
def pNeg : P1 := fun _ x Q => match x with | .int i => Q (.int (-i)) | _ => False
theorem bun_neg : BUn X Z (unaryOp .USub) pNeg := by
  refine ⟨_, un_neg, fun s x Q Q' h q => ?_, fun σ H s o x dx Q sr rx q => ?_⟩
  · cases x with
    | int i => exact h _ q
    | _ => exact q.elim
  · cases dx with
    | int i =>
      cases (show _ = _ from rx)
      exact ⟨i, rfl, q.int⟩
    | _ => exact q.elim

/-! ### comparisons -/
theorem bop_le : BOp X Z (compareOp .LtE) (pI (fun _ _ => True) fun i j => .bl (decide (i ≤ j))) := ⟨_, op_le, op2_I (C' := fun _ _ => True) (fun i j H Q _ q => ⟨i, j, rfl, rfl, q⟩) (fun _ _ h => h) fun _ _ _ => rfl⟩
theorem bop_gt : BOp X Z (compareOp .Gt) (pI (fun _ _ => True) fun i j => .bl (decide (j < i))) := ⟨_, op_gt, op2_I (C' := fun _ _ => True) (fun i j H Q _ q => ⟨i, j, rfl, rfl, q⟩) (fun _ _ h => h) fun _ _ _ => rfl⟩
theorem bop_ge : BOp X Z (compareOp .GtE) (pI (fun _ _ => True) fun i j => .bl (decide (j ≤ i))) := ⟨_, op_ge, op2_I (C' := fun _ _ => True) (fun i j H Q _ q => ⟨i, j, rfl, rfl, q⟩) (fun _ _ h => h) fun _ _ _ => rfl⟩
def pLt : P2 := fun _ x y Q => match x with
  | .int i => (match y with | .int j => Q (.bl (decide (i < j))) | _ => False)
  | .str a => (match y with | .str b => Q (.bl (decide (a.cps.toList < b.cps.toList))) | _ => False)
  | _ => False
theorem bop_lt : BOp X Z (compareOp .Lt) pLt := by
  refine ⟨_, op_lt.or op_lt_str, fun s x y Q Q' h q => ?_, fun σ H s o x y dx dy Q sr rx ry q => ?_⟩
  · cases x with
    | int i => cases y with
      | int j => exact h _ q
      | _ => exact q.elim
    | str i => cases y with
      | str j => exact h _ q
      | _ => exact q.elim
    | _ => exact q.elim
  · cases dx with
    | int i => cases dy with
      | int j =>
        cases (show _ = _ from rx)
        cases (show _ = _ from ry)
        exact .inl ⟨i, j, rfl, rfl, q.bl⟩
      | _ => exact q.elim
    | str i => cases dy with
      | str j =>
        cases (show _ = _ from rx)
        cases (show _ = _ from ry)
        exact .inr ⟨i, j, rfl, rfl, q.bl⟩
      | _ => exact q.elim
    | _ => exact q.elim
mutual
/-- as plain data -/
def toP : D → PyData
  | .non => .none
  | .bl b => .bool b
  | .int i => .int i
  | .str x => .str x
  | .tup ds => .tuple (toPs ds)
  | .lst ds => .list (toPs ds)
  | _ => .none
def toPs : List D → List PyData
  | [] => []
  | d :: ds => toP d :: toPs ds
end
mutual
/-- is it plain data without dicts? -/
def isP : D → Bool
  | .non | .bl _ | .int _ | .str _ => true
  | .tup ds => isPs ds
  | .lst ds => isPs ds
  | _ => false
def isPs : List D → Bool
  | [] => true
  | d :: ds => isP d && isPs ds
end
mutual
theorem dp_of {K : PySem.W.Frag} {S : Hp} : ∀ (d : D) (v : V), isP d = true → Rep K S d v → Dp K S v (toP d)
  | .non, _, _, r => by cases (show _ = _ from r); exact .non
  | .bl b, _, _, r => by cases (show _ = _ from r); exact .bl b
  | .int i, _, _, r => by cases (show _ = _ from r); exact .int i
  | .str x, _, _, r => by cases (show _ = _ from r); exact .str x
  | .tup ds, _, h, r => by
    obtain ⟨a, vs, rfl, h1, h2⟩ := r
    exact .tup h1 (dps_of ds vs h h2)
  | .lst ds, _, h, r => by
    obtain ⟨a, vs, rfl, h1, h2⟩ := r
    exact .lst (.inl (.inl h1)) (dps_of ds vs h h2)
theorem dps_of {K : PySem.W.Frag} {S : Hp} : ∀ (ds : List D) (vs : List V), isPs ds = true → Reps K S ds vs → DpAll K S vs (toPs ds)
  | [], _, _, r => by cases (show _ = _ from r); exact .nil
  | d :: ds, _, h, r => by
    obtain ⟨v, t, rfl, h1, h2⟩ := r
    have h' : (isP d && isPs ds) = true := h
    rw [Bool.and_eq_true] at h'
    exact .cons (dp_of d v h'.1 h1) (dps_of ds t h'.2 h2)
end
mutual
theorem Dp.mono {K : PySem.W.Frag} {S T : Hp} (e : Same S T) : ∀ {v : V} {d : PyData}, Dp K S v d → Dp K T v d
  | _, _, .non => .non
  | _, _, .bl b => .bl b
  | _, _, .int i => .int i
  | _, _, .str x => .str x
  | _, _, .lst h1 h2 => .lst (e.seq h1) (DpAll.mono e h2)
  | _, _, .tup h1 h2 => .tup (same_seqT e h1) (DpAll.mono e h2)
theorem DpAll.mono {K : PySem.W.Frag} {S T : Hp} (e : Same S T) : ∀ {vs : List V} {ds : List PyData}, DpAll K S vs ds → DpAll K T vs ds
  | _, _, .nil => .nil
  | _, _, .cons a b => .cons (Dp.mono e a) (DpAll.mono e b)
end
theorem dp_R {S T H : Hp} (e1 : Same S H) (e2 : Same T H) {d : D} {v : V} (h : isP d = true) (r : RepR K S T d v) : Dp K H v (toP d) := by
  cases d with
  | lst ds =>
    obtain ⟨a, vs, rfl, h1, h2⟩ := r
    exact .lst (.inl (.inl (e2 _ _ h1))) (DpAll.mono e1 (dps_of ds vs h h2))
  | dct ds => cases h
  | sq ds => cases h
  | ref a => cases h
  | ty n => cases h
  | non => exact Dp.mono e1 (dp_of _ _ h r)
  | bl b => exact Dp.mono e1 (dp_of _ _ h r)
  | int i => exact Dp.mono e1 (dp_of _ _ h r)
  | str x => exact Dp.mono e1 (dp_of _ _ h r)
  | tup ds => exact Dp.mono e1 (dp_of (.tup ds) _ h r)
def okD (d : D) : Prop := isP d = true ∧ SeqAt.shaped (toP d) = true
def eqD (x y : D) : Bool := PyData.eqv (toP x) (toP y)
/-- unequal by their lengths alone -/
def lenNe : D → D → Bool
  | .lst a, .lst b => a.length != b.length
  | .sq a, .lst b => a.length != b.length
  | .lst a, .sq b => a.length != b.length
  | .tup a, .tup b => a.isEmpty != b.isEmpty
  | _, _ => false
theorem lenNe_ok {S T H : Hp} (e1 : Same S H) (e2 : Same T H) {x y : D} {v u : V} {k : Bool} {Q : VK} (h : lenNe x y = true) (r : RepR K S T x v) (r' : RepR K S T y u) (q : Q (.bl k) H) : rLen2 K k v u H Q := by
  cases x with
  | lst a => cases y with
    | lst b =>
      obtain ⟨l, vs, rfl, h1, h2⟩ := r
      obtain ⟨l', ws, rfl, h3, h4⟩ := r'
      refine ⟨l, l', vs, ws, rfl, rfl, .inl ⟨.inl (.inl (e2 _ _ h1)), .inl (.inl (e2 _ _ h3)), ?_⟩, q⟩
      rw [← h2.len, ← h4.len]
      exact bne_iff_ne.mp h
    | sq b =>
      obtain ⟨l, vs, rfl, h1, h2⟩ := r
      obtain ⟨l', ws, rfl, h3, h4⟩ := r'
      refine ⟨l, l', vs, ws, rfl, rfl, .inl ⟨.inl (.inl (e2 _ _ h1)), e1.seq h3, ?_⟩, q⟩
      rw [← h2.len, ← h4.len]
      exact bne_iff_ne.mp h
    | _ => cases h
  | sq a => cases y with
    | lst b =>
      obtain ⟨l, vs, rfl, h1, h2⟩ := r
      obtain ⟨l', ws, rfl, h3, h4⟩ := r'
      refine ⟨l, l', vs, ws, rfl, rfl, .inl ⟨e1.seq h1, .inl (.inl (e2 _ _ h3)), ?_⟩, q⟩
      rw [← h2.len, ← h4.len]
      exact bne_iff_ne.mp h
    | _ => cases h
  | tup a => cases y with
    | tup b =>
      obtain ⟨l, vs, rfl, h1, h2⟩ := r
      obtain ⟨l', ws, rfl, h3, h4⟩ := r'
      refine ⟨l, l', vs, ws, rfl, rfl, .inr ⟨same_seqT e1 h1, same_seqT e1 h3, ?_⟩, q⟩
      rw [List.isEmpty_eq_isEmpty_of h2.len, List.isEmpty_eq_isEmpty_of h4.len]
      exact bne_iff_ne.mp h
    | _ => cases h
  | _ => cases y <;> cases h
where
  List.isEmpty_eq_isEmpty_of {α β : Type} {a : List α} {b : List β} (h : a.length = b.length) : b.isEmpty = a.isEmpty := by
    cases a <;> cases b <;> simp_all
def strEq (x y : D) (k : Bool) (Q : D → Prop) : Prop := match x with
  | .str a => (match y with | .str b => Q (.bl (k != decide (a = b))) | _ => False)
  | _ => False
theorem strEq_mono {x y : D} {k : Bool} {Q Q' : D → Prop} (h : ∀ d, Q d → Q' d) (q : strEq x y k Q) : strEq x y k Q' := by
  cases x with
  | str a => cases y with
    | str b => exact h _ q
    | _ => exact q.elim
  | _ => exact q.elim
theorem dec_vstr {a b : Str} : decide (V.str a = V.str b) = decide (a = b) := by
  by_cases e : a = b
  · subst e
    simp
  · rw [decide_eq_false e, decide_eq_false fun z => e (V.str.inj z)]
def pEq : P2 := fun _ x y Q => (okD x ∧ okD y ∧ Q (.bl (eqD x y))) ∨ (lenNe x y = true ∧ Q (.bl false)) ∨ strEq x y false Q
def pNe : P2 := fun _ x y Q => (okD x ∧ okD y ∧ Q (.bl (!eqD x y))) ∨ (lenNe x y = true ∧ Q (.bl true)) ∨ strEq x y true Q
theorem bop_eq (hu : X.A.units + 64 < cLine) : BOp X Z (compareOp .Eq) pEq := by
  refine ⟨_, (op_eqD hu).or ((op_eqLen (by omega)).or op_eq), fun s x y Q Q' h q => q.imp (fun q => ⟨q.1, q.2.1, h _ q.2.2⟩) fun q => q.imp (fun q => ⟨q.1, h _ q.2⟩) fun q => strEq_mono h q, fun σ H s o x y dx dy Q sr rx ry q => q.imp
    (fun q => ⟨_, _, dp_R hid_same hid_same q.1.1 rx, dp_R hid_same hid_same q.2.1.1 ry, q.1.2, q.2.1.2, q.2.2.bl⟩) fun q => q.imp (fun q => lenNe_ok hid_same hid_same q.1 rx ry q.2.bl) fun q => ?_⟩
  cases dx with
  | str a => cases dy with
    | str b =>
      cases (show _ = _ from rx)
      cases (show _ = _ from ry)
      have q' : Dlv X.K Z H s o Q (.bl (decide (a = b))) := by
        have q2 : Dlv X.K Z H s o Q (.bl (false != decide (a = b))) := q
        rw [Bool.false_bne] at q2
        exact q2
      exact ⟨rfl, by rw [dec_vstr]; exact q'.bl⟩
    | _ => exact q.elim
  | _ => exact q.elim
theorem bop_ne (hu : X.A.units + 64 < cLine) : BOp X Z (compareOp .NotEq) pNe := by
  refine ⟨_, (op_neD hu).or ((op_neLen (by omega)).or op_ne), fun s x y Q Q' h q => q.imp (fun q => ⟨q.1, q.2.1, h _ q.2.2⟩) fun q => q.imp (fun q => ⟨q.1, h _ q.2⟩) fun q => strEq_mono h q, fun σ H s o x y dx dy Q sr rx ry q => q.imp
    (fun q => ⟨_, _, dp_R hid_same hid_same q.1.1 rx, dp_R hid_same hid_same q.2.1.1 ry, q.1.2, q.2.1.2, q.2.2.bl⟩) fun q => q.imp (fun q => lenNe_ok hid_same hid_same q.1 rx ry q.2.bl) fun q => ?_⟩
  cases dx with
  | str a => cases dy with
    | str b =>
      cases (show _ = _ from rx)
      cases (show _ = _ from ry)
      have q' : Dlv X.K Z H s o Q (.bl (!decide (a = b))) := by
        have q2 : Dlv X.K Z H s o Q (.bl (true != decide (a = b))) := q
        rw [Bool.true_bne] at q2
        exact q2
      exact ⟨rfl, by rw [dec_vstr]; exact q'.bl⟩
    | _ => exact q.elim
  | _ => exact q.elim
/-- is None, is True -/
def isNon : D → Bool
  | .non => true
  | _ => false
theorem isNon_rep {S T : Hp} {d : D} {v : V} (r : RepR K S T d v) : decide (v = .non) = isNon d := by
  cases d with
  | non => cases (show _ = _ from r); rfl
  | bl b => cases (show _ = _ from r); rfl
  | int i => cases (show _ = _ from r); rfl
  | str x => cases (show _ = _ from r); rfl
  | ty x => cases (show _ = _ from r); rfl
  | ref x => cases (show _ = _ from r); rfl
  | tup ds => obtain ⟨a, vs, rfl, _⟩ := r; rfl
  | lst ds => obtain ⟨a, vs, rfl, _⟩ := r; rfl
  | sq ds => obtain ⟨a, vs, rfl, _⟩ := r; rfl
  | dct ds => obtain ⟨a, vs, rfl, _⟩ := r; rfl
def pIs (neg : Bool) : P2 := fun _ x y Q => match y with
  | .non => Q (.bl (neg != isNon x))
  | .bl b => (match x with | .bl a => Q (.bl (neg != decide (a = b))) | _ => False)
  | _ => False
theorem pIs_mono {neg : Bool} : (pIs neg).Mono := fun s x y Q Q' h q => by
  cases y with
  | non => exact h _ q
  | bl b => cases x with
    | bl a => exact h _ q
    | _ => exact q.elim
  | _ => exact q.elim
theorem bop_is : BOp X Z (compareOp .Is) (pIs false) := by
  refine ⟨_, op_isN.or op_isBl, pIs_mono, fun σ H s o x y dx dy Q sr rx ry q => ?_⟩
  cases dy with
  | non =>
    cases (show _ = _ from ry)
    refine .inl ⟨rfl, ?_⟩
    rw [isNon_rep rx]
    have q' : Dlv X.K Z H s o Q (.bl (false != isNon dx)) := q
    rw [Bool.false_bne] at q'
    exact q'.bl
  | bl b => cases dx with
    | bl a =>
      cases (show _ = _ from ry)
      cases (show _ = _ from rx)
      have q' : Dlv X.K Z H s o Q (.bl (false != decide (a = b))) := q
      rw [Bool.false_bne] at q'
      exact .inr ⟨a, b, rfl, rfl, q'.bl⟩
    | _ => exact q.elim
  | _ => exact q.elim
theorem bop_isnot : BOp X Z (compareOp .IsNot) (pIs true) := by
  refine ⟨_, op_notN.or op_notBl, pIs_mono, fun σ H s o x y dx dy Q sr rx ry q => ?_⟩
  cases dy with
  | non =>
    cases (show _ = _ from ry)
    refine .inl ⟨rfl, ?_⟩
    rw [isNon_rep rx]
    have q' : Dlv X.K Z H s o Q (.bl (true != isNon dx)) := q
    rw [Bool.true_bne] at q'
    exact q'.bl
  | bl b => cases dx with
    | bl a =>
      cases (show _ = _ from ry)
      cases (show _ = _ from rx)
      have q' : Dlv X.K Z H s o Q (.bl (true != decide (a = b))) := q
      rw [Bool.true_bne] at q'
      exact .inr ⟨a, b, rfl, rfl, q'.bl⟩
    | _ => exact q.elim
  | _ => exact q.elim

/-! ### items -/
theorem at_reps {S : Hp} {ds : List D} {vs : List V} {i : Int} {d : D} (r : Reps K S ds vs) (e : atI ds i = some d) : ∃ v, atI vs i = some v ∧ Rep K S d v := by
  unfold atI at e ⊢
  rw [← r.len]
  cases q : ixN ds.length i with
  | none => rw [q] at e; cases e
  | some j =>
    rw [q] at e
    exact r.get (show ds[j]? = some d from e)
theorem lookup_in {β : Type} : ∀ {l : List (Addr × β)} {a : Addr} {b : β}, l.lookup a = some b → (a, b) ∈ l
  | (c, d) :: r, a, b, h => by
    rw [List.lookup_cons] at h
    by_cases e : a = c
    · subst e
      rw [beq_self_eq_true] at h
      cases h
      exact List.mem_cons_self
    · rw [beq_eq_false_iff_ne.mpr e] at h
      exact List.mem_cons_of_mem _ (lookup_in h)
theorem gam_look (sr : SR K Z σ H s o) {a : Addr} {ds : List D} (h : s.Γ.lookup a = some ds) : ∃ vs, H a = some (.lst vs) ∧ Reps K (S1 Z H s o) ds vs :=
  sr.gam a ds (lookup_in h)
def pIx : P2 := fun s x y Q => match y with
  | .int i => (match x with
    | .lst ds => ∃ d, atI ds i = some d ∧ Q d
    | .tup ds => ∃ d, atI ds i = some d ∧ Q d
    | .sq ds => ∃ d, atI ds i = some d ∧ Q d
    | .str z => z.length ≤ sizeLine ∧ ∃ c, atI z.cps.toList i = some c ∧ Q (.str ⟨#[c]⟩)
    | .ref a => ∃ ds d, s.Γ.lookup a = some ds ∧ atI ds i = some d ∧ Q d
    | _ => False)
  | _ => False
theorem bix : BIx X Z pIx := by
  refine ⟨_, ix_seq, fun s x y Q Q' h q => ?_, fun σ H s o x y dx dy Q sr rx ry q => ?_⟩
  · cases y with
    | int i => cases x with
      | lst ds => obtain ⟨d, e, q⟩ := q; exact ⟨d, e, h _ q⟩
      | tup ds => obtain ⟨d, e, q⟩ := q; exact ⟨d, e, h _ q⟩
      | sq ds => obtain ⟨d, e, q⟩ := q; exact ⟨d, e, h _ q⟩
      | str z => obtain ⟨z, d, e, q⟩ := q; exact ⟨z, d, e, h _ q⟩
      | ref z => obtain ⟨z, d, e, f, q⟩ := q; exact ⟨z, d, e, f, h _ q⟩
      | _ => exact q.elim
    | _ => exact q.elim
  · cases dy with
    | int i =>
      cases (show _ = _ from ry)
      cases dx with
      | lst ds =>
        obtain ⟨d, e, q⟩ := q
        obtain ⟨a, vs, rfl, h1, h2⟩ := rx
        obtain ⟨v, e2, rv⟩ := at_reps h2 e
        exact .inl ⟨a, vs, i, v, rfl, rfl, .inl (.inl (at_hid h1)), e2, q.same rv⟩
      | sq ds =>
        obtain ⟨d, e, q⟩ := q
        obtain ⟨a, vs, rfl, h1, h2⟩ := rx
        obtain ⟨v, e2, rv⟩ := at_reps h2 e
        exact .inl ⟨a, vs, i, v, rfl, rfl, seqL_hid h1, e2, q.same rv⟩
      | tup ds =>
        obtain ⟨d, e, q⟩ := q
        obtain ⟨a, vs, rfl, h1, h2⟩ := rx
        obtain ⟨v, e2, rv⟩ := at_reps h2 e
        exact .inr (.inl ⟨a, vs, i, v, rfl, rfl, seqT_hid h1, e2, q.same rv⟩)
      | str z =>
        obtain ⟨hz, c, e, q⟩ := q
        cases (show _ = _ from rx)
        exact .inr (.inr ⟨z, i, c, rfl, rfl, hz, e, q.str⟩)
      | ref a =>
        obtain ⟨ds, d, e1, e, q⟩ := q
        cases (show _ = _ from rx)
        obtain ⟨vs, h1, h2⟩ := gam_look sr e1
        obtain ⟨v, e2, rv⟩ := at_reps h2 e
        exact .inl ⟨a, vs, i, v, rfl, rfl, .inl (.inl h1), e2, q.same rv⟩
      | _ => exact q.elim
    | _ => exact q.elim

/-! ### built-ins -/
theorem RepRs.one {S T : Hp} {dxs : List D} {xs : List V} {d : D} (e : dxs = [d]) (r : RepRs K S T dxs xs) : ∃ v, xs = [v] ∧ RepR K S T d v := by
  subst e
  obtain ⟨v, t, rfl, h, h2⟩ := r
  cases (show _ = _ from h2)
  exact ⟨v, rfl, h⟩
theorem RepRs.two {S T : Hp} {dxs : List D} {xs : List V} {d e : D} (eq : dxs = [d, e]) (r : RepRs K S T dxs xs) : ∃ v w, xs = [v, w] ∧ RepR K S T d v ∧ RepR K S T e w := by
  subst eq
  obtain ⟨v, t, rfl, h, w, t2, rfl, h2, h3⟩ := r
  cases (show _ = _ from h3)
  exact ⟨v, w, rfl, h, h2⟩
def p1 (p : DSt → D → (D → Prop) → Prop) : PN := fun s xs Q => ∃ x, xs = [x] ∧ p s x Q
def p2 (p : DSt → D → D → (D → Prop) → Prop) : PN := fun s xs Q => ∃ x y, xs = [x, y] ∧ p s x y Q
theorem p1_mono {p : DSt → D → (D → Prop) → Prop} (h : P1.Mono p) : (p1 p).Mono := fun s xs Q Q' m ⟨x, e, q⟩ => ⟨x, e, h _ _ _ _ m q⟩
theorem p2_mono {p : DSt → D → D → (D → Prop) → Prop} (h : P2.Mono p) : (p2 p).Mono := fun s xs Q Q' m ⟨x, y, e, q⟩ => ⟨x, y, e, h _ _ _ _ _ m q⟩
theorem bcall1 {f : Value} {r : List V → Hp → VK → Prop} {p : DSt → D → (D → Prop) → Prop} (hc : CallR X f r) (m : P1.Mono p)
    (h : ∀ σ H s o x dx Q, SR X.K Z σ H s o → RepR X.K (S1 Z H s o) (S2 Z H s) dx x → p s dx (Dlv X.K Z H s o Q) → r [x] H Q) : BCall X Z f (p1 p) :=
  ⟨r, hc, p1_mono m, fun σ H s o xs dxs Q sr rs ⟨x, e, q⟩ => by
    obtain ⟨v, rfl, rv⟩ := rs.one e
    exact h σ H s o v x Q sr rv q⟩
theorem bcall2 {f : Value} {r : List V → Hp → VK → Prop} {p : DSt → D → D → (D → Prop) → Prop} (hc : CallR X f r) (m : P2.Mono p)
    (h : ∀ σ H s o x y dx dy Q, SR X.K Z σ H s o → RepR X.K (S1 Z H s o) (S2 Z H s) dx x → RepR X.K (S1 Z H s o) (S2 Z H s) dy y → p s dx dy (Dlv X.K Z H s o Q) → r [x, y] H Q) : BCall X Z f (p2 p) :=
  ⟨r, hc, p2_mono m, fun σ H s o xs dxs Q sr rs ⟨x, y, e, q⟩ => by
    obtain ⟨v, w, rfl, rv, rw'⟩ := rs.two e
    exact h σ H s o v w x y Q sr rv rw' q⟩
def pLen : DSt → D → (D → Prop) → Prop := fun s x Q => match x with
  | .lst ds => Q (.int ds.length)
  | .tup ds => Q (.int ds.length)
  | .sq ds => Q (.int ds.length)
  | .str z => z.length ≤ sizeLine ∧ Q (.int z.length)
  | _ => False
theorem bc_len : BCall X Z (.builtin "len") (p1 pLen) := by
  refine bcall1 call_len (fun s x Q Q' h q => ?_) fun σ H s o x dx Q sr rx q => ?_
  · cases x with
    | lst ds => exact h _ q
    | tup ds => exact h _ q
    | sq ds => exact h _ q
    | str z => exact ⟨q.1, h _ q.2⟩
    | _ => exact q.elim
  · cases dx with
    | lst ds =>
      obtain ⟨a, vs, rfl, h1, h2⟩ := rx
      exact ⟨_, _, rfl, .inl ⟨vs, .inl (.inl (at_hid h1)), rfl⟩, by rw [← h2.len]; exact Dlv.int q⟩
    | sq ds =>
      obtain ⟨a, vs, rfl, h1, h2⟩ := rx
      exact ⟨_, _, rfl, .inl ⟨vs, seqL_hid h1, rfl⟩, by rw [← h2.len]; exact Dlv.int q⟩
    | tup ds =>
      obtain ⟨a, vs, rfl, h1, h2⟩ := rx
      exact ⟨_, _, rfl, .inr ⟨vs, seqT_hid h1, rfl⟩, by rw [← h2.len]; exact Dlv.int q⟩
    | str z =>
      cases (show _ = _ from rx)
      exact ⟨_, _, rfl, ⟨q.1, rfl⟩, q.2.int⟩
    | _ => exact q.elim
/-- the kinds of values by name -/
def tyN : D → Option String
  | .non => some "NoneType"
  | .bl _ => some "bool"
  | .int _ => some "int"
  | .str _ => some "str"
  | .tup _ => some "tuple"
  | .lst _ => some "list"
  | .dct _ => some "dict"
  | _ => none
def isiD (x : D) (n : String) : Option Bool := (tyN x).bind fun t => kitB t n
def pIsi : DSt → D → D → (D → Prop) → Prop := fun _ x y Q => match y with
  | .ty n => ∃ b, isiD x n = some b ∧ Q (.bl b)
  | _ => False
theorem tyx_of (hK : Same (S1 Z H s o) H) {d : D} {v : V} {t : String} (r : RepR K (S1 Z H s o) (S2 Z H s) d v) (e : tyN d = some t) : TyX K H v (.type t) := by
  cases d with
  | non => cases (show _ = _ from r); cases e; exact .base .non
  | bl b => cases (show _ = _ from r); cases e; exact .base (.bl b)
  | int i => cases (show _ = _ from r); cases e; exact .base (.int i)
  | str x => cases (show _ = _ from r); cases e; exact .base (.str x)
  | tup ds =>
    obtain ⟨a, vs, rfl, h1, h2⟩ := r
    cases e
    rcases seqT_hid h1 with (h | ⟨u, h⟩) | ⟨ob, its, n, hk, hc, _⟩
    · exact .base (.tup h)
    · exact .fTuple h
    · exact .kTuple hk hc
  | lst ds =>
    obtain ⟨a, vs, rfl, h1, h2⟩ := r
    cases e
    exact .base (.lst (at_hid h1))
  | dct ds =>
    obtain ⟨a, vs, rfl, h1, h2⟩ := r
    cases e
    exact .base (.dK (at_hid h1))
  | _ => cases e
theorem bc_isi : BCall X Z (.builtin "isinstance") (p2 pIsi) := by
  refine bcall2 call_isi (fun s x y Q Q' h q => ?_) fun σ H s o x y dx dy Q sr rx ry q => ?_
  · cases y with
    | ty n => obtain ⟨b, e, q⟩ := q; exact ⟨b, e, h _ q⟩
    | _ => exact q.elim
  · cases dy with
    | ty n =>
      obtain ⟨b, e, q⟩ := q
      cases (show _ = _ from ry)
      unfold isiD at e
      cases e1 : tyN dx with
      | none => rw [e1] at e; cases e
      | some t =>
        rw [e1] at e
        exact ⟨x, _, _, _, b, rfl, .ty n, tyx_of hid_same rx e1, kit_ty e, q.bl⟩
    | _ => exact q.elim
/-- tuple(x) -/
def pTup : DSt → D → (D → Prop) → Prop := fun s x Q => match x with
  | .lst ds => Q (.tup ds)
  | .tup ds => Q (.tup ds)
  | .sq ds => Q (.tup ds)
  | _ => False
theorem bc_tup : BCall X Z (.type "tuple") (p1 pTup) := by
  refine bcall1 call_tuple_of (fun s x Q Q' h q => ?_) fun σ H s o x dx Q sr rx q => ?_
  · cases x with
    | lst ds => exact h _ q
    | tup ds => exact h _ q
    | sq ds => exact h _ q
    | _ => exact q.elim
  · cases dx with
    | lst ds =>
      obtain ⟨a, vs, rfl, h1, h2⟩ := rx
      exact ⟨a, vs, rfl, .inl ⟨.inl (.inl (at_hid h1)), fun l nl => Dlv.tup sr q h2 nl⟩⟩
    | sq ds =>
      obtain ⟨a, vs, rfl, h1, h2⟩ := rx
      exact ⟨a, vs, rfl, .inl ⟨seqL_hid h1, fun l nl => Dlv.tup sr q h2 nl⟩⟩
    | tup ds =>
      obtain ⟨a, vs, rfl, h1, h2⟩ := rx
      exact ⟨a, vs, rfl, .inr ⟨seqT_hid h1, Dlv.same q ⟨a, vs, rfl, h1, h2⟩⟩⟩
    | _ => exact q.elim
/-- the ints, the bools of a list -/
def intsD : List D → Option (List Int)
  | [] => some []
  | .int i :: r => (intsD r).map (i :: ·)
  | _ => none
theorem ints_reps {S : Hp} : ∀ {ds : List D} {vs : List V} {ns : List Int}, intsD ds = some ns → Reps K S ds vs → vs = ns.map V.int
  | [], _, _, e, r => by cases (show _ = _ from r); cases e; rfl
  | .int i :: ds, _, ns, e, r => by
    obtain ⟨v, t, rfl, h1, h2⟩ := r
    cases (show _ = _ from h1)
    have e' : (intsD ds).map (i :: ·) = some ns := e
    cases q : intsD ds with
    | none => rw [q] at e'; cases e'
    | some ms =>
      rw [q] at e'
      cases e'
      rw [ints_reps q h2]
      rfl
def bools : List D → Option (List Bool)
  | [] => some []
  | .bl i :: r => (bools r).map (i :: ·)
  | _ => none
theorem bools_reps {S : Hp} : ∀ {ds : List D} {vs : List V} {ns : List Bool}, bools ds = some ns → Reps K S ds vs → vs = ns.map V.bl
  | [], _, _, e, r => by cases (show _ = _ from r); cases e; rfl
  | .bl i :: ds, _, ns, e, r => by
    obtain ⟨v, t, rfl, h1, h2⟩ := r
    cases (show _ = _ from h1)
    have e' : (bools ds).map (i :: ·) = some ns := e
    cases q : bools ds with
    | none => rw [q] at e'; cases e'
    | some ms =>
      rw [q] at e'
      cases e'
      rw [bools_reps q h2]
      rfl
def pSum : DSt → D → (D → Prop) → Prop := fun s x Q => match x with
  | .lst ds => ∃ ns, intsD ds = some ns ∧ Q (.int ns.sum)
  | _ => False
theorem bc_sum (hc : X.calm = true) : BCall X Z (.builtin "sum") (p1 pSum) := by
  refine bcall1 (cr_sum hc) (fun s x Q Q' h q => ?_) fun σ H s o x dx Q sr rx q => ?_
  · cases x with
    | lst ds => obtain ⟨ns, e, q⟩ := q; exact ⟨ns, e, h _ q⟩
    | _ => exact q.elim
  · cases dx with
    | lst ds =>
      obtain ⟨ns, e, q⟩ := q
      obtain ⟨a, vs, rfl, h1, h2⟩ := rx
      exact ⟨a, ns, rfl, by rw [← ints_reps e h2]; exact .inl (.inl (at_hid h1)), q.int⟩
    | _ => exact q.elim
def pAll : DSt → D → (D → Prop) → Prop := fun s x Q => match x with
  | .lst ds => ∃ bs, bools ds = some bs ∧ Q (.bl (bs.all id))
  | _ => False
theorem bc_all (hc : X.calm = true) : BCall X Z (.builtin "all") (p1 pAll) := by
  refine bcall1 (cr_all hc) (fun s x Q Q' h q => ?_) fun σ H s o x dx Q sr rx q => ?_
  · cases x with
    | lst ds => obtain ⟨ns, e, q⟩ := q; exact ⟨ns, e, h _ q⟩
    | _ => exact q.elim
  · cases dx with
    | lst ds =>
      obtain ⟨ns, e, q⟩ := q
      obtain ⟨a, vs, rfl, h1, h2⟩ := rx
      exact ⟨a, ns, rfl, by rw [← bools_reps e h2]; exact .inl (.inl (at_hid h1)), q.bl⟩
    | _ => exact q.elim
def pAny : DSt → D → (D → Prop) → Prop := fun s x Q => match x with
  | .lst ds => ∃ bs, bools ds = some bs ∧ Q (.bl (bs.any id))
  | _ => False
theorem bc_any (hc : X.calm = true) : BCall X Z (.builtin "any") (p1 pAny) := by
  refine bcall1 (cr_any hc) (fun s x Q Q' h q => ?_) fun σ H s o x dx Q sr rx q => ?_
  · cases x with
    | lst ds => obtain ⟨ns, e, q⟩ := q; exact ⟨ns, e, h _ q⟩
    | _ => exact q.elim
  · cases dx with
    | lst ds =>
      obtain ⟨ns, e, q⟩ := q
      obtain ⟨a, vs, rfl, h1, h2⟩ := rx
      exact ⟨a, ns, rfl, by rw [← bools_reps e h2]; exact .inl (.inl (at_hid h1)), q.bl⟩
    | _ => exact q.elim
def pInt : DSt → D → (D → Prop) → Prop := fun s x Q => match x with
  | .int i => Q (.int i)
  | .bl b => Q (.int (if b then 1 else 0))
  | _ => False
theorem bc_int : BCall X Z (.type "int") (p1 pInt) := by
  refine bcall1 call_int1 (fun s x Q Q' h q => ?_) fun σ H s o x dx Q sr rx q => ?_
  · cases x with
    | int i => exact h _ q
    | bl i => exact h _ q
    | _ => exact q.elim
  · cases dx with
    | int i => cases (show _ = _ from rx); exact .inl ⟨i, rfl, Dlv.int q⟩
    | bl i => cases (show _ = _ from rx); exact .inr ⟨i, rfl, Dlv.int q⟩
    | _ => exact q.elim
def pAbs : DSt → D → (D → Prop) → Prop := fun s x Q => match x with
  | .int i => Q (.int (if i < 0 then -i else i))
  | _ => False
theorem bc_abs : BCall X Z (.builtin "abs") (p1 pAbs) := by
  refine bcall1 call_abs (fun s x Q Q' h q => ?_) fun σ H s o x dx Q sr rx q => ?_
  · cases x with
    | int i => exact h _ q
    | _ => exact q.elim
  · cases dx with
    | int i => cases (show _ = _ from rx); exact ⟨i, rfl, Dlv.int q⟩
    | _ => exact q.elim
def pI2 (g : Int → Int → Int) : DSt → D → D → (D → Prop) → Prop := fun s x y Q => match x with
  | .int i => (match y with | .int j => Q (.int (g i j)) | _ => False)
  | _ => False
theorem pI2_mono {g : Int → Int → Int} : P2.Mono (pI2 g) := fun s x y Q Q' h q => by
  cases x with
  | int i => cases y with
    | int j => exact h _ q
    | _ => exact q.elim
  | _ => exact q.elim
theorem bc_max (hc : X.calm = true) : BCall X Z (.builtin "max") (p2 (pI2 fun i j => if j > i then j else i)) := by
  refine bcall2 (call_max2 hc) pI2_mono fun σ H s o x y dx dy Q sr rx ry q => ?_
  cases dx with
  | int i => cases dy with
    | int j =>
      cases (show _ = _ from rx)
      cases (show _ = _ from ry)
      exact ⟨i, j, rfl, Dlv.int q⟩
    | _ => exact q.elim
  | _ => exact q.elim
theorem bc_min (hc : X.calm = true) : BCall X Z (.builtin "min") (p2 (pI2 fun i j => if j < i then j else i)) := by
  refine bcall2 (call_min2 hc) pI2_mono fun σ H s o x y dx dy Q sr rx ry q => ?_
  cases dx with
  | int i => cases dy with
    | int j =>
      cases (show _ = _ from rx)
      cases (show _ = _ from ry)
      exact ⟨i, j, rfl, Dlv.int q⟩
    | _ => exact q.elim
  | _ => exact q.elim
/-- f(..), f a built-in -/
def dCall (p : PN) (t : DTs) : DT := fun E s Q => t E s fun ds s' => p s' ds fun z => Q z s'
theorem Mono.call {p : PN} {t : DTs} (m : p.Mono) (mt : Mono t) : Mono (dCall p t) := fun E s Q Q' h q => mt _ _ _ _ (fun ds s' z => m _ _ _ _ (fun d z => h _ _ z) z) q
variable {x : Str} {p pos : Pos} {e : Expr} {es : List Expr} {t : DTs} {id T : String} {pn : PN}
theorem call_weak {r : List V → Hp → VK → Prop} (hp : OpN X Z r pn) (mt : Mono t) {E : DE'} {σ : St} {H : Hp} {Q : VK} (h : aE X.K Z (dCall pn t) E σ H Q) : tCB r (aRs X.K Z t E) σ H Q := by
  obtain ⟨s, o, sr, q⟩ := h
  refine ⟨s, o, sr, mt _ _ _ _ (fun ds s1 hd vs H1 o1 sr1 st1 rv => ?_) q⟩
  exact hp.run σ H1 s1 o1 vs ds Q sr1 rv (hp.mono _ _ _ _ (fun d hd v H' e rp => hd v H' o1 (sr1.alloc e) (st1.trans (.alloc e)) rp) hd)
theorem de_callB (hc : BCall X Z (.builtin id) pn) (hg : Gl X x) (hm : X.mg x = none) (hv : bootBuiltins x = some (.builtin id)) (ha : DAR X Z (e :: es) t) (hn : x ≠ "__name__") (hdb : (x == ("__debug__" : Str)) = false)
    (he : starEach (e :: es) X.env = (false, eval e X.env) :: starEach es X.env) (hpl : (backTo pos (starEach es X.env)).any (·.1) = false) : DE X Z (.Call (.Name x p) (e :: es) [] pos) (dCall pn t) := by
  obtain ⟨r, hr, hp⟩ := hc
  exact ⟨.call hp.mono ha.mono, fun E W tk ek => PE.weak (pe_callB hr hg hm hv (ha.run E W tk ek) hn hdb he hpl) fun σ H Q h => call_weak hp ha.mono h⟩
theorem de_callT (hc : BCall X Z (.type T) pn) (hg : Gl X x) (hm : X.mg x = none) (hv : bootBuiltins x = some (.type T)) (ha : DAR X Z (e :: es) t) (hn : x ≠ "__name__") (hdb : (x == ("__debug__" : Str)) = false)
    (he : starEach (e :: es) X.env = (false, eval e X.env) :: starEach es X.env) (hpl : (backTo pos (starEach es X.env)).any (·.1) = false) : DE X Z (.Call (.Name x p) (e :: es) [] pos) (dCall pn t) := by
  obtain ⟨r, hr, hp⟩ := hc
  exact ⟨.call hp.mono ha.mono, fun E W tk ek => PE.weak (pe_callTy hr hg hm hv (ha.run E W tk ek) hn hdb he hpl) fun σ H Q h => call_weak hp ha.mono h⟩
end
end DL

set_option Elab.async false
set_option linter.all false
set_option maxRecDepth 100000
namespace DL
open PySem PySem.Spec L2
open PyProof.Rows hiding St
section
variable {X : Cx} {Z : Zf} {σ : St} {H : Hp} {s : DSt} {o : Own} {Q : VK} {K : PySem.W.Frag} {a b c e : Expr} {ta tb tc t : DT} {rest es : List Expr} {pos : Pos} {t1 t2 : DTt}

/-! ### truth, tests -/
def pTru (x : D) (Q : Bool → Prop) : Prop := match x with
  | .non => Q false
  | .bl b => Q b
  | .int i => Q (i != 0)
  | .str y => y.length ≤ sizeLine ∧ Q ((y.length : Int) != 0)
  | .lst ds => Q (!ds.isEmpty)
  | .tup ds => Q (!ds.isEmpty)
  | .sq ds => Q (!ds.isEmpty)
  | .dct ds => Q (!ds.isEmpty)
  | _ => False
theorem pTru_mono {x : D} {Q Q' : Bool → Prop} (h : ∀ b, Q b → Q' b) (q : pTru x Q) : pTru x Q' := by
  cases x with
  | str y => exact ⟨q.1, h _ q.2⟩
  | ty n => exact q
  | ref a => exact q
  | _ => exact h _ q
theorem Reps.emp {S : Hp} {ds : List D} {vs : List V} (r : Reps K S ds vs) : vs.isEmpty = ds.isEmpty := by
  have := r.len
  cases ds <;> cases vs <;> simp at this ⊢
theorem RepK.emp {S : Hp} : ∀ {ds : List (Key × D)} {vs : List (Key × V)}, RepK K S ds vs → vs.isEmpty = ds.isEmpty
  | [], _, r => by cases (show _ = _ from r); rfl
  | (k, d) :: ds, _, r => by obtain ⟨v, t, rfl, _⟩ := r; rfl
theorem tru_of {x : D} {v : V} {Q : Bool → Prop} (r : RepR K (S1 Z H s o) (S2 Z H s) x v) (q : pTru x Q) : ∃ k, TruV K v H k ∧ Q k := by
  cases x with
  | non => cases (show _ = _ from r); exact ⟨_, rfl, q⟩
  | bl b => cases (show _ = _ from r); exact ⟨_, rfl, q⟩
  | int b => cases (show _ = _ from r); exact ⟨_, rfl, q⟩
  | str b => cases (show _ = _ from r); exact ⟨_, ⟨q.1, rfl⟩, q.2⟩
  | lst ds =>
    obtain ⟨a, vs, rfl, h1, h2⟩ := r
    exact ⟨_, .inl ⟨vs, .inl (.inl (at_hid h1)), rfl⟩, by rw [h2.emp]; exact q⟩
  | sq ds =>
    obtain ⟨a, vs, rfl, h1, h2⟩ := r
    exact ⟨_, .inl ⟨vs, seqL_hid h1, rfl⟩, by rw [h2.emp]; exact q⟩
  | tup ds =>
    obtain ⟨a, vs, rfl, h1, h2⟩ := r
    exact ⟨_, .inr (.inl ⟨vs, seqT_hid h1, rfl⟩), by rw [h2.emp]; exact q⟩
  | dct ds =>
    obtain ⟨a, vs, rfl, h1, h2⟩ := r
    exact ⟨_, .inr (.inr ⟨vs, at_hid h1, rfl⟩), by rw [h2.emp]; exact q⟩
  | _ => exact q.elim
def dTru (t : DT) : DTt := fun E s Q => t E s fun d s' => pTru d fun b => Q b s'
theorem Mono.tru (m : Mono t) : Mono (dTru t) := fun E s Q Q' h q => m _ _ _ _ (fun d s' z => pTru_mono (fun b z => h _ _ z) z) q
theorem dt_truth (h : DR X Z e t) (he : ∀ whole, isTrue e X.env whole = (do let v ← whole; standAt e.pos; holding [v] (truthy v))) : DTe X Z e (dTru t) :=
  ⟨h.mono.tru, fun E W tk ek => PT.weak (pt_truth (h.run E W tk ek) he) fun σ H Q ⟨s, o, sr, q⟩ => ⟨s, o, sr, h.mono _ _ _ _ (fun d s' z v H' o' sr' st rv => tru_of rv (pTru_mono (fun b z => z H' o' sr' st) z)) q⟩⟩
def dTst (t : DT) : DTt := fun E s Q => t E s fun d s' => ∃ b, d = .bl b ∧ Q b s'
theorem Mono.tst (m : Mono t) : Mono (dTst t) := fun E s Q Q' h q => m _ _ _ _ (fun d s' ⟨b, e, z⟩ => ⟨b, e, h _ _ z⟩) q
theorem dt_cmp {op : CmpOp} {p : P2} (h : BOp X Z (compareOp op) p) (ha : DR X Z a ta) (hb : DR X Z b tb) (hm : behindInMarks op b = false) : DTe X Z (.Compare a [op] [b] pos) (dTst (dOp p ta tb)) := by
  obtain ⟨r, ho, hp⟩ := h
  refine ⟨(Mono.op hp.mono ha.mono hb.mono).tst, fun E W tk ek => PT.weak (pt_cmpR ho (ha.run E W tk ek) (hb.run E W tk ek) hm) fun σ H Q ⟨s, o, sr, q⟩ => ?_⟩
  refine op_weak rfl hp ha.mono hb.mono ⟨s, o, sr, Mono.op hp.mono ha.mono hb.mono _ _ _ _ (fun d s' ⟨b, e, z⟩ v H' o' sr' st rv => ?_) q⟩
  subst e
  exact ⟨b, rv, z H' o' sr' st⟩
def dAnd (t u : DTt) : DTt := fun E s Q => t E s fun b s1 => if b = true then u E s1 Q else Q false s1
def dOr (t u : DTt) : DTt := fun E s Q => t E s fun b s1 => if b = true then Q true s1 else u E s1 Q
def dNot (t : DTt) : DTt := fun E s Q => t E s fun b s1 => Q (!b) s1
theorem DW.pt (h : DW X Z e t1) : DTe X Z e t1 := ⟨h.mono, fun E W tk ek => (h.run E W tk ek).pt⟩
theorem dw_and1 (h : DTe X Z a t1) : DW X Z (.BoolOp .And [a] pos) t1 := ⟨h.mono, fun E W tk ek => pw_and1 (h.run E W tk ek)⟩
theorem dw_or1 (h : DTe X Z a t1) : DW X Z (.BoolOp .Or [a] pos) t1 := ⟨h.mono, fun E W tk ek => pw_or1 (h.run E W tk ek)⟩
theorem PW.weak {X : Cx} {e : Expr} {t t' : TT} (h : PW X e t) (w : ∀ σ H Q, t' σ H Q → t σ H Q) : PW X e t' := ⟨fun wh pins s σ H Q I q => h.run wh pins s σ H Q I (w σ H Q q)⟩
theorem dw_and (ha : DTe X Z a t1) (hb : DW X Z (.BoolOp .And (b :: rest) pos) t2) : DW X Z (.BoolOp .And (a :: b :: rest) pos) (dAnd t1 t2) := by
  refine ⟨fun E s Q Q' m q => ha.mono _ _ _ _ (fun c s1 z => ?_) q, fun E W tk ek => PW.weak (pw_and (ha.run E W tk ek) (hb.run E W tk ek)) fun σ H Q ⟨s, o, sr, q⟩ => ⟨s, o, sr, ha.mono _ _ _ _ (fun c s1 z H1 o1 sr1 st1 => ?_) q⟩⟩
  · cases c with
    | true => exact hb.mono _ _ _ _ m z
    | false => exact m _ _ z
  · cases c with
    | true => exact ⟨s1, o1, sr1, hb.mono _ _ _ _ (fun d s2 z H2 o2 sr2 st2 => z H2 o2 sr2 (st1.trans st2)) z⟩
    | false => exact (show ∀ H' o', SR X.K Z σ H' s1 o' → Stp Z H s o H' s1 o' → Q false H' from z) H1 o1 sr1 st1
theorem dw_or (ha : DTe X Z a t1) (hb : DW X Z (.BoolOp .Or (b :: rest) pos) t2) : DW X Z (.BoolOp .Or (a :: b :: rest) pos) (dOr t1 t2) := by
  refine ⟨fun E s Q Q' m q => ha.mono _ _ _ _ (fun c s1 z => ?_) q, fun E W tk ek => PW.weak (pw_or (ha.run E W tk ek) (hb.run E W tk ek)) fun σ H Q ⟨s, o, sr, q⟩ => ⟨s, o, sr, ha.mono _ _ _ _ (fun c s1 z H1 o1 sr1 st1 => ?_) q⟩⟩
  · cases c with
    | false => exact hb.mono _ _ _ _ m z
    | true => exact m _ _ z
  · cases c with
    | false => exact ⟨s1, o1, sr1, hb.mono _ _ _ _ (fun d s2 z H2 o2 sr2 st2 => z H2 o2 sr2 (st1.trans st2)) z⟩
    | true => exact (show ∀ H' o', SR X.K Z σ H' s1 o' → Stp Z H s o H' s1 o' → Q true H' from z) H1 o1 sr1 st1
theorem dt_not (ha : DTe X Z a t1) : DTe X Z (.UnaryOp .Not a pos) (dNot t1) :=
  ⟨fun E s Q Q' m q => ha.mono _ _ _ _ (fun c s1 z => m _ _ z) q, fun E W tk ek => PT.weak (pt_not (ha.run E W tk ek)) fun σ H Q ⟨s, o, sr, q⟩ => ⟨s, o, sr, ha.mono _ _ _ _ (fun c s1 z => z) q⟩⟩
/-- .. as values -/
def dAndV (t u : DT) : DT := fun E s Q => t E s fun d s1 => pTru d fun b => if b = true then u E s1 Q else Q d s1
def dOrV (t u : DT) : DT := fun E s Q => t E s fun d s1 => pTru d fun b => if b = true then Q d s1 else u E s1 Q
def dNotV (t : DT) : DT := fun E s Q => t E s fun d s1 => pTru d fun b => Q (.bl (!b)) s1
theorem de_one {op} (h : DE X Z a t) : DE X Z (.BoolOp op [a] pos) t := ⟨h.mono, fun E W tk ek => pe_one (h.run E W tk ek)⟩
theorem de_and (ha : DE X Z a ta) (hb : DE X Z (.BoolOp .And (b :: rest) pos) tb) : DE X Z (.BoolOp .And (a :: b :: rest) pos) (dAndV ta tb) := by
  refine ⟨fun E s Q Q' m q => ha.mono _ _ _ _ (fun d s1 z => pTru_mono (fun c z => ?_) z) q, fun E W tk ek => PE.weak (pe_andT (ha.run E W tk ek) (hb.run E W tk ek)) fun σ H Q ⟨s, o, sr, q⟩ => ⟨s, o, sr, ha.mono _ _ _ _ (fun d s1 z v H1 o1 sr1 st1 rv => ?_) q⟩⟩
  · cases c with
    | true => exact hb.mono _ _ _ _ m z
    | false => exact m _ _ z
  · obtain ⟨k, hk, z⟩ := tru_of (rv.toR S12) z
    refine ⟨k, hk, ?_⟩
    cases k with
    | true => exact ⟨s1, o1, sr1, hb.mono _ _ _ _ (fun d s2 z v H2 o2 sr2 st2 => z v H2 o2 sr2 (st1.trans st2)) z⟩
    | false => exact (show ∀ v H' o', SR X.K Z σ H' s1 o' → Stp Z H s o H' s1 o' → Rep X.K (S1 Z H' s1 o') d v → Q v H' from z) v H1 o1 sr1 st1 rv
theorem de_or (ha : DE X Z a ta) (hb : DE X Z (.BoolOp .Or (b :: rest) pos) tb) : DE X Z (.BoolOp .Or (a :: b :: rest) pos) (dOrV ta tb) := by
  refine ⟨fun E s Q Q' m q => ha.mono _ _ _ _ (fun d s1 z => pTru_mono (fun c z => ?_) z) q, fun E W tk ek => PE.weak (pe_orT (ha.run E W tk ek) (hb.run E W tk ek)) fun σ H Q ⟨s, o, sr, q⟩ => ⟨s, o, sr, ha.mono _ _ _ _ (fun d s1 z v H1 o1 sr1 st1 rv => ?_) q⟩⟩
  · cases c with
    | false => exact hb.mono _ _ _ _ m z
    | true => exact m _ _ z
  · obtain ⟨k, hk, z⟩ := tru_of (rv.toR S12) z
    refine ⟨k, hk, ?_⟩
    cases k with
    | false => exact ⟨s1, o1, sr1, hb.mono _ _ _ _ (fun d s2 z v H2 o2 sr2 st2 => z v H2 o2 sr2 (st1.trans st2)) z⟩
    | true => exact (show ∀ v H' o', SR X.K Z σ H' s1 o' → Stp Z H s o H' s1 o' → Rep X.K (S1 Z H' s1 o') d v → Q v H' from z) v H1 o1 sr1 st1 rv
theorem de_not (ha : DR X Z a ta) : DE X Z (.UnaryOp .Not a pos) (dNotV ta) := by
  refine ⟨fun E s Q Q' m q => ha.mono _ _ _ _ (fun d s1 z => pTru_mono (fun c z => m _ _ z) z) q, fun E W tk ek => PE.weak (pe_notT (ha.run E W tk ek)) fun σ H Q ⟨s, o, sr, q⟩ => ⟨s, o, sr, ha.mono _ _ _ _ (fun d s1 z v H1 o1 sr1 st1 rv => ?_) q⟩⟩
  obtain ⟨k, hk, z⟩ := tru_of rv z
  exact ⟨k, hk, z _ H1 o1 sr1 st1 rfl⟩
def dIf (c : DTt) (t u : DT) : DT := fun E s Q => c E s fun b s1 => if b = true then t E s1 Q else u E s1 Q
theorem de_if (hc : DTe X Z c t1) (ha : DE X Z a ta) (hb : DE X Z b tb) : DE X Z (.IfExp c a b pos) (dIf t1 ta tb) := by
  refine ⟨fun E s Q Q' m q => hc.mono _ _ _ _ (fun d s1 z => ?_) q, fun E W tk ek => PE.weak (pe_ifExp (hc.run E W tk ek) (ha.run E W tk ek) (hb.run E W tk ek)) fun σ H Q ⟨s, o, sr, q⟩ => ⟨s, o, sr, hc.mono _ _ _ _ (fun d s1 z H1 o1 sr1 st1 => ?_) q⟩⟩
  · cases d with
    | true => exact ha.mono _ _ _ _ m z
    | false => exact hb.mono _ _ _ _ m z
  · cases d with
    | true => exact ⟨s1, o1, sr1, ha.mono _ _ _ _ (fun d s2 z v H2 o2 sr2 st2 => z v H2 o2 sr2 (st1.trans st2)) z⟩
    | false => exact ⟨s1, o1, sr1, hb.mono _ _ _ _ (fun d s2 z v H2 o2 sr2 st2 => z v H2 o2 sr2 (st1.trans st2)) z⟩
/-- a op b op' c -/
def dChain (p p' : P2) (ta tb tc : DT) : DT := fun E s Q => ta E s fun x s1 => tb E s1 fun y s2 => p s2 x y fun z => ∃ k, z = .bl k ∧ if k = true then tc E s2 fun w s3 => p' s3 y w fun u => Q u s3 else Q (.bl false) s2
theorem Mono.chain {p p' : P2} (mp : p.Mono) (mp' : p'.Mono) (ma : Mono ta) (mb : Mono tb) (mc : Mono tc) : Mono (dChain p p' ta tb tc) := fun E s Q Q' m q =>
  ma _ _ _ _ (fun x s1 q => mb _ _ _ _ (fun y s2 q => mp _ _ _ _ _ (fun z ⟨k, e, q⟩ => ⟨k, e, by
    cases k with
    | true => exact mc _ _ _ _ (fun w s3 q => mp' _ _ _ _ _ (fun u q => m _ _ q) q) q
    | false => exact m _ _ q⟩) q) q) q
theorem chain_weak {p p' : P2} {r r' : R2} (hp : Op2 X Z r p) (hp' : Op2 X Z r' p') (ha : Mono ta) (hb : Mono tb) (hc : Mono tc) {E : DE'} {σ : St} {H : Hp} {Q : VK} (h : aE X.K Z (dChain p p' ta tb tc) E σ H Q) :
    tChain r r' (aR X.K Z ta E) (aR X.K Z tb E) (aR X.K Z tc E) σ H Q := by
  obtain ⟨s, o, sr, q⟩ := h
  refine ⟨s, o, sr, ha _ _ _ _ (fun dx s1 hx x H1 o1 sr1 st1 rx => ⟨s1, o1, sr1, hb _ _ _ _ (fun dy s2 hy y H2 o2 sr2 st2 ry => ?_) hx⟩) q⟩
  refine hp.run σ H2 s2 o2 x y dx dy _ sr2 (rx.mono st2.s1 st2.s2) ry (hp.mono _ _ _ _ _ (fun d hd v H' e rp => ?_) hy)
  obtain ⟨k, ek, hd⟩ := hd
  subst ek
  refine ⟨k, rp, ?_⟩
  have sr3 := sr2.alloc e
  have st3 := (st1.trans st2).trans (.alloc (Z := Z) (s := s2) (o := o2) e)
  cases k with
  | false => exact (show ∀ v H' o', SR X.K Z σ H' s2 o' → Stp Z H s o H' s2 o' → Rep X.K (S1 Z H' s2 o') (.bl false) v → Q v H' from hd) _ H' o2 sr3 st3 rfl
  | true =>
    refine ⟨s2, o2, sr3, hc _ _ _ _ (fun dw s4 hw w' H4 o4 sr4 st4 rw' => ?_) hd⟩
    refine hp'.run σ H4 s4 o4 y w' dy dw Q sr4 (ry.mono ((Stp.alloc (Z := Z) (s := s2) (o := o2) e).trans st4).s1 ((Stp.alloc (Z := Z) (s := s2) (o := o2) e).trans st4).s2) rw' (hp'.mono _ _ _ _ _ (fun d hd v H5 e5 rp => ?_) hw)
    exact hd v H5 o4 (sr4.alloc e5) ((st3.trans st4).trans (.alloc e5)) rp
theorem de_chain {op op' : CmpOp} {p p' : P2} (h : BOp X Z (compareOp op) p) (h' : BOp X Z (compareOp op') p') (ha : DR X Z a ta) (hb : DR X Z b tb) (hc : DR X Z c tc) (hm : lastMarks [op, op'] [b, c] = false) : DE X Z (.Compare a [op, op'] [b, c] pos) (dChain p p' ta tb tc) := by
  obtain ⟨r, ho, hp⟩ := h
  obtain ⟨r', ho', hp'⟩ := h'
  exact ⟨.chain hp.mono hp'.mono ha.mono hb.mono hc.mono, fun E W tk ek => PE.weak (pe_chain ho ho' (ha.run E W tk ek) (hb.run E W tk ek) (hc.run E W tk ek) hm) fun σ H Q h => chain_weak hp hp' ha.mono hb.mono hc.mono h⟩
theorem dt_chain {op op' : CmpOp} {p p' : P2} (h : BOp X Z (compareOp op) p) (h' : BOp X Z (compareOp op') p') (ha : DR X Z a ta) (hb : DR X Z b tb) (hc : DR X Z c tc) (hm : lastMarks [op, op'] [b, c] = false) : DTe X Z (.Compare a [op, op'] [b, c] pos) (dTst (dChain p p' ta tb tc)) := by
  obtain ⟨r, ho, hp⟩ := h
  obtain ⟨r', ho', hp'⟩ := h'
  have m : Mono (dChain p p' ta tb tc) := .chain hp.mono hp'.mono ha.mono hb.mono hc.mono
  refine ⟨m.tst, fun E W tk ek => PT.weak (pt_chain ho ho' (ha.run E W tk ek) (hb.run E W tk ek) (hc.run E W tk ek) hm) fun σ H Q ⟨s, o, sr, q⟩ => ?_⟩
  refine chain_weak hp hp' ha.mono hb.mono hc.mono ⟨s, o, sr, m _ _ _ _ (fun d s' ⟨b, e, z⟩ v H' o' sr' st rv => ?_) q⟩
  subst e
  exact ⟨b, rv, z H' o' sr' st⟩

/-! ### slices -/
structure DO (X : Cx) (Z : Zf) (e : Option Expr) (t : DE' → DSt → (Option Int → DSt → Prop) → Prop) : Prop where
  mono : Mono t
  run : ∀ E W, Takes X W → EOk X.K Z E W → PO X e (fun σ H Q => ∃ s o, SR X.K Z σ H s o ∧ t E s fun i s' => ∀ H' o', SR X.K Z σ H' s' o' → Stp Z H s o H' s' o' → Q i H')
def dNoPart : DE' → DSt → (Option Int → DSt → Prop) → Prop := fun _ s Q => Q none s
def dPart (t : DT) : DE' → DSt → (Option Int → DSt → Prop) → Prop := fun E s Q => t E s fun d s' => ∃ i, d = .int i ∧ Q (some i) s'
theorem PO.weak {X : Cx} {e : Option Expr} {t t' : TO} (h : PO X e t) (w : ∀ σ H Q, t' σ H Q → t σ H Q) : PO X e t' := ⟨fun pins s σ H Q I q => h.run pins s σ H Q I (w σ H Q q)⟩
theorem do_none : DO X Z none dNoPart := ⟨fun E s Q Q' m q => m _ _ q, fun E W tk ek => PO.weak po_none fun σ H Q ⟨s, o, sr, q⟩ => q H o sr Stp.refl⟩
theorem do_some (h : DR X Z e t) : DO X Z (some e) (dPart t) := ⟨fun E s Q Q' m q => h.mono _ _ _ _ (fun d s' ⟨i, e, z⟩ => ⟨i, e, m _ _ z⟩) q, fun E W tk ek => PO.weak (po_some (h.run E W tk ek)) fun σ H Q ⟨s, o, sr, q⟩ =>
  ⟨s, o, sr, h.mono _ _ _ _ (fun d s' ⟨i, e, z⟩ v H' o' sr' st rv => by
    subst e
    exact ⟨i, rv, z H' o' sr' st⟩) q⟩⟩
def cutD (xs : List D) (lo hi : Option Int) : List D := (xs.drop (HT.sIx xs.length 0 lo)).take (HT.sIx xs.length xs.length hi - HT.sIx xs.length 0 lo)
theorem cut_reps {S : Hp} {ds : List D} {vs : List V} {lo hi : Option Int} (r : Reps K S ds vs) : Reps K S (cutD ds lo hi) (cutV vs lo hi) := by
  unfold cutD cutV
  rw [← r.len]
  exact (r.drop _).take _
def pSl (x : D) (lo hi : Option Int) (Q : D → Prop) : Prop := match x with
  | .lst ds => Q (.lst (cutD ds lo hi))
  | .sq ds => Q (.lst (cutD ds lo hi))
  | .tup ds => Q (.tup (cutD ds lo hi))
  | _ => False
theorem pSl_mono {x : D} {lo hi : Option Int} {Q Q' : D → Prop} (h : ∀ d, Q d → Q' d) (q : pSl x lo hi Q) : pSl x lo hi Q' := by
  cases x with
  | lst ds => exact h _ q
  | sq ds => exact h _ q
  | tup ds => exact h _ q
  | _ => exact q.elim
def dSl (ta : DT) (tl th : DE' → DSt → (Option Int → DSt → Prop) → Prop) : DT := fun E s Q => ta E s fun x s1 => tl E s1 fun l s2 => th E s2 fun u s3 => pSl x l u fun z => Q z s3
theorem cut_whole {xs : List D} {lo hi : Option Int} (h : HT.sIx xs.length 0 lo = 0 ∧ HT.sIx xs.length xs.length hi = xs.length) : cutD xs lo hi = xs := by
  unfold cutD
  rw [h.1, h.2]
  simp
theorem de_slice {tl th : DE' → DSt → (Option Int → DSt → Prop) → Prop} {lo hi : Option Expr} {p2 : Pos} (ha : DR X Z a ta) (hl : DO X Z lo tl) (hh : DO X Z hi th) : DE X Z (.Subscript a (.Slice lo hi none p2) pos) (dSl ta tl th) := by
  refine ⟨fun E s Q Q' m q => ha.mono _ _ _ _ (fun x s1 q => hl.mono _ _ _ _ (fun l s2 q => hh.mono _ _ _ _ (fun u s3 q => pSl_mono (fun z q => m _ _ q) q) q) q) q,
    fun E W tk ek => PE.weak (pe_slice (sl_list.or sl_tupA) (ha.run E W tk ek) (hl.run E W tk ek) (hh.run E W tk ek)) fun σ H Q ⟨s, o, sr, q⟩ => ?_⟩
  refine ⟨s, o, sr, ha.mono _ _ _ _ (fun x s1 q v H1 o1 sr1 st1 rv => ⟨s1, o1, sr1, hl.mono _ _ _ _ (fun l s2 q H2 o2 sr2 st2 => ⟨s2, o2, sr2, hh.mono _ _ _ _ (fun u s3 q H3 o3 sr3 st3 => ?_) q⟩) q⟩) q⟩
  have st := (st1.trans st2).trans st3
  have rv3 := rv.mono (st2.trans st3).s1 (st2.trans st3).s2
  have dl : pSl x l u (Dlv X.K Z H3 s3 o3 Q) := pSl_mono (fun d hd w H4 e rp => hd w H4 o3 (sr3.alloc e) (st.trans (.alloc e)) rp) q
  cases x with
  | lst ds =>
    obtain ⟨p, vs, rfl, h1, h2⟩ := rv3
    exact .inl ⟨p, vs, rfl, .inl (.inl (at_hid h1)), fun p np => Dlv.lst sr3 dl (cut_reps h2) np⟩
  | sq ds =>
    obtain ⟨p, vs, rfl, h1, h2⟩ := rv3
    exact .inl ⟨p, vs, rfl, seqL_hid h1, fun p np => Dlv.lst sr3 dl (cut_reps h2) np⟩
  | tup ds =>
    obtain ⟨p, vs, rfl, h1, h2⟩ := rv3
    refine .inr ⟨p, vs, rfl, seqT_hid h1, fun h => ?_, fun _ p np => Dlv.tup sr3 dl (cut_reps h2) np⟩
    rw [← h2.len] at h
    have dl' : Dlv X.K Z H3 s3 o3 Q (.tup (cutD ds l u)) := dl
    rw [cut_whole h] at dl'
    exact dl'.same ⟨p, vs, rfl, h1, h2⟩
  | _ => exact dl.elim
end
end DL

set_option Elab.async false
set_option linter.all false
set_option maxRecDepth 100000
set_option maxHeartbeats 4000000
namespace DL
open PySem PySem.Spec L2 HT
open PyProof.Rows hiding St
section
variable {prog : Program} {w : World} {A : Around} {E : Value → Shared → Prop} {s : Shared}
theorem slice_back (n : Nat) : Builtin.Slice.sliceAdjust none none (-1) (n : Int) = ((n : Int) - 1, -1) := by
  unfold Builtin.Slice.sliceAdjust
  simp
theorem places_back (n : Nat) : Builtin.Slice.slicePlaces ((n : Int) - 1) (-1) (-1) = n := by
  unfold Builtin.Slice.slicePlaces
  have h1 : ¬ ((-1 : Int) > 0) := by omega
  simp only [h1, if_false]
  split
  · have : ((n : Int) - 1 - -1 - 1) / (- -1) + 1 = n := by
      rw [show (- -1 : Int) = 1 by decide, Int.ediv_one]
      omega
    rw [this]
    simp
  · omega
theorem pick_back (xs : Array Value) : ((List.range xs.size).filterMap fun (m : Nat) => xs[(((xs.size : Int) - 1) + (m : Int) * (-1)).toNat]?).toArray = xs.toList.reverse.toArray := by
  have h := PySem.W.krv_pick xs
  unfold slicePick at h
  rw [PySem.W.krv_bounds] at h
  have h' : ((sliceRange ((xs.size : Int) - 1) (-1) (-1)).filterMap (xs[·]?)).toArray = xs.toList.reverse.toArray := h
  rw [PySem.W.krv_sliceRange, List.filterMap_map] at h'
  rw [← h']
  have fc : ∀ (l : List Nat), (∀ m ∈ l, m < xs.size) → (l.filterMap fun (m : Nat) => xs[(((xs.size : Int) - 1) + (m : Int) * (-1)).toNat]?) = l.filterMap ((fun x => xs[x]?) ∘ fun k => xs.size - 1 - k) := by
    intro l
    induction l with
    | nil => intro _; rfl
    | cons a l ih =>
      intro hl
      have ha := hl a List.mem_cons_self
      have e : (((xs.size : Int) - 1) + (a : Int) * (-1)).toNat = xs.size - 1 - a := by omega
      rw [List.filterMap_cons, List.filterMap_cons, ih fun m hm => hl m (List.mem_cons_of_mem _ hm), e]
      rfl
  rw [fc _ fun m hm => List.mem_range.mp hm]
theorem getItem_tuple_back {t sl : Addr} {items : Array Value} {vl vu vs : Value} {Q : Value → Shared → Prop} (ht : IsTup s.heap t items) (hs : s.heap.IsSliceOf sl vl vu vs) (pl : IsPart vl none) (pu : IsPart vu none) (ps : IsPart vs (some (-1)))
    (h : Q (.ref s.heap.objs.size) { s with heap := s.heap.push { cls := .type "tuple", data := .seq items.toList.reverse.toArray } })
    (hsz : items.size ≤ sizeLine) : wpAny (model prog w) A (getItem (.ref t) (.ref sl)) Q E s := by
  have htake : sizeOk (.seq items.toList.reverse.toArray) := by
    show items.toList.reverse.toArray.size ≤ sizeLine
    simpa using hsz
  obtain ⟨os, hos, hcs, hds⟩ := id hs
  unfold getItem
  try with_reducible refine wpAny_holding ?_
  first | refine wpAny_bind (wpAny_pure ?_) | skip
  refine wpAny_bind (wpAny_sequenceKey ht.typeIs (by decide) ?_)
  refine wpAny_bind (wpAny_callSpecial?_slot (name := Str.ofString "__getitem__") ht.typeIs PyProof.Rows.slot_tuple_getitem
    (wpAny_call_entry PyProof.Rows.slot_tuple_getitem ht.typeIs entry_tuple_getitem ?_ (args_tuple_getitem _ _)))
  show wpAny _ _ (Builtin.Tuple.tupleItemsOf (.ref t) >>= _) _ _ s
  refine wpAny_bind (tupleItemsOf_ ht ?_)
  refine wpAny_bind (wpAny_typeOf (show s.TypeIs (.ref sl) "slice" from ⟨os, hos, hcs⟩) ?_)
  rw [if_pos (by decide)]
  refine wpAny_bind ?_
  unfold Builtin.Slice.sliceApplied Builtin.Slice.sliceFields
  refine wpAny_bind (wpAny_bind (wpAny_field hos hds (x := vl) rfl (wpAny_bind (wpAny_field hos hds (x := vu) rfl (wpAny_bind (wpAny_field hos hds (x := vs) rfl (wpAny_pure ?_)))))))
  refine wpAny_bind (slicePart_ ps ?_)
  show wpAny _ _ (if ((-1 : Int) == 0) = true then _ else _) _ _ s
  rw [if_neg (by decide)]
  refine wpAny_bind (slicePart_ pl (wpAny_bind (slicePart_ pu (wpAny_bind (wpAny_pure ?_)))))
  show wpAny _ _ (match Builtin.Slice.sliceAdjust none none (-1) (items.size : Int) with | (lo, hi) => pure (lo, (-1 : Int), Builtin.Slice.slicePlaces lo hi (-1))) _ _ s
  rw [slice_back]
  show wpAny _ _ (pure (((items.size : Int) - 1), (-1 : Int), Builtin.Slice.slicePlaces ((items.size : Int) - 1) (-1) (-1))) _ _ s
  rw [places_back]
  refine wpAny_pure ?_
  have hno : ¬ ((((items.size : Int) - 1) == 0 && (-1 : Int) == 1 && (items.size : Nat) == items.size) = true) := by
    simp
  show wpAny _ _ (if ((((items.size : Int) - 1) == 0 && (-1 : Int) == 1 && (items.size : Nat) == items.size) = true) then _ else _) _ _ s
  rw [if_neg hno, pick_back]
  first
    | exact wpAny_bind (m := Builtin.Tuple.tupleExact _) (wpAny_newObj_type (wpAny_pure ⟨_, rfl, wpAny_pure h⟩) htake)
    | exact wpAny_bind (m := Builtin.Tuple.tupleExact _) (wpAny_newObj_type (wpAny_bind (wpAny_pure (wpAny_pure ⟨_, rfl, wpAny_pure h⟩))) htake)
    | exact wpAny_bind (wpAny_bind (m := Builtin.Tuple.tupleExact _) (wpAny_newObj_type (wpAny_pure (wpAny_pure ⟨_, rfl, wpAny_pure h⟩)) htake))
    | exact wpAny_bind (wpAny_bind (m := Builtin.Tuple.tupleExact _) (wpAny_newObj_type (wpAny_pure ⟨_, rfl, wpAny_pure h⟩) htake))
end
section
variable {X : Cx} {Z : Zf}
/-- xs[::-1], a list or a tuple -/
def tRevA (K : PySem.W.Frag) (te : TE) : TE := fun σ H Q => te σ H fun x H1 => ∃ a xs, x = .ref a ∧ ((SqL K H1 a xs ∧ ∀ p, H1 p = none → Q (.ref p) (upd H1 p (.lst xs.reverse))) ∨ SqT K H1 a xs ∧ ∀ p, H1 p = none → Q (.ref p) (upd H1 p (.tup xs.reverse)))
theorem pe_revA {e : Expr} {te : TE} {k : Nat} {p1 p2 p3 pos : Pos} (he : PE X e te) : PE X (.Subscript e (.Slice none none (some (.UnaryOp .USub (.Constant (.int 1) k p1) p2)) p3) pos) (tRevA X.K te) := by
  refine ⟨fun pins s σ H Q I h => Subscript_ (thn (he.run pins s σ H _ I h) ?_)⟩
  rintro v s1 ⟨x, H1, I1, r1, a, xs, rfl, hx⟩
  cases r1
  have none_ : ∀ {s2 : Shared} {H2 : Hp}, Inv X pins σ H2 s2 → _ := fun {s2 H2} I2 => (po_none (X := X)).run pins s2 σ H2 (fun o H3 => o = none ∧ H3 = H2) I2 ⟨rfl, rfl⟩
  have part : PO X (some (.UnaryOp .USub (.Constant (.int 1) k p1) p2)) (tPart (tUn (rU fun i => .int (-i)) (tC (.int 1)))) := po_some (pe_un un_neg pe_int)
  refine wpAny_Slice (thn (none_ I1) ?_)
  rintro vl s2 ⟨l, H2, I2, pl, rfl, rfl⟩
  refine thn (none_ I2) ?_
  rintro vu s3 ⟨u, H3, I3, pu, rfl, rfl⟩
  refine thn (part.run pins s3 σ H3 (fun o H4 => o = some (-1) ∧ H4 = H3) I3 ⟨1, rfl, -1, rfl, rfl, rfl⟩) ?_
  rintro vs s4 ⟨o, H4, I4, ps, rfl, rfl⟩
  have I5 : Inv X pins σ H4 { s4 with heap := s4.heap.push { cls := .type "slice", data := .fields #[vl, vu, vs] } } := I4.kept (t' := s4.toks) fun b ob q => Heap.get?_push_of_some _ q
  show wpAny (model X.prog X.w) X.A (subscriptTail e _ (.ref a) (.ref s4.heap.objs.size)) (EP X pins σ Q) X.xe { s4 with heap := s4.heap.push { cls := .type "slice", data := .fields #[vl, vu, vs] } }
  rcases hx with ⟨hx, q⟩ | ⟨hx, q⟩
  · obtain ⟨its, r, ht, hz⟩ := I5.list hx
    refine tail_any (ops := [.ref a, .ref s4.heap.objs.size]) ht.isList.typeIs PySem.slot_list_getitem.lookup (wpAny_getItem_list_slice ht.isList (Heap.IsSliceOf.new _ vl vu vs) pl pu ps (by decide) ?_ (by rw [List.size_toArray, ← r.length]; exact hz)) (by with_unfolding_all rfl)
    rw [PySem.W.krv_pick]
    exact ⟨.ref _, _, I5.laid (t' := s4.toks) (o := .lst xs.reverse) (fun b ob q => Heap.get?_push_of_some _ q) (Nat.le_refl _) ⟨by rw [List.length_reverse]; exact hz, _, 0, r.reverse, Heap.get?_push_size _ rfl⟩, rfl, q _ (I5.hok.fresh (Nat.le_refl _))⟩
  · obtain ⟨its, r, ht, hz⟩ := I5.tuple hx
    refine tail_any (ops := [.ref a, .ref s4.heap.objs.size]) ht.typeIs PyProof.Rows.slot_tuple_getitem.lookup (getItem_tuple_back ht (Heap.IsSliceOf.new _ vl vu vs) pl pu ps ?_ (by rw [List.size_toArray, ← r.length]; exact hz)) (by with_unfolding_all rfl)
    exact ⟨.ref _, _, I5.laid (t' := s4.toks) (o := .tup xs.reverse) (fun b ob q => Heap.get?_push_of_some _ q) (Nat.le_refl _) ⟨by rw [List.length_reverse]; exact hz, _, r.reverse, IsTup.new _ _⟩, rfl, q _ (I5.hok.fresh (Nat.le_refl _))⟩
def pRev (x : D) (Q : D → Prop) : Prop := match x with
  | .lst ds => Q (.lst ds.reverse)
  | .sq ds => Q (.lst ds.reverse)
  | .tup ds => Q (.tup ds.reverse)
  | _ => False
def dRev (t : DT) : DT := fun E s Q => t E s fun d s1 => pRev d fun z => Q z s1
theorem de_rev {e : Expr} {te : DT} {k : Nat} {p1 p2 p3 pos : Pos} (he : DR X Z e te) : DE X Z (.Subscript e (.Slice none none (some (.UnaryOp .USub (.Constant (.int 1) k p1) p2)) p3) pos) (dRev te) := by
  refine ⟨fun E s Q Q' m q => he.mono _ _ _ _ (fun d s1 z => by
    cases d with
    | lst ds => exact m _ _ z
    | sq ds => exact m _ _ z
    | tup ds => exact m _ _ z
    | _ => exact z.elim) q, fun E W tk ek => PE.weak (pe_revA (he.run E W tk ek)) fun σ H Q ⟨s, o, sr, q⟩ => ⟨s, o, sr, he.mono _ _ _ _ (fun d s1 z v H1 o1 sr1 st1 rv => ?_) q⟩⟩
  have fin : ∀ {z : D}, (∀ v H' o', SR X.K Z σ H' s1 o' → Stp Z H s o H' s1 o' → Rep X.K (S1 Z H' s1 o') z v → Q v H') → Dlv X.K Z H1 s1 o1 Q z := fun h v H' e r => h v H' o1 (sr1.alloc e) (st1.trans (.alloc e)) r
  cases d with
  | lst ds =>
    obtain ⟨a, vs, rfl, h1, h2⟩ := rv
    exact ⟨a, vs, rfl, .inl ⟨.inl (.inl (at_hid h1)), fun p np => Dlv.lst sr1 (fin z) h2.rev np⟩⟩
  | sq ds =>
    obtain ⟨a, vs, rfl, h1, h2⟩ := rv
    exact ⟨a, vs, rfl, .inl ⟨seqL_hid h1, fun p np => Dlv.lst sr1 (fin z) h2.rev np⟩⟩
  | tup ds =>
    obtain ⟨a, vs, rfl, h1, h2⟩ := rv
    exact ⟨a, vs, rfl, .inr ⟨seqT_hid h1, fun p np => Dlv.tup sr1 (fin z) h2.rev np⟩⟩
  | _ => exact z.elim

/-! ### repr -/
def rRepr (K : PySem.W.Frag) : List V → Hp → VK → Prop := fun xs H Q => ∃ v d, xs = [v] ∧ Dp K H v d ∧ d.showable = true ∧ d.shown.length ≤ sizeLine ∧ d.depth ≤ 100 ∧ d.hasDict = false ∧ Q (.str d.shown) H
theorem call_repr (gd : X.A.guards = some []) (hu : X.A.units + 200 < cLine) : CallR X (.builtin "repr") (rRepr X.K) := by
  rintro pins s σ H xs us Q I r ⟨v, d, rfl, hd, h1, h2, h3, h4, q⟩
  obtain ⟨u, rfl, ru⟩ : ∃ u, us = [u] ∧ RelV v u := by
    cases r with
    | cons a b => cases b; exact ⟨_, rfl, a⟩
  have fin : ∀ {t : Tok} {h' : Heap} {tk : Nat}, (∀ b o, s.heap.get? b = some o → h'.get? b = some o) → EP X pins σ Q (.str d.shown t) { s with heap := h', toks := tk } := fun hk => ⟨.str d.shown, H, I.kept hk, ⟨_, rfl⟩, q⟩
  have same : ∀ {t : Tok} {tk : Nat}, EP X pins σ Q (.str d.shown t) { s with toks := tk } := fun {t tk} => ⟨.str d.shown, H, I.tok tk, ⟨_, rfl⟩, q⟩
  obtain ⟨as, rd⟩ := Dp.reads I d v u hd ru
  cases hd with
  | non => cases ru; exact PySem.P.repr_of_none same
  | bl b => cases ru; exact PySem.P.repr_of_bool same
  | int i =>
    obtain ⟨t, rfl⟩ := ru
    exact PySem.P.repr_of_int (of_decide_eq_true h1) same
  | str x =>
    obtain ⟨t, rfl⟩ := ru
    exact PySem.P.repr_of_str same h2
  | lst hs ha =>
    cases ru
    exact repr_of_reads' rd h1 (PyData.noDict_hsm h4) gd (by omega) (fun _ _ e => e) (fun h' u tk hk => fin hk) h2
  | tup hs ha =>
    cases ru
    exact repr_of_reads' rd h1 (PyData.noDict_hsm h4) gd (by omega) (fun _ _ e => e) (fun h' u tk hk => fin hk) h2
mutual
theorem noDict : ∀ (d : D), (toP d).hasDict = false
  | .non | .bl _ | .int _ | .str _ | .ty _ | .ref _ | .sq _ | .dct _ => rfl
  | .tup ds => noDicts ds
  | .lst ds => noDicts ds
theorem noDicts : ∀ (ds : List D), PyData.hasDictAll (toPs ds) = false
  | [] => rfl
  | d :: ds => by
    show (PyData.hasDict (toP d) || PyData.hasDictAll (toPs ds)) = false
    rw [noDict d, noDicts ds]
    rfl
end
def reprOk (x : D) : Prop := isP x = true ∧ (toP x).showable = true ∧ (toP x).shown.length ≤ sizeLine ∧ (toP x).depth ≤ 100
def pRepr : DSt → D → (D → Prop) → Prop := fun _ x Q => reprOk x ∧ Q (.str (toP x).shown)
theorem bc_repr (gd : X.A.guards = some []) (hu : X.A.units + 200 < cLine) : BCall X Z (.builtin "repr") (p1 pRepr) :=
  bcall1 (call_repr gd hu) (fun s x Q Q' h q => ⟨q.1, h _ q.2⟩) fun σ H s o x dx Q sr rx q => ⟨x, toP dx, rfl, dp_R hid_same hid_same q.1.1 rx, q.1.2.1, q.1.2.2.1, q.1.2.2.2, noDict dx, q.2.str⟩
/-- list(x), str(n) -/
def pList : DSt → D → (D → Prop) → Prop := fun s x Q => match x with
  | .lst ds => Q (.lst ds)
  | .tup ds => Q (.lst ds)
  | .sq ds => Q (.lst ds)
  | _ => False
theorem bc_list : BCall X Z (.type "list") (p1 pList) := by
  refine bcall1 call_list_of (fun s x Q Q' h q => ?_) fun σ H s o x dx Q sr rx q => ?_
  · cases x with
    | lst ds => exact h _ q
    | tup ds => exact h _ q
    | sq ds => exact h _ q
    | _ => exact q.elim
  · cases dx with
    | lst ds =>
      obtain ⟨a, vs, rfl, h1, h2⟩ := rx
      exact ⟨a, vs, rfl, .inl (.inl (.inl (at_hid h1))), fun l nl => Dlv.lst sr q h2 nl⟩
    | sq ds =>
      obtain ⟨a, vs, rfl, h1, h2⟩ := rx
      exact ⟨a, vs, rfl, .inl (seqL_hid h1), fun l nl => Dlv.lst sr q h2 nl⟩
    | tup ds =>
      obtain ⟨a, vs, rfl, h1, h2⟩ := rx
      exact ⟨a, vs, rfl, .inr (seqT_hid h1), fun l nl => Dlv.lst sr q h2 nl⟩
    | _ => exact q.elim
def pStr : DSt → D → (D → Prop) → Prop := fun s x Q => match x with
  | .int i => i.natAbs.log2 < 1920 ∧ Q (.str (toString i))
  | _ => False
theorem bc_str : BCall X Z (.type "str") (p1 pStr) := by
  refine bcall1 call_str_int (fun s x Q Q' h q => ?_) fun σ H s o x dx Q sr rx q => ?_
  · cases x with
    | int i => exact ⟨q.1, h _ q.2⟩
    | _ => exact q.elim
  · cases dx with
    | int i => cases (show _ = _ from rx); exact ⟨i, rfl, q.1, q.2.str⟩
    | _ => exact q.elim
/-- {} -/
def dDict0 : DTk := fun _ s Q => Q [] s
theorem dk_new0 {pos : Pos} : DK X Z (.Dict [] [] pos) dDict0 := ⟨fun E s Q Q' m q => m _ _ q, fun E W tk ek => PE.weak pe_dnewK fun σ H Q ⟨s, o, sr, q⟩ p np => by
  obtain ⟨a1, a2⟩ := sr.addNew (u := .dK []) np
  exact q p [] _ o a1 (.alloc (same_new np)) np upd_same (sr.fresh np) rfl⟩
end
end DL

set_option Elab.async false
set_option linter.all false
set_option maxRecDepth 100000
namespace DL
open PySem PySem.Spec L2
open PyProof.Rows hiding St

/-! ### slots are stored -/
section
variable {K : PySem.W.Frag} {Z : Zf} {σ : St} {H H' : Hp} {s : DSt} {o : Own}
theorem un_sub {i : Nat} {ρ : List Sl} : Same (S1 Z H s o) (S1 Z H ⟨ρ, s.Γ⟩ (unOwn o i)) := same_hid fun b u n h => ⟨fun q => n (by
    rcases q with q | q | ⟨j, q⟩
    · exact .inl q
    · exact .inr (.inl q)
    · unfold unOwn at q
      split at q
      · cases q
      · exact .inr (.inr ⟨j, q⟩)), h⟩
theorem unOwn_some {i j : Nat} {a : Addr} (q : unOwn o i j = some a) : o j = some a ∧ j ≠ i := by
  unfold unOwn at q
  split at q
  · cases q
  · rename_i ne
    exact ⟨q, ne⟩
theorem SR.put (r : SR K Z σ H s o) {i : Nat} (hi : i < s.ρ.length) {d : D} {v : V} (rv : Rep K (S1 Z H s o) d v) :
    SR K Z (σ.set i (some v)) H ⟨s.ρ.set i (.val d), s.Γ⟩ (unOwn o i) ∧ Same (S1 Z H s o) (S1 Z H ⟨s.ρ.set i (.val d), s.Γ⟩ (unOwn o i)) := by
  have sub : Same (S1 Z H s o) (S1 Z H ⟨s.ρ.set i (.val d), s.Γ⟩ (unOwn o i)) := un_sub
  refine ⟨⟨by simpa using r.len, fun j => ?_, fun j k a h1 h2 => r.inj j k a (unOwn_some h1).1 (unOwn_some h2).1, fun j a h => r.own j a (unOwn_some h).1, fun a ds hm => (r.gam a ds hm).imp fun vs h => ⟨h.1, Reps.mono sub _ _ h.2⟩, r.gnd, r.gold, r.frame, r.bok, r.gok⟩, sub⟩
  show SlotOk K _ H (s.ρ.set i (.val d))[j]? (σ.set i (some v))[j]? _
  by_cases hj : j = i
  · subst hj
    rw [List.getElem?_set_self hi, List.getElem?_set_self (by rw [← r.len]; exact hi), show unOwn o j j = none from if_pos rfl]
    exact ⟨rfl, v, rfl, Rep.mono sub _ _ rv⟩
  · rw [List.getElem?_set_ne (Ne.symm hj), List.getElem?_set_ne (Ne.symm hj), show unOwn o i j = o j from if_neg hj]
    exact (r.slot j).mono sub fun _ _ _ h => h
def setOwn (o : Own) (i : Nat) (a : Addr) : Own := fun j => if j = i then some a else o j
/-- a fresh list becomes slot i's own -/
theorem SR.putOwn {a : Addr} {vs : List V} {ds : List D} (r : SR K (Z.add a) σ H s o) {i : Nat} (hi : i < s.ρ.length) (h0 : Z.H0 a = none) (ha : H a = some (.lst vs)) (hm : ¬ mut1 Z s o a) (rv : Reps K (S1 (Z.add a) H s o) ds vs) :
    SR K Z (σ.set i (some (.ref a))) H ⟨s.ρ.set i (.lst ds), s.Γ⟩ (setOwn o i a) ∧ Same (S1 (Z.add a) H s o) (S1 Z H ⟨s.ρ.set i (.lst ds), s.Γ⟩ (setOwn o i a)) := by
  have sub : Same (S1 (Z.add a) H s o) (S1 Z H ⟨s.ρ.set i (.lst ds), s.Γ⟩ (setOwn o i a)) := same_hid fun b u n h => ⟨fun q => n (by
    rcases q with q | q | ⟨j, q⟩
    · exact .inl (.inr q)
    · exact .inr (.inl q)
    · unfold setOwn at q
      split at q
      · cases q
        exact .inl (.inl rfl)
      · exact .inr (.inr ⟨j, q⟩)), h⟩
  have na : ∀ j, o j ≠ some a := fun j q => hm (.inr (.inr ⟨j, q⟩))
  have os : ∀ {j b}, setOwn o i a j = some b → (j = i ∧ b = a) ∨ (j ≠ i ∧ o j = some b) := fun {j b} q => by
    unfold setOwn at q
    split at q
    · rename_i e
      cases q
      exact .inl ⟨e, rfl⟩
    · rename_i e
      exact .inr ⟨e, q⟩
  refine ⟨⟨by simpa using r.len, fun j => ?_, fun j k b h1 h2 => ?_, fun j b h => ?_, fun b ds hm => (r.gam b ds hm).imp fun vs h => ⟨h.1, Reps.mono sub _ _ h.2⟩, r.gnd, fun b h => ⟨fun z => (r.gold b h).1 (.inr z), (r.gold b h).2⟩, r.frame, fun b h => r.bok b (.inr h), r.gok⟩, sub⟩
  · show SlotOk K _ H (s.ρ.set i (.lst ds))[j]? (σ.set i (some (.ref a)))[j]? _
    by_cases hj : j = i
    · subst hj
      rw [List.getElem?_set_self hi, List.getElem?_set_self (by rw [← r.len]; exact hi), show setOwn o j a j = some a from if_pos rfl]
      exact ⟨a, vs, rfl, rfl, ha, Reps.mono sub _ _ rv⟩
    · rw [List.getElem?_set_ne (Ne.symm hj), List.getElem?_set_ne (Ne.symm hj), show setOwn o i a j = o j from if_neg hj]
      exact (r.slot j).mono sub fun _ _ _ h => h
  · rcases os h1 with ⟨e1, e2⟩ | ⟨e1, e2⟩ <;> rcases os h2 with ⟨e3, e4⟩ | ⟨e3, e4⟩
    · rw [e1, e3]
    · rw [e2] at e4
      exact absurd e4 (na k)
    · rw [e4] at e2
      exact absurd e2 (na j)
    · exact r.inj j k b e2 e4
  · rcases os h with ⟨e1, e2⟩ | ⟨e1, e2⟩
    · subst e2
      exact ⟨h0, fun z => hm (.inr (.inl z)), fun z => hm (.inl z)⟩
    · exact ⟨(r.own j b e2).1, (r.own j b e2).2.1, fun z => (r.own j b e2).2.2 (.inr z)⟩
theorem SR.putOwnK {a : Addr} {vs : List (Key × V)} {ds : List (Key × D)} (r : SR K (Z.add a) σ H s o) {i : Nat} (hi : i < s.ρ.length) (h0 : Z.H0 a = none) (ha : H a = some (.dK vs)) (hm : ¬ mut1 Z s o a) (rv : RepK K (S1 (Z.add a) H s o) ds vs) :
    SR K Z (σ.set i (some (.ref a))) H ⟨s.ρ.set i (.dct ds), s.Γ⟩ (setOwn o i a) ∧ Same (S1 (Z.add a) H s o) (S1 Z H ⟨s.ρ.set i (.dct ds), s.Γ⟩ (setOwn o i a)) := by
  have sub : Same (S1 (Z.add a) H s o) (S1 Z H ⟨s.ρ.set i (.dct ds), s.Γ⟩ (setOwn o i a)) := same_hid fun b u n h => ⟨fun q => n (by
    rcases q with q | q | ⟨j, q⟩
    · exact .inl (.inr q)
    · exact .inr (.inl q)
    · unfold setOwn at q
      split at q
      · cases q
        exact .inl (.inl rfl)
      · exact .inr (.inr ⟨j, q⟩)), h⟩
  have na : ∀ j, o j ≠ some a := fun j q => hm (.inr (.inr ⟨j, q⟩))
  have os : ∀ {j b}, setOwn o i a j = some b → (j = i ∧ b = a) ∨ (j ≠ i ∧ o j = some b) := fun {j b} q => by
    unfold setOwn at q
    split at q
    · rename_i e
      cases q
      exact .inl ⟨e, rfl⟩
    · rename_i e
      exact .inr ⟨e, q⟩
  refine ⟨⟨by simpa using r.len, fun j => ?_, fun j k b h1 h2 => ?_, fun j b h => ?_, fun b ds hm => (r.gam b ds hm).imp fun vs h => ⟨h.1, Reps.mono sub _ _ h.2⟩, r.gnd, fun b h => ⟨fun z => (r.gold b h).1 (.inr z), (r.gold b h).2⟩, r.frame, fun b h => r.bok b (.inr h), r.gok⟩, sub⟩
  · show SlotOk K _ H (s.ρ.set i (.dct ds))[j]? (σ.set i (some (.ref a)))[j]? _
    by_cases hj : j = i
    · subst hj
      rw [List.getElem?_set_self hi, List.getElem?_set_self (by rw [← r.len]; exact hi), show setOwn o j a j = some a from if_pos rfl]
      exact ⟨a, vs, rfl, rfl, ha, RepK.mono sub _ _ rv⟩
    · rw [List.getElem?_set_ne (Ne.symm hj), List.getElem?_set_ne (Ne.symm hj), show setOwn o i a j = o j from if_neg hj]
      exact (r.slot j).mono sub fun _ _ _ h => h
  · rcases os h1 with ⟨e1, e2⟩ | ⟨e1, e2⟩ <;> rcases os h2 with ⟨e3, e4⟩ | ⟨e3, e4⟩
    · rw [e1, e3]
    · rw [e2] at e4
      exact absurd e4 (na k)
    · rw [e4] at e2
      exact absurd e2 (na j)
    · exact r.inj j k b e2 e4
  · rcases os h with ⟨e1, e2⟩ | ⟨e1, e2⟩
    · subst e2
      exact ⟨h0, fun z => hm (.inr (.inl z)), fun z => hm (.inl z)⟩
    · exact ⟨(r.own j b e2).1, (r.own j b e2).2.1, fun z => (r.own j b e2).2.2 (.inr z)⟩
theorem SR.newH0 (r : SR K Z σ H s o) {a : Addr} (h : H a = none) : Z.H0 a = none := by
  cases e : Z.H0 a with
  | none => rfl
  | some u =>
    by_cases hg : a ∈ Z.G0
    · obtain ⟨u', e'⟩ := r.gok a hg
      rw [h] at e'
      cases e'
    · rw [r.frame a u e hg] at h
      cases h

/-! ### targets -/
inductive Tg where
  | one (i : Nat) | many (is : List Nat)
def Tg.ixs : Tg → List Nat
  | .one i => [i]
  | .many is => is
def putMany : List Nat → List D → List Sl → (List Sl → Prop) → Prop
  | [], [], ρ, Q => Q ρ
  | i :: is, d :: ds, ρ, Q => i < ρ.length ∧ putMany is ds (ρ.set i (.val d)) Q
  | _, _, _, _ => False
def Tg.put : Tg → D → List Sl → (List Sl → Prop) → Prop
  | .one i, d, ρ, Q => i < ρ.length ∧ Q (ρ.set i (.val d))
  | .many is, d, ρ, Q => match d with
    | .tup ds => putMany is ds ρ Q
    | _ => False
theorem putMany_mono {Q Q' : List Sl → Prop} (h : ∀ ρ, Q ρ → Q' ρ) : ∀ {is : List Nat} {ds : List D} {ρ : List Sl}, putMany is ds ρ Q → putMany is ds ρ Q'
  | [], [], _, q => h _ q
  | i :: is, d :: ds, ρ, q => ⟨q.1, putMany_mono h q.2⟩
  | [], _ :: _, _, q => q.elim
  | _ :: _, [], _, q => q.elim
theorem putMany_len {Q : List Sl → Prop} : ∀ {is : List Nat} {ds : List D} {ρ : List Sl}, putMany is ds ρ Q → ds.length = is.length
  | [], [], _, _ => rfl
  | i :: is, d :: ds, ρ, q => by rw [List.length_cons, List.length_cons, putMany_len q.2]
  | [], _ :: _, _, q => q.elim
  | _ :: _, [], _, q => q.elim
theorem Tg.put_mono {T : Tg} {d : D} {ρ : List Sl} {Q Q' : List Sl → Prop} (h : ∀ ρ, Q ρ → Q' ρ) (q : T.put d ρ Q) : T.put d ρ Q' := by
  cases T with
  | one i => exact ⟨q.1, h _ q.2⟩
  | many is => cases d with
    | tup ds => exact putMany_mono h q
    | _ => exact q.elim
def gMany : List Nat → TGs
  | [] => gNil
  | i :: is => gCons (gName i) (gMany is)
def Tg.rd (K : PySem.W.Frag) : Tg → TG
  | .one i => gName i
  | .many is => gTup K is.length (gMany is)
def TgOut (K : PySem.W.Frag) (Z : Zf) (H : Hp) (s : DSt) (o : Own) (is : List Nat) (σ : St) (Q : List Sl → Prop) (σ' : St) (H' : Hp) : Prop :=
  H' = H ∧ ∃ ρ' o', SR K Z σ' H ⟨ρ', s.Γ⟩ o' ∧ Same (S1 Z H s o) (S1 Z H ⟨ρ', s.Γ⟩ o') ∧ (∀ own : List Nat, (∀ i ∈ is, i ∈ own) → wipe σ' own = wipe σ own) ∧ Q ρ'
theorem wipe_get (σ : St) (own : List Nat) (i : Nat) : (wipe σ own)[i]? = (σ[i]?).map fun x => if i ∈ own then none else x := by
  induction own with
  | nil => simp [wipe]
  | cons v vs ih =>
    unfold wipe
    by_cases h : v = i
    · subst h
      rw [List.getElem?_set]
      simp only [if_true, wipe_length, List.mem_cons, true_or]
      cases e : σ[v]? with
      | none =>
        rw [if_neg]
        · rfl
        · exact Nat.not_lt.mpr (List.getElem?_eq_none_iff.mp e)
      | some x =>
        rw [if_pos (List.getElem?_eq_some_iff.mp e).1]
        rfl
    · rw [List.getElem?_set_ne h, ih]
      have : (i ∈ v :: vs) = (i ∈ vs) := by
        rw [List.mem_cons, propext (or_iff_right (fun e => h e.symm))]
      simp only [this]
theorem wipe_set {σ : St} {own : List Nat} {i : Nat} {x : Option V} (h : i ∈ own) : wipe (σ.set i x) own = wipe σ own := by
  apply List.ext_getElem?
  intro j
  rw [wipe_get, wipe_get]
  by_cases e : i = j
  · subst e
    rw [List.getElem?_set]
    simp only [if_true, h]
    by_cases l : i < σ.length
    · rw [if_pos l, List.getElem?_eq_getElem l]
      rfl
    · rw [if_neg l, List.getElem?_eq_none (Nat.not_lt.mp l)]
  · rw [List.getElem?_set_ne e]
theorem many_ok : ∀ {is : List Nat} {ds : List D} {vs : List V} {σ : St} {s : DSt} {o : Own} {Q : List Sl → Prop}, SR K Z σ H s o → Reps K (S1 Z H s o) ds vs → putMany is ds s.ρ Q → gMany is vs σ H (TgOut K Z H s o is σ Q)
  | [], [], _, σ, s, o, Q, r, h, q => by
    cases (show _ = _ from h)
    exact ⟨rfl, rfl, s.ρ, o, r, Same.refl _, fun _ _ => rfl, q⟩
  | i :: is, d :: ds, _, σ, s, o, Q, r, h, q => by
    obtain ⟨v, t, rfl, h1, h2⟩ := h
    obtain ⟨hi, q⟩ := q
    refine ⟨v, t, rfl, ?_⟩
    show gMany is t (σ.set i (some v)) H _
    obtain ⟨r', sub⟩ := r.put hi h1
    have ih := many_ok (is := is) (Q := Q) r' (Reps.mono sub _ _ h2) q
    refine gMany_mono (fun σ' H' h => ?_) ih
    obtain ⟨e, ρ', o', r2, e2, e3, q2⟩ := h
    exact ⟨e, ρ', o', r2, sub.trans e2, fun own ho => (e3 own fun j hj => ho j (List.mem_cons_of_mem _ hj)).trans (wipe_set (ho i List.mem_cons_self)), q2⟩
  | [], _ :: _, _, _, _, _, _, _, _, q => q.elim
  | _ :: _, [], _, _, _, _, _, _, _, q => q.elim
where
  gMany_mono {Q Q' : St → Hp → Prop} (h : ∀ σ H, Q σ H → Q' σ H) : ∀ {is : List Nat} {vs : List V} {σ : St} {H : Hp}, gMany is vs σ H Q → gMany is vs σ H Q'
  | [], _, _, _, q => ⟨q.1, h _ _ q.2⟩
  | i :: is, _, _, _, q => by
    obtain ⟨v, r, e, q⟩ := q
    exact ⟨v, r, e, gMany_mono (is := is) h q⟩
theorem Tg.ok {T : Tg} {d : D} {v : V} {Q : List Sl → Prop} (r : SR K Z σ H s o) (rv : Rep K (S1 Z H s o) d v) (q : T.put d s.ρ Q) : T.rd K v σ H (TgOut K Z H s o T.ixs σ Q) := by
  cases T with
  | one i =>
    obtain ⟨hi, q⟩ := q
    obtain ⟨r', sub⟩ := r.put hi rv
    exact ⟨rfl, _, _, r', sub, fun own ho => wipe_set (ho i List.mem_cons_self), q⟩
  | many is => cases d with
    | tup ds =>
      obtain ⟨a, vs, rfl, h1, h2⟩ := rv
      have q' : putMany is ds s.ρ Q := q
      have hl : vs.length = is.length := by
        rw [← h2.len]
        exact putMany_len q'
      exact ⟨a, vs, rfl, seqT_hid h1, hl, many_ok r h2 q'⟩
    | _ => exact q.elim

/-! ### slots forgotten and given back -/
def restAt (own : List Nat) : Nat → List Sl → List Sl → List Sl
  | _, [], _ => []
  | n, x :: ρ, ρ0 => (if n ∈ own then ρ0.headD .emp else x) :: restAt own (n + 1) ρ ρ0.tail
def restS (own : List Nat) (ρ ρ0 : List Sl) : List Sl := restAt own 0 ρ ρ0
def wipeS (own : List Nat) (ρ : List Sl) : List Sl := restAt own 0 ρ []
theorem restAt_get (own : List Nat) : ∀ (n : Nat) (ρ ρ0 : List Sl) (i : Nat), (restAt own n ρ ρ0)[i]? = (ρ[i]?).map fun x => if n + i ∈ own then ρ0.getD i .emp else x
  | _, [], _, _ => by simp [restAt]
  | n, x :: ρ, ρ0, 0 => by
    simp only [restAt, List.getElem?_cons_zero, Option.map_some, Nat.add_zero]
    cases ρ0 <;> simp
  | n, x :: ρ, ρ0, i + 1 => by
    simp only [restAt, List.getElem?_cons_succ]
    rw [restAt_get own (n + 1) ρ ρ0.tail i, show n + 1 + i = n + (i + 1) by omega]
    cases ρ0 <;> simp
theorem restAt_len (own : List Nat) : ∀ (n : Nat) (ρ ρ0 : List Sl), (restAt own n ρ ρ0).length = ρ.length
  | _, [], _ => rfl
  | n, x :: ρ, ρ0 => by simp only [restAt, List.length_cons]; rw [restAt_len own (n + 1) ρ ρ0.tail]
theorem restS_get {own : List Nat} {ρ ρ0 : List Sl} {i : Nat} : (restS own ρ ρ0)[i]? = (ρ[i]?).map fun x => if i ∈ own then ρ0.getD i .emp else x := by
  unfold restS
  rw [restAt_get, Nat.zero_add]
theorem wipeS_get {own : List Nat} {ρ : List Sl} {i : Nat} : (wipeS own ρ)[i]? = (ρ[i]?).map fun x => if i ∈ own then .emp else x := by
  unfold wipeS
  rw [restAt_get, Nat.zero_add]
  simp
def unOwns (o : Own) (own : List Nat) : Own := fun j => if j ∈ own then none else o j
theorem unOwns_some {own : List Nat} {j : Nat} {a : Addr} (q : unOwns o own j = some a) : o j = some a ∧ j ∉ own := by
  unfold unOwns at q
  split at q
  · cases q
  · rename_i ne
    exact ⟨q, ne⟩
theorem SR.wipe (r : SR K Z σ H s o) (own : List Nat) : SR K Z (L2.wipe σ own) H ⟨wipeS own s.ρ, s.Γ⟩ (unOwns o own) ∧ Same (S1 Z H s o) (S1 Z H ⟨wipeS own s.ρ, s.Γ⟩ (unOwns o own)) := by
  have sub : Same (S1 Z H s o) (S1 Z H ⟨wipeS own s.ρ, s.Γ⟩ (unOwns o own)) := same_hid fun b u n h => ⟨fun q => n (by
    rcases q with q | q | ⟨j, q⟩
    · exact .inl q
    · exact .inr (.inl q)
    · exact .inr (.inr ⟨j, (unOwns_some q).1⟩)), h⟩
  refine ⟨⟨by rw [wipe_length, ← r.len]; exact restAt_len own 0 s.ρ [], fun j => ?_, fun j k a h1 h2 => r.inj j k a (unOwns_some h1).1 (unOwns_some h2).1, fun j a h => r.own j a (unOwns_some h).1, fun a ds hm => (r.gam a ds hm).imp fun vs h => ⟨h.1, Reps.mono sub _ _ h.2⟩, r.gnd, r.gold, r.frame, r.bok, r.gok⟩, sub⟩
  show SlotOk K _ H (wipeS own s.ρ)[j]? (L2.wipe σ own)[j]? _
  rw [wipeS_get, wipe_get]
  have q := r.slot j
  by_cases hj : j ∈ own
  · rw [show unOwns o own j = none from if_pos hj]
    cases e : s.ρ[j]? with
    | none => exact rfl
    | some x =>
      simp only [hj, if_true, Option.map_some]
      exact rfl
  · rw [show unOwns o own j = o j from if_neg hj]
    simp only [hj, if_false]
    rw [show Option.map (fun x => x) s.ρ[j]? = s.ρ[j]? by simp, show Option.map (fun x => x) σ[j]? = σ[j]? by simp]
    exact q.mono sub fun _ _ _ h => h
def Sl.isOwn : Sl → Bool
  | .lst _ => true
  | .dct _ => true
  | _ => false
/-- given back: r the state behind, r0 the state ahead -/
theorem SR.rest {H0 : Hp} {s0 : DSt} {o0 : Own} {own : List Nat} (r : SR K Z (L2.wipe σ own) H s o) (r0 : SR K Z σ H0 s0 o0) (e : Same (S1 Z H0 s0 o0) (S1 Z H s o)) (hown : ∀ i ∈ own, (s0.ρ.getD i .emp).isOwn = false) :
    SR K Z σ H ⟨restS own s.ρ s0.ρ, s.Γ⟩ (unOwns o own) ∧ Same (S1 Z H s o) (S1 Z H ⟨restS own s.ρ s0.ρ, s.Γ⟩ (unOwns o own)) := by
  have sub : Same (S1 Z H s o) (S1 Z H ⟨restS own s.ρ s0.ρ, s.Γ⟩ (unOwns o own)) := same_hid fun b u n h => ⟨fun q => n (by
    rcases q with q | q | ⟨j, q⟩
    · exact .inl q
    · exact .inr (.inl q)
    · exact .inr (.inr ⟨j, (unOwns_some q).1⟩)), h⟩
  refine ⟨⟨?_, fun j => ?_, fun j k a h1 h2 => r.inj j k a (unOwns_some h1).1 (unOwns_some h2).1, fun j a h => r.own j a (unOwns_some h).1, fun a ds hm => (r.gam a ds hm).imp fun vs h => ⟨h.1, Reps.mono sub _ _ h.2⟩, r.gnd, r.gold, r.frame, r.bok, r.gok⟩, sub⟩
  · have := r.len
    rw [wipe_length] at this
    rw [← this]
    exact restAt_len own 0 s.ρ s0.ρ
  · show SlotOk K _ H (restS own s.ρ s0.ρ)[j]? σ[j]? _
    rw [restS_get]
    have q := r.slot j
    rw [wipe_get] at q
    by_cases hj : j ∈ own
    · rw [show unOwns o own j = none from if_pos hj]
      have q0 := r0.slot j
      have h1 := hown j hj
      cases e1 : s.ρ[j]? with
      | none => exact rfl
      | some x =>
        simp only [hj, if_true, Option.map_some]
        rw [List.getD_eq_getElem?_getD] at h1 ⊢
        cases e2 : s0.ρ[j]? with
        | none =>
          rw [show (Option.none.getD Sl.emp) = .emp from rfl]
          exact rfl
        | some y =>
          rw [e2] at q0 h1
          rw [show ((some y).getD Sl.emp) = y from rfl] at h1 ⊢
          cases y with
          | emp => exact rfl
          | val d =>
            obtain ⟨_, v, h2, h3⟩ := q0
            exact ⟨rfl, v, h2, Rep.mono (e.trans sub) _ _ h3⟩
          | lst _ => cases h1
          | dct _ => cases h1
    · rw [show unOwns o own j = o j from if_neg hj]
      simp only [hj, if_false] at q ⊢
      rw [show Option.map (fun x => x) σ[j]? = σ[j]? by simp] at q
      rw [show Option.map (fun x => x) s.ρ[j]? = s.ρ[j]? by simp]
      exact q.mono sub fun _ _ _ h => h
/-- a barred object is changed -/
theorem SR.writeB {a : Addr} {u : HO} (r : SR K Z σ H s o) (hB : Z.B a) (h0 : Z.H0 a = none) : SR K Z σ (upd H a u) s o ∧ Same (S1 Z H s o) (S1 Z (upd H a u) s o) ∧ Same (S2 Z H s) (S2 Z (upd H a u) s) := by
  have ne : ∀ {b}, ¬ Z.B b → upd H a u b = H b := fun {b} h => upd_ne fun e => h (by rw [e]; exact hB)
  have sub : Same (S1 Z H s o) (S1 Z (upd H a u) s o) := same_hid fun b x n h => ⟨n, by rw [ne fun z => n (.inl z)]; exact h⟩
  refine ⟨⟨r.len, fun i => (r.slot i).mono sub fun b e x h => ?_, r.inj, r.own, fun b ds h => (r.gam b ds h).imp fun vs q => ⟨?_, Reps.mono sub _ _ q.2⟩, r.gnd, r.gold, fun b x h1 h2 => ?_, fun b h => ?_, fun b h => ?_⟩, sub, same_hid fun b x n h => ⟨n, by rw [ne fun z => n (.inl z)]; exact h⟩⟩
  · rw [ne (r.own i b e).2.2]
    exact h
  · rw [ne (r.gold b (List.mem_map.mpr ⟨_, h, rfl⟩)).1]
    exact q.1
  · rw [upd_ne fun e => by rw [e, h0] at h1; cases h1]
    exact r.frame b x h1 h2
  · by_cases e : b = a
    · subst e
      exact ⟨_, upd_same⟩
    · rw [upd_ne e]
      exact r.bok b h
  · by_cases e : b = a
    · subst e
      exact ⟨_, upd_same⟩
    · rw [upd_ne e]
      exact r.gok b h
end

/-! ### what is walked -/
structure ItOk (K : PySem.W.Frag) (J : It) (ds : List D) (S : Hp) : Prop where
  go : ∀ i H, i < ds.length → Same S H → J.go i H
  stop : ∀ H, Same S H → J.stop ds.length H
  yld : ∀ i H x H' (M : Addr → Prop), i < ds.length → (∀ b, M b → ∃ u, H b = some u) → Same S (hid H M) → J.yld i H x H' → ∃ d, ds[i]? = some d ∧ Same H H' ∧ Rep K (hid H' M) d x
def aI (K : PySem.W.Frag) (Z : Zf) (t : DTs) (E : DE') : TI := fun σ H R => ∃ s o, SR K Z σ H s o ∧ t E s fun ds s' => ∀ J H' o', SR K Z σ H' s' o' → Stp Z H s o H' s' o' → ItOk K J ds (S1 Z H' s' o') → R J H'
structure DI (X : Cx) (Z : Zf) (tg iter : Expr) (t : DTs) : Prop where
  mono : Mono t
  run : ∀ E W, Takes X W → EOk X.K Z E W → PI X tg iter (aI X.K Z t E)
theorem PI.weak {X : Cx} {tg iter : Expr} {t t' : TI} (h : PI X tg iter t) (w : ∀ σ H R, t' σ H R → t σ H R) : PI X tg iter t' := ⟨fun pins s σ H R I q => h.run pins s σ H R I (w σ H R q)⟩

section
variable {X : Cx} {Z : Zf} {K : PySem.W.Frag}
theorem itl_ok {S : Hp} {a : Addr} {vs : List V} {ds : List D} (h1 : SqL K S a vs) (h2 : Reps K S ds vs) : ItOk K (Itl K a) ds S where
  go := fun i H hi e => by
    rw [h2.len] at hi
    exact ⟨vs, vs[i], e.seq h1, by simp [hi]⟩
  stop := fun H e => ⟨vs, e.seq h1, by rw [← h2.len]; exact Nat.le_refl _⟩
  yld := fun i H x H' M hi hM e y => by
    obtain ⟨rfl, y⟩ := y
    obtain ⟨d, hd, rd⟩ := h2.get' (y vs (hid_same.seq (e.seq h1)))
    exact ⟨d, hd, Same.refl _, Rep.mono e _ _ rd⟩
theorem itt_ok {S : Hp} {a : Addr} {vs : List V} {ds : List D} (h1 : SqT K S a vs) (h2 : Reps K S ds vs) : ItOk K (Itt K a) ds S where
  go := fun i H hi e => by
    rw [h2.len] at hi
    exact ⟨vs, vs[i], same_seqT e h1, by simp [hi]⟩
  stop := fun H e => ⟨vs, same_seqT e h1, by rw [← h2.len]; exact Nat.le_refl _⟩
  yld := fun i H x H' M hi hM e y => by
    obtain ⟨rfl, y⟩ := y
    obtain ⟨d, hd, rd⟩ := h2.get' (y vs (same_seqT hid_same (same_seqT e h1)))
    exact ⟨d, hd, Same.refl _, Rep.mono e _ _ rd⟩
def rangeD (lo : Int) (n : Nat) : List D := (List.range n).map fun (i : Nat) => .int (lo + i)
theorem itr_ok {S : Hp} {lo : Int} {n : Nat} : ItOk K (Itr lo n) (rangeD lo n) S where
  go := fun i H hi e => by
    unfold rangeD at hi
    rw [List.length_map, List.length_range] at hi
    exact hi
  stop := fun H e => by
    unfold rangeD
    rw [List.length_map, List.length_range]
    exact Nat.le_refl n
  yld := fun i H x H' M hi hM e y => by
    obtain ⟨rfl, rfl⟩ := y
    refine ⟨.int (lo + i), ?_, Same.refl _, rfl⟩
    unfold rangeD at hi ⊢
    rw [List.length_map, List.length_range] at hi
    rw [List.getElem?_map, List.getElem?_range hi]
    rfl
def strD (x : Str) : List D := x.cps.toList.map fun c => .str ⟨#[c]⟩
theorem its_ok {S : Hp} {x : Str} : ItOk K (Its x) (strD x) S where
  go := fun i H hi e => by
    unfold strD at hi
    rw [List.length_map] at hi
    exact hi
  stop := fun H e => by
    unfold strD
    rw [List.length_map]
    exact Nat.le_refl x.cps.size
  yld := fun i H v H' M hi hM e y => by
    obtain ⟨rfl, c, hc, rfl⟩ := y
    refine ⟨.str ⟨#[c]⟩, ?_, Same.refl _, rfl⟩
    unfold strD
    rw [List.getElem?_map, Array.getElem?_toList, hc]
    rfl
end
end DL

set_option Elab.async false
set_option linter.all false
set_option maxRecDepth 100000
namespace DL
open PySem PySem.Spec L2
open PyProof.Rows hiding St

/-! ### sources of loops -/
section
variable {X : Cx} {Z : Zf} {e tg : Expr} {t : DT}
def seqD (x : D) (Q : List D → Prop) : Prop := match x with
  | .lst ds => Q ds
  | .tup ds => Q ds
  | .sq ds => Q ds
  | .str z => Q (strD z)
  | _ => False
theorem seqD_mono {x : D} {Q Q' : List D → Prop} (h : ∀ d, Q d → Q' d) (q : seqD x Q) : seqD x Q' := by
  cases x with
  | lst ds => exact h _ q
  | tup ds => exact h _ q
  | sq ds => exact h _ q
  | str z => exact h _ q
  | _ => exact q.elim
def dSeq (t : DT) : DTs := fun E s Q => t E s fun d s' => seqD d fun ds => Q ds s'
/-- what stands behind an iterator's making -/
theorem pie_list {K : PySem.W.Frag} {pins : List (Addr × Obj)} {σ : St} {H : Hp} {s1 : Shared} {a : Addr} {vs : List V} {R : It → Hp → Prop} (I1 : Inv X pins σ H s1) (hq : SqL X.K H a vs) (q : R (Itl X.K a) H) :
    wpAny (model X.prog X.w) X.A (pyIter (.ref a)) (PIE X pins σ tg R) X.xe s1 := by
  obtain ⟨its, rv, p, hz⟩ := I1.list hq
  have ne : s1.heap.objs.size ∈ [s1.heap.objs.size] := List.mem_singleton.mpr rfl
  refine wpAny_pyIter_list p.isList ⟨_, _, _, _, H, rfl, I1.kept (t' := s1.toks) fun b ob e1 => Heap.get?_push_of_some _ e1, turn_list a s1.heap.objs.size, ⟨_, Heap.get?_push_size _ rfl, rfl, rfl⟩, fun b hb => ?_, q⟩
  cases List.mem_singleton.mp hb
  exact I1.fpOk (Nat.le_refl _) (I1.hok.fresh (Nat.le_refl _))
theorem pie_tup {K : PySem.W.Frag} {pins : List (Addr × Obj)} {σ : St} {H : Hp} {s1 : Shared} {a : Addr} {vs : List V} {R : It → Hp → Prop} (I1 : Inv X pins σ H s1) (hq : SqT X.K H a vs) (q : R (Itt X.K a) H) :
    wpAny (model X.prog X.w) X.A (pyIter (.ref a)) (PIE X pins σ tg R) X.xe s1 := by
  obtain ⟨its, rv, p, hz⟩ := I1.tuple hq
  have ne : s1.heap.objs.size ∈ [s1.heap.objs.size] := List.mem_singleton.mpr rfl
  refine wpAny_pyIter_tuple (show s1.heap.IsTuple a its.toArray from p) ⟨_, _, _, _, H, rfl, I1.kept (t' := s1.toks) fun b ob e1 => Heap.get?_push_of_some _ e1, turn_tuple a s1.heap.objs.size, ⟨_, Heap.get?_push_size _ rfl, rfl, rfl⟩, fun b hb => ?_, q⟩
  cases List.mem_singleton.mp hb
  exact I1.fpOk (Nat.le_refl _) (I1.hok.fresh (Nat.le_refl _))
theorem pie_str {pins : List (Addr × Obj)} {σ : St} {H : Hp} {s1 : Shared} {x : Str} {t : Tok} {R : It → Hp → Prop} (I1 : Inv X pins σ H s1) (q : R (Its x) H) :
    wpAny (model X.prog X.w) X.A (pyIter (.str x t)) (PIE X pins σ tg R) X.xe s1 := by
  cases ha : x.cps.all (· < 128)
  · exact wpAny_pyIter_wide ha (pi_one (tk := s1.toks) I1 _ (turn_str _ x t "str_iterator" (.inr rfl)) ⟨_, Heap.get?_push_size _ rfl, rfl, rfl⟩ q)
  · exact wpAny_pyIter_ascii ha (pi_one (tk := s1.toks) I1 _ (turn_str _ x t "str_ascii_iterator" (.inl rfl)) ⟨_, Heap.get?_push_size _ rfl, rfl, rfl⟩ q)
theorem di_seq (h : DE X Z e t) : DI X Z tg e (dSeq t) := by
  refine ⟨fun E s Q Q' m q => h.mono _ _ _ _ (fun d s' z => seqD_mono (fun ds z => m _ _ z) z) q, fun E W tk ek => ⟨fun pins s σ H R I ⟨d, o, sr, q⟩ => ?_⟩⟩
  refine thn ((h.run E W tk ek).run pins s σ H (fun x H1 => ∃ d s' o', SR X.K Z σ H1 s' o' ∧ Rep X.K (S1 Z H1 s' o') d x ∧ seqD d fun ds => ∀ J, ItOk X.K J ds (S1 Z H1 s' o') → R J H1) I ⟨d, o, sr, h.mono _ _ _ _ (fun x s' z v H1 o1 sr1 st1 rv => ?_) q⟩) fun u s1 ⟨x, H1, I1, r1, d, s', o', sr1, rv, z⟩ => ?_
  · exact ⟨x, s', o1, sr1, rv, seqD_mono (fun ds z J ok => z J H1 o1 sr1 st1 ok) z⟩
  · cases d with
    | lst ds =>
      obtain ⟨a, vs, rfl, h1, h2⟩ := rv
      cases (show _ = _ from r1)
      exact pie_list (K := X.K) I1 (.inl (.inl (at_hid h1))) (z _ (itl_ok (.inl (.inl h1)) h2))
    | sq ds =>
      obtain ⟨a, vs, rfl, h1, h2⟩ := rv
      cases (show _ = _ from r1)
      exact pie_list (K := X.K) I1 (seqL_hid h1) (z _ (itl_ok h1 h2))
    | tup ds =>
      obtain ⟨a, vs, rfl, h1, h2⟩ := rv
      cases (show _ = _ from r1)
      exact pie_tup (K := X.K) I1 (seqT_hid h1) (z _ (itt_ok h1 h2))
    | str y =>
      cases (show _ = _ from rv)
      obtain ⟨tk, rfl⟩ := r1
      exact pie_str I1 (z _ its_ok)
    | _ => exact z.elim
/-- range(n), range(a, b) -/
def dRng1 (t : DTs) : DTs := fun E s Q => t E s fun ds s' => ∃ j : Int, ds = [.int j] ∧ (-(2 ^ 62) ≤ j ∧ j < 2 ^ 62) ∧ Q (rangeD 0 j.toNat) s'
def dRng2 (t : DTs) : DTs := fun E s Q => t E s fun ds s' => ∃ i j : Int, ds = [.int i, .int j] ∧ (-(2 ^ 62) ≤ i ∧ i < 2 ^ 62 ∧ -(2 ^ 62) ≤ j ∧ j < 2 ^ 62) ∧ Q (rangeD i (j - i).toNat) s'
variable {a b : Expr} {ta : DTs} {p pos tpos : Pos}
theorem di_range1 (hg : Gl X "range") (hm : X.mg "range" = none) (ha : DAR X Z [a] ta) (hs : starEach [a] X.env = [(false, eval a X.env)]) : DI X Z tg (.Call (.Name "range" p) [a] [] pos) (dRng1 ta) := by
  refine ⟨fun E s Q Q' m q => ha.mono _ _ _ _ (fun d s' ⟨j, e, c, z⟩ => ⟨j, e, c, m _ _ z⟩) q, fun E W tk ek => PI.weak (pi_range1 hg hm (ha.run E W tk ek) hs) fun σ H R ⟨s, o, sr, q⟩ => ⟨s, o, sr, ha.mono _ _ _ _ (fun ds s1 ⟨j, e, c, z⟩ vs H1 o1 sr1 st1 rv => ?_) q⟩⟩
  obtain ⟨v, rfl, r⟩ := rv.one e
  cases (show _ = _ from r)
  exact ⟨j, rfl, c.1, c.2, z _ H1 o1 sr1 st1 itr_ok⟩
theorem di_range2 (hg : Gl X "range") (hm : X.mg "range" = none) (ha : DAR X Z [a, b] ta) (hs : starEach [a, b] X.env = [(false, eval a X.env), (false, eval b X.env)]) (hs2 : starEach [b] X.env = [(false, eval b X.env)]) : DI X Z tg (.Call (.Name "range" p) [a, b] [] pos) (dRng2 ta) := by
  refine ⟨fun E s Q Q' m q => ha.mono _ _ _ _ (fun d s' ⟨i, j, e, c, z⟩ => ⟨i, j, e, c, m _ _ z⟩) q, fun E W tk ek => PI.weak (pi_range2 hg hm (ha.run E W tk ek) hs hs2) fun σ H R ⟨s, o, sr, q⟩ => ⟨s, o, sr, ha.mono _ _ _ _ (fun ds s1 ⟨i, j, e, c, z⟩ vs H1 o1 sr1 st1 rv => ?_) q⟩⟩
  obtain ⟨v, w, rfl, r, r2⟩ := rv.two e
  cases (show _ = _ from r)
  cases (show _ = _ from r2)
  exact ⟨i, j, rfl, c, z _ H1 o1 sr1 st1 itr_ok⟩
end

/-! ### zip of two sequences, each a list or a tuple -/
section
variable {K : PySem.W.Frag}
/-- b: a tuple -/
def SqB (K : PySem.W.Frag) (b : Bool) (H : Hp) (a : Addr) (xs : List V) : Prop := if b = true then SqT K H a xs else SqL K H a xs
def IsB (b : Bool) (h : Heap) (a : Addr) (its : Array Value) : Prop := if b = true then h.IsTuple a its else h.IsList a its
def ItB (b : Bool) (h : Heap) (it a : Addr) (i : Nat) : Prop := if b = true then h.IsTupleIter it a i else h.IsListIter it a i
def obB (b : Bool) (a : Addr) : Obj := if b = true then { cls := .type "tuple_iterator", data := .fields #[.ref a, .int 0 0] } else { cls := .type "list_iterator", data := .fields #[.ref a, .int 0 0] }
theorem SqB.mono {b : Bool} {H H' : Hp} {a : Addr} {xs : List V} (e : Same H H') (h : SqB K b H a xs) : SqB K b H' a xs := by
  cases b with
  | true => exact same_seqT e h
  | false => exact e.seq h
theorem begB (b : Bool) (a : Addr) (its : Array Value) : Begins (.ref a) (obB b a) fun h => IsB b h a its := by
  cases b with
  | true => exact begins_tuple a its
  | false => exact begins_list a its
theorem drwB {prog : Program} {w : World} {A : Around} (b : Bool) (hh : A.handled = none) (it a : Addr) (hne : a ≠ it) (its : Array Value) : Draws prog w A it [it, a] its.size (fun i v => its[i]? = some v) fun i h => ItB b h it a i ∧ IsB b h a its := by
  cases b with
  | true => exact .tuple hh it a hne its
  | false => exact .list hh it a hne its
theorem ItB.obj {b : Bool} {h : Heap} {it a : Addr} {i : Nat} (x : ItB b h it a i) : ∃ o, h.get? it = some o ∧ ∀ v, o.data ≠ .cell v := by
  cases b with
  | true => obtain ⟨o, e, c, d⟩ := x; exact ⟨o, e, fun v z => by rw [d] at z; cases z⟩
  | false => obtain ⟨o, e, c, d⟩ := x; exact ⟨o, e, fun v z => by rw [d] at z; cases z⟩
theorem ItB.at {b : Bool} {h h' : Heap} {it a : Addr} {i : Nat} (x : ItB b h it a i) (k : ∀ o, h.get? it = some o → h'.get? it = some o) : ItB b h' it a i := by
  cases b with
  | true => exact Heap.IsTupleIter.at x k
  | false => exact Heap.IsListIter.at x k
theorem ItB.new (b : Bool) (a it : Addr) (h : Heap) (e : h.get? it = some (obB b a)) : ItB b h it a 0 := by
  cases b with
  | true => exact ⟨_, e, rfl, rfl⟩
  | false => exact ⟨_, e, rfl, rfl⟩
theorem inv_B {X : Cx} {pins : List (Addr × Obj)} {σ : St} {H : Hp} {s : Shared} {b : Bool} {a : Addr} {xs : List V} (I : Inv X pins σ H s) (h : SqB X.K b H a xs) : ∃ its : List Value, Vals xs its ∧ IsB b s.heap a its.toArray ∧ a < s.heap.objs.size := by
  cases b with
  | true =>
    obtain ⟨its, r, p, _⟩ := I.tuple h
    obtain ⟨o, e, _⟩ := id p
    exact ⟨its, r, p, Heap.lt_size e⟩
  | false =>
    obtain ⟨its, r, p, _⟩ := I.list h
    exact ⟨its, r, p.isList, p.lt⟩
theorem inv_Binj {X : Cx} {pins : List (Addr × Obj)} {σ : St} {H : Hp} {s : Shared} {b : Bool} {a : Addr} {xs ys : List V} (I : Inv X pins σ H s) (h : SqB X.K b H a xs) (h' : SqB X.K b H a ys) : xs = ys := by
  cases b with
  | true => exact I.tuple_inj h h'
  | false => exact I.list_inj h h'
def ItzB (K : PySem.W.Frag) (b b' : Bool) (a a' : Addr) : It :=
  ⟨fun i H => ∃ (xs ys : List V) (x y : V), SqB K b H a xs ∧ SqB K b' H a' ys ∧ xs[i]? = some x ∧ ys[i]? = some y,
    fun i H v H' => ∃ T x y, v = .ref T ∧ H T = none ∧ H' = upd H T (.tup [x, y]) ∧ (∀ xs, SqB K b H a xs → xs[i]? = some x) ∧ ∀ ys, SqB K b' H a' ys → ys[i]? = some y,
    fun i H => ∃ xs ys : List V, SqB K b H a xs ∧ SqB K b' H a' ys ∧ i = min xs.length ys.length⟩
theorem turn_zipB {P : Program} {w : World} {elts : List Expr} {kk : Nat} {tpos : Pos} {b b' : Bool} {a a' : Addr} {N : Nat} (la : a < N) (la' : a' < N) :
    Turn P w K (.Tuple elts kk tpos) (ItzB K b b' a a') [N + 4, N + 2, N + 3, N, N + 1] (N + 4) (fun i h => IsZip h (N + 4) (N + 2) (N + 3) .none ∧ IsTupOf2 h (N + 2) (.ref N) (.ref (N + 1)) ∧ (∃ x y, IsTupOf2 h (N + 3) x y) ∧ ItB b h N a i ∧ ItB b' h (N + 1) a' i) where
  mem := by simp
  obj := fun i h st c hc => by
    obtain ⟨hz, hTI, ⟨x, y, hTO⟩, h1, h2⟩ := st
    have e' : c = N + 4 ∨ c = N + 2 ∨ c = N + 3 ∨ c = N ∨ c = N + 1 := by simpa using hc
    rcases e' with q | q | q | q | q
    · rw [q]; exact ⟨_, hz, fun v q => nomatch q⟩
    · rw [q]; exact ⟨_, hTI, fun v q => nomatch q⟩
    · rw [q]; exact ⟨_, hTO, fun v q => nomatch q⟩
    · rw [q]; exact h1.obj
    · rw [q]; exact h2.obj
  keep := fun i h h' st k => by
    obtain ⟨hz, hTI, ⟨x, y, hTO⟩, h1, h2⟩ := st
    exact ⟨k _ (by simp) _ hz, k _ (by simp) _ hTI, ⟨x, y, k _ (by simp) _ hTO⟩, h1.at fun o q => k _ (by simp) o q, h2.at fun o q => k _ (by simp) o q⟩
  item := by
    intro X hP hw hK hc i pins s σ H E I hf st hg
    subst hP hw hK
    obtain ⟨hz, hTI, hTO, h1, h2⟩ := st
    obtain ⟨xs, ys, x, y, hqx, hqy, hx, hy⟩ := hg
    obtain ⟨its, rv, p, _⟩ := inv_B I hqx
    obtain ⟨its2, rv2, p2, _⟩ := inv_B I hqy
    obtain ⟨u, hu, ru⟩ := rv.get hx
    obtain ⟨u2, hu2, ru2⟩ := rv2.get hy
    have na : a ≠ N := Nat.ne_of_lt la
    have na' : a' ≠ N + 1 := Nat.ne_of_lt (Nat.lt_succ_of_lt la')
    have D1 := drwB (prog := X.prog) (w := X.w) (A := X.A.in1) b (I.ok.hd hc) N a na its.toArray
    have D2 := drwB (prog := X.prog) (w := X.w) (A := X.A.in1) b' (I.ok.hd hc) (N + 1) a' na' its2.toArray
    have G := GoesN.zip2 (elts := elts) (x1 := kk) (pos := tpos) (zip_sep2 (N := N) (fp1 := [a]) (fp2 := [a']) (fun c hc => by cases List.mem_singleton.mp hc; exact la) (fun c hc => by cases List.mem_singleton.mp hc; exact la')) D1 D2
    have hi : i < min its.toArray.size its2.toArray.size := by
      rw [Nat.lt_min, List.size_toArray, List.size_toArray]
      exact ⟨(List.getElem?_eq_some_iff.mp hu).1, (List.getElem?_eq_some_iff.mp hu2).1⟩
    refine thn (G.goes i s (fun v s2 => ∃ x H', Inv X pins σ H' s2 ∧ RelV x v ∧ (ItzB X.K b b' a a').yld i H x H' ∧ (IsZip s2.heap (N + 4) (N + 2) (N + 3) .none ∧ IsTupOf2 s2.heap (N + 2) (.ref N) (.ref (N + 1)) ∧ (∃ x y, IsTupOf2 s2.heap (N + 3) x y) ∧ ItB b s2.heap N a (i + 1) ∧ ItB b' s2.heap (N + 1) a' (i + 1)) ∧ ∀ c ∈ [N + 4, N + 2, N + 3, N, N + 1], H' c = none) E hi ⟨hz, hTI, hTO, ⟨h1, p⟩, ⟨h2, p2⟩⟩
      fun v h' tk hY hst hk htk => ?_) fun r s1 h => h
    obtain ⟨T, v1, v2, rfl, hT, e1, e2, hTT⟩ := hY
    obtain ⟨z', t1, t2, ⟨i1, _⟩, ⟨i2, _⟩⟩ := hst
    have ev1 : v1 = u := by
      have : its[i]? = some v1 := by simpa using e1
      rw [hu] at this
      exact (Option.some.inj this).symm
    have ev2 : v2 = u2 := by
      have : its2[i]? = some v2 := by simpa using e2
      rw [hu2] at this
      exact (Option.some.inj this).symm
    subst ev1 ev2
    have new : ObjOk X.prog X.w (upd H T (.tup [x, y])) h' T (.tup [x, y]) := by
      obtain ⟨ob, q1, q2, n, q3⟩ := hTT
      exact ⟨by show 2 ≤ sizeLine; decide, [v1, v2], .cons ru (.cons ru2 .nil), ⟨ob, q1, q2, n, q3⟩⟩
    have I1 : Inv X pins σ (upd H T (.tup [x, y])) { s with heap := h', toks := tk } :=
      I.turnedNew (t' := tk) (ch := [N + 4, N + 2, N + 3, N, N + 1]) (fun c ob hb q => hk c ob (fun q' => hb (by
        have e' : c = N + 4 ∨ c = N + 3 ∨ c = N ∨ c = N + 1 := by simpa using q'
        rcases e' with z | z | z | z <;> simp [z])) q) hf hT new
    refine ⟨.ref T, _, I1, rfl, ⟨T, x, y, rfl, I.hok.fresh hT, rfl, fun l hl => by rw [inv_Binj I hl hqx]; exact hx, fun l hl => by rw [inv_Binj I hl hqy]; exact hy⟩, ⟨z', t1, t2, i1, i2⟩, fun c hcm => ?_⟩
    have hlt : c < s.heap.objs.size := by
      have e' : c = N + 4 ∨ c = N + 2 ∨ c = N + 3 ∨ c = N ∨ c = N + 1 := by simpa using hcm
      rcases e' with q | q | q | q | q
      · rw [q]; exact Heap.lt_size hz
      · rw [q]; exact Heap.lt_size hTI
      · rw [q]; obtain ⟨_, _, e⟩ := hTO; exact Heap.lt_size e
      · rw [q]; obtain ⟨_, e, _⟩ := h1.obj; exact Heap.lt_size e
      · rw [q]; obtain ⟨_, e, _⟩ := h2.obj; exact Heap.lt_size e
    rw [upd_ne (Nat.ne_of_lt (Nat.lt_of_lt_of_le hlt hT))]
    exact (hf c hcm).1
  done := by
    intro X hP hw hK hc i pins s σ H E I hf st hg
    subst hP hw hK
    obtain ⟨hz, hTI, hTO, h1, h2⟩ := st
    obtain ⟨xs, ys, hqx, hqy, hend⟩ := hg
    obtain ⟨its, rv, p, _⟩ := inv_B I hqx
    obtain ⟨its2, rv2, p2, _⟩ := inv_B I hqy
    have na : a ≠ N := Nat.ne_of_lt la
    have na' : a' ≠ N + 1 := Nat.ne_of_lt (Nat.lt_succ_of_lt la')
    have D1 := drwB (prog := X.prog) (w := X.w) (A := X.A.in1) b (I.ok.hd hc) N a na its.toArray
    have D2 := drwB (prog := X.prog) (w := X.w) (A := X.A.in1) b' (I.ok.hd hc) (N + 1) a' na' its2.toArray
    have G := GoesN.zip2 (elts := elts) (x1 := kk) (pos := tpos) (zip_sep2 (N := N) (fp1 := [a]) (fp2 := [a']) (fun c hc => by cases List.mem_singleton.mp hc; exact la) (fun c hc => by cases List.mem_singleton.mp hc; exact la')) D1 D2
    have hi : i = min its.toArray.size its2.toArray.size := by
      rw [List.size_toArray, List.size_toArray, ← rv.length, ← rv2.length]
      exact hend
    refine thn (G.stops s (fun s1 => Inv X pins σ H s1) E (by rw [← hi]; exact ⟨hz, hTI, hTO, ⟨h1, p⟩, ⟨h2, p2⟩⟩) fun h' tk hk htk => ?_) fun r s1 h => h
    exact I.turnedL (t' := tk) (ch := [N + 4, N + 2, N + 3, N, N + 1]) (fun c ob hb q => hk c ob (fun q' => hb (by
        have e' : c = N + 4 ∨ c = N + 3 ∨ c = N ∨ c = N + 1 := by simpa using q'
        rcases e' with z | z | z | z <;> simp [z])) q) hf
  self := fun A i s Q E st h => wpAny_pyIter_zip st.1 h
end
end DL

set_option Elab.async false
set_option linter.all false
set_option maxRecDepth 100000
namespace DL
open PySem PySem.Spec L2
open PyProof.Rows hiding St
section
variable {X : Cx} {Z : Zf} {K : PySem.W.Frag}
def zipD (xs ys : List D) : List D := List.zipWith (fun a b => .tup [a, b]) xs ys
theorem itz_ok {S : Hp} {b b' : Bool} {a a' : Addr} {vs ws : List V} {xs ys : List D} (h1 : SqB K b S a vs) (h2 : Reps K S xs vs) (h3 : SqB K b' S a' ws) (h4 : Reps K S ys ws) : ItOk K (ItzB K b b' a a') (zipD xs ys) S where
  go := fun i H hi e => by
    unfold zipD at hi
    rw [List.length_zipWith, Nat.lt_min, h2.len, h4.len] at hi
    exact ⟨vs, ws, vs[i], ws[i], h1.mono e, h3.mono e, by simp [hi.1], by simp [hi.2]⟩
  stop := fun H e => ⟨vs, ws, h1.mono e, h3.mono e, by
    unfold zipD
    rw [List.length_zipWith, h2.len, h4.len]⟩
  yld := fun i H v H' M hi hM e y => by
    obtain ⟨T, x, y, rfl, nT, rfl, y1, y2⟩ := y
    obtain ⟨d, hd, rd⟩ := h2.get' (y1 vs (SqB.mono hid_same (h1.mono e)))
    obtain ⟨d', hd', rd'⟩ := h4.get' (y2 ws (SqB.mono hid_same (h3.mono e)))
    have nM : ¬ M T := fun z => by
      obtain ⟨u, q⟩ := hM T z
      rw [nT] at q
      cases q
    have sub : Same S (hid (upd H T (.tup [x, y])) M) := e.trans (same_alloc (same_new nT))
    have hz : (zipD xs ys)[i]? = some (.tup [d, d']) := by
      unfold zipD
      rw [List.getElem?_zipWith, hd, hd']
    exact ⟨.tup [d, d'], hz, same_new nT, T, [x, y], rfl, .inl (.inl (hid_some.mpr ⟨nM, upd_same⟩)), x, [y], rfl, Rep.mono sub _ _ rd, y, [], rfl, Rep.mono sub _ _ rd', rfl⟩
def sq2 (x : D) (Q : List D → Prop) : Prop := match x with
  | .lst ds => Q ds
  | .tup ds => Q ds
  | .sq ds => Q ds
  | _ => False
theorem sq2_mono {x : D} {Q Q' : List D → Prop} (h : ∀ d, Q d → Q' d) (q : sq2 x Q) : sq2 x Q' := by
  cases x with
  | lst ds => exact h _ q
  | tup ds => exact h _ q
  | sq ds => exact h _ q
  | _ => exact q.elim
theorem sq2_B {S : Hp} {x : D} {v : V} {Q : List D → Prop} (r : Rep K S x v) (q : sq2 x Q) : ∃ b a vs ds, v = .ref a ∧ SqB K b S a vs ∧ Reps K S ds vs ∧ Q ds := by
  cases x with
  | lst ds => obtain ⟨a, vs, rfl, h1, h2⟩ := r; exact ⟨false, a, vs, ds, rfl, .inl (.inl h1), h2, q⟩
  | sq ds => obtain ⟨a, vs, rfl, h1, h2⟩ := r; exact ⟨false, a, vs, ds, rfl, h1, h2, q⟩
  | tup ds => obtain ⟨a, vs, rfl, h1, h2⟩ := r; exact ⟨true, a, vs, ds, rfl, h1, h2, q⟩
  | _ => exact q.elim
def dZip (t : DTs) : DTs := fun E s Q => t E s fun ds s' => ∃ x y, ds = [x, y] ∧ sq2 x fun xs => sq2 y fun ys => Q (zipD xs ys) s'
variable {a b : Expr} {ta : DTs} {p pos tpos : Pos} {elts : List Expr} {kk : Nat}
theorem di_zip (hg : Gl X "zip") (hm : X.mg "zip" = none) (ha : DA X Z [a, b] ta) (hs : starEach [a, b] X.env = (false, eval a X.env) :: starEach [b] X.env) (hpl : (backTo pos (starEach [b] X.env)).any (·.1) = false) :
    DI X Z (.Tuple elts kk tpos) (.Call (.Name "zip" p) [a, b] [] pos) (dZip ta) := by
  refine ⟨fun E s Q Q' m q => ha.mono _ _ _ _ (fun d s' ⟨x, y, e, z⟩ => ⟨x, y, e, sq2_mono (fun xs z => sq2_mono (fun ys z => m _ _ z) z) z⟩) q, fun E W tk ek => ⟨fun pins s σ H R I ⟨d, o, sr, q⟩ => ?_⟩⟩
  refine Call_ (ld_blt I hg hm PyProof.Rows.boot_zip (PyProof.Rows.callWith_type1 (thn ((ha.run E W tk ek).run pos pins s σ H (fun vs H1 => ∃ x y s' o' v w, vs = [v, w] ∧ SR X.K Z σ H1 s' o' ∧ Rep X.K (S1 Z H1 s' o') x v ∧ Rep X.K (S1 Z H1 s' o') y w ∧
    sq2 x fun xs => sq2 y fun ys => ∀ J, ItOk X.K J (zipD xs ys) (S1 Z H1 s' o') → R J H1) I ⟨d, o, sr, ha.mono _ _ _ _ (fun ds s' z vs H1 o1 sr1 st1 rv => ?_) q⟩) fun us s1 ⟨vs, H1, I1, r1, q1⟩ => ?_) hs hpl))
  · obtain ⟨x, y, rfl, z⟩ := z
    obtain ⟨v, t, rfl, rx, w, t2, rfl, ry, e⟩ := rv
    cases (show _ = _ from e)
    exact ⟨x, y, s', o1, v, w, rfl, sr1, rx, ry, sq2_mono (fun xs z => sq2_mono (fun ys z J ok => z J H1 o1 sr1 st1 ok) z) z⟩
  · obtain ⟨x, y, s', o', v, w, rfl, sr1, rx, ry, z⟩ := q1
    obtain ⟨u1, u2, rfl, ru1, ru2⟩ := vals2 r1
    obtain ⟨b1, a1, vs, xs, rfl, hq1, hr1, z⟩ := sq2_B rx z
    obtain ⟨b2, a2, ws, ys, rfl, hq2, hr2, z⟩ := sq2_B ry z
    cases (show _ = _ from ru1)
    cases (show _ = _ from ru2)
    obtain ⟨its, rv, p1, l1⟩ := inv_B I1 (hq1.mono hid_same)
    obtain ⟨its2, rv2, p2, l2⟩ := inv_B I1 (hq2.mono hid_same)
    have fresh5 : ∀ c, c ∈ [s1.heap.objs.size + 4, s1.heap.objs.size + 2, s1.heap.objs.size + 3, s1.heap.objs.size, s1.heap.objs.size + 1] → FpOk X pins H1 c := fun c hcm => by
      have hle : s1.heap.objs.size ≤ c := by
        simp only [List.mem_cons, List.mem_nil_iff, or_false] at hcm
        rcases hcm with z | z | z | z | z <;> rw [z] <;> first | exact Nat.le_add_right _ _ | exact Nat.le_refl _
      exact I1.fpOk hle (I1.hok.fresh hle)
    refine zip_begins2 (begB b1 a1 its.toArray) (begB b2 a2 its2.toArray) p1 p2 fun h' hz hTI hTO h1 h2 hsz hk => wpAny_pyIter_zip hz ?_
    have I2 : Inv X pins σ H1 { s1 with heap := h' } := I1.kept (t' := s1.toks) hk
    exact ⟨s1.heap.objs.size + 4, [s1.heap.objs.size + 4, s1.heap.objs.size + 2, s1.heap.objs.size + 3, s1.heap.objs.size, s1.heap.objs.size + 1], _, _, H1, rfl, I2, turn_zipB l1 l2,
      ⟨hz, hTI, ⟨_, _, hTO⟩, .new b1 a1 _ _ h1, .new b2 a2 _ _ h2⟩, fresh5, z _ (itz_ok hq1 hr1 hq2 hr2)⟩
end

/-! ### list comprehensions -/
def noEx : DE' := fun _ _ => False
/-- the block, turn by turn -/
def lcD (T : Tg) (tt : DTt) (te : DT) (own : List Nat) : List D → List D → DSt → (List D → DSt → Prop) → Prop
  | [], acc, s, Q => Q acc s
  | x :: xs, acc, s, Q => T.put x s.ρ fun ρ => tt noEx ⟨ρ, s.Γ⟩ fun b s2 =>
      if b = true then te noEx s2 fun y s3 => acc.length < sizeLine ∧ lcD T tt te own xs (acc ++ [y]) ⟨wipeS own s3.ρ, s3.Γ⟩ Q else lcD T tt te own xs acc ⟨wipeS own s2.ρ, s2.Γ⟩ Q
theorem lcD_mono {T : Tg} {tt : DTt} {te : DT} {own : List Nat} (mt : Mono tt) (me : Mono te) {Q Q' : List D → DSt → Prop} (h : ∀ ds s, Q ds s → Q' ds s) : ∀ {xs acc : List D} {s : DSt}, lcD T tt te own xs acc s Q → lcD T tt te own xs acc s Q'
  | [], _, _, q => h _ _ q
  | x :: xs, acc, s, q => Tg.put_mono (fun ρ q => mt _ _ _ _ (fun b s2 q => by
      cases b with
      | true => exact me _ _ _ _ (fun y s3 q => ⟨q.1, lcD_mono mt me h q.2⟩) q
      | false => exact lcD_mono mt me h (show lcD T tt te own xs acc _ Q from q)) q) q
def dLc (own : List Nat) (T : Tg) (ti : DTs) (tt : DTt) (te : DT) : DTs := fun E s Q => ti E s fun ds s1 => (∀ i ∈ own, (s1.ρ.getD i .emp).isOwn = false) ∧
  lcD T tt te own ds [] ⟨wipeS own s1.ρ, s1.Γ⟩ fun acc s2 => Q acc ⟨restS own s2.ρ s1.ρ, s2.Γ⟩
/-- the tests of a comprehension -/
structure DTs' (X : Cx) (Z : Zf) (ifs : List Expr) (t : DTt) : Prop where
  mono : Mono t
  run : ∀ E W, Takes X W → EOk X.K Z E W → PTs X ifs (aT X.K Z t E)
def dYes : DTt := fun _ s Q => Q true s
theorem PTs.weak {X : Cx} {e : List Expr} {t t' : TT} (h : PTs X e t) (w : ∀ σ H Q, t' σ H Q → t σ H Q) : PTs X e t' := ⟨fun pins s σ H Q I q => h.run pins s σ H Q I (w σ H Q q)⟩
section
variable {X : Cx} {Z : Zf} {c : Expr} {t : DTt}
theorem dts_nil : DTs' X Z [] dYes := ⟨fun E s Q Q' m q => m _ _ q, fun E W tk ek => PTs.weak pts_nil fun σ H Q ⟨s, o, sr, q⟩ => q H o sr Stp.refl⟩
theorem dts_one (h : DTe X Z c t) : DTs' X Z [c] t := ⟨h.mono, fun E W tk ek => pts_one (h.run E W tk ek)⟩
/-- what is kept from a block's start -/
structure StpD (Z : Zf) (D : Addr) (H : Hp) (s : DSt) (o : Own) (H' : Hp) (s' : DSt) (o' : Own) : Prop where
  s1 : Same (S1 Z H s o) (S1 (Z.add D) H' s' o')
  s2 : Same (S2 Z H s) (S2 (Z.add D) H' s')
  new : ∀ b, H' b = none → H b = none
  keepB : ∀ b u, Z.B b → H b = some u → H' b = some u
theorem StpD.step {D : Addr} {H H1 H2 : Hp} {s s1 s2 : DSt} {o o1 o2 : Own} (a : StpD Z D H s o H1 s1 o1) (b : Stp (Z.add D) H1 s1 o1 H2 s2 o2) : StpD Z D H s o H2 s2 o2 :=
  ⟨a.s1.trans b.s1, a.s2.trans b.s2, fun c h => a.new c (b.new c h), fun c u hb h => b.keepB c u (.inr hb) (a.keepB c u hb h)⟩
theorem StpD.out {D : Addr} {H H1 : Hp} {s s1 : DSt} {o o1 : Own} (a : StpD Z D H s o H1 s1 o1) : Stp Z H s o H1 s1 o1 := ⟨a.s1.trans add_sub, a.s2.trans add_sub2, a.new, a.keepB⟩
theorem StpD.ends {D : Addr} {H H1 : Hp} {s s1 : DSt} {o o1 : Own} (a : StpD Z D H s o H1 s1 o1) {ρ : List Sl} {o2 : Own} (e : Same (S1 (Z.add D) H1 s1 o1) (S1 (Z.add D) H1 ⟨ρ, s1.Γ⟩ o2)) : StpD Z D H s o H1 ⟨ρ, s1.Γ⟩ o2 := ⟨a.s1.trans e, a.s2, a.new, a.keepB⟩
/-- the block's state at a turn: the list at D holds acc -/
structure LcSt (K : PySem.W.Frag) (Z : Zf) (L : Addr) (σ : St) (Hs : Hp) (ss : DSt) (os : Own) (H : Hp) (s : DSt) (o : Own) (acc : List D) : Prop where
  sr : SR K (Z.add L) σ H s o
  st : StpD Z L Hs ss os H s o
  hl : ∃ vs, H L = some (.lst vs) ∧ Reps K (S1 (Z.add L) H s o) acc vs
  hm : ¬ mut1 Z s o L
theorem SR.notIn {K : PySem.W.Frag} {σ : St} {H : Hp} {s : DSt} {o : Own} {L : Addr} (r : SR K (Z.add L) σ H s o) (hB : ¬ Z.B L) : ¬ mut1 Z s o L := fun z => by
  rcases z with z | z | ⟨i, z⟩
  · exact hB z
  · exact (r.gold L z).1 (.inl rfl)
  · exact (r.own i L z).2.2 (.inl rfl)
theorem lc_turn {K : PySem.W.Frag} {σ : St} {T : Tg} {tt : DTt} {te : DT} {own : List Nat} {L : Addr} {Hs : Hp} {ss : DSt} {os : Own} {H : Hp} {s : DSt} {o : Own} {acc : List D} {ds : List D} {i : Nat} {J : It} {S : Hp}
    {Q : List D → DSt → Prop} {W : Nat → Nat → Hp → Prop} (hB : ¬ Z.B L) (h0 : Z.H0 L = none) (mt : Mono tt) (me : Mono te) (hT : ∀ i ∈ T.ixs, i ∈ own) (A : LcSt K Z L (wipe σ own) Hs ss os H s o acc) (hi : i < ds.length) (ok : ItOk K J ds S) (eS : Same S (S1 (Z.add L) H s o))
    (q : lcD T tt te own (ds.drop i) acc s Q) (x : V) (H' : Hp) (y : J.yld i H x H')
    {Nx : Hp → Prop} (next : ∀ H2 s2 o2 acc2, LcSt K Z L (wipe σ own) Hs ss os H2 s2 o2 acc2 → lcD T tt te own (ds.drop (i + 1)) acc2 s2 Q → Same S (S1 (Z.add L) H2 s2 o2) → Nx H2) :
    T.rd K x (wipe σ own) H' fun σ2 H2 => wipe σ2 (own) = wipe σ own ∧ aT K (Z.add L) tt noEx σ2 H2 fun b H3 => if b = true then aE K (Z.add L) te noEx σ2 H3 fun y H4 => ∃ acc, H4 L = some (.lst acc) ∧ acc.length < sizeLine ∧ Nx (upd H4 L (.lst (acc ++ [y]))) else Nx H3 := by
  obtain ⟨d, hd, e1, rd⟩ := ok.yld i H x H' (mut1 (Z.add L) s o) hi (fun b hb => A.sr.mutH hb) eS y
  have sr1 := A.sr.alloc e1
  have hdrop : ds.drop i = d :: ds.drop (i + 1) := by
    rw [List.drop_eq_getElem_cons hi]
    rw [List.getElem?_eq_getElem hi] at hd
    rw [Option.some.inj hd]
  rw [hdrop] at q
  have q' : T.put d s.ρ fun ρ => tt noEx ⟨ρ, s.Γ⟩ fun b s2 =>
      if b = true then te noEx s2 fun y s3 => acc.length < sizeLine ∧ lcD T tt te own (ds.drop (i + 1)) (acc ++ [y]) ⟨wipeS own s3.ρ, s3.Γ⟩ Q else lcD T tt te own (ds.drop (i + 1)) acc ⟨wipeS own s2.ρ, s2.Γ⟩ Q := q
  refine Tg_rd_mono (fun σ2 H2 h => ?_) (Tg.ok sr1 rd q')
  obtain ⟨rfl, ρ', o', sr2, e2, ew, q2⟩ := h
  have ew' : wipe σ2 own = wipe σ own := by
    rw [ew own hT]
    apply List.ext_getElem?
    intro j
    rw [wipe_get, wipe_get]
    cases σ[j]? with
    | none => rfl
    | some x =>
      simp only [Option.map_some]
      by_cases hj : j ∈ own <;> simp [hj]
  refine ⟨ew', ⟨_, o', sr2, mt _ _ _ _ (fun b s3 hb H3 o3 sr3 st3 => ?_) q2⟩⟩
  have stA : StpD Z L Hs ss os H3 s3 o3 := ((A.st.step (.alloc e1)).ends (ρ := ρ') (o2 := o') e2).step st3
  obtain ⟨vs, hv, rv⟩ := A.hl
  have hv3 : H3 L = some (.lst vs) := st3.keepB L _ (.inl rfl) (e1 _ _ hv)
  have rv3 : Reps K (S1 (Z.add L) H3 s3 o3) acc vs := Reps.mono (((same_alloc e1).trans e2).trans st3.s1) _ _ rv
  have eS3 : Same S (S1 (Z.add L) H3 s3 o3) := ((eS.trans (same_alloc e1)).trans e2).trans st3.s1
  cases b with
  | false =>
    obtain ⟨w1, w2⟩ := sr3.wipe own
    rw [ew'] at w1
    exact next H3 _ _ acc ⟨w1, stA.ends w2, ⟨vs, hv3, Reps.mono w2 _ _ rv3⟩, w1.notIn hB⟩ hb (eS3.trans w2)
  | true =>
    refine ⟨s3, o3, sr3, me _ _ _ _ (fun y s4 hy v H4 o4 sr4 st4 ry => ?_) hb⟩
    have hv4 : H4 L = some (.lst vs) := st4.keepB L _ (.inl rfl) hv3
    have rv4 := Reps.mono st4.s1 _ _ rv3
    refine ⟨vs, hv4, by rw [← rv4.len]; exact hy.1, ?_⟩
    obtain ⟨b1, b2, b3⟩ := sr4.writeB (u := .lst (vs ++ [v])) (a := L) (.inl rfl) h0
    obtain ⟨w1, w2⟩ := b1.wipe own
    rw [ew'] at w1
    have stB : StpD Z L Hs ss os H4 s4 o4 := stA.step st4
    refine next _ _ _ (acc ++ [y]) ⟨w1, ?_, ⟨vs ++ [v], upd_same, Reps.mono (b2.trans w2) _ _ (rv4.app (Reps.one ry))⟩, w1.notIn hB⟩ hy.2 ((eS3.trans st4.s1).trans (b2.trans w2))
    refine ⟨stB.s1.trans (b2.trans w2), stB.s2.trans b3, fun b hb => ?_, fun b u hb h => ?_⟩
    · by_cases e : b = L
      · subst e
        rw [upd_same] at hb
        cases hb
      · rw [upd_ne e] at hb
        exact stB.new b hb
    · rw [upd_ne fun e => hB (by rw [← e]; exact hb)]
      exact stB.keepB b u hb h
where
  Tg_rd_mono {K : PySem.W.Frag} {T : Tg} {v : V} {σ : St} {H : Hp} {Q Q' : St → Hp → Prop} (h : ∀ σ H, Q σ H → Q' σ H) (q : T.rd K v σ H Q) : T.rd K v σ H Q' := by
    cases T with
    | one i => exact h _ _ q
    | many is =>
      obtain ⟨a, xs, e, h1, h2, q⟩ := q
      exact ⟨a, xs, e, h1, h2, many_ok.gMany_mono h q⟩
theorem lc_weak {K : PySem.W.Frag} {T : Tg} {ti : DTs} {tt : DTt} {te : DT} {own : List Nat} {E : DE'} {σ : St} {H : Hp} {Q : VK} (mi : Mono ti) (mt : Mono tt) (me : Mono te) (hT : ∀ i ∈ T.ixs, i ∈ own) (h : aF K Z (dLc own T ti tt te) E σ H Q)
    (z : ∀ L : Addr, Zf) (hz : ∀ L, z L = Z.add L) : aI K Z ti E σ H fun J H1 => ∀ L, H1 L = none → ∃ W : Nat → Nat → Hp → Prop, (∃ m, W 0 m (upd H1 L (.lst []))) ∧ ∀ i m H, W i m H →
      (J.stop i H ∧ Q (.ref L) H) ∨ (J.go i H ∧ ∃ Nx : Hp → Prop, (∀ H', Nx H' → ∃ m', m' < m ∧ W (i + 1) m' H') ∧ ∀ x H', J.yld i H x H' → T.rd K x (wipe σ own) H' fun σ2 H2 => wipe σ2 own = wipe σ own ∧ aT K (Z.add L) tt noEx σ2 H2 fun b H3 =>
        if b = true then aE K (Z.add L) te noEx σ2 H3 fun y H4 => ∃ acc, H4 L = some (.lst acc) ∧ acc.length < sizeLine ∧ Nx (upd H4 L (.lst (acc ++ [y]))) else Nx H3) := by
  obtain ⟨s, o, sr, q⟩ := h
  refine ⟨s, o, sr, mi _ _ _ _ (fun ds s1 ⟨hown, hq⟩ J H1 o1 sr1 st1 ok L nL => ?_) q⟩
  have hB : ¬ Z.B L := fun z => by
    obtain ⟨u, e⟩ := sr1.bok L z
    rw [nL] at e
    cases e
  have h0 := sr1.newH0 nL
  obtain ⟨a1, a2⟩ := sr1.addNew (u := .lst []) nL
  obtain ⟨w1, w2⟩ := a1.wipe own
  have start : LcSt K Z L (wipe σ own) H s o (upd H1 L (.lst [])) ⟨wipeS own s1.ρ, s1.Γ⟩ (unOwns o1 own) [] := by
    refine ⟨w1, ⟨st1.s1.trans (a2.trans w2), st1.s2.trans (same_hid fun b u n h => ⟨fun z => ?_, same_new nL _ _ h⟩), fun b h => st1.new b ((same_new nL).free h), fun b u hb h => same_new nL _ _ (st1.keepB b u hb h)⟩, ⟨[], upd_same, rfl⟩, w1.notIn hB⟩
    rcases z with (z | z) | z
    · rw [z, nL] at h
      cases h
    · exact n (.inl z)
    · exact n (.inr z)
  refine ⟨fun i m H' => m = ds.length - i ∧ i ≤ ds.length ∧ ∃ s' o' acc, LcSt K Z L (wipe σ own) H s o H' s' o' acc ∧ Same (S1 Z H1 s1 o1) (S1 (Z.add L) H' s' o') ∧ lcD T tt te own (ds.drop i) acc s' fun acc s2 => ∀ a vs H' o', SR K (Z.add a) σ H' ⟨restS own s2.ρ s1.ρ, s2.Γ⟩ o' → Stp Z H s o H' ⟨restS own s2.ρ s1.ρ, s2.Γ⟩ o' → H a = none → H' a = some (.lst vs) →
      ¬ mut1 Z ⟨restS own s2.ρ s1.ρ, s2.Γ⟩ o' a → Reps K (S1 (Z.add a) H' ⟨restS own s2.ρ s1.ρ, s2.Γ⟩ o') acc vs → Q (.ref a) H',
    ⟨ds.length, rfl, Nat.zero_le _, _, _, [], start, a2.trans w2, hq⟩, ?_⟩
  rintro i m H' ⟨rfl, hi, s', o', acc, A, eS, hq⟩
  by_cases hlt : i < ds.length
  · refine .inr ⟨ok.go i H' hlt (eS.trans hid_same), fun H2 => ∃ s2 o2 acc2, LcSt K Z L (wipe σ own) H s o H2 s2 o2 acc2 ∧ Same (S1 Z H1 s1 o1) (S1 (Z.add L) H2 s2 o2) ∧ lcD T tt te own (ds.drop (i + 1)) acc2 s2 _, fun H2 ⟨s2, o2, acc2, A2, e2, q2⟩ => ⟨ds.length - (i + 1), by omega, rfl, hlt, s2, o2, acc2, A2, e2, q2⟩, fun x H2 y => ?_⟩
    exact lc_turn (W := fun _ _ _ => True) hB h0 mt me hT A hlt ok eS hq x H2 y fun H3 s3 o3 acc3 A3 q3 e3 => ⟨s3, o3, acc3, A3, e3, q3⟩
  · have e : i = ds.length := by omega
    subst e
    rw [List.drop_length] at hq
    refine .inl ⟨ok.stop H' (eS.trans hid_same), ?_⟩
    obtain ⟨vs, hv, rv⟩ := A.hl
    obtain ⟨g1, g2⟩ := SR.rest (H0 := H1) (s0 := s1) (o0 := o1) (own := own) A.sr.drop sr1 (eS.trans add_sub) hown
    have g3 := SR.rest (Z := Z.add L) (H0 := upd H1 L (.lst [])) (s0 := s1) (o0 := o1) (own := own) A.sr a1 ?_ hown
    · exact (show ∀ a vs H' o', SR K (Z.add a) σ H' ⟨restS own s'.ρ s1.ρ, s'.Γ⟩ o' → Stp Z H s o H' ⟨restS own s'.ρ s1.ρ, s'.Γ⟩ o' → H a = none → H' a = some (.lst vs) →
        ¬ mut1 Z ⟨restS own s'.ρ s1.ρ, s'.Γ⟩ o' a → Reps K (S1 (Z.add a) H' ⟨restS own s'.ρ s1.ρ, s'.Γ⟩ o') acc vs → Q (.ref a) H' from hq) L vs H' _ g3.1 (A.st.ends g3.2).out (st1.new _ nL) hv (g3.1.notIn hB) (Reps.mono g3.2 _ _ rv)
    · refine Same.trans (fun b u h => ?_) eS
      have h' := hid_some.mp h
      have nb : b ≠ L := fun e => h'.1 (.inl (.inl e))
      refine hid_some.mpr ⟨fun z => h'.1 (z.elim (fun z => .inl (.inr z)) .inr), ?_⟩
      rw [upd_ne nb] at h'
      exact h'.2
end
end DL

set_option Elab.async false
set_option linter.all false
set_option maxRecDepth 100000
namespace DL
open PySem PySem.Spec L2
open PyProof.Rows hiding St

theorem eok_none {K : PySem.W.Frag} {Z : Zf} {W : WX} : EOk K Z noEx W := fun x s' cls dd σ H' o' h => h.elim
theorem takes_no {X : Cx} : Takes X (fun _ _ _ _ => False) := fun _ _ ⟨_, _, _, _, _, _, _, _, _, _, _, _, _, _, _, _, w⟩ => w.elim
section
variable {X : Cx} {Z : Zf}
/-- [elt for target in iter if ..] -/
theorem df_lc {elt tg iter : Expr} {ifs : List Expr} {scope : Scope} {own : List (Str × Nat)} {pos : Pos} {ti : DTs} {T : Tg} {tt : DTt} {te : DT} (hc : X.calm = true) (hN : X.N.Nodup) (hi : DI X Z tg iter ti) (ok : BlkOk X.N X.env.scope scope own)
    (hg : ∀ (s : Shared) (H : Hp) (C : Addr) (cl : List (Str × Addr)) (fp : List Addr), PG (X.blk s H scope (compEnvC scope cl C X.env) fp) tg (T.rd X.K)) (hT : ∀ i ∈ T.ixs, i ∈ own.map (·.2))
    (ht : ∀ (s : Shared) (H : Hp) (C : Addr) (cl : List (Str × Addr)) (fp : List Addr) (L : Addr), DTs' (X.blk s H scope (compEnvC scope cl C X.env) fp) (Z.add L) ifs tt)
    (he : ∀ (s : Shared) (H : Hp) (C : Addr) (cl : List (Str × Addr)) (fp : List Addr) (L : Addr), DE (X.blk s H scope (compEnvC scope cl C X.env) fp) (Z.add L) elt te) (mt : Mono tt) (me : Mono te) (hs : ∀ x, foldedSetIterable iter X.env x = pure x) :
    DF X Z (.ListComp elt [⟨tg, iter, ifs, 0⟩] scope pos) (dLc (own.map (·.2)) T ti tt te) := by
  refine ⟨fun E s Q Q' m q => hi.mono _ _ _ _ (fun ds s1 ⟨h1, h2⟩ => ⟨h1, lcD_mono mt me (fun acc s2 z => m _ _ z) h2⟩) q, fun E W tk ek => PE.weak (pe_lc hc hN (hi.run E W tk ek) ok hg
    (tt := fun σ H Q => ∃ L, aT X.K (Z.add L) tt noEx σ H Q) (te := fun σ H Q => ∃ L, aE X.K (Z.add L) te noEx σ H Q) (fun s H C cl fp => ⟨fun pins s' σ H' Q I ⟨L, q⟩ => ((ht s H C cl fp L).run noEx _ takes_no eok_none).run pins s' σ H' Q I q⟩)
    (fun s H C cl fp => ⟨fun pins s' σ H' Q I ⟨L, q⟩ => ((he s H C cl fp L).run noEx _ takes_no eok_none).run pins s' σ H' Q I q⟩) hs) fun σ H Q h => ?_⟩
  obtain ⟨s, o, sr, q⟩ := lc_weak hi.mono mt me hT h (fun L => Z.add L) fun _ => rfl
  refine ⟨s, o, sr, hi.mono _ _ _ _ (fun ds s1 z J H1 o1 sr1 st1 ok1 L nL => ?_) q⟩
  obtain ⟨Wv, hm, turn⟩ := z J H1 o1 sr1 st1 ok1 L nL
  refine ⟨Wv, hm, fun i m H' hW => (turn i m H' hW).imp id fun ⟨go, Nx, hN, st⟩ => ⟨go, Nx, hN, fun x H2 y => lc_turn.Tg_rd_mono (fun σ2 H3 ⟨e, q⟩ => ⟨e, L, ?_⟩) (st x H2 y)⟩⟩
  obtain ⟨s3, o3, sr3, q3⟩ := q
  refine ⟨s3, o3, sr3, mt _ _ _ _ (fun b s4 z H4 o4 sr4 st4 => ?_) q3⟩
  have z := z H4 o4 sr4 st4
  cases b with
  | true => exact ⟨L, z⟩
  | false => exact z
end

/-! ### statements -/
inductive R where
  | val (d : D) | lst (ds : List D) | dct (ds : List (Key × D))
structure DEnds where
  nx : DSt → Prop
  rt : R → Gam → Prop
  bk : DSt → Prop := fun _ => False
  ct : DSt → Prop := fun _ => False
abbrev DS := DE' → DEnds → DSt → Prop
/-- without the frame's slots -/
def mutG (Z : Zf) (Γ : Gam) (b : Addr) : Prop := Z.B b ∨ b ∈ dom Γ
structure GOk (K : PySem.W.Frag) (Z : Zf) (H : Hp) (Γ : Gam) : Prop where
  gam : ∀ a ds, (a, ds) ∈ Γ → ∃ vs, H a = some (.lst vs) ∧ Reps K (hid H (mutG Z Γ)) ds vs
  gnd : (dom Γ).Nodup
  gold : ∀ a ∈ dom Γ, ¬ Z.B a ∧ (a ∈ Z.G0 ∨ Z.H0 a = none)
  frame : ∀ b u, Z.H0 b = some u → b ∉ Z.G0 → H b = some u
  bok : ∀ b, Z.B b → ∃ u, H b = some u
  gok : ∀ b ∈ Z.G0, ∃ u, H b = some u
def RetOk (K : PySem.W.Frag) (Z : Zf) (H : Hp) (Γ : Gam) (v : V) : R → Prop
  | .val d => GOk K Z H Γ ∧ Rep K (hid H (mutG Z Γ)) d v
  | .lst ds => ∃ a vs, v = .ref a ∧ GOk K (Z.add a) H Γ ∧ Z.H0 a = none ∧ ¬ mutG Z Γ a ∧ H a = some (.lst vs) ∧ Reps K (hid H (mutG (Z.add a) Γ)) ds vs
  | .dct ds => ∃ a vs, v = .ref a ∧ GOk K (Z.add a) H Γ ∧ Z.H0 a = none ∧ ¬ mutG Z Γ a ∧ H a = some (.dK vs) ∧ RepK K (hid H (mutG (Z.add a) Γ)) ds vs
section
variable {K : PySem.W.Frag} {Z : Zf} {σ : St} {H : Hp} {s : DSt} {o : Own}
theorem S1_G : Same (S1 Z H s o) (hid H (mutG Z s.Γ)) := same_hid fun b u n h => ⟨fun z => n (z.elim .inl fun z => .inr (.inl z)), h⟩
theorem SR.gOk (r : SR K Z σ H s o) : GOk K Z H s.Γ := ⟨fun a ds h => (r.gam a ds h).imp fun vs q => ⟨q.1, Reps.mono S1_G _ _ q.2⟩, r.gnd, r.gold, r.frame, r.bok, r.gok⟩
/-- an own list barred -/
theorem SR.gOwn (r : SR K Z σ H s o) {i : Nat} {a : Addr} (h : o i = some a) : GOk K (Z.add a) H s.Γ ∧ Same (S1 Z H s o) (hid H (mutG (Z.add a) s.Γ)) := by
  have sub : Same (S1 Z H s o) (hid H (mutG (Z.add a) s.Γ)) := same_hid fun b u n e => ⟨fun z => by
    rcases z with (z | z) | z
    · subst z
      exact n (.inr (.inr ⟨i, h⟩))
    · exact n (.inl z)
    · exact n (.inr (.inl z)), e⟩
  refine ⟨⟨fun b ds e => (r.gam b ds e).imp fun vs q => ⟨q.1, Reps.mono sub _ _ q.2⟩, r.gnd, fun b e => ⟨fun z => ?_, (r.gold b e).2⟩, r.frame, fun b e => ?_, r.gok⟩, sub⟩
  · rcases z with z | z
    · subst z
      exact (r.own i b h).2.1 e
    · exact (r.gold b e).1 z
  · rcases e with e | e
    · subst e
      exact r.mutH (.inr (.inr ⟨i, h⟩))
    · exact r.bok b e
end
structure EndsOk (K : PySem.W.Frag) (Z : Zf) (H : Hp) (s : DSt) (o : Own) (De : DEnds) (D : Ends) : Prop where
  nx : ∀ s' σ' H' o', De.nx s' → SR K Z σ' H' s' o' → Same (S1 Z H s o) (S1 Z H' s' o') → D.nx σ' H'
  bk : ∀ s' σ' H' o', De.bk s' → SR K Z σ' H' s' o' → Same (S1 Z H s o) (S1 Z H' s' o') → D.bk σ' H'
  ct : ∀ s' σ' H' o', De.ct s' → SR K Z σ' H' s' o' → Same (S1 Z H s o) (S1 Z H' s' o') → D.ct σ' H'
  rt : ∀ r Γ' v H', De.rt r Γ' → RetOk K Z H' Γ' v r → D.rt v H'
theorem EndsOk.step {K : PySem.W.Frag} {Z : Zf} {H H1 : Hp} {s s1 : DSt} {o o1 : Own} {De : DEnds} {D : Ends} (h : EndsOk K Z H s o De D) (e : Same (S1 Z H s o) (S1 Z H1 s1 o1)) : EndsOk K Z H1 s1 o1 De D :=
  ⟨fun s' σ' H' o' q r e' => h.nx s' σ' H' o' q r (e.trans e'), fun s' σ' H' o' q r e' => h.bk s' σ' H' o' q r (e.trans e'), fun s' σ' H' o' q r e' => h.ct s' σ' H' o' q r (e.trans e'), h.rt⟩
def aS (K : PySem.W.Frag) (Z : Zf) (t : DS) (E : DE') : TS := fun D σ H => ∃ s o De, SR K Z σ H s o ∧ t E De s ∧ EndsOk K Z H s o De D
def MonoS (t : DS) : Prop := ∀ E s (D D' : DEnds), (∀ s, D.nx s → D'.nx s) → (∀ r g, D.rt r g → D'.rt r g) → (∀ s, D.bk s → D'.bk s) → (∀ s, D.ct s → D'.ct s) → t E D s → t E D' s
structure DPS (X : Cx) (Z : Zf) (st : Stmt) (t : DS) : Prop where
  mono : MonoS t
  run : ∀ E W, Takes X W → EOk X.K Z E W → PS X st (aS X.K Z t E)
structure DPSs (X : Cx) (Z : Zf) (st : List Stmt) (t : DS) : Prop where
  mono : MonoS t
  run : ∀ E W, Takes X W → EOk X.K Z E W → PSs X st (aS X.K Z t E)
section
variable {X : Cx} {Z : Zf} {st : Stmt} {rest : List Stmt} {t u : DS} {pos : Pos} {e c : Expr} {te : DT} {tc : DTt}
def sNext : DS := fun _ D s => D.nx s
def sSeq (t u : DS) : DS := fun E D s => t E { D with nx := u E D } s
theorem dss_nil : DPSs X Z [] sNext := ⟨fun E s D D' h1 h2 h3 h4 q => h1 _ q, fun E W tk ek => PSs.weak pss_nil fun D σ H ⟨s, o, De, sr, q, ok⟩ => ok.nx s σ H o q sr (Same.refl _)⟩
theorem dss_cons (h1 : DPS X Z st t) (h2 : DPSs X Z rest u) : DPSs X Z (st :: rest) (sSeq t u) := by
  refine ⟨fun E s D D' m1 m2 m3 m4 q => h1.mono E s { D with nx := u E D } { D' with nx := u E D' } (fun s q => h2.mono _ _ _ _ m1 m2 m3 m4 q) m2 m3 m4 q, fun E W tk ek => PSs.weak (pss_cons (h1.run E W tk ek) (h2.run E W tk ek)) fun D σ H ⟨s, o, De, sr, q, ok⟩ => ?_⟩
  exact ⟨s, o, _, sr, q, ⟨fun s' σ' H' o' q r e => ⟨s', o', De, r, q, ok.step e⟩, ok.bk, ok.ct, ok.rt⟩⟩
theorem dss_one (h1 : DPS X Z st t) : DPSs X Z [st] t := ⟨h1.mono, fun E W tk ek => pss_one (h1.run E W tk ek)⟩
theorem ds_pass : DPS X Z (.Pass pos) sNext := ⟨fun E s D D' h1 h2 h3 h4 q => h1 _ q, fun E W tk ek => PS.weak ps_pass fun D σ H ⟨s, o, De, sr, q, ok⟩ => ok.nx s σ H o q sr (Same.refl _)⟩
def sBreak : DS := fun _ D s => D.bk s
def sCont : DS := fun _ D s => D.ct s
theorem ds_break : DPS X Z (.Break pos) sBreak := ⟨fun E s D D' h1 h2 h3 h4 q => h3 _ q, fun E W tk ek => PS.weak ps_break fun D σ H ⟨s, o, De, sr, q, ok⟩ => ok.bk s σ H o q sr (Same.refl _)⟩
theorem ds_continue : DPS X Z (.Continue pos) sCont := ⟨fun E s D D' h1 h2 h3 h4 q => h4 _ q, fun E W tk ek => PS.weak ps_continue fun D σ H ⟨s, o, De, sr, q, ok⟩ => ok.ct s σ H o q sr (Same.refl _)⟩
/-- code that is never come to -/
def sNever : DS := fun _ _ _ => False
theorem ds_never : DPS X Z st sNever := ⟨fun E s D D' h1 h2 h3 h4 q => q, fun E W tk ek => PS.weak ps_never fun D σ H ⟨s, o, De, sr, q, ok⟩ => q⟩

/-! an expression that may change an own list (x.pop()) -/
structure StpM (Z : Zf) (H : Hp) (s : DSt) (o : Own) (H' : Hp) (s' : DSt) (o' : Own) : Prop where
  s1 : Same (S1 Z H s o) (S1 Z H' s' o')
  new : ∀ b, H' b = none → H b = none
  keepB : ∀ b u, Z.B b → H b = some u → H' b = some u
def aM (K : PySem.W.Frag) (Z : Zf) (t : DT) (E : DE') : TE := fun σ H Q => ∃ s o, SR K Z σ H s o ∧ t E s fun d s' => ∀ v H' o', SR K Z σ H' s' o' → StpM Z H s o H' s' o' → Rep K (S1 Z H' s' o') d v → Q v H'
structure DM (X : Cx) (Z : Zf) (e : Expr) (t : DT) : Prop where
  mono : Mono t
  run : ∀ E W, Takes X W → EOk X.K Z E W → PE X e (aM X.K Z t E)
theorem Stp.toM {H H' : Hp} {s s' : DSt} {o o' : Own} (h : Stp Z H s o H' s' o') : StpM Z H s o H' s' o' := ⟨h.s1, h.new, h.keepB⟩
theorem DE.toM (h : DE X Z e te) : DM X Z e te := ⟨h.mono, fun E W tk ek => PE.weak (h.run E W tk ek) fun σ H Q ⟨s, o, r, q⟩ => ⟨s, o, r, h.mono _ _ _ _ (fun d s' hq v H' o' r' st rp => hq v H' o' r' st.toM rp) q⟩⟩

/-- name = e -/
def sSet (i : Nat) (t : DT) : DS := fun E D s => t E s fun d s' => i < s'.ρ.length ∧ D.nx ⟨s'.ρ.set i (.val d), s'.Γ⟩
theorem set_weak {i : Nat} {E : DE'} {D : Ends} {σ : St} {H : Hp} (m : Mono te) (h : aS X.K Z (sSet i te) E D σ H) : tAsg (aM X.K Z te E) (gName i) D σ H := by
  obtain ⟨s, o, De, sr, q, ok⟩ := h
  refine ⟨s, o, sr, m _ _ _ _ (fun d s' z v H' o' sr' st rv => ?_) q⟩
  obtain ⟨a1, a2⟩ := sr'.put z.1 rv
  exact ok.nx _ _ _ _ z.2 a1 (st.s1.trans a2)
theorem MonoS.set {i : Nat} (m : Mono te) : MonoS (sSet i te) := fun E s D D' h1 h2 h3 h4 q => m _ _ _ _ (fun d s' z => ⟨z.1, h1 _ z.2⟩) q
theorem ds_set {i : Nat} {x : Str} {pos' : Pos} (hN : X.N.Nodup) (hi : X.N[i]? = some x) (hx : Loc X.env.scope x) (he : DM X Z e te) (hs : swapsWith e (some (.Name x pos')) pos.line X.env = pure false)
    (hf : X.fn x = true ∨ X.env.scope.names.lookup x = some .local) : DPS X Z (.Assign [.Name x pos'] e pos) (sSet i te) :=
  ⟨.set he.mono, fun E W tk ek => PS.weak (ps_set hN hi hx (he.run E W tk ek) hs hf) fun D σ H h => set_weak he.mono h⟩
/-- .. whose list is slot i's own from then on -/
def sOwn (i : Nat) (t : DTs) : DS := fun E D s => t E s fun ds s' => i < s'.ρ.length ∧ D.nx ⟨s'.ρ.set i (.lst ds), s'.Γ⟩
theorem own_weak {tf : DTs} {i : Nat} {E : DE'} {D : Ends} {σ : St} {H : Hp} (m : Mono tf) (h : aS X.K Z (sOwn i tf) E D σ H) : tAsg (aF X.K Z tf E) (gName i) D σ H := by
  obtain ⟨s, o, De, sr, q, ok⟩ := h
  refine ⟨s, o, sr, m _ _ _ _ (fun d s' z a vs H' o' sr' st n1 n2 n3 rv => ?_) q⟩
  obtain ⟨a1, a2⟩ := sr'.putOwn z.1 (sr.newH0 n1) n2 n3 rv
  refine ok.nx _ _ _ _ z.2 a1 (Same.trans (fun b u hb => ?_) a2)
  have h1 := hid_some.mp (st.s1 b u hb)
  refine hid_some.mpr ⟨fun w => ?_, h1.2⟩
  rcases w with (w | w) | w
  · have h2 := hid_some.mp hb
    rw [w, n1] at h2
    cases h2.2
  · exact h1.1 (.inl w)
  · exact h1.1 (.inr w)
theorem MonoS.own {tf : DTs} {i : Nat} (m : Mono tf) : MonoS (sOwn i tf) := fun E s D D' h1 h2 h3 h4 q => m _ _ _ _ (fun d s' z => ⟨z.1, h1 _ z.2⟩) q
theorem ds_own {tf : DTs} {i : Nat} {x : Str} {pos' : Pos} (hN : X.N.Nodup) (hi : X.N[i]? = some x) (hx : Loc X.env.scope x) (he : DF X Z e tf) (hs : swapsWith e (some (.Name x pos')) pos.line X.env = pure false)
    (hf : X.fn x = true ∨ X.env.scope.names.lookup x = some .local) : DPS X Z (.Assign [.Name x pos'] e pos) (sOwn i tf) :=
  ⟨.own he.mono, fun E W tk ek => PS.weak (ps_set hN hi hx (he.run E W tk ek) hs hf) fun D σ H h => own_weak he.mono h⟩
/-- .. a dict -/
def sOwnK (i : Nat) (t : DTk) : DS := fun E D s => t E s fun ds s' => i < s'.ρ.length ∧ D.nx ⟨s'.ρ.set i (.dct ds), s'.Γ⟩
theorem ds_ownK {tf : DTk} {i : Nat} {x : Str} {pos' : Pos} (hN : X.N.Nodup) (hi : X.N[i]? = some x) (hx : Loc X.env.scope x) (he : DK X Z e tf) (hs : swapsWith e (some (.Name x pos')) pos.line X.env = pure false)
    (hf : X.fn x = true ∨ X.env.scope.names.lookup x = some .local) : DPS X Z (.Assign [.Name x pos'] e pos) (sOwnK i tf) := by
  refine ⟨fun E s D D' h1 h2 h3 h4 q => he.mono _ _ _ _ (fun d s' z => ⟨z.1, h1 _ z.2⟩) q, fun E W tk ek => PS.weak (ps_set hN hi hx (he.run E W tk ek) hs hf) fun D σ H h => ?_⟩
  obtain ⟨s, o, De, sr, q, ok⟩ := h
  refine ⟨s, o, sr, he.mono _ _ _ _ (fun d s' z a vs H' o' sr' st n1 n2 n3 rv => ?_) q⟩
  obtain ⟨a1, a2⟩ := sr'.putOwnK z.1 (sr.newH0 n1) n2 n3 rv
  refine ok.nx _ _ _ _ z.2 a1 (Same.trans (fun b u hb => ?_) a2)
  have h1 := hid_some.mp (st.s1 b u hb)
  refine hid_some.mpr ⟨fun w => ?_, h1.2⟩
  rcases w with (w | w) | w
  · have h2 := hid_some.mp hb
    rw [w, n1] at h2
    cases h2.2
  · exact h1.1 (.inl w)
  · exact h1.1 (.inr w)
/-- a comprehension stored on one line -/
theorem ds_setLc {i : Nat} {y : Str} {py : Pos} {elt tg iter : Expr} {ifs : List Expr} {scope : Scope} {own : List (Str × Nat)} {pos spos : Pos} {ti : DTs} {T : Tg} {tt : DTt} {te : DT} (lst : Bool) (hc : X.calm = true) (hN : X.N.Nodup) (hy : X.N[i]? = some y) (hyl : X.env.scope.names.lookup y = some .local)
    (hsw : swapsWith (.ListComp elt [⟨tg, iter, ifs, 0⟩] scope pos) (some (.Name y py)) spos.line X.env = pure true) (hi : DI X Z tg iter ti) (ok : BlkOk X.N X.env.scope scope own)
    (hg : ∀ (s : Shared) (H : Hp) (C : Addr) (cl : List (Str × Addr)) (fp : List Addr), PG (X.blk s H scope (compEnvC scope cl C X.env) fp) tg (T.rd X.K)) (hT : ∀ i ∈ T.ixs, i ∈ own.map (·.2))
    (ht : ∀ (s : Shared) (H : Hp) (C : Addr) (cl : List (Str × Addr)) (fp : List Addr) (L : Addr), DTs' (X.blk s H scope (compEnvC scope cl C X.env) fp) (Z.add L) ifs tt)
    (he : ∀ (s : Shared) (H : Hp) (C : Addr) (cl : List (Str × Addr)) (fp : List Addr) (L : Addr), DE (X.blk s H scope (compEnvC scope cl C X.env) fp) (Z.add L) elt te) (mt : Mono tt) (me : Mono te) (hs : ∀ x, foldedSetIterable iter X.env x = pure x) :
    DPS X Z (.Assign [.Name y py] (.ListComp elt [⟨tg, iter, ifs, 0⟩] scope pos) spos) (if lst = true then sOwn i (dLc (own.map (·.2)) T ti tt te) else sSet i (dFrz (dLc (own.map (·.2)) T ti tt te))) := by
  have md : Mono (dLc (own.map (·.2)) T ti tt te) := fun E s Q Q' m q => hi.mono _ _ _ _ (fun ds s1 ⟨h1, h2⟩ => ⟨h1, lcD_mono mt me (fun acc s2 z => m _ _ z) h2⟩) q
  have conv : ∀ E W, Takes X W → EOk X.K Z E W → ∀ σ H Q, aF X.K Z (dLc (own.map (·.2)) T ti tt te) E σ H Q → tLc (aI X.K Z ti E) (T.rd X.K) (fun σ H Q => ∃ L, aT X.K (Z.add L) tt noEx σ H Q) (fun σ H Q => ∃ L, aE X.K (Z.add L) te noEx σ H Q) (own.map (·.2)) σ H Q := by
    intro E W tk ek σ H Q h
    obtain ⟨s, o, sr, q⟩ := lc_weak hi.mono mt me hT h (fun L => Z.add L) fun _ => rfl
    refine ⟨s, o, sr, hi.mono _ _ _ _ (fun ds s1 z J H1 o1 sr1 st1 ok1 L nL => ?_) q⟩
    obtain ⟨Wv, hm, turn⟩ := z J H1 o1 sr1 st1 ok1 L nL
    refine ⟨Wv, hm, fun i m H' hW => (turn i m H' hW).imp id fun ⟨go, Nx, hN, st⟩ => ⟨go, Nx, hN, fun x H2 y => lc_turn.Tg_rd_mono (fun σ2 H3 ⟨e, q⟩ => ⟨e, L, ?_⟩) (st x H2 y)⟩⟩
    obtain ⟨s3, o3, sr3, q3⟩ := q
    refine ⟨s3, o3, sr3, mt _ _ _ _ (fun b s4 z H4 o4 sr4 st4 => ?_) q3⟩
    have z := z H4 o4 sr4 st4
    cases b with
    | true => exact ⟨L, z⟩
    | false => exact z
  have base : ∀ E W, Takes X W → EOk X.K Z E W → PS X (.Assign [.Name y py] (.ListComp elt [⟨tg, iter, ifs, 0⟩] scope pos) spos) (tAsg (aF X.K Z (dLc (own.map (·.2)) T ti tt te) E) (gName i)) := fun E W tk ek =>
    PS.weak (ps_setLc hc hN hy hyl hsw (hi.run E W tk ek) ok hg
      (tt := fun σ H Q => ∃ L, aT X.K (Z.add L) tt noEx σ H Q) (te := fun σ H Q => ∃ L, aE X.K (Z.add L) te noEx σ H Q) (fun s H C cl fp => ⟨fun pins s' σ H' Q I ⟨L, q⟩ => ((ht s H C cl fp L).run noEx _ takes_no eok_none).run pins s' σ H' Q I q⟩)
      (fun s H C cl fp => ⟨fun pins s' σ H' Q I ⟨L, q⟩ => ((he s H C cl fp L).run noEx _ takes_no eok_none).run pins s' σ H' Q I q⟩) hs) fun D σ H h => conv E W tk ek σ H _ h
  cases lst with
  | true => exact ⟨.own md, fun E W tk ek => PS.weak (base E W tk ek) fun D σ H h => own_weak md h⟩
  | false =>
    refine ⟨.set md.frz, fun E W tk ek => PS.weak (base E W tk ek) fun D σ H ⟨s, o, De, sr, q, ok⟩ => ?_⟩
    refine ⟨s, o, sr, md _ _ _ _ (fun ds s' z a vs H' o' sr' st n1 n2 n3 rv => ?_) q⟩
    obtain ⟨a1, a2⟩ := sr'.drop.put z.1 (frz_rep n2 n3 rv)
    exact ok.nx _ _ _ _ z.2 a1 (st.s1.trans a2)
/-- e; return e; if -/
def sDrop (t : DT) : DS := fun E D s => t E s fun _ s' => D.nx s'
theorem ds_expr (he : DM X Z e te) (hs : swapsWith e none pos.line X.env = pure false) : DPS X Z (.Expr e pos) (sDrop te) :=
  ⟨fun E s D D' h1 h2 h3 h4 q => he.mono _ _ _ _ (fun d s' z => h1 _ z) q, fun E W tk ek => PS.weak (ps_expr (he.run E W tk ek) hs) fun D σ H ⟨s, o, De, sr, q, ok⟩ =>
    ⟨s, o, sr, he.mono _ _ _ _ (fun d s' z v H' o' sr' st rv => ok.nx _ _ _ _ z sr' st.s1) q⟩⟩
def sRet (t : DT) : DS := fun E D s => t E s fun d s' => D.rt (.val d) s'.Γ
theorem ds_ret (he : DM X Z e te) : DPS X Z (.Return (some e) pos) (sRet te) :=
  ⟨fun E s D D' h1 h2 h3 h4 q => he.mono _ _ _ _ (fun d s' z => h2 _ _ z) q, fun E W tk ek => PS.weak (ps_ret (he.run E W tk ek)) fun D σ H ⟨s, o, De, sr, q, ok⟩ =>
    ⟨s, o, sr, he.mono _ _ _ _ (fun d s' z v H' o' sr' st rv => ok.rt (.val d) _ _ _ z ⟨sr'.gOk, Rep.mono S1_G _ _ rv⟩) q⟩⟩
def sRetF (t : DTs) : DS := fun E D s => t E s fun ds s' => D.rt (.lst ds) s'.Γ
theorem ds_retF {tf : DTs} (he : DF X Z e tf) : DPS X Z (.Return (some e) pos) (sRetF tf) :=
  ⟨fun E s D D' h1 h2 h3 h4 q => he.mono _ _ _ _ (fun d s' z => h2 _ _ z) q, fun E W tk ek => PS.weak (ps_ret (he.run E W tk ek)) fun D σ H ⟨s, o, De, sr, q, ok⟩ =>
    ⟨s, o, sr, he.mono _ _ _ _ (fun d s' z a vs H' o' sr' st n1 n2 n3 rv => ok.rt (.lst d) _ _ _ z ⟨a, vs, rfl, sr'.gOk, sr.newH0 n1, fun w => n3 (w.elim .inl fun w => .inr (.inl w)), n2, Reps.mono S1_G _ _ rv⟩) q⟩⟩
def sRetK (t : DTk) : DS := fun E D s => t E s fun ds s' => D.rt (.dct ds) s'.Γ
theorem ds_retK {tf : DTk} (he : DK X Z e tf) : DPS X Z (.Return (some e) pos) (sRetK tf) :=
  ⟨fun E s D D' h1 h2 h3 h4 q => he.mono _ _ _ _ (fun d s' z => h2 _ _ z) q, fun E W tk ek => PS.weak (ps_ret (he.run E W tk ek)) fun D σ H ⟨s, o, De, sr, q, ok⟩ =>
    ⟨s, o, sr, he.mono _ _ _ _ (fun d s' z a vs H' o' sr' st n1 n2 n3 rv => ok.rt (.dct d) _ _ _ z ⟨a, vs, rfl, sr'.gOk, sr.newH0 n1, fun w => n3 (w.elim .inl fun w => .inr (.inl w)), n2, RepK.mono S1_G _ _ rv⟩) q⟩⟩
/-- return x, x's list (dict) being its own -/
def sRetO (i : Nat) : DS := fun E D s => match s.ρ[i]? with
  | some (.lst ds) => D.rt (.lst ds) s.Γ
  | some (.dct ds) => D.rt (.dct ds) s.Γ
  | _ => False
theorem ds_retO {i : Nat} (he : PE X e (tVar i)) : DPS X Z (.Return (some e) pos) (sRetO i) := by
  refine ⟨fun E s D D' h1 h2 h3 h4 q => ?_, fun E W tk ek => PS.weak (ps_ret he) fun D σ H ⟨s, o, De, sr, q, ok⟩ => ?_⟩
  · unfold sRetO at q ⊢
    split at q
    · exact h2 _ _ q
    · exact h2 _ _ q
    · exact q.elim
  · unfold sRetO at q
    have sl := sr.slot i
    cases hx : s.ρ[i]? with
    | none => rw [hx] at q; exact q.elim
    | some x =>
      rw [hx] at q sl
      cases x with
      | lst ds =>
        obtain ⟨a, vs, e0, e1, e2, e3⟩ := sl
        obtain ⟨g1, g2⟩ := sr.gOwn e0
        obtain ⟨n1, n2, n3⟩ := sr.own i a e0
        exact ⟨.ref a, e1, ok.rt _ _ _ _ q ⟨a, vs, rfl, g1, n1, fun w => w.elim n3 n2, e2, Reps.mono g2 _ _ e3⟩⟩
      | dct ds =>
        obtain ⟨a, vs, e0, e1, e2, e3⟩ := sl
        obtain ⟨g1, g2⟩ := sr.gOwn e0
        obtain ⟨n1, n2, n3⟩ := sr.own i a e0
        exact ⟨.ref a, e1, ok.rt _ _ _ _ q ⟨a, vs, rfl, g1, n1, fun w => w.elim n3 n2, e2, RepK.mono g2 _ _ e3⟩⟩
      | _ => exact q.elim
def sRetN : DS := fun E D s => D.rt (.val .non) s.Γ
theorem ds_retN : DPS X Z (.Return none pos) sRetN := ⟨fun E s D D' h1 h2 h3 h4 q => h2 _ _ q, fun E W tk ek => PS.weak ps_retN fun D σ H ⟨s, o, De, sr, q, ok⟩ => ok.rt _ _ _ _ q ⟨sr.gOk, rfl⟩⟩
def sIf (c : DTt) (t u : DS) : DS := fun E D s => c E s fun b s1 => if b = true then t E D s1 else u E D s1
theorem ds_if {a b : List Stmt} (hc : DTe X Z c tc) (ha : DPSs X Z a t) (hb : DPSs X Z b u) : DPS X Z (.If c a b pos) (sIf tc t u) := by
  refine ⟨fun E s D D' h1 h2 h3 h4 q => hc.mono _ _ _ _ (fun b s1 q => ?_) q, fun E W tk ek => PS.weak (ps_if (hc.run E W tk ek) (ha.run E W tk ek) (hb.run E W tk ek)) fun D σ H ⟨s, o, De, sr, q, ok⟩ => ?_⟩
  · cases b with
    | true => exact ha.mono _ _ _ _ h1 h2 h3 h4 q
    | false => exact hb.mono _ _ _ _ h1 h2 h3 h4 q
  · refine ⟨s, o, sr, hc.mono _ _ _ _ (fun b s1 z H1 o1 sr1 st1 => ?_) q⟩
    cases b with
    | true => exact ⟨s1, o1, De, sr1, z, ok.step st1.s1⟩
    | false => exact ⟨s1, o1, De, sr1, z, ok.step st1.s1⟩
end
end DL

set_option Elab.async false
set_option linter.all false
set_option maxRecDepth 100000
namespace DL
open PySem PySem.Spec L2
open PyProof.Rows hiding St

section
variable {X : Cx} {Z : Zf} {K : PySem.W.Frag} {σ : St} {H : Hp} {s : DSt} {o : Own}
/-- an own list is changed -/
theorem SR.writeO {i : Nat} {a : Addr} {ds es : List D} {ws : List V} (r : SR K Z σ H s o) (ho : o i = some a) (hx : s.ρ[i]? = some (.lst ds)) (rv : Reps K (S1 Z H s o) es ws) :
    SR K Z σ (upd H a (.lst ws)) ⟨s.ρ.set i (.lst es), s.Γ⟩ o ∧ Same (S1 Z H s o) (S1 Z (upd H a (.lst ws)) ⟨s.ρ.set i (.lst es), s.Γ⟩ o) := by
  obtain ⟨n1, n2, n3⟩ := r.own i a ho
  have sub : Same (S1 Z H s o) (S1 Z (upd H a (.lst ws)) ⟨s.ρ.set i (.lst es), s.Γ⟩ o) := same_hid fun b u n h => ⟨n, by rw [upd_ne fun e => n (.inr (.inr ⟨i, by rw [e]; exact ho⟩))]; exact h⟩
  have lt : i < s.ρ.length := (List.getElem?_eq_some_iff.mp hx).1
  have sl := r.slot i
  rw [hx, ho] at sl
  obtain ⟨a', vs, e0, e1, e2, e3⟩ := sl
  cases e0
  refine ⟨⟨by simpa using r.len, fun j => ?_, r.inj, r.own, fun b us h => (r.gam b us h).imp fun vs q => ⟨?_, Reps.mono sub _ _ q.2⟩, r.gnd, r.gold, fun b u h1 h2 => ?_, fun b h => ?_, fun b h => ?_⟩, sub⟩
  · show SlotOk K _ _ (s.ρ.set i (.lst es))[j]? _ _
    by_cases hj : j = i
    · subst hj
      rw [List.getElem?_set_self lt, ho]
      exact ⟨a, ws, rfl, e1, upd_same, Reps.mono sub _ _ rv⟩
    · rw [List.getElem?_set_ne (Ne.symm hj)]
      refine (r.slot j).mono sub fun b e u h => ?_
      rw [upd_ne fun z => hj (r.inj j i a (by rw [← z]; exact e) ho)]
      exact h
  · rw [upd_ne fun z => n2 (by rw [← z]; exact List.mem_map.mpr ⟨_, h, rfl⟩)]
    exact q.1
  · rw [upd_ne fun z => by rw [z, n1] at h1; cases h1]
    exact r.frame b u h1 h2
  · rw [upd_ne fun z => n3 (by rw [← z]; exact h)]
    exact r.bok b h
  · by_cases z : b = a
    · rw [z]; exact ⟨_, upd_same⟩
    · rw [upd_ne z]; exact r.gok b h
theorem SR.writeO_M {i : Nat} {a : Addr} {ds es : List D} {ws : List V} (r : SR K Z σ H s o) (ho : o i = some a) (hx : s.ρ[i]? = some (.lst ds)) (rv : Reps K (S1 Z H s o) es ws) : StpM Z H s o (upd H a (.lst ws)) ⟨s.ρ.set i (.lst es), s.Γ⟩ o := by
  obtain ⟨n1, n2, n3⟩ := r.own i a ho
  refine ⟨(r.writeO ho hx rv).2, fun b h => ?_, fun b u hb h => ?_⟩
  · by_cases z : b = a
    · rw [z, upd_same] at h; cases h
    · rw [upd_ne z] at h; exact h
  · rw [upd_ne fun z => n3 (by rw [← z]; exact hb)]
    exact h
/-- a shared list is changed -/
def gset (Γ : Gam) (a : Addr) (ds : List D) : Gam := Γ.map fun p => if p.1 = a then (a, ds) else p
theorem gset_dom (Γ : Gam) (a : Addr) (ds : List D) : dom (gset Γ a ds) = dom Γ := by
  unfold gset dom
  rw [List.map_map]
  apply List.map_congr_left
  intro p _
  simp only [Function.comp]
  split
  · rename_i h
    exact h.symm
  · rfl
theorem SR.writeG {a : Addr} {ds es : List D} {ws : List V} (r : SR K Z σ H s o) (hm : (a, ds) ∈ s.Γ) (rv : Reps K (S1 Z H s o) es ws) :
    SR K Z σ (upd H a (.lst ws)) ⟨s.ρ, gset s.Γ a es⟩ o ∧ Same (S1 Z H s o) (S1 Z (upd H a (.lst ws)) ⟨s.ρ, gset s.Γ a es⟩ o) := by
  have ha : a ∈ dom s.Γ := List.mem_map.mpr ⟨_, hm, rfl⟩
  have hd : dom (gset s.Γ a es) = dom s.Γ := gset_dom ..
  have sub : Same (S1 Z H s o) (S1 Z (upd H a (.lst ws)) ⟨s.ρ, gset s.Γ a es⟩ o) := same_hid fun b u n h => ⟨fun z => n (by
    rcases z with z | z | z
    · exact .inl z
    · exact .inr (.inl (by rw [← hd]; exact z))
    · exact .inr (.inr z)), by rw [upd_ne fun e => n (.inr (.inl (by rw [e]; exact ha)))]; exact h⟩
  obtain ⟨vs0, hv0, _⟩ := r.gam a ds hm
  refine ⟨⟨r.len, fun j => (r.slot j).mono sub fun b e u h => ?_, r.inj, fun i b h => ⟨(r.own i b h).1, by show b ∉ dom (gset s.Γ a es); rw [hd]; exact (r.own i b h).2.1, (r.own i b h).2.2⟩, fun b us h => ?_, by show (dom (gset s.Γ a es)).Nodup; rw [hd]; exact r.gnd, fun b h => r.gold b (by rw [← hd]; exact h), fun b u h1 h2 => ?_, fun b h => ?_, fun b h => ?_⟩, sub⟩
  · rw [upd_ne fun z => (r.own j b e).2.1 (by rw [z]; exact ha)]
    exact h
  · obtain ⟨p, hp, e⟩ := List.mem_map.mp h
    by_cases hpa : p.1 = a
    · rw [if_pos hpa] at e
      cases e
      exact ⟨ws, upd_same, Reps.mono sub _ _ rv⟩
    · rw [if_neg hpa] at e
      subst e
      obtain ⟨vs, q1, q2⟩ := r.gam _ _ hp
      exact ⟨vs, by rw [upd_ne hpa]; exact q1, Reps.mono sub _ _ q2⟩
  · rw [upd_ne fun z => by
      rcases (r.gold a ha).2 with g | g
      · rw [z] at h2; exact h2 g
      · rw [z, g] at h1; cases h1]
    exact r.frame b u h1 h2
  · rw [upd_ne fun z => (r.gold a ha).1 (by rw [← z]; exact h)]
    exact r.bok b h
  · by_cases z : b = a
    · rw [z]; exact ⟨_, upd_same⟩
    · rw [upd_ne z]; exact r.gok b h

variable {e a b tg : Expr} {es : List Expr} {te ta tb : DT} {pos : Pos}
/-- a, b = e, f: plain local names -/
theorem fresh_add {H1 : Hp} {s1 : DSt} {o1 : Own} {p : Addr} (e : Same (S1 Z H s o) (S1 Z H1 s1 o1)) (n : H p = none) : Same (S1 Z H s o) (S1 (Z.add p) H1 s1 o1) := fun b u hb => by
  have h1 := hid_some.mp (e b u hb)
  refine hid_some.mpr ⟨fun w => ?_, h1.2⟩
  rcases w with (w | w) | w
  · have h2 := hid_some.mp hb
    rw [w, n] at h2
    cases h2.2
  · exact h1.1 (.inl w)
  · exact h1.1 (.inr w)
def sParVV (i j : Nat) (ta tb : DT) : DS := fun E D s => ta E s fun x s1 => tb E s1 fun y s2 => (i < s2.ρ.length ∧ j < s2.ρ.length) ∧ D.nx ⟨(s2.ρ.set i (.val x)).set j (.val y), s2.Γ⟩
def sParVF (i j : Nat) (ta : DT) (tb : DTs) : DS := fun E D s => ta E s fun x s1 => tb E s1 fun y s2 => (i < s2.ρ.length ∧ j < s2.ρ.length) ∧ D.nx ⟨(s2.ρ.set i (.val x)).set j (.lst y), s2.Γ⟩
def sParFV (i j : Nat) (ta : DTs) (tb : DT) : DS := fun E D s => ta E s fun x s1 => tb E s1 fun y s2 => (i < s2.ρ.length ∧ j < s2.ρ.length) ∧ D.nx ⟨(s2.ρ.set i (.lst x)).set j (.val y), s2.Γ⟩
def sParFF (i j : Nat) (ta : DTs) (tb : DTs) : DS := fun E D s => ta E s fun x s1 => tb E s1 fun y s2 => (i < s2.ρ.length ∧ j < s2.ρ.length) ∧ D.nx ⟨(s2.ρ.set i (.lst x)).set j (.lst y), s2.Γ⟩
variable {i j : Nat} {x y : Str} {px py pt pt2 : Pos} {kt k2 : Nat}
theorem ds_parVV (hc : X.calm = true) (hN : X.N.Nodup) (hi : X.N[i]? = some x) (hj : X.N[j]? = some y) (hij : i ≠ j) (hx : X.env.scope.names.lookup x = some .local) (hy : X.env.scope.names.lookup y = some .local) (ha : DE X Z a ta) (hb : DE X Z b tb)
    (hs1 : starEach [a, b] X.env = (false, eval a X.env) :: starEach [b] X.env) (hs2 : starEach [b] X.env = (false, eval b X.env) :: starEach [] X.env)
    (hw : swappedStores [.Tuple [.Name x px, .Name y py] kt pt] (.Tuple [a, b] k2 pt2) X.env = pure (some [x, y])) (hs : swapsWithSole [.Tuple [.Name x px, .Name y py] kt pt] (.Tuple [a, b] k2 pt2) pos.line X.env = pure false) :
    DPS X Z (.Assign [.Tuple [.Name x px, .Name y py] kt pt] (.Tuple [a, b] k2 pt2) pos) (sParVV i j ta tb) := by
  refine ⟨fun E s D D' h1 h2 h3 h4 q => ha.mono _ _ _ _ (fun x s1 q => hb.mono _ _ _ _ (fun y s2 q => ⟨q.1, h1 _ q.2⟩) q) q, fun E W tk ek => PS.weak (ps_par hc hN hi hj hij hx hy (pa_cons (ha.run E W tk ek) (pa_cons (hb.run E W tk ek) pa_nil hs2) hs1) hw hs) fun D σ H ⟨s, o, De, sr, q, ok⟩ => ?_⟩
  refine ⟨s, o, sr, ha.mono _ _ _ _ (fun x s1 q v H1 o1 sr1 st1 rx => ⟨s1, o1, sr1, hb.mono _ _ _ _ (fun y s2 q w H2 o2 sr2 st2 ry => ⟨v, w, rfl, ?_⟩) q⟩) q⟩
  obtain ⟨p1, p2⟩ := sr2.put q.1.1 (Rep.mono st2.s1 _ _ rx)
  obtain ⟨p3, p4⟩ := p1.put (i := j) (by show j < (s2.ρ.set i _).length; rw [List.length_set]; exact q.1.2) (Rep.mono p2 _ _ ry)
  exact ok.nx _ _ _ _ q.2 p3 ((st1.trans st2).s1.trans (p2.trans p4))
theorem ds_parVF {tb : DTs} (hc : X.calm = true) (hN : X.N.Nodup) (hi : X.N[i]? = some x) (hj : X.N[j]? = some y) (hij : i ≠ j) (hx : X.env.scope.names.lookup x = some .local) (hy : X.env.scope.names.lookup y = some .local) (ha : DE X Z a ta) (hb : DF X Z b tb)
    (hs1 : starEach [a, b] X.env = (false, eval a X.env) :: starEach [b] X.env) (hs2 : starEach [b] X.env = (false, eval b X.env) :: starEach [] X.env)
    (hw : swappedStores [.Tuple [.Name x px, .Name y py] kt pt] (.Tuple [a, b] k2 pt2) X.env = pure (some [x, y])) (hs : swapsWithSole [.Tuple [.Name x px, .Name y py] kt pt] (.Tuple [a, b] k2 pt2) pos.line X.env = pure false) :
    DPS X Z (.Assign [.Tuple [.Name x px, .Name y py] kt pt] (.Tuple [a, b] k2 pt2) pos) (sParVF i j ta tb) := by
  refine ⟨fun E s D D' h1 h2 h3 h4 q => ha.mono _ _ _ _ (fun x s1 q => hb.mono _ _ _ _ (fun y s2 q => ⟨q.1, h1 _ q.2⟩) q) q, fun E W tk ek => PS.weak (ps_par hc hN hi hj hij hx hy (pa_cons (ha.run E W tk ek) (pa_cons (hb.run E W tk ek) pa_nil hs2) hs1) hw hs) fun D σ H ⟨s, o, De, sr, q, ok⟩ => ?_⟩
  refine ⟨s, o, sr, ha.mono _ _ _ _ (fun x s1 q v H1 o1 sr1 st1 rx => ⟨s1, o1, sr1, hb.mono _ _ _ _ (fun y s2 q p vs H2 o2 sr2 st2 n1 n2 n3 ry => ⟨v, .ref p, rfl, ?_⟩) q⟩) q⟩
  have fa := fresh_add st2.s1 n1
  obtain ⟨p1, p2⟩ := sr2.put q.1.1 (Rep.mono fa _ _ rx)
  have n3' : ¬ mut1 Z ⟨s2.ρ.set i (.val x), s2.Γ⟩ (unOwn o2 i) p := fun z => n3 (by
    rcases z with z | z | ⟨k, z⟩
    · exact .inl z
    · exact .inr (.inl z)
    · exact .inr (.inr ⟨k, (unOwn_some z).1⟩))
  obtain ⟨p3, p4⟩ := p1.putOwn (i := j) (by show j < (s2.ρ.set i _).length; rw [List.length_set]; exact q.1.2) (sr1.newH0 n1) n2 n3' (Reps.mono p2 _ _ ry)
  exact ok.nx _ _ _ _ q.2 p3 (st1.s1.trans (fa.trans (p2.trans p4)))
theorem ds_parFV {ta : DTs} (hc : X.calm = true) (hN : X.N.Nodup) (hi : X.N[i]? = some x) (hj : X.N[j]? = some y) (hij : i ≠ j) (hx : X.env.scope.names.lookup x = some .local) (hy : X.env.scope.names.lookup y = some .local) (ha : DF X Z a ta) (hb : ∀ L, DE X (Z.add L) b tb) (mb : Mono tb)
    (hs1 : starEach [a, b] X.env = (false, eval a X.env) :: starEach [b] X.env) (hs2 : starEach [b] X.env = (false, eval b X.env) :: starEach [] X.env)
    (hw : swappedStores [.Tuple [.Name x px, .Name y py] kt pt] (.Tuple [a, b] k2 pt2) X.env = pure (some [x, y])) (hs : swapsWithSole [.Tuple [.Name x px, .Name y py] kt pt] (.Tuple [a, b] k2 pt2) pos.line X.env = pure false) :
    DPS X Z (.Assign [.Tuple [.Name x px, .Name y py] kt pt] (.Tuple [a, b] k2 pt2) pos) (sParFV i j ta tb) := by
  refine ⟨fun E s D D' h1 h2 h3 h4 q => ha.mono _ _ _ _ (fun x s1 q => mb _ _ _ _ (fun y s2 q => ⟨q.1, h1 _ q.2⟩) q) q, fun E W tk ek => PS.weak (ps_par hc hN hi hj hij hx hy (pa_cons (ha.run E W tk ek) (pa_cons (te := fun σ H Q => ∃ L, aE X.K (Z.add L) tb E σ H Q)
    ⟨fun pins s σ H Q I ⟨L, q⟩ => ((hb L).run E W tk fun x s' cls dd σ H' o' h r xr => ek x s' cls dd σ H' o' h r.drop (XRep.mono add_sub xr)).run pins s σ H Q I q⟩ pa_nil hs2) hs1) hw hs) fun D σ H ⟨s, o, De, sr, q, ok⟩ => ?_⟩
  refine ⟨s, o, sr, ha.mono _ _ _ _ (fun x s1 q p vs H1 o1 sr1 st1 n1 n2 n3 rx => ⟨p, s1, o1, sr1, mb _ _ _ _ (fun y s2 q w H2 o2 sr2 st2 ry => ⟨.ref p, w, rfl, ?_⟩) q⟩) q⟩
  have hB : ¬ Z.B p := fun z => n3 (.inl z)
  have nm : ¬ mut1 Z s2 o2 p := sr2.notIn hB
  obtain ⟨p1, p2⟩ := sr2.putOwn (i := i) q.1.1 (sr.newH0 n1) (st2.keepB p _ (.inl rfl) n2) nm (Reps.mono st2.s1 _ _ rx)
  obtain ⟨p3, p4⟩ := p1.put (i := j) (by show j < (s2.ρ.set i _).length; rw [List.length_set]; exact q.1.2) (Rep.mono p2 _ _ ry)
  exact ok.nx _ _ _ _ q.2 p3 ((fresh_add st1.s1 n1).trans (st2.s1.trans (p2.trans p4)))
where
  XRep.mono {K : PySem.W.Frag} {S S' H : Hp} {x : Ex} {cls : Value} {dd : Option Addr} (e : Same S S') (h : XRep K S H x cls dd) : XRep K S' H x cls dd := by
    obtain ⟨h1, h2⟩ := h
    refine ⟨h1, h2.imp id fun ⟨d, ws, e1, e2, e3⟩ => ⟨d, ws, e1, e2, ?_⟩⟩
    clear e2 h1 h2
    generalize x.fs = fs at e3
    induction fs generalizing ws with
    | nil => exact e3
    | cons p r ih =>
      obtain ⟨k, d⟩ := p
      obtain ⟨v, t, e4, e5, e6⟩ := e3
      exact ⟨v, t, e4, Rep.mono e _ _ e5, ih t e6⟩
theorem ds_parFF {ta tb : DTs} (hc : X.calm = true) (hN : X.N.Nodup) (hi : X.N[i]? = some x) (hj : X.N[j]? = some y) (hij : i ≠ j) (hx : X.env.scope.names.lookup x = some .local) (hy : X.env.scope.names.lookup y = some .local) (ha : DF X Z a ta) (hb : ∀ L, DF X (Z.add L) b tb) (mb : Mono tb)
    (hs1 : starEach [a, b] X.env = (false, eval a X.env) :: starEach [b] X.env) (hs2 : starEach [b] X.env = (false, eval b X.env) :: starEach [] X.env)
    (hw : swappedStores [.Tuple [.Name x px, .Name y py] kt pt] (.Tuple [a, b] k2 pt2) X.env = pure (some [x, y])) (hs : swapsWithSole [.Tuple [.Name x px, .Name y py] kt pt] (.Tuple [a, b] k2 pt2) pos.line X.env = pure false) :
    DPS X Z (.Assign [.Tuple [.Name x px, .Name y py] kt pt] (.Tuple [a, b] k2 pt2) pos) (sParFF i j ta tb) := by
  refine ⟨fun E s D D' h1 h2 h3 h4 q => ha.mono _ _ _ _ (fun x s1 q => mb _ _ _ _ (fun y s2 q => ⟨q.1, h1 _ q.2⟩) q) q, fun E W tk ek => PS.weak (ps_par hc hN hi hj hij hx hy (pa_cons (ha.run E W tk ek) (pa_cons (te := fun σ H Q => ∃ L, aF X.K (Z.add L) tb E σ H Q)
    ⟨fun pins s σ H Q I ⟨L, q⟩ => ((hb L).run E W tk fun x s' cls dd σ H' o' h r xr => ek x s' cls dd σ H' o' h r.drop (ds_parFV.XRep.mono add_sub xr)).run pins s σ H Q I q⟩ pa_nil hs2) hs1) hw hs) fun D σ H ⟨s, o, De, sr, q, ok⟩ => ?_⟩
  refine ⟨s, o, sr, ha.mono _ _ _ _ (fun x s1 q p vs H1 o1 sr1 st1 n1 n2 n3 rx => ⟨p, s1, o1, sr1, mb _ _ _ _ (fun y s2 q p' ws H2 o2 sr2 st2 m1 m2 m3 ry => ⟨.ref p, .ref p', rfl, ?_⟩) q⟩) q⟩
  have hB : ¬ Z.B p := fun z => n3 (.inl z)
  have fa := fresh_add st2.s1 m1
  obtain ⟨p1, p2⟩ := sr2.putOwn (i := j) q.1.2 (sr1.newH0 m1) m2 m3 ry
  obtain ⟨p3, p4⟩ := p1.putOwn (i := i) (by show i < (s2.ρ.set j _).length; rw [List.length_set]; exact q.1.1) (sr.newH0 n1) (st2.keepB p _ (.inl rfl) n2) (p1.notIn hB) (Reps.mono (fa.trans p2) _ _ rx)
  rw [List.set_comm _ _ (Ne.symm hij)] at p3
  have e2 : (s2.ρ.set j (.lst y)).set i (.lst x) = (s2.ρ.set i (.lst x)).set j (.lst y) := List.set_comm _ _ (Ne.symm hij)
  have p3' : SR X.K Z ((σ.set i (some (.ref p))).set j (some (.ref p'))) H2 ⟨(s2.ρ.set i (.lst x)).set j (.lst y), s2.Γ⟩ (setOwn (setOwn o2 j p') i p) := by
    have p5 := p3
    simp only [e2] at p5
    exact p5
  have p4' : Same (S1 (Z.add p) H2 ⟨s2.ρ.set j (.lst y), s2.Γ⟩ (setOwn o2 j p')) (S1 Z H2 ⟨(s2.ρ.set i (.lst x)).set j (.lst y), s2.Γ⟩ (setOwn (setOwn o2 j p') i p)) := p4
  exact ok.nx _ _ _ _ q.2 p3' ((fresh_add st1.s1 n1).trans (fa.trans (p2.trans p4')))

/-- target = e, any target of names -/
def sAsg (T : Tg) (t : DT) : DS := fun E D s => t E s fun d s' => T.put d s'.ρ fun ρ => D.nx ⟨ρ, s'.Γ⟩
theorem ds_asg {T : Tg} (he : DM X Z e te) (hg : PG X tg (T.rd X.K)) (hs : swapsWithSole [tg] e pos.line X.env = pure false) (hw : swappedStores [tg] e X.env = pure none) (h1 : (assignEach [tg] X.env).map (·.2) = [assign tg X.env]) : DPS X Z (.Assign [tg] e pos) (sAsg T te) := by
  refine ⟨fun E s D D' h1 h2 h3 h4 q => he.mono _ _ _ _ (fun d s' z => Tg.put_mono (fun ρ z => h1 _ z) z) q, fun E W tk ek => PS.weak (ps_asg (he.run E W tk ek) hg hs hw h1) fun D σ H ⟨s, o, De, sr, q, ok⟩ => ?_⟩
  refine ⟨s, o, sr, he.mono _ _ _ _ (fun d s' z v H' o' sr' st rv => ?_) q⟩
  refine lc_turn.Tg_rd_mono (fun σ2 H2 h => ?_) (Tg.ok sr' rv z)
  obtain ⟨rfl, ρ', o2, r2, e2, _, q2⟩ := h
  exact ok.nx _ _ _ _ q2 r2 (st.s1.trans e2)
/-- name op= e -/
def sAug (i : Nat) (p : P2) (t : DT) : DS := fun E D s => ∃ d, s.ρ[i]? = some (.val d) ∧ t E s fun y s' => p s' d y fun z => i < s'.ρ.length ∧ D.nx ⟨s'.ρ.set i (.val z), s'.Γ⟩
theorem ds_aug {op : Operator} {p : P2} (hN : X.N.Nodup) (hi : X.N[i]? = some x) (hx : Loc X.env.scope x) (he : DE X Z e te) (hp : BOp X Z (inplaceOp op) p) (hf : X.fn x = true ∨ X.env.scope.names.lookup x = some .local) : DPS X Z (.AugAssign (.Name x px) op e pos) (sAug i p te) := by
  obtain ⟨r, ho, hp⟩ := hp
  refine ⟨fun E s D D' h1 h2 h3 h4 ⟨d, e, q⟩ => ⟨d, e, he.mono _ _ _ _ (fun y s' z => hp.mono _ _ _ _ _ (fun z q => ⟨q.1, h1 _ q.2⟩) z) q⟩, fun E W tk ek => PS.weak (ps_aug hN hi hx (he.run E W tk ek) ho hf) fun D σ H ⟨s, o, De, sr, ⟨d, hd, q⟩, ok⟩ => ?_⟩
  have sl := sr.slot i
  rw [hd] at sl
  obtain ⟨_, v, e1, rv⟩ := sl
  refine ⟨v, e1, s, o, sr, he.mono _ _ _ _ (fun y s' z w H' o' sr' st rw' => ?_) q⟩
  refine hp.run σ H' s' o' v w d y _ sr' ((Rep.mono st.s1 _ _ rv).toR S12) (rw'.toR S12) (hp.mono _ _ _ _ _ (fun z q u H2 e2 ru => ?_) z)
  obtain ⟨p1, p2⟩ := (sr'.alloc e2).put q.1 ru
  exact ok.nx _ _ _ _ q.2 p1 (st.s1.trans ((same_alloc e2).trans p2))

/-! ### methods of own lists -/
/-- x.append(e) -/
def sApp (i : Nat) (t : DT) : DS := fun E D s => (∃ ds, s.ρ[i]? = some (.lst ds)) ∧ t E s fun d s' => ∃ ds, s'.ρ[i]? = some (.lst ds) ∧ ds.length < sizeLine ∧ D.nx ⟨s'.ρ.set i (.lst (ds ++ [d])), s'.Γ⟩
theorem ds_app {apos cpos : Pos} {r : Expr} (hr : PE X r (tVar i)) (he : DM X Z e te) (hbase : attributeBase r "append" X.env (eval r X.env) = eval r X.env)
    (hfew : ((backTo cpos (starEach [e] X.env)).all (fun x => !x.1) && (backToKw cpos (keywordEach [] X.env)).all (fun x => x.1.isSome) && decide ([e].length + ([] : List Keyword).length + (if ([] : List Keyword).isEmpty then 0 else 1) < 30)) = true)
    (hline : (apos.endLine == cpos.line) = true) (hs1 : starEach [e] X.env = (false, eval e X.env) :: starEach [] X.env) (hplain : (backTo cpos (starEach [] X.env)).any (·.1) = false) (hs : swapsWith (.Call (.Attribute r "append" apos) [e] [] cpos) none pos.line X.env = pure false) :
    DPS X Z (.Expr (.Call (.Attribute r "append" apos) [e] [] cpos) pos) (sApp i te) := by
  refine ⟨fun E s D D' h1 h2 h3 h4 q => ⟨q.1, he.mono _ _ _ _ (fun d s' ⟨ds, e, l, z⟩ => ⟨ds, e, l, h1 _ z⟩) q.2⟩, fun E W tk ek => PS.weak (ps_expr (pe_bm PySem.F.plainAttrs_list PySem.F.slot_list_append PySem.F.type_list_append mt_append hr (pa_cons (he.run E W tk ek) pa_nil hs1) hbase hfew hline hs1 hplain) hs) fun D σ H ⟨s, o, De, sr, ⟨⟨ds0, hx0⟩, q⟩, ok⟩ => ?_⟩
  have sl := sr.slot i
  rw [hx0] at sl
  obtain ⟨a, vs, e0, e1, e2, e3⟩ := sl
  refine ⟨.ref a, e1, .inl ⟨rfl, vs, .inl (.inl e2)⟩, s, o, sr, he.mono _ _ _ _ (fun d s' z v H' o' sr' st rv => ?_) q⟩
  obtain ⟨ds, hx, hl, z⟩ := z
  have sl := sr'.slot i
  rw [hx] at sl
  obtain ⟨a', vs', f0, f1, f2, f3⟩ := sl
  have ea : a' = a := by
    rw [e1] at f1
    cases f1
    rfl
  subst ea
  refine ⟨a', vs', v, rfl, rfl, f2, by rw [← f3.len]; exact hl, ?_⟩
  obtain ⟨p1, p2⟩ := sr'.writeO f0 hx (f3.app (Reps.one rv))
  exact ok.nx _ _ _ _ z p1 (st.s1.trans p2)
/-- x.pop(e) -/
def dPop (i : Nat) (t : DT) : DT := fun E s Q => (∃ ds, s.ρ[i]? = some (.lst ds)) ∧ t E s fun d s' => ∃ ds k j y, s'.ρ[i]? = some (.lst ds) ∧ d = .int k ∧ (-(2 ^ 63) ≤ k ∧ k < 2 ^ 63) ∧ ixN ds.length k = some j ∧ ds[j]? = some y ∧ Q y ⟨s'.ρ.set i (.lst (ds.eraseIdx j)), s'.Γ⟩
theorem dm_pop {apos cpos : Pos} {r : Expr} (hr : PE X r (tVar i)) (he : DE X Z e te) (hbase : attributeBase r "pop" X.env (eval r X.env) = eval r X.env)
    (hfew : ((backTo cpos (starEach [e] X.env)).all (fun x => !x.1) && (backToKw cpos (keywordEach [] X.env)).all (fun x => x.1.isSome) && decide ([e].length + ([] : List Keyword).length + (if ([] : List Keyword).isEmpty then 0 else 1) < 30)) = true)
    (hline : (apos.endLine == cpos.line) = true) (hs1 : starEach [e] X.env = (false, eval e X.env) :: starEach [] X.env) (hplain : (backTo cpos (starEach [] X.env)).any (·.1) = false) :
    DM X Z (.Call (.Attribute r "pop" apos) [e] [] cpos) (dPop i te) := by
  refine ⟨fun E s Q Q' m q => ⟨q.1, he.mono _ _ _ _ (fun d s' ⟨ds, k, j, y, e1, e2, e3, e4, e5, z⟩ => ⟨ds, k, j, y, e1, e2, e3, e4, e5, m _ _ z⟩) q.2⟩, fun E W tk ek => PE.weak (pe_bm PySem.F.plainAttrs_list PySem.F.slot_list_pop PySem.F.type_list_pop mt_popAt hr (pa_cons (he.run E W tk ek) pa_nil hs1) hbase hfew hline hs1 hplain) fun σ H Q ⟨s, o, sr, ⟨⟨ds0, hx0⟩, q⟩⟩ => ?_⟩
  have sl := sr.slot i
  rw [hx0] at sl
  obtain ⟨a, vs, e0, e1, e2, e3⟩ := sl
  refine ⟨.ref a, e1, .inl ⟨rfl, vs, .inl (.inl e2)⟩, s, o, sr, he.mono _ _ _ _ (fun d s' z v H' o' sr' st rv => ?_) q⟩
  obtain ⟨ds, k, jj, y, hx, rfl, hb, hk, hy, z⟩ := z
  cases (show _ = _ from rv)
  have sl := sr'.slot i
  rw [hx] at sl
  obtain ⟨a', vs', f0, f1, f2, f3⟩ := sl
  have ea : a' = a := by
    rw [e1] at f1
    cases f1
    rfl
  subst ea
  obtain ⟨vy, hvy, ry⟩ := f3.get hy
  obtain ⟨k1, k2, _, _⟩ := ixN_seq hk
  rw [f3.len] at k1
  refine ⟨a', vs', k, jj, vy, rfl, rfl, f2, hb.1, hb.2, k1, hvy, ?_⟩
  have f3' := f3.erase jj
  obtain ⟨p1, p2⟩ := sr'.writeO f0 hx f3'
  have pm := sr'.writeO_M f0 hx f3'
  exact z vy _ _ p1 ⟨st.s1.trans p2, fun b h => st.new b (pm.new b h), fun b u hb h => pm.keepB b u hb (st.keepB b u hb h)⟩ (Rep.mono p2 _ _ ry)
/-- x[k] = e, of an own or a shared list -/
def sIxSet (i : Nat) (tk te : DT) : DS := fun E D s => te E s fun d s1 => ∃ sl, s1.ρ[i]? = some sl ∧ (∀ x, sl ≠ .val x ∨ ∃ a, x = .ref a) ∧ tk E s1 fun k s2 => ∃ n, k = .int n ∧ ((∃ ds j, s2.ρ[i]? = some (.lst ds) ∧ (∃ ds', sl = .lst ds') ∧ ixN ds.length n = some j ∧ D.nx ⟨s2.ρ.set i (.lst (ds.set j d)), s2.Γ⟩) ∨
  ∃ a ds j, s1.ρ[i]? = some (.val (.ref a)) ∧ s2.Γ.lookup a = some ds ∧ ixN ds.length n = some j ∧ D.nx ⟨s2.ρ, gset s2.Γ a (ds.set j d)⟩)
end
end DL

set_option Elab.async false
set_option linter.all false
set_option maxRecDepth 100000
namespace DL
open PySem PySem.Spec L2
open PyProof.Rows hiding St

/-! ### defs, where nothing is being shown around them -/
structure FnG (P : Program) (w : World) (K : PySem.W.Frag) (mg : Str → Option Value) (base : Heap) (k : Nat) (f : Addr) (fd : FuncData) (ps : List Str) (sp : Sp) : Prop where
  len : ∀ vs H Q E, sp vs H Q E → vs.length = ps.length
  run : ∀ {A : Around} {outer : List Env} {s : Shared} {H : Hp} {args : Args} {us : List Value} {vs : List V} {Q : VK} {E : XK}, A.guards = some [] → Room k A → Env0 P w K mg base A outer s H →
    BindsTo s fd args (ps.zip us) → Vals vs us → sp vs H Q E → codeAny (model P w) A (.call (.ref f) args) (CR (L2.CX P w) outer P w H s Q E) s
section
variable {P : Program} {w : World} {K : PySem.W.Frag} {mg : Str → Option Value} {base : Heap} {x qual : Str} {params : Arguments} {body : List Stmt} {scope : Scope} {dvs : List V} {kws : List (Str × V)} {f : Addr} {fd : FuncData}
abbrev cxD (P : Program) (w : World) (K : PySem.W.Frag) (mg : Str → Option Value) (base : Heap) (N : List Str) (qual : Str) (scope : Scope) (f : Addr) (cd : Value) (A : Around) (outer : List Env) (s : Shared) (H : Hp) (E : XK) : Cx := cxOf (L2.CX P w) P w K mg base N qual scope f cd A outer s H E
theorem okG {N ps : List Str} {k : Nat} {sp : Sp} (F : FunD K x qual params body scope dvs kws f fd) (S : FnScope N ps scope) (len : ∀ vs H Q E, sp vs H Q E → vs.length = ps.length)
    (hbody : ∀ (cdv : Value) (A : Around) (outer : List Env) (s : Shared) (H : Hp) (vs : List V) (Q : VK) (E : XK), A.guards = some [] → Room k (A.deeper (envOfC qual scope s.heap.objs.size f cdv)) → sp vs H Q E →
      ∃ t, PSs (cxD P w K mg base N qual scope f cdv A outer s H E) body t ∧ t { nx := fun _ H' => Q .non H', rt := Q } (start N vs) H) : FnG P w K mg base (k + 1) f fd ps sp := by
  obtain ⟨oc, od, dV, kV, doc, pm, an, cdv, ct, osl, rfl, lk, hcd, _, _⟩ := F.ex
  refine ⟨len, fun {A outer s H args us vs Q E} hgd hr e0 hb r hsp => ?_⟩
  have kb := fun (b : Addr) (o : Obj) (e : base.get? b = some o) => (e0.bs b o e).1
  have KX := e0.mod.kin.keeps kb
  refine codeAny_call_function hr.depth (KX _ _ lk) rfl S.co S.gen rfl (PySem.W.codeRec_of KX hcd) (hb _ _ _ _ (wpAny_newFunctionEnv_cells S.kind ?_ ?_))
  · rintro ⟨n, v⟩ hy
    exact (S.par n (List.of_mem_zip hy).1).imp id fun q => ⟨q, PySem.W.cellsFrom_some _ _ _ (.inl q)⟩
  · rintro env rfl s1 ic
    obtain ⟨t, ht, hq⟩ := hbody cdv A outer s H vs Q E hgd (hr.deeper _) hsp
    have I := inv_start (CX := L2.CX P w) (E := E) S hr.hd e0 (len _ _ _ _ hsp) r ic
    refine ⟨(e0.mod.nolimit.keeps kb).keeps ic.toInCall.keep, codeAny_func (wpAny_mono (ht.run [] s1 (start N vs) H _ I hq) ?_ fun _ _ z => z)⟩
    intro fl s' hs
    cases fl with
    | ret u => exact let ⟨v, σ', H', J, rv, q⟩ := hs; ⟨v, H', J.os, J.bare, J.base, J.hok, rv, q⟩
    | next => exact let ⟨σ', H', J, q⟩ := hs; ⟨V.non, H', J.os, J.bare, J.base, J.hok, rfl, q⟩
    | brk => exact hs.elim fun _ z => z.elim fun _ z => z.2.elim
    | cont => exact hs.elim fun _ z => z.elim fun _ z => z.2.elim
end
section
variable {X : Cx} {k : Nat} {f : Addr} {fd : FuncData} {ps : List Str} {sp : Sp} {dvs : List V} {ds : List Value} {E : St → XK} {x : Str} {p pos : Pos} {e : Expr} {es : List Expr} {t : TA}
theorem runG {pins : List (Addr × Obj)} {σ : St} {H : Hp} {s : Shared} {Q : VK} {us : List Value} {vs : List V} (F : FnG X.prog X.w X.K X.mg X.base k f fd ps sp) (gd : X.A.guards = some []) (hr : Room k X.A) (hb : Binds X.K fd ps ds) (hd : Vals dvs ds)
    (hx : PassesAt (L2.CX X.prog X.w) X σ (E σ)) (I : Inv X pins σ H s) (r : Vals vs us) (h : sp (vs ++ dvs) H Q (E σ)) : wpAny (model X.prog X.w) X.A (call (.ref f) us) (EP X pins σ Q) X.xe s := by
  have r2 := r.append hd
  refine wpAny_call (codeAny_mono (F.run gd hr I.env0 (hb s us I.kIn (r2.length.symm.trans (F.len _ _ _ _ h))) r2 h) ?_)
  intro res s' hq
  match res, hq with
  | .error e, hq => exact hx pins H s e s' I hq
  | .ok (.ret u), hq => exact I.after hq
  | .ok .next, hq => exact hq.elim
  | .ok .brk, hq => exact hq.elim
  | .ok .cont, hq => exact hq.elim
theorem pe_callG (F : FnG X.prog X.w X.K X.mg X.base k f fd ps sp) (gd : X.A.guards = some []) (hr : Room k X.A) (hg : Gl X x) (hm : X.mg x = some (.ref f)) (hk : PySem.W.keepIn X.K (.ref f) = true) (hb : Binds X.K fd ps ds) (hd : Vals dvs ds)
    (hx : ∀ σ, PassesAt (L2.CX X.prog X.w) X σ (E σ)) (ha : PA X (e :: es) t) (hdb : (x == ("__debug__" : Str)) = false) (he : starEach (e :: es) X.env = (false, eval e X.env) :: starEach es X.env) (hpl : (backTo pos (starEach es X.env)).any (·.1) = false) :
    PE X (.Call (.Name x p) (e :: es) [] pos) (tCallSD sp dvs E t) :=
  ⟨fun pins s σ H Q I h => wpAny_Call_Name_kw (ld_glob I hg hm (PySem.W.callWith_K (h₀ := X.base) I.ok.mod.kin hk (thn (ha.run pos pins s σ H _ I h) fun us s1 ⟨vs, H1, I1, r, q⟩ => ⟨I1.kIn, runG F gd hr hb hd (hx σ) I1 r q⟩) he hpl) hdb)⟩
theorem pe_callG0 (F : FnG X.prog X.w X.K X.mg X.base k f fd ps sp) (gd : X.A.guards = some []) (hr : Room k X.A) (hg : Gl X x) (hm : X.mg x = some (.ref f)) (hk : PySem.W.keepIn X.K (.ref f) = true) (hb : Binds X.K fd ps ds) (hd : Vals dvs ds)
    (hx : ∀ σ, PassesAt (L2.CX X.prog X.w) X σ (E σ)) (hdb : (x == ("__debug__" : Str)) = false) :
    PE X (.Call (.Name x p) [] [] pos) (tCallSD sp dvs E tNil) :=
  ⟨fun pins s σ H Q I h => wpAny_Call_Name_kw (ld_glob I hg hm (PySem.W.callWith_K0 I.kIn hk (runG (us := []) (vs := []) F gd hr hb hd (hx σ) I .nil h)) hdb)⟩
end

/-! ### defs over trees -/
abbrev DSp := (Ex → Gam → Prop) → List D → Gam → (R → Gam → Prop) → Prop
def DSp.Mono (sp : DSp) : Prop := ∀ E ds Γ (Q Q' : R → Gam → Prop), (∀ r g, Q r g → Q' r g) → sp E ds Γ Q → sp E ds Γ Q'
def spD (K : PySem.W.Frag) (n : Nat) (sp : DSp) : Sp := fun vs H Q E => ∃ (Z : Zf) (ds : List D) (Γ : Gam) (Ed : Ex → Gam → Prop) (Qd : R → Gam → Prop), Z.H0 = H ∧ Z.G0 = dom Γ ∧ GOk K Z H Γ ∧ Reps K (hid H (mutG Z Γ)) ds vs ∧ ds.length = n ∧ sp Ed ds Γ Qd ∧
  (∀ r Γ' v H', Qd r Γ' → RetOk K Z H' Γ' v r → Q v H') ∧ ∀ x Γ' cls dd H', Ed x Γ' → GOk K Z H' Γ' → XRep K (hid H' (mutG Z Γ')) H' x cls dd → E cls dd H'
structure FnD (P : Program) (w : World) (K : PySem.W.Frag) (mg : Str → Option Value) (base : Heap) (k : Nat) (f : Addr) (fd : FuncData) (ps : List Str) (sp : DSp) : Prop where
  mono : sp.Mono
  ok : FnG P w K mg base k f fd ps (spD K ps.length sp)
def startD (n : Nat) (ds : List D) : List Sl := ds.map .val ++ List.replicate (n - ds.length) .emp
/-- a body's reading as a def's -/
def bodyD (n m : Nat) (t : DS) : DSp := fun E ds Γ Q => ds.length = m ∧ t (fun x s => E x s.Γ) { nx := fun s => Q (.val .non) s.Γ, rt := Q } ⟨startD n ds, Γ⟩
theorem XRep.mono' {K : PySem.W.Frag} {S S' H : Hp} {x : Ex} {cls : Value} {dd : Option Addr} (e : Same S S') (h : XRep K S H x cls dd) : XRep K S' H x cls dd := ds_parFV.XRep.mono e h
theorem SR.begin {K : PySem.W.Frag} {Z : Zf} {H : Hp} {N : List Str} {ds : List D} {Γ : Gam} {vs : List V} (g : GOk K Z H Γ) (h0 : Z.H0 = H) (r : Reps K (hid H (mutG Z Γ)) ds vs) : SR K Z (start N vs) H ⟨startD N.length ds, Γ⟩ (fun _ => none) := by
  have sub : Same (hid H (mutG Z Γ)) (S1 Z H ⟨startD N.length ds, Γ⟩ (fun _ => none)) := same_hid fun b u n h => ⟨fun z => n (by
    rcases z with z | z | ⟨_, z⟩
    · exact .inl z
    · exact .inr z
    · cases z), h⟩
  have hl := r.len
  refine ⟨?_, fun i => ?_, fun i j a h => (nomatch h), fun i a h => (nomatch h), fun a ds h => (g.gam a ds h).imp fun vs q => ⟨q.1, Reps.mono sub _ _ q.2⟩, g.gnd, g.gold, g.frame, g.bok, g.gok⟩
  · show (startD N.length ds).length = _
    unfold startD L2.start
    simp [hl]
  · show SlotOk K _ H (startD N.length ds)[i]? (start N vs)[i]? none
    unfold startD L2.start
    by_cases hi : i < ds.length
    · rw [List.getElem?_append_left (by simpa using hi), List.getElem?_append_left (by simpa [← hl] using hi), List.getElem?_map, List.getElem?_map, List.getElem?_eq_getElem hi]
      obtain ⟨v, hv, rv⟩ := r.get (List.getElem?_eq_getElem hi)
      rw [hv]
      exact ⟨rfl, v, rfl, Rep.mono sub _ _ rv⟩
    · rw [List.getElem?_append_right (by simpa using hi), List.getElem?_replicate]
      split <;> exact rfl
section
variable {P : Program} {w : World} {K : PySem.W.Frag} {mg : Str → Option Value} {base : Heap} {x qual : Str} {params : Arguments} {body : List Stmt} {scope : Scope} {dvs : List V} {kws : List (Str × V)} {f : Addr} {fd : FuncData}
theorem fnD {N ps : List Str} {k : Nat} {t : DS} (F : FunD K x qual params body scope dvs kws f fd) (S : FnScope N ps scope)
    (m : MonoS t) (hb : ∀ (cdv : Value) (A : Around) (outer : List Env) (s : Shared) (H : Hp) (E : XK) (Z : Zf), A.guards = some [] → Room k (A.deeper (envOfC qual scope s.heap.objs.size f cdv)) → DPSs (cxD P w K mg base N qual scope f cdv A outer s H E) Z body t) :
    FnD P w K mg base (k + 1) f fd ps (bodyD N.length ps.length t) := by
  refine ⟨fun E ds Γ Q Q' h ⟨l, q⟩ => ⟨l, m _ _ { nx := fun s => Q (.val .non) s.Γ, rt := Q } _ (fun s z => h _ _ z) (fun r g z => h _ _ z) (fun _ z => z) (fun _ z => z) q⟩, okG F S ?_ ?_⟩
  · rintro vs H Q E ⟨Z, ds, Γ, Ed, Qd, _, _, _, r, l, _⟩
    rw [← r.len, l]
  · rintro cdv A outer s H vs Q E gd hr ⟨Z, ds, Γ, Ed, Qd, h0, hG, g, r, l, ⟨_, q⟩, hQ, hE⟩
    have tk : Takes (cxD P w K mg base N qual scope f cdv A outer s H E) (fun cls d _ H => E cls d H) := takes_of rfl rfl rfl rfl
    refine ⟨_, (hb cdv A outer s H E Z gd hr).run (fun x s => Ed x s.Γ) _ tk (fun x s' cls dd σ H' o' hx sr xr => hE x s'.Γ cls dd H' hx sr.gOk (XRep.mono' S1_G xr)), ⟨_, _, _, SR.begin g h0 r, q, ?_⟩⟩
    exact ⟨fun s' σ' H' o' q r e => hQ _ _ _ _ q ⟨r.gOk, rfl⟩, fun _ _ _ _ q => q.elim, fun _ _ _ _ q => q.elim, fun r Γ' v H' q ok => hQ _ _ _ _ q ok⟩
end

/-! ### a call of a def -/
section
variable {K : PySem.W.Frag} {Z Zn : Zf} {σ : St} {H1 H2 : Hp} {s : DSt} {o : Own} {Γ2 : Gam}
/-- what a callee must not reach -/
def callB (Z : Zf) (o : Own) (b : Addr) : Prop := Z.B b ∨ ∃ i, o i = some b
abbrev callZ (Z : Zf) (H : Hp) (s : DSt) (o : Own) : Zf := ⟨H, dom s.Γ, callB Z o⟩
theorem SR.enter (r : SR K Z σ H1 s o) : GOk K (callZ Z H1 s o) H1 s.Γ ∧ Same (S1 Z H1 s o) (hid H1 (mutG (callZ Z H1 s o) s.Γ)) := by
  have sub : Same (S1 Z H1 s o) (hid H1 (mutG (callZ Z H1 s o) s.Γ)) := same_hid fun b u n h => ⟨fun z => n (by
    rcases z with (z | z) | z
    · exact .inl z
    · exact .inr (.inr z)
    · exact .inr (.inl z)), h⟩
  refine ⟨⟨fun a ds h => (r.gam a ds h).imp fun vs q => ⟨q.1, Reps.mono sub _ _ q.2⟩, r.gnd, fun a h => ⟨fun z => ?_, .inl h⟩, fun b u h _ => h, fun b h => ?_, fun b h => ?_⟩, sub⟩
  · rcases z with z | ⟨i, z⟩
    · exact (r.gold a h).1 z
    · exact (r.own i a z).2.1 h
  · rcases h with h | h
    · exact r.bok b h
    · exact r.mutH (.inr (.inr h))
  · exact r.mutH (.inr (.inl h))
/-- behind the call; P: a place that the callee hands over -/
theorem SR.leave {Pn : Addr → Prop} (r : SR K Z σ H1 s o) (g : GOk K ⟨H1, dom s.Γ, fun b => Pn b ∨ callB Z o b⟩ H2 Γ2) (h0 : Zn.H0 = Z.H0) (hG : Zn.G0 = Z.G0) (hB : ∀ b, Zn.B b ↔ (Pn b ∨ Z.B b)) (hP : ∀ b, Pn b → H1 b = none) :
    SR K Zn σ H2 ⟨s.ρ, Γ2⟩ o ∧ Same (S1 Z H1 s o) (S1 Zn H2 ⟨s.ρ, Γ2⟩ o) ∧ Stp Z H1 s o H2 ⟨s.ρ, Γ2⟩ o ∧ Same (hid H2 (mutG ⟨H1, dom s.Γ, fun b => Pn b ∨ callB Z o b⟩ Γ2)) (S1 Zn H2 ⟨s.ρ, Γ2⟩ o) := by
  have fr : ∀ b u, H1 b = some u → b ∉ dom s.Γ → H2 b = some u := fun b u h n => g.frame b u h n
  have nd : ∀ b u, H1 b = some u → b ∉ dom s.Γ → b ∉ dom Γ2 := fun b u h n z => by
    rcases (g.gold b z).2 with q | q
    · exact n q
    · have q' : H1 b = none := q
      rw [h] at q'
      cases q'
  have sub : Same (S1 Z H1 s o) (S1 Zn H2 ⟨s.ρ, Γ2⟩ o) := same_hid fun b u n h => ⟨fun z => by
    have n2 : b ∉ dom s.Γ := fun z => n (.inr (.inl z))
    rcases z with z | z | z
    · rcases (hB b).mp z with z | z
      · rw [hP b z] at h
        cases h
      · exact n (.inl z)
    · exact nd b u h n2 z
    · exact n (.inr (.inr z)), fr b u h fun z => n (.inr (.inl z))⟩
  have sub2 : Same (hid H2 (mutG ⟨H1, dom s.Γ, fun b => Pn b ∨ callB Z o b⟩ Γ2)) (S1 Zn H2 ⟨s.ρ, Γ2⟩ o) := same_hid fun b u n h => ⟨fun z => n (by
    rcases z with z | z | z
    · rcases (hB b).mp z with z | z
      · exact .inl (.inl z)
      · exact .inl (.inr (.inl z))
    · exact .inr z
    · exact .inl (.inr (.inr z))), h⟩
  have back : ∀ b, H2 b = none → H1 b = none := fun b h => by
    cases e : H1 b with
    | none => rfl
    | some u =>
      by_cases hd : b ∈ dom s.Γ
      · obtain ⟨u', e'⟩ := g.gok b hd
        rw [h] at e'
        cases e'
      · rw [fr b u e hd] at h
        cases h
  refine ⟨⟨r.len, fun i => (r.slot i).mono sub fun b e u h => fr b u h (r.own i b e).2.1, r.inj, fun i a h => ⟨by rw [h0]; exact (r.own i a h).1, fun z => (g.gold a z).1 (.inr (.inr ⟨i, h⟩)), fun z => ?_⟩, fun a ds h => (g.gam a ds h).imp fun vs q => ⟨q.1, Reps.mono sub2 _ _ q.2⟩, g.gnd, fun a h => ⟨fun z => ?_, ?_⟩, fun b u h1 h2 => ?_, fun b h => ?_, fun b h => ?_⟩, sub, ⟨?_, ?_, back, fun b u hb h => fr b u h fun z => (r.gold b z).1 hb⟩, sub2⟩
  · rcases (hB a).mp z with z | z
    · obtain ⟨u, e⟩ := r.mutH (.inr (.inr ⟨i, h⟩))
      rw [hP a z] at e
      cases e
    · exact (r.own i a h).2.2 z
  · rcases (hB a).mp z with z | z
    · exact (g.gold a h).1 (.inl z)
    · exact (g.gold a h).1 (.inr (.inl z))
  · rw [hG, h0]
    rcases (g.gold a h).2 with q | q
    · exact (r.gold a q).2
    · exact .inr (r.newH0 q)
  · rw [h0] at h1
    rw [hG] at h2
    refine fr b u (r.frame b u h1 h2) fun z => ?_
    rcases (r.gold b z).2 with q | q
    · exact h2 q
    · rw [q] at h1
      cases h1
  · rcases (hB b).mp h with z | z
    · exact g.bok b (.inl z)
    · exact g.bok b (.inr (.inl z))
  · rw [hG] at h
    obtain ⟨u, e⟩ := r.gok b h
    by_cases hd : b ∈ dom s.Γ
    · exact g.gok b hd
    · exact ⟨u, fr b u e hd⟩
  · exact same_hid fun b u n h => ⟨fun z => by
      rcases z with z | z | z
      · exact n (.inl z)
      · exact nd b u h (fun z => n (.inr (.inl z))) z
      · exact n (.inr (.inr z)), fr b u h fun z => n (.inr (.inl z))⟩
  · exact same_hid fun b u n h => ⟨fun z => by
      rcases z with z | z
      · exact n (.inl z)
      · exact nd b u h (fun z => n (.inr z)) z, fr b u h fun z => n (.inr z)⟩
theorem GOk.drop {K : PySem.W.Frag} {Z : Zf} {a : Addr} {H : Hp} {Γ : Gam} (g : GOk K (Z.add a) H Γ) : GOk K Z H Γ := by
  have sub : Same (hid H (mutG (Z.add a) Γ)) (hid H (mutG Z Γ)) := same_hid fun b u n h => ⟨fun z => n (z.elim (fun z => .inl (.inr z)) .inr), h⟩
  exact ⟨fun a ds h => (g.gam a ds h).imp fun vs q => ⟨q.1, Reps.mono sub _ _ q.2⟩, g.gnd, fun b h => ⟨fun z => (g.gold b h).1 (.inr z), (g.gold b h).2⟩, g.frame, fun b h => g.bok b (.inr h), g.gok⟩
theorem GOk.bcong {K : PySem.W.Frag} {H0 : Hp} {G0 : List Addr} {B B' : Addr → Prop} {H : Hp} {Γ : Gam} (e : ∀ b, B b ↔ B' b) (g : GOk K ⟨H0, G0, B⟩ H Γ) : GOk K ⟨H0, G0, B'⟩ H Γ := by
  have q : B = B' := funext fun b => propext (e b)
  subst q
  exact g
end
def RD (Q : D → DSt → Prop) (ρ : List Sl) : R → Gam → Prop
  | .val d, Γ => Q d ⟨ρ, Γ⟩
  | .lst ds, Γ => Q (.lst ds) ⟨ρ, Γ⟩
  | .dct ds, Γ => Q (.dct ds) ⟨ρ, Γ⟩
def RDs (Q : List D → DSt → Prop) (ρ : List Sl) : R → Gam → Prop
  | .lst ds, Γ => Q ds ⟨ρ, Γ⟩
  | _, _ => False
def RDk (Q : List (Key × D) → DSt → Prop) (ρ : List Sl) : R → Gam → Prop
  | .dct ds, Γ => Q ds ⟨ρ, Γ⟩
  | _, _ => False
/-- f(e, ..): its value; its list, new; its dict, new -/
def dFn (sp : DSp) (dd : List D) (t : DTs) : DT := fun E s Q => t E s fun ds s1 => sp (fun x Γ => E x ⟨s1.ρ, Γ⟩) (ds ++ dd) s1.Γ (RD Q s1.ρ)
def dFnF (sp : DSp) (dd : List D) (t : DTs) : DTs := fun E s Q => t E s fun ds s1 => sp (fun x Γ => E x ⟨s1.ρ, Γ⟩) (ds ++ dd) s1.Γ (RDs Q s1.ρ)
def dFnK (sp : DSp) (dd : List D) (t : DTs) : DTk := fun E s Q => t E s fun ds s1 => sp (fun x Γ => E x ⟨s1.ρ, Γ⟩) (ds ++ dd) s1.Γ (RDk Q s1.ρ)
section
variable {X : Cx} {Z : Zf} {k : Nat} {f : Addr} {fd : FuncData} {ps : List Str} {sp : DSp} {dvs : List V} {ds : List Value} {dd : List D} {x : Str} {p pos : Pos} {e : Expr} {es : List Expr} {t : DTs}
theorem f_or {p : Prop} : p ↔ (False ∨ p) := ⟨.inr, fun z => z.elim False.elim id⟩
theorem frz_G {a : Addr} {Z : Zf} {Γ : Gam} {H : Hp} : Same (hid H (mutG (Z.add a) Γ)) (hid H (mutG Z Γ)) := same_hid fun b u n h => ⟨fun z => n (z.elim (fun z => .inl (.inr z)) .inr), h⟩
/-- what a call asks, at the values -/
theorem fn_weak {W : WX} {E : DE'} {σ : St} {H : Hp} {s : DSt} {o : Own} {Q : VK} {Qd : R → Gam → Prop} {ad : List D} {vs : List V} (ek : EOk X.K Z E W) (sr : SR X.K Z σ H s o) (ra : Reps X.K (S1 Z H s o) ad vs)
    (len : ad.length = ps.length) (q : sp (fun x Γ => E x ⟨s.ρ, Γ⟩) ad s.Γ Qd) (hQ : ∀ r Γ' v H', Qd r Γ' → RetOk X.K (callZ Z H s o) H' Γ' v r → Q v H') : spD X.K ps.length sp vs H Q (WE W σ) := by
  obtain ⟨g, sub⟩ := sr.enter
  refine ⟨callZ Z H s o, ad, s.Γ, _, Qd, rfl, rfl, g, Reps.mono sub _ _ ra, len, q, hQ, fun y Γ' cls dd H' hx g' xr => ?_⟩
  obtain ⟨a1, a2, a3, a4⟩ := sr.leave (Zn := Z) (Pn := fun _ => False) (GOk.bcong (fun b => f_or) g') rfl rfl (fun b => f_or) fun _ z => z.elim
  exact ek y _ cls dd σ H' o hx a1 (XRep.mono' (Same.trans (same_hid fun b u n h => ⟨fun z => n (z.imp (fun z => z.elim False.elim id) id), h⟩) a4) xr)
theorem callF_E {H : Hp} {s : DSt} {o : Own} {σ : St} {v : V} {H' : Hp} {r : R} {Γ' : Gam} {Q : D → DSt → Prop} (sr : SR X.K Z σ H s o) (q : RD Q s.ρ r Γ') (ok : RetOk X.K (callZ Z H s o) H' Γ' v r) : ∃ d s', Q d s' ∧ SR X.K Z σ H' s' o ∧ Stp Z H s o H' s' o ∧ Rep X.K (S1 Z H' s' o) d v := by
  have base : GOk X.K (callZ Z H s o) H' Γ' → _ := fun g => sr.leave (Zn := Z) (Pn := fun _ => False) (GOk.bcong (fun b => f_or) g) rfl rfl (fun b => f_or) fun _ z => z.elim
  have cong : Same (hid H' (mutG (callZ Z H s o) Γ')) (hid H' (mutG ⟨H, dom s.Γ, fun b => False ∨ callB Z o b⟩ Γ')) := same_hid fun b u n h => ⟨fun z => n (z.imp (fun z => z.elim False.elim id) id), h⟩
  cases r with
  | val d =>
    obtain ⟨g, rd⟩ := ok
    obtain ⟨a1, a2, a3, a4⟩ := base g
    exact ⟨d, _, q, a1, a3, Rep.mono (cong.trans a4) _ _ rd⟩
  | lst ds =>
    obtain ⟨a, vs, rfl, g, n1, n2, e, rd⟩ := ok
    obtain ⟨a1, a2, a3, a4⟩ := base g.drop
    exact ⟨.lst ds, _, q, a1, a3, Rep.mono (cong.trans a4) _ _ ⟨a, vs, rfl, hid_some.mpr ⟨n2, e⟩, Reps.mono frz_G _ _ rd⟩⟩
  | dct ds =>
    obtain ⟨a, vs, rfl, g, n1, n2, e, rd⟩ := ok
    obtain ⟨a1, a2, a3, a4⟩ := base g.drop
    exact ⟨.dct ds, _, q, a1, a3, Rep.mono (cong.trans a4) _ _ ⟨a, vs, rfl, hid_some.mpr ⟨n2, e⟩, RepK.mono frz_G _ _ rd⟩⟩
theorem callF_F {H : Hp} {s : DSt} {o : Own} {σ : St} {v : V} {H' : Hp} {r : R} {Γ' : Gam} {Q : List D → DSt → Prop} (sr : SR X.K Z σ H s o) (q : RDs Q s.ρ r Γ') (ok : RetOk X.K (callZ Z H s o) H' Γ' v r) :
    ∃ ds s' a vs, Q ds s' ∧ v = .ref a ∧ SR X.K (Z.add a) σ H' s' o ∧ Stp Z H s o H' s' o ∧ H a = none ∧ H' a = some (.lst vs) ∧ ¬ mut1 Z s' o a ∧ Reps X.K (S1 (Z.add a) H' s' o) ds vs := by
  cases r with
  | lst ds =>
    obtain ⟨a, vs, rfl, g, n1, n2, e, rd⟩ := ok
    obtain ⟨a1, a2, a3, a4⟩ := sr.leave (Zn := Z.add a) (Pn := fun b => b = a) g rfl rfl (fun b => Iff.rfl) fun b z => by rw [z]; exact n1
    refine ⟨ds, _, a, vs, q, rfl, a1, a3, n1, e, fun z => ?_, Reps.mono a4 _ _ rd⟩
    rcases z with z | z | z
    · exact n2 (.inl (.inl z))
    · exact n2 (.inr z)
    · exact n2 (.inl (.inr z))
  | _ => exact q.elim
theorem callF_K {H : Hp} {s : DSt} {o : Own} {σ : St} {v : V} {H' : Hp} {r : R} {Γ' : Gam} {Q : List (Key × D) → DSt → Prop} (sr : SR X.K Z σ H s o) (q : RDk Q s.ρ r Γ') (ok : RetOk X.K (callZ Z H s o) H' Γ' v r) :
    ∃ ds s' a vs, Q ds s' ∧ v = .ref a ∧ SR X.K (Z.add a) σ H' s' o ∧ Stp Z H s o H' s' o ∧ H a = none ∧ H' a = some (.dK vs) ∧ ¬ mut1 Z s' o a ∧ RepK X.K (S1 (Z.add a) H' s' o) ds vs := by
  cases r with
  | dct ds =>
    obtain ⟨a, vs, rfl, g, n1, n2, e, rd⟩ := ok
    obtain ⟨a1, a2, a3, a4⟩ := sr.leave (Zn := Z.add a) (Pn := fun b => b = a) g rfl rfl (fun b => Iff.rfl) fun b z => by rw [z]; exact n1
    refine ⟨ds, _, a, vs, q, rfl, a1, a3, n1, e, fun z => ?_, RepK.mono a4 _ _ rd⟩
    rcases z with z | z | z
    · exact n2 (.inl (.inl z))
    · exact n2 (.inr z)
    · exact n2 (.inl (.inr z))
  | _ => exact q.elim
/-- the facts of a call of a def by its name -/
structure Calls (X : Cx) (k : Nat) (x : Str) (f : Addr) (fd : FuncData) (ps : List Str) (sp : DSp) (dd : List D) : Prop where
  F : FnD X.prog X.w X.K X.mg X.base k f fd ps sp
  gd : X.A.guards = some []
  hr : Room k X.A
  hg : Gl X x
  hm : X.mg x = some (.ref f)
  hk : PySem.W.keepIn X.K (.ref f) = true
  hb : ∃ (ds : List Value) (dvs : List V), Binds X.K fd ps ds ∧ Vals dvs ds ∧ ∀ S, Reps X.K S dd dvs
  hdb : (x == ("__debug__" : Str)) = false
def dLen (n : Nat) (t : DTs) : DTs := fun E s Q => t E s fun ds s1 => ds.length = n ∧ Q ds s1
theorem Mono.fn (m : sp.Mono) (mt : Mono t) : Mono (dFn sp dd (dLen (ps.length - dd.length) t)) := fun E s Q Q' h q => mt _ _ _ _ (fun ds s1 ⟨l, z⟩ => ⟨l, m _ _ _ _ _ (fun r g z => by
  cases r with
  | val d => exact h _ _ z
  | lst d => exact h _ _ z
  | dct d => exact h _ _ z) z⟩) q
theorem de_call (c : Calls X k x f fd ps sp dd) (ha : DA X Z (e :: es) t) (hl : dd.length ≤ ps.length) (he : starEach (e :: es) X.env = (false, eval e X.env) :: starEach es X.env) (hpl : (backTo pos (starEach es X.env)).any (·.1) = false) :
    DE X Z (.Call (.Name x p) (e :: es) [] pos) (dFn sp dd (dLen (ps.length - dd.length) t)) := by
  obtain ⟨ds, dvs, hb, hd, hdd⟩ := c.hb
  refine ⟨.fn c.F.mono ha.mono, fun E W tk ek => PE.weak (pe_callG (E := WE W) c.F.ok c.gd c.hr c.hg c.hm c.hk hb hd (passAt tk) (ha.run E W tk ek) c.hdb he hpl) fun σ H Q ⟨s, o, sr, q⟩ => ?_⟩
  refine ⟨s, o, sr, ha.mono _ _ _ _ (fun ad s1 ⟨l, z⟩ vs H1 o1 sr1 st1 rv => ?_) q⟩
  refine fn_weak ek sr1 (rv.app (hdd _)) (by rw [List.length_append, l]; omega) z fun r Γ' v H' qr ok => ?_
  obtain ⟨d, s', q', a1, a2, a3⟩ := callF_E sr1 qr ok
  exact q' v H' o1 a1 (st1.trans a2) a3
theorem df_call (c : Calls X k x f fd ps sp dd) (ha : DA X Z (e :: es) t) (hl : dd.length ≤ ps.length) (he : starEach (e :: es) X.env = (false, eval e X.env) :: starEach es X.env) (hpl : (backTo pos (starEach es X.env)).any (·.1) = false) :
    DF X Z (.Call (.Name x p) (e :: es) [] pos) (dFnF sp dd (dLen (ps.length - dd.length) t)) := by
  obtain ⟨ds, dvs, hb, hd, hdd⟩ := c.hb
  refine ⟨fun E s Q Q' h q => ha.mono _ _ _ _ (fun ds s1 ⟨l, z⟩ => ⟨l, c.F.mono _ _ _ _ _ (fun r g z => by
    cases r with
    | lst d => exact h _ _ z
    | _ => exact z.elim) z⟩) q, fun E W tk ek => PE.weak (pe_callG (E := WE W) c.F.ok c.gd c.hr c.hg c.hm c.hk hb hd (passAt tk) (ha.run E W tk ek) c.hdb he hpl) fun σ H Q ⟨s, o, sr, q⟩ => ?_⟩
  refine ⟨s, o, sr, ha.mono _ _ _ _ (fun ad s1 ⟨l, z⟩ vs H1 o1 sr1 st1 rv => ?_) q⟩
  refine fn_weak ek sr1 (rv.app (hdd _)) (by rw [List.length_append, l]; omega) z fun r Γ' v H' qr ok => ?_
  obtain ⟨ds', s', a, ws, q', rfl, a1, a2, a3, a4, a5, a6⟩ := callF_F sr1 qr ok
  exact q' a ws H' o1 a1 (st1.trans a2) (st1.new _ a3) a4 a5 a6
theorem dk_call (c : Calls X k x f fd ps sp dd) (ha : DA X Z (e :: es) t) (hl : dd.length ≤ ps.length) (he : starEach (e :: es) X.env = (false, eval e X.env) :: starEach es X.env) (hpl : (backTo pos (starEach es X.env)).any (·.1) = false) :
    DK X Z (.Call (.Name x p) (e :: es) [] pos) (dFnK sp dd (dLen (ps.length - dd.length) t)) := by
  obtain ⟨ds, dvs, hb, hd, hdd⟩ := c.hb
  refine ⟨fun E s Q Q' h q => ha.mono _ _ _ _ (fun ds s1 ⟨l, z⟩ => ⟨l, c.F.mono _ _ _ _ _ (fun r g z => by
    cases r with
    | dct d => exact h _ _ z
    | _ => exact z.elim) z⟩) q, fun E W tk ek => PE.weak (pe_callG (E := WE W) c.F.ok c.gd c.hr c.hg c.hm c.hk hb hd (passAt tk) (ha.run E W tk ek) c.hdb he hpl) fun σ H Q ⟨s, o, sr, q⟩ => ?_⟩
  refine ⟨s, o, sr, ha.mono _ _ _ _ (fun ad s1 ⟨l, z⟩ vs H1 o1 sr1 st1 rv => ?_) q⟩
  refine fn_weak ek sr1 (rv.app (hdd _)) (by rw [List.length_append, l]; omega) z fun r Γ' v H' qr ok => ?_
  obtain ⟨ds', s', a, ws, q', rfl, a1, a2, a3, a4, a5, a6⟩ := callF_K sr1 qr ok
  exact q' a ws H' o1 a1 (st1.trans a2) (st1.new _ a3) a4 a5 a6
/-- f() -/
def dNil0 : DTs := dLen 0 dNil
theorem de_call0 (c : Calls X k x f fd ps sp dd) (hl : dd.length = ps.length) : DE X Z (.Call (.Name x p) [] [] pos) (dFn sp dd dNil) := by
  obtain ⟨ds, dvs, hb, hd, hdd⟩ := c.hb
  refine ⟨fun E s Q Q' h q => c.F.mono _ _ _ _ _ (fun r g z => by
    cases r with
    | val d => exact h _ _ z
    | lst d => exact h _ _ z
    | dct d => exact h _ _ z) q, fun E W tk ek => PE.weak (pe_callG0 (E := WE W) c.F.ok c.gd c.hr c.hg c.hm c.hk hb hd (passAt tk) c.hdb) fun σ H Q ⟨s, o, sr, q⟩ => ?_⟩
  refine fn_weak ek sr (hdd _) hl q fun r Γ' v H' qr ok => ?_
  obtain ⟨d, s', q', a1, a2, a3⟩ := callF_E sr qr ok
  exact q' v H' o a1 a2 a3
end
end DL

set_option Elab.async false
set_option linter.all false
set_option maxRecDepth 100000
namespace DL
open PySem PySem.Spec L2
open PyProof.Rows hiding St

/-! ### for -/
def forD (T : Tg) (body : DS) (E : DE') (D : DEnds) : List DL.D → DSt → Prop
  | [], s => D.nx s
  | d :: ds, s => T.put d s.ρ fun ρ => body E { D with nx := forD T body E D ds, ct := forD T body E D ds, bk := D.nx } ⟨ρ, s.Γ⟩
theorem forD_mono {T : Tg} {body : DS} (m : MonoS body) {E : DE'} {D D' : DEnds} (h1 : ∀ s, D.nx s → D'.nx s) (h2 : ∀ r g, D.rt r g → D'.rt r g) : ∀ {ds : List DL.D} {s : DSt}, forD T body E D ds s → forD T body E D' ds s
  | [], _, q => h1 _ q
  | d :: ds, s, q => Tg.put_mono (fun ρ z => m _ _ { D with nx := forD T body E D ds, ct := forD T body E D ds, bk := D.nx } _ (fun s z => forD_mono m h1 h2 z) h2 h1 (fun s z => forD_mono m h1 h2 z) z) q
def sFor (T : Tg) (ti : DTs) (body : DS) : DS := fun E D s => ti E s fun ds s1 => forD T body E D ds s1
section
variable {X : Cx} {Z : Zf} {tg iter c : Expr} {body : List Stmt} {pos : Pos} {ti : DTs} {tb : DS} {tc : DTt}
theorem ds_for {T : Tg} (hp : PassesOwn (model X.prog X.w) X.A X.env X.xe) (hc : X.calm = true) (hi : DI X Z tg iter ti) (hg : PG X tg (T.rd X.K)) (hb : DPSs X Z body tb) (hs : ∀ x, foldedSetIterable iter X.env x = pure x) : DPS X Z (.For tg iter body [] pos) (sFor T ti tb) := by
  refine ⟨fun E s D D' h1 h2 h3 h4 q => hi.mono _ _ _ _ (fun ds s1 z => forD_mono hb.mono h1 h2 z) q, fun E W tk ek => PS.weak (ps_for hp hc (hi.run E W tk ek) hg (hb.run E W tk ek) hs) fun D σ H ⟨s, o, De, sr, q, ok⟩ => ?_⟩
  refine ⟨s, o, sr, hi.mono _ _ _ _ (fun ds s1 z J H1 o1 sr1 st1 iok => ?_) q⟩
  have ok1 := ok.step st1.s1
  refine ⟨fun i m σ' H' => m = ds.length - i ∧ i ≤ ds.length ∧ ∃ s2 o2, SR X.K Z σ' H' s2 o2 ∧ Same (S1 Z H1 s1 o1) (S1 Z H' s2 o2) ∧ forD T tb E De (ds.drop i) s2, ⟨ds.length, rfl, Nat.zero_le _, s1, o1, sr1, Same.refl _, z⟩, ?_⟩
  rintro i m σ' H' ⟨rfl, hi', s2, o2, sr2, e2, q2⟩
  by_cases hlt : i < ds.length
  · refine .inr ⟨iok.go i H' hlt (e2.trans hid_same), fun σ3 H3 => ∃ s3 o3, SR X.K Z σ3 H3 s3 o3 ∧ Same (S1 Z H1 s1 o1) (S1 Z H3 s3 o3) ∧ forD T tb E De (ds.drop (i + 1)) s3, fun σ3 H3 ⟨s3, o3, a, b, c⟩ => ⟨ds.length - (i + 1), by omega, rfl, hlt, s3, o3, a, b, c⟩, fun x H2 y => ?_⟩
    obtain ⟨d, hd, e1, rd⟩ := iok.yld i H' x H2 (mut1 Z s2 o2) hlt (fun b hb => sr2.mutH hb) e2 y
    have hdrop : ds.drop i = d :: ds.drop (i + 1) := by
      rw [List.drop_eq_getElem_cons hlt]
      rw [List.getElem?_eq_getElem hlt] at hd
      rw [Option.some.inj hd]
    rw [hdrop] at q2
    refine lc_turn.Tg_rd_mono (fun σ4 H4 h => ?_) (Tg.ok (sr2.alloc e1) rd q2)
    obtain ⟨rfl, ρ', o', r4, e4, _, q4⟩ := h
    have eA : Same (S1 Z H1 s1 o1) (S1 Z H4 ⟨ρ', s2.Γ⟩ o') := (e2.trans (same_alloc e1)).trans e4
    exact ⟨_, o', _, r4, q4, ⟨fun s5 σ5 H5 o5 z r5 e5 => ⟨s5, o5, r5, eA.trans e5, z⟩, fun s5 σ5 H5 o5 z r5 e5 => ok1.nx s5 σ5 H5 o5 z r5 (eA.trans e5), fun s5 σ5 H5 o5 z r5 e5 => ⟨s5, o5, r5, eA.trans e5, z⟩, ok1.rt⟩⟩
  · obtain rfl : i = ds.length := by omega
    rw [List.drop_length] at q2
    exact .inl ⟨iok.stop H' (e2.trans hid_same), ok1.nx s2 σ' H' o2 q2 sr2 e2⟩
/-! ### while -/
def whileD (c : DTt) (body : DS) (E : DE') (D : DEnds) : Nat → DSt → Prop
  | 0, _ => False
  | n + 1, s => c E s fun b s1 => if b = true then body E { D with nx := whileD c body E D n, ct := whileD c body E D n, bk := D.nx } s1 else D.nx s1
theorem whileD_mono {body : DS} (mc : Mono tc) (m : MonoS body) {E : DE'} {D D' : DEnds} (h1 : ∀ s, D.nx s → D'.nx s) (h2 : ∀ r g, D.rt r g → D'.rt r g) : ∀ {n : Nat} {s : DSt}, whileD tc body E D n s → whileD tc body E D' n s
  | 0, _, q => q.elim
  | n + 1, s, q => mc _ _ _ _ (fun b s1 z => by
    cases b with
    | true => exact m _ _ { D with nx := whileD tc body E D n, ct := whileD tc body E D n, bk := D.nx } _ (fun s z => whileD_mono mc m h1 h2 z) h2 h1 (fun s z => whileD_mono mc m h1 h2 z) z
    | false => exact h1 _ z) q
def sWhile (c : DTt) (body : DS) : DS := fun E D s => ∃ n, whileD c body E D n s
theorem ds_while (hp : PassesOwn (model X.prog X.w) X.A X.env X.xe) (hc : DTe X Z c tc) (hb : DPSs X Z body tb) : DPS X Z (.While c body [] pos) (sWhile tc tb) := by
  refine ⟨fun E s D D' h1 h2 h3 h4 ⟨n, q⟩ => ⟨n, whileD_mono hc.mono hb.mono h1 h2 q⟩, fun E W tk ek => PS.weak (ps_while hp (hc.run E W tk ek) (hb.run E W tk ek)) fun D σ H ⟨s, o, De, sr, ⟨n, q⟩, ok⟩ => ?_⟩
  refine ⟨fun m σ' H' => ∃ s2 o2, SR X.K Z σ' H' s2 o2 ∧ Same (S1 Z H s o) (S1 Z H' s2 o2) ∧ whileD tc tb E De m s2, ⟨n, s, o, sr, Same.refl _, q⟩, ?_⟩
  rintro m σ' H' ⟨s2, o2, sr2, e2, q2⟩
  cases m with
  | zero => exact q2.elim
  | succ m =>
    refine ⟨s2, o2, sr2, hc.mono _ _ _ _ (fun b s3 z H3 o3 sr3 st3 => ?_) q2⟩
    have eA := e2.trans st3.s1
    cases b with
    | true =>
      exact ⟨fun σ4 H4 => ∃ s4 o4, SR X.K Z σ4 H4 s4 o4 ∧ Same (S1 Z H s o) (S1 Z H4 s4 o4) ∧ whileD tc tb E De m s4, fun σ4 H4 h => ⟨m, Nat.lt_succ_self m, h⟩, s3, o3, _, sr3, z, ⟨fun s5 σ5 H5 o5 z r5 e5 => ⟨s5, o5, r5, eA.trans e5, z⟩, fun s5 σ5 H5 o5 z r5 e5 => ok.nx s5 σ5 H5 o5 z r5 (eA.trans e5), fun s5 σ5 H5 o5 z r5 e5 => ⟨s5, o5, r5, eA.trans e5, z⟩, ok.rt⟩⟩
    | false => exact ok.nx s3 σ' H3 o3 z sr3 eA
end

/-! ### x = e: e's new list is shared from then on -/
section
variable {K : PySem.W.Frag} {Z : Zf} {σ : St} {H : Hp} {s : DSt} {o : Own} {a : Addr} {ds : List D} {vs : List V}
theorem SR.share (r : SR K (Z.add a) σ H s o) (h0 : Z.H0 a = none) (ha : H a = some (.lst vs)) (hm : ¬ mut1 Z s o a) (rv : Reps K (S1 (Z.add a) H s o) ds vs) :
    SR K Z σ H ⟨s.ρ, (a, ds) :: s.Γ⟩ o ∧ Same (S1 (Z.add a) H s o) (S1 Z H ⟨s.ρ, (a, ds) :: s.Γ⟩ o) := by
  have sub : Same (S1 (Z.add a) H s o) (S1 Z H ⟨s.ρ, (a, ds) :: s.Γ⟩ o) := same_hid fun b u n h => ⟨fun q => n (by
    rcases q with q | q | q
    · exact .inl (.inr q)
    · rcases List.mem_cons.mp q with q | q
      · exact .inl (.inl q)
      · exact .inr (.inl q)
    · exact .inr (.inr q)), h⟩
  have nd : a ∉ dom s.Γ := fun z => hm (.inr (.inl z))
  refine ⟨⟨r.len, fun i => (r.slot i).mono sub fun _ _ _ h => h, r.inj, fun i b h => ⟨(r.own i b h).1, fun z => ?_, fun z => (r.own i b h).2.2 (.inr z)⟩, fun b es h => ?_, List.nodup_cons.mpr ⟨nd, r.gnd⟩, fun b h => ?_, r.frame, fun b h => r.bok b (.inr h), r.gok⟩, sub⟩
  · rcases List.mem_cons.mp z with z | z
    · have z' : b = a := z
      rw [z'] at h
      exact hm (.inr (.inr ⟨i, h⟩))
    · exact (r.own i b h).2.1 z
  · rcases List.mem_cons.mp h with h | h
    · cases h
      exact ⟨vs, ha, Reps.mono sub _ _ rv⟩
    · exact (r.gam b es h).imp fun vs q => ⟨q.1, Reps.mono sub _ _ q.2⟩
  · rcases List.mem_cons.mp h with h | h
    · have h' : b = a := h
      rw [h']
      exact ⟨fun z => hm (.inl z), .inr h0⟩
    · exact ⟨fun z => (r.gold b h).1 (.inr z), (r.gold b h).2⟩
end
section
variable {X : Cx} {Z : Zf} {e : Expr} {pos : Pos} {tf : DTs}
def sShare (i : Nat) (t : DTs) : DS := fun E D s => t E s fun ds s' => i < s'.ρ.length ∧ ∀ a, a ∉ dom s'.Γ → D.nx ⟨s'.ρ.set i (.val (.ref a)), (a, ds) :: s'.Γ⟩
theorem ds_share {i : Nat} {x : Str} {pos' : Pos} (hN : X.N.Nodup) (hi : X.N[i]? = some x) (hx : Loc X.env.scope x) (he : DF X Z e tf) (hs : swapsWith e (some (.Name x pos')) pos.line X.env = pure false)
    (hf : X.fn x = true ∨ X.env.scope.names.lookup x = some .local) : DPS X Z (.Assign [.Name x pos'] e pos) (sShare i tf) := by
  refine ⟨fun E s D D' h1 h2 h3 h4 q => he.mono _ _ _ _ (fun d s' z => ⟨z.1, fun a n => h1 _ (z.2 a n)⟩) q, fun E W tk ek => PS.weak (ps_set hN hi hx (he.run E W tk ek) hs hf) fun D σ H ⟨s, o, De, sr, q, ok⟩ => ?_⟩
  refine ⟨s, o, sr, he.mono _ _ _ _ (fun d s' z a vs H' o' sr' st n1 n2 n3 rv => ?_) q⟩
  obtain ⟨a1, a2⟩ := sr'.share (sr.newH0 n1) n2 n3 rv
  obtain ⟨b1, b2⟩ := a1.put (i := i) (d := .ref a) (v := .ref a) z.1 rfl
  exact ok.nx _ _ _ _ (z.2 a fun w => n3 (.inr (.inl w))) b1 ((fresh_add st.s1 n1).trans (a2.trans b2))
end

/-! ### x[k] = e -/
section
variable {X : Cx} {Z : Zf} {e tg r k : Expr} {pos ppos : Pos} {te tk : DT} {i : Nat}
/-- x a shared list -/
def sIxG (i : Nat) (tk te : DT) : DS := fun E D s => te E s fun d s1 => ∃ a, s1.ρ[i]? = some (.val (.ref a)) ∧ tk E s1 fun kd s2 => ∃ n ds j, kd = .int n ∧ s2.Γ.lookup a = some ds ∧ ixN ds.length n = some j ∧ D.nx ⟨s2.ρ, gset s2.Γ a (ds.set j d)⟩
theorem ds_ixG (hr : PE X r (tVar i)) (hk : DE X Z k tk) (he : DE X Z e te) (ha : ∀ v, assign (.Subscript r k ppos) X.env v = (do
      let ov ← holding [v] (eval r X.env)
      let iv ← holding [v, ov] (eval k X.env)
      standAt ppos
      holding [v, ov, iv] (setItem ov iv v)
      release [v, ov, iv] [])) (hs : swapsWithSole [.Subscript r k ppos] e pos.line X.env = pure false) (hw : swappedStores [.Subscript r k ppos] e X.env = pure none) (h1 : (assignEach [.Subscript r k ppos] X.env).map (·.2) = [assign (.Subscript r k ppos) X.env]) :
    DPS X Z (.Assign [.Subscript r k ppos] e pos) (sIxG i tk te) := by
  refine ⟨fun E s D D' h1 h2 h3 h4 q => he.mono _ _ _ _ (fun d s' ⟨a, ha, z⟩ => ⟨a, ha, hk.mono _ _ _ _ (fun kd s2 ⟨n, ds, j, e1, e2, e3, z⟩ => ⟨n, ds, j, e1, e2, e3, h1 _ z⟩) z⟩) q, fun E W tk' ek => PS.weak (ps_asg (he.run E W tk' ek) (pg_sub hr (hk.run E W tk' ek) set_list ha) hs hw h1) fun D σ H ⟨s, o, De, sr, q, ok⟩ => ?_⟩
  refine ⟨s, o, sr, he.mono _ _ _ _ (fun d s1 ⟨a, hx, z⟩ v H1 o1 sr1 st1 rv => ?_) q⟩
  have sl := sr1.slot i
  rw [hx] at sl
  obtain ⟨_, v', e1, e2⟩ := sl
  cases (show _ = _ from e2)
  refine ⟨.ref a, e1, s1, o1, sr1, hk.mono _ _ _ _ (fun kd s2 ⟨n, ds, j, e1, e2, e3, z⟩ kv H2 o2 sr2 st2 rk => ?_) z⟩
  subst e1
  cases (show _ = _ from rk)
  have hm := lookup_in e2
  obtain ⟨vs, hv, rvs⟩ := sr2.gam a ds hm
  obtain ⟨p1, p2⟩ := sr2.writeG hm (rvs.set j (Rep.mono st2.s1 _ _ rv))
  exact ⟨a, vs, n, j, rfl, rfl, hv, by rw [← rvs.len]; exact e3, ok.nx _ _ _ _ z p1 ((st1.trans st2).s1.trans p2)⟩
/-- x an own list -/
def sIxO (i : Nat) (tk te : DT) : DS := fun E D s => te E s fun d s1 => (∃ ds, s1.ρ[i]? = some (.lst ds)) ∧ tk E s1 fun kd s2 => ∃ n ds j, kd = .int n ∧ s2.ρ[i]? = some (.lst ds) ∧ ixN ds.length n = some j ∧ D.nx ⟨s2.ρ.set i (.lst (ds.set j d)), s2.Γ⟩
theorem ds_ixO {u : TE} (hr : PE X r (tVar i)) (hk : DE X Z k tk) (he : DE X Z e te) (ha : ∀ v, assign (.Subscript r k ppos) X.env v = (do
      let ov ← holding [v] (eval r X.env)
      let iv ← holding [v, ov] (eval k X.env)
      standAt ppos
      holding [v, ov, iv] (setItem ov iv v)
      release [v, ov, iv] [])) (hs : swapsWithSole [.Subscript r k ppos] e pos.line X.env = pure false) (hw : swappedStores [.Subscript r k ppos] e X.env = pure none) (h1 : (assignEach [.Subscript r k ppos] X.env).map (·.2) = [assign (.Subscript r k ppos) X.env]) :
    DPS X Z (.Assign [.Subscript r k ppos] e pos) (sIxO i tk te) := by
  refine ⟨fun E s D D' h1 h2 h3 h4 q => he.mono _ _ _ _ (fun d s' ⟨ha, z⟩ => ⟨ha, hk.mono _ _ _ _ (fun kd s2 ⟨n, ds, j, e1, e2, e3, z⟩ => ⟨n, ds, j, e1, e2, e3, h1 _ z⟩) z⟩) q, fun E W tk' ek => PS.weak (ps_asg (he.run E W tk' ek) (pg_sub hr (hk.run E W tk' ek) set_list ha) hs hw h1) fun D σ H ⟨s, o, De, sr, q, ok⟩ => ?_⟩
  refine ⟨s, o, sr, he.mono _ _ _ _ (fun d s1 ⟨⟨ds0, hx⟩, z⟩ v H1 o1 sr1 st1 rv => ?_) q⟩
  have sl := sr1.slot i
  rw [hx] at sl
  obtain ⟨a, vs, e0, e1, _⟩ := sl
  refine ⟨.ref a, e1, s1, o1, sr1, hk.mono _ _ _ _ (fun kd s2 ⟨n, ds, j, f1, f2, f3, z⟩ kv H2 o2 sr2 st2 rk => ?_) z⟩
  subst f1
  cases (show _ = _ from rk)
  have sl := sr2.slot i
  rw [f2] at sl
  obtain ⟨a', vs, g0, g1, g2, g3⟩ := sl
  rw [e1] at g1
  cases g1
  obtain ⟨p1, p2⟩ := sr2.writeO g0 f2 (g3.set j (Rep.mono st2.s1 _ _ rv))
  exact ⟨a, vs, n, j, rfl, rfl, g2, by rw [← g3.len]; exact f3, ok.nx _ _ _ _ z p1 ((st1.trans st2).s1.trans p2)⟩
end
end DL

set_option Elab.async false
set_option linter.all false
set_option maxRecDepth 100000
namespace DL
open PySem PySem.Spec L2
open PyProof.Rows hiding St

/-! ### what a module's name stands for -/
def CK (K : PySem.W.Frag) (d : D) (u : Value) : Prop := ∃ v, RelV v u ∧ ∀ S, Rep K S d v
def itemsK (K : PySem.W.Frag) (c : String) (u : Value) : Option (List Value) := match u with
  | .ref a => (match K.lookup a with
    | some ⟨.type t, none, .seq its _, _⟩ => if t = c ∧ its.size ≤ sizeLine then some its.toList else none
    | _ => none)
  | _ => none
mutual
def ckB (K : PySem.W.Frag) : D → Value → Bool
  | .non, u => (match u with | .none => true | _ => false)
  | .bl b, u => (match u with | .bool c => b == c | _ => false)
  | .int i, u => (match u with | .int j _ => decide (i = j) | _ => false)
  | .str x, u => (match u with | .str y _ => decide (x = y) | _ => false)
  | .ty n, u => (match u with | .type m => decide (n = m) | _ => false)
  | .tup ds, u => (match itemsK K "tuple" u with | some us => ckBs K ds us | none => false)
  | .sq ds, u => (match itemsK K "list" u with | some us => ckBs K ds us | none => false)
  | _, _ => false
def ckBs (K : PySem.W.Frag) : List D → List Value → Bool
  | [], [] => true
  | d :: ds, u :: us => ckB K d u && ckBs K ds us
  | _, _ => false
end
theorem itemsK_ok {K : PySem.W.Frag} {c : String} {u : Value} {us : List Value} (h : itemsK K c u = some us) : ∃ a o its n, u = .ref a ∧ K.lookup a = some o ∧ o.cls = .type c ∧ o.dict = none ∧ o.data = .seq its n ∧ its.size ≤ sizeLine ∧ us = its.toList := by
  unfold itemsK at h
  split at h
  · split at h
    · rename_i a _ t its n sl e
      split at h
      · rename_i hc
        cases h
        obtain ⟨rfl, hz⟩ := hc
        exact ⟨a, _, its, n, rfl, e, rfl, rfl, rfl, hz, rfl⟩
      · cases h
    · cases h
  · cases h
mutual
theorem ckB_ok {K : PySem.W.Frag} : ∀ (d : D) (u : Value), ckB K d u = true → CK K d u
  | .non, u, h => by
    unfold ckB at h
    split at h
    · exact ⟨.non, rfl, fun _ => rfl⟩
    · cases h
  | .bl b, u, h => by
    unfold ckB at h
    split at h
    · rw [eq_of_beq h]
      exact ⟨.bl _, rfl, fun _ => rfl⟩
    · cases h
  | .int i, u, h => by
    unfold ckB at h
    split at h
    · rw [of_decide_eq_true h]
      exact ⟨.int _, ⟨_, rfl⟩, fun _ => rfl⟩
    · cases h
  | .str i, u, h => by
    unfold ckB at h
    split at h
    · rw [of_decide_eq_true h]
      exact ⟨.str _, ⟨_, rfl⟩, fun _ => rfl⟩
    · cases h
  | .ty i, u, h => by
    unfold ckB at h
    split at h
    · rw [of_decide_eq_true h]
      exact ⟨.ty _, rfl, fun _ => rfl⟩
    · cases h
  | .tup ds, u, h => by
    unfold ckB at h
    split at h
    · rename_i us e
      obtain ⟨a, o, its, n, rfl, h1, h2, h3, h4, h5, rfl⟩ := itemsK_ok e
      obtain ⟨vs, rv, hr⟩ := ckBs_ok ds _ h
      exact ⟨.ref a, rfl, fun S => ⟨a, vs, rfl, .inr ⟨o, its, n, h1, h2, h4, h5, rv⟩, hr S⟩⟩
    · cases h
  | .sq ds, u, h => by
    unfold ckB at h
    split at h
    · rename_i us e
      obtain ⟨a, o, its, n, rfl, h1, h2, h3, h4, h5, rfl⟩ := itemsK_ok e
      obtain ⟨vs, rv, hr⟩ := ckBs_ok ds _ h
      exact ⟨.ref a, rfl, fun S => ⟨a, vs, rfl, .inr ⟨o, its, n, h1, h2, h3, h4, h5, rv⟩, hr S⟩⟩
    · cases h
  | .ref _, _, h => by cases h
  | .lst _, _, h => by cases h
  | .dct _, _, h => by cases h
theorem ckBs_ok {K : PySem.W.Frag} : ∀ (ds : List D) (us : List Value), ckBs K ds us = true → ∃ vs, Vals vs us ∧ ∀ S, Reps K S ds vs
  | [], [], _ => ⟨[], .nil, fun _ => rfl⟩
  | d :: ds, u :: us, h => by
    obtain ⟨h1, h2⟩ := Bool.and_eq_true_iff.mp (show (ckB K d u && ckBs K ds us) = true from h)
    obtain ⟨v, rv, hr⟩ := ckB_ok d u h1
    obtain ⟨vs, rvs, hrs⟩ := ckBs_ok ds us h2
    exact ⟨v :: vs, .cons rv rvs, fun S => ⟨v, vs, rfl, hr S, hrs S⟩⟩
  | [], _ :: _, h => by cases h
  | _ :: _, [], h => by cases h
end
section
variable {X : Cx} {Z : Zf} {x : Str} {pos p : Pos} {d : D} {u : Value}
theorem de_glob (hg : Gl X x) (hm : ∃ u, X.mg x = some u ∧ CK X.K d u) (hd : (x == ("__debug__" : Str)) = false) : DE X Z (.Name x pos) (dC d) := by
  obtain ⟨u, hm, v, r, hr⟩ := hm
  exact de_c (pe_glob hg hm r hd) hr
theorem de_ty {n : String} (hg : Gl X x) (hm : X.mg x = none) (hv : bootBuiltins x = some (.type n)) (hn : x ≠ "__name__") (hd : (x == ("__debug__" : Str)) = false) : DE X Z (.Name x pos) (dC (.ty n)) := de_c (v := .ty n) (pe_bltn (v := .ty n) hg hm hv rfl hn hd) fun _ => rfl
theorem de_int {i : Int} {j : Nat} : DE X Z (.Constant (.int i) j pos) (dC (.int i)) := de_c pe_int fun _ => rfl
theorem de_str {i : Str} {j : Nat} : DE X Z (.Constant (.str i) j pos) (dC (.str i)) := de_c pe_str fun _ => rfl
theorem de_bl {i : Bool} {j : Nat} : DE X Z (.Constant (.bool i) j pos) (dC (.bl i)) := de_c pe_bl fun _ => rfl
theorem de_non {j : Nat} : DE X Z (.Constant .none j pos) (dC .non) := de_c pe_non fun _ => rfl

/-! ### new lists -/
variable {a b : Expr} {ta tb : DT}
def pCat : D → D → (List D → Prop) → Prop := fun x y Q => match x with
  | .lst a => (match y with | .lst b => a.length + b.length ≤ sizeLine ∧ Q (a ++ b) | _ => False)
  | _ => False
theorem pCat_mono {x y : D} {Q Q' : List D → Prop} (h : ∀ d, Q d → Q' d) (q : pCat x y Q) : pCat x y Q' := by
  cases x with
  | lst a => cases y with
    | lst b => exact ⟨q.1, h _ q.2⟩
    | _ => exact q.elim
  | _ => exact q.elim
def dCat (ta tb : DT) : DTs := fun E s Q => ta E s fun x s1 => tb E s1 fun y s2 => pCat x y fun z => Q z s2
/-- a new list at p -/
theorem df_new {K : PySem.W.Frag} {σ : St} {H H2 : Hp} {s s2 : DSt} {o o2 : Own} {ds : List D} {vs : List V} {p : Addr} {Q : VK} (sr : SR K Z σ H2 s2 o2) (st : Stp Z H s o H2 s2 o2) (r : Reps K (S1 Z H2 s2 o2) ds vs) (np : H2 p = none)
    (z : ∀ a vs H' o', SR K (Z.add a) σ H' s2 o' → Stp Z H s o H' s2 o' → H a = none → H' a = some (.lst vs) → ¬ mut1 Z s2 o' a → Reps K (S1 (Z.add a) H' s2 o') ds vs → Q (.ref a) H') : Q (.ref p) (upd H2 p (.lst vs)) := by
  obtain ⟨a1, a2⟩ := sr.addNew (u := .lst vs) np
  exact z p vs _ o2 a1 (st.trans (.alloc (same_new np))) (st.new _ np) upd_same (sr.fresh np) (Reps.mono a2 _ _ r)
theorem df_cat (ha : DR X Z a ta) (hb : DR X Z b tb) : DF X Z (.BinOp a .Add b pos) (dCat ta tb) := by
  refine ⟨fun E s Q Q' h q => ha.mono _ _ _ _ (fun x s1 q => hb.mono _ _ _ _ (fun y s2 q => pCat_mono (fun d z => h _ _ z) q) q) q, fun E W tk ek => PE.weak (pe_op op_cat (ha.run E W tk ek) (hb.run E W tk ek)) fun σ H Q ⟨s, o, sr, q⟩ => ?_⟩
  refine ⟨s, o, sr, ha.mono _ _ _ _ (fun dx s1 hx x H1 o1 sr1 st1 rx => ⟨s1, o1, sr1, hb.mono _ _ _ _ (fun dy s2 hy y H2 o2 sr2 st2 ry => ?_) hx⟩) q⟩
  cases dx with
  | lst i => cases dy with
    | lst j =>
      obtain ⟨a, vs, rfl, h1, h2⟩ := rx.mono st2.s1 st2.s2
      obtain ⟨b, ws, rfl, h3, h4⟩ := ry
      exact ⟨a, b, vs, ws, rfl, rfl, at_hid h1, at_hid h3, by rw [← h2.len, ← h4.len]; exact hy.1, fun p np => df_new sr2 (st1.trans st2) (h2.app h4) np hy.2⟩
    | _ => exact hy.elim
  | _ => exact hy.elim
def pRepL : D → D → (List D → Prop) → Prop := fun x y Q => match x with
  | .lst a => (match y with | .int k => -(2 ^ 63) ≤ k ∧ k < 2 ^ 63 ∧ a.length * k.toNat ≤ sizeLine ∧ Q (List.replicate k.toNat a).flatten | _ => False)
  | _ => False
theorem pRepL_mono {x y : D} {Q Q' : List D → Prop} (h : ∀ d, Q d → Q' d) (q : pRepL x y Q) : pRepL x y Q' := by
  cases x with
  | lst a => cases y with
    | int b => exact ⟨q.1, q.2.1, q.2.2.1, h _ q.2.2.2⟩
    | _ => exact q.elim
  | _ => exact q.elim
def dRepL (ta tb : DT) : DTs := fun E s Q => ta E s fun x s1 => tb E s1 fun y s2 => pRepL x y fun z => Q z s2
theorem df_rep (ha : DR X Z a ta) (hb : DR X Z b tb) : DF X Z (.BinOp a .Mult b pos) (dRepL ta tb) := by
  refine ⟨fun E s Q Q' h q => ha.mono _ _ _ _ (fun x s1 q => hb.mono _ _ _ _ (fun y s2 q => pRepL_mono (fun d z => h _ _ z) q) q) q, fun E W tk ek => PE.weak (pe_op op_rep (ha.run E W tk ek) (hb.run E W tk ek)) fun σ H Q ⟨s, o, sr, q⟩ => ?_⟩
  refine ⟨s, o, sr, ha.mono _ _ _ _ (fun dx s1 hx x H1 o1 sr1 st1 rx => ⟨s1, o1, sr1, hb.mono _ _ _ _ (fun dy s2 hy y H2 o2 sr2 st2 ry => ?_) hx⟩) q⟩
  cases dx with
  | lst i => cases dy with
    | int j =>
      obtain ⟨a, vs, rfl, h1, h2⟩ := rx.mono st2.s1 st2.s2
      cases (show _ = _ from ry)
      exact ⟨a, j, vs, rfl, rfl, at_hid h1, hy.1, hy.2.1, by rw [← h2.len]; exact hy.2.2.1, fun p np => df_new sr2 (st1.trans st2) (h2.rep _) np hy.2.2.2⟩
    | _ => exact hy.elim
  | _ => exact hy.elim
/-- list(x) -/
def pListF : D → (List D → Prop) → Prop := fun x Q => match x with
  | .lst ds => Q ds
  | .tup ds => Q ds
  | .sq ds => Q ds
  | _ => False
theorem pListF_mono {x : D} {Q Q' : List D → Prop} (h : ∀ d, Q d → Q' d) (q : pListF x Q) : pListF x Q' := by
  cases x with
  | lst a => exact h _ q
  | tup a => exact h _ q
  | sq a => exact h _ q
  | _ => exact q.elim
def dListF (t : DTs) : DTs := fun E s Q => t E s fun ds s1 => ∃ x, ds = [x] ∧ pListF x fun z => Q z s1
theorem df_list {e : Expr} {t : DTs} (hg : Gl X "list") (hm : X.mg "list" = none) (hv : bootBuiltins "list" = some (.type "list")) (ha : DAR X Z [e] t)
    (he : starEach [e] X.env = (false, eval e X.env) :: starEach [] X.env) (hpl : (backTo pos (starEach [] X.env)).any (·.1) = false) : DF X Z (.Call (.Name "list" p) [e] [] pos) (dListF t) := by
  refine ⟨fun E s Q Q' h q => ha.mono _ _ _ _ (fun x s1 ⟨y, e, q⟩ => ⟨y, e, pListF_mono (fun d z => h _ _ z) q⟩) q, fun E W tk ek => PE.weak (pe_callTy call_list_of hg hm hv (ha.run E W tk ek) (by decide) (by decide) he hpl) fun σ H Q ⟨s, o, sr, q⟩ => ?_⟩
  refine ⟨s, o, sr, ha.mono _ _ _ _ (fun ds s1 ⟨x, hx, z⟩ vs H1 o1 sr1 st1 rv => ?_) q⟩
  obtain ⟨v, rfl, rx⟩ := rv.one hx
  cases x with
  | lst ds =>
    obtain ⟨a, vs, rfl, h1, h2⟩ := rx
    exact ⟨a, vs, rfl, .inl (.inl (.inl (at_hid h1))), fun l nl => df_new sr1 st1 h2 nl z⟩
  | sq ds =>
    obtain ⟨a, vs, rfl, h1, h2⟩ := rx
    exact ⟨a, vs, rfl, .inl (seqL_hid h1), fun l nl => df_new sr1 st1 h2 nl z⟩
  | tup ds =>
    obtain ⟨a, vs, rfl, h1, h2⟩ := rx
    exact ⟨a, vs, rfl, .inr (seqT_hid h1), fun l nl => df_new sr1 st1 h2 nl z⟩
  | _ => exact z.elim
end

/-! ### a def by its name -/
structure Fun1 (P : Program) (w : World) (K : PySem.W.Frag) (mg : Str → Option Value) (base : Heap) (k : Nat) (x : Str) (ps : List Str) (dd : List D) (sp : DSp) : Prop where
  ex : ∃ f fd, FnD P w K mg base k f fd ps sp ∧ mg x = some (.ref f) ∧ PySem.W.keepIn K (.ref f) = true ∧ ∃ (ds : List Value) (dvs : List V), Binds K fd ps ds ∧ Vals dvs ds ∧ ∀ S, Reps K S dd dvs
theorem Fun1.calls {X : Cx} {k j : Nat} {x : Str} {ps : List Str} {dd : List D} {sp : DSp} (h : Fun1 X.prog X.w X.K X.mg X.base k x ps dd sp) (gd : X.A.guards = some []) (hr : Room j X.A) (hk : k ≤ j) (hg : Gl X x) (hdb : (x == ("__debug__" : Str)) = false) : ∃ f fd, Calls X k x f fd ps sp dd := by
  obtain ⟨f, fd, F, hm, kp, hb⟩ := h.ex
  exact ⟨f, fd, F, gd, hr.mono hk, hg, hm, kp, hb, hdb⟩
section
variable {X : Cx} {Z : Zf} {k : Nat} {ps : List Str} {sp : DSp} {dd : List D} {x : Str} {p pos : Pos} {e : Expr} {es : List Expr} {t : DTs}
theorem de_fn (c : ∃ f fd, Calls X k x f fd ps sp dd) (hl : dd.length ≤ ps.length) (ha : DA X Z (e :: es) t) (he : starEach (e :: es) X.env = (false, eval e X.env) :: starEach es X.env) (hpl : (backTo pos (starEach es X.env)).any (·.1) = false) :
    DE X Z (.Call (.Name x p) (e :: es) [] pos) (dFn sp dd (dLen (ps.length - dd.length) t)) := let ⟨_, _, c⟩ := c; de_call c ha hl he hpl
theorem df_fn (c : ∃ f fd, Calls X k x f fd ps sp dd) (hl : dd.length ≤ ps.length) (ha : DA X Z (e :: es) t) (he : starEach (e :: es) X.env = (false, eval e X.env) :: starEach es X.env) (hpl : (backTo pos (starEach es X.env)).any (·.1) = false) :
    DF X Z (.Call (.Name x p) (e :: es) [] pos) (dFnF sp dd (dLen (ps.length - dd.length) t)) := let ⟨_, _, c⟩ := c; df_call c ha hl he hpl
theorem dk_fn (c : ∃ f fd, Calls X k x f fd ps sp dd) (hl : dd.length ≤ ps.length) (ha : DA X Z (e :: es) t) (he : starEach (e :: es) X.env = (false, eval e X.env) :: starEach es X.env) (hpl : (backTo pos (starEach es X.env)).any (·.1) = false) :
    DK X Z (.Call (.Name x p) (e :: es) [] pos) (dFnK sp dd (dLen (ps.length - dd.length) t)) := let ⟨_, _, c⟩ := c; dk_call c ha hl he hpl
theorem de_fn0 (c : ∃ f fd, Calls X k x f fd ps sp dd) (hl : dd.length = ps.length) : DE X Z (.Call (.Name x p) [] [] pos) (dFn sp dd dNil) := let ⟨_, _, c⟩ := c; de_call0 c hl
end
section
variable {P : Program} {w : World} {K : PySem.W.Frag} {mg : Str → Option Value} {base : Heap} {x qual : Str} {params : Arguments} {body : List Stmt} {scope : Scope} {f : Addr} {fd : FuncData}
def A0 : Around := { depth := 0, frames := some [], guards := some [], units := 0 }
/-- a def without defaults, from its body -/
theorem fun1 {N ps : List Str} {k : Nat} {t : DS} (F : ∃ f fd, mg x = some (.ref f) ∧ FunD K x qual params body scope [] [] f fd) (S : FnScope N ps scope)
    (hbind : ∀ (kV doc pm : Value) (an : Option Addr) (cdv ct : Value) (us : List Value), us.length = ps.length → bindArgs (PySem.W.fnOf x qual params body scope .none kV doc pm an cdv ct) ⟨us, []⟩ = pure (ps.zip us))
    (h0 : k ≤ 60) (hb : ∀ (f : Addr) (cdv : Value) (A : Around) (outer : List Env) (s : Shared) (H : Hp) (E : XK) (Z : Zf), A.guards = some [] → Room k (A.deeper (envOfC qual scope s.heap.objs.size f cdv)) → DPSs (cxD P w K mg base N qual scope f cdv A outer s H E) Z body t) :
    Fun1 P w K mg base (k + 1) x ps [] (bodyD N.length ps.length t) := by
  obtain ⟨f, fd, hm, F⟩ := F
  have m := (hb f .none A0 [] {} (fun _ => none) (fun _ _ _ => False) ⟨fun _ => none, [], fun _ => False⟩ rfl ⟨rfl, by
    have : recursionLimit = recursionLimit := rfl
    show 0 + 1 + 3 * k + 5 < recursionLimit
    have h : 1000 ≤ recursionLimit := by decide
    omega, by
    show 0 + 3 + 16 * k + 200 < cLine
    have h : cLine = 9900 := rfl
    omega⟩).mono
  exact ⟨f, fd, fnD F S m fun cdv A outer s H E Z gd hr => hb f cdv A outer s H E Z gd hr, hm, F.kp, [], [], F.bindsN hbind, .nil, fun _ => rfl⟩
end
end DL

set_option Elab.async false
set_option linter.all false
set_option maxRecDepth 100000
namespace DL
open PySem PySem.Spec L2
open PyProof.Rows hiding St
section
variable {X : Cx} {Z : Zf} {a b c e : Expr} {ta tb te : DT} {pos : Pos} {p : P2} {tc : DTt} {ua ub : DTs}
theorem de_bop {op : Operator} (h : BOp X Z (binaryOp op) p) (ha : DR X Z a ta) (hb : DR X Z b tb) : DE X Z (.BinOp a op b pos) (dOp p ta tb) := let ⟨_, h1, h2⟩ := h; de_op h1 h2 ha hb
theorem de_cmpB {op : CmpOp} (h : BOp X Z (compareOp op) p) (ha : DR X Z a ta) (hb : DR X Z b tb) (hm : behindInMarks op b = false) : DE X Z (.Compare a [op] [b] pos) (dOp p ta tb) := let ⟨_, h1, h2⟩ := h; de_cmp h1 h2 ha hb hm
theorem de_ixB (h : BIx X Z p) (ha : DR X Z a ta) (hb : DR X Z b tb) (hs : PlainIx b) : DE X Z (.Subscript a b pos) (dOp p ta tb) := let ⟨_, h1, h2⟩ := h; de_ix h1 h2 ha hb hs
theorem de_unB {op : UnaryOp} {p : P1} (h : BUn X Z (unaryOp op) p) (ha : DR X Z a ta) : DE X Z (.UnaryOp op a pos) (dUn p ta) := let ⟨_, h1, h2⟩ := h; de_un h1 h2 ha
def dIfF (c : DTt) (t u : DTs) : DTs := fun E s Q => c E s fun b s1 => if b = true then t E s1 Q else u E s1 Q
theorem df_if (hc : DTe X Z c tc) (ha : DF X Z a ua) (hb : DF X Z b ub) : DF X Z (.IfExp c a b pos) (dIfF tc ua ub) := by
  refine ⟨fun E s Q Q' m q => hc.mono _ _ _ _ (fun k s1 z => by
    cases k with
    | true => exact ha.mono _ _ _ _ m z
    | false => exact hb.mono _ _ _ _ m z) q, fun E W tk ek => PE.weak (pe_ifExp (hc.run E W tk ek) (ha.run E W tk ek) (hb.run E W tk ek)) fun σ H Q ⟨s, o, sr, q⟩ => ?_⟩
  refine ⟨s, o, sr, hc.mono _ _ _ _ (fun k s1 z H1 o1 sr1 st1 => ?_) q⟩
  cases k with
  | true => exact ⟨s1, o1, sr1, ha.mono _ _ _ _ (fun ds s2 z p vs H2 o2 sr2 st2 n1 n2 n3 r => z p vs H2 o2 sr2 (st1.trans st2) (st1.new _ n1) n2 n3 r) z⟩
  | false => exact ⟨s1, o1, sr1, hb.mono _ _ _ _ (fun ds s2 z p vs H2 o2 sr2 st2 n1 n2 n3 r => z p vs H2 o2 sr2 (st1.trans st2) (st1.new _ n1) n2 n3 r) z⟩
end
section
variable {X : Cx} {Z : Zf}
theorem df_lcx {elt tg iter : Expr} {ifs : List Expr} {scope : Scope} {pos : Pos} {ti : DTs} {tt : DTt} {te : DT} (T : Tg) (own : List (Str × Nat)) (hc : X.calm = true) (hN : X.N.Nodup) (hi : DI X Z tg iter ti) (ok : blkC X.N X.env.scope scope own = true)
    (hg : ∀ (s : Shared) (H : Hp) (C : Addr) (cl : List (Str × Addr)) (fp : List Addr), PG (X.blk s H scope (compEnvC scope cl C X.env) fp) tg (T.rd X.K)) (hT : ∀ i ∈ T.ixs, i ∈ own.map (·.2))
    (ht : ∀ (s : Shared) (H : Hp) (C : Addr) (cl : List (Str × Addr)) (fp : List Addr) (L : Addr), DTs' (X.blk s H scope (compEnvC scope cl C X.env) fp) (Z.add L) ifs tt)
    (he : ∀ (s : Shared) (H : Hp) (C : Addr) (cl : List (Str × Addr)) (fp : List Addr) (L : Addr), DE (X.blk s H scope (compEnvC scope cl C X.env) fp) (Z.add L) elt te) (hs : ∀ x, foldedSetIterable iter X.env x = pure x) :
    DF X Z (.ListComp elt [⟨tg, iter, ifs, 0⟩] scope pos) (dLc (own.map (·.2)) T ti tt te) :=
  df_lc hc hN hi (blkOk_by ok) hg hT ht he (ht {} (fun _ => none) 0 [] [] 0).mono (he {} (fun _ => none) 0 [] [] 0).mono hs
theorem ds_setLcx {i : Nat} {y : Str} {py : Pos} {elt tg iter : Expr} {ifs : List Expr} {scope : Scope} {pos spos : Pos} {ti : DTs} {tt : DTt} {te : DT} (T : Tg) (own : List (Str × Nat)) (hc : X.calm = true) (hN : X.N.Nodup) (hy : X.N[i]? = some y) (hyl : X.env.scope.names.lookup y = some .local)
    (hsw : swapsWith (.ListComp elt [⟨tg, iter, ifs, 0⟩] scope pos) (some (.Name y py)) spos.line X.env = pure true) (hi : DI X Z tg iter ti) (ok : blkC X.N X.env.scope scope own = true)
    (hg : ∀ (s : Shared) (H : Hp) (C : Addr) (cl : List (Str × Addr)) (fp : List Addr), PG (X.blk s H scope (compEnvC scope cl C X.env) fp) tg (T.rd X.K)) (hT : ∀ i ∈ T.ixs, i ∈ own.map (·.2))
    (ht : ∀ (s : Shared) (H : Hp) (C : Addr) (cl : List (Str × Addr)) (fp : List Addr) (L : Addr), DTs' (X.blk s H scope (compEnvC scope cl C X.env) fp) (Z.add L) ifs tt)
    (he : ∀ (s : Shared) (H : Hp) (C : Addr) (cl : List (Str × Addr)) (fp : List Addr) (L : Addr), DE (X.blk s H scope (compEnvC scope cl C X.env) fp) (Z.add L) elt te) (hs : ∀ x, foldedSetIterable iter X.env x = pure x) :
    DPS X Z (.Assign [.Name y py] (.ListComp elt [⟨tg, iter, ifs, 0⟩] scope pos) spos) (sSet i (dFrz (dLc (own.map (·.2)) T ti tt te))) :=
  ds_setLc false hc hN hy hyl hsw hi (blkOk_by ok) hg hT ht he (ht {} (fun _ => none) 0 [] [] 0).mono (he {} (fun _ => none) 0 [] [] 0).mono hs
theorem ds_ownLcx {i : Nat} {y : Str} {py : Pos} {elt tg iter : Expr} {ifs : List Expr} {scope : Scope} {pos spos : Pos} {ti : DTs} {tt : DTt} {te : DT} (T : Tg) (own : List (Str × Nat)) (hc : X.calm = true) (hN : X.N.Nodup) (hy : X.N[i]? = some y) (hyl : X.env.scope.names.lookup y = some .local)
    (hsw : swapsWith (.ListComp elt [⟨tg, iter, ifs, 0⟩] scope pos) (some (.Name y py)) spos.line X.env = pure true) (hi : DI X Z tg iter ti) (ok : blkC X.N X.env.scope scope own = true)
    (hg : ∀ (s : Shared) (H : Hp) (C : Addr) (cl : List (Str × Addr)) (fp : List Addr), PG (X.blk s H scope (compEnvC scope cl C X.env) fp) tg (T.rd X.K)) (hT : ∀ i ∈ T.ixs, i ∈ own.map (·.2))
    (ht : ∀ (s : Shared) (H : Hp) (C : Addr) (cl : List (Str × Addr)) (fp : List Addr) (L : Addr), DTs' (X.blk s H scope (compEnvC scope cl C X.env) fp) (Z.add L) ifs tt)
    (he : ∀ (s : Shared) (H : Hp) (C : Addr) (cl : List (Str × Addr)) (fp : List Addr) (L : Addr), DE (X.blk s H scope (compEnvC scope cl C X.env) fp) (Z.add L) elt te) (hs : ∀ x, foldedSetIterable iter X.env x = pure x) :
    DPS X Z (.Assign [.Name y py] (.ListComp elt [⟨tg, iter, ifs, 0⟩] scope pos) spos) (sOwn i (dLc (own.map (·.2)) T ti tt te)) :=
  ds_setLc true hc hN hy hyl hsw hi (blkOk_by ok) hg hT ht he (ht {} (fun _ => none) 0 [] [] 0).mono (he {} (fun _ => none) 0 [] [] 0).mono hs
end

section
variable {X : Cx} {Z : Zf} {a b : Expr} {pos : Pos} {i j : Nat} {x y : Str} {px py pt pt2 : Pos} {kt k2 : Nat}
theorem ds_parFVx {ta : DTs} {tb : DT} (hc : X.calm = true) (hN : X.N.Nodup) (hi : X.N[i]? = some x) (hj : X.N[j]? = some y) (hij : i ≠ j) (hx : X.env.scope.names.lookup x = some .local) (hy : X.env.scope.names.lookup y = some .local) (ha : DF X Z a ta) (hb : ∀ L, DE X (Z.add L) b tb)
    (hs1 : starEach [a, b] X.env = (false, eval a X.env) :: starEach [b] X.env) (hs2 : starEach [b] X.env = (false, eval b X.env) :: starEach [] X.env)
    (hw : swappedStores [.Tuple [.Name x px, .Name y py] kt pt] (.Tuple [a, b] k2 pt2) X.env = pure (some [x, y])) (hs : swapsWithSole [.Tuple [.Name x px, .Name y py] kt pt] (.Tuple [a, b] k2 pt2) pos.line X.env = pure false) :
    DPS X Z (.Assign [.Tuple [.Name x px, .Name y py] kt pt] (.Tuple [a, b] k2 pt2) pos) (sParFV i j ta tb) := ds_parFV hc hN hi hj hij hx hy ha hb (hb 0).mono hs1 hs2 hw hs
theorem ds_parFFx {ta tb : DTs} (hc : X.calm = true) (hN : X.N.Nodup) (hi : X.N[i]? = some x) (hj : X.N[j]? = some y) (hij : i ≠ j) (hx : X.env.scope.names.lookup x = some .local) (hy : X.env.scope.names.lookup y = some .local) (ha : DF X Z a ta) (hb : ∀ L, DF X (Z.add L) b tb)
    (hs1 : starEach [a, b] X.env = (false, eval a X.env) :: starEach [b] X.env) (hs2 : starEach [b] X.env = (false, eval b X.env) :: starEach [] X.env)
    (hw : swappedStores [.Tuple [.Name x px, .Name y py] kt pt] (.Tuple [a, b] k2 pt2) X.env = pure (some [x, y])) (hs : swapsWithSole [.Tuple [.Name x px, .Name y py] kt pt] (.Tuple [a, b] k2 pt2) pos.line X.env = pure false) :
    DPS X Z (.Assign [.Tuple [.Name x px, .Name y py] kt pt] (.Tuple [a, b] k2 pt2) pos) (sParFF i j ta tb) := ds_parFF hc hN hi hj hij hx hy ha hb (hb 0).mono hs1 hs2 hw hs
end
/-! ### what is known of the program's module -/
structure PDef where
  name : Str
  st : Stmt
structure PF (K : PySem.W.Frag) (mg : Str → Option Value) (frees : List Str) (cs : List (Str × D)) (ds : List PDef) : Prop where
  free : ∀ (i : Nat) {x : Str}, frees[i]? = some x → mg x = none
  con : ∀ (i : Nat) {x : Str} {d : D}, cs[i]? = some (x, d) → ∃ u, mg x = some u ∧ CK K d u
  fn : ∀ (i : Nat) {d : PDef}, ds[i]? = some d → ∃ f fd, mg d.name = some (.ref f) ∧ FunD K d.name d.name (defArgs d.st) (defBody d.st) (defScope d.st) [] [] f fd
end DL

set_option Elab.async false
set_option linter.all false
set_option maxRecDepth 100000
namespace DL
open PySem PySem.Spec L2
open PyProof.Rows hiding St

/-! ### the law's own call -/
/-- the law over trees: the script is a list of ints, nothing is shared; it answers True -/
def LawD (n : Nat) (sp : DSp) : Prop := ∀ ns : List Int, ns.length ≤ n → sp (fun _ _ => False) [.sq (ns.map .int)] [] fun r _ => r = .val (.bl true)
theorem reps_ints {K : PySem.W.Frag} {S : Hp} : ∀ ns : List Int, Reps K S (ns.map .int) (ns.map V.int)
  | [] => rfl
  | _ :: ns => ⟨_, _, rfl, rfl, reps_ints ns⟩
theorem law_sp {K : PySem.W.Frag} {sp : DSp} {n : Nat} (h : LawD n sp) {H : Hp} {a : Addr} {ns : List Int} (hl : ns.length ≤ n) (hS : SqL K H a (ns.map V.int)) : spD K 1 sp [.ref a] H (fun v _ => v = .bl true) fun _ _ _ => False := by
  have nM : ∀ b, ¬ mutG ⟨H, [], fun _ => False⟩ [] b := fun b z => z.elim id fun z => (nomatch z)
  have sub : Same H (hid H (mutG ⟨H, [], fun _ => False⟩ [])) := fun b u e => hid_some.mpr ⟨nM b, e⟩
  refine ⟨⟨H, [], fun _ => False⟩, [.sq (ns.map .int)], [], _, _, rfl, rfl, ⟨fun _ _ z => (nomatch z), .nil, fun _ z => (nomatch z), fun _ _ e _ => e, fun _ z => z.elim, fun _ z => (nomatch z)⟩, ⟨_, _, rfl, ⟨a, _, rfl, sub.seq hS, reps_ints ns⟩, rfl⟩, rfl, h ns hl, ?_, fun _ _ _ _ _ z => z.elim⟩
  rintro r Γ v H' rfl ok
  exact ok.2
section
variable {P : Program} {w : World} {K : PySem.W.Frag} {mg mb : Str → Option Value} {k : Nat} {fa a : Addr} {fd : FuncData} {x : Str} {sp : Sp} {s₁ : Shared} {vs : List Value} {ns : List Int}
/-- from the state that tracks H: base is what H does not track -/
theorem law_at {H : Hp} (KX : K.In s₁.heap) (hns : s₁.heap.Ns mainGlobals mg) (hb : s₁.heap.Ns builtinsNs mb) (hbb : ∀ x : Str, x ≠ "__name__" → mb x = bootBuiltins x) (hlim : s₁.heap.NoLimit) (hg : s₁.gens = #[])
    (ha : s₁.heap.get? a = some { cls := .type "list", data := .seq vs.toArray }) (hr : Room k callerA)
    (F : ∀ base : Heap, K.In base → base.Ns mainGlobals mg → ∃ fd, FnG P w K mg base k fa fd [x] sp ∧ ∀ u : Value, BindsTo s₁ fd ⟨[u], []⟩ [(x, u)])
    (hsp : sp [.ref a] H (fun v _ => v = .bl true) fun _ _ _ => False) (hO : Only H) (hok : HOk P w H s₁.heap) (only : ∀ b, H b ≠ none → b = a) (nK : H a ≠ none → K.lookup a = none) :
    codeAny (model P w) callerA (.call (.ref fa) ⟨[.ref a], []⟩) (fun r s' => r = .ok (.ret (.bool true)) ∧ OldK s₁.heap s'.heap ∧ s'.os = s₁.os ∧ AllBare s'.gens) s₁ := by
  have isA : ∀ {b : Addr} {u : HO}, H b = some u → b = a := fun {b u} q => only b (by rw [q]; exact Option.some_ne_none u)
  have isDict : ∀ {b : Addr} {m : Str → Option Value}, s₁.heap.Ns b m → (hidT s₁.heap H).Ns b m := by
    rintro b m ⟨o, es, ep, e, d, rest⟩
    refine ⟨o, es, ep, hidT_get e ?_, d, rest⟩
    cases q : H b with
    | none => rfl
    | some u =>
      cases isA q
      rw [ha] at e
      cases e
      cases (show Data.seq vs.toArray _ = Data.dict es ep from d)
  have inK : K.In (hidT s₁.heap H) := fun b o e => by
    refine hidT_get (KX b o e) ?_
    cases q : H b with
    | none => rfl
    | some u =>
      cases isA q
      rw [nK (by rw [q]; exact Option.some_ne_none u)] at e
      cases e
  obtain ⟨mc, l1, l2⟩ := hlim
  have nof : ∀ b ∈ ([] : List Addr), H b = none := fun b z => (nomatch z)
  have e0 : Env0 P w K mg (hidT s₁.heap H) callerA [] s₁ H := ⟨rfl, ⟨inK, isDict hns, ⟨mb, isDict hb, hbb⟩, mc, isDict l1, l2⟩, fun _ _ e => of_hidT e, Nat.le_of_eq (hidT_size _ _), trivial, nof, hok, .of_eq hg⟩
  obtain ⟨fd, hF, hbind⟩ := F _ inK (isDict hns)
  refine codeAny_mono (hF.run (us := [.ref a]) (vs := [.ref a]) rfl hr e0 (hbind (.ref a)) (.cons rfl .nil) hsp) ?_
  intro r s' h
  match r, h with
  | .ok (.ret u), ⟨v, H', os, bare, un, hok', rv, q⟩ =>
    cases (show v = .bl true from q)
    cases (show u = Value.bool true from rv)
    refine ⟨rfl, .of_keep fun b o e => ?_, os, bare⟩
    rcases hO b with z | ⟨ob, xs, z⟩
    · exact un.keep b o e z (fun z => (nomatch z)) (fun z => (nomatch z))
    · have e1 := (hok b _ z).1
      rw [e] at e1
      rw [Option.some.inj e1]
      exact (hok' b _ (un.frzs b ob _ z)).1
  | .ok .next, h => exact h.elim
  | .ok .brk, h => exact h.elim
  | .ok .cont, h => exact h.elim
  | .error e, ⟨_, _, _, _, _, _, _, _, _, _, _, _, z⟩ => exact z.elim
/-- the script stands in the heap: it is one of the module's objects, or it is tracked as it stands -/
theorem law_any {n : Nat} {sp : DSp} (KX : K.In s₁.heap) (hns : s₁.heap.Ns mainGlobals mg) (hb : s₁.heap.Ns builtinsNs mb) (hbb : ∀ x : Str, x ≠ "__name__" → mb x = bootBuiltins x) (hlim : s₁.heap.NoLimit) (hg : s₁.gens = #[])
    (ha : s₁.heap.get? a = some { cls := .type "list", data := .seq vs.toArray }) (hi : IntsAre vs ns) (hl : ns.length ≤ n) (hn : n ≤ sizeLine) (hr : Room k callerA)
    {nm : Str} (hm : mg nm = some (.ref fa)) (F : ∀ base : Heap, K.In base → base.Ns mainGlobals mg → Fun1 P w K mg base k nm [x] [] sp) (hsp : LawD n sp) :
    codeAny (model P w) callerA (.call (.ref fa) ⟨[.ref a], []⟩) (fun r s' => r = .ok (.ret (.bool true)) ∧ OldK s₁.heap s'.heap ∧ s'.os = s₁.os ∧ AllBare s'.gens) s₁ := by
  have FG : ∀ base : Heap, K.In base → base.Ns mainGlobals mg → ∃ fd, FnG P w K mg base k fa fd [x] (spD K 1 sp) ∧ ∀ u : Value, BindsTo s₁ fd ⟨[u], []⟩ [(x, u)] := fun base h1 h2 => by
    obtain ⟨f, fd, hF, hm', _, ds, dvs, hb, rd, rr⟩ := (F base h1 h2).ex
    rw [hm] at hm'
    cases hm'
    cases (show dvs = [] from rr fun _ => none)
    cases rd
    exact ⟨fd, hF.ok, fun u => hb s₁ [u] KX rfl⟩
  have rv := vals_ints hi
  have lv : vs.length ≤ sizeLine := by
    have := hi.length
    omega
  cases hk : K.lookup a with
  | some o =>
    have e := KX a o hk
    rw [ha] at e
    cases e
    have S0 : SqL K (fun _ => none) a (ns.map V.int) := .inr ⟨_, vs.toArray, _, hk, rfl, rfl, rfl, by rw [List.size_toArray]; exact lv, by simpa using rv⟩
    exact law_at KX hns hb hbb hlim hg ha hr FG (law_sp hsp hl S0) (fun _ => .inl rfl) (fun b u z => (nomatch z)) (fun b z => absurd rfl z) fun z => absurd rfl z
  | none =>
    let H : Hp := upd (fun _ => none) a (.frz { cls := .type "list", data := .seq vs.toArray } (.lst (ns.map V.int)))
    have hH : H a = some (.frz { cls := .type "list", data := .seq vs.toArray } (.lst (ns.map V.int))) := upd_same
    have hN : ∀ b, b ≠ a → H b = none := fun b nb => upd_ne nb
    have S0 : SqL K H a (ns.map V.int) := .inl (.inr ⟨_, hH⟩)
    refine law_at KX hns hb hbb hlim hg ha hr FG (law_sp hsp hl S0) (fun b => ?_) (fun b u z => ?_) (fun b z => ?_) fun _ => hk
    · by_cases nb : b = a
      · subst nb
        exact .inr ⟨_, _, hH⟩
      · exact .inl (hN b nb)
    · by_cases nb : b = a
      · subst nb
        rw [hH] at z
        cases z
        exact ⟨ha, by rw [List.length_map]; omega, vs, _, rv, ha⟩
      · rw [hN b nb] at z
        cases z
    · exact Classical.byContradiction fun nb => z (hN b nb)
end
theorem walkD {l : PySem.W.OpenLaw} {n k : Nat} {q : Program} {loose : List Str} {XP : (Str → Option Value) → Heap → Prop} {YP : World → Heap → Prop} {d : DefRec} {x nm : Str} {sp : DSp}
    (hn : l.most = some n) (hn2 : n ≤ sizeLine) (hdf : d.params.defaults = []) (hnm : d.name = nm) (hr : Room k callerA) (hsp : LawD n sp)
    (F : ∀ (w : World) (mg : Str → Option Value) (h : Heap), YP w h → h.Ns mainGlobals mg →
      ∃ (K : PySem.W.Frag), K.In h ∧ ∀ base : Heap, K.In base → base.Ns mainGlobals mg → Fun1 l.prog w K mg base k nm [x] [] sp) :
    PySem.W.WalkO q loose XP YP l.row.toRowW d [] (fun f vs => PySem.call f vs) :=
  Att.attach_call hn hdf fun w s₀ s₁ mg mb fa o pm cd doc a vs ns G Y ho hd hcd hmg hobj hints hlen hg => by
    obtain ⟨K, KX, hF⟩ := F w mg _ Y G.T.g
    rw [hnm] at hmg
    exact law_any KX G.T.g G.T.b G.T.builtins G.T.nolimit hg hobj hints hlen hn2 hr hmg hF hsp
end DL

set_option Elab.async false
set_option linter.all false
set_option maxRecDepth 100000
namespace DL
open PySem PySem.Spec L2
open PyProof.Rows hiding St

/-! ### the head's facts -/
def PDef.d (d : PDef) : He.DefD := ⟨(d.name, none), d.name, d.name, defArgs d.st, defBody d.st, defScope d.st, [], []⟩
def conB (K : PySem.W.Frag) (p : Str × D) : Bool := match PySem.W.nsIn K mainGlobals p.1 with
  | some (some u) => ckB K p.2 u
  | _ => false
def obsX (fr : List Str) (cs : List (Str × D)) (ds : List PDef) (K : PySem.W.Frag) : He.AlD :=
  ((fr.all fun x => He.Fa.ok K (.free x)) && ((cs.all fun p => conB K p) && ds.all fun d => He.Fa.ok K (.glo d.name) && d.d.ok K), ds.map fun d => He.fnW K (d.name, none))
def valX (ds : List PDef) : He.AlD := (true, ds.map fun d => d.d.val)
def SaysX (fr : List Str) (cs : List (Str × D)) (ds : List PDef) (K : PySem.W.Frag) : Prop := obsX fr cs ds K = valX ds
def obsXG (n : Nat) (fr : List Str) (cs : List (Str × D)) (ds : List PDef) (g : Addr → Option Obj) : He.AlD := obsX fr cs ds (He.frG g (He.asD g n))
def hookX (n : Nat) (fr : List Str) (cs : List (Str × D)) (ds : List PDef) : PySem.W.Hook where
  α := He.AlD
  obs := fun s => obsXG n fr cs ds s.heap.get?
  val := fun _ => valX ds
  says := fun _ h => ∃ K : PySem.W.Frag, K.In h ∧ SaysX fr cs ds K
  of := fun _ _ e => ⟨_, He.frG_in, e⟩
  keeps := fun _ _ _ ⟨K, hK, c⟩ k => ⟨K, hK.keeps k, c⟩
theorem obsXG_eq {n : Nat} {fr : List Str} {cs : List (Str × D)} {ds : List PDef} {g : Addr → Option Obj} {s : Shared} (h : ∀ a, g a = s.heap.get? a) : obsXG n fr cs ds g = (hookX n fr cs ds).obs s := by
  rw [show g = s.heap.get? from funext h]
  rfl
theorem says_pf {fr : List Str} {cs : List (Str × D)} {ds : List PDef} {K : PySem.W.Frag} {h : Heap} {mg : Str → Option Value} (X : K.In h) (G : h.Ns mainGlobals mg) (c : SaysX fr cs ds K) : PF K mg fr cs ds := by
  obtain ⟨c1, c2⟩ := He.ba (show _ = true from congrArg (fun z : He.AlD => z.1) c)
  obtain ⟨c3, c4⟩ := He.ba c2
  have e : ds.map (fun d => He.fnW K (d.name, none)) = ds.map (fun d => d.d.val) := congrArg (fun z : He.AlD => z.2) c
  refine ⟨fun i x hx => He.free_ok X G (List.all_eq_true.mp c1 x (List.mem_of_getElem? hx)), fun i x d hx => ?_, fun i d hd => ?_⟩
  · have q := List.all_eq_true.mp c3 _ (List.mem_of_getElem? hx)
    unfold conB at q
    dsimp only at q
    split at q
    · rename_i u hu
      exact ⟨u, PySem.W.mg_of X G hu, ckB_ok d u q⟩
    · cases q
  · obtain ⟨q1, q2⟩ := He.ba (List.all_eq_true.mp c4 _ (List.mem_of_getElem? hd))
    have e2 : (ds.map fun d => He.fnW K (d.name, none))[i]? = (ds.map fun d => d.d.val)[i]? := by rw [e]
    rw [List.getElem?_map, List.getElem?_map, hd] at e2
    obtain ⟨fd, F⟩ := He.DefD.funD (d := d.d) (Option.some.inj e2) q2
    exact ⟨_, fd, He.glo_ok X G q1, F⟩
end DL

set_option Elab.async false
set_option linter.all false
set_option maxRecDepth 100000
set_option maxHeartbeats 4000000
/-! sorted of a list or a tuple of ints, any number of them -/
namespace SrtO
open PySem PyProof.Rows Srt
section
variable {prog : Program} {w : World} {A : Around} {E : Value → Shared → Prop} {s : Shared}
theorem sorted_seq {l : Addr} {T : String} {o : Obj} {n : Nat} {vs : List Value} {ltv : Value → Value → Bool} {Q : Value → Shared → Prop} (O : Swo ltv) (hT : T = "list" ∨ T = "tuple") (ho : s.heap.get? l = some o) (hc : o.cls = .type T) (hd : o.data = .seq vs.toArray n) (hz : vs.length ≤ sizeLine)
    (hS : 2 ≤ vs.length → ∀ (h₁ : Heap) (a : Addr), h₁.get? a = some (seqObj "list" vs.toArray 0) → (∀ b o, s.heap.get? b = some o → b ≠ a ∧ h₁.get? b = some o) → SortableO prog w A.in1.in1 { s with heap := h₁ } a vs ltv)
    (h : ∀ (out : List Value) (h1 h' : Heap) (e : Nat), Srtd ltv out → Stb ltv out vs → (∀ b o, s.heap.get? b = some o → h1.get? b = some o) → (∀ b o, s.heap.get? b = some o → h'.get? b = some o) → h'.get? h1.objs.size = some (seqObj "list" out.toArray e) → Q (.ref h1.objs.size) { s with heap := h' }) :
    wpAny (model prog w) A (call (.builtin "sorted") [.ref l]) Q E s := by
  refine Calls.call_function_entry kind_sorted plain_sorted entry_sorted (args_sorted1 _) ?_
  unfold Builtin.«sorted»
  refine wpAny_bind (m := checkCount "sorted" 1 1 _) (wpAny_pure ?_)
  refine wpAny_bind (wpAny_collect_seq l hT ho hc hd (fun h1 k1 => ?_) (by rw [List.size_toArray]; exact hz))
  rw [show vs.toArray.toList = vs by simp]
  refine wpAny_bind (wpAny_newList ?_ hz)
  have hoL : (h1.push (seqObj "list" vs.toArray 0)).get? h1.objs.size = some (seqObj "list" vs.toArray 0) := Heap.get?_push_size _ rfl
  have lt1 : ∀ b o, s.heap.get? b = some o → b < h1.objs.size := fun b o q => Heap.lt_size (k1 b o q)
  have keep : ∀ b o, s.heap.get? b = some o → b ≠ h1.objs.size ∧ (h1.push (seqObj "list" vs.toArray 0)).get? b = some o := fun b o q => ⟨Nat.ne_of_lt (lt1 b o q), Heap.get?_push_of_some _ (k1 b o q)⟩
  show wpAny _ _ _ _ _ { s with heap := h1.push (seqObj "list" vs.toArray 0) }
  refine wpAny_bind (wpAny_holding (wpAny_call_entry slot_list_sort ⟨_, hoL, rfl⟩ entry_list_sort (list_sort_ord O hoL hz (fun h2 => hS h2 _ _ hoL keep) fun out hs hb => ⟨_, rfl, ?_⟩) (args_list_sort _)))
  obtain ⟨e, he⟩ := sortedHeap_at (out := out.toArray) hoL
  refine wpAny_pure ⟨_, rfl, h out h1 _ e hs hb k1 (fun b o q => ?_) he⟩
  rw [sortedHeap_old (keep b o q).1 (by rw [size_push']; exact Nat.lt_succ_of_lt (lt1 b o q))]
  exact (keep b o q).2
end
end SrtO
namespace L2
open PySem PySem.Spec PyProof.Rows
def rSortedS2 (K : PySem.W.Frag) : List V → Hp → VK → Prop := fun vs H Q => ∃ (a : Addr) (ns : List Int), vs = [V.ref a] ∧ (SqL K H a (ns.map V.int) ∨ SqT K H a (ns.map V.int)) ∧
  ∀ (ns' : List Int) (p : Addr), ns'.Perm ns → ns'.Pairwise (· ≤ ·) → H p = none → Q (.ref p) (upd H p (.lst (ns'.map V.int)))
theorem cr_sortedI2 {X : Cx} : CallR X (.builtin "sorted") (rSortedS2 X.K) := by
  intro pins s σ H vs us Q I r h
  obtain ⟨a, ns, rfl, hs, q⟩ := h
  rw [Vals.ref1 r]
  have main : ∀ {T : String} {o : Obj} {n : Nat} {its : List Value}, (T = "list" ∨ T = "tuple") → s.heap.get? a = some o → o.cls = .type T → o.data = .seq its.toArray n → its.length ≤ sizeLine → Vals (ns.map V.int) its →
      wpAny (model X.prog X.w) X.A (call (.builtin "sorted") [.ref a]) (EP X pins σ Q) X.xe s := fun {T o n its} hT ho hc hd hz rv => by
    have hi := rv.ints
    refine SrtO.sorted_seq SrtO.swo_int hT ho hc hd hz (fun h2 h₁ a' _ _ => SrtO.ints_sortable hi h2) fun out h0 h' e h1 h2 k0 hk he => ?_
    obtain ⟨k1, k2, k3⟩ := SrtO.ints_out hi h1 h2
    have hlen : ((out.map SrtO.iv).map V.int).length ≤ sizeLine := by
      rw [List.length_map, k2.length_eq]
      have := rv.length
      rw [List.length_map] at this
      omega
    have hn : H h0.objs.size = none := (I.hok.kept k0).fresh (Nat.le_refl _)
    have hp : s.heap.get? h0.objs.size = none := by
      cases z : s.heap.get? h0.objs.size with
      | none => rfl
      | some o => exact absurd (Heap.lt_size (k0 _ _ z)) (Nat.lt_irrefl _)
    exact ⟨.ref _, upd H h0.objs.size (.lst ((out.map SrtO.iv).map V.int)), I.laidN (t' := s.toks) hk hp hn ⟨hlen, out, e, vals_of_ints k1, he⟩, rfl, q _ _ k2 k3 hn⟩
  rcases hs with hs | hs
  · obtain ⟨its, rv, hl, hz⟩ := I.list hs
    obtain ⟨o, ho, hc, n, hd⟩ := hl.isList
    rw [rv.length] at hz
    exact main (.inl rfl) ho hc hd hz rv
  · obtain ⟨its, rv, hl, hz⟩ := I.tuple hs
    obtain ⟨o, ho, hc, n, hd⟩ := hl
    rw [rv.length] at hz
    exact main (.inr rfl) ho hc hd hz rv
end L2

set_option Elab.async false
set_option linter.all false
set_option maxRecDepth 100000
set_option maxHeartbeats 1000000
namespace DL
open PySem PySem.Spec L2
open PyProof.Rows hiding St

/-! ### *e in a display -/
section
variable {X : Cx} {Z : Zf} {e : Expr} {es : List Expr} {te : DT} {t : DTs} {p pos : Pos}
theorem sq2_R {K : PySem.W.Frag} {H : Hp} {s : DSt} {o : Own} {x : D} {v : V} {Q : List D → Prop} (r : RepR K (S1 Z H s o) (S2 Z H s) x v) (q : sq2 x Q) : ∃ a vs ds, v = .ref a ∧ (SqT K H a vs ∨ SqL K H a vs) ∧ Reps K (S1 Z H s o) ds vs ∧ Q ds := by
  cases x with
  | lst ds =>
    obtain ⟨a, vs, rfl, h1, h2⟩ := r
    exact ⟨a, vs, ds, rfl, .inr (.inl (.inl (at_hid h1))), h2, q⟩
  | sq ds =>
    obtain ⟨a, vs, rfl, h1, h2⟩ := r
    exact ⟨a, vs, ds, rfl, .inr (seqL_hid h1), h2, q⟩
  | tup ds =>
    obtain ⟨a, vs, rfl, h1, h2⟩ := r
    exact ⟨a, vs, ds, rfl, .inl (seqT_hid h1), h2, q⟩
  | _ => exact q.elim
def dStar (te : DT) (t : DTs) : DTs := fun E s Q => te E s fun d s1 => sq2 d fun xs => t E s1 fun ys s2 => Q (xs ++ ys) s2
theorem da_star (he : DR X Z e te) (hr : DA X Z es t) (hs : starEach (.Starred e p :: es) X.env = (true, eval e X.env) :: starEach es X.env) : DA X Z (.Starred e p :: es) (dStar te t) := by
  refine ⟨fun E s Q Q' m q => he.mono _ _ _ _ (fun d s1 z => sq2_mono (fun xs z => hr.mono _ _ _ _ (fun ys s2 z => m _ _ z) z) z) q, fun E W tk ek => PA.weak (StX.pa_star (he.run E W tk ek) (hr.run E W tk ek) hs) fun σ H Q ⟨s, o, sr, q⟩ => ?_⟩
  refine ⟨s, o, sr, he.mono _ _ _ _ (fun d s1 z v H1 o1 sr1 st1 rv => ?_) q⟩
  obtain ⟨a, vs, ds, rfl, hS, rd, q'⟩ := sq2_R rv z
  exact ⟨a, vs, rfl, hS, s1, o1, sr1, hr.mono _ _ _ _ (fun ys s2 z ws H2 o2 sr2 st2 rw' => z (vs ++ ws) H2 o2 sr2 (st1.trans st2) ((Reps.mono st2.s1 _ _ rd).app rw')) q'⟩
end

/-! ### sorted, max, min of ints -/
def insI (x : Int) : List Int → List Int
  | [] => [x]
  | y :: ys => if x ≤ y then x :: y :: ys else y :: insI x ys
def sortI : List Int → List Int
  | [] => []
  | x :: xs => insI x (sortI xs)
theorem insI_perm (x : Int) : ∀ l : List Int, (insI x l).Perm (x :: l)
  | [] => .refl _
  | y :: ys => by
    unfold insI
    split
    · exact .refl _
    · exact ((insI_perm x ys).cons y).trans (.swap _ _ _)
theorem sortI_perm : ∀ l : List Int, (sortI l).Perm l
  | [] => .refl _
  | x :: xs => (insI_perm x _).trans ((sortI_perm xs).cons x)
theorem insI_sorted (x : Int) : ∀ l : List Int, l.Pairwise (· ≤ ·) → (insI x l).Pairwise (· ≤ ·)
  | [], _ => by simp [insI]
  | y :: ys, h => by
    unfold insI
    obtain ⟨h1, h2⟩ := List.pairwise_cons.mp h
    split
    · rename_i hxy
      refine List.pairwise_cons.mpr ⟨fun z hz => ?_, h⟩
      rcases List.mem_cons.mp hz with e | hz
      · omega
      · have := h1 z hz
        omega
    · rename_i hxy
      refine List.pairwise_cons.mpr ⟨fun z hz => ?_, insI_sorted x ys h2⟩
      rcases List.mem_cons.mp ((insI_perm x ys).mem_iff.mp hz) with e | hz
      · omega
      · exact h1 z hz
theorem sortI_sorted : ∀ l : List Int, (sortI l).Pairwise (· ≤ ·)
  | [] => .nil
  | x :: xs => insI_sorted x _ (sortI_sorted xs)
theorem sorted_eq : ∀ {a b : List Int}, a.Perm b → a.Pairwise (· ≤ ·) → b.Pairwise (· ≤ ·) → a = b
  | [], b, p, _, _ => by rw [List.nil_perm.mp p]
  | x :: xs, [], p, _, _ => by cases p.length_eq
  | x :: xs, y :: ys, p, h1, h2 => by
    obtain ⟨a1, a2⟩ := List.pairwise_cons.mp h1
    obtain ⟨b1, b2⟩ := List.pairwise_cons.mp h2
    have e : x = y := by
      have hx : x ∈ y :: ys := p.mem_iff.mp List.mem_cons_self
      have hy : y ∈ x :: xs := p.mem_iff.mpr List.mem_cons_self
      rcases List.mem_cons.mp hx with e | hx
      · exact e
      · rcases List.mem_cons.mp hy with e | hy
        · exact e.symm
        · have := b1 x hx
          have := a1 y hy
          omega
    subst e
    rw [sorted_eq (List.perm_cons _ |>.mp p) a2 b2]
def maxZ : List Int → Int
  | [] => 0
  | [x] => x
  | x :: y :: r => let m := maxZ (y :: r); if m > x then m else x
def minZ : List Int → Int
  | [] => 0
  | [x] => x
  | x :: y :: r => let m := minZ (y :: r); if m < x then m else x
theorem maxZ_le : ∀ {l : List Int} {x : Int}, x ∈ l → x ≤ maxZ l
  | [y], x, h => by
    rw [List.mem_singleton.mp h]
    exact Int.le_refl _
  | y :: z :: r, x, h => by
    have ih : ∀ w ∈ z :: r, w ≤ maxZ (z :: r) := fun w hw => maxZ_le hw
    show x ≤ if maxZ (z :: r) > y then maxZ (z :: r) else y
    rcases List.mem_cons.mp h with e | h
    · subst e
      split <;> omega
    · have := ih x h
      split <;> omega
theorem maxZ_mem : ∀ {l : List Int}, l ≠ [] → maxZ l ∈ l
  | [y], _ => List.mem_cons_self
  | y :: z :: r, _ => by
    have ih : maxZ (z :: r) ∈ z :: r := maxZ_mem (by simp)
    show (if maxZ (z :: r) > y then maxZ (z :: r) else y) ∈ _
    split
    · exact List.mem_cons_of_mem _ ih
    · exact List.mem_cons_self
theorem minZ_le : ∀ {l : List Int} {x : Int}, x ∈ l → minZ l ≤ x
  | [y], x, h => by
    rw [List.mem_singleton.mp h]
    exact Int.le_refl _
  | y :: z :: r, x, h => by
    have ih : ∀ w ∈ z :: r, minZ (z :: r) ≤ w := fun w hw => minZ_le hw
    show (if minZ (z :: r) < y then minZ (z :: r) else y) ≤ x
    rcases List.mem_cons.mp h with e | h
    · subst e
      split <;> omega
    · have := ih x h
      split <;> omega
theorem minZ_mem : ∀ {l : List Int}, l ≠ [] → minZ l ∈ l
  | [y], _ => List.mem_cons_self
  | y :: z :: r, _ => by
    have ih : minZ (z :: r) ∈ z :: r := minZ_mem (by simp)
    show (if minZ (z :: r) < y then minZ (z :: r) else y) ∈ _
    split
    · exact List.mem_cons_of_mem _ ih
    · exact List.mem_cons_self
section
variable {X : Cx} {Z : Zf} {K : PySem.W.Frag} {σ : St} {H : Hp} {s : DSt} {o : Own}
def pMaxL : DSt → D → (D → Prop) → Prop := fun _ x Q => match x with
  | .lst ds => ∃ ns, intsD ds = some ns ∧ ns ≠ [] ∧ Q (.int (maxZ ns))
  | _ => False
def pMinL : DSt → D → (D → Prop) → Prop := fun _ x Q => match x with
  | .lst ds => ∃ ns, intsD ds = some ns ∧ ns ≠ [] ∧ Q (.int (minZ ns))
  | _ => False
theorem bc_maxL (hc : X.calm = true) : BCall X Z (.builtin "max") (p1 pMaxL) :=
  bcall1 (cr_max hc) (fun s x Q Q' h q => by
    cases x with
    | lst ds => obtain ⟨ns, e, n, q⟩ := q; exact ⟨ns, e, n, h _ q⟩
    | _ => exact q.elim) fun σ H s o v d Q sr r q => by
    cases d with
    | lst ds =>
      obtain ⟨ns, e, n, q⟩ := q
      obtain ⟨a, vs, rfl, h1, h2⟩ := r
      rw [ints_reps e h2] at h1
      refine ⟨a, ns, rfl, .inl (.inl (at_hid h1)), List.length_pos_iff.mpr n, fun m hm hle => ?_⟩
      have : m = maxZ ns := Int.le_antisymm (maxZ_le hm) (hle _ (maxZ_mem n))
      rw [this]
      exact q.int
    | _ => exact q.elim
theorem bc_minL (hc : X.calm = true) : BCall X Z (.builtin "min") (p1 pMinL) :=
  bcall1 (cr_min hc) (fun s x Q Q' h q => by
    cases x with
    | lst ds => obtain ⟨ns, e, n, q⟩ := q; exact ⟨ns, e, n, h _ q⟩
    | _ => exact q.elim) fun σ H s o v d Q sr r q => by
    cases d with
    | lst ds =>
      obtain ⟨ns, e, n, q⟩ := q
      obtain ⟨a, vs, rfl, h1, h2⟩ := r
      rw [ints_reps e h2] at h1
      refine ⟨a, ns, rfl, .inl (.inl (at_hid h1)), List.length_pos_iff.mpr n, fun m hm hle => ?_⟩
      have : m = minZ ns := Int.le_antisymm (hle _ (minZ_mem n)) (minZ_le hm)
      rw [this]
      exact q.int
    | _ => exact q.elim
/-- sorted(e), ints -/
def dSortI (t : DTs) : DTs := fun E s Q => t E s fun ds s1 => ∃ x, ds = [x] ∧ sq2 x fun xs => ∃ ns, intsD xs = some ns ∧ Q ((sortI ns).map .int) s1
theorem df_sortI {e : Expr} {t : DTs} {p pos : Pos} (hg : Gl X "sorted") (hm : X.mg "sorted" = none) (hv : bootBuiltins "sorted" = some (.builtin "sorted")) (ha : DAR X Z [e] t)
    (he : starEach [e] X.env = (false, eval e X.env) :: starEach [] X.env) (hpl : (backTo pos (starEach [] X.env)).any (·.1) = false) : DF X Z (.Call (.Name "sorted" p) [e] [] pos) (dSortI t) := by
  refine ⟨fun E s Q Q' h q => ha.mono _ _ _ _ (fun x s1 ⟨y, e, q⟩ => ⟨y, e, sq2_mono (fun xs ⟨ns, e, q⟩ => ⟨ns, e, h _ _ q⟩) q⟩) q, fun E W tk ek => PE.weak (pe_callB cr_sortedI2 hg hm hv (ha.run E W tk ek) (by decide) (by decide) he hpl) fun σ H Q ⟨s, o, sr, q⟩ => ?_⟩
  refine ⟨s, o, sr, ha.mono _ _ _ _ (fun ds s1 ⟨x, hx, z⟩ vs H1 o1 sr1 st1 rv => ?_) q⟩
  obtain ⟨v, rfl, rx⟩ := rv.one hx
  obtain ⟨a, vs, ds', rfl, hS, rd, ns, e1, q'⟩ := sq2_R rx z
  rw [ints_reps e1 rd] at hS
  refine ⟨a, ns, rfl, hS.symm, fun ns' p hp hso np => ?_⟩
  have : ns' = sortI ns := sorted_eq (hp.trans (sortI_perm ns).symm) hso (sortI_sorted ns)
  rw [this]
  refine df_new sr1 st1 ?_ np q'
  generalize sortI ns = l
  induction l with
  | nil => exact rfl
  | cons x l ih => exact ⟨_, _, rfl, rfl, ih⟩
/-- list(range(e)) -/
def dListRg (t : DT) : DTs := fun E s Q => t E s fun d s1 => ∃ n : Int, d = .int n ∧ (-(2 ^ 62) ≤ n ∧ n ≤ 2 ^ 24) ∧ Q (rangeD 0 n.toNat) s1
theorem df_listRg {e : Expr} {t : DT} {p p2 pos pos2 : Pos} (hc : X.calm = true) (hg : Gl X "list") (hm : X.mg "list" = none) (hg2 : Gl X "range") (hm2 : X.mg "range" = none) (he : DR X Z e t)
    (na : starEach [e] X.env = (false, eval e X.env) :: starEach [] X.env) (nb : starEach [.Call (.Name "range" p2) [e] [] pos2] X.env = (false, eval (.Call (.Name "range" p2) [e] [] pos2) X.env) :: starEach [] X.env) :
    DF X Z (.Call (.Name "list" p) [.Call (.Name "range" p2) [e] [] pos2] [] pos) (dListRg t) := by
  refine ⟨fun E s Q Q' h q => he.mono _ _ _ _ (fun x s1 ⟨n, e, b, q⟩ => ⟨n, e, b, h _ _ q⟩) q, fun E W tk ek => PE.weak (pe_listRg hc hg hm (prg_1 hg2 hm2 (he.run E W tk ek) na) nb) fun σ H Q ⟨s, o, sr, q⟩ => ?_⟩
  refine ⟨s, o, sr, he.mono _ _ _ _ (fun d s1 ⟨n, e, b, z⟩ v H1 o1 sr1 st1 rv => ?_) q⟩
  subst e
  cases (show _ = _ from rv)
  refine ⟨n, rfl, ⟨by omega, by omega, by omega, by omega, by omega⟩, fun p np => ?_⟩
  refine df_new sr1 st1 ?_ np z
  unfold rangeD rgV
  rw [Int.sub_zero]
  generalize List.range n.toNat = l
  induction l with
  | nil => exact rfl
  | cons x l ih => exact ⟨_, _, rfl, rfl, ih⟩
end

/-! ### x.extend(e) -/
section
variable {X : Cx} {Z : Zf} {e : Expr} {te : DT} {pos : Pos}
def sExt (i : Nat) (t : DT) : DS := fun E D s => (∃ ds, s.ρ[i]? = some (.lst ds)) ∧ t E s fun d s' => ∃ ds es, s'.ρ[i]? = some (.lst ds) ∧ d = .lst es ∧ ds.length + es.length ≤ sizeLine ∧ D.nx ⟨s'.ρ.set i (.lst (ds ++ es)), s'.Γ⟩
theorem ds_ext {i : Nat} {apos cpos : Pos} {r : Expr} (hr : PE X r (tVar i)) (he : DE X Z e te) (hbase : attributeBase r "extend" X.env (eval r X.env) = eval r X.env)
    (hfew : ((backTo cpos (starEach [e] X.env)).all (fun x => !x.1) && (backToKw cpos (keywordEach [] X.env)).all (fun x => x.1.isSome) && decide ([e].length + ([] : List Keyword).length + (if ([] : List Keyword).isEmpty then 0 else 1) < 30)) = true)
    (hline : (apos.endLine == cpos.line) = true) (hs1 : starEach [e] X.env = (false, eval e X.env) :: starEach [] X.env) (hplain : (backTo cpos (starEach [] X.env)).any (·.1) = false) (hs : swapsWith (.Call (.Attribute r "extend" apos) [e] [] cpos) none pos.line X.env = pure false) :
    DPS X Z (.Expr (.Call (.Attribute r "extend" apos) [e] [] cpos) pos) (sExt i te) := by
  refine ⟨fun E s D D' h1 h2 h3 h4 q => ⟨q.1, he.mono _ _ _ _ (fun d s' ⟨ds, es, e, l, f, z⟩ => ⟨ds, es, e, l, f, h1 _ z⟩) q.2⟩, fun E W tk ek => PS.weak (ps_expr (pe_bm PySem.F.plainAttrs_list PySem.F.slot_list_extend PySem.F.type_list_extend mt_extend hr (pa_cons (he.run E W tk ek) pa_nil hs1) hbase hfew hline hs1 hplain) hs) fun D σ H ⟨s, o, De, sr, ⟨⟨ds0, hx0⟩, q⟩, ok⟩ => ?_⟩
  have sl := sr.slot i
  rw [hx0] at sl
  obtain ⟨a, vs, e0, e1, e2, e3⟩ := sl
  refine ⟨.ref a, e1, .inl ⟨rfl, vs, .inl (.inl e2)⟩, s, o, sr, he.mono _ _ _ _ (fun d s' z v H' o' sr' st rv => ?_) q⟩
  obtain ⟨ds, es, hx, rfl, hl, z⟩ := z
  obtain ⟨b, ws, rfl, hb, rb⟩ := rv
  have sl := sr'.slot i
  rw [hx] at sl
  obtain ⟨a', vs', f0, f1, f2, f3⟩ := sl
  have ea : a' = a := by
    rw [e1] at f1
    cases f1
    rfl
  subst ea
  refine ⟨a', b, vs', ws, rfl, rfl, f2, at_hid hb, by rw [← f3.len, ← rb.len]; exact hl, ?_⟩
  obtain ⟨p1, p2⟩ := sr'.writeO f0 hx (f3.app rb)
  exact ok.nx _ _ _ _ z p1 (st.s1.trans p2)
end

/-! ### x, y, z = a, b, c -/
section
variable {X : Cx} {Z : Zf} {a b c : Expr} {ta tb tc : DT} {pos : Pos} {i j l : Nat} {x y z : Str} {px py pz pt pt2 : Pos} {kt k2 : Nat}
def sPar3 (i j l : Nat) (ta tb tc : DT) : DS := fun E D s => ta E s fun x s1 => tb E s1 fun y s2 => tc E s2 fun z s3 => (i < s3.ρ.length ∧ j < s3.ρ.length ∧ l < s3.ρ.length) ∧ D.nx ⟨((s3.ρ.set i (.val x)).set j (.val y)).set l (.val z), s3.Γ⟩
theorem ds_par3 (hc : X.calm = true) (hN : X.N.Nodup) (hi : X.N[i]? = some x) (hj : X.N[j]? = some y) (hl : X.N[l]? = some z) (hij : i ≠ j) (hil : i ≠ l) (hjl : j ≠ l)
    (hx : X.env.scope.names.lookup x = some .local) (hy : X.env.scope.names.lookup y = some .local) (hz : X.env.scope.names.lookup z = some .local) (ha : DE X Z a ta) (hb : DE X Z b tb) (hcc : DE X Z c tc)
    (hs1 : starEach [a, b, c] X.env = (false, eval a X.env) :: starEach [b, c] X.env) (hs2 : starEach [b, c] X.env = (false, eval b X.env) :: starEach [c] X.env) (hs3 : starEach [c] X.env = (false, eval c X.env) :: starEach [] X.env)
    (hw : swappedStores [.Tuple [.Name x px, .Name y py, .Name z pz] kt pt] (.Tuple [a, b, c] k2 pt2) X.env = pure (some [x, y, z]))
    (hs : swapsWithSole [.Tuple [.Name x px, .Name y py, .Name z pz] kt pt] (.Tuple [a, b, c] k2 pt2) pos.line X.env = pure false) :
    DPS X Z (.Assign [.Tuple [.Name x px, .Name y py, .Name z pz] kt pt] (.Tuple [a, b, c] k2 pt2) pos) (sPar3 i j l ta tb tc) := by
  refine ⟨fun E s D D' h1 h2 h3 h4 q => ha.mono _ _ _ _ (fun x s1 q => hb.mono _ _ _ _ (fun y s2 q => hcc.mono _ _ _ _ (fun z s3 q => ⟨q.1, h1 _ q.2⟩) q) q) q,
    fun E W tk ek => PS.weak (ps_par3 hc hN hi hj hl hij hil hjl hx hy hz (pa_cons (ha.run E W tk ek) (pa_cons (hb.run E W tk ek) (pa_cons (hcc.run E W tk ek) pa_nil hs3) hs2) hs1) hw hs) fun D σ H ⟨s, o, De, sr, q, ok⟩ => ?_⟩
  refine ⟨s, o, sr, ha.mono _ _ _ _ (fun x s1 q v H1 o1 sr1 st1 rx => ⟨s1, o1, sr1, hb.mono _ _ _ _ (fun y s2 q w H2 o2 sr2 st2 ry => ⟨s2, o2, sr2, hcc.mono _ _ _ _ (fun z s3 q u H3 o3 sr3 st3 rz => ⟨v, w, u, rfl, ?_⟩) q⟩) q⟩) q⟩
  obtain ⟨p1, p2⟩ := sr3.put q.1.1 (Rep.mono (st2.s1.trans st3.s1) _ _ rx)
  obtain ⟨p3, p4⟩ := p1.put (i := j) (by show j < (s3.ρ.set i _).length; rw [List.length_set]; exact q.1.2.1) (Rep.mono (st3.s1.trans p2) _ _ ry)
  obtain ⟨p5, p6⟩ := p3.put (i := l) (by show l < ((s3.ρ.set i _).set j _).length; rw [List.length_set, List.length_set]; exact q.1.2.2) (Rep.mono (p2.trans p4) _ _ rz)
  exact ok.nx _ _ _ _ q.2 p5 (((st1.trans st2).trans st3).s1.trans (p2.trans (p4.trans p6)))
end
end DL

set_option Elab.async false
set_option linter.all false
set_option maxRecDepth 100000
set_option maxHeartbeats 1000000
namespace DL
open PySem PySem.Spec L2
open PyProof.Rows hiding St

/-! ### comprehensions of two fors -/
/-- the outer loop, turn by turn -/
def lcD2 (T : Tg) (tt : DTt) (ti1 : DTs) (T1 : Tg) (tt1 : DTt) (te : DT) (own own1 : List Nat) : List D → List D → DSt → (List D → DSt → Prop) → Prop
  | [], acc, s, Q => Q acc s
  | x :: xs, acc, s, Q => T.put x s.ρ fun ρ => tt noEx ⟨ρ, s.Γ⟩ fun b s2 =>
      if b = true then ti1 noEx s2 fun ds1 s3 => lcD T1 tt1 te own1 ds1 acc ⟨wipeS own1 s3.ρ, s3.Γ⟩ fun acc' s4 => lcD2 T tt ti1 T1 tt1 te own own1 xs acc' ⟨wipeS own s4.ρ, s4.Γ⟩ Q
      else lcD2 T tt ti1 T1 tt1 te own own1 xs acc ⟨wipeS own s2.ρ, s2.Γ⟩ Q
section
variable {T T1 : Tg} {tt tt1 : DTt} {ti1 : DTs} {te : DT} {own own1 : List Nat}
theorem lcD2_mono (mt : Mono tt) (mi1 : Mono ti1) (mt1 : Mono tt1) (me : Mono te) {Q Q' : List D → DSt → Prop} (h : ∀ ds s, Q ds s → Q' ds s) : ∀ {xs acc : List D} {s : DSt}, lcD2 T tt ti1 T1 tt1 te own own1 xs acc s Q → lcD2 T tt ti1 T1 tt1 te own own1 xs acc s Q'
  | [], _, _, q => h _ _ q
  | x :: xs, acc, s, q => Tg.put_mono (fun ρ q => mt _ _ _ _ (fun b s2 q => by
      cases b with
      | true => exact mi1 _ _ _ _ (fun ds1 s3 q => lcD_mono mt1 me (fun acc' s4 q => lcD2_mono mt mi1 mt1 me h q) q) q
      | false => exact lcD2_mono mt mi1 mt1 me h (show lcD2 T tt ti1 T1 tt1 te own own1 xs acc _ Q from q)) q) q
def dLc2 (own own1 : List Nat) (T : Tg) (ti : DTs) (tt : DTt) (T1 : Tg) (ti1 : DTs) (tt1 : DTt) (te : DT) : DTs := fun E s Q => ti E s fun ds s1 => (∀ i ∈ own, (s1.ρ.getD i .emp).isOwn = false) ∧
  lcD2 T tt ti1 T1 tt1 te own own1 ds [] ⟨wipeS own s1.ρ, s1.Γ⟩ fun acc s2 => Q acc ⟨restS own s2.ρ s1.ρ, s2.Γ⟩
variable {Z : Zf} {K : PySem.W.Frag} {σ : St}
theorem wipe_wipe {own own1 : List Nat} (h : ∀ i ∈ own1, i ∈ own) (σ : St) : wipe (wipe σ own1) own = wipe σ own := by
  apply List.ext_getElem?
  intro j
  rw [wipe_get, wipe_get, wipe_get]
  cases σ[j]? with
  | none => rfl
  | some x =>
    simp only [Option.map_some]
    by_cases h1 : j ∈ own1
    · simp [h j h1]
    · simp [h1]
theorem lc2_turn {L : Addr} {Hs : Hp} {ss : DSt} {os : Own} {H : Hp} {s : DSt} {o : Own} {acc : List D} {ds : List D} {i : Nat} {J : It} {S : Hp}
    {Q : List D → DSt → Prop} (hB : ¬ Z.B L) (h0 : Z.H0 L = none) (mt : Mono tt) (mi1 : Mono ti1) (mt1 : Mono tt1) (me : Mono te) (hT : ∀ i ∈ T.ixs, i ∈ own) (hT1 : ∀ i ∈ T1.ixs, i ∈ own1) (h1 : ∀ i ∈ own1, i ∈ own)
    (A : LcSt K Z L (wipe σ own) Hs ss os H s o acc) (hi : i < ds.length) (ok : ItOk K J ds S) (eS : Same S (S1 (Z.add L) H s o))
    (q : lcD2 T tt ti1 T1 tt1 te own own1 (ds.drop i) acc s Q) (x : V) (H' : Hp) (y : J.yld i H x H')
    {Nx : Hp → Prop} (next : ∀ H2 s2 o2 acc2, LcSt K Z L (wipe σ own) Hs ss os H2 s2 o2 acc2 → lcD2 T tt ti1 T1 tt1 te own own1 (ds.drop (i + 1)) acc2 s2 Q → Same S (S1 (Z.add L) H2 s2 o2) → Nx H2) :
    T.rd K x (wipe σ own) H' fun σ2 H2 => wipe σ2 own = wipe σ own ∧ aT K (Z.add L) tt noEx σ2 H2 fun b H3 => if b = true then aI K (Z.add L) ti1 noEx σ2 H3 fun J1 H4 =>
      ∃ W1 : Nat → Nat → Hp → Prop, (∃ m, W1 0 m H4) ∧ ∀ j k H, W1 j k H → (J1.stop j H ∧ Nx H) ∨ (J1.go j H ∧ ∃ Nx1 : Hp → Prop, (∀ H', Nx1 H' → ∃ k', k' < k ∧ W1 (j + 1) k' H') ∧
        ∀ x H', J1.yld j H x H' → T1.rd K x (wipe σ2 own1) H' fun σ3 H5 => wipe σ3 own1 = wipe σ2 own1 ∧ aT K (Z.add L) tt1 noEx σ3 H5 fun b H6 =>
          if b = true then aE K (Z.add L) te noEx σ3 H6 fun y H7 => ∃ acc, H7 L = some (.lst acc) ∧ acc.length < sizeLine ∧ Nx1 (upd H7 L (.lst (acc ++ [y]))) else Nx1 H6) else Nx H3 := by
  obtain ⟨d, hd, e1, rd⟩ := ok.yld i H x H' (mut1 (Z.add L) s o) hi (fun b hb => A.sr.mutH hb) eS y
  have sr1 := A.sr.alloc e1
  have hdrop : ds.drop i = d :: ds.drop (i + 1) := by
    rw [List.drop_eq_getElem_cons hi]
    rw [List.getElem?_eq_getElem hi] at hd
    rw [Option.some.inj hd]
  rw [hdrop] at q
  have q' : T.put d s.ρ fun ρ => tt noEx ⟨ρ, s.Γ⟩ fun b s2 =>
      if b = true then ti1 noEx s2 fun ds1 s3 => lcD T1 tt1 te own1 ds1 acc ⟨wipeS own1 s3.ρ, s3.Γ⟩ fun acc' s4 => lcD2 T tt ti1 T1 tt1 te own own1 (ds.drop (i + 1)) acc' ⟨wipeS own s4.ρ, s4.Γ⟩ Q
      else lcD2 T tt ti1 T1 tt1 te own own1 (ds.drop (i + 1)) acc ⟨wipeS own s2.ρ, s2.Γ⟩ Q := q
  refine lc_turn.Tg_rd_mono (fun σ2 H2 h => ?_) (Tg.ok sr1 rd q')
  obtain ⟨rfl, ρ', o', sr2, e2, ew, q2⟩ := h
  have ew' : wipe σ2 own = wipe σ own := by
    rw [ew own hT]
    apply List.ext_getElem?
    intro j
    rw [wipe_get, wipe_get]
    cases σ[j]? with
    | none => rfl
    | some x =>
      simp only [Option.map_some]
      by_cases hj : j ∈ own <;> simp [hj]
  refine ⟨ew', ⟨_, o', sr2, mt _ _ _ _ (fun b s3 hb H3 o3 sr3 st3 => ?_) q2⟩⟩
  have stA : StpD Z L Hs ss os H3 s3 o3 := ((A.st.step (.alloc e1)).ends (ρ := ρ') (o2 := o') e2).step st3
  obtain ⟨vs, hv, rv⟩ := A.hl
  have hv3 : H3 L = some (.lst vs) := st3.keepB L _ (.inl rfl) (e1 _ _ hv)
  have rv3 : Reps K (S1 (Z.add L) H3 s3 o3) acc vs := Reps.mono (((same_alloc e1).trans e2).trans st3.s1) _ _ rv
  have eS3 : Same S (S1 (Z.add L) H3 s3 o3) := ((eS.trans (same_alloc e1)).trans e2).trans st3.s1
  cases b with
  | false =>
    obtain ⟨w1, w2⟩ := sr3.wipe own
    rw [ew'] at w1
    exact next H3 _ _ acc ⟨w1, stA.ends w2, ⟨vs, hv3, Reps.mono w2 _ _ rv3⟩, w1.notIn hB⟩ hb (eS3.trans w2)
  | true =>
    refine ⟨s3, o3, sr3, mi1 _ _ _ _ (fun ds1 s4 hds J1 H4 o4 sr4 st4 ok1 => ?_) hb⟩
    have hv4 : H4 L = some (.lst vs) := st4.keepB L _ (.inl rfl) hv3
    have rv4 := Reps.mono st4.s1 _ _ rv3
    have stB : StpD Z L Hs ss os H4 s4 o4 := stA.step st4
    obtain ⟨w1, w2⟩ := sr4.wipe own1
    have A1 : LcSt K Z L (wipe σ2 own1) Hs ss os H4 ⟨wipeS own1 s4.ρ, s4.Γ⟩ (unOwns o4 own1) acc := ⟨w1, stB.ends w2, ⟨vs, hv4, Reps.mono w2 _ _ rv4⟩, w1.notIn hB⟩
    refine ⟨fun j k H' => k = ds1.length - j ∧ j ≤ ds1.length ∧ ∃ s' o' acc', LcSt K Z L (wipe σ2 own1) Hs ss os H' s' o' acc' ∧ Same S (S1 (Z.add L) H' s' o') ∧ Same (S1 (Z.add L) H4 s4 o4) (S1 (Z.add L) H' s' o') ∧
      lcD T1 tt1 te own1 (ds1.drop j) acc' s' fun acc' s4 => lcD2 T tt ti1 T1 tt1 te own own1 (ds.drop (i + 1)) acc' ⟨wipeS own s4.ρ, s4.Γ⟩ Q,
      ⟨ds1.length, rfl, Nat.zero_le _, _, _, acc, A1, (eS3.trans st4.s1).trans w2, w2, hds⟩, ?_⟩
    rintro j k H5 ⟨rfl, hj, s5, o5, acc5, A5, eS5, e5, q5⟩
    by_cases hlt : j < ds1.length
    · refine .inr ⟨ok1.go j H5 hlt (e5.trans hid_same), fun H2 => ∃ s2 o2 acc2, LcSt K Z L (wipe σ2 own1) Hs ss os H2 s2 o2 acc2 ∧ Same S (S1 (Z.add L) H2 s2 o2) ∧ Same (S1 (Z.add L) H4 s4 o4) (S1 (Z.add L) H2 s2 o2) ∧ lcD T1 tt1 te own1 (ds1.drop (j + 1)) acc2 s2 _,
        fun H2 ⟨s2, o2, acc2, A2, f1, f2, q2⟩ => ⟨ds1.length - (j + 1), by omega, rfl, hlt, s2, o2, acc2, A2, f1, f2, q2⟩, fun x1 H6 y1 => ?_⟩
      refine lc_turn (W := fun _ _ _ => True) (S := S1 (Z.add L) H4 s4 o4) hB h0 mt1 me hT1 A5 hlt ok1 e5 q5 x1 H6 y1 fun H7 s7 o7 acc7 A7 q7 e7 => ⟨s7, o7, acc7, A7, ?_, e7, q7⟩
      exact (eS3.trans st4.s1).trans e7
    · obtain rfl : j = ds1.length := by omega
      rw [List.drop_length] at q5
      refine .inl ⟨ok1.stop H5 (e5.trans hid_same), ?_⟩
      obtain ⟨w3, w4⟩ := A5.sr.wipe own
      rw [wipe_wipe h1, ew'] at w3
      obtain ⟨vs5, hv5, rv5⟩ := A5.hl
      exact next H5 _ _ acc5 ⟨w3, A5.st.ends w4, ⟨vs5, hv5, Reps.mono w4 _ _ rv5⟩, w3.notIn hB⟩ q5 (eS5.trans w4)
theorem lc2_weak {ti : DTs} {E : DE'} {H : Hp} {Q : VK} (mi : Mono ti) (mt : Mono tt) (mi1 : Mono ti1) (mt1 : Mono tt1) (me : Mono te) (hT : ∀ i ∈ T.ixs, i ∈ own) (hT1 : ∀ i ∈ T1.ixs, i ∈ own1) (h1 : ∀ i ∈ own1, i ∈ own)
    (h : aF K Z (dLc2 own own1 T ti tt T1 ti1 tt1 te) E σ H Q) : aI K Z ti E σ H fun J H1 => ∀ L, H1 L = none → ∃ W : Nat → Nat → Hp → Prop, (∃ m, W 0 m (upd H1 L (.lst []))) ∧ ∀ i m H, W i m H →
      (J.stop i H ∧ Q (.ref L) H) ∨ (J.go i H ∧ ∃ Nx : Hp → Prop, (∀ H', Nx H' → ∃ m', m' < m ∧ W (i + 1) m' H') ∧ ∀ x H', J.yld i H x H' → T.rd K x (wipe σ own) H' fun σ2 H2 => wipe σ2 own = wipe σ own ∧ aT K (Z.add L) tt noEx σ2 H2 fun b H3 =>
        if b = true then aI K (Z.add L) ti1 noEx σ2 H3 fun J1 H4 =>
      ∃ W1 : Nat → Nat → Hp → Prop, (∃ m, W1 0 m H4) ∧ ∀ j k H, W1 j k H → (J1.stop j H ∧ Nx H) ∨ (J1.go j H ∧ ∃ Nx1 : Hp → Prop, (∀ H', Nx1 H' → ∃ k', k' < k ∧ W1 (j + 1) k' H') ∧
        ∀ x H', J1.yld j H x H' → T1.rd K x (wipe σ2 own1) H' fun σ3 H5 => wipe σ3 own1 = wipe σ2 own1 ∧ aT K (Z.add L) tt1 noEx σ3 H5 fun b H6 =>
          if b = true then aE K (Z.add L) te noEx σ3 H6 fun y H7 => ∃ acc, H7 L = some (.lst acc) ∧ acc.length < sizeLine ∧ Nx1 (upd H7 L (.lst (acc ++ [y]))) else Nx1 H6) else Nx H3) := by
  obtain ⟨s, o, sr, q⟩ := h
  refine ⟨s, o, sr, mi _ _ _ _ (fun ds s1 ⟨hown, hq⟩ J H1 o1 sr1 st1 ok L nL => ?_) q⟩
  have hB : ¬ Z.B L := fun z => by
    obtain ⟨u, e⟩ := sr1.bok L z
    rw [nL] at e
    cases e
  have h0 := sr1.newH0 nL
  obtain ⟨a1, a2⟩ := sr1.addNew (u := .lst []) nL
  obtain ⟨w1, w2⟩ := a1.wipe own
  have start : LcSt K Z L (wipe σ own) H s o (upd H1 L (.lst [])) ⟨wipeS own s1.ρ, s1.Γ⟩ (unOwns o1 own) [] := by
    refine ⟨w1, ⟨st1.s1.trans (a2.trans w2), st1.s2.trans (same_hid fun b u n h => ⟨fun z => ?_, same_new nL _ _ h⟩), fun b h => st1.new b ((same_new nL).free h), fun b u hb h => same_new nL _ _ (st1.keepB b u hb h)⟩, ⟨[], upd_same, rfl⟩, w1.notIn hB⟩
    rcases z with (z | z) | z
    · rw [z, nL] at h
      cases h
    · exact n (.inl z)
    · exact n (.inr z)
  refine ⟨fun i m H' => m = ds.length - i ∧ i ≤ ds.length ∧ ∃ s' o' acc, LcSt K Z L (wipe σ own) H s o H' s' o' acc ∧ Same (S1 Z H1 s1 o1) (S1 (Z.add L) H' s' o') ∧ lcD2 T tt ti1 T1 tt1 te own own1 (ds.drop i) acc s' fun acc s2 => ∀ a vs H' o', SR K (Z.add a) σ H' ⟨restS own s2.ρ s1.ρ, s2.Γ⟩ o' → Stp Z H s o H' ⟨restS own s2.ρ s1.ρ, s2.Γ⟩ o' → H a = none → H' a = some (.lst vs) →
      ¬ mut1 Z ⟨restS own s2.ρ s1.ρ, s2.Γ⟩ o' a → Reps K (S1 (Z.add a) H' ⟨restS own s2.ρ s1.ρ, s2.Γ⟩ o') acc vs → Q (.ref a) H',
    ⟨ds.length, rfl, Nat.zero_le _, _, _, [], start, a2.trans w2, hq⟩, ?_⟩
  rintro i m H' ⟨rfl, hi, s', o', acc, A, eS, hq⟩
  by_cases hlt : i < ds.length
  · refine .inr ⟨ok.go i H' hlt (eS.trans hid_same), fun H2 => ∃ s2 o2 acc2, LcSt K Z L (wipe σ own) H s o H2 s2 o2 acc2 ∧ Same (S1 Z H1 s1 o1) (S1 (Z.add L) H2 s2 o2) ∧ lcD2 T tt ti1 T1 tt1 te own own1 (ds.drop (i + 1)) acc2 s2 _, fun H2 ⟨s2, o2, acc2, A2, e2, q2⟩ => ⟨ds.length - (i + 1), by omega, rfl, hlt, s2, o2, acc2, A2, e2, q2⟩, fun x H2 y => ?_⟩
    exact lc2_turn hB h0 mt mi1 mt1 me hT hT1 h1 A hlt ok eS hq x H2 y fun H3 s3 o3 acc3 A3 q3 e3 => ⟨s3, o3, acc3, A3, e3, q3⟩
  · have e : i = ds.length := by omega
    subst e
    rw [List.drop_length] at hq
    refine .inl ⟨ok.stop H' (eS.trans hid_same), ?_⟩
    obtain ⟨vs, hv, rv⟩ := A.hl
    obtain ⟨g1, g2⟩ := SR.rest (H0 := H1) (s0 := s1) (o0 := o1) (own := own) A.sr.drop sr1 (eS.trans add_sub) hown
    have g3 := SR.rest (Z := Z.add L) (H0 := upd H1 L (.lst [])) (s0 := s1) (o0 := o1) (own := own) A.sr a1 ?_ hown
    · exact (show ∀ a vs H' o', SR K (Z.add a) σ H' ⟨restS own s'.ρ s1.ρ, s'.Γ⟩ o' → Stp Z H s o H' ⟨restS own s'.ρ s1.ρ, s'.Γ⟩ o' → H a = none → H' a = some (.lst vs) →
        ¬ mut1 Z ⟨restS own s'.ρ s1.ρ, s'.Γ⟩ o' a → Reps K (S1 (Z.add a) H' ⟨restS own s'.ρ s1.ρ, s'.Γ⟩ o') acc vs → Q (.ref a) H' from hq) L vs H' _ g3.1 (A.st.ends g3.2).out (st1.new _ nL) hv (g3.1.notIn hB) (Reps.mono g3.2 _ _ rv)
    · refine Same.trans (fun b u h => ?_) eS
      have h' := hid_some.mp h
      have nb : b ≠ L := fun e => h'.1 (.inl (.inl e))
      refine hid_some.mpr ⟨fun z => h'.1 (z.elim (fun z => .inl (.inr z)) .inr), ?_⟩
      rw [upd_ne nb] at h'
      exact h'.2
end
section
variable {X : Cx} {Z : Zf}
/-- [elt for t in iter if .. for t1 in iter1 if ..] -/
theorem df_lc2 {elt tg iter tg1 iter1 : Expr} {ifs ifs1 : List Expr} {scope : Scope} {pos : Pos} {ti ti1 : DTs} {tt tt1 : DTt} {te : DT} (T T1 : Tg) (own : List (Str × Nat)) (own1 : List Nat) (hc : X.calm = true) (hN : X.N.Nodup) (hi : DI X Z tg iter ti) (ok : blkC X.N X.env.scope scope own = true) (hv : ∀ i ∈ own1, i ∈ own.map (·.2))
    (hg : ∀ (s : Shared) (H : Hp) (C : Addr) (cl : List (Str × Addr)) (fp : List Addr), PG (X.blk s H scope (compEnvC scope cl C X.env) fp) tg (T.rd X.K)) (hT : ∀ i ∈ T.ixs, i ∈ own.map (·.2))
    (ht : ∀ (s : Shared) (H : Hp) (C : Addr) (cl : List (Str × Addr)) (fp : List Addr) (L : Addr), DTs' (X.blk s H scope (compEnvC scope cl C X.env) fp) (Z.add L) ifs tt)
    (hi1 : ∀ (s : Shared) (H : Hp) (C : Addr) (cl : List (Str × Addr)) (fp : List Addr) (L : Addr), DI (X.blk s H scope (compEnvC scope cl C X.env) fp) (Z.add L) tg1 iter1 ti1)
    (hg1 : ∀ (s : Shared) (H : Hp) (C : Addr) (cl : List (Str × Addr)) (fp : List Addr), PG (X.blk s H scope (compEnvC scope cl C X.env) fp) tg1 (T1.rd X.K)) (hT1 : ∀ i ∈ T1.ixs, i ∈ own1)
    (ht1 : ∀ (s : Shared) (H : Hp) (C : Addr) (cl : List (Str × Addr)) (fp : List Addr) (L : Addr), DTs' (X.blk s H scope (compEnvC scope cl C X.env) fp) (Z.add L) ifs1 tt1)
    (he : ∀ (s : Shared) (H : Hp) (C : Addr) (cl : List (Str × Addr)) (fp : List Addr) (L : Addr), DE (X.blk s H scope (compEnvC scope cl C X.env) fp) (Z.add L) elt te) (hs : ∀ x, foldedSetIterable iter X.env x = pure x) (hs1 : ∀ env x, foldedSetIterable iter1 env x = pure x) :
    DF X Z (.ListComp elt [⟨tg, iter, ifs, 0⟩, ⟨tg1, iter1, ifs1, 0⟩] scope pos) (dLc2 (own.map (·.2)) own1 T ti tt T1 ti1 tt1 te) := by
  have mt := (ht {} (fun _ => none) 0 [] [] 0).mono
  have mi1 := (hi1 {} (fun _ => none) 0 [] [] 0).mono
  have mt1 := (ht1 {} (fun _ => none) 0 [] [] 0).mono
  have me := (he {} (fun _ => none) 0 [] [] 0).mono
  refine ⟨fun E s Q Q' m q => hi.mono _ _ _ _ (fun ds s1 ⟨h1, h2⟩ => ⟨h1, lcD2_mono mt mi1 mt1 me (fun acc s2 z => m _ _ z) h2⟩) q, fun E W tk ek => PE.weak (pe_lc2 hc hN (hi.run E W tk ek) (blkOk_by ok) hv hg
    (tt := fun σ H Q => ∃ L, aT X.K (Z.add L) tt noEx σ H Q) (wi1 := fun σ H Q => ∃ L, aI X.K (Z.add L) ti1 noEx σ H Q) (tt1 := fun σ H Q => ∃ L, aT X.K (Z.add L) tt1 noEx σ H Q) (te := fun σ H Q => ∃ L, aE X.K (Z.add L) te noEx σ H Q)
    (fun s H C cl fp => ⟨fun pins s' σ H' Q I ⟨L, q⟩ => ((ht s H C cl fp L).run noEx _ takes_no eok_none).run pins s' σ H' Q I q⟩)
    (fun s H C cl fp => ⟨fun pins s' σ H' Q I ⟨L, q⟩ => ((hi1 s H C cl fp L).run noEx _ takes_no eok_none).run pins s' σ H' Q I q⟩) hg1
    (fun s H C cl fp => ⟨fun pins s' σ H' Q I ⟨L, q⟩ => ((ht1 s H C cl fp L).run noEx _ takes_no eok_none).run pins s' σ H' Q I q⟩)
    (fun s H C cl fp => ⟨fun pins s' σ H' Q I ⟨L, q⟩ => ((he s H C cl fp L).run noEx _ takes_no eok_none).run pins s' σ H' Q I q⟩) hs hs1) fun σ H Q h => ?_⟩
  obtain ⟨s, o, sr, q⟩ := lc2_weak hi.mono mt mi1 mt1 me hT hT1 hv h
  refine ⟨s, o, sr, hi.mono _ _ _ _ (fun ds s1 z J H1 o1 sr1 st1 ok1 L nL => ?_) q⟩
  obtain ⟨Wv, hm, turn⟩ := z J H1 o1 sr1 st1 ok1 L nL
  refine ⟨Wv, hm, fun i m H' hW => (turn i m H' hW).imp id fun ⟨go, Nx, hN, st⟩ => ⟨go, Nx, hN, fun x H2 y => lc_turn.Tg_rd_mono (fun σ2 H3 ⟨e, q⟩ => ⟨e, L, ?_⟩) (st x H2 y)⟩⟩
  obtain ⟨s3, o3, sr3, q3⟩ := q
  refine ⟨s3, o3, sr3, mt _ _ _ _ (fun b s4 z H4 o4 sr4 st4 => ?_) q3⟩
  have z := z H4 o4 sr4 st4
  cases b with
  | false => exact z
  | true =>
    refine ⟨L, ?_⟩
    obtain ⟨s5, o5, sr5, q5⟩ := z
    refine ⟨s5, o5, sr5, mi1 _ _ _ _ (fun ds1 s6 z J1 H6 o6 sr6 st6 ok6 => ?_) q5⟩
    obtain ⟨W1, hm1, turn1⟩ := z J1 H6 o6 sr6 st6 ok6
    refine ⟨W1, hm1, fun j k H7 hW1 => (turn1 j k H7 hW1).imp id fun ⟨go1, Nx1, hN1, st1⟩ => ⟨go1, Nx1, hN1, fun x1 H8 y1 => lc_turn.Tg_rd_mono (fun σ3 H9 ⟨e, q⟩ => ⟨e, L, ?_⟩) (st1 x1 H8 y1)⟩⟩
    obtain ⟨s7, o7, sr7, q7⟩ := q
    refine ⟨s7, o7, sr7, mt1 _ _ _ _ (fun b1 s8 z H10 o8 sr8 st8 => ?_) q7⟩
    have z := z H10 o8 sr8 st8
    cases b1 with
    | true => exact ⟨L, z⟩
    | false => exact z
end
end DL

set_option Elab.async false
set_option linter.all false
set_option maxRecDepth 100000
namespace DL
open PySem PySem.Spec L2
open PyProof.Rows hiding St

/-! ### readings evaluated -/
section
variable {p : DSt → D → (D → Prop) → Prop} {p' : P2} {s : DSt} {x y : D} {Q : D → Prop} {Qs : List D → Prop}
theorem p1_eq : p1 p s [x] Q = p s x Q := propext ⟨fun ⟨_, e, h⟩ => by cases e; exact h, fun h => ⟨_, rfl, h⟩⟩
theorem p2_eq : p2 p' s [x, y] Q = p' s x y Q := propext ⟨fun ⟨_, _, e, h⟩ => by cases e; exact h, fun h => ⟨_, _, rfl, h⟩⟩
theorem isi_eq {n : String} : pIsi s x (.ty n) Q = ∃ b, isiD x n = some b ∧ Q (.bl b) := rfl
theorem lf_eq : (∃ y, [x] = [y] ∧ pListF y Qs) = pListF x Qs := propext ⟨fun ⟨_, e, h⟩ => by cases e; exact h, fun h => ⟨_, rfl, h⟩⟩
theorem ex_some {α : Type} {a : α} {p : α → Prop} : (∃ b, some a = some b ∧ p b) = p a := propext ⟨fun ⟨b, e, h⟩ => by cases e; exact h, fun h => ⟨a, rfl, h⟩⟩
theorem ex2_eq {α β : Type} {a : α} {b : β} {P : α → β → Prop} : (∃ x y, (a = x ∧ b = y) ∧ P x y) = P a b := propext ⟨fun ⟨_, _, ⟨e, e'⟩, h⟩ => by cases e; cases e'; exact h, fun h => ⟨_, _, ⟨rfl, rfl⟩, h⟩⟩
theorem eq_pEq (h : okD x) (h' : okD y) (q : Q (.bl (eqD x y))) : pEq s x y Q := .inl ⟨h, h', q⟩
theorem eq_pNe (h : okD x) (h' : okD y) (q : Q (.bl (!eqD x y))) : pNe s x y Q := .inl ⟨h, h', q⟩
end
theorem atI_0 {α : Type} {a : α} {l : List α} : atI (a :: l) 0 = some a := by
  unfold atI ixN
  simp
theorem atI_nat {α : Type} {l : List α} {n : Nat} (h : n < l.length) : atI l (n : Int) = some l[n] := by
  unfold atI ixN
  rw [if_pos (by omega), if_pos (by omega)]
  simp [h]
theorem atI_1 {α : Type} {a b : α} {l : List α} : atI (a :: b :: l) 1 = some b := atI_nat (l := a :: b :: l) (n := 1) (by simp)
theorem atI_2 {α : Type} {a b c : α} {l : List α} : atI (a :: b :: c :: l) 2 = some c := atI_nat (l := a :: b :: c :: l) (n := 2) (by simp)
theorem ix3_0 : ixN 3 0 = some 0 := rfl
theorem ix3_1 : ixN 3 1 = some 1 := rfl
theorem ix3_2 : ixN 3 2 = some 2 := rfl
theorem sz_0 : (0 ≤ sizeLine) = True := eq_true (by rw [sizeLine_eq]; decide)
theorem sz_1 : (1 ≤ sizeLine) = True := eq_true (by rw [sizeLine_eq]; decide)
theorem sz_2 : (2 ≤ sizeLine) = True := eq_true (by rw [sizeLine_eq]; decide)
theorem sz_3 : (3 ≤ sizeLine) = True := eq_true (by rw [sizeLine_eq]; decide)
theorem sz_4 : (4 ≤ sizeLine) = True := eq_true (by rw [sizeLine_eq]; decide)
theorem sz_5 : (5 ≤ sizeLine) = True := eq_true (by rw [sizeLine_eq]; decide)
theorem sz_6 : (6 ≤ sizeLine) = True := eq_true (by rw [sizeLine_eq]; decide)
theorem sz_7 : (7 ≤ sizeLine) = True := eq_true (by rw [sizeLine_eq]; decide)
theorem sz_8 : (8 ≤ sizeLine) = True := eq_true (by rw [sizeLine_eq]; decide)
theorem sz_9 : (9 ≤ sizeLine) = True := eq_true (by rw [sizeLine_eq]; decide)
theorem sz_10 : (10 ≤ sizeLine) = True := eq_true (by rw [sizeLine_eq]; decide)
theorem sz_11 : (11 ≤ sizeLine) = True := eq_true (by rw [sizeLine_eq]; decide)
theorem sz_12 : (12 ≤ sizeLine) = True := eq_true (by rw [sizeLine_eq]; decide)
theorem sz_13 : (13 ≤ sizeLine) = True := eq_true (by rw [sizeLine_eq]; decide)
theorem sz_14 : (14 ≤ sizeLine) = True := eq_true (by rw [sizeLine_eq]; decide)
theorem sz_15 : (15 ≤ sizeLine) = True := eq_true (by rw [sizeLine_eq]; decide)
theorem sz_16 : (16 ≤ sizeLine) = True := eq_true (by rw [sizeLine_eq]; decide)
theorem sz_17 : (17 ≤ sizeLine) = True := eq_true (by rw [sizeLine_eq]; decide)
theorem sz_18 : (18 ≤ sizeLine) = True := eq_true (by rw [sizeLine_eq]; decide)
theorem sz_19 : (19 ≤ sizeLine) = True := eq_true (by rw [sizeLine_eq]; decide)
theorem sz_20 : (20 ≤ sizeLine) = True := eq_true (by rw [sizeLine_eq]; decide)
theorem sz_21 : (21 ≤ sizeLine) = True := eq_true (by rw [sizeLine_eq]; decide)
theorem sz_22 : (22 ≤ sizeLine) = True := eq_true (by rw [sizeLine_eq]; decide)
theorem sz_23 : (23 ≤ sizeLine) = True := eq_true (by rw [sizeLine_eq]; decide)
theorem sz_24 : (24 ≤ sizeLine) = True := eq_true (by rw [sizeLine_eq]; decide)
theorem sz_25 : (25 ≤ sizeLine) = True := eq_true (by rw [sizeLine_eq]; decide)
theorem sz_26 : (26 ≤ sizeLine) = True := eq_true (by rw [sizeLine_eq]; decide)
theorem sz_27 : (27 ≤ sizeLine) = True := eq_true (by rw [sizeLine_eq]; decide)
theorem sz_28 : (28 ≤ sizeLine) = True := eq_true (by rw [sizeLine_eq]; decide)
theorem sz_29 : (29 ≤ sizeLine) = True := eq_true (by rw [sizeLine_eq]; decide)
theorem sz_30 : (30 ≤ sizeLine) = True := eq_true (by rw [sizeLine_eq]; decide)
theorem sz_31 : (31 ≤ sizeLine) = True := eq_true (by rw [sizeLine_eq]; decide)
theorem sz_32 : (32 ≤ sizeLine) = True := eq_true (by rw [sizeLine_eq]; decide)
def emps : Nat → List Sl
  | 0 => []
  | n + 1 => .emp :: emps n
theorem dFn_nil {sp : DSp} {t : DTs} {E : DE'} {s : DSt} {Q : D → DSt → Prop} : dFn sp [] t E s Q = t E s fun ds s1 => sp (fun x Γ => E x ⟨s1.ρ, Γ⟩) ds s1.Γ (RD Q s1.ρ) := by
  unfold dFn
  simp only [List.append_nil]
theorem dFnF_nil {sp : DSp} {t : DTs} {E : DE'} {s : DSt} {Q : List D → DSt → Prop} : dFnF sp [] t E s Q = t E s fun ds s1 => sp (fun x Γ => E x ⟨s1.ρ, Γ⟩) ds s1.Γ (RDs Q s1.ρ) := by
  unfold dFnF
  simp only [List.append_nil]
theorem dFnK_nil {sp : DSp} {t : DTs} {E : DE'} {s : DSt} {Q : List (Key × D) → DSt → Prop} : dFnK sp [] t E s Q = t E s fun ds s1 => sp (fun x Γ => E x ⟨s1.ρ, Γ⟩) ds s1.Γ (RDk Q s1.ρ) := by
  unfold dFnK
  simp only [List.append_nil]
def stD : Nat → List D → List Sl
  | 0, ds => ds.map .val
  | n + 1, [] => .emp :: stD n []
  | n + 1, d :: ds => .val d :: stD n ds
theorem stD_nil : ∀ n, stD n [] = List.replicate n .emp
  | 0 => rfl
  | n + 1 => by
    show Sl.emp :: stD n [] = _
    rw [stD_nil n]
    rfl
theorem startD_eq : ∀ (n : Nat) (ds : List D), startD n ds = stD n ds
  | 0, ds => by
    unfold startD stD
    rw [Nat.zero_sub]
    exact List.append_nil _
  | n + 1, [] => by
    unfold startD
    rw [stD_nil]
    rfl
  | n + 1, d :: ds => by
    show _ = Sl.val d :: stD n ds
    rw [← startD_eq n ds]
    unfold startD
    rw [List.length_cons, Nat.add_sub_add_right]
    rfl
/-! the parts of a reading, by the values' shapes -/
section
variable {s : DSt} {Q : D → Prop} {Qb : Bool → Prop} {Ql : List D → Prop} {QD : D → DSt → Prop} {Qd : List D → DSt → Prop} {Qk : List (Key × D) → DSt → Prop} {ρ : List Sl} {Γ : Gam} {i j : Int} {a b : List D} {x y : Str} {k l : Bool} {d e : D} {C : Int → Int → Prop} {g : Int → Int → D} {h : Int → Int → Int} {kv : List (Key × D)} {n : Nat} {o u : Option Int} {neg : Bool} {A : Addr}
theorem pTru_n : pTru .non Qb = Qb false := rfl
theorem pTru_b : pTru (.bl k) Qb = Qb k := rfl
theorem pTru_i : pTru (.int i) Qb = Qb (i != 0) := rfl
theorem pTru_s : pTru (.str x) Qb = (x.length ≤ sizeLine ∧ Qb ((x.length : Int) != 0)) := rfl
theorem pTru_l : pTru (.lst a) Qb = Qb (!a.isEmpty) := rfl
theorem pTru_t : pTru (.tup a) Qb = Qb (!a.isEmpty) := rfl
theorem pTru_q : pTru (.sq a) Qb = Qb (!a.isEmpty) := rfl
theorem pTru_d : pTru (.dct kv) Qb = Qb (!kv.isEmpty) := rfl
theorem pI_i : pI C g s (.int i) (.int j) Q = (C i j ∧ Q (g i j)) := rfl
theorem pAdd_i : pAdd s (.int i) (.int j) Q = Q (.int (i + j)) := rfl
theorem pAdd_s : pAdd s (.str x) (.str y) Q = (x.length + y.length ≤ sizeLine ∧ Q (.str (x ++ y))) := rfl
theorem pAdd_t : pAdd s (.tup a) (.tup b) Q = (a.length + b.length ≤ sizeLine ∧ Q (.tup (a ++ b))) := rfl
theorem pAdd_l : pAdd s (.lst a) (.lst b) Q = (a.length + b.length ≤ sizeLine ∧ Q (.lst (a ++ b))) := rfl
theorem pMul_i : pMul s (.int i) (.int j) Q = (CMulW i j ∧ Q (.int (i * j))) := rfl
theorem pMul_l : pMul s (.lst a) (.int j) Q = (-(2 ^ 63) ≤ j ∧ j < 2 ^ 63 ∧ a.length * j.toNat ≤ sizeLine ∧ Q (.lst (List.replicate j.toNat a).flatten)) := rfl
theorem pMul_t : pMul s (.tup a) (.int j) Q = (-(2 ^ 63) ≤ j ∧ j < 2 ^ 63 ∧ (a = [] ∨ j ≤ 1 ∨ (j ≤ 1000 ∧ a.length ≤ 1000)) ∧ Q (.tup (List.replicate j.toNat a).flatten)) := rfl
theorem pNeg_i : pNeg s (.int i) Q = Q (.int (-i)) := rfl
theorem pLt_i : pLt s (.int i) (.int j) Q = Q (.bl (decide (i < j))) := rfl
theorem pLt_s : pLt s (.str x) (.str y) Q = Q (.bl (decide (x.cps.toList < y.cps.toList))) := rfl
theorem pIs_n : pIs neg s d .non Q = Q (.bl (neg != isNon d)) := rfl
theorem pIs_b : pIs neg s (.bl k) (.bl l) Q = Q (.bl (neg != decide (k = l))) := rfl
theorem pLen_l : pLen s (.lst a) Q = Q (.int a.length) := rfl
theorem pLen_t : pLen s (.tup a) Q = Q (.int a.length) := rfl
theorem pLen_q : pLen s (.sq a) Q = Q (.int a.length) := rfl
theorem pLen_s : pLen s (.str x) Q = (x.length ≤ sizeLine ∧ Q (.int x.length)) := rfl
theorem pTup_l : pTup s (.lst a) Q = Q (.tup a) := rfl
theorem pTup_t : pTup s (.tup a) Q = Q (.tup a) := rfl
theorem pTup_q : pTup s (.sq a) Q = Q (.tup a) := rfl
theorem pList_l : pList s (.lst a) Q = Q (.lst a) := rfl
theorem pList_t : pList s (.tup a) Q = Q (.lst a) := rfl
theorem pList_q : pList s (.sq a) Q = Q (.lst a) := rfl
theorem pListF_l : pListF (.lst a) Ql = Ql a := rfl
theorem pListF_t : pListF (.tup a) Ql = Ql a := rfl
theorem pListF_q : pListF (.sq a) Ql = Ql a := rfl
theorem pInt_i : pInt s (.int i) Q = Q (.int i) := rfl
theorem pInt_b : pInt s (.bl k) Q = Q (.int (if k then 1 else 0)) := rfl
theorem pAbs_i : pAbs s (.int i) Q = Q (.int (if i < 0 then -i else i)) := rfl
theorem pI2_i : pI2 h s (.int i) (.int j) Q = Q (.int (h i j)) := rfl
theorem pStr_i : pStr s (.int i) Q = (i.natAbs.log2 < 1920 ∧ Q (.str (toString i))) := rfl
theorem pIx_l : pIx s (.lst a) (.int i) Q = ∃ d, atI a i = some d ∧ Q d := rfl
theorem pIx_t : pIx s (.tup a) (.int i) Q = ∃ d, atI a i = some d ∧ Q d := rfl
theorem pIx_q : pIx s (.sq a) (.int i) Q = ∃ d, atI a i = some d ∧ Q d := rfl
theorem pIx_s : pIx s (.str x) (.int i) Q = (x.length ≤ sizeLine ∧ ∃ c, atI x.cps.toList i = some c ∧ Q (.str ⟨#[c]⟩)) := rfl
theorem pIx_r : pIx s (.ref A) (.int i) Q = ∃ ds d, s.Γ.lookup A = some ds ∧ atI ds i = some d ∧ Q d := rfl
theorem pCat_l : pCat (.lst a) (.lst b) Ql = (a.length + b.length ≤ sizeLine ∧ Ql (a ++ b)) := rfl
theorem pRepL_l : pRepL (.lst a) (.int j) Ql = (-(2 ^ 63) ≤ j ∧ j < 2 ^ 63 ∧ a.length * j.toNat ≤ sizeLine ∧ Ql (List.replicate j.toNat a).flatten) := rfl
theorem pRev_l : pRev (.lst a) Q = Q (.lst a.reverse) := rfl
theorem pRev_t : pRev (.tup a) Q = Q (.tup a.reverse) := rfl
theorem seqD_l : seqD (.lst a) Ql = Ql a := rfl
theorem seqD_t : seqD (.tup a) Ql = Ql a := rfl
theorem seqD_q : seqD (.sq a) Ql = Ql a := rfl
theorem seqD_s : seqD (.str x) Ql = Ql (strD x) := rfl
theorem sq2_l : sq2 (.lst a) Ql = Ql a := rfl
theorem sq2_t : sq2 (.tup a) Ql = Ql a := rfl
theorem sq2_q : sq2 (.sq a) Ql = Ql a := rfl
theorem RD_v : RD QD ρ (.val d) Γ = QD d ⟨ρ, Γ⟩ := rfl
theorem RD_l : RD QD ρ (.lst a) Γ = QD (.lst a) ⟨ρ, Γ⟩ := rfl
theorem RD_d : RD QD ρ (.dct kv) Γ = QD (.dct kv) ⟨ρ, Γ⟩ := rfl
theorem RDs_l : RDs Qd ρ (.lst a) Γ = Qd a ⟨ρ, Γ⟩ := rfl
theorem RDk_d : RDk Qk ρ (.dct kv) Γ = Qk kv ⟨ρ, Γ⟩ := rfl
theorem slotD_v : slotD QD s n (some (.val d)) = QD d s := rfl
theorem slotD_l : slotD QD s n (some (.lst a)) = QD (.lst a) ⟨s.ρ.set n (.val (.lst a)), s.Γ⟩ := rfl
theorem slotD_d : slotD QD s n (some (.dct kv)) = QD (.dct kv) ⟨s.ρ.set n (.val (.dct kv)), s.Γ⟩ := rfl
theorem slotP_v : slotP QD s (some (.val d)) = QD d s := rfl
theorem slotP_l : slotP QD s (some (.lst a)) = QD (.lst a) s := rfl
theorem slotP_d : slotP QD s (some (.dct kv)) = QD (.dct kv) s := rfl
theorem sq1_eq {x : D} {P : List D → Prop} : (∃ y, [x] = [y] ∧ sq2 y P) = sq2 x P := propext ⟨fun ⟨_, e, h⟩ => by cases e; exact h, fun h => ⟨_, rfl, h⟩⟩
theorem pMaxL_l : pMaxL s (.lst a) Q = ∃ ns, intsD a = some ns ∧ ns ≠ [] ∧ Q (.int (maxZ ns)) := rfl
theorem pMinL_l : pMinL s (.lst a) Q = ∃ ns, intsD a = some ns ∧ ns ≠ [] ∧ Q (.int (minZ ns)) := rfl
theorem put_1 {Qρ : List Sl → Prop} {m : Nat} : (Tg.one m).put d ρ Qρ = (m < ρ.length ∧ Qρ (ρ.set m (.val d))) := rfl
theorem put_2 {Qρ : List Sl → Prop} {m m' : Nat} : (Tg.many [m, m']).put (.tup [d, e]) ρ Qρ = (m < ρ.length ∧ m' < (ρ.set m (.val d)).length ∧ Qρ ((ρ.set m (.val d)).set m' (.val e))) := rfl
end
/-- a value of data -/
def isTup : D → Bool | .tup _ => true | _ => false
def isInt : D → Bool | .int _ => true | _ => false
def isBl : D → Bool | .bl _ => true | _ => false
def dat (d : D) : Bool := (tyN d).isSome
theorem isi_tup {x : D} (h : dat x = true) : isiD x "tuple" = some (isTup x) := by cases x <;> first | rfl | cases h
theorem isi_int {x : D} (h : dat x = true) : isiD x "int" = some (isInt x || isBl x) := by cases x <;> first | rfl | cases h
theorem isi_bool {x : D} (h : dat x = true) : isiD x "bool" = some (isBl x) := by cases x <;> first | rfl | cases h

/-! ### loops -/
/-- a comprehension with an invariant of (done, list so far, state); R: what the rest wants -/
theorem lc_ind {T : Tg} {tt : DTt} {te : DT} {own : List Nat} {Q : List D → DSt → Prop} (P : List D → List D → DSt → Prop) :
    ∀ {xs : List D} {acc : List D} {s : DSt}, P xs acc s → (∀ acc s, P [] acc s → Q acc s) →
      (∀ x r acc s, (∃ pre, xs = pre ++ x :: r) → P (x :: r) acc s → ∀ R : List D → DSt → Prop, (∀ acc s, P r acc s → R acc s) → T.put x s.ρ fun ρ => tt noEx ⟨ρ, s.Γ⟩ fun b s2 => if b = true then te noEx s2 fun y s3 => acc.length < sizeLine ∧ R (acc ++ [y]) ⟨wipeS own s3.ρ, s3.Γ⟩ else R acc ⟨wipeS own s2.ρ, s2.Γ⟩) →
      lcD T tt te own xs acc s Q
  | [], acc, s, h, fin, _ => fin acc s h
  | x0 :: r0, acc, s, h, fin, step =>
    step x0 r0 acc s ⟨[], rfl⟩ h (fun acc s => lcD T tt te own r0 acc s Q) fun acc s h' => lc_ind P h' fin fun x r acc s ⟨pre, e⟩ => step x r acc s ⟨x0 :: pre, congrArg (x0 :: ·) e⟩
/-- a for with an invariant of (items left, state) -/
theorem for_ind {T : Tg} {body : DS} {E : DE'} {D : DEnds} (P : List DL.D → DSt → Prop) :
    ∀ {xs : List DL.D} {s : DSt}, P xs s → (∀ s, P [] s → D.nx s) →
      (∀ x r s, (∃ pre, xs = pre ++ x :: r) → P (x :: r) s → ∀ R : DSt → Prop, (∀ s, P r s → R s) → T.put x s.ρ fun ρ => body E { D with nx := R, ct := R, bk := D.nx } ⟨ρ, s.Γ⟩) → forD T body E D xs s
  | [], s, h, fin, _ => fin s h
  | x0 :: r0, s, h, fin, step =>
    step x0 r0 s ⟨[], rfl⟩ h (forD T body E D r0) fun s h' => for_ind P h' fin fun x r s ⟨pre, e⟩ => step x r s ⟨x0 :: pre, congrArg (x0 :: ·) e⟩
/-- a comprehension whose element is a function of its item and leaves the shared lists -/
theorem lc_pure {i : Nat} {te : DT} {Q : List D → DSt → Prop} {xs : List D} {ρ : List Sl} {Γ : Gam} (g : D → D) (hi : i < ρ.length) (he : ρ[i]? = some .emp) (hz : xs.length ≤ sizeLine)
    (h : ∀ x ∈ xs, ∀ R : D → DSt → Prop, R (g x) ⟨ρ.set i (.val x), Γ⟩ → te noEx ⟨ρ.set i (.val x), Γ⟩ R) (q : Q (xs.map g) ⟨ρ, Γ⟩) : lcD (.one i) dYes te [i] xs [] ⟨ρ, Γ⟩ Q := by
  have hw : ∀ x, wipeS [i] (ρ.set i (.val x)) = ρ := fun x => by
    apply List.ext_getElem?
    intro j
    rw [wipeS_get]
    by_cases hj : j = i
    · subst hj
      rw [List.getElem?_set_self hi, he]
      simp
    · rw [List.getElem?_set_ne (Ne.symm hj)]
      have : j ∉ [i] := by simpa using hj
      cases e : ρ[j]? <;> simp [this, hj]
  refine lc_ind (fun r acc s => s = ⟨ρ, Γ⟩ ∧ acc.length + r.length = xs.length ∧ acc ++ r.map g = xs.map g) ⟨rfl, by simp, rfl⟩ ?_ ?_
  · rintro acc s ⟨rfl, -, e⟩
    rw [List.map_nil, List.append_nil] at e
    rw [e]
    exact q
  · rintro x r acc s ⟨pre, e0⟩ ⟨rfl, e1, e2⟩ R hR
    refine ⟨hi, ?_⟩
    show te noEx _ _
    refine h x (by rw [e0]; simp) _ ⟨by simp only [List.length_cons] at e1; omega, hR _ _ ⟨by rw [hw], ?_, ?_⟩⟩
    · simp only [List.length_cons, List.length_append, List.length_nil] at e1 ⊢
      omega
    · rw [List.append_assoc]
      exact e2
/-- .. that keeps the items of a test -/
theorem lc_filter {i : Nat} {tt : DTt} {te : DT} {Q : List D → DSt → Prop} {xs : List D} {ρ : List Sl} {Γ : Gam} (f : D → Bool) (g : D → D) (hi : i < ρ.length) (he : ρ[i]? = some .emp) (hz : xs.length ≤ sizeLine)
    (ht : ∀ x ∈ xs, ∀ R : Bool → DSt → Prop, R (f x) ⟨ρ.set i (.val x), Γ⟩ → tt noEx ⟨ρ.set i (.val x), Γ⟩ R)
    (h : ∀ x ∈ xs, f x = true → ∀ R : D → DSt → Prop, R (g x) ⟨ρ.set i (.val x), Γ⟩ → te noEx ⟨ρ.set i (.val x), Γ⟩ R) (q : Q ((xs.filter f).map g) ⟨ρ, Γ⟩) : lcD (.one i) tt te [i] xs [] ⟨ρ, Γ⟩ Q := by
  have hw : ∀ x, wipeS [i] (ρ.set i (.val x)) = ρ := fun x => by
    apply List.ext_getElem?
    intro j
    rw [wipeS_get]
    by_cases hj : j = i
    · subst hj
      rw [List.getElem?_set_self hi, he]
      simp
    · rw [List.getElem?_set_ne (Ne.symm hj)]
      have : j ∉ [i] := by simpa using hj
      cases e : ρ[j]? <;> simp [this, hj]
  refine lc_ind (fun r acc s => s = ⟨ρ, Γ⟩ ∧ acc.length + r.length ≤ xs.length ∧ acc ++ (r.filter f).map g = (xs.filter f).map g) ⟨rfl, by simp, rfl⟩ ?_ ?_
  · rintro acc s ⟨rfl, -, e⟩
    rw [List.filter_nil, List.map_nil, List.append_nil] at e
    rw [e]
    exact q
  · rintro x r acc s ⟨pre, e0⟩ ⟨rfl, e1, e2⟩ R hR
    have hx : x ∈ xs := by rw [e0]; simp
    refine ⟨hi, ht x hx _ ?_⟩
    simp only [List.length_cons] at e1
    cases hf : f x with
    | false =>
      rw [List.filter_cons, hf] at e2
      exact hR _ _ ⟨by rw [hw], by omega, e2⟩
    | true =>
      rw [List.filter_cons, hf] at e2
      refine h x hx hf _ ⟨by omega, hR _ _ ⟨by rw [hw], ?_, ?_⟩⟩
      · simp only [List.length_append, List.length_cons, List.length_nil]
        omega
      · rw [List.append_assoc]
        exact e2
end DL

section Ev
open PySem PySem.Spec L2 DL
local macro_rules
  | `(tactic| simp? [$ls,*]) => `(tactic| ((try simp -implicitDefEqProofs only [DL.bodyD, DL.startD_eq, DL.stD, DL.sSeq, DL.sNext, DL.sIf, DL.sRet, DL.sRetF, DL.sRetK, DL.sRetO, DL.sRetN, DL.sSet, DL.sOwn, DL.sShare, DL.sDrop, DL.sAug, DL.sApp, DL.sAsg, DL.sIxG, DL.sIxO, DL.sParVV, DL.sParVF, DL.sParFV, DL.sParFF, DL.sPar3, DL.sExt, DL.dStar, DL.dSortI, DL.sq1_eq, DL.dListRg, DL.dLc2, DL.pMaxL_l, DL.pMinL_l, DL.sFor, DL.sBreak, DL.sCont, DL.dC, DL.dVar, DL.dPeek, DL.slotD_v, DL.slotD_l, DL.slotD_d, DL.slotP_v, DL.slotP_l, DL.slotP_d, DL.dOp, DL.dUn, DL.dCall, DL.dFn_nil, DL.dFnF_nil, DL.dFnK_nil, DL.dLen, DL.dNil, DL.dCons, DL.dTup, DL.dLst, DL.dFrz, DL.dFrzK, DL.dDict0, DL.dListF, DL.lf_eq, DL.pListF_l, DL.pListF_t, DL.pListF_q, DL.dCat, DL.pCat_l, DL.dRepL, DL.pRepL_l, DL.dTru, DL.dTst, DL.dAnd, DL.dOr, DL.dNot, DL.dAndV, DL.dOrV, DL.dNotV, DL.dIf, DL.dIfF, DL.dChain, DL.dSl, DL.pSl, DL.dPart, DL.dNoPart, DL.dRev, DL.pRev_l, DL.pRev_t, DL.dSeq, DL.seqD_l, DL.seqD_t, DL.seqD_q, DL.seqD_s, DL.dRng1, DL.dRng2, DL.dZip, DL.sq2_l, DL.sq2_t, DL.sq2_q, DL.dLc, DL.RD_v, DL.RD_l, DL.RD_d, DL.RDs_l, DL.RDk_d, DL.pI_i, DL.pAdd_i, DL.pAdd_s, DL.pAdd_t, DL.pAdd_l, DL.pMul_i, DL.pMul_l, DL.pMul_t, DL.pNeg_i, DL.pLt_i, DL.pLt_s, DL.pIs_n, DL.pIs_b, DL.pTru_n, DL.pTru_b, DL.pTru_i, DL.pTru_l, DL.pTru_t, DL.pTru_q, DL.pTru_d, DL.p1_eq, DL.p2_eq, DL.ex2_eq, DL.isi_eq, exists_and_left, exists_eq, exists_eq', Sl.lst.injEq, Sl.dct.injEq, Option.some.injEq, Sl.val.injEq, D.ref.injEq, DL.ix3_0, DL.ix3_1, DL.ix3_2, DL.atI_0, DL.atI_1, DL.atI_2, List.length_map, DL.pLen_l, DL.pLen_t, DL.pLen_q, DL.pLen_s, DL.pTup_l, DL.pTup_t, DL.pTup_q, DL.pInt_i, DL.pInt_b, DL.pAbs_i, DL.pI2_i, DL.pList_l, DL.pList_t, DL.pList_q, DL.pStr_i, DL.pRepr, DL.pIx_l, DL.pIx_t, DL.pIx_q, DL.pIx_r, DL.isNon, DL.put_1, DL.put_2, List.map_nil, List.map_cons, List.cons_append, List.nil_append, Nat.reduceAdd, Nat.reduceSub, List.getElem?_cons_zero, List.getElem?_cons_succ, List.getElem?_nil, List.set_cons_zero, List.set_cons_succ, List.cons.injEq, and_true, true_and, exists_eq_left', exists_eq_left, D.int.injEq, D.bl.injEq, exists_eq_right, exists_eq_right', if_true, if_false, Bool.false_eq_true, reduceCtorEq, ite_true, ite_false, DL.wipeS, DL.restS, DL.restAt, List.mem_cons, List.mem_singleton, List.not_mem_nil, or_false, false_or, or_true, true_or, List.headD_nil, List.tail_nil, List.headD_cons, List.tail_cons, Nat.reduceEqDiff, Nat.succ_ne_zero, Nat.zero_ne_one, Nat.one_ne_zero, ne_eq, not_false_eq_true, Nat.reduceLT, Nat.zero_lt_succ, Nat.lt_add_one, Int.reduceNeg, Bool.not_true, Bool.not_false, DL.ex_some, $ls,*]); (try simp -implicitDefEqProofs only [List.length_cons, List.length_nil, List.length_map, Nat.reduceAdd, Nat.reduceSub, Nat.reduceLT, Nat.reduceEqDiff, DL.sz_0, DL.sz_1, DL.sz_2, DL.sz_3, DL.sz_4, DL.sz_5, DL.sz_6, DL.sz_7, DL.sz_8, DL.sz_9, DL.sz_10, DL.sz_11, DL.sz_12, DL.sz_13, DL.sz_14, DL.sz_15, DL.sz_16, DL.sz_17, DL.sz_18, DL.sz_19, DL.sz_20, DL.sz_21, DL.sz_22, DL.sz_23, DL.sz_24, DL.sz_25, DL.sz_26, DL.sz_27, DL.sz_28, DL.sz_29, DL.sz_30, DL.sz_31, DL.sz_32, DL.ix3_0, DL.ix3_1, DL.ix3_2, Option.some.injEq, exists_eq_left', true_and, and_true, $ls,*])))
set_option Elab.async false
set_option linter.all false
set_option maxRecDepth 100000
set_option exponentiation.threshold 3000
namespace DL
open PySem PySem.Spec L2
open PyProof.Rows hiding St
section
variable {s : DSt} {x y : D} {Q : D → Prop} {Qs : List D → Prop}
/-! ### == -/
theorem okD_int {i : Int} : okD (.int i) := ⟨rfl, rfl⟩
theorem okD_nil : okD (.lst []) := ⟨rfl, rfl⟩
theorem eqD_int {i j : Int} : eqD (.int i) (.int j) = decide (i = j) := by
  show (i == j) = _
  by_cases h : i = j
  · subst h; simp
  · rw [decide_eq_false h]; simpa using h
theorem pEq_int {i j : Int} (q : Q (.bl (decide (i = j)))) : pEq s (.int i) (.int j) Q := .inl ⟨okD_int, okD_int, by rw [eqD_int]; exact q⟩
theorem pNe_int {i j : Int} (q : Q (.bl (!decide (i = j)))) : pNe s (.int i) (.int j) Q := .inl ⟨okD_int, okD_int, by rw [eqD_int]; exact q⟩
theorem pEq_str {i j : Str} (q : Q (.bl (decide (i = j)))) : pEq s (.str i) (.str j) Q := .inr (.inr (by show Q (.bl (false != decide (i = j))); rw [Bool.false_bne]; exact q))
theorem pNe_str {i j : Str} (q : Q (.bl (!decide (i = j)))) : pNe s (.str i) (.str j) Q := .inr (.inr (by show Q (.bl (true != decide (i = j))); rw [Bool.true_bne]; exact q))
theorem pNe_self {i : Str} (q : Q (.bl false)) : pNe s (.str i) (.str i) Q := pNe_str (by rw [decide_eq_true rfl]; exact q)
theorem pEq_nil {ds : List D} (q : Q (.bl ds.isEmpty)) : pEq s (.lst ds) (.lst []) Q := by
  cases ds with
  | nil => exact .inl ⟨okD_nil, okD_nil, q⟩
  | cons a l => exact .inr (.inl ⟨rfl, q⟩)
theorem pNe_nil {ds : List D} (q : Q (.bl (!ds.isEmpty))) : pNe s (.lst ds) (.lst []) Q := by
  cases ds with
  | nil => exact .inl ⟨okD_nil, okD_nil, q⟩
  | cons a l => exact .inr (.inl ⟨rfl, q⟩)
theorem pEq_nilT {ds : List D} (q : Q (.bl ds.isEmpty)) : pEq s (.tup ds) (.tup []) Q := by
  cases ds with
  | nil => exact .inl ⟨⟨rfl, rfl⟩, ⟨rfl, rfl⟩, q⟩
  | cons a l => exact .inr (.inl ⟨rfl, q⟩)
theorem pNe_nilT {ds : List D} (q : Q (.bl (!ds.isEmpty))) : pNe s (.tup ds) (.tup []) Q := by
  cases ds with
  | nil => exact .inl ⟨⟨rfl, rfl⟩, ⟨rfl, rfl⟩, q⟩
  | cons a l => exact .inr (.inl ⟨rfl, q⟩)
/-! ### items -/
theorem atI_last {α : Type} {l : List α} (h : l ≠ []) : atI l (-1) = some (l.getLast h) := by
  have hl : 0 < l.length := List.length_pos_iff.mpr h
  unfold atI ixN
  rw [if_neg (by omega), if_pos (by omega)]
  show l[((-1 : Int) + l.length).toNat]? = _
  rw [List.getLast_eq_getElem, List.getElem?_eq_getElem (by omega)]
  congr 2
  omega
/-! ### sums, all, any of computed lists -/
theorem ints_map {α : Type} (f : α → Int) (xs : List α) : intsD (xs.map fun x => .int (f x)) = some (xs.map f) := by
  induction xs with
  | nil => rfl
  | cons a l ih =>
    show (intsD (l.map fun x => .int (f x))).map (f a :: ·) = _
    rw [ih]
    rfl
theorem bools_map {α : Type} (f : α → Bool) (xs : List α) : bools (xs.map fun x => .bl (f x)) = some (xs.map f) := by
  induction xs with
  | nil => rfl
  | cons a l ih =>
    show (bools (l.map fun x => .bl (f x))).map (f a :: ·) = _
    rw [ih]
    rfl
theorem pAll_map {α : Type} {f : α → Bool} {xs : List α} (q : Q (.bl (xs.all f))) : pAll s (.lst (xs.map fun x => .bl (f x))) Q := ⟨_, bools_map f xs, by rw [List.all_map]; exact q⟩
theorem pSum_map {α : Type} {f : α → Int} {xs : List α} (q : Q (.int (xs.map f).sum)) : pSum s (.lst (xs.map fun x => .int (f x))) Q := ⟨_, ints_map f xs, q⟩
theorem zip_eq {a b : D} : (∃ x y, [a, b] = [x, y] ∧ sq2 x fun xs => sq2 y fun ys => Qs (zipD xs ys)) = (sq2 a fun xs => sq2 b fun ys => Qs (zipD xs ys)) :=
  propext ⟨fun ⟨_, _, e, h⟩ => by cases e; exact h, fun h => ⟨_, _, rfl, h⟩⟩
/-- two targets -/
theorem lc_pure2 {i j : Nat} {te : DT} {Q : List D → DSt → Prop} {xs : List (D × D)} {ρ : List Sl} {Γ : Gam} (g : D × D → D) (hi : i < ρ.length) (hj : j < ρ.length) (he : ρ[i]? = some .emp) (hf : ρ[j]? = some .emp) (hz : xs.length ≤ sizeLine)
    (h : ∀ x ∈ xs, ∀ R : D → DSt → Prop, R (g x) ⟨(ρ.set i (.val x.1)).set j (.val x.2), Γ⟩ → te noEx ⟨(ρ.set i (.val x.1)).set j (.val x.2), Γ⟩ R) (q : Q (xs.map g) ⟨ρ, Γ⟩) : lcD (.many [i, j]) dYes te [i, j] (xs.map fun p => .tup [p.1, p.2]) [] ⟨ρ, Γ⟩ Q := by
  have hw : ∀ x y, wipeS [i, j] ((ρ.set i (.val x)).set j (.val y)) = ρ := fun x y => by
    apply List.ext_getElem?
    intro k
    rw [wipeS_get]
    by_cases hk : k = j
    · subst hk
      rw [List.getElem?_set_self (by rw [List.length_set]; exact hj), hf]
      simp
    · rw [List.getElem?_set_ne (Ne.symm hk)]
      by_cases hl : k = i
      · subst hl
        rw [List.getElem?_set_self hi, he]
        simp
      · rw [List.getElem?_set_ne (Ne.symm hl)]
        have : k ∉ [i, j] := by simp [hk, hl]
        cases e : ρ[k]? <;> simp [this]
  refine lc_ind (fun r acc s => ∃ r', r = r'.map (fun p => .tup [p.1, p.2]) ∧ (∃ pre, xs = pre ++ r') ∧ s = ⟨ρ, Γ⟩ ∧ acc.length + r'.length = xs.length ∧ acc ++ r'.map g = xs.map g) ⟨xs, rfl, ⟨[], rfl⟩, rfl, by simp, rfl⟩ ?_ ?_
  · rintro acc s ⟨r', e0, -, rfl, -, e⟩
    cases r' with
    | nil =>
      rw [List.map_nil, List.append_nil] at e
      rw [e]
      exact q
    | cons a l => cases e0
  · rintro x r acc s - ⟨r', e0, ⟨pre, ep⟩, rfl, e1, e2⟩ R hR
    cases r' with
    | nil => cases e0
    | cons p l =>
      rw [List.map_cons] at e0
      cases e0
      refine ⟨hi, ?_⟩
      show j < (ρ.set i _).length ∧ _
      refine ⟨by rw [List.length_set]; exact hj, ?_⟩
      show te noEx _ _
      refine h p (by rw [ep]; simp) _ ⟨by simp only [List.length_cons] at e1; omega, hR _ _ ⟨l, rfl, ⟨pre ++ [p], by rw [ep]; simp⟩, by rw [hw], ?_, ?_⟩⟩
      · simp only [List.length_cons, List.length_append, List.length_nil] at e1 ⊢
        omega
      · rw [List.append_assoc]
        exact e2
theorem zip_map {xs ys : List D} : zipD xs ys = (xs.zip ys).map fun p => .tup [p.1, p.2] := by
  unfold zipD
  rw [List.zip, List.map_zipWith]
end
theorem wipeS_len (own : List Nat) (ρ : List Sl) : (wipeS own ρ).length = ρ.length := restAt_len own 0 ρ []
theorem ite_and {a b : Bool} {P : Bool → Prop} (q : P (a && b)) : if a = true then P b else P false := by
  cases a
  · exact q
  · exact q
theorem ite_or {a b : Bool} {P : Bool → Prop} (q : P (a || b)) : if a = true then P true else P b := by
  cases a
  · exact q
  · exact q
theorem and_if {a b : Bool} {X : Prop} {P : Bool → Prop} (h : a = true → P b → X) (q : P (a && b)) : if a = true then X else P a := by
  cases a
  · exact q
  · exact h rfl q
theorem or_if {a b : Bool} {X : Prop} {P : Bool → Prop} (h : a = false → P b → X) (q : P (a || b)) : if a = true then P a else X := by
  cases a
  · exact h rfl q
  · exact q
/- no slot of a comprehension's own holds a list -/
/- the wiped slots -/
theorem size_le {n : Nat} (h : n ≤ 10000) : n ≤ sizeLine := by
  have : sizeLine = 16777216 := rfl
  omega

/-! ### comprehensions over the images of a list -/
section
variable {α : Type} {s : DSt} {Q : D → Prop}
theorem wipe1 {i : Nat} {ρ : List Sl} (hi : i < ρ.length) (he : ρ[i]? = some .emp) (x : D) : wipeS [i] (ρ.set i (.val x)) = ρ := by
  apply List.ext_getElem?
  intro j
  rw [wipeS_get]
  by_cases hj : j = i
  · subst hj
    rw [List.getElem?_set_self hi, he]
    simp
  · rw [List.getElem?_set_ne (Ne.symm hj)]
    have : j ∉ [i] := by simpa using hj
    cases e : ρ[j]? <;> simp [this, hj]
theorem wipe2 {i j : Nat} {ρ : List Sl} (hi : i < ρ.length) (hj : j < ρ.length) (he : ρ[i]? = some .emp) (hf : ρ[j]? = some .emp) (x y : D) : wipeS [i, j] ((ρ.set i (.val x)).set j (.val y)) = ρ := by
  apply List.ext_getElem?
  intro k
  rw [wipeS_get]
  by_cases hk : k = j
  · subst hk
    rw [List.getElem?_set_self (by rw [List.length_set]; exact hj), hf]
    simp
  · rw [List.getElem?_set_ne (Ne.symm hk)]
    by_cases hl : k = i
    · subst hl
      rw [List.getElem?_set_self hi, he]
      simp
    · rw [List.getElem?_set_ne (Ne.symm hl)]
      have : k ∉ [i, j] := by simp [hk, hl]
      cases e : ρ[k]? <;> simp [this]
theorem lc_mapA {i : Nat} {te : DT} {Q : List D → DSt → Prop} {xs : List α} {ρ : List Sl} {Γ : Gam} (em g : α → D) (hi : i < ρ.length) (he : ρ[i]? = some .emp) (hz : xs.length ≤ sizeLine)
    (h : ∀ x ∈ xs, ∀ R : D → DSt → Prop, R (g x) ⟨ρ.set i (.val (em x)), Γ⟩ → te noEx ⟨ρ.set i (.val (em x)), Γ⟩ R) (q : Q (xs.map g) ⟨ρ, Γ⟩) : lcD (.one i) dYes te [i] (xs.map em) [] ⟨ρ, Γ⟩ Q := by
  refine lc_ind (fun r acc s => ∃ r', r = r'.map em ∧ (∃ pre, xs = pre ++ r') ∧ s = ⟨ρ, Γ⟩ ∧ acc.length + r'.length = xs.length ∧ acc ++ r'.map g = xs.map g) ⟨xs, rfl, ⟨[], rfl⟩, rfl, by simp, rfl⟩ ?_ ?_
  · rintro acc s ⟨r', e0, -, rfl, -, e⟩
    cases r' with
    | nil =>
      rw [List.map_nil, List.append_nil] at e
      rw [e]
      exact q
    | cons a l => cases e0
  · rintro x r acc s - ⟨r', e0, ⟨pre, ep⟩, rfl, e1, e2⟩ R hR
    cases r' with
    | nil => cases e0
    | cons p l =>
      rw [List.map_cons] at e0
      cases e0
      refine ⟨hi, ?_⟩
      show te noEx _ _
      refine h p (by rw [ep]; simp) _ ⟨by simp only [List.length_cons] at e1; omega, hR _ _ ⟨l, rfl, ⟨pre ++ [p], by rw [ep]; simp⟩, by rw [wipe1 hi he], ?_, ?_⟩⟩
      · simp only [List.length_cons, List.length_append, List.length_nil] at e1 ⊢
        omega
      · rw [List.append_assoc]
        exact e2
theorem lc_mapA2 {i j : Nat} {te : DT} {Q : List D → DSt → Prop} {xs : List α} {ρ : List Sl} {Γ : Gam} (e1 e2 g : α → D) (hi : i < ρ.length) (hj : j < ρ.length) (he : ρ[i]? = some .emp) (hf : ρ[j]? = some .emp) (hz : xs.length ≤ sizeLine)
    (h : ∀ x ∈ xs, ∀ R : D → DSt → Prop, R (g x) ⟨(ρ.set i (.val (e1 x))).set j (.val (e2 x)), Γ⟩ → te noEx ⟨(ρ.set i (.val (e1 x))).set j (.val (e2 x)), Γ⟩ R) (q : Q (xs.map g) ⟨ρ, Γ⟩) : lcD (.many [i, j]) dYes te [i, j] (xs.map fun p => .tup [e1 p, e2 p]) [] ⟨ρ, Γ⟩ Q := by
  refine lc_ind (fun r acc s => ∃ r', r = r'.map (fun p => .tup [e1 p, e2 p]) ∧ (∃ pre, xs = pre ++ r') ∧ s = ⟨ρ, Γ⟩ ∧ acc.length + r'.length = xs.length ∧ acc ++ r'.map g = xs.map g) ⟨xs, rfl, ⟨[], rfl⟩, rfl, by simp, rfl⟩ ?_ ?_
  · rintro acc s ⟨r', e0, -, rfl, -, e⟩
    cases r' with
    | nil =>
      rw [List.map_nil, List.append_nil] at e
      rw [e]
      exact q
    | cons a l => cases e0
  · rintro x r acc s - ⟨r', e0, ⟨pre, ep⟩, rfl, f1, f2⟩ R hR
    cases r' with
    | nil => cases e0
    | cons p l =>
      rw [List.map_cons] at e0
      cases e0
      refine ⟨hi, ?_⟩
      show j < (ρ.set i _).length ∧ _
      refine ⟨by rw [List.length_set]; exact hj, ?_⟩
      show te noEx _ _
      refine h p (by rw [ep]; simp) _ ⟨by simp only [List.length_cons] at f1; omega, hR _ _ ⟨l, rfl, ⟨pre ++ [p], by rw [ep]; simp⟩, by rw [wipe2 hi hj he hf], ?_, ?_⟩⟩
      · simp only [List.length_cons, List.length_append, List.length_nil] at f1 ⊢
        omega
      · rw [List.append_assoc]
        exact f2
theorem zip_maps {β : Type} (f : α → D) (g : β → D) (xs : List α) (ys : List β) : zipD (xs.map f) (ys.map g) = (xs.zip ys).map fun p => .tup [f p.1, g p.2] := by
  unfold zipD
  rw [List.zipWith_map, List.zip, List.map_zipWith]
theorem lookup_gset {Γ : Gam} {a : Addr} {ds es : List D} (h : Γ.lookup a = some ds) : (gset Γ a es).lookup a = some es := by
  induction Γ with
  | nil => cases h
  | cons p l ih =>
    obtain ⟨b, d⟩ := p
    rw [List.lookup_cons] at h
    show List.lookup a ((if b = a then (a, es) else (b, d)) :: gset l a es) = some es
    by_cases e : a = b
    · subst e
      rw [if_pos rfl, List.lookup_cons, beq_self_eq_true]
    · rw [if_neg (Ne.symm e), List.lookup_cons]
      rw [beq_eq_false_iff_ne.mpr e] at h ⊢
      exact ih h
end
/-! ### slices -/
theorem cut_from {xs : List D} {n : Nat} : cutD xs (some (n : Int)) none = xs.drop n := by
  unfold cutD
  rw [HT.sIx_nat, HT.sIx_none]
  by_cases h : n ≤ xs.length
  · rw [Nat.min_eq_left h]
    exact List.take_of_length_le (by rw [List.length_drop]; exact Nat.le_refl _)
  · rw [Nat.min_eq_right (by omega), List.drop_of_length_le (Nat.le_refl _), List.drop_of_length_le (by omega)]
    simp
theorem cut_to {xs : List D} {n : Nat} : cutD xs none (some (n : Int)) = xs.take n := by
  unfold cutD
  rw [HT.sIx_nat, HT.sIx_none, Nat.sub_zero, List.drop_zero]
  by_cases h : n ≤ xs.length
  · rw [Nat.min_eq_left h]
  · rw [Nat.min_eq_right (by omega), List.take_of_length_le (Nat.le_refl _), List.take_of_length_le (by omega)]
theorem cut_tail {xs : List D} : cutD xs (some 1) none = xs.tail := by
  rw [show (1 : Int) = ((1 : Nat) : Int) from rfl, cut_from, List.drop_one]
theorem cut_one {xs : List D} : cutD xs none (some 1) = xs.take 1 := by
  rw [show (1 : Int) = ((1 : Nat) : Int) from rfl, cut_to]
theorem cut_init {xs : List D} : cutD xs none (some (-1)) = xs.dropLast := by
  unfold cutD
  rw [HT.sIx_none, Nat.sub_zero, List.drop_zero, List.dropLast_eq_take]
  congr 1
  show (if (-1 : Int) < 0 then ((-1 : Int) + (xs.length : Int)).toNat else min (-1 : Int).toNat xs.length) = _
  rw [if_pos (by omega)]
  omega
/-! ### bounds -/
theorem mulw {i j : Int} (h : i.natAbs < 2 ^ 600) (h' : j.natAbs < 2 ^ 600) : CMulW i j := L2.wide_mul h h' (by decide) (by decide) (by decide)
theorem divw {i j : Int} (h : 0 < j) (h' : j.natAbs < 2 ^ 8000) : CDivW i j := L2.wide_div h h' (by decide) (by decide)
end DL

set_option Elab.async false
set_option linter.all false
set_option maxRecDepth 100000
set_option exponentiation.threshold 3000
namespace DL
open PySem PySem.Spec L2
open PyProof.Rows hiding St
theorem textFrom_le : ∀ (ts : List Str) (k : Nat) (acc : Str), (textFrom k acc ts).length ≤ acc.length + piled ts
  | [], k, acc => Nat.le_add_right _ _
  | t :: r, k, acc => by
    have h := textFrom_le r (k + 1) (acc ++ (if k > 0 then ", " else "" : String) ++ t)
    have e : (acc ++ (if k > 0 then ", " else "" : String) ++ t).length = acc.length + (if k > 0 then 2 else 0) + t.length := by
      rw [Str.length_append, Str.length_append]
      congr 2
      split <;> rfl
    rw [e] at h
    rw [piled_cons]
    show (textFrom (k + 1) (acc ++ (if k > 0 then ", " else "" : String) ++ t) r).length ≤ _
    have hb : (if k > 0 then 2 else 0) ≤ 2 := by split <;> omega
    omega
theorem listText_le (ts : List Str) : (listText ts).length ≤ 2 + piled ts := by
  have h := textFrom_le ts 0 "["
  have e : (listText ts).length = (textFrom 0 "[" ts).length + 1 := by
    unfold listText
    rw [Str.length_append]
    rfl
  have e1 : (("[" : String) : Str).length = 1 := rfl
  omega
theorem tupleText_le (ts : List Str) : (tupleText ts).length ≤ 3 + piled ts := by
  have e : (tupleText ts).length ≤ 1 + (Str.join ", " ts).length + 2 := by
    unfold tupleText
    rw [Str.length_append, Str.length_append]
    have e1 : (("(" : String) : Str).length = 1 := rfl
    have e2 : ((if ts.length == 1 then ",)" else ")" : String) : Str).length ≤ 2 := by split <;> decide
    omega
  cases ts with
  | nil =>
    have : (Str.join ", " ([] : List Str)).length = 0 := rfl
    omega
  | cons a l =>
    have := join_length_add (a :: l) (by simp)
    omega
theorem shown_ints {ks : List Int} (h : ∀ k ∈ ks, k.natAbs.log2 < 1920) : piled (PyData.shownAll (toPs (ks.map .int))) ≤ 1923 * ks.length ∧ PyData.showableAll (toPs (ks.map .int)) = true ∧ isPs (ks.map .int) = true ∧ PyData.depthAll (toPs (ks.map .int)) = 0 := by
  induction ks with
  | nil => exact ⟨Nat.le_refl _, rfl, rfl, rfl⟩
  | cons k ks ih =>
    obtain ⟨h1, h2, h3, h4⟩ := ih fun z hz => h z (List.mem_cons_of_mem _ hz)
    have hk := h k List.mem_cons_self
    have hl : (Str.ofString (toString k)).length ≤ 1921 := int_text_len_1921 hk
    refine ⟨?_, ?_, ?_, ?_⟩
    · show piled (Str.ofString (toString k) :: PyData.shownAll (toPs (ks.map .int))) ≤ _
      rw [piled_cons, List.length_cons]
      omega
    · show (decide (k.natAbs.log2 < 1920) && PyData.showableAll (toPs (ks.map .int))) = true
      rw [decide_eq_true hk, h2]
      rfl
    · show (isP (.int k) && isPs (ks.map .int)) = true
      rw [h3]
      rfl
    · show max 0 (PyData.depthAll (toPs (ks.map .int))) = 0
      rw [h4]
      rfl
theorem repr_lst {ks : List Int} (h : ∀ k ∈ ks, k.natAbs.log2 < 1920) (hl : ks.length ≤ 5000) : reprOk (.lst (ks.map .int)) := by
  obtain ⟨h1, h2, h3, h4⟩ := shown_ints h
  refine ⟨h3, h2, ?_, ?_⟩
  · have := listText_le (PyData.shownAll (toPs (ks.map .int)))
    show (listText (PyData.shownAll (toPs (ks.map .int)))).length ≤ sizeLine
    rw [sizeLine_eq]
    omega
  · show PyData.depthAll (toPs (ks.map .int)) + 1 ≤ 100
    omega
theorem repr_tup {ks : List Int} (h : ∀ k ∈ ks, k.natAbs.log2 < 1920) (hl : ks.length ≤ 5000) : reprOk (.tup (ks.map .int)) := by
  obtain ⟨h1, h2, h3, h4⟩ := shown_ints h
  refine ⟨h3, h2, ?_, ?_⟩
  · have := tupleText_le (PyData.shownAll (toPs (ks.map .int)))
    show (tupleText (PyData.shownAll (toPs (ks.map .int)))).length ≤ sizeLine
    rw [sizeLine_eq]
    omega
  · show PyData.depthAll (toPs (ks.map .int)) + 1 ≤ 100
    omega
theorem repr_bl {b : Bool} : reprOk (.bl b) := by
  refine ⟨rfl, rfl, ?_, ?_⟩
  · show (if b then ("True" : Str) else "False").length ≤ sizeLine
    rw [sizeLine_eq]
    cases b <;> decide
  · show 0 ≤ 100
    omega
theorem log_of {k : Int} (h : k.natAbs < 2 ^ 600) : k.natAbs.log2 < 1920 := by
  have : k.natAbs.log2 < 600 := PySem.Flt.log2_lt_of (by omega) h
  omega
end DL

set_option Elab.async false
set_option linter.all false
set_option maxRecDepth 100000
namespace DL
open PySem PySem.Spec L2
open PyProof.Rows hiding St
theorem wipe_same {own : List Nat} {ρ ρ' : List Sl} (hl : ρ'.length = ρ.length) (h1 : ∀ k ∈ own, k < ρ.length → ρ[k]? = some .emp) (h2 : ∀ k, k ∉ own → ρ'[k]? = ρ[k]?) : wipeS own ρ' = ρ := by
  apply List.ext_getElem?
  intro k
  rw [wipeS_get]
  by_cases hk : k ∈ own
  · by_cases hl2 : k < ρ.length
    · rw [h1 k hk hl2, List.getElem?_eq_getElem (by omega)]
      simp [hk]
    · rw [List.getElem?_eq_none (by omega), List.getElem?_eq_none (by omega)]
      rfl
  · rw [h2 k hk]
    cases ρ[k]? <;> simp [hk]
variable {α β : Type}
/-- .. from a list so far -/
theorem lc_acc {i : Nat} {te : DT} {Q : List D → DSt → Prop} {ρ : List Sl} {Γ : Gam} (em g : α → D) (hi : i < ρ.length) (he : ρ[i]? = some .emp) : ∀ {xs : List α} {acc : List D}, acc.length + xs.length ≤ sizeLine →
    (∀ x ∈ xs, ∀ R : D → DSt → Prop, R (g x) ⟨ρ.set i (.val (em x)), Γ⟩ → te noEx ⟨ρ.set i (.val (em x)), Γ⟩ R) → Q (acc ++ xs.map g) ⟨ρ, Γ⟩ → lcD (.one i) dYes te [i] (xs.map em) acc ⟨ρ, Γ⟩ Q
  | [], acc, _, _, q => by
    rw [List.map_nil, List.append_nil] at q
    exact q
  | x :: xs, acc, hz, h, q => by
    refine ⟨hi, ?_⟩
    show te noEx _ _
    simp only [List.length_cons] at hz
    refine h x List.mem_cons_self _ ⟨by omega, ?_⟩
    rw [wipe1 hi he]
    refine lc_acc em g hi he (by rw [List.length_append, List.length_singleton]; omega) (fun y hy => h y (List.mem_cons_of_mem _ hy)) ?_
    rw [List.append_assoc]
    exact q
/-- two fors -/
theorem lc2_acc {i j : Nat} {ti1 : DTs} {te : DT} {Q : List D → DSt → Prop} {ρ : List Sl} {Γ : Gam} (em : α → D) (ys : α → List β) (em1 : β → D) (g : α → β → D) (hi : i < ρ.length) (hj : j < ρ.length) (hij : i ≠ j) (he : ρ[i]? = some .emp) (hf : ρ[j]? = some .emp) : ∀ {xs : List α} {acc : List D}, acc.length + (xs.flatMap ys).length ≤ sizeLine →
    (∀ x ∈ xs, ∀ R : List D → DSt → Prop, R ((ys x).map em1) ⟨ρ.set i (.val (em x)), Γ⟩ → ti1 noEx ⟨ρ.set i (.val (em x)), Γ⟩ R) →
    (∀ x ∈ xs, ∀ y ∈ ys x, ∀ R : D → DSt → Prop, R (g x y) ⟨(ρ.set i (.val (em x))).set j (.val (em1 y)), Γ⟩ → te noEx ⟨(ρ.set i (.val (em x))).set j (.val (em1 y)), Γ⟩ R) →
    Q (acc ++ xs.flatMap fun x => (ys x).map (g x)) ⟨ρ, Γ⟩ → lcD2 (.one i) dYes ti1 (.one j) dYes te [i, j] [j] (xs.map em) acc ⟨ρ, Γ⟩ Q
  | [], acc, _, _, _, q => by
    rw [List.flatMap_nil, List.append_nil] at q
    exact q
  | x :: xs, acc, hz, h1, h2, q => by
    rw [List.flatMap_cons, List.length_append] at hz
    refine ⟨hi, ?_⟩
    show ti1 noEx _ _
    refine h1 x List.mem_cons_self _ ?_
    have e1 : wipeS [j] (ρ.set i (.val (em x))) = ρ.set i (.val (em x)) := wipe_same rfl (fun k hk _ => by
      rw [List.mem_singleton.mp hk, List.getElem?_set_ne hij]
      exact hf) fun k _ => rfl
    rw [e1]
    refine lc_acc em1 (g x) (by rw [List.length_set]; exact hj) (by rw [List.getElem?_set_ne hij]; exact hf) (by omega) (fun y hy => h2 x List.mem_cons_self y hy) ?_
    have e2 : wipeS [i, j] (ρ.set i (.val (em x))) = ρ := wipe_same (by simp) (fun k hk _ => by
      rcases List.mem_cons.mp hk with e | hk
      · rw [e]
        exact he
      · rw [List.mem_singleton.mp hk]
        exact hf) fun k hk => List.getElem?_set_ne fun e => hk (by rw [← e]; exact List.mem_cons_self)
    rw [e2]
    refine lc2_acc em ys em1 g hi hj hij he hf (by rw [List.length_append, List.length_map]; omega) (fun y hy => h1 y (List.mem_cons_of_mem _ hy)) (fun y hy => h2 y (List.mem_cons_of_mem _ hy)) ?_
    rw [List.flatMap_cons, ← List.append_assoc] at q
    exact q
theorem restS_self {own : List Nat} {ρ : List Sl} : restS own ρ ρ = ρ := by
  apply List.ext_getElem?
  intro k
  rw [restS_get]
  cases e : ρ[k]? with
  | none => rfl
  | some x =>
    simp only [Option.map_some]
    rw [List.getD_eq_getElem?_getD, e]
    simp
end DL
namespace DL
open PySem PySem.Spec L2
open PyProof.Rows hiding St
variable {α β : Type}
theorem lc_filtA {i : Nat} {tt : DTt} {te : DT} {Q : List D → DSt → Prop} {ρ : List Sl} {Γ : Gam} (em g : α → D) (f : α → Bool) (hi : i < ρ.length) (he : ρ[i]? = some .emp) : ∀ {xs : List α} {acc : List D}, acc.length + xs.length ≤ sizeLine →
    (∀ x ∈ xs, ∀ R : Bool → DSt → Prop, R (f x) ⟨ρ.set i (.val (em x)), Γ⟩ → tt noEx ⟨ρ.set i (.val (em x)), Γ⟩ R) →
    (∀ x ∈ xs, f x = true → ∀ R : D → DSt → Prop, R (g x) ⟨ρ.set i (.val (em x)), Γ⟩ → te noEx ⟨ρ.set i (.val (em x)), Γ⟩ R) → Q (acc ++ (xs.filter f).map g) ⟨ρ, Γ⟩ → lcD (.one i) tt te [i] (xs.map em) acc ⟨ρ, Γ⟩ Q
  | [], acc, _, _, _, q => by
    rw [List.filter_nil, List.map_nil, List.append_nil] at q
    exact q
  | x :: xs, acc, hz, h1, h2, q => by
    refine ⟨hi, h1 x List.mem_cons_self _ ?_⟩
    simp only [List.length_cons] at hz
    cases hf : f x with
    | true =>
      rw [List.filter_cons, if_pos hf] at q
      rw [if_pos rfl]
      refine h2 x List.mem_cons_self hf _ ⟨by omega, ?_⟩
      rw [wipe1 hi he]
      refine lc_filtA em g f hi he (by rw [List.length_append, List.length_singleton]; omega) (fun y hy => h1 y (List.mem_cons_of_mem _ hy)) (fun y hy => h2 y (List.mem_cons_of_mem _ hy)) ?_
      rw [List.append_assoc]
      exact q
    | false =>
      rw [List.filter_cons, if_neg (by rw [hf]; simp)] at q
      rw [if_neg (by simp)]
      show lcD _ _ _ _ _ _ ⟨wipeS [i] _, Γ⟩ Q
      rw [wipe1 hi he]
      exact lc_filtA em g f hi he (by omega) (fun y hy => h1 y (List.mem_cons_of_mem _ hy)) (fun y hy => h2 y (List.mem_cons_of_mem _ hy)) q
theorem erase_perm : ∀ (l : List α) (i : Nat) (h : i < l.length), (l[i] :: l.eraseIdx i).Perm l
  | a :: l, 0, _ => .refl _
  | a :: l, i + 1, h => (List.Perm.swap _ _ _).trans ((erase_perm l i (by simpa using h)).cons a)
theorem map_erase (g : α → β) : ∀ (l : List α) (i : Nat), (l.map g).eraseIdx i = (l.eraseIdx i).map g
  | [], _ => rfl
  | a :: l, 0 => rfl
  | a :: l, i + 1 => by
    show g a :: (l.map g).eraseIdx i = g a :: (l.eraseIdx i).map g
    rw [map_erase g l i]
theorem ixN_nat {n k : Nat} (h : k < n) : ixN n (k : Int) = some k := by
  unfold ixN
  rw [if_pos (by omega), if_pos (by omega)]
  simp
theorem abs_eq (x : Int) : (if x < 0 then -x else x) = ((x.natAbs : Nat) : Int) := by split <;> omega
end DL

set_option Elab.async false
set_option linter.all false
set_option maxRecDepth 100000
set_option exponentiation.threshold 3000
namespace DL
open PySem PySem.Spec L2
open PyProof.Rows hiding St
/-- plain data of a depth, its text of a length -/
structure Pn (n m : Nat) (d : D) : Prop where
  p : isP d = true
  s : (toP d).showable = true
  l : (toP d).shown.length ≤ m
  dp : (toP d).depth ≤ n
  c : (toP d).canLay0 = true
theorem Pn.repr {n m : Nat} {d : D} (h : Pn n m d) (hn : n ≤ 100) (hm : m ≤ 16000000) : reprOk d := ⟨h.p, h.s, Nat.le_trans h.l (by rw [sizeLine_eq]; omega), Nat.le_trans h.dp hn⟩
theorem Pn.ok {n m : Nat} {d : D} (h : Pn n m d) (hn : n ≤ 64) : okD d := ⟨h.p, by
  show (PyData.canLay0 (toP d) && decide (PyData.depth (toP d) ≤ 64)) = true
  rw [h.c, decide_eq_true (Nat.le_trans h.dp hn)]
  rfl⟩
theorem Pn.mono {n n' m m' : Nat} {d : D} (h : Pn n m d) (hn : n ≤ n') (hm : m ≤ m') : Pn n' m' d := ⟨h.p, h.s, Nat.le_trans h.l hm, Nat.le_trans h.dp hn, h.c⟩
theorem Pn.int {k : Int} (h : k.natAbs.log2 < 1920) : Pn 0 1921 (.int k) := ⟨rfl, decide_eq_true h, int_text_len_1921 h, Nat.le_refl _, rfl⟩
theorem Pn.bl {b : Bool} : Pn 0 5 (.bl b) := ⟨rfl, rfl, by cases b <;> decide, Nat.le_refl _, rfl⟩
theorem Pn.non : Pn 0 4 .non := ⟨rfl, rfl, by decide, Nat.le_refl _, rfl⟩
theorem Pn.all {n m : Nat} : ∀ {ds : List D}, (∀ d ∈ ds, Pn n m d) → isPs ds = true ∧ PyData.showableAll (toPs ds) = true ∧ piled (PyData.shownAll (toPs ds)) ≤ (m + 2) * ds.length ∧ PyData.depthAll (toPs ds) ≤ n ∧ PyData.canLayAll0 (toPs ds) = true
  | [], _ => ⟨rfl, rfl, Nat.le_refl _, Nat.zero_le _, rfl⟩
  | d :: ds, h => by
    obtain ⟨h1, h2, h3, h4, h5⟩ := Pn.all fun z hz => h z (List.mem_cons_of_mem _ hz)
    have hd := h d List.mem_cons_self
    refine ⟨?_, ?_, ?_, ?_, ?_⟩
    · show (isP d && isPs ds) = true
      rw [hd.p, h1]
      rfl
    · show (PyData.showable (toP d) && PyData.showableAll (toPs ds)) = true
      rw [hd.s, h2]
      rfl
    · show piled (PyData.shown (toP d) :: PyData.shownAll (toPs ds)) ≤ _
      rw [piled_cons, List.length_cons, Nat.mul_add, Nat.mul_one]
      have := hd.l
      omega
    · show max (PyData.depth (toP d)) (PyData.depthAll (toPs ds)) ≤ n
      exact Nat.max_le.mpr ⟨hd.dp, h4⟩
    · show (PyData.canLay0 (toP d) && PyData.canLayAll0 (toPs ds)) = true
      rw [hd.c, h5]
      rfl
theorem Pn.tup {n m : Nat} {ds : List D} (h : ∀ d ∈ ds, Pn n m d) : Pn (n + 1) ((m + 2) * ds.length + 3) (.tup ds) := by
  obtain ⟨h1, h2, h3, h4, h5⟩ := Pn.all h
  refine ⟨h1, h2, ?_, Nat.succ_le_succ h4, h5⟩
  have := tupleText_le (PyData.shownAll (toPs ds))
  show (tupleText (PyData.shownAll (toPs ds))).length ≤ _
  omega
theorem Pn.lst {n m : Nat} {ds : List D} (h : ∀ d ∈ ds, Pn n m d) : Pn (n + 1) ((m + 2) * ds.length + 3) (.lst ds) := by
  obtain ⟨h1, h2, h3, h4, h5⟩ := Pn.all h
  refine ⟨h1, h2, ?_, Nat.succ_le_succ h4, h5⟩
  have := listText_le (PyData.shownAll (toPs ds))
  show (listText (PyData.shownAll (toPs ds))).length ≤ _
  omega
theorem eqD_self {x : D} (h : okD x) : eqD x x = true := SeqAt.eqv_refl _ (Bool.and_eq_true_iff.mp (show (PyData.canLay0 (toP x) && decide (PyData.depth (toP x) ≤ 64)) = true from h.2)).1
section
variable {s : DSt} {Q : D → Prop}
theorem pEq_self {x : D} (h : okD x) (q : Q (.bl true)) : pEq s x x Q := .inl ⟨h, h, by rw [eqD_self h]; exact q⟩
theorem pNe_same {x : D} (h : okD x) (q : Q (.bl false)) : pNe s x x Q := .inl ⟨h, h, by rw [eqD_self h]; exact q⟩
end
/-- ints of few digits -/
theorem Pn.ints {ks : List Int} (h : ∀ k ∈ ks, k.natAbs < 2 ^ 600) : ∀ d ∈ ks.map D.int, Pn 0 1921 d := fun d hd => by
  obtain ⟨k, hk, rfl⟩ := List.mem_map.mp hd
  exact .int (log_of (h k hk))
end DL

set_option Elab.async false
set_option linter.all false
set_option maxRecDepth 100000
namespace K05
open PySem PySem.Spec L2 DL
open PyProof.Rows hiding St
def c_FAR : D := .int (1000000000000000000000000000000000000000000000000000000000000)
def c_PAIR_SIZE : D := .int (2)
def c_MOST_PLACES : D := .int (24)
def c_MOST_ROWS : D := .int (100)
def c_MOST_LED : D := .int (1000000)
/- def is_whole(value): value=0 -/
def r_is_whole : DS := sRet (dAndV (dCall (p2 pIsi) (dCons (dPeek 0) (dCons (dC (.ty "int")) (dNil)))) (dNotV (dCall (p2 pIsi) (dCons (dPeek 0) (dCons (dC (.ty "bool")) (dNil))))))
def f_is_whole : DSp := bodyD 1 1 r_is_whole

/- def is_near(value): value=0 -/
def r_is_near : DS := sRet (dAndV (dFn f_is_whole [] (dLen 1 (dCons (dVar 0) (dNil)))) (dChain pLt pLt (dUn pNeg (dC c_FAR)) (dPeek 0) (dC c_FAR)))
def f_is_near : DSp := bodyD 1 1 r_is_near

/- def is_near_row(v, value): v=0 value=1 number=2 -/
def r_is_near_row : DS := sRet (dAndV (dCall (p2 pIsi) (dCons (dPeek 1) (dCons (dC (.ty "tuple")) (dNil)))) (dAndV (dOp pEq (dCall (p1 pLen) (dCons (dPeek 1) (dNil))) (dOp pAdd (dPeek 0) (dC (.int 1)))) (dCall (p1 pAll) (dCons (dFrz (dLc [2] (.one 2) (dSeq (dVar 1)) (dYes) (dFn f_is_near [] (dLen 1 (dCons (dVar 2) (dNil)))))) (dNil)))))
def f_is_near_row : DSp := bodyD 3 2 r_is_near_row

/- def require_row(lot, row): lot=0 row=1 -/
def r_require_row : DS := sIf (dNot (dTru (dFn f_is_near_row [] (dLen 2 (dCons (dOp pIx (dPeek 0) (dC (.int 0))) (dCons (dVar 1) (dNil))))))) (sNever) (sNext)
def f_require_row : DSp := bodyD 2 2 r_require_row

/- def is_pair(value): value=0 -/
def r_is_pair : DS := sRet (dAndV (dCall (p2 pIsi) (dCons (dPeek 0) (dCons (dC (.ty "tuple")) (dNil)))) (dOp pEq (dCall (p1 pLen) (dCons (dPeek 0) (dNil))) (dC c_PAIR_SIZE)))
def f_is_pair : DSp := bodyD 1 1 r_is_pair

/- def is_lot_in(value): value=0 row=1 -/
def r_is_lot_in : DS := sSeq (sIf (dOr (dNot (dTru (dFn f_is_pair [] (dLen 1 (dCons (dVar 0) (dNil)))))) (dOr (dNot (dTru (dFn f_is_near [] (dLen 1 (dCons (dOp pIx (dPeek 0) (dC (.int 0))) (dNil)))))) (dNot (dTst (dChain (pI (fun _ _ => True) fun i j => .bl (decide (i ≤ j))) (pI (fun _ _ => True) fun i j => .bl (decide (i ≤ j))) (dC (.int 0)) (dOp pIx (dPeek 0) (dC (.int 0))) (dC c_MOST_PLACES)))))) (sRet (dC (.bl false))) (sNext)) (sSeq (sIf (dOr (dNot (dTru (dCall (p2 pIsi) (dCons (dOp pIx (dPeek 0) (dC (.int 1))) (dCons (dC (.ty "tuple")) (dNil)))))) (dTst (dOp (pI (fun _ _ => True) fun i j => .bl (decide (j < i))) (dCall (p1 pLen) (dCons (dOp pIx (dPeek 0) (dC (.int 1))) (dNil))) (dC c_MOST_ROWS)))) (sRet (dC (.bl false))) (sNext)) (sRet (dCall (p1 pAll) (dCons (dFrz (dLc [1] (.one 1) (dSeq (dOp pIx (dPeek 0) (dC (.int 1)))) (dYes) (dFn f_is_near_row [] (dLen 2 (dCons (dOp pIx (dPeek 0) (dC (.int 0))) (dCons (dVar 1) (dNil))))))) (dNil)))))
def f_is_lot_in : DSp := bodyD 2 1 r_is_lot_in

/- def require_lot(lot): lot=0 -/
def r_require_lot : DS := sIf (dNot (dTru (dFn f_is_lot_in [] (dLen 1 (dCons (dVar 0) (dNil)))))) (sNever) (sNext)
def f_require_lot : DSp := bodyD 1 1 r_require_lot

/- def put_row(lot, row): lot=0 row=1 -/
def r_put_row : DS := sSeq (sDrop (dFn f_require_lot [] (dLen 1 (dCons (dVar 0) (dNil))))) (sSeq (sDrop (dFn f_require_row [] (dLen 2 (dCons (dVar 0) (dCons (dVar 1) (dNil)))))) (sSeq (sIf (dTst (dOp pEq (dCall (p1 pLen) (dCons (dOp pIx (dPeek 0) (dC (.int 1))) (dNil))) (dC c_MOST_ROWS))) (sNever) (sNext)) (sRet (dTup (dCons (dOp pIx (dPeek 0) (dC (.int 0))) (dCons (dTup (dStar (dOp pIx (dPeek 0) (dC (.int 1))) (dCons (dVar 1) (dNil)))) (dNil)))))))
def f_put_row : DSp := bodyD 2 2 r_put_row

/- def turned_row(row, order): row=0 order=1 place=2 -/
def r_turned_row : DS := sRet (dTup (dStar (dFrz (dLc [2] (.one 2) (dSeq (dVar 1)) (dYes) (dOp pIx (dPeek 0) (dPeek 2)))) (dCons (dOp pIx (dPeek 0) (dUn pNeg (dC (.int 1)))) (dNil))))
def f_turned_row : DSp := bodyD 3 2 r_turned_row

/- def is_sequence_of(v, value): v=0 value=1 place=2 -/
def r_is_sequence_of : DS := sSeq (sIf (dOr (dNot (dTru (dCall (p2 pIsi) (dCons (dPeek 1) (dCons (dC (.ty "tuple")) (dNil)))))) (dOr (dTst (dOp pNe (dCall (p1 pLen) (dCons (dPeek 1) (dNil))) (dPeek 0))) (dNot (dTru (dCall (p1 pAll) (dCons (dFrz (dLc [2] (.one 2) (dSeq (dVar 1)) (dYes) (dFn f_is_whole [] (dLen 1 (dCons (dVar 2) (dNil)))))) (dNil))))))) (sRet (dC (.bl false))) (sNext)) (sRet (dOp pEq (dFrz (dSortI (dCons (dPeek 1) (dNil)))) (dFrz (dListRg (dPeek 0)))))
def f_is_sequence_of : DSp := bodyD 3 2 r_is_sequence_of

/- def turned_lot(lot, order): lot=0 order=1 row=2 -/
def r_turned_lot : DS := sSeq (sDrop (dFn f_require_lot [] (dLen 1 (dCons (dVar 0) (dNil))))) (sSeq (sIf (dNot (dTru (dFn f_is_sequence_of [] (dLen 2 (dCons (dOp pIx (dPeek 0) (dC (.int 0))) (dCons (dVar 1) (dNil))))))) (sNever) (sNext)) (sRet (dTup (dCons (dOp pIx (dPeek 0) (dC (.int 0))) (dCons (dCall (p1 pTup) (dCons (dFrz (dLc [2] (.one 2) (dSeq (dOp pIx (dPeek 0) (dC (.int 1)))) (dYes) (dFn f_turned_row [] (dLen 2 (dCons (dVar 2) (dCons (dVar 1) (dNil))))))) (dNil))) (dNil))))))
def f_turned_lot : DSp := bodyD 3 2 r_turned_lot

/- def led_row(row, matrix, wide): row=0 matrix=1 wide=2 found=3 number=4 told=5 one=6 member=7 -/
def r_led_row : DS := sSeq (sSet 3 (dFrz (dCat (dFrz (dRepL (dFrz (dLst (dCons (dC (.int 0)) (dNil)))) (dOp (pI (fun _ _ => True) fun i j => .int (i - j)) (dPeek 2) (dC (.int 1))))) (dFrz (dLst (dCons (dOp pIx (dPeek 0) (dUn pNeg (dC (.int 1)))) (dNil))))))) (sSeq (sFor (.many [4, 5]) (dZip (dCons (dVar 0) (dCons (dVar 1) (dNil)))) (sSet 3 (dFrz (dLc [6, 7] (.many [6, 7]) (dZip (dCons (dVar 3) (dCons (dVar 5) (dNil)))) (dYes) (dOp pAdd (dPeek 6) (dOp pMul (dPeek 4) (dPeek 7))))))) (sRet (dCall (p1 pTup) (dCons (dPeek 3) (dNil)))))
def f_led_row : DSp := bodyD 8 3 r_led_row

/- def led_in(lot, matrix): lot=0 matrix=1 wide=2 row=3 -/
def r_led_in : DS := sSeq (sSet 2 (dIf (dTst (dOp pNe (dPeek 1) (dTup (dNil)))) (dCall (p1 pLen) (dCons (dOp pIx (dPeek 1) (dC (.int 0))) (dNil))) (dC (.int 1)))) (sRet (dTup (dCons (dOp (pI (fun _ _ => True) fun i j => .int (i - j)) (dPeek 2) (dC (.int 1))) (dCons (dCall (p1 pTup) (dCons (dFrz (dLc [3] (.one 3) (dSeq (dOp pIx (dPeek 0) (dC (.int 1)))) (dYes) (dFn f_led_row [] (dLen 3 (dCons (dVar 3) (dCons (dVar 1) (dCons (dVar 2) (dNil)))))))) (dNil))) (dNil)))))
def f_led_in : DSp := bodyD 4 2 r_led_in

/- def is_matrix(lot, value): lot=0 value=1 row=2 number=3 -/
def r_is_matrix : DS := sSeq (sIf (dOr (dNot (dTru (dCall (p2 pIsi) (dCons (dPeek 1) (dCons (dC (.ty "tuple")) (dNil)))))) (dTst (dOp pNe (dCall (p1 pLen) (dCons (dPeek 1) (dNil))) (dOp pIx (dPeek 0) (dC (.int 0)))))) (sRet (dC (.bl false))) (sNext)) (sSeq (sIf (dNot (dTru (dCall (p1 pAll) (dCons (dFrz (dLc [2] (.one 2) (dSeq (dVar 1)) (dYes) (dAndV (dCall (p2 pIsi) (dCons (dPeek 2) (dCons (dC (.ty "tuple")) (dNil)))) (dChain (pI (fun _ _ => True) fun i j => .bl (decide (i ≤ j))) (pI (fun _ _ => True) fun i j => .bl (decide (i ≤ j))) (dC (.int 1)) (dCall (p1 pLen) (dCons (dPeek 2) (dNil))) (dOp pAdd (dC c_MOST_PLACES) (dC (.int 1))))))) (dNil))))) (sRet (dC (.bl false))) (sNext)) (sSeq (sIf (dNot (dTru (dCall (p1 pAll) (dCons (dFrz (dLc [2] (.one 2) (dSeq (dVar 1)) (dYes) (dOp pEq (dCall (p1 pLen) (dCons (dPeek 2) (dNil))) (dCall (p1 pLen) (dCons (dOp pIx (dPeek 1) (dC (.int 0))) (dNil)))))) (dNil))))) (sRet (dC (.bl false))) (sNext)) (sRet (dCall (p1 pAll) (dCons (dFrz (dLc2 [2, 3] [3] (.one 2) (dSeq (dVar 1)) (dYes) (.one 3) (dSeq (dVar 2)) (dYes) (dAndV (dFn f_is_whole [] (dLen 1 (dCons (dVar 3) (dNil)))) (dOp (pI (fun _ _ => True) fun i j => .bl (decide (i ≤ j))) (dCall (p1 pAbs) (dCons (dPeek 3) (dNil))) (dC c_MOST_LED))))) (dNil))))))
def f_is_matrix : DSp := bodyD 4 2 r_is_matrix

/- def led_lot(lot, matrix): lot=0 matrix=1 found=2 row=3 number=4 -/
def r_led_lot : DS := sSeq (sDrop (dFn f_require_lot [] (dLen 1 (dCons (dVar 0) (dNil))))) (sSeq (sIf (dNot (dTru (dFn f_is_matrix [] (dLen 2 (dCons (dVar 0) (dCons (dVar 1) (dNil))))))) (sNever) (sNext)) (sSeq (sSet 2 (dFn f_led_in [] (dLen 2 (dCons (dVar 0) (dCons (dVar 1) (dNil)))))) (sSeq (sIf (dNot (dTru (dCall (p1 pAll) (dCons (dFrz (dLc2 [3, 4] [4] (.one 3) (dSeq (dOp pIx (dPeek 2) (dC (.int 1)))) (dYes) (.one 4) (dSeq (dVar 3)) (dYes) (dFn f_is_near [] (dLen 1 (dCons (dVar 4) (dNil)))))) (dNil))))) (sNever) (sNext)) (sRet (dVar 2)))))
def f_led_lot : DSp := bodyD 5 2 r_led_lot

/- def cut_by(row, g): row=0 g=1 number=2 -/
def r_cut_by : DS := sRet (dCall (p1 pTup) (dCons (dFrz (dLc [2] (.one 2) (dSeq (dVar 0)) (dYes) (dOp (pI CDivW fun i j => .int (i / j)) (dPeek 2) (dPeek 1)))) (dNil)))
def f_cut_by : DSp := bodyD 3 2 r_cut_by

/- def does_divide(row, g): row=0 g=1 number=2 -/
def r_does_divide : DS := sRet (dCall (p1 pAll) (dCons (dFrz (dLc [2] (.one 2) (dSeq (dSl (dPeek 0) (dNoPart) (dPart (dUn pNeg (dC (.int 1)))))) (dYes) (dOp pEq (dOp (pI (fun _ j => 0 < j) fun i j => .int (i % j)) (dPeek 2) (dPeek 1)) (dC (.int 0))))) (dNil)))
def f_does_divide : DSp := bodyD 3 2 r_does_divide

/- def weighted_by(rows, v, weights): rows=0 v=1 weights=2 found=3 at=4 weight=5 one=6 number=7 -/
def r_weighted_by : DS := sSeq (sSet 3 (dFrz (dRepL (dFrz (dLst (dCons (dC (.int 0)) (dNil)))) (dOp pAdd (dPeek 1) (dC (.int 1)))))) (sSeq (sFor (.many [4, 5]) (dSeq (dVar 2)) (sSet 3 (dFrz (dLc [6, 7] (.many [6, 7]) (dZip (dCons (dVar 3) (dCons (dOp pIx (dPeek 0) (dPeek 4)) (dNil)))) (dYes) (dOp pAdd (dPeek 6) (dOp pMul (dPeek 5) (dPeek 7))))))) (sRet (dCall (p1 pTup) (dCons (dPeek 3) (dNil)))))
def f_weighted_by : DSp := bodyD 8 3 r_weighted_by

/- def weighted_in(lot, weights): lot=0 weights=1 -/
def r_weighted_in : DS := sRet (dFn f_weighted_by [] (dLen 3 (dCons (dOp pIx (dPeek 0) (dC (.int 1))) (dCons (dOp pIx (dPeek 0) (dC (.int 0))) (dCons (dVar 1) (dNil))))))
def f_weighted_in : DSp := bodyD 2 2 r_weighted_in

/- def require_number(value, least, most): value=0 least=1 most=2 -/
def r_require_number : DS := sIf (dOr (dNot (dTru (dFn f_is_near [] (dLen 1 (dCons (dVar 0) (dNil)))))) (dOr (dAnd (dTst (dOp (pIs true) (dPeek 1) (dC .non))) (dTst (dOp pLt (dPeek 0) (dPeek 1)))) (dAnd (dTst (dOp (pIs true) (dPeek 2) (dC .non))) (dTst (dOp (pI (fun _ _ => True) fun i j => .bl (decide (j < i))) (dPeek 0) (dPeek 2)))))) (sNever) (sNext)
def f_require_number : DSp := bodyD 3 3 r_require_number

/- def is_ascending(items): items=0 one=1 other=2 -/
def r_is_ascending : DS := sRet (dCall (p1 pAll) (dCons (dFrz (dLc [1, 2] (.many [1, 2]) (dZip (dCons (dVar 0) (dCons (dSl (dPeek 0) (dPart (dC (.int 1))) (dNoPart)) (dNil)))) (dYes) (dOp pLt (dPeek 1) (dPeek 2)))) (dNil)))
def f_is_ascending : DSp := bodyD 3 1 r_is_ascending

/- def is_weight(many, value): many=0 value=1 -/
def r_is_weight : DS := sSeq (sIf (dOr (dNot (dTru (dFn f_is_pair [] (dLen 1 (dCons (dVar 1) (dNil)))))) (dOr (dNot (dTru (dFn f_is_whole [] (dLen 1 (dCons (dOp pIx (dPeek 1) (dC (.int 0))) (dNil)))))) (dNot (dTru (dFn f_is_whole [] (dLen 1 (dCons (dOp pIx (dPeek 1) (dC (.int 1))) (dNil)))))))) (sRet (dC (.bl false))) (sNext)) (sRet (dAndV (dChain (pI (fun _ _ => True) fun i j => .bl (decide (i ≤ j))) pLt (dC (.int 0)) (dOp pIx (dPeek 1) (dC (.int 0))) (dPeek 0)) (dOp (pI (fun _ _ => True) fun i j => .bl (decide (j ≤ i))) (dOp pIx (dPeek 1) (dC (.int 1))) (dC (.int 1)))))
def f_is_weight : DSp := bodyD 2 2 r_is_weight

/- def are_weights_by(many, value): many=0 value=1 one=2 -/
def r_are_weights_by : DS := sSeq (sIf (dOr (dNot (dTru (dCall (p2 pIsi) (dCons (dPeek 1) (dCons (dC (.ty "tuple")) (dNil)))))) (dOr (dTst (dOp pEq (dPeek 1) (dTup (dNil)))) (dNot (dTru (dCall (p1 pAll) (dCons (dFrz (dLc [2] (.one 2) (dSeq (dVar 1)) (dYes) (dFn f_is_weight [] (dLen 2 (dCons (dVar 0) (dCons (dVar 2) (dNil))))))) (dNil))))))) (sRet (dC (.bl false))) (sNext)) (sRet (dFn f_is_ascending [] (dLen 1 (dCons (dFrz (dLc [2] (.one 2) (dSeq (dVar 1)) (dYes) (dOp pIx (dPeek 2) (dC (.int 0))))) (dNil)))))
def f_are_weights_by : DSp := bodyD 3 2 r_are_weights_by

/- def are_weights_in(lot, value): lot=0 value=1 -/
def r_are_weights_in : DS := sRet (dFn f_are_weights_by [] (dLen 2 (dCons (dCall (p1 pLen) (dCons (dOp pIx (dPeek 0) (dC (.int 1))) (dNil))) (dCons (dVar 1) (dNil)))))
def f_are_weights_in : DSp := bodyD 2 2 r_are_weights_in

/- def require_weights(lot, weights): lot=0 weights=1 at=2 weight=3 -/
def r_require_weights : DS := sIf (dOr (dNot (dTru (dFn f_are_weights_in [] (dLen 2 (dCons (dVar 0) (dCons (dVar 1) (dNil))))))) (dNot (dTru (dCall (p1 pAll) (dCons (dFrz (dLc [2, 3] (.many [2, 3]) (dSeq (dVar 1)) (dYes) (dFn f_is_near [] (dLen 1 (dCons (dVar 3) (dNil)))))) (dNil)))))) (sNever) (sNext)
def f_require_weights : DSp := bodyD 4 2 r_require_weights

/- def cut_row(lot, weights, g): lot=0 weights=1 g=2 found=3 -/
def r_cut_row : DS := sSeq (sDrop (dFn f_require_lot [] (dLen 1 (dCons (dVar 0) (dNil))))) (sSeq (sDrop (dFn f_require_weights [] (dLen 2 (dCons (dVar 0) (dCons (dVar 1) (dNil)))))) (sSeq (sDrop (dFn f_require_number [] (dLen 3 (dCons (dVar 2) (dCons (dC (.int 1)) (dCons (dC .non) (dNil))))))) (sSeq (sSet 3 (dFn f_weighted_in [] (dLen 2 (dCons (dVar 0) (dCons (dVar 1) (dNil)))))) (sSeq (sIf (dNot (dTru (dFn f_does_divide [] (dLen 2 (dCons (dVar 3) (dCons (dVar 2) (dNil))))))) (sNever) (sNext)) (sRet (dFn f_cut_by [] (dLen 2 (dCons (dVar 3) (dCons (dVar 2) (dNil))))))))))
def f_cut_row : DSp := bodyD 4 3 r_cut_row

/- def opposite_in(row): row=0 number=1 -/
def r_opposite_in : DS := sRet (dTup (dStar (dFrz (dLc [1] (.one 1) (dSeq (dSl (dPeek 0) (dNoPart) (dPart (dUn pNeg (dC (.int 1)))))) (dYes) (dUn pNeg (dPeek 1)))) (dCons (dOp (pI (fun _ _ => True) fun i j => .int (i - j)) (dUn pNeg (dOp pIx (dPeek 0) (dUn pNeg (dC (.int 1))))) (dC (.int 1))) (dNil))))
def f_opposite_in : DSp := bodyD 2 1 r_opposite_in

/- def is_free_row(value): value=0 number=1 -/
def r_is_free_row : DS := sSeq (sIf (dOr (dNot (dTru (dCall (p2 pIsi) (dCons (dPeek 0) (dCons (dC (.ty "tuple")) (dNil)))))) (dNot (dTst (dChain (pI (fun _ _ => True) fun i j => .bl (decide (i ≤ j))) (pI (fun _ _ => True) fun i j => .bl (decide (i ≤ j))) (dC (.int 1)) (dCall (p1 pLen) (dCons (dPeek 0) (dNil))) (dOp pAdd (dC c_MOST_PLACES) (dC (.int 1))))))) (sRet (dC (.bl false))) (sNext)) (sRet (dCall (p1 pAll) (dCons (dFrz (dLc [1] (.one 1) (dSeq (dVar 0)) (dYes) (dFn f_is_near [] (dLen 1 (dCons (dVar 1) (dNil)))))) (dNil))))
def f_is_free_row : DSp := bodyD 2 1 r_is_free_row

/- def require_free_row(row): row=0 -/
def r_require_free_row : DS := sIf (dNot (dTru (dFn f_is_free_row [] (dLen 1 (dCons (dVar 0) (dNil)))))) (sNever) (sNext)
def f_require_free_row : DSp := bodyD 1 1 r_require_free_row

/- def opposite_row(row): row=0 -/
def r_opposite_row : DS := sSeq (sDrop (dFn f_require_free_row [] (dLen 1 (dCons (dVar 0) (dNil))))) (sRet (dFn f_opposite_in [] (dLen 1 (dCons (dVar 0) (dNil)))))
def f_opposite_row : DSp := bodyD 1 1 r_opposite_row

/- def _law_put_together(lot, matrix, wide): lot=0 matrix=1 wide=2 rows=3 row=4 later=5 place=6 x=7 one=8 -/
def r__law_put_together : DS := sSeq (sOwn 3 (dLst (dNil))) (sSeq (sFor (.one 4) (dSeq (dOp pIx (dPeek 0) (dC (.int 1)))) (sSeq (sSet 5 (dFrz (dLc [6] (.one 6) (dRng1 (dCons (dOp pAdd (dPeek 2) (dC (.int 1))) (dNil))) (dYes) (dCall (p1 pSum) (dCons (dFrz (dLc [7, 8] (.many [7, 8]) (dZip (dCons (dVar 4) (dCons (dVar 1) (dNil)))) (dYes) (dOp pMul (dPeek 7) (dOp pIx (dPeek 8) (dPeek 6))))) (dNil)))))) (sApp 3 (dCall (p1 pTup) (dCons (dOp pAdd (dSl (dPeek 5) (dNoPart) (dPart (dUn pNeg (dC (.int 1))))) (dFrz (dLst (dCons (dOp pAdd (dOp pIx (dPeek 5) (dUn pNeg (dC (.int 1)))) (dOp pIx (dPeek 4) (dUn pNeg (dC (.int 1))))) (dNil))))) (dNil)))))) (sRet (dTup (dCons (dVar 2) (dCons (dCall (p1 pTup) (dCons (dPeek 3) (dNil))) (dNil))))))
def f__law_put_together : DSp := bodyD 9 3 r__law_put_together

/- def _law_row_at(row, point): row=0 point=1 a=2 b=3 -/
def r__law_row_at : DS := sRet (dOp pAdd (dOp pIx (dPeek 0) (dUn pNeg (dC (.int 1)))) (dCall (p1 pSum) (dCons (dFrz (dLc [2, 3] (.many [2, 3]) (dZip (dCons (dVar 0) (dCons (dVar 1) (dNil)))) (dYes) (dOp pMul (dPeek 2) (dPeek 3)))) (dNil))))
def f__law_row_at : DSp := bodyD 4 2 r__law_row_at

/- def _law_keeps(lot, point): lot=0 point=1 row=2 -/
def r__law_keeps : DS := sRet (dOp pEq (dFrz (dLc [2] (.one 2) (dSeq (dOp pIx (dPeek 0) (dC (.int 1)))) (dTst (dOp pLt (dFn f__law_row_at [] (dLen 2 (dCons (dVar 2) (dCons (dVar 1) (dNil))))) (dC (.int 0)))) (dVar 2))) (dFrz (dLst (dNil))))
def f__law_keeps : DSp := bodyD 3 2 r__law_keeps

/- def row_worth(row, point): row=0 point=1 number=2 member=3 -/
def r_row_worth : DS := sRet (dOp pAdd (dCall (p1 pSum) (dCons (dFrz (dLc [2, 3] (.many [2, 3]) (dZip (dCons (dVar 0) (dCons (dVar 1) (dNil)))) (dYes) (dOp pMul (dPeek 2) (dPeek 3)))) (dNil))) (dOp pIx (dPeek 0) (dUn pNeg (dC (.int 1)))))
def f_row_worth : DSp := bodyD 4 2 r_row_worth

/- def does_keep_in(lot, point): lot=0 point=1 row=2 -/
def r_does_keep_in : DS := sRet (dCall (p1 pAll) (dCons (dFrz (dLc [2] (.one 2) (dSeq (dOp pIx (dPeek 0) (dC (.int 1)))) (dYes) (dOp (pI (fun _ _ => True) fun i j => .bl (decide (j ≤ i))) (dFn f_row_worth [] (dLen 2 (dCons (dVar 2) (dCons (dVar 1) (dNil))))) (dC (.int 0))))) (dNil)))
def f_does_keep_in : DSp := bodyD 3 2 r_does_keep_in

/- def is_point_of(v, value): v=0 value=1 number=2 -/
def r_is_point_of : DS := sRet (dAndV (dCall (p2 pIsi) (dCons (dPeek 1) (dCons (dC (.ty "tuple")) (dNil)))) (dAndV (dOp pEq (dCall (p1 pLen) (dCons (dPeek 1) (dNil))) (dPeek 0)) (dCall (p1 pAll) (dCons (dFrz (dLc [2] (.one 2) (dSeq (dVar 1)) (dYes) (dFn f_is_near [] (dLen 1 (dCons (dVar 2) (dNil)))))) (dNil)))))
def f_is_point_of : DSp := bodyD 3 2 r_is_point_of

/- def require_point_of(v, point): v=0 point=1 -/
def r_require_point_of : DS := sIf (dNot (dTru (dFn f_is_point_of [] (dLen 2 (dCons (dVar 0) (dCons (dVar 1) (dNil))))))) (sNever) (sNext)
def f_require_point_of : DSp := bodyD 2 2 r_require_point_of

/- def does_keep(lot, point): lot=0 point=1 -/
def r_does_keep : DS := sSeq (sDrop (dFn f_require_lot [] (dLen 1 (dCons (dVar 0) (dNil))))) (sSeq (sDrop (dFn f_require_point_of [] (dLen 2 (dCons (dOp pIx (dPeek 0) (dC (.int 0))) (dCons (dVar 1) (dNil)))))) (sRet (dFn f_does_keep_in [] (dLen 2 (dCons (dVar 0) (dCons (dVar 1) (dNil)))))))
def f_does_keep : DSp := bodyD 2 2 r_does_keep

/- def _law_roll(dice, total): dice=0 total=1 found=2 one=3 two=4 -/
def r__law_roll : DS := sSeq (sIf (dTst (dOp (pI (fun _ _ => True) fun i j => .bl (decide (j < i))) (dOp pIx (dPeek 0) (dC (.int 0))) (dC (.int 0)))) (sSeq (sSet 2 (dOp (pI (fun _ j => 0 < j) fun i j => .int (i % j)) (dCall (p1 pInt) (dCons (dOp pIx (dPeek 0) (dC (.int 0))) (dNil))) (dPeek 1))) (sSeq (sIxG 0 (dC (.int 0)) (dOp (pI CDivW fun i j => .int (i / j)) (dOp pIx (dPeek 0) (dC (.int 0))) (dPeek 1))) (sRet (dVar 2)))) (sNext)) (sSeq (sIxG 0 (dC (.int 2)) (dOp pAdd (dOp pIx (dPeek 0) (dC (.int 2))) (dC (.int 1)))) (sSeq (sSet 3 (dOp (pI (fun _ j => 0 < j) fun i j => .int (i % j)) (dCall (p1 pInt) (dCons (dOp pAdd (dOp pIx (dPeek 0) (dC (.int 1))) (dOp pMul (dC (.int 15486209)) (dOp pIx (dPeek 0) (dC (.int 2))))) (dNil))) (dC (.int 2305843009213693951)))) (sSeq (sSet 4 (dOp pAdd (dOp pMul (dOp (pI (fun _ j => 0 < j) fun i j => .int (i % j)) (dCall (p1 pInt) (dCons (dOp pAdd (dOp pMul (dPeek 3) (dPeek 3)) (dOp pMul (dC (.int 199)) (dOp pIx (dPeek 0) (dC (.int 2))))) (dNil))) (dC (.int 2305843009213693907))) (dC (.int 7368751))) (dPeek 3))) (sRet (dOp (pI (fun _ j => 0 < j) fun i j => .int (i % j)) (dCall (p1 pInt) (dCons (dOp (pI CDivW fun i j => .int (i / j)) (dPeek 4) (dC (.int 65536))) (dNil))) (dPeek 1))))))
def f__law_roll : DSp := bodyD 5 2 r__law_roll

/- def _law_pick(dice, items): dice=0 items=1 -/
def r__law_pick : DS := sRet (dOp pIx (dPeek 1) (dFn f__law_roll [] (dLen 2 (dCons (dVar 0) (dCons (dCall (p1 pLen) (dCons (dPeek 1) (dNil))) (dNil))))))
def f__law_pick : DSp := bodyD 2 2 r__law_pick

/- def _law_rw_point(dice, v): dice=0 v=1 far=2 place=3 -/
def r__law_rw_point : DS := sSeq (sSet 2 (dFn f__law_pick [] (dLen 2 (dCons (dVar 0) (dCons (dFrz (dLst (dCons (dC (.int 1)) (dCons (dC (.int 3)) (dCons (dC (.int 9)) (dCons (dOp (pI CPow fun i j => .int (i ^ j.toNat)) (dC (.int 10)) (dC (.int 30))) (dNil))))))) (dNil)))))) (sRet (dCall (p1 pTup) (dCons (dFrz (dLc [3] (.one 3) (dRng1 (dCons (dPeek 1) (dNil))) (dYes) (dOp (pI (fun _ _ => True) fun i j => .int (i - j)) (dFn f__law_roll [] (dLen 2 (dCons (dVar 0) (dCons (dOp pAdd (dOp pMul (dC (.int 2)) (dPeek 2)) (dC (.int 1))) (dNil))))) (dPeek 2)))) (dNil))))
def f__law_rw_point : DSp := bodyD 4 2 r__law_rw_point

/- def _law_matrix(dice, v, wide): dice=0 v=1 wide=2 far=3 row=4 place=5 -/
def r__law_matrix : DS := sSeq (sSet 3 (dFn f__law_pick [] (dLen 2 (dCons (dVar 0) (dCons (dFrz (dLst (dCons (dC (.int 1)) (dCons (dC (.int 2)) (dCons (dC (.int 9)) (dCons (dOp (pI CPow fun i j => .int (i ^ j.toNat)) (dC (.int 10)) (dC (.int 6))) (dNil))))))) (dNil)))))) (sRet (dCall (p1 pTup) (dCons (dFrz (dLc [4] (.one 4) (dRng1 (dCons (dPeek 1) (dNil))) (dYes) (dCall (p1 pTup) (dCons (dFrz (dLc [5] (.one 5) (dRng1 (dCons (dOp pAdd (dPeek 2) (dC (.int 1))) (dNil))) (dYes) (dOp (pI (fun _ _ => True) fun i j => .int (i - j)) (dFn f__law_roll [] (dLen 2 (dCons (dVar 0) (dCons (dOp pAdd (dOp pMul (dC (.int 2)) (dPeek 3)) (dC (.int 1))) (dNil))))) (dPeek 3)))) (dNil))))) (dNil))))
def f__law_matrix : DSp := bodyD 6 3 r__law_matrix

/- def _law_led_right(dice, lot): dice=0 lot=1 v=2 wide=3 far=4 matrix=5 other=6 led=7 turn=8 point=9 there=10 both=11 row=12 x=13 -/
def r__law_led_right : DS := sSeq (sPar3 2 3 4 (dOp pIx (dPeek 1) (dC (.int 0))) (dFn f__law_roll [] (dLen 2 (dCons (dVar 0) (dCons (dC (.int 4)) (dNil))))) (dFn f__law_roll [] (dLen 2 (dCons (dVar 0) (dCons (dC (.int 3)) (dNil)))))) (sSeq (sParVV 5 6 (dFn f__law_matrix [] (dLen 3 (dCons (dVar 0) (dCons (dVar 2) (dCons (dVar 3) (dNil)))))) (dFn f__law_matrix [] (dLen 3 (dCons (dVar 0) (dCons (dVar 3) (dCons (dVar 4) (dNil))))))) (sSeq (sIf (dTst (dOp pEq (dPeek 2) (dC (.int 0)))) (sRet (dOp pEq (dCall (p1 pRepr) (dCons (dFn f_led_lot [] (dLen 2 (dCons (dVar 1) (dCons (dTup (dNil)) (dNil))))) (dNil))) (dCall (p1 pRepr) (dCons (dPeek 1) (dNil))))) (sNext)) (sSeq (sSet 7 (dFn f_led_lot [] (dLen 2 (dCons (dVar 1) (dCons (dVar 5) (dNil)))))) (sSeq (sIf (dTst (dOp pNe (dCall (p1 pRepr) (dCons (dPeek 7) (dNil))) (dCall (p1 pRepr) (dCons (dFn f__law_put_together [] (dLen 3 (dCons (dVar 1) (dCons (dVar 5) (dCons (dVar 3) (dNil)))))) (dNil))))) (sRet (dC (.bl false))) (sNext)) (sSeq (sFor (.one 8) (dRng1 (dCons (dC (.int 3)) (dNil))) (sSeq (sSet 9 (dFn f__law_rw_point [] (dLen 2 (dCons (dVar 0) (dCons (dVar 3) (dNil)))))) (sSeq (sSet 10 (dCall (p1 pTup) (dCons (dFrz (dLc [12] (.one 12) (dSeq (dVar 5)) (dYes) (dFn f__law_row_at [] (dLen 2 (dCons (dVar 12) (dCons (dVar 9) (dNil))))))) (dNil)))) (sIf (dTst (dOp pLt (dCall (p1 pMaxL) (dCons (dFrz (dCat (dFrz (dLst (dCons (dC (.int 0)) (dNil)))) (dFrz (dLc [13] (.one 13) (dSeq (dVar 10)) (dYes) (dCall (p1 pAbs) (dCons (dPeek 13) (dNil))))))) (dNil))) (dOp (pI CPow fun i j => .int (i ^ j.toNat)) (dC (.int 10)) (dC (.int 50))))) (sIf (dTst (dOp pNe (dFrz (dLst (dCons (dFn f_does_keep [] (dLen 2 (dCons (dVar 7) (dCons (dVar 9) (dNil))))) (dCons (dFn f_does_keep [] (dLen 2 (dCons (dVar 1) (dCons (dVar 10) (dNil))))) (dNil))))) (dFrz (dRepL (dFrz (dLst (dCons (dFn f__law_keeps [] (dLen 2 (dCons (dVar 1) (dCons (dVar 10) (dNil))))) (dNil)))) (dC (.int 2)))))) (sRet (dC (.bl false))) (sNext)) (sNext))))) (sSeq (sSet 11 (dOp pIx (dFn f__law_put_together [] (dLen 3 (dCons (dTup (dCons (dVar 3) (dCons (dVar 5) (dNil)))) (dCons (dVar 6) (dCons (dVar 4) (dNil)))))) (dC (.int 1)))) (sSeq (sIf (dOr (dTst (dOp pEq (dPeek 3) (dC (.int 0)))) (dTst (dOp pNe (dFrz (dLc [12] (.one 12) (dSeq (dVar 11)) (dTst (dOp (pI (fun _ _ => True) fun i j => .bl (decide (j < i))) (dCall (p1 pMaxL) (dCons (dFrz (dLc [13] (.one 13) (dSeq (dVar 12)) (dYes) (dCall (p1 pAbs) (dCons (dPeek 13) (dNil))))) (dNil))) (dOp (pI CPow fun i j => .int (i ^ j.toNat)) (dC (.int 10)) (dC (.int 6))))) (dVar 12))) (dFrz (dLst (dNil)))))) (sRet (dC (.bl true))) (sNext)) (sRet (dOp pEq (dCall (p1 pRepr) (dCons (dFn f_led_lot [] (dLen 2 (dCons (dVar 7) (dCons (dVar 6) (dNil))))) (dNil))) (dCall (p1 pRepr) (dCons (dFn f_led_lot [] (dLen 2 (dCons (dVar 1) (dCons (dVar 11) (dNil))))) (dNil))))))))))))
def f__law_led_right : DSp := bodyD 14 2 r__law_led_right

/- def weighted_row(lot, weights): lot=0 weights=1 -/
def r_weighted_row : DS := sSeq (sDrop (dFn f_require_lot [] (dLen 1 (dCons (dVar 0) (dNil))))) (sSeq (sDrop (dFn f_require_weights [] (dLen 2 (dCons (dVar 0) (dCons (dVar 1) (dNil)))))) (sRet (dFn f_weighted_in [] (dLen 2 (dCons (dVar 0) (dCons (dVar 1) (dNil)))))))
def f_weighted_row : DSp := bodyD 2 2 r_weighted_row

/- def _law_rw_weights(dice, many): dice=0 many=1 far=2 found=3 at=4 -/
def r__law_rw_weights : DS := sSeq (sParVF 2 3 (dFn f__law_pick [] (dLen 2 (dCons (dVar 0) (dCons (dFrz (dLst (dCons (dC (.int 1)) (dCons (dC (.int 3)) (dCons (dOp (pI CPow fun i j => .int (i ^ j.toNat)) (dC (.int 10)) (dC (.int 20))) (dNil)))))) (dNil))))) (dLst (dNil))) (sSeq (sFor (.one 4) (dRng1 (dCons (dPeek 1) (dNil))) (sIf (dTst (dOp pEq (dFn f__law_roll [] (dLen 2 (dCons (dVar 0) (dCons (dC (.int 2)) (dNil))))) (dC (.int 0)))) (sApp 3 (dTup (dCons (dVar 4) (dCons (dOp pAdd (dC (.int 1)) (dFn f__law_roll [] (dLen 2 (dCons (dVar 0) (dCons (dVar 2) (dNil)))))) (dNil))))) (sNext))) (sRet (dIf (dTst (dOp pNe (dPeek 3) (dFrz (dLst (dNil))))) (dCall (p1 pTup) (dCons (dPeek 3) (dNil))) (dTup (dCons (dTup (dCons (dFn f__law_roll [] (dLen 2 (dCons (dVar 0) (dCons (dVar 1) (dNil))))) (dCons (dC (.int 1)) (dNil)))) (dNil))))))
def f__law_rw_weights : DSp := bodyD 5 2 r__law_rw_weights

/- def _law_shuffled(dice, items): dice=0 items=1 left=2 found=3 turn=4 -/
def r__law_shuffled : DS := sSeq (sParFF 2 3 (dListF (dCons (dPeek 1) (dNil))) (dLst (dNil))) (sSeq (sFor (.one 4) (dRng1 (dCons (dCall (p1 pLen) (dCons (dPeek 1) (dNil))) (dNil))) (sApp 3 (dPop 2 (dFn f__law_roll [] (dLen 2 (dCons (dVar 0) (dCons (dCall (p1 pLen) (dCons (dPeek 2) (dNil))) (dNil)))))))) (sRetO 3))
def f__law_shuffled : DSp := bodyD 5 2 r__law_shuffled

/- def _law_rw_number(dice): dice=0 far=1 -/
def r__law_rw_number : DS := sSeq (sSet 1 (dFn f__law_pick [] (dLen 2 (dCons (dVar 0) (dCons (dFrz (dLst (dCons (dC (.int 2)) (dCons (dC (.int 2)) (dCons (dC (.int 7)) (dCons (dC (.int 1000)) (dCons (dOp (pI CPow fun i j => .int (i ^ j.toNat)) (dC (.int 10)) (dC (.int 59))) (dNil)))))))) (dNil)))))) (sRet (dOp (pI (fun _ _ => True) fun i j => .int (i - j)) (dFn f__law_roll [] (dLen 2 (dCons (dVar 0) (dCons (dOp pAdd (dOp pMul (dC (.int 2)) (dPeek 1)) (dC (.int 1))) (dNil))))) (dPeek 1)))
def f__law_rw_number : DSp := bodyD 2 1 r__law_rw_number

/- def row_at(row, point): row=0 point=1 -/
def r_row_at : DS := sSeq (sDrop (dFn f_require_free_row [] (dLen 1 (dCons (dVar 0) (dNil))))) (sSeq (sDrop (dFn f_require_point_of [] (dLen 2 (dCons (dOp (pI (fun _ _ => True) fun i j => .int (i - j)) (dCall (p1 pLen) (dCons (dPeek 0) (dNil))) (dC (.int 1))) (dCons (dVar 1) (dNil)))))) (sRet (dFn f_row_worth [] (dLen 2 (dCons (dVar 0) (dCons (dVar 1) (dNil)))))))
def f_row_at : DSp := bodyD 2 2 r_row_at

/- def _law_opposite_row(row): row=0 x=1 -/
def r__law_opposite_row : DS := sRet (dCall (p1 pTup) (dCons (dFrz (dCat (dFrz (dLc [1] (.one 1) (dSeq (dSl (dPeek 0) (dNoPart) (dPart (dUn pNeg (dC (.int 1)))))) (dYes) (dOp (pI (fun _ _ => True) fun i j => .int (i - j)) (dC (.int 0)) (dPeek 1)))) (dFrz (dLst (dCons (dOp (pI (fun _ _ => True) fun i j => .int (i - j)) (dOp (pI (fun _ _ => True) fun i j => .int (i - j)) (dC (.int 0)) (dOp pIx (dPeek 0) (dUn pNeg (dC (.int 1))))) (dC (.int 1))) (dNil)))))) (dNil)))
def f__law_opposite_row : DSp := bodyD 2 1 r__law_opposite_row

/- def _law_rw_box(v, far): v=0 far=1 found=2 place=3 later=4 point=5 x=6 -/
def r__law_rw_box : DS := sSeq (sSet 2 (dFrz (dLst (dCons (dTup (dNil)) (dNil))))) (sSeq (sFor (.one 3) (dRng1 (dCons (dPeek 0) (dNil))) (sSeq (sOwn 4 (dLst (dNil))) (sSeq (sFor (.one 5) (dSeq (dVar 2)) (sExt 4 (dFrz (dLc [6] (.one 6) (dRng2 (dCons (dOp (pI (fun _ _ => True) fun i j => .int (i - j)) (dC (.int 0)) (dPeek 1)) (dCons (dOp pAdd (dPeek 1) (dC (.int 1))) (dNil)))) (dYes) (dOp pAdd (dPeek 5) (dTup (dCons (dVar 6) (dNil)))))))) (sSet 2 (dVar 4))))) (sRet (dVar 2)))
def f__law_rw_box : DSp := bodyD 7 2 r__law_rw_box

/- def _law_divisor(one, other): one=0 other=1 -/
def r__law_divisor : DS := sSeq (sParVV 0 1 (dCall (p1 pAbs) (dCons (dPeek 0) (dNil))) (dCall (p1 pAbs) (dCons (dPeek 1) (dNil)))) (sSeq (sWhile (dTst (dOp (pI (fun _ _ => True) fun i j => .bl (decide (j < i))) (dPeek 1) (dC (.int 0)))) (sParVV 0 1 (dVar 1) (dOp (pI (fun _ j => 0 < j) fun i j => .int (i % j)) (dCall (p1 pInt) (dCons (dPeek 0) (dNil))) (dPeek 1)))) (sRet (dVar 0)))
def f__law_divisor : DSp := bodyD 2 2 r__law_divisor

/- def _law_shared(row): row=0 found=1 x=2 -/
def r__law_shared : DS := sSeq (sSet 1 (dC (.int 0))) (sSeq (sFor (.one 2) (dSeq (dSl (dPeek 0) (dNoPart) (dPart (dUn pNeg (dC (.int 1)))))) (sSet 1 (dFn f__law_divisor [] (dLen 2 (dCons (dVar 1) (dCons (dVar 2) (dNil))))))) (sRet (dVar 1)))
def f__law_shared : DSp := bodyD 3 1 r__law_shared

/- def _law_summed(rows, weights): rows=0 weights=1 found=2 at=3 many=4 a=5 b=6 -/
def r__law_summed : DS := sSeq (sSet 2 (dFrz (dRepL (dFrz (dLst (dCons (dC (.int 0)) (dNil)))) (dCall (p1 pLen) (dCons (dOp pIx (dPeek 0) (dC (.int 0))) (dNil)))))) (sSeq (sFor (.many [3, 4]) (dSeq (dVar 1)) (sSet 2 (dFrz (dLc [5, 6] (.many [5, 6]) (dZip (dCons (dVar 2) (dCons (dOp pIx (dPeek 0) (dPeek 3)) (dNil)))) (dYes) (dOp pAdd (dPeek 5) (dOp pMul (dPeek 4) (dPeek 6))))))) (sRet (dVar 2)))
def f__law_summed : DSp := bodyD 7 2 r__law_summed

/- def _law_cuts_right(dice, lot): dice=0 lot=1 v=2 rows=3 weights=4 total=5 shared=6 some=7 g=8 cut=9 box=10 point=11 x=12 -/
def r__law_cuts_right : DS := sSeq (sAsg (.many [2, 3]) (dVar 1)) (sSeq (sSet 4 (dFn f__law_rw_weights [] (dLen 2 (dCons (dVar 0) (dCons (dCall (p1 pLen) (dCons (dPeek 3) (dNil))) (dNil)))))) (sSeq (sSet 5 (dFn f__law_summed [] (dLen 2 (dCons (dVar 3) (dCons (dVar 4) (dNil)))))) (sSeq (sAsg (.many [6, 7]) (dTup (dCons (dFn f__law_shared [] (dLen 1 (dCons (dVar 5) (dNil)))) (dCons (dFrz (dLst (dCons (dC (.int 1)) (dCons (dC (.int 2)) (dCons (dC (.int 3)) (dCons (dC (.int 5)) (dCons (dC (.int 7)) (dCons (dOp (pI CPow fun i j => .int (i ^ j.toNat)) (dC (.int 10)) (dC (.int 9))) (dNil))))))))) (dNil))))) (sSeq (sSet 7 (dFrz (dCat (dFrz (dLc [8] (.one 8) (dSeq (dVar 7)) (dTst (dOp pEq (dOp (pI (fun _ j => 0 < j) fun i j => .int (i % j)) (dCall (p1 pInt) (dCons (dPeek 6) (dNil))) (dPeek 8)) (dC (.int 0)))) (dVar 8))) (dFrz (dIfF (dTst (dChain pLt pLt (dC (.int 0)) (dPeek 6) (dOp (pI CPow fun i j => .int (i ^ j.toNat)) (dC (.int 10)) (dC (.int 30))))) (dLst (dCons (dVar 6) (dNil))) (dLst (dNil))))))) (sSeq (sFor (.one 8) (dSeq (dVar 7)) (sSeq (sSet 9 (dFn f_cut_row [] (dLen 3 (dCons (dVar 1) (dCons (dVar 4) (dCons (dVar 8) (dNil))))))) (sSeq (sIf (dTst (dOp pNe (dCall (p1 pRepr) (dCons (dPeek 9) (dNil))) (dCall (p1 pRepr) (dCons (dCall (p1 pTup) (dCons (dFrz (dLc [12] (.one 12) (dSeq (dVar 5)) (dYes) (dOp (pI CDivW fun i j => .int (i / j)) (dPeek 12) (dPeek 8)))) (dNil))) (dNil))))) (sRet (dC (.bl false))) (sNext)) (sSeq (sSet 10 (dFrz (dLc [11] (.one 11) (dSeq (dFn f__law_rw_box [] (dLen 2 (dCons (dCall (p2 (pI2 fun i j => if j < i then j else i)) (dCons (dPeek 2) (dCons (dC (.int 3)) (dNil)))) (dCons (dC (.int 3)) (dNil)))))) (dAnd (dTst (dOp pLt (dPeek 2) (dC (.int 4)))) (dTru (dFn f__law_keeps [] (dLen 2 (dCons (dVar 1) (dCons (dVar 11) (dNil))))))) (dVar 11)))) (sIf (dTst (dOp pNe (dFrz (dLc [11] (.one 11) (dSeq (dVar 10)) (dTst (dOp pLt (dFn f__law_row_at [] (dLen 2 (dCons (dVar 9) (dCons (dVar 11) (dNil))))) (dC (.int 0)))) (dVar 11))) (dFrz (dLst (dNil))))) (sRet (dC (.bl false))) (sNext)))))) (sRet (dC (.bl true))))))))
def f__law_cuts_right : DSp := bodyD 13 2 r__law_cuts_right

/- def _law_lot(dice, most): dice=0 most=1 v=2 far=3 rows=4 high=5 turn=6 row=7 place=8 x=9 -/
def r__law_lot : DS := sSeq (sAsg (.many [2, 3]) (dTup (dCons (dFn f__law_roll [] (dLen 2 (dCons (dVar 0) (dCons (dOp pAdd (dPeek 1) (dC (.int 1))) (dNil))))) (dCons (dFn f__law_pick [] (dLen 2 (dCons (dVar 0) (dCons (dFrz (dLst (dCons (dC (.int 1)) (dCons (dC (.int 2)) (dCons (dC (.int 3)) (dCons (dC (.int 5)) (dNil))))))) (dNil))))) (dNil))))) (sSeq (sParFV 4 5 (dLst (dNil)) (dFn f__law_pick [] (dLen 2 (dCons (dVar 0) (dCons (dFrz (dLst (dCons (dC (.int 2)) (dCons (dC (.int 5)) (dCons (dC (.int 9)) (dNil)))))) (dNil)))))) (sSeq (sFor (.one 6) (dRng1 (dCons (dFn f__law_roll [] (dLen 2 (dCons (dVar 0) (dCons (dOp pAdd (dPeek 2) (dC (.int 4))) (dNil))))) (dNil))) (sSeq (sSet 7 (dFrz (dLc [8] (.one 8) (dRng1 (dCons (dPeek 2) (dNil))) (dYes) (dOp (pI (fun _ _ => True) fun i j => .int (i - j)) (dFn f__law_roll [] (dLen 2 (dCons (dVar 0) (dCons (dOp pAdd (dOp pMul (dC (.int 2)) (dPeek 3)) (dC (.int 1))) (dNil))))) (dPeek 3))))) (sApp 4 (dCall (p1 pTup) (dCons (dFrz (dCat (dPeek 7) (dFrz (dLst (dCons (dOp (pI (fun _ _ => True) fun i j => .int (i - j)) (dFn f__law_roll [] (dLen 2 (dCons (dVar 0) (dCons (dOp pAdd (dOp pMul (dC (.int 2)) (dPeek 5)) (dC (.int 1))) (dNil))))) (dPeek 5)) (dNil)))))) (dNil)))))) (sSeq (sIf (dAnd (dTst (dOp pNe (dPeek 4) (dFrz (dLst (dNil))))) (dTst (dOp pEq (dFn f__law_roll [] (dLen 2 (dCons (dVar 0) (dCons (dC (.int 2)) (dNil))))) (dC (.int 0))))) (sSeq (sSet 7 (dOp pIx (dPeek 4) (dFn f__law_roll [] (dLen 2 (dCons (dVar 0) (dCons (dCall (p1 pLen) (dCons (dPeek 4) (dNil))) (dNil))))))) (sApp 4 (dCall (p1 pTup) (dCons (dFrz (dCat (dFrz (dLc [9] (.one 9) (dSeq (dSl (dPeek 7) (dNoPart) (dPart (dUn pNeg (dC (.int 1)))))) (dYes) (dOp (pI (fun _ _ => True) fun i j => .int (i - j)) (dC (.int 0)) (dPeek 9)))) (dFrz (dLst (dCons (dOp (pI (fun _ _ => True) fun i j => .int (i - j)) (dFn f__law_roll [] (dLen 2 (dCons (dVar 0) (dCons (dC (.int 3)) (dNil))))) (dOp pIx (dPeek 7) (dUn pNeg (dC (.int 1))))) (dNil)))))) (dNil))))) (sNext)) (sRet (dTup (dCons (dVar 2) (dCons (dCall (p1 pTup) (dCons (dPeek 4) (dNil))) (dNil))))))))
def f__law_lot : DSp := bodyD 10 2 r__law_lot

/- def _law_small(dice): dice=0 lot=1 -/
def r__law_small : DS := sSeq (sSet 1 (dFn f__law_lot [] (dLen 2 (dCons (dVar 0) (dCons (dC (.int 3)) (dNil)))))) (sRet (dIf (dTst (dOp pNe (dOp pIx (dPeek 1) (dC (.int 1))) (dTup (dNil)))) (dVar 1) (dTup (dCons (dC (.int 1)) (dCons (dTup (dCons (dTup (dCons (dC (.int 2)) (dCons (dUn pNeg (dC (.int 1))) (dNil)))) (dCons (dTup (dCons (dUn pNeg (dC (.int 2))) (dCons (dC (.int 1)) (dNil)))) (dNil)))) (dNil))))))
def f__law_small : DSp := bodyD 2 1 r__law_small

/- def _law_dividing(dice, lot): dice=0 lot=1 g=2 rows=3 row=4 x=5 -/
def r__law_dividing : DS := sSeq (sSet 2 (dFn f__law_pick [] (dLen 2 (dCons (dVar 0) (dCons (dFrz (dLst (dCons (dC (.int 1)) (dCons (dC (.int 2)) (dCons (dC (.int 3)) (dCons (dC (.int 4)) (dCons (dC (.int 6)) (dCons (dOp (pI CPow fun i j => .int (i ^ j.toNat)) (dC (.int 10)) (dC (.int 9))) (dNil))))))))) (dNil)))))) (sSeq (sSet 3 (dFrz (dLc [4] (.one 4) (dSeq (dOp pIx (dPeek 1) (dC (.int 1)))) (dYes) (dCall (p1 pTup) (dCons (dFrz (dCat (dFrz (dLc [5] (.one 5) (dSeq (dSl (dPeek 4) (dNoPart) (dPart (dUn pNeg (dC (.int 1)))))) (dYes) (dOp pMul (dPeek 5) (dPeek 2)))) (dFrz (dLst (dCons (dOp pIx (dPeek 4) (dUn pNeg (dC (.int 1)))) (dNil)))))) (dNil)))))) (sRet (dTup (dCons (dTup (dCons (dOp pIx (dPeek 1) (dC (.int 0))) (dCons (dCall (p1 pTup) (dCons (dPeek 3) (dNil))) (dNil)))) (dCons (dVar 2) (dNil))))))
def f__law_dividing : DSp := bodyD 6 2 r__law_dividing

/- def _law_rw_lot(dice, most): dice=0 most=1 v=2 rows=3 turn=4 place=5 -/
def r__law_rw_lot : DS := sSeq (sParVF 2 3 (dFn f__law_roll [] (dLen 2 (dCons (dVar 0) (dCons (dOp pAdd (dPeek 1) (dC (.int 1))) (dNil))))) (dLst (dNil))) (sSeq (sFor (.one 4) (dRng1 (dCons (dFn f__law_roll [] (dLen 2 (dCons (dVar 0) (dCons (dOp pAdd (dPeek 2) (dC (.int 5))) (dNil))))) (dNil))) (sApp 3 (dCall (p1 pTup) (dCons (dFrz (dLc [5] (.one 5) (dRng1 (dCons (dOp pAdd (dPeek 2) (dC (.int 1))) (dNil))) (dYes) (dFn f__law_rw_number [] (dLen 1 (dCons (dVar 0) (dNil)))))) (dNil))))) (sRet (dTup (dCons (dVar 2) (dCons (dCall (p1 pTup) (dCons (dPeek 3) (dNil))) (dNil))))))
def f__law_rw_lot : DSp := bodyD 6 2 r__law_rw_lot

/- def _law_rw_any(dice): dice=0 -/
def r__law_rw_any : DS := sRet (dIf (dTst (dOp pEq (dFn f__law_roll [] (dLen 2 (dCons (dVar 0) (dCons (dC (.int 2)) (dNil))))) (dC (.int 0)))) (dFn f__law_rw_lot [] (dLen 2 (dCons (dVar 0) (dCons (dFn f__law_pick [] (dLen 2 (dCons (dVar 0) (dCons (dFrz (dLst (dCons (dC (.int 2)) (dCons (dC (.int 4)) (dCons (dC (.int 24)) (dNil)))))) (dNil))))) (dNil))))) (dFn f__law_lot [] (dLen 2 (dCons (dVar 0) (dCons (dC (.int 3)) (dNil))))))
def f__law_rw_any : DSp := bodyD 1 1 r__law_rw_any

/- def _law_right(dice): dice=0 lot=1 v=2 rows=3 small=4 g=5 row=6 other=7 point=8 more=9 order=10 turned=11 weights=12 total=13 place=14 x=15 at=16 -/
def r__law_right : DS := sSeq (sSet 1 (dFn f__law_rw_any [] (dLen 1 (dCons (dVar 0) (dNil))))) (sSeq (sAsg (.many [2, 3]) (dVar 1)) (sSeq (sIf (dAnd (dTst (dOp pNe (dPeek 3) (dTup (dNil)))) (dNot (dTru (dFn f__law_cuts_right [] (dLen 2 (dCons (dVar 0) (dCons (dVar 1) (dNil)))))))) (sRet (dC (.bl false))) (sNext)) (sSeq (sAsg (.many [4, 5]) (dFn f__law_dividing [] (dLen 2 (dCons (dVar 0) (dCons (dFn f__law_small [] (dLen 1 (dCons (dVar 0) (dNil)))) (dNil)))))) (sSeq (sIf (dOr (dNot (dTru (dFn f__law_cuts_right [] (dLen 2 (dCons (dVar 0) (dCons (dVar 4) (dNil))))))) (dTst (dOp pNe (dFn f_cut_row [] (dLen 3 (dCons (dVar 4) (dCons (dTup (dCons (dTup (dCons (dC (.int 0)) (dCons (dC (.int 1)) (dNil)))) (dNil))) (dCons (dVar 5) (dNil)))))) (dCall (p1 pTup) (dCons (dFrz (dLc [15] (.one 15) (dSeq (dOp pIx (dOp pIx (dPeek 4) (dC (.int 1))) (dC (.int 0)))) (dYes) (dOp (pI CDivW fun i j => .int (i / j)) (dPeek 15) (dPeek 5)))) (dNil)))))) (sRet (dC (.bl false))) (sNext)) (sSeq (sFor (.one 6) (dSeq (dSl (dPeek 3) (dNoPart) (dPart (dC (.int 4))))) (sSeq (sAsg (.many [7, 8]) (dTup (dCons (dFn f_opposite_row [] (dLen 1 (dCons (dVar 6) (dNil)))) (dCons (dFn f__law_rw_point [] (dLen 2 (dCons (dVar 0) (dCons (dVar 2) (dNil))))) (dNil))))) (sSeq (sIf (dOr (dTst (dOp pNe (dCall (p1 pRepr) (dCons (dPeek 7) (dNil))) (dCall (p1 pRepr) (dCons (dFn f__law_opposite_row [] (dLen 1 (dCons (dVar 6) (dNil)))) (dNil))))) (dAnd (dTst (dOp pLt (dCall (p1 pAbs) (dCons (dOp pIx (dPeek 6) (dUn pNeg (dC (.int 1)))) (dNil))) (dOp (pI CPow fun i j => .int (i ^ j.toNat)) (dC (.int 10)) (dC (.int 59))))) (dTst (dOp pNe (dFn f_opposite_row [] (dLen 1 (dCons (dVar 7) (dNil)))) (dPeek 6))))) (sRet (dC (.bl false))) (sNext)) (sIf (dTst (dOp pEq (dOp pLt (dFn f_row_at [] (dLen 2 (dCons (dVar 6) (dCons (dVar 8) (dNil))))) (dC (.int 0))) (dOp pLt (dFn f_row_at [] (dLen 2 (dCons (dVar 7) (dCons (dVar 8) (dNil))))) (dC (.int 0))))) (sRet (dC (.bl false))) (sNext))))) (sSeq (sSet 9 (dCall (p1 pTup) (dCons (dFrz (dLc [14] (.one 14) (dRng1 (dCons (dOp pAdd (dPeek 2) (dC (.int 1))) (dNil))) (dYes) (dFn f__law_rw_number [] (dLen 1 (dCons (dVar 0) (dNil)))))) (dNil)))) (sSeq (sIf (dTst (dOp pNe (dCall (p1 pRepr) (dCons (dFn f_put_row [] (dLen 2 (dCons (dVar 1) (dCons (dVar 9) (dNil))))) (dNil))) (dCall (p1 pRepr) (dCons (dTup (dCons (dVar 2) (dCons (dOp pAdd (dPeek 3) (dTup (dCons (dVar 9) (dNil)))) (dNil)))) (dNil))))) (sRet (dC (.bl false))) (sNext)) (sSeq (sSet 10 (dCall (p1 pTup) (dCons (dFn f__law_shuffled [] (dLen 2 (dCons (dVar 0) (dCons (dFrz (dListRg (dPeek 2))) (dNil))))) (dNil)))) (sSeq (sAsg (.many [11, 8]) (dTup (dCons (dFn f_turned_lot [] (dLen 2 (dCons (dVar 1) (dCons (dVar 10) (dNil))))) (dCons (dFn f__law_rw_point [] (dLen 2 (dCons (dVar 0) (dCons (dVar 2) (dNil))))) (dNil))))) (sSeq (sIf (dTst (dOp pNe (dCall (p1 pRepr) (dCons (dPeek 11) (dNil))) (dCall (p1 pRepr) (dCons (dTup (dCons (dVar 2) (dCons (dCall (p1 pTup) (dCons (dFrz (dLc [6] (.one 6) (dSeq (dVar 3)) (dYes) (dCall (p1 pTup) (dCons (dFrz (dCat (dFrz (dLc [16] (.one 16) (dSeq (dVar 10)) (dYes) (dOp pIx (dPeek 6) (dPeek 16)))) (dFrz (dLst (dCons (dOp pIx (dPeek 6) (dUn pNeg (dC (.int 1)))) (dNil)))))) (dNil))))) (dNil))) (dNil)))) (dNil))))) (sRet (dC (.bl false))) (sNext)) (sSeq (sIf (dTst (dOp pNe (dFn f_does_keep [] (dLen 2 (dCons (dVar 11) (dCons (dCall (p1 pTup) (dCons (dFrz (dLc [16] (.one 16) (dSeq (dVar 10)) (dYes) (dOp pIx (dPeek 8) (dPeek 16)))) (dNil))) (dNil))))) (dFn f__law_keeps [] (dLen 2 (dCons (dVar 1) (dCons (dVar 8) (dNil))))))) (sRet (dC (.bl false))) (sNext)) (sSeq (sIf (dTst (dOp pNe (dPeek 3) (dTup (dNil)))) (sSeq (sSet 12 (dFn f__law_rw_weights [] (dLen 2 (dCons (dVar 0) (dCons (dCall (p1 pLen) (dCons (dPeek 3) (dNil))) (dNil)))))) (sSeq (sSet 13 (dFn f_weighted_row [] (dLen 2 (dCons (dVar 1) (dCons (dVar 12) (dNil)))))) (sIf (dTst (dOp pNe (dFn f_weighted_row [] (dLen 2 (dCons (dVar 11) (dCons (dVar 12) (dNil))))) (dCall (p1 pTup) (dCons (dFrz (dCat (dFrz (dLc [16] (.one 16) (dSeq (dVar 10)) (dYes) (dOp pIx (dPeek 13) (dPeek 16)))) (dFrz (dLst (dCons (dOp pIx (dPeek 13) (dUn pNeg (dC (.int 1)))) (dNil)))))) (dNil))))) (sRet (dC (.bl false))) (sNext)))) (sNext)) (sRet (dFn f__law_led_right [] (dLen 2 (dCons (dVar 0) (dCons (dVar 4) (dNil))))))))))))))))))
def f__law_right : DSp := bodyD 17 1 r__law_right

/- def _law_dice(script, spot): script=0 spot=1 cell=2 left=3 -/
def r__law_dice : DS := sSeq (sSet 2 (dIf (dTst (dOp pLt (dPeek 1) (dCall (p1 pLen) (dCons (dPeek 0) (dNil))))) (dCall (p1 pInt) (dCons (dOp pIx (dPeek 0) (dPeek 1)) (dNil))) (dOp pAdd (dOp pMul (dC (.int 97)) (dPeek 1)) (dC (.int 43))))) (sSeq (sSet 3 (dOp (pI (fun _ j => 0 < j) fun i j => .int (i % j)) (dCall (p2 (pI2 fun i j => if j > i then j else i)) (dCons (dC (.int 0)) (dCons (dOp (pI (fun _ _ => True) fun i j => .int (i - j)) (dCall (p1 pAbs) (dCons (dPeek 2) (dNil))) (dOp (pI CPow fun i j => .int (i ^ j.toNat)) (dC (.int 10)) (dC (.int 17)))) (dNil)))) (dOp pMul (dOp (pI CPow fun i j => .int (i ^ j.toNat)) (dC (.int 10)) (dC (.int 60))) (dOp (pI CPow fun i j => .int (i ^ j.toNat)) (dC (.int 10)) (dC (.int 60)))))) (sRetF (dLst (dCons (dVar 3) (dCons (dOp pAdd (dOp pAdd (dOp pAdd (dOp pMul (dOp (pI (fun _ j => 0 < j) fun i j => .int (i % j)) (dCall (p1 pAbs) (dCons (dPeek 2) (dNil))) (dC (.int 1152921504606846737))) (dC (.int 37))) (dOp pMul (dC (.int 859)) (dPeek 1))) (dOp pMul (dC (.int 31)) (dCall (p1 pInt) (dCons (dOp pLt (dPeek 2) (dC (.int 0))) (dNil))))) (dC (.int 17))) (dCons (dC (.int 0)) (dNil)))))))
def f__law_dice : DSp := bodyD 4 2 r__law_dice

/- def law(script): script=0 spot=1 dice=2 turn=3 half=4 band=5 told=6 due=7 -/
def r_law : DS := sSeq (sFor (.one 1) (dRng1 (dCons (dCall (p2 (pI2 fun i j => if j > i then j else i)) (dCons (dC (.int 1)) (dCons (dCall (p2 (pI2 fun i j => if j < i then j else i)) (dCons (dC (.int 5)) (dCons (dCall (p1 pLen) (dCons (dPeek 0) (dNil))) (dNil)))) (dNil)))) (dNil))) (sSeq (sShare 2 (dFnF f__law_dice [] (dLen 2 (dCons (dVar 0) (dCons (dVar 1) (dNil)))))) (sFor (.one 3) (dRng1 (dCons (dC (.int 4)) (dNil))) (sIf (dNot (dTru (dFn f__law_right [] (dLen 1 (dCons (dVar 2) (dNil)))))) (sRet (dC (.bl false))) (sNext))))) (sSeq (sAsg (.many [4, 5]) (dTup (dCons (dTup (dCons (dC (.int 1)) (dCons (dTup (dCons (dTup (dCons (dC (.int 2)) (dCons (dUn pNeg (dC (.int 1))) (dNil)))) (dCons (dTup (dCons (dUn pNeg (dC (.int 2))) (dCons (dC (.int 1)) (dNil)))) (dNil)))) (dNil)))) (dCons (dTup (dCons (dC (.int 2)) (dCons (dTup (dCons (dTup (dCons (dC (.int 1)) (dCons (dC (.int 0)) (dCons (dC (.int 0)) (dNil))))) (dCons (dTup (dCons (dC (.int 0)) (dCons (dC (.int 1)) (dCons (dC (.int 0)) (dNil))))) (dCons (dTup (dCons (dUn pNeg (dC (.int 3))) (dCons (dUn pNeg (dC (.int 3))) (dCons (dC (.int 7)) (dNil))))) (dNil))))) (dNil)))) (dNil))))) (sSeq (sSet 6 (dFrz (dLst (dCons (dFn f_cut_row [] (dLen 3 (dCons (dVar 4) (dCons (dTup (dCons (dTup (dCons (dC (.int 0)) (dCons (dC (.int 1)) (dNil)))) (dNil))) (dCons (dC (.int 2)) (dNil)))))) (dCons (dFn f_cut_row [] (dLen 3 (dCons (dVar 4) (dCons (dTup (dCons (dTup (dCons (dC (.int 1)) (dCons (dC (.int 1)) (dNil)))) (dNil))) (dCons (dC (.int 2)) (dNil)))))) (dCons (dFn f_opposite_row [] (dLen 1 (dCons (dTup (dCons (dC (.int 2)) (dCons (dUn pNeg (dC (.int 1))) (dNil)))) (dNil)))) (dNil))))))) (sSeq (sSet 6 (dFrz (dCat (dPeek 6) (dFrz (dLst (dCons (dFn f_cut_row [] (dLen 3 (dCons (dVar 5) (dCons (dTup (dCons (dTup (dCons (dC (.int 2)) (dCons (dC (.int 1)) (dNil)))) (dNil))) (dCons (dC (.int 3)) (dNil)))))) (dCons (dFn f_led_lot [] (dLen 2 (dCons (dVar 5) (dCons (dTup (dCons (dTup (dCons (dC (.int 2)) (dCons (dC (.int 0)) (dNil)))) (dCons (dTup (dCons (dUn pNeg (dC (.int 1))) (dCons (dC (.int 1)) (dNil)))) (dNil)))) (dNil))))) (dNil)))))))) (sSeq (sSet 6 (dFrz (dCat (dPeek 6) (dFrz (dLst (dCons (dFn f_turned_lot [] (dLen 2 (dCons (dVar 5) (dCons (dTup (dCons (dC (.int 1)) (dCons (dC (.int 0)) (dNil)))) (dNil))))) (dCons (dFn f_put_row [] (dLen 2 (dCons (dTup (dCons (dC (.int 1)) (dCons (dTup (dNil)) (dNil)))) (dCons (dTup (dCons (dC (.int 5)) (dCons (dUn pNeg (dC (.int 9))) (dNil)))) (dNil))))) (dNil)))))))) (sSeq (sSet 7 (dFrz (dLst (dCons (dTup (dCons (dC (.int 1)) (dCons (dUn pNeg (dC (.int 1))) (dNil)))) (dCons (dTup (dCons (dUn pNeg (dC (.int 1))) (dCons (dC (.int 0)) (dNil)))) (dCons (dTup (dCons (dUn pNeg (dC (.int 2))) (dCons (dC (.int 0)) (dNil)))) (dCons (dTup (dCons (dUn pNeg (dC (.int 1))) (dCons (dUn pNeg (dC (.int 1))) (dCons (dC (.int 2)) (dNil))))) (dCons (dTup (dCons (dC (.int 1)) (dCons (dTup (dCons (dTup (dCons (dC (.int 2)) (dCons (dC (.int 0)) (dNil)))) (dCons (dTup (dCons (dUn pNeg (dC (.int 1))) (dCons (dC (.int 1)) (dNil)))) (dCons (dTup (dCons (dUn pNeg (dC (.int 3))) (dCons (dC (.int 4)) (dNil)))) (dNil))))) (dNil)))) (dNil))))))))) (sRet (dOp pEq (dPeek 6) (dFrz (dCat (dPeek 7) (dFrz (dLst (dCons (dTup (dCons (dC (.int 2)) (dCons (dTup (dCons (dTup (dCons (dC (.int 0)) (dCons (dC (.int 1)) (dCons (dC (.int 0)) (dNil))))) (dCons (dTup (dCons (dC (.int 1)) (dCons (dC (.int 0)) (dCons (dC (.int 0)) (dNil))))) (dCons (dTup (dCons (dUn pNeg (dC (.int 3))) (dCons (dUn pNeg (dC (.int 3))) (dCons (dC (.int 7)) (dNil))))) (dNil))))) (dNil)))) (dCons (dTup (dCons (dC (.int 1)) (dCons (dTup (dCons (dTup (dCons (dC (.int 5)) (dCons (dUn pNeg (dC (.int 9))) (dNil)))) (dNil))) (dNil)))) (dNil))))))))))))))
def f_law : DSp := bodyD 8 1 r_law

end K05

set_option Elab.async false
set_option linter.all false
set_option maxRecDepth 100000
set_option exponentiation.threshold 3000
namespace K05
open PySem PySem.Spec L2 DL
variable {E : Ex → Gam → Prop} {Γ : Gam} {Q : R → Gam → Prop}
abbrev FARZ : Int := 1000000000000000000000000000000000000000000000000000000000000
def isNear : D → Bool | .int i => decide (-FARZ < i) && decide (i < FARZ) | _ => false
theorem ok_is_whole {x} (hx : dat x = true) (q : Q (.val (.bl (isInt x))) Γ) : f_is_whole E [x] Γ Q := by
  unfold f_is_whole r_is_whole
  simp? [isi_int hx, isi_bool hx]
  cases x <;> first | exact q | cases hx
theorem ok_is_near {x} (hx : dat x = true) (q : Q (.val (.bl (isNear x))) Γ) : f_is_near E [x] Γ Q := by
  unfold f_is_near r_is_near
  simp? []
  apply ok_is_whole hx
  cases x <;> simp? [isInt, c_FAR] <;> try exact q
  exact ite_and (P := fun b => Q (.val (.bl b)) Γ) q
def isPair : D → Bool | .tup [_, _] => true | _ => false
theorem len2 (ds : List D) : decide ((ds.length : Int) = 2) = isPair (.tup ds) := by
  match ds with
  | [] => rfl
  | [_] => rfl
  | [_, _] => rfl
  | _ :: _ :: _ :: l =>
    show decide (((l.length + 3 : Nat) : Int) = 2) = false
    exact decide_eq_false (by omega)
theorem ok_is_pair {x} (hx : dat x = true) (q : Q (.val (.bl (isPair x))) Γ) : f_is_pair E [x] Γ Q := by
  unfold f_is_pair r_is_pair
  simp? [isi_tup hx]
  cases x <;> simp? [isTup, c_PAIR_SIZE] <;> try exact q
  refine pEq_int ?_
  rw [len2]
  exact q
def isRowB (f : D → Bool) (v : Int) : D → Bool | .tup ds => decide ((ds.length : Int) = v + 1) && ds.all f | _ => false
/-- data in a tuple; in a tuple's tuples -/
def dats : Nat → D → Bool
  | 0, d => dat d
  | n + 1, d => dat d && (match d with | .tup ds => decide (ds.length ≤ 5000) && ds.all (dats n) | _ => true)
theorem dats_dat : ∀ {n : Nat} {d : D}, dats n d = true → dat d = true
  | 0, _, h => h
  | n + 1, d, h => by
    unfold dats at h
    exact (Bool.and_eq_true_iff.mp h).1
theorem dats_tup {n : Nat} {ds : List D} (h : dats (n + 1) (.tup ds) = true) : ds.length ≤ 5000 ∧ ∀ d ∈ ds, dats n d = true := by
  unfold dats at h
  have h2 := Bool.and_eq_true_iff.mp (Bool.and_eq_true_iff.mp h).2
  exact ⟨of_decide_eq_true h2.1, fun d hd => List.all_eq_true.mp h2.2 d hd⟩
theorem isRowB_tup {f : D → Bool} {v : Int} {ds : List D} : isRowB f v (.tup ds) = (decide ((ds.length : Int) = v + 1) && ds.all f) := rfl
theorem ok_is_near_row {v : Int} {x : D} (hx : dats 1 x = true) (q : Q (.val (.bl (isRowB isNear v x))) Γ) : f_is_near_row E [.int v, x] Γ Q := by
  unfold f_is_near_row r_is_near_row
  simp? [isi_tup (dats_dat hx)]
  cases x <;> simp? [isTup] <;> try exact q
  rename_i ds
  obtain ⟨hl, hd⟩ := dats_tup hx
  rw [isRowB_tup] at q
  refine pEq_int ?_
  simp? []
  refine and_if (P := fun k => Q (.val (.bl k)) Γ) (fun _ q => ⟨(fun i hi => by (try simp at hi); first | (subst hi; rfl) | (rcases hi with hi | hi <;> (subst hi; rfl))), lc_pure (fun x => .bl (isNear x)) (by simp [wipeS_len]) rfl (size_le (by omega)) (fun x hx R hR => ?_) ?_⟩) q
  · simp? []
    exact ok_is_near (hd x hx) hR
  · exact pAll_map q
theorem ok_is_point_of {v : Int} {x : D} (hx : dats 1 x = true) (q : Q (.val (.bl (isRowB isNear (v - 1) x))) Γ) : f_is_point_of E [.int v, x] Γ Q := by
  unfold f_is_point_of r_is_point_of
  simp? [isi_tup (dats_dat hx)]
  cases x <;> simp? [isTup] <;> try exact q
  rename_i ds
  obtain ⟨hl, hd⟩ := dats_tup hx
  rw [isRowB_tup, Int.sub_add_cancel] at q
  refine pEq_int ?_
  simp? []
  refine and_if (P := fun k => Q (.val (.bl k)) Γ) (fun _ q => ⟨(fun i hi => by (try simp at hi); first | (subst hi; rfl) | (rcases hi with hi | hi <;> (subst hi; rfl))), lc_pure (fun x => .bl (isNear x)) (by simp [wipeS_len]) rfl (size_le (by omega)) (fun x hx R hR => ?_) ?_⟩) q
  · simp? []
    exact ok_is_near (hd x hx) hR
  · exact pAll_map q
theorem ok_require_point_of {v : Int} {x : D} (hx : dats 1 x = true) (h : isRowB isNear (v - 1) x = true) (q : Q (.val .non) Γ) : f_require_point_of E [.int v, x] Γ Q := by
  unfold f_require_point_of r_require_point_of
  simp? []
  refine ok_is_point_of hx ?_
  simp? [h]
  exact q
/-- a lot -/
def isRows (v : Int) : D → Bool
  | .tup rows => decide (rows.length ≤ 100) && rows.all (isRowB isNear v)
  | _ => false
def isLot2 (a b : D) : Bool := match a with
  | .int v => decide (0 ≤ v) && decide (v ≤ 24) && isRows v b
  | _ => false
theorem isLot2_int {v : Int} {b : D} : isLot2 (.int v) b = (decide (0 ≤ v) && decide (v ≤ 24) && isRows v b) := rfl
theorem isRows_tup {v : Int} {rows : List D} : isRows v (.tup rows) = (decide (rows.length ≤ 100) && rows.all (isRowB isNear v)) := rfl
def isLot : D → Bool
  | .tup [a, b] => isLot2 a b
  | _ => false
theorem isPair_no {x : D} (h : isPair x = false) : isLot x = false := by
  unfold isPair at h
  split at h
  · cases h
  · rename_i h2
    unfold isLot
    split
    · rename_i a b
      exact absurd rfl (h2 a b)
    · rfl
theorem isPair_yes {x : D} (h : isPair x = true) : ∃ a b, x = .tup [a, b] := by
  unfold isPair at h
  split at h
  · exact ⟨_, _, rfl⟩
  · cases h
theorem ok_is_lot_in {x : D} (hx : dats 3 x = true) (q : Q (.val (.bl (isLot x))) Γ) : f_is_lot_in E [x] Γ Q := by
  unfold f_is_lot_in r_is_lot_in
  simp? []
  refine ok_is_pair (dats_dat hx) ?_
  simp? []
  cases hp : isPair x with
  | false =>
    rw [isPair_no hp] at q
    simp? []
    exact q
  | true =>
    obtain ⟨a, b, rfl⟩ := isPair_yes hp
    obtain ⟨hl, hd⟩ := dats_tup hx
    simp? [atI_0, atI_1]
    refine ok_is_near (dats_dat (hd a (by simp))) ?_
    simp? []
    have q' : Q (.val (.bl (isLot2 a b))) Γ := q
    cases a with
    | int v =>
      have hb := hd b (by simp)
      simp? [atI_0, atI_1, c_MOST_PLACES, c_MOST_ROWS]
      by_cases h1 : 0 ≤ v
      · by_cases h2 : v ≤ 24
        · have e : isNear (.int v) = true := by simp [isNear, FARZ]; omega
          simp? [e, decide_eq_true h1, decide_eq_true h2, atI_1, isi_tup (dats_dat hb)]
          rw [isLot2_int, decide_eq_true h1, decide_eq_true h2, Bool.true_and, Bool.true_and] at q'
          cases b with
          | tup rows =>
            obtain ⟨hl2, hd2⟩ := dats_tup hb
            simp? [isTup]
            rw [isRows_tup] at q'
            by_cases h3 : rows.length ≤ 100
            · rw [decide_eq_true h3, Bool.true_and] at q'
              have e3 : decide ((100 : Int) < rows.length) = false := decide_eq_false (by omega)
              simp? [e3]
              refine ⟨(fun i hi => by (try simp at hi); first | (subst hi; rfl) | (rcases hi with hi | hi <;> (subst hi; rfl))), lc_pure (fun x => .bl (isRowB isNear v x)) (by simp [wipeS_len]) rfl (size_le (by omega)) (fun x hx R hR => ?_) (pAll_map q')⟩
              simp? [wipeS, restAt, atI_0]
              refine ok_is_near_row (hd2 x hx) ?_
              exact hR
            · rw [decide_eq_false h3, Bool.false_and] at q'
              have e3 : decide ((100 : Int) < rows.length) = true := decide_eq_true (by omega)
              simp? [e3]
              exact q'
          | _ => simp? [isTup]; exact q'
        · have e : isLot2 (.int v) b = false := by rw [isLot2_int, decide_eq_false h2, Bool.and_false, Bool.false_and]
          rw [e] at q'
          simp? [decide_eq_true h1, decide_eq_false h2]
          split
          · exact q'
          · exact q'
      · have e : isLot2 (.int v) b = false := by rw [isLot2_int, decide_eq_false h1, Bool.false_and, Bool.false_and]
        rw [e] at q'
        simp? [decide_eq_false h1]
        split
        · exact q'
        · exact q'
    | _ => simp? [isNear]; exact q'
theorem ok_require_lot {x : D} (hx : dats 3 x = true) (h : isLot x = true) (q : Q (.val .non) Γ) : f_require_lot E [x] Γ Q := by
  unfold f_require_lot r_require_lot
  simp? []
  refine ok_is_lot_in hx ?_
  simp? [h]
  exact q
/-! ### the law's own tests of rows and lots -/
def between (a b : Int) : D → Bool | .int i => decide (a ≤ i) && decide (i ≤ b) | _ => false
theorem between_int {a b i : Int} : between a b (.int i) = (decide (a ≤ i) && decide (i ≤ b)) := rfl
theorem far_pow : (10 : Int) ^ (60 : Int).toNat = FARZ := rfl
theorem cpow_far : CPow 10 60 := ⟨by decide, by decide, by decide⟩
theorem near_int {i : Int} : (decide (1 - FARZ ≤ i) && decide (i ≤ FARZ - 1)) = isNear (.int i) := by
  unfold isNear
  have e1 : (1 - FARZ ≤ i) ↔ (-FARZ < i) := by omega
  have e2 : (i ≤ FARZ - 1) ↔ (i < FARZ) := by omega
  rw [decide_eq_decide.mpr e1, decide_eq_decide.mpr e2]
theorem filter_none {α : Type} (f : α → Bool) (l : List α) : (l.filter fun x => !f x).isEmpty = l.all f := by
  induction l with
  | nil => rfl
  | cons a l ih =>
    rw [List.filter_cons, List.all_cons]
    cases h : f a
    · rfl
    · simpa using ih
/-! ### rows of ints -/
abbrev iD (r : List Int) : D := .tup (r.map .int)
def Near (r : List Int) : Prop := ∀ x ∈ r, -FARZ < x ∧ x < FARZ
def Sm (r : List Int) : Prop := ∀ x ∈ r, x.natAbs < 2 ^ 600
theorem Near.sm {r : List Int} (h : Near r) : Sm r := fun x hx => by
  obtain ⟨h1, h2⟩ := h x hx
  simp only [FARZ] at h1 h2
  omega
theorem Near.all {r : List Int} (h : Near r) : (r.map D.int).all isNear = true := by
  rw [List.all_eq_true]
  intro d hd
  obtain ⟨x, hx, rfl⟩ := List.mem_map.mp hd
  obtain ⟨h1, h2⟩ := h x hx
  unfold isNear
  dsimp only
  rw [decide_eq_true h1, decide_eq_true h2]
  rfl
theorem all_int (r : List Int) : (r.map D.int).all isInt = true := by
  rw [List.all_eq_true]
  intro d hd
  obtain ⟨x, hx, rfl⟩ := List.mem_map.mp hd
  rfl
theorem dats_iD {r : List Int} (h : r.length ≤ 5000) : dats 1 (iD r) = true := by
  show (true && (decide ((r.map D.int).length ≤ 5000) && (r.map D.int).all (dats 0))) = true
  rw [List.length_map, decide_eq_true h, Bool.true_and, Bool.true_and, List.all_eq_true]
  intro d hd
  obtain ⟨x, hx, rfl⟩ := List.mem_map.mp hd
  rfl
theorem isRow_iD {r : List Int} {v : Int} (h : (r.length : Int) = v + 1) (hn : Near r) : isRowB isNear v (iD r) = true := by
  rw [isRowB_tup, List.length_map, decide_eq_true h, hn.all]
  rfl
def dot (r p : List Int) : Int := ((r.zip p).map fun q => q.1 * q.2).sum
def lastZ (r : List Int) : Int := r.getLastD 0
theorem at_last {r : List Int} (h : r ≠ []) : atI (r.map D.int) (-1) = some (.int (lastZ r)) := by
  have hm : r.map D.int ≠ [] := by simpa using h
  rw [atI_last hm, List.getLast_map]
  unfold lastZ
  rw [List.getLastD_eq_getLast?, List.getLast?_eq_some_getLast h]
  rfl
theorem zip_len {r p : List Int} : (r.zip p).length ≤ r.length := by
  rw [List.length_zip]
  exact Nat.min_le_left _ _
theorem zip_mem {r p : List Int} {q : Int × Int} (h : q ∈ r.zip p) : q.1 ∈ r ∧ q.2 ∈ p := List.of_mem_zip h
theorem dot_lc {te : DT} {i j : Nat} {ρ : List Sl} {Q : List D → DSt → Prop} {r p : List Int} (hr : Sm r) (hp : Sm p) (hl : r.length ≤ 5000) (hi : i < ρ.length) (hj : j < ρ.length) (he : ρ[i]? = some .emp) (hf : ρ[j]? = some .emp)
    (h : ∀ x y : Int, CMulW x y → ∀ R : D → DSt → Prop, R (.int (x * y)) ⟨(ρ.set i (.val (.int x))).set j (.val (.int y)), Γ⟩ → te noEx ⟨(ρ.set i (.val (.int x))).set j (.val (.int y)), Γ⟩ R)
    (q : Q ((r.zip p).map fun q => .int (q.1 * q.2)) ⟨ρ, Γ⟩) : lcD (.many [i, j]) dYes te [i, j] (zipD (r.map .int) (p.map .int)) [] ⟨ρ, Γ⟩ Q := by
  rw [zip_maps]
  exact lc_mapA2 (fun q => .int q.1) (fun q => .int q.2) (fun q => .int (q.1 * q.2)) hi hj he hf (size_le (Nat.le_trans zip_len (by omega))) (fun q hq R hR => h q.1 q.2 (mulw (hr _ (zip_mem hq).1) (hp _ (zip_mem hq).2)) R hR) q
theorem ok_row_worth {r p : List Int} (hr : Sm r) (hp : Sm p) (hl : r.length ≤ 5000) (hne : r ≠ []) (q : Q (.val (.int (dot r p + lastZ r))) Γ) : f_row_worth E [iD r, iD p] Γ Q := by
  unfold f_row_worth r_row_worth
  simp? [zip_eq]
  refine ⟨(fun i hi => by (try simp at hi); first | (subst hi; rfl) | (rcases hi with hi | hi <;> (subst hi; rfl))), dot_lc hr hp hl (by simp [wipeS_len]) (by simp [wipeS_len]) rfl rfl (fun x y c R hR => ?_) ?_⟩
  · simp? []
    exact ⟨c, hR⟩
  · refine pSum_map ?_
    simp? [at_last hne]
    exact q
theorem ok_is_free_row {r : List Int} (hn : Near r) (h1 : 1 ≤ r.length) (h2 : r.length ≤ 25) (q : Q (.val (.bl true)) Γ) : f_is_free_row E [iD r] Γ Q := by
  unfold f_is_free_row r_is_free_row
  have e1 : decide ((1 : Int) ≤ (r.length : Nat)) = true := decide_eq_true (by omega)
  have e2 : decide (((r.length : Nat) : Int) ≤ 24 + 1) = true := decide_eq_true (by omega)
  simp? [isi_tup (show dat (iD r) = true from rfl), isTup, c_MOST_PLACES, e1, e2]
  refine ⟨(fun i hi => by (try simp at hi); first | (subst hi; rfl) | (rcases hi with hi | hi <;> (subst hi; rfl))), lc_mapA .int (fun x => .bl (isNear (.int x))) (by simp [wipeS_len]) rfl (size_le (by omega)) (fun x hx R hR => ?_) (pAll_map ?_)⟩
  · simp? []
    exact ok_is_near rfl hR
  · have e := hn.all
    rw [List.all_map] at e
    rw [show (r.all fun x => isNear (.int x)) = true from e]
    exact q
theorem ok_require_free_row {r : List Int} (hn : Near r) (h1 : 1 ≤ r.length) (h2 : r.length ≤ 25) (q : Q (.val .non) Γ) : f_require_free_row E [iD r] Γ Q := by
  unfold f_require_free_row r_require_free_row
  simp? []
  refine ok_is_free_row hn h1 h2 ?_
  simp? []
  exact q
theorem ok_row_at {r p : List Int} (hn : Near r) (hp : Near p) (h2 : r.length ≤ 25) (hl : r.length = p.length + 1) (q : Q (.val (.int (dot r p + lastZ r))) Γ) : f_row_at E [iD r, iD p] Γ Q := by
  have hne : r ≠ [] := fun e => by rw [e] at hl; cases hl
  unfold f_row_at r_row_at
  simp? []
  refine ok_require_free_row hn (by omega) h2 ?_
  simp? []
  refine ok_require_point_of (dats_iD (by omega)) (isRow_iD (by omega) hp) ?_
  simp? []
  exact ok_row_worth hn.sm hp.sm (by omega) hne q
/-! ### lots -/
structure Lot (v : Nat) (rows : List (List Int)) : Prop where
  v24 : v ≤ 24
  many : rows.length ≤ 100
  len : ∀ r ∈ rows, r.length = v + 1
  near : ∀ r ∈ rows, Near r
abbrev rD (rows : List (List Int)) : D := .tup (rows.map iD)
abbrev lotD (v : Nat) (rows : List (List Int)) : D := .tup [.int v, rD rows]
section
variable {v : Nat} {rows : List (List Int)}
theorem dats_rD (h : rows.length ≤ 5000) (hr : ∀ r ∈ rows, r.length ≤ 5000) : dats 2 (rD rows) = true := by
  show (true && (decide ((rows.map iD).length ≤ 5000) && (rows.map iD).all (dats 1))) = true
  rw [List.length_map, decide_eq_true h, Bool.true_and, Bool.true_and, List.all_eq_true]
  intro d hd
  obtain ⟨x, hx, rfl⟩ := List.mem_map.mp hd
  exact dats_iD (hr x hx)
theorem Lot.dats (L : Lot v rows) : dats 3 (lotD v rows) = true := by
  show (true && (decide (2 ≤ 5000) && ([D.int v, rD rows].all (K05.dats 2)))) = true
  have := dats_rD (rows := rows) (by have := L.many; omega) fun r hr => by have := L.len r hr; have := L.v24; omega
  rw [List.all_cons, List.all_cons, this]
  rfl
theorem Lot.isRows (L : Lot v rows) : K05.isRows v (rD rows) = true := by
  rw [isRows_tup, List.length_map, decide_eq_true L.many, Bool.true_and, List.all_eq_true]
  intro d hd
  obtain ⟨x, hx, rfl⟩ := List.mem_map.mp hd
  exact isRow_iD (by rw [L.len x hx]; omega) (L.near x hx)
theorem Lot.is (L : Lot v rows) : isLot (lotD v rows) = true := by
  show isLot2 (.int v) (rD rows) = true
  rw [isLot2_int, decide_eq_true (by omega), decide_eq_true (by have := L.v24; omega), L.isRows]
  rfl
def keeps (rows : List (List Int)) (p : List Int) : Bool := rows.all fun r => decide (0 ≤ dot r p + lastZ r)
theorem ok_does_keep_in {p : List Int} (L : Lot v rows) (hp : Near p) (q : Q (.val (.bl (keeps rows p))) Γ) : f_does_keep_in E [lotD v rows, iD p] Γ Q := by
  unfold f_does_keep_in r_does_keep_in
  simp? [atI_1]
  refine ⟨(fun i hi => by (try simp at hi); first | (subst hi; rfl) | (rcases hi with hi | hi <;> (subst hi; rfl))), lc_mapA iD (fun r => .bl (decide (0 ≤ dot r p + lastZ r))) (by simp [wipeS_len]) rfl (size_le (by have := L.many; omega)) (fun r hr R hR => ?_) (pAll_map q)⟩
  have l := L.len r hr
  have := L.v24
  simp? []
  refine ok_row_worth (L.near r hr).sm hp.sm (by omega) (fun e => by rw [e] at l; cases l) ?_
  simp? []
  exact hR
theorem ok_does_keep {p : List Int} (L : Lot v rows) (hp : Near p) (hl : p.length = v) (q : Q (.val (.bl (keeps rows p))) Γ) : f_does_keep E [lotD v rows, iD p] Γ Q := by
  unfold f_does_keep r_does_keep
  simp? []
  refine ok_require_lot L.dats L.is ?_
  simp? [atI_0]
  refine ok_require_point_of (dats_iD (by have := L.v24; omega)) (isRow_iD (by omega) hp) ?_
  simp? []
  exact ok_does_keep_in L hp q
/-! ### weights -/
abbrev wD (ws : List (Nat × Int)) : D := .tup (ws.map fun a => .tup [.int a.1, .int a.2])
structure Wts (n : Nat) (ws : List (Nat × Int)) : Prop where
  ne : ws ≠ []
  at_ : ∀ a ∈ ws, a.1 < n
  pos : ∀ a ∈ ws, 1 ≤ a.2 ∧ a.2 < 10 ^ 40
  asc : (ws.zip ws.tail).all (fun q => decide (q.1.1 < q.2.1)) = true
  many : ws.length ≤ 100
def wstep (rows : List (List Int)) (f : List Int) (a : Nat × Int) : List Int := (f.zip (rows.getD a.1 [])).map fun q => q.1 + a.2 * q.2
def wsum (rows : List (List Int)) (ws : List (Nat × Int)) (f : List Int) : List Int := ws.foldl (wstep rows) f
theorem Wts.sm {n : Nat} {ws : List (Nat × Int)} (W : Wts n ws) {a : Nat × Int} (h : a ∈ ws) : a.2.natAbs < 2 ^ 600 := by
  have := W.pos a h
  omega
theorem ok_weighted_by {ws : List (Nat × Int)} (L : Lot v rows) (W : Wts rows.length ws) (q : Q (.val (iD (wsum rows ws (List.replicate (v + 1) 0)))) Γ) : f_weighted_by E [rD rows, .int v, wD ws] Γ Q := by
  have := L.v24
  unfold f_weighted_by r_weighted_by
  simp? []
  have e : ((v : Int) + 1).toNat = v + 1 := by omega
  refine ⟨by omega, by omega, size_le (by omega), ?_⟩
  have e2 : (List.replicate ((v : Int) + 1).toNat [D.int 0]).flatten = (List.replicate (v + 1) (0 : Int)).map D.int := by
    rw [e]
    clear q e L this
    generalize v + 1 = k
    induction k with
    | zero => rfl
    | succ k ih => rw [List.replicate_succ, List.flatten_cons, ih]; rfl
  rw [e2]
  refine for_ind (fun r s => ∃ (pre suf : List (Nat × Int)) (x y : Sl), ws = pre ++ suf ∧ r = suf.map (fun a => D.tup [.int a.1, .int a.2]) ∧ x.isOwn = false ∧ y.isOwn = false ∧ (wsum rows pre (List.replicate (v + 1) 0)).length ≤ v + 1 ∧
      s = ⟨[.val (rD rows), .val (.int v), .val (wD ws), .val (.lst ((wsum rows pre (List.replicate (v + 1) 0)).map .int)), x, y, .emp, .emp], Γ⟩)
    ⟨[], ws, .emp, .emp, rfl, rfl, rfl, rfl, by simp [wsum], rfl⟩ ?_ ?_
  · rintro s ⟨pre, suf, x, y, e0, e1, _, _, _, rfl⟩
    cases suf with
    | cons a l => cases e1
    | nil =>
      rw [List.append_nil] at e0
      subst e0
      simp? []
      exact q
  · rintro x r s - ⟨pre, suf, x1, y1, e0, e1, hx, hy, hl, rfl⟩ R hR
    cases suf with
    | nil => cases e1
    | cons a l =>
      rw [List.map_cons] at e1
      cases e1
      have ha : a ∈ ws := by rw [e0]; simp
      have hat := W.at_ a ha
      have hrow : atI (rows.map iD) (a.1 : Int) = some (iD (rows.getD a.1 [])) := by
        rw [atI_nat (by rw [List.length_map]; exact hat), List.getElem_map, List.getD_eq_getElem?_getD, List.getElem?_eq_getElem hat]
        rfl
      have hmem : rows.getD a.1 [] ∈ rows := by
        rw [List.getD_eq_getElem?_getD, List.getElem?_eq_getElem hat]
        exact List.getElem_mem hat
      simp? [hrow, zip_maps]
      refine ⟨(fun i hi => by (try simp at hi); first | (subst hi; rfl) | (rcases hi with hi | hi <;> (subst hi; rfl))), lc_mapA2 (fun q => .int q.1) (fun q => .int q.2) (fun q => .int (q.1 + a.2 * q.2)) (by simp [wipeS_len]) (by simp [wipeS_len]) rfl rfl (size_le (Nat.le_trans zip_len (by omega))) (fun q hq R hR => ?_) ?_⟩
      · simp? []
        exact ⟨mulw (W.sm ha) ((L.near _ hmem).sm _ (zip_mem hq).2), hR⟩
      · simp? []
        refine hR _ ⟨pre ++ [a], l, .val (.int a.1), .val (.int a.2), by rw [e0]; simp, rfl, rfl, rfl, ?_, ?_⟩
        · unfold wsum
          rw [List.foldl_append]
          show (wstep rows (wsum rows pre _) a).length ≤ v + 1
          unfold wstep
          rw [List.length_map]
          exact Nat.le_trans zip_len hl
        · unfold wsum
          rw [List.foldl_append]
          show _ = (⟨[_, _, _, .val (.lst ((wstep rows (wsum rows pre (List.replicate (v + 1) 0)) a).map .int)), _, _, _, _], Γ⟩ : DSt)
          unfold wstep
          rw [List.map_map]
          rfl
theorem ok_weighted_in {ws : List (Nat × Int)} (L : Lot v rows) (W : Wts rows.length ws) (q : Q (.val (iD (wsum rows ws (List.replicate (v + 1) 0)))) Γ) : f_weighted_in E [lotD v rows, wD ws] Γ Q := by
  unfold f_weighted_in r_weighted_in
  simp? [atI_0, atI_1]
  exact ok_weighted_by L W q
theorem ok_is_ascending {ns : List Int} (h : (ns.zip ns.tail).all (fun q => decide (q.1 < q.2)) = true) (hl : ns.length ≤ 5000) (q : Q (.val (.bl true)) Γ) : f_is_ascending E [.lst (ns.map .int)] Γ Q := by
  unfold f_is_ascending r_is_ascending
  simp? []
  rw [cut_tail, ← List.map_tail, zip_maps]
  refine ⟨(fun i hi => by (try simp at hi); first | (subst hi; rfl) | (rcases hi with hi | hi <;> (subst hi; rfl))), lc_mapA2 (fun q => .int q.1) (fun q => .int q.2) (fun q => .bl (decide (q.1 < q.2))) (by simp [wipeS_len]) (by simp [wipeS_len]) rfl rfl (size_le (Nat.le_trans zip_len (by omega))) (fun q hq R hR => ?_) (pAll_map ?_)⟩
  · simp? []
    exact hR
  · rw [h]
    exact q
theorem ok_is_weight {n : Nat} {a : Nat × Int} (h : a.1 < n) (h2 : 1 ≤ a.2) (q : Q (.val (.bl true)) Γ) : f_is_weight E [.int n, .tup [.int a.1, .int a.2]] Γ Q := by
  unfold f_is_weight r_is_weight
  simp? []
  refine ok_is_pair rfl ?_
  simp? [isPair, atI_0, atI_1]
  refine ok_is_whole (by rfl) ?_
  simp? [isInt]
  refine ok_is_whole (by rfl) ?_
  have e1 : decide ((0 : Int) ≤ a.1) = true := decide_eq_true (by omega)
  have e2 : decide ((a.1 : Int) < n) = true := decide_eq_true (by omega)
  have e3 : decide ((1 : Int) ≤ a.2) = true := decide_eq_true h2
  simp? [isInt, e1, e2, e3, atI_0, atI_1]
  exact q
theorem ok_are_weights_by {ws : List (Nat × Int)} {n : Nat} (W : Wts n ws) (q : Q (.val (.bl true)) Γ) : f_are_weights_by E [.int n, wD ws] Γ Q := by
  unfold f_are_weights_by r_are_weights_by
  simp? [isi_tup (show dat (wD ws) = true from rfl), isTup]
  refine pEq_nilT ?_
  have e : (ws.map fun a : Nat × Int => D.tup [.int a.1, .int a.2]).isEmpty = false := by
    have := W.ne
    cases ws with
    | nil => exact absurd rfl this
    | cons a l => rfl
  simp? [e]
  refine ⟨(fun i hi => by (try simp at hi); first | (subst hi; rfl) | (rcases hi with hi | hi <;> (subst hi; rfl))), lc_mapA (fun a : Nat × Int => D.tup [.int a.1, .int a.2]) (fun _ => .bl true) (by simp [wipeS_len]) rfl (size_le (by have := W.many; omega)) (fun a ha R hR => ?_) (pAll_map (f := fun _ => true) ?_)⟩
  · simp? []
    exact ok_is_weight (W.at_ a ha) (W.pos a ha).1 hR
  · simp? [show (ws.all fun _ => true) = true from by simp]
    refine ⟨(fun i hi => by (try simp at hi); first | (subst hi; rfl) | (rcases hi with hi | hi <;> (subst hi; rfl))), lc_mapA (fun a : Nat × Int => D.tup [.int a.1, .int a.2]) (fun a => .int a.1) (by simp [wipeS_len]) rfl (size_le (by have := W.many; omega)) (fun a ha R hR => ?_) ?_⟩
    · simp? [atI_0]
      exact hR
    · have ea : (ws.map fun a : Nat × Int => D.int a.1) = (ws.map fun a : Nat × Int => (a.1 : Int)).map D.int := by rw [List.map_map]; rfl
      simp? []
      rw [ea]
      refine ok_is_ascending ?_ (by rw [List.length_map]; have := W.many; omega) q
      have h := W.asc
      rw [← List.map_tail, List.zip_map, List.all_map]
      rw [List.all_eq_true] at h ⊢
      intro x hx
      have := h x hx
      simp only [decide_eq_true_eq] at this
      simp only [Function.comp, Prod.map, decide_eq_true_eq]
      omega
theorem ok_require_weights {ws : List (Nat × Int)} (W : Wts rows.length ws) (q : Q (.val .non) Γ) : f_require_weights E [lotD v rows, wD ws] Γ Q := by
  unfold f_require_weights r_require_weights
  simp? []
  unfold f_are_weights_in r_are_weights_in
  simp? [atI_1]
  refine ok_are_weights_by W ?_
  simp? []
  refine ⟨(fun i hi => by (try simp at hi); first | (subst hi; rfl) | (rcases hi with hi | hi <;> (subst hi; rfl))), lc_mapA2 (fun a : Nat × Int => .int a.1) (fun a => .int a.2) (fun _ => .bl true) (by simp [wipeS_len]) (by simp [wipeS_len]) rfl rfl (size_le (by have := W.many; omega)) (fun a ha R hR => ?_) (pAll_map (f := fun _ => true) ?_)⟩
  · simp? []
    refine ok_is_near (by rfl) ?_
    have e : isNear (.int a.2) = true := by
      have := W.pos a ha
      simp [isNear, FARZ]
      omega
    rw [e]
    exact hR
  · simp? [show (ws.all fun _ => true) = true from by simp]
    exact q
theorem ok_weighted_row {ws : List (Nat × Int)} (L : Lot v rows) (W : Wts rows.length ws) (q : Q (.val (iD (wsum rows ws (List.replicate (v + 1) 0)))) Γ) : f_weighted_row E [lotD v rows, wD ws] Γ Q := by
  unfold f_weighted_row r_weighted_row
  simp? []
  refine ok_require_lot L.dats L.is ?_
  simp? []
  refine ok_require_weights W ?_
  simp? []
  exact ok_weighted_in L W q
/-! ### the law's own sums -/
theorem ok__law_row_at {r p : List Int} (hr : Sm r) (hp : Sm p) (hl : r.length ≤ 5000) (hne : r ≠ []) (q : Q (.val (.int (lastZ r + dot r p))) Γ) : f__law_row_at E [iD r, iD p] Γ Q := by
  unfold f__law_row_at r__law_row_at
  simp? [at_last hne]
  refine ⟨(fun i hi => by (try simp at hi); first | (subst hi; rfl) | (rcases hi with hi | hi <;> (subst hi; rfl))), dot_lc hr hp hl (by simp [wipeS_len]) (by simp [wipeS_len]) rfl rfl (fun x y c R hR => ?_) ?_⟩
  · simp? []
    exact ⟨c, hR⟩
  · refine pSum_map ?_
    simp? []
    exact q
theorem ok__law_summed {ws : List (Nat × Int)} (L : Lot v rows) (W : Wts rows.length ws) (q : Q (.val (.lst ((wsum rows ws (List.replicate (v + 1) 0)).map .int))) Γ) (q' : Q (.lst ((wsum rows ws (List.replicate (v + 1) 0)).map .int)) Γ) : f__law_summed E [rD rows, wD ws] Γ Q := by
  have := L.v24
  obtain ⟨r0, rs, er⟩ : ∃ r0 rs, rows = r0 :: rs := by
    have h1 := W.ne
    cases hw : ws with
    | nil => exact absurd hw h1
    | cons a l =>
      have := W.at_ a (by rw [hw]; simp)
      cases rows with
      | nil => cases this
      | cons r0 rs => exact ⟨_, _, rfl⟩
  have hl0 : r0.length = v + 1 := L.len r0 (by rw [er]; simp)
  have er2 : rows.map iD = iD r0 :: rs.map iD := by rw [er]; rfl
  have a0 : atI (rows.map iD) 0 = some (iD r0) := by rw [er2, atI_0]
  unfold f__law_summed r__law_summed
  simp? [a0]
  refine ⟨by omega, by omega, size_le (by omega), ?_⟩
  have e : ((r0.length : Nat) : Int).toNat = v + 1 := by omega
  have e2 : (List.replicate ((r0.length : Nat) : Int).toNat [D.int 0]).flatten = (List.replicate (v + 1) (0 : Int)).map D.int := by
    rw [e]
    clear q q' e L this hl0 er er2 a0 W
    generalize v + 1 = k
    induction k with
    | zero => rfl
    | succ k ih => rw [List.replicate_succ, List.flatten_cons, ih]; rfl
  rw [e2]
  refine for_ind (fun r s => ∃ (pre suf : List (Nat × Int)) (x y : Sl), ws = pre ++ suf ∧ r = suf.map (fun a => D.tup [.int a.1, .int a.2]) ∧ x.isOwn = false ∧ y.isOwn = false ∧ (wsum rows pre (List.replicate (v + 1) 0)).length ≤ v + 1 ∧
      s = ⟨[.val (rD rows), .val (wD ws), .val (.lst ((wsum rows pre (List.replicate (v + 1) 0)).map .int)), x, y, .emp, .emp], Γ⟩)
    ⟨[], ws, .emp, .emp, rfl, rfl, rfl, rfl, by simp [wsum], rfl⟩ ?_ ?_
  · rintro s ⟨pre, suf, x, y, e0, e1, _, _, _, rfl⟩
    cases suf with
    | cons a l => cases e1
    | nil =>
      rw [List.append_nil] at e0
      subst e0
      simp? []
      exact q
  · rintro x r s - ⟨pre, suf, x1, y1, e0, e1, hx, hy, hl, rfl⟩ R hR
    cases suf with
    | nil => cases e1
    | cons a l =>
      rw [List.map_cons] at e1
      cases e1
      have ha : a ∈ ws := by rw [e0]; simp
      have hat := W.at_ a ha
      have hrow : atI (rows.map iD) (a.1 : Int) = some (iD (rows.getD a.1 [])) := by
        rw [atI_nat (by rw [List.length_map]; exact hat), List.getElem_map, List.getD_eq_getElem?_getD, List.getElem?_eq_getElem hat]
        rfl
      have hmem : rows.getD a.1 [] ∈ rows := by
        rw [List.getD_eq_getElem?_getD, List.getElem?_eq_getElem hat]
        exact List.getElem_mem hat
      simp? [hrow, zip_maps]
      refine ⟨(fun i hi => by (try simp at hi); first | (subst hi; rfl) | (rcases hi with hi | hi <;> (subst hi; rfl))), lc_mapA2 (fun q => .int q.1) (fun q => .int q.2) (fun q => .int (q.1 + a.2 * q.2)) (by simp [wipeS_len]) (by simp [wipeS_len]) rfl rfl (size_le (Nat.le_trans zip_len (by omega))) (fun q hq R hR => ?_) ?_⟩
      · simp? []
        exact ⟨mulw (W.sm ha) ((L.near _ hmem).sm _ (zip_mem hq).2), hR⟩
      · simp? []
        refine hR _ ⟨pre ++ [a], l, .val (.int a.1), .val (.int a.2), by rw [e0]; simp, rfl, rfl, rfl, ?_, ?_⟩
        · unfold wsum
          rw [List.foldl_append]
          show (wstep rows (wsum rows pre _) a).length ≤ v + 1
          unfold wstep
          rw [List.length_map]
          exact Nat.le_trans zip_len hl
        · unfold wsum
          rw [List.foldl_append]
          show _ = (⟨[_, _, .val (.lst ((wstep rows (wsum rows pre (List.replicate (v + 1) 0)) a).map .int)), _, _, _, _], Γ⟩ : DSt)
          unfold wstep
          rw [List.map_map]
          rfl
end
/-! ### dice -/
def Dice (Γ : Gam) (a : Addr) (n : Nat) : Prop := ∃ x y z : Int, Γ.lookup a = some [.int x, .int y, .int z] ∧ 0 ≤ x ∧ x < 2 ^ 500 ∧ 0 ≤ y ∧ y < 2 ^ 100 ∧ 0 ≤ z ∧ z ≤ n
theorem Dice.mono {a : Addr} {n m : Nat} (h : Dice Γ a n) (l : n ≤ m) : Dice Γ a m := by
  obtain ⟨x, y, z, h0, h1, h2, h3, h4, h5, h6⟩ := h
  exact ⟨x, y, z, h0, h1, h2, h3, h4, h5, by omega⟩
theorem ok_roll {a : Addr} {n : Nat} {t : Int} (d : Dice Γ a n) (hn : n ≤ 10 ^ 18) (ht : 0 < t) (ht2 : t < 2 ^ 500) (q : ∀ r Γ', 0 ≤ r → r < t → Dice Γ' a (n + 1) → Q (.val (.int r)) Γ') : f__law_roll E [.ref a, .int t] Γ Q := by
  obtain ⟨x, y, z, h0, h1, h2, h3, h4, h5, h6⟩ := d
  unfold f__law_roll r__law_roll
  simp? [h0]
  by_cases hx : 0 < x
  · simp? [h0, decide_eq_true hx]
    refine ⟨ht, divw ht (by omega), ?_⟩
    refine q _ _ (Int.emod_nonneg _ (by omega)) (Int.emod_lt_of_pos _ ht) ⟨x / t, y, z, lookup_gset h0, Int.ediv_nonneg h1 (by omega), ?_, h3, h4, h5, by omega⟩
    have := Int.ediv_le_self t h1
    omega
  · have hg : (gset Γ a [.int x, .int y, .int (z + 1)]).lookup a = some [.int x, .int y, .int (z + 1)] := lookup_gset h0
    simp? [h0, decide_eq_false hx, hg]
    have b1 : ∀ k : Int, 0 ≤ k % 2305843009213693951 ∧ k % 2305843009213693951 < 2305843009213693951 := fun k => ⟨Int.emod_nonneg _ (by omega), Int.emod_lt_of_pos _ (by omega)⟩
    have b2 : ∀ k : Int, 0 ≤ k % 2305843009213693907 ∧ k % 2305843009213693907 < 2305843009213693907 := fun k => ⟨Int.emod_nonneg _ (by omega), Int.emod_lt_of_pos _ (by omega)⟩
    have c1 := b1 (y + 15486209 * (z + 1))
    have c2 := b2 ((y + 15486209 * (z + 1)) % 2305843009213693951 * ((y + 15486209 * (z + 1)) % 2305843009213693951) + 199 * (z + 1))
    refine ⟨mulw (by omega) (by omega), by omega, mulw (by omega) (by omega), mulw (by omega) (by omega), by omega, mulw (by omega) (by omega), divw (by omega) (by omega), ht, ?_⟩
    exact q _ _ (Int.emod_nonneg _ (by omega)) (Int.emod_lt_of_pos _ ht) ⟨x, y, z + 1, hg, h1, h2, h3, h4, by omega, by omega⟩
theorem ok_pick {a : Addr} {n : Nat} {ds : List D} (d : Dice Γ a n) (hn : n ≤ 10 ^ 18) (h1 : ds ≠ []) (h2 : ds.length ≤ 10000) (q : ∀ x ∈ ds, ∀ Γ', Dice Γ' a (n + 1) → Q (.val x) Γ') : f__law_pick E [.ref a, .lst ds] Γ Q := by
  have hp : 0 < ds.length := List.length_pos_iff.mpr h1
  unfold f__law_pick r__law_pick
  simp? []
  refine ok_roll d hn (by omega) (by omega) fun r Γ' r0 r1 d' => ?_
  obtain ⟨k, rfl⟩ : ∃ k : Nat, r = k := ⟨r.toNat, by omega⟩
  have hk : k < ds.length := by omega
  simp? [atI_nat hk]
  exact q _ (List.getElem_mem hk) _ d'
theorem ok_pickT {a : Addr} {n : Nat} {ds : List D} (d : Dice Γ a n) (hn : n ≤ 10 ^ 18) (h1 : ds ≠ []) (h2 : ds.length ≤ 10000) (q : ∀ x ∈ ds, ∀ Γ', Dice Γ' a (n + 1) → Q (.val x) Γ') : f__law_pick E [.ref a, .tup ds] Γ Q := by
  have hp : 0 < ds.length := List.length_pos_iff.mpr h1
  unfold f__law_pick r__law_pick
  simp? []
  refine ok_roll d hn (by omega) (by omega) fun r Γ' r0 r1 d' => ?_
  obtain ⟨k, rfl⟩ : ∃ k : Nat, r = k := ⟨r.toNat, by omega⟩
  have hk : k < ds.length := by omega
  simp? [atI_nat hk]
  exact q _ (List.getElem_mem hk) _ d'
end K05

set_option Elab.async false
set_option linter.all false
set_option maxRecDepth 100000
set_option exponentiation.threshold 3000
namespace K05
open PySem PySem.Spec L2 DL
variable {E : Ex → Gam → Prop} {Γ : Gam} {Q : R → Gam → Prop}
/-! ### the sums' plain laws -/
theorem dot_cons (x y : Int) (r p : List Int) : dot (x :: r) (y :: p) = x * y + dot r p := rfl
theorem dot_nil (r : List Int) : dot r [] = 0 := by cases r <;> rfl
theorem dot_step (w : Int) : ∀ (f r p : List Int), f.length = r.length → dot ((f.zip r).map fun q => q.1 + w * q.2) p = dot f p + w * dot r p
  | [], [], p, _ => by simp [dot]
  | x :: f, y :: r, [], _ => by rw [dot_nil, dot_nil, dot_nil]; simp
  | x :: f, y :: r, z :: p, h => by
    show dot ((x + w * y) :: (f.zip r).map fun q => q.1 + w * q.2) (z :: p) = _
    rw [dot_cons, dot_cons, dot_cons, dot_step w f r p (by simpa using h), Int.add_mul, Int.mul_add, Int.mul_assoc]
    omega
theorem last_cons (x y : Int) (r : List Int) : lastZ (x :: y :: r) = lastZ (y :: r) := by
  unfold lastZ
  simp
theorem last_step (w : Int) : ∀ (f r : List Int), f.length = r.length → lastZ ((f.zip r).map fun q => q.1 + w * q.2) = lastZ f + w * lastZ r
  | [], [], _ => by simp [lastZ]
  | [x], [y], _ => rfl
  | x :: x' :: f, y :: y' :: r, h => by
    show lastZ ((x + w * y) :: (x' + w * y') :: (f.zip r).map fun q => q.1 + w * q.2) = _
    rw [last_cons, last_cons, last_cons]
    exact last_step w (x' :: f) (y' :: r) (by simpa using h)
  | [x], y :: y' :: r, h => by simp at h
  | x :: x' :: f, [y], h => by simp at h
def worth (r p : List Int) : Int := lastZ r + dot r p
theorem wsum_len {v : Nat} {rows : List (List Int)} (L : Lot v rows) : ∀ {ws : List (Nat × Int)} {f : List Int}, (∀ a ∈ ws, a.1 < rows.length) → f.length = v + 1 → (wsum rows ws f).length = v + 1
  | [], f, _, h => h
  | a :: ws, f, ha, h => by
    show (wsum rows ws (wstep rows f a)).length = v + 1
    refine wsum_len L (fun b hb => ha b (List.mem_cons_of_mem _ hb)) ?_
    have hat := ha a List.mem_cons_self
    have hr : (rows.getD a.1 []).length = v + 1 := by
      rw [List.getD_eq_getElem?_getD, List.getElem?_eq_getElem hat]
      exact L.len _ (List.getElem_mem hat)
    unfold wstep
    rw [List.length_map, List.length_zip, hr, h]
    exact Nat.min_self _
theorem wsum_worth {v : Nat} {rows : List (List Int)} (L : Lot v rows) (p : List Int) : ∀ {ws : List (Nat × Int)} {f : List Int}, (∀ a ∈ ws, a.1 < rows.length) → f.length = v + 1 → worth (wsum rows ws f) p = worth f p + (ws.map fun a => a.2 * worth (rows.getD a.1 []) p).sum
  | [], f, _, h => by simp [wsum]
  | a :: ws, f, ha, h => by
    show worth (wsum rows ws (wstep rows f a)) p = _
    have hat := ha a List.mem_cons_self
    have hr : (rows.getD a.1 []).length = v + 1 := by
      rw [List.getD_eq_getElem?_getD, List.getElem?_eq_getElem hat]
      exact L.len _ (List.getElem_mem hat)
    have hl : (wstep rows f a).length = v + 1 := by
      unfold wstep
      rw [List.length_map, List.length_zip, hr, h]
      exact Nat.min_self _
    rw [wsum_worth L p (fun b hb => ha b (List.mem_cons_of_mem _ hb)) hl, List.map_cons, List.sum_cons]
    have e : worth (wstep rows f a) p = worth f p + a.2 * worth (rows.getD a.1 []) p := by
      unfold worth wstep
      rw [dot_step _ _ _ _ (by rw [h, hr]), last_step _ _ _ (by rw [h, hr]), Int.mul_add]
      omega
    rw [e]
    omega
theorem worth0 (n : Nat) (p : List Int) : worth (List.replicate n 0) p = 0 := by
  have h1 : lastZ (List.replicate n 0) = 0 := by
    unfold lastZ
    rw [List.getLastD_eq_getLast?]
    cases n with
    | zero => rfl
    | succ n => rw [List.getLast?_replicate]; simp
  have h2 : ∀ n p, dot (List.replicate n 0) p = 0 := by
    intro n
    induction n with
    | zero => intro p; simp [dot]
    | succ n ih =>
      intro p
      cases p with
      | nil => exact dot_nil _
      | cons y p => rw [List.replicate_succ, dot_cons, ih]; omega
  unfold worth
  rw [h1, h2]
  rfl
theorem dot_bound {A B : Nat} : ∀ {r p : List Int}, (∀ x ∈ r, x.natAbs ≤ A) → (∀ x ∈ p, x.natAbs ≤ B) → (dot r p).natAbs ≤ r.length * (A * B)
  | [], p, _, _ => by simp [dot]
  | x :: r, [], _, _ => by rw [dot_nil]; simp
  | x :: r, y :: p, h, h' => by
    rw [dot_cons, List.length_cons, Nat.add_mul, Nat.one_mul]
    have h1 := dot_bound (r := r) (p := p) (fun z hz => h z (List.mem_cons_of_mem _ hz)) fun z hz => h' z (List.mem_cons_of_mem _ hz)
    have h2 : (x * y).natAbs ≤ A * B := by
      rw [Int.natAbs_mul]
      exact Nat.mul_le_mul (h x List.mem_cons_self) (h' y List.mem_cons_self)
    have h3 := Int.natAbs_add_le (x * y) (dot r p)
    omega
theorem wsum_bound {rows : List (List Int)} {W F : Nat} (hr : ∀ r ∈ rows, ∀ x ∈ r, x.natAbs ≤ F) : ∀ {ws : List (Nat × Int)} {f : List Int} {c : Nat}, (∀ a ∈ ws, a.1 < rows.length ∧ a.2.natAbs ≤ W) → (∀ x ∈ f, x.natAbs ≤ c) → ∀ x ∈ wsum rows ws f, x.natAbs ≤ c + ws.length * (W * F)
  | [], f, c, _, h => fun x hx => by have := h x hx; simp; exact this
  | a :: ws, f, c, ha, h => by
    intro x hx
    have hx' : x ∈ wsum rows ws (wstep rows f a) := hx
    have hat := ha a List.mem_cons_self
    have := wsum_bound hr (f := wstep rows f a) (c := c + W * F) (fun b hb => ha b (List.mem_cons_of_mem _ hb)) (fun y hy => by
      unfold wstep at hy
      obtain ⟨q, hq, rfl⟩ := List.mem_map.mp hy
      obtain ⟨q1, q2⟩ := zip_mem hq
      have hmem : rows.getD a.1 [] ∈ rows := by
        rw [List.getD_eq_getElem?_getD, List.getElem?_eq_getElem hat.1]
        exact List.getElem_mem hat.1
      have b1 := h q.1 q1
      have b2 : (a.2 * q.2).natAbs ≤ W * F := by
        rw [Int.natAbs_mul]
        exact Nat.mul_le_mul hat.2 (hr _ hmem _ q2)
      have := Int.natAbs_add_le q.1 (a.2 * q.2)
      omega) x hx'
    rw [List.length_cons, Nat.add_mul, Nat.one_mul]
    omega
theorem sum_nonneg : ∀ {l : List Int}, (∀ x ∈ l, 0 ≤ x) → 0 ≤ l.sum
  | [], _ => by simp
  | a :: l, h => by
    rw [List.sum_cons]
    have := h a List.mem_cons_self
    have := sum_nonneg fun x hx => h x (List.mem_cons_of_mem _ hx)
    omega
end K05

set_option Elab.async false
set_option linter.all false
set_option maxRecDepth 100000
set_option exponentiation.threshold 3000
namespace K05
open PySem PySem.Spec L2 DL
/-! ### cuts -/
def cutZ (r : List Int) (g : Int) : List Int := r.map (· / g)
theorem dot_cut {g : Int} : ∀ {r p : List Int}, (∀ x ∈ r.take p.length, g ∣ x) → dot r p = g * dot (cutZ r g) p
  | [], p, _ => by simp [dot, cutZ]
  | x :: r, [], _ => by rw [dot_nil, dot_nil]; simp
  | x :: r, y :: p, h => by
    rw [dot_cons, show cutZ (x :: r) g = x / g :: cutZ r g from rfl, dot_cons, Int.mul_add, ← dot_cut (r := r) (p := p) fun z hz => h z (by simp [hz]), ← Int.mul_assoc, Int.mul_ediv_cancel' (h x (by simp))]
theorem last_map (f : Int → Int) (h0 : f 0 = 0) : ∀ r : List Int, lastZ (r.map f) = f (lastZ r)
  | [] => by simp [lastZ, h0]
  | [x] => rfl
  | x :: y :: r => by
    rw [List.map_cons, List.map_cons, last_cons, last_cons]
    exact last_map f h0 (y :: r)
theorem cut_keeps {g : Int} (hg : 0 < g) {r p : List Int} (h : ∀ x ∈ r.take p.length, g ∣ x) (w : 0 ≤ worth r p) : 0 ≤ worth (cutZ r g) p := by
  unfold worth at w ⊢
  rw [dot_cut h] at w
  have e : lastZ (cutZ r g) = lastZ r / g := last_map (· / g) (by simp) r
  rw [e]
  have h2 : -(dot (cutZ r g) p) ≤ lastZ r / g := Int.le_ediv_of_mul_le hg (by rw [Int.neg_mul, Int.mul_comm]; omega)
  omega
/-! ### the greatest common divisor -/
def gcdZ (a b : Int) : Int := (Int.gcd a b : Nat)
def sharedZ (r : List Int) : Int := r.foldl gcdZ 0
theorem gcdZ_dvd (a b : Int) : gcdZ a b ∣ a ∧ gcdZ a b ∣ b := ⟨Int.gcd_dvd_left .., Int.gcd_dvd_right ..⟩
theorem gcdZ_nonneg (a b : Int) : 0 ≤ gcdZ a b := by unfold gcdZ; omega
theorem shared_from : ∀ (r : List Int) (f : Int), 0 ≤ f → 0 ≤ r.foldl gcdZ f ∧ r.foldl gcdZ f ∣ f ∧ ∀ x ∈ r, r.foldl gcdZ f ∣ x
  | [], f, h => ⟨h, Int.dvd_refl _, by simp⟩
  | y :: r, f, h => by
    obtain ⟨h1, h2, h3⟩ := shared_from r (gcdZ f y) (gcdZ_nonneg _ _)
    refine ⟨h1, Int.dvd_trans h2 (gcdZ_dvd f y).1, fun x hx => ?_⟩
    rcases List.mem_cons.mp hx with e | hx
    · subst e
      exact Int.dvd_trans h2 (gcdZ_dvd f x).2
    · exact h3 x hx
theorem shared_dvd (r : List Int) : ∀ x ∈ r, sharedZ r ∣ x := (shared_from r 0 (Int.le_refl _)).2.2
theorem shared_nonneg (r : List Int) : 0 ≤ sharedZ r := (shared_from r 0 (Int.le_refl _)).1
/-! ### opposites -/
def oppZ (r : List Int) : List Int := r.dropLast.map (fun x => -x) ++ [-(lastZ r) - 1]
theorem opp_len {r : List Int} (h : r ≠ []) : (oppZ r).length = r.length := by
  unfold oppZ
  rw [List.length_append, List.length_map, List.length_dropLast, List.length_singleton]
  have := List.length_pos_iff.mpr h
  omega
theorem last_snoc (l : List Int) (x : Int) : lastZ (l ++ [x]) = x := by
  unfold lastZ
  rw [List.getLastD_eq_getLast?, List.getLast?_append]
  rfl
theorem snoc_last {r : List Int} (h : r ≠ []) : r.dropLast ++ [lastZ r] = r := by
  have e : lastZ r = r.getLast h := by
    unfold lastZ
    rw [List.getLastD_eq_getLast?, List.getLast?_eq_some_getLast h]
    rfl
  rw [e]
  exact List.dropLast_concat_getLast h
theorem opp_opp {r : List Int} (h : r ≠ []) : oppZ (oppZ r) = r := by
  unfold oppZ
  rw [List.dropLast_concat, last_snoc, List.map_map]
  have e : -(-(lastZ r) - 1) - 1 = lastZ r := by omega
  rw [e, show ((fun x : Int => -x) ∘ fun x => -x) = id from funext fun x => Int.neg_neg x, List.map_id]
  exact snoc_last h
theorem dot_take : ∀ (l r : List Int) (p : List Int), p.length ≤ l.length → dot (l ++ r) p = dot l p
  | [], r, p, h => by
    have : p = [] := List.length_eq_zero_iff.mp (by simpa using h)
    subst this
    rw [dot_nil, dot_nil]
  | x :: l, r, [], _ => by rw [dot_nil, dot_nil]
  | x :: l, r, y :: p, h => by
    rw [List.cons_append, dot_cons, dot_cons, dot_take l r p (by simpa using h)]
theorem dot_neg : ∀ (l p : List Int), dot (l.map fun x => -x) p = -(dot l p)
  | [], p => by simp [dot]
  | x :: l, [] => by rw [dot_nil, dot_nil]; rfl
  | x :: l, y :: p => by
    rw [List.map_cons, dot_cons, dot_cons, dot_neg l p, Int.neg_mul]
    omega
theorem opp_worth {r p : List Int} (h : r.length = p.length + 1) : worth (oppZ r) p = -(worth r p) - 1 := by
  have hne : r ≠ [] := fun e => by rw [e] at h; cases h
  have hd : p.length ≤ r.dropLast.length := by rw [List.length_dropLast]; omega
  unfold worth oppZ
  rw [last_snoc, dot_take _ _ _ (by rw [List.length_map]; exact hd), dot_neg]
  have e : dot r p = dot r.dropLast p := by
    rw [← dot_take r.dropLast [lastZ r] p hd, snoc_last hne]
  rw [e]
  omega
/-! ### a row is told by its worths -/
theorem worth_cons (x y : Int) {r : List Int} (h : r ≠ []) (p : List Int) : worth (x :: r) (y :: p) = x * y + worth r p := by
  unfold worth
  cases r with
  | nil => exact absurd rfl h
  | cons z r =>
    rw [last_cons, dot_cons]
    omega
theorem worth_ext : ∀ (n : Nat) {a b : List Int}, a.length = n + 1 → b.length = n + 1 → (∀ p : List Int, p.length = n → worth a p = worth b p) → a = b
  | 0, [x], [y], _, _, h => by
    have := h [] rfl
    simp [worth, lastZ, dot] at this
    rw [this]
  | n + 1, x :: a, y :: b, ha, hb, h => by
    have na : a ≠ [] := fun e => by rw [e] at ha; simp at ha
    have nb : b ≠ [] := fun e => by rw [e] at hb; simp at hb
    have e : a = b := worth_ext n (by simpa using ha) (by simpa using hb) fun p hp => by
      have := h (0 :: p) (by simp [hp])
      rw [worth_cons _ _ na, worth_cons _ _ nb] at this
      omega
    subst e
    have := h (1 :: List.replicate n 0) (by simp)
    rw [worth_cons _ _ na, worth_cons _ _ na] at this
    have : x = y := by omega
    rw [this]
/-! ### rows led -/
def lstep (f : List Int) (q : Int × List Int) : List Int := (f.zip q.2).map fun p => p.1 + q.1 * p.2
def ledF (l : List (Int × List Int)) (f : List Int) : List Int := l.foldl lstep f
def start (n : Nat) (c : Int) : List Int := List.replicate n 0 ++ [c]
/-- a row led by a matrix over n places -/
def ledZ (n : Nat) (r : List Int) (M : List (List Int)) : List Int := ledF (r.zip M) (start n (lastZ r))
theorem ledF_len {n : Nat} : ∀ {l : List (Int × List Int)} {f : List Int}, (∀ q ∈ l, q.2.length = n) → f.length = n → (ledF l f).length = n
  | [], f, _, h => h
  | q :: l, f, hq, h => ledF_len (l := l) (f := lstep f q) (fun z hz => hq z (List.mem_cons_of_mem _ hz)) (by
      unfold lstep
      rw [List.length_map, List.length_zip, h, hq q List.mem_cons_self]
      exact Nat.min_self _)
theorem ledF_worth (p : List Int) : ∀ {n : Nat} {l : List (Int × List Int)} {f : List Int}, (∀ q ∈ l, q.2.length = n) → f.length = n → worth (ledF l f) p = worth f p + (l.map fun q => q.1 * worth q.2 p).sum
  | n, [], f, _, h => by simp [ledF]
  | n, q :: l, f, hq, h => by
    have h2 := hq q List.mem_cons_self
    show worth (ledF l (lstep f q)) p = _
    rw [ledF_worth p (n := n) (l := l) (f := lstep f q) (fun z hz => hq z (List.mem_cons_of_mem _ hz)) (by
      unfold lstep
      rw [List.length_map, List.length_zip, h, h2]
      exact Nat.min_self _), List.map_cons, List.sum_cons]
    have e : worth (lstep f q) p = worth f p + q.1 * worth q.2 p := by
      unfold worth lstep
      rw [dot_step _ _ _ _ (by rw [h, h2]), last_step _ _ _ (by rw [h, h2]), Int.mul_add]
      omega
    rw [e]
    omega
theorem start_len (n : Nat) (c : Int) : (start n c).length = n + 1 := by simp [start]
theorem start_worth (n : Nat) (c : Int) {p : List Int} (h : p.length = n) : worth (start n c) p = c := by
  unfold worth start
  rw [last_snoc, dot_take _ _ _ (by rw [List.length_replicate, h]; exact Nat.le_refl _)]
  have : ∀ n (p : List Int), dot (List.replicate n 0) p = 0 := fun n => by
    induction n with
    | zero => intro p; simp [dot]
    | succ n ih =>
      intro p
      cases p with
      | nil => exact dot_nil _
      | cons y p => rw [List.replicate_succ, dot_cons, ih]; omega
  rw [this]
  omega
theorem led_mem {r : List Int} {M : List (List Int)} {n : Nat} (hM : ∀ m ∈ M, m.length = n) : ∀ q ∈ r.zip M, q.2.length = n := fun q hq => hM _ (List.of_mem_zip hq).2
theorem led_len {n : Nat} {r : List Int} {M : List (List Int)} (hM : ∀ m ∈ M, m.length = n + 1) : (ledZ n r M).length = n + 1 := ledF_len (led_mem hM) (start_len _ _)
theorem led_worth {n : Nat} {r : List Int} {M : List (List Int)} {p : List Int} (hM : ∀ m ∈ M, m.length = n + 1) (hp : p.length = n) : worth (ledZ n r M) p = worth r (M.map fun m => worth m p) := by
  unfold ledZ
  rw [ledF_worth p (led_mem hM) (start_len _ _), start_worth n _ hp]
  unfold worth dot
  rw [List.zip_map_right, List.map_map]
  rfl
theorem led_led {n k : Nat} {r : List Int} {M N : List (List Int)} (hM : ∀ m ∈ M, m.length = n + 1) (hN : ∀ m ∈ N, m.length = k + 1) : ledZ k (ledZ n r M) N = ledZ k r (M.map fun m => ledZ k m N) ∨ N.length ≠ n := by
  by_cases hl : N.length = n
  · refine .inl (worth_ext k (led_len hN) (led_len fun m hm => ?_) fun p hp => ?_)
    · obtain ⟨m, _, rfl⟩ := List.mem_map.mp hm
      exact led_len hN
    · rw [led_worth hN hp, led_worth hM (by rw [List.length_map, hl]), led_worth (fun m hm => by
        obtain ⟨m, _, rfl⟩ := List.mem_map.mp hm
        exact led_len hN) hp, List.map_map]
      congr 1
      apply List.map_congr_left
      intro m _
      exact (led_worth hN hp).symm
  · exact .inr hl
/-- a column's sum -/
def colsum (l : List (Int × List Int)) (j : Nat) : Int := (l.map fun q => q.1 * q.2.getD j 0).sum
theorem ledF_cols {n : Nat} : ∀ {l : List (Int × List Int)} {f : List Int}, (∀ q ∈ l, q.2.length = n) → f.length = n → ledF l f = (List.range n).map fun j => f.getD j 0 + colsum l j
  | [], f, _, h => by
    show f = _
    apply List.ext_getElem
    · simp [h]
    · intro i h1 h2
      simp [colsum, List.getD_eq_getElem?_getD, h1]
  | q :: l, f, hq, h => by
    have h2 := hq q List.mem_cons_self
    have hl : (lstep f q).length = n := by
      unfold lstep
      rw [List.length_map, List.length_zip, h, h2]
      exact Nat.min_self _
    show ledF l (lstep f q) = _
    rw [ledF_cols (fun z hz => hq z (List.mem_cons_of_mem _ hz)) hl]
    apply List.map_congr_left
    intro j hj
    have hj := List.mem_range.mp hj
    have e : (lstep f q).getD j 0 = f.getD j 0 + q.1 * q.2.getD j 0 := by
      rw [List.getD_eq_getElem?_getD, List.getD_eq_getElem?_getD, List.getD_eq_getElem?_getD, List.getElem?_eq_getElem (by rw [hl]; exact hj), List.getElem?_eq_getElem (by rw [h]; exact hj), List.getElem?_eq_getElem (by rw [h2]; exact hj)]
      simp [lstep]
    show _ = f.getD j 0 + ((q :: l).map fun q => q.1 * q.2.getD j 0).sum
    rw [List.map_cons, List.sum_cons, e]
    show f.getD j 0 + q.1 * q.2.getD j 0 + colsum l j = f.getD j 0 + (q.1 * q.2.getD j 0 + colsum l j)
    omega
theorem led_cols {n : Nat} {r : List Int} {M : List (List Int)} (hM : ∀ m ∈ M, m.length = n + 1) : ledZ n r M = ((List.range n).map fun j => colsum (r.zip M) j) ++ [colsum (r.zip M) n + lastZ r] := by
  unfold ledZ
  rw [ledF_cols (led_mem hM) (start_len _ _), List.range_succ, List.map_append]
  congr 1
  · apply List.map_congr_left
    intro j hj
    have hj := List.mem_range.mp hj
    have : (start n (lastZ r)).getD j 0 = 0 := by
      unfold start
      rw [List.getD_eq_getElem?_getD, List.getElem?_append_left (by simpa using hj)]
      simp [hj]
    rw [this]
    omega
  · have : (start n (lastZ r)).getD n 0 = lastZ r := by
      unfold start
      rw [List.getD_eq_getElem?_getD, List.getElem?_append_right (by simp)]
      simp
    rw [List.map_singleton, this, Int.add_comm]
theorem led_bound {A B : Nat} : ∀ {l : List (Int × List Int)} {f : List Int} {c : Nat}, (∀ q ∈ l, q.1.natAbs ≤ A ∧ ∀ x ∈ q.2, x.natAbs ≤ B) → (∀ x ∈ f, x.natAbs ≤ c) → ∀ x ∈ ledF l f, x.natAbs ≤ c + l.length * (A * B)
  | [], f, c, _, h => fun x hx => by have := h x hx; simp; exact this
  | q :: l, f, c, hq, h => fun x hx => by
    have hx' : x ∈ ledF l (lstep f q) := hx
    have hqq := hq q List.mem_cons_self
    have := led_bound (l := l) (f := lstep f q) (c := c + A * B) (fun b hb => hq b (List.mem_cons_of_mem _ hb)) (fun y hy => by
      unfold lstep at hy
      obtain ⟨z, hz, rfl⟩ := List.mem_map.mp hy
      obtain ⟨z1, z2⟩ := zip_mem hz
      have b1 := h z.1 z1
      have b2 : (q.1 * z.2).natAbs ≤ A * B := by
        rw [Int.natAbs_mul]
        exact Nat.mul_le_mul hqq.1 (hqq.2 _ z2)
      have := Int.natAbs_add_le z.1 (q.1 * z.2)
      omega) x hx'
    rw [List.length_cons, Nat.add_mul, Nat.one_mul]
    omega
/-! ### places turned -/
def turnZ (o : List Nat) (r : List Int) : List Int := o.map (fun k => r.getD k 0) ++ [lastZ r]
theorem turn_len (o : List Nat) (r : List Int) : (turnZ o r).length = o.length + 1 := by simp [turnZ]
theorem dot_ix : ∀ (v : Nat) (r p : List Int), v ≤ r.length → p.length = v → dot r p = ((List.range v).map fun k => r.getD k 0 * p.getD k 0).sum
  | 0, r, p, _, h => by
    rw [List.length_eq_zero_iff.mp h, dot_nil]
    rfl
  | v + 1, x :: r, y :: p, h, h' => by
    rw [dot_cons, dot_ix v r p (by simpa using h) (by simpa using h'), List.range_succ_eq_map, List.map_cons, List.sum_cons, List.map_map]
    rfl
  | v + 1, [], p, h, _ => by simp at h
  | v + 1, x :: r, [], _, h => by simp at h
theorem perm_sum {α : Type} (f : α → Int) {a b : List α} (h : a.Perm b) : (a.map f).sum = (b.map f).sum := by
  induction h with
  | nil => rfl
  | cons x _ ih => simp [ih]
  | swap x y l => simp only [List.map_cons, List.sum_cons]; omega
  | trans _ _ h1 h2 => exact h1.trans h2
theorem dot_maps {α : Type} (f g : α → Int) : ∀ l : List α, dot (l.map f) (l.map g) = (l.map fun x => f x * g x).sum
  | [] => by simp [dot]
  | x :: l => by
    rw [List.map_cons, List.map_cons, dot_cons, dot_maps f g l, List.map_cons, List.sum_cons]
theorem turn_worth {v : Nat} {o : List Nat} {r p : List Int} (ho : o.Perm (List.range v)) (hr : r.length = v + 1) (hp : p.length = v) : worth (turnZ o r) (o.map fun k => p.getD k 0) = worth r p := by
  unfold worth turnZ
  rw [last_snoc, dot_take _ _ _ (by simp), dot_maps, perm_sum _ ho, dot_ix v r p (by omega) hp]
theorem turn_step (w : Int) {v : Nat} {o : List Nat} {f r : List Int} (ho : ∀ k ∈ o, k < v) (hf : f.length = v + 1) (hr : r.length = v + 1) : turnZ o ((f.zip r).map fun q => q.1 + w * q.2) = ((turnZ o f).zip (turnZ o r)).map fun q => q.1 + w * q.2 := by
  unfold turnZ
  rw [last_step w f r (by rw [hf, hr]), List.zip_append (by simp), List.map_append, List.zip_map', List.map_map]
  congr 1
  apply List.map_congr_left
  intro k hk
  have hk := ho k hk
  have hl : k < ((f.zip r).map fun q => q.1 + w * q.2).length := by
    rw [List.length_map, List.length_zip]
    omega
  rw [List.getD_eq_getElem?_getD, List.getElem?_eq_getElem hl]
  simp [List.getD_eq_getElem?_getD, List.getElem?_eq_getElem (show k < f.length by omega), List.getElem?_eq_getElem (show k < r.length by omega)]
theorem turn_wsum {v : Nat} {rows : List (List Int)} {o : List Nat} (L : ∀ r ∈ rows, r.length = v + 1) (ho : ∀ k ∈ o, k < v) : ∀ {ws : List (Nat × Int)} {f : List Int}, (∀ a ∈ ws, a.1 < rows.length) → f.length = v + 1 →
    wsum (rows.map (turnZ o)) ws (turnZ o f) = turnZ o (wsum rows ws f)
  | [], f, _, _ => rfl
  | a :: ws, f, ha, hf => by
    have hat := ha a List.mem_cons_self
    have hr : (rows.getD a.1 []).length = v + 1 := by
      rw [List.getD_eq_getElem?_getD, List.getElem?_eq_getElem hat]
      exact L _ (List.getElem_mem hat)
    have e : (rows.map (turnZ o)).getD a.1 [] = turnZ o (rows.getD a.1 []) := by
      rw [List.getD_eq_getElem?_getD, List.getD_eq_getElem?_getD, List.getElem?_map, List.getElem?_eq_getElem hat]
      rfl
    show wsum (rows.map (turnZ o)) ws (wstep (rows.map (turnZ o)) (turnZ o f) a) = turnZ o (wsum rows ws (wstep rows f a))
    have es : wstep (rows.map (turnZ o)) (turnZ o f) a = turnZ o (wstep rows f a) := by
      unfold wstep
      rw [e, turn_step a.2 ho hf hr]
    rw [es]
    exact turn_wsum L ho (fun b hb => ha b (List.mem_cons_of_mem _ hb)) (by
      unfold wstep
      rw [List.length_map, List.length_zip, hr, hf]
      exact Nat.min_self _)
theorem turn_zero {v : Nat} {o : List Nat} (hl : o.length = v) : turnZ o (List.replicate (v + 1) 0) = List.replicate (v + 1) 0 := by
  unfold turnZ
  have e1 : (o.map fun k => (List.replicate (v + 1) (0 : Int)).getD k 0) = List.replicate v 0 := by
    apply List.ext_getElem
    · simp [hl]
    · intro i h1 h2
      simp only [List.getElem_map, List.getElem_replicate]
      rw [List.getD_eq_getElem?_getD, List.getElem?_replicate]
      split <;> rfl
  have e2 : lastZ (List.replicate (v + 1) 0) = 0 := by
    unfold lastZ
    rw [List.getLastD_eq_getLast?, List.getLast?_replicate]
    simp
  rw [e1, e2]
  exact (List.replicate_succ' ..).symm
end K05

set_option Elab.async false
set_option linter.all false
set_option maxRecDepth 100000
set_option exponentiation.threshold 3000
namespace K05
open PySem PySem.Spec L2 DL
variable {E : Ex → Gam → Prop} {Γ : Gam} {Q : R → Gam → Prop}
abbrev F59 : Int := 100000000000000000000000000000000000000000000000000000000000
def Far (r : List Int) : Prop := ∀ x ∈ r, -F59 ≤ x ∧ x ≤ F59
theorem Far.near {r : List Int} (h : Far r) : Near r := fun x hx => by
  have := h x hx
  simp only [F59, FARZ] at this ⊢
  omega
structure Lot2 (v : Nat) (rows : List (List Int)) : Prop where
  lot : Lot v rows
  far : ∀ r ∈ rows, Far r
  few : rows.length ≤ 30
structure LotS (v : Nat) (rows : List (List Int)) : Prop where
  v3 : v ≤ 3
  few : rows.length ≤ 10
  len : ∀ r ∈ rows, r.length = v + 1
  sm : ∀ r ∈ rows, ∀ x ∈ r, -40 ≤ x ∧ x ≤ 40
theorem LotS.to2 {v : Nat} {rows : List (List Int)} (L : LotS v rows) : Lot2 v rows := by
  have hf : ∀ r ∈ rows, Far r := fun r hr x hx => by
    have := L.sm r hr x hx
    simp only [F59]
    omega
  exact ⟨⟨by have := L.v3; omega, by have := L.few; omega, L.len, fun r hr => (hf r hr).near⟩, hf, by have := L.few; omega⟩
/-- a comprehension whose elements throw dice: c throws each -/
theorem lc_dice {i : Nat} {te : DT} {Q : List D → DSt → Prop} {xs : List D} {ρ : List Sl} {Γ : Gam} {a : Addr} {n : Nat} (c : Nat) (P : D → Prop) (hi : i < ρ.length) (he : ρ[i]? = some .emp) (hz : xs.length ≤ 10000) (d : Dice Γ a n)
    (h : ∀ x ∈ xs, ∀ Γ m, m ≤ n + c * xs.length → Dice Γ a m → ∀ R : D → DSt → Prop, (∀ y Γ', P y → Dice Γ' a (m + c) → R y ⟨ρ.set i (.val x), Γ'⟩) → te noEx ⟨ρ.set i (.val x), Γ⟩ R)
    (q : ∀ ys Γ', ys.length = xs.length → (∀ y ∈ ys, P y) → Dice Γ' a (n + c * xs.length) → Q ys ⟨ρ, Γ'⟩) : lcD (.one i) dYes te [i] xs [] ⟨ρ, Γ⟩ Q := by
  refine lc_ind (fun r acc s => acc.length + r.length = xs.length ∧ (∀ y ∈ acc, P y) ∧ ∃ Γ', s = ⟨ρ, Γ'⟩ ∧ Dice Γ' a (n + c * acc.length)) ⟨by simp, by simp, Γ, rfl, d⟩ ?_ ?_
  · rintro acc s ⟨e1, hp, Γ', rfl, d'⟩
    have e2 : acc.length = xs.length := by simpa using e1
    rw [e2] at d'
    exact q acc Γ' e2 hp d'
  · rintro x r acc s ⟨pre, e0⟩ ⟨e1, hp, Γ', rfl, d'⟩ R hR
    have hlen : acc.length + (r.length + 1) = xs.length := e1
    refine ⟨hi, ?_⟩
    show te noEx _ _
    refine h x (by rw [e0]; simp) Γ' _ (by have : c * acc.length ≤ c * xs.length := Nat.mul_le_mul_left _ (by omega); omega) d' _ fun y Γ2 hy d2 => ?_
    refine ⟨(by have : sizeLine = 16777216 := rfl; omega), hR _ _ ⟨?_, ?_, Γ2, by rw [wipe1 hi he], ?_⟩⟩
    · rw [List.length_append, List.length_singleton]
      omega
    · intro z hz'
      rcases List.mem_append.mp hz' with hz' | hz'
      · exact hp z hz'
      · rw [List.mem_singleton.mp hz']
        exact hy
    · rw [List.length_append, List.length_singleton, Nat.mul_add, Nat.mul_one, ← Nat.add_assoc]
      exact d2
theorem ints_of {p : Int → Prop} : ∀ {ys : List D}, (∀ y ∈ ys, ∃ k, y = .int k ∧ p k) → ∃ ks : List Int, ys = ks.map .int ∧ ∀ k ∈ ks, p k
  | [], _ => ⟨[], rfl, by simp⟩
  | y :: ys, h => by
    obtain ⟨k, rfl, hk⟩ := h y List.mem_cons_self
    obtain ⟨ks, rfl, hks⟩ := ints_of fun z hz => h z (List.mem_cons_of_mem _ hz)
    exact ⟨k :: ks, rfl, fun z hz => (List.mem_cons.mp hz).elim (fun e => e ▸ hk) (hks z)⟩
theorem rangeD_len (lo : Int) (n : Nat) : (rangeD lo n).length = n := by unfold rangeD; simp
/-- roll(2 * far + 1) - far -/
theorem ok_far {a : Addr} {n : Nat} {t far : Int} (d : Dice Γ a n) (hn : n ≤ 10 ^ 18) (h0 : 0 ≤ far) (h1 : far < 2 ^ 400) (ht : t = 2 * far + 1) (q : ∀ k Γ', -far ≤ k - far → k - far ≤ far → Dice Γ' a (n + 1) → Q (.val (.int k)) Γ') : f__law_roll E [.ref a, .int t] Γ Q :=
  ok_roll d hn (by omega) (by omega) fun r Γ' r0 r1 d' => q r Γ' (by omega) (by omega) d'
theorem p59 : (10 : Int) ^ (59 : Int).toNat = 100000000000000000000000000000000000000000000000000000000000 := by decide +kernel
theorem p30 : (10 : Int) ^ (30 : Int).toNat = 1000000000000000000000000000000 := by decide +kernel
theorem p20 : (10 : Int) ^ (20 : Int).toNat = 100000000000000000000 := by decide +kernel
theorem cp59 : CPow 10 59 := ⟨by decide, by decide, by decide⟩
theorem cp30 : CPow 10 30 := ⟨by decide, by decide, by decide⟩
theorem cp20 : CPow 10 20 := ⟨by decide, by decide, by decide⟩
theorem ok_rw_number {a : Addr} {n : Nat} (d : Dice Γ a n) (hn : n ≤ 10 ^ 17) (q : ∀ k Γ', -F59 ≤ k ∧ k ≤ F59 → Dice Γ' a (n + 2) → Q (.val (.int k)) Γ') : f__law_rw_number E [.ref a] Γ Q := by
  unfold f__law_rw_number r__law_rw_number
  simp? [p59, cp59]
  refine ok_pick d (by omega) (by simp) (by simp) fun x hx Γ1 d1 => ?_
  obtain ⟨far, rfl, f0, f1⟩ : ∃ far : Int, x = .int far ∧ 0 ≤ far ∧ far ≤ 100000000000000000000000000000000000000000000000000000000000 := by
    simp only [List.mem_cons, List.not_mem_nil, or_false] at hx
    rcases hx with h | h | h | h | h <;> exact ⟨_, h, by omega, by omega⟩
  simp? []
  refine ⟨mulw (by omega) (by omega), ok_far d1 (by omega) f0 (by omega) rfl fun k Γ2 k0 k1 d2 => ?_⟩
  simp? []
  exact q _ _ ⟨by simp only [F59]; omega, by simp only [F59]; omega⟩ d2
theorem ok_rw_point {a : Addr} {n v : Nat} (hv : v ≤ 24) (d : Dice Γ a n) (hn : n ≤ 10 ^ 17) (q : ∀ (p : List Int) Γ', p.length = v → (∀ x ∈ p, -1000000000000000000000000000000 ≤ x ∧ x ≤ 1000000000000000000000000000000) → Dice Γ' a (n + 100) → Q (.val (iD p)) Γ') : f__law_rw_point E [.ref a, .int v] Γ Q := by
  unfold f__law_rw_point r__law_rw_point
  simp? [p30, cp30]
  refine ok_pick d (by omega) (by simp) (by simp) fun x hx Γ1 d1 => ?_
  obtain ⟨far, rfl, f0, f1⟩ : ∃ far : Int, x = .int far ∧ 0 ≤ far ∧ far ≤ 1000000000000000000000000000000 := by
    simp only [List.mem_cons, List.not_mem_nil, or_false] at hx
    rcases hx with h | h | h | h <;> exact ⟨_, h, by omega, by omega⟩
  simp? []
  refine ⟨⟨by omega, by omega⟩, (fun i hi => by (try simp at hi); first | (subst hi; rfl) | (rcases hi with hi | hi <;> (subst hi; rfl))), lc_dice 1 (fun y => ∃ k : Int, y = .int k ∧ -1000000000000000000000000000000 ≤ k ∧ k ≤ 1000000000000000000000000000000) (by simp [wipeS_len]) rfl (by rw [rangeD_len]; omega) d1 (fun x hx Γ m hm d R hR => ?_) fun ys Γ' hl hp d' => ?_⟩
  · rw [rangeD_len] at hm
    simp? []
    refine ⟨mulw (by omega) (by omega), ok_far d (by omega) f0 (by omega) rfl fun k Γ2 k0 k1 d2 => ?_⟩
    simp? []
    exact hR _ _ ⟨_, rfl, by omega, by omega⟩ d2
  · rw [rangeD_len] at hl d'
    obtain ⟨p, rfl, hp'⟩ := ints_of hp
    rw [List.length_map] at hl
    simp? []
    exact q p _ (by omega) hp' (d'.mono (by omega))
/-- lots of data from a list of rows -/
theorem rows_snoc (rows : List (List Int)) (r : List Int) : rows.map iD ++ [iD r] = (rows ++ [r]).map iD := by simp
theorem ok_rw_lot {a : Addr} {n : Nat} {most : Int} (h0 : 0 ≤ most) (h1 : most ≤ 24) (d : Dice Γ a n) (hn : n ≤ 10 ^ 16) (q : ∀ v rows Γ', Lot2 v rows → Dice Γ' a (n + 10000) → Q (.val (lotD v rows)) Γ') : f__law_rw_lot E [.ref a, .int most] Γ Q := by
  unfold f__law_rw_lot r__law_rw_lot
  simp? []
  refine ok_roll d (by omega) (by omega) (by omega) fun r Γ1 r0 r1 d1 => ?_
  obtain ⟨v, rfl⟩ : ∃ v : Nat, r = v := ⟨r.toNat, by omega⟩
  simp? []
  refine ok_roll d1 (by omega) (by omega) (by omega) fun k Γ2 k0 k1 d2 => ?_
  simp? []
  refine ⟨⟨by omega, by omega⟩, ?_⟩
  refine for_ind (fun r s => ∃ (rows : List (List Int)) (x : Sl) (Γ' : Gam), rows.length + r.length = k.toNat ∧ (∀ r ∈ rows, r.length = v + 1 ∧ Far r) ∧ x.isOwn = false ∧ s = ⟨[.val (.ref a), .val (.int most), .val (.int v), .lst (rows.map iD), x, .emp], Γ'⟩ ∧ Dice Γ' a (n + 2 + 50 * rows.length))
    ⟨[], .emp, Γ2, by rw [rangeD_len]; simp, by simp, rfl, rfl, d2⟩ ?_ ?_
  · rintro s ⟨rows, x, Γ', hl, hr, hx, rfl, d'⟩
    simp? []
    refine q v rows Γ' ⟨⟨by omega, ?_, fun r h => (hr r h).1, fun r h => (hr r h).2.near⟩, fun r h => (hr r h).2, ?_⟩ (d'.mono ?_)
    · simp only [List.length_nil] at hl
      omega
    · simp only [List.length_nil] at hl
      omega
    · simp only [List.length_nil] at hl
      omega
  · rintro x r s - ⟨rows, x', Γ', hl, hr, hx, rfl, d'⟩ R hR
    simp only [List.length_cons] at hl
    simp? []
    refine ⟨⟨by omega, by omega⟩, (fun i hi => by (try simp at hi); first | (subst hi; rfl) | (rcases hi with hi | hi <;> (subst hi; rfl))), lc_dice 2 (fun y => ∃ k : Int, y = .int k ∧ (-F59 ≤ k ∧ k ≤ F59)) (by simp [wipeS_len]) rfl (by rw [rangeD_len]; omega) d' (fun x hx Γ m hm d R hR => ?_) fun ys Γ3 hly hp d3 => ?_⟩
    · rw [rangeD_len] at hm
      simp? []
      exact ok_rw_number d (by omega) fun k Γ2 hk d2 => hR _ _ ⟨k, rfl, hk⟩ d2
    · rw [rangeD_len] at hly d3
      obtain ⟨p, rfl, hp'⟩ := ints_of hp
      rw [List.length_map] at hly
      simp? []
      refine ⟨Nat.lt_of_lt_of_le (show rows.length < 10000 by omega) (size_le (Nat.le_refl _)), hR _ ⟨rows ++ [p], .val x, Γ3, ?_, ?_, rfl, ?_, d3.mono ?_⟩⟩
      · rw [List.length_append, List.length_singleton]
        omega
      · intro z hz
        rcases List.mem_append.mp hz with hz | hz
        · exact hr z hz
        · rw [List.mem_singleton.mp hz]
          exact ⟨by omega, hp'⟩
      · rw [rows_snoc]
      · rw [List.length_append, List.length_singleton]
        omega
theorem near_small {k : Int} (h : -100 ≤ k ∧ k ≤ 100) : -FARZ < k ∧ k < FARZ := by
  simp only [FARZ]
  omega
theorem last_mem {r : List Int} (h : r ≠ []) : lastZ r ∈ r := by
  unfold lastZ
  rw [List.getLastD_eq_getLast?, List.getLast?_eq_some_getLast h]
  exact List.getLast_mem h
def Small (r : List Int) : Prop := ∀ x ∈ r, -20 ≤ x ∧ x ≤ 20
theorem ok_law_lot {a : Addr} {n : Nat} (d : Dice Γ a n) (hn : n ≤ 10 ^ 16) (q : ∀ v rows Γ', LotS v rows → Dice Γ' a (n + 10000) → Q (.val (lotD v rows)) Γ') : f__law_lot E [.ref a, .int 3] Γ Q := by
  unfold f__law_lot r__law_lot
  simp? []
  refine ok_roll d (by omega) (by omega) (by omega) fun r Γ1 r0 r1 d1 => ?_
  obtain ⟨v, rfl⟩ : ∃ v : Nat, r = v := ⟨r.toNat, by omega⟩
  simp? []
  refine ok_pick d1 (by omega) (by simp) (by simp) fun x hx Γ2 d2 => ?_
  obtain ⟨far, rfl, f0, f1⟩ : ∃ far : Int, x = .int far ∧ 0 ≤ far ∧ far ≤ 9 := by
    simp only [List.mem_cons, List.not_mem_nil, or_false] at hx
    rcases hx with h | h | h | h <;> exact ⟨_, h, by omega, by omega⟩
  simp? []
  refine ok_pick d2 (by omega) (by simp) (by simp) fun x hx Γ3 d3 => ?_
  obtain ⟨high, rfl, g0, g1⟩ : ∃ far : Int, x = .int far ∧ 0 ≤ far ∧ far ≤ 9 := by
    simp only [List.mem_cons, List.not_mem_nil, or_false] at hx
    rcases hx with h | h | h <;> exact ⟨_, h, by omega, by omega⟩
  simp? []
  refine ok_roll d3 (by omega) (by omega) (by omega) fun k Γ4 k0 k1 d4 => ?_
  simp? []
  refine ⟨⟨by omega, by omega⟩, ?_⟩
  refine for_ind (fun r s => ∃ (rows : List (List Int)) (x y : Sl) (Γ' : Gam), rows.length + r.length = k.toNat ∧ (∀ r ∈ rows, r.length = v + 1 ∧ Small r) ∧ x.isOwn = false ∧ y.isOwn = false ∧ s = ⟨[.val (.ref a), .val (.int 3), .val (.int v), .val (.int far), .lst (rows.map iD), .val (.int high), x, y, .emp, .emp], Γ'⟩ ∧ Dice Γ' a (n + 4 + 50 * rows.length))
    ⟨[], .emp, .emp, Γ4, by rw [rangeD_len]; simp, by simp, rfl, rfl, rfl, d4⟩ ?_ ?_
  · rintro s ⟨rows, x, y, Γ', hl, hr, hx, hy, rfl, d'⟩
    simp only [List.length_nil] at hl
    have fin : ∀ (rows : List (List Int)) Γ', rows.length ≤ 10 → (∀ r ∈ rows, r.length = v + 1 ∧ ∀ x ∈ r, -40 ≤ x ∧ x ≤ 40) → Dice Γ' a (n + 2000) → Q (.val (lotD v rows)) Γ' := fun rows Γ' h1 h2 d => q v rows Γ' ⟨by omega, by omega, fun r h => (h2 r h).1, fun r h => (h2 r h).2⟩ (d.mono (by omega))
    have hsm : ∀ r ∈ rows, r.length = v + 1 ∧ ∀ x ∈ r, -40 ≤ x ∧ x ≤ 40 := fun r h => ⟨(hr r h).1, fun x hx => by have := (hr r h).2 x hx; omega⟩
    simp? []
    refine pNe_nil ?_
    cases hrs : rows with
    | nil =>
      simp? [List.isEmpty_nil]
      exact fin [] Γ' (by simp) (by simp) (d'.mono (by rw [hrs]; simp))
    | cons r0 rs =>
      rw [← hrs]
      have hne : (rows.map iD).isEmpty = false := by rw [hrs]; rfl
      have hpos : 0 < rows.length := by rw [hrs]; simp
      simp? [hne]
      refine ok_roll d' (by omega) (by omega) (by omega) fun c Γ5 c0 c1 d5 => ?_
      simp? []
      refine pEq_int ?_
      by_cases hc : c = 0
      · simp? [decide_eq_true hc]
        refine ok_roll d5 (by omega) (by omega) (by omega) fun m Γ6 m0 m1 d6 => ?_
        obtain ⟨m, rfl⟩ : ∃ j : Nat, m = j := ⟨m.toNat, by omega⟩
        have hm : m < rows.length := by omega
        have hat : atI (rows.map iD) (m : Int) = some (iD rows[m]) := by rw [atI_nat (by rw [List.length_map]; exact hm), List.getElem_map]
        have hrm := hr _ (List.getElem_mem hm)
        have hne' : rows[m] ≠ [] := fun e => by rw [e] at hrm; cases hrm.1
        simp? [hat, cut_init]
        rw [← List.map_dropLast]
        refine ⟨(fun i hi => by (try simp at hi); first | (subst hi; rfl) | (rcases hi with hi | hi <;> (subst hi; rfl))), lc_mapA .int (fun x => .int (0 - x)) (by simp [wipeS_len]) rfl (size_le (by rw [List.length_dropLast]; omega)) (fun x hx R hR => ?_) ?_⟩
        · simp? []
          exact hR
        · simp? []
          refine ok_roll d6 (by omega) (by omega) (by omega) fun c2 Γ7 c20 c21 d7 => ?_
          simp? [at_last hne']
          have e : (rows[m].dropLast.map fun x => D.int (0 - x)) ++ [D.int (c2 - lastZ rows[m])] = ((rows[m].dropLast.map fun x => 0 - x) ++ [c2 - lastZ rows[m]]).map D.int := by rw [List.map_append, List.map_map]; rfl
          rw [e, rows_snoc]
          refine ⟨size_le (by rw [List.length_dropLast]; omega), Nat.lt_of_lt_of_le (show rows.length < 10000 by omega) (size_le (Nat.le_refl _)), fin _ _ (by simp; omega) ?_ (d7.mono (by omega))⟩
          intro z hz
          rcases List.mem_append.mp hz with hz | hz
          · exact hsm z hz
          · rw [List.mem_singleton.mp hz]
            refine ⟨by simp; omega, fun y hy => ?_⟩
            rcases List.mem_append.mp hy with hy | hy
            · obtain ⟨w, hw, rfl⟩ := List.mem_map.mp hy
              have := hrm.2 w (by rw [List.dropLast_eq_take] at hw; exact List.mem_of_mem_take hw)
              omega
            · rw [List.mem_singleton.mp hy]
              have := hrm.2 _ (last_mem hne')
              omega
      · simp? [decide_eq_false hc]
        exact fin rows Γ5 (by omega) hsm (d5.mono (by omega))
  · rintro x r s - ⟨rows, x', y', Γ', hl, hr, hx, hy, rfl, d'⟩ R hR
    simp only [List.length_cons] at hl
    simp? []
    refine ⟨⟨by omega, by omega⟩, (fun i hi => by (try simp at hi); first | (subst hi; rfl) | (rcases hi with hi | hi <;> (subst hi; rfl))), lc_dice 1 (fun y => ∃ k : Int, y = .int k ∧ (-20 ≤ k ∧ k ≤ 20)) (by simp [wipeS_len]) rfl (by rw [rangeD_len]; omega) d' (fun x hx Γ m hm d R hR => ?_) fun ys Γ3 hly hp d3 => ?_⟩
    · rw [rangeD_len] at hm
      simp? []
      refine ⟨mulw (by omega) (by omega), ok_far d (by omega) f0 (by omega) rfl fun k Γ2 k0 k1 d2 => ?_⟩
      simp? []
      exact hR _ _ ⟨_, rfl, by omega, by omega⟩ d2
    · rw [rangeD_len] at hly d3
      obtain ⟨p, rfl, hp'⟩ := ints_of hp
      rw [List.length_map] at hly
      simp? []
      refine ⟨mulw (by omega) (by omega), ok_far d3 (by omega) g0 (by omega) rfl fun k Γ5 k0 k1 d5 => ?_⟩
      simp? []
      have e : p.map D.int ++ [D.int (k - high)] = (p ++ [k - high]).map D.int := by simp
      rw [e, rows_snoc]
      refine ⟨size_le (by omega), Nat.lt_of_lt_of_le (show rows.length < 10000 by omega) (size_le (Nat.le_refl _)), hR _ ⟨rows ++ [p ++ [k - high]], .val x, .val (.lst (p.map .int)), Γ5, ?_, ?_, rfl, rfl, rfl, d5.mono ?_⟩⟩
      · rw [List.length_append, List.length_singleton]
        omega
      · intro z hz
        rcases List.mem_append.mp hz with hz | hz
        · exact hr z hz
        · rw [List.mem_singleton.mp hz]
          refine ⟨by simp; omega, fun y hy => ?_⟩
          rcases List.mem_append.mp hy with hy | hy
          · exact hp' y hy
          · rw [List.mem_singleton.mp hy]
            omega
      · rw [List.length_append, List.length_singleton]
        omega
theorem ok_rw_any {a : Addr} {n : Nat} (d : Dice Γ a n) (hn : n ≤ 10 ^ 15) (q : ∀ v rows Γ', Lot2 v rows → Dice Γ' a (n + 10010) → Q (.val (lotD v rows)) Γ') : f__law_rw_any E [.ref a] Γ Q := by
  unfold f__law_rw_any r__law_rw_any
  simp? []
  refine ok_roll d (by omega) (by omega) (by omega) fun c Γ1 c0 c1 d1 => ?_
  simp? []
  refine pEq_int ?_
  by_cases hc : c = 0
  · simp? [decide_eq_true hc]
    refine ok_pick d1 (by omega) (by simp) (by simp) fun x hx Γ2 d2 => ?_
    obtain ⟨most, rfl, f0, f1⟩ : ∃ far : Int, x = .int far ∧ 0 ≤ far ∧ far ≤ 24 := by
      simp only [List.mem_cons, List.not_mem_nil, or_false] at hx
      rcases hx with h | h | h <;> exact ⟨_, h, by omega, by omega⟩
    simp? []
    refine ok_rw_lot f0 f1 d2 (by omega) fun v rows Γ3 L d3 => ?_
    simp? []
    exact q v rows _ L (d3.mono (by omega))
  · simp? [decide_eq_false hc]
    refine ok_law_lot d1 (by omega) fun v rows Γ3 L d3 => ?_
    simp? []
    exact q v rows _ L.to2 (d3.mono (by omega))
theorem asc_snoc {ws : List (Nat × Int)} {m : Nat} {w : Nat × Int} (h : (ws.zip ws.tail).all (fun q => decide (q.1.1 < q.2.1)) = true) (hm : ∀ x ∈ ws, x.1 < m) (hw : w.1 = m) : ((ws ++ [w]).zip (ws ++ [w]).tail).all (fun q => decide (q.1.1 < q.2.1)) = true := by
  induction ws with
  | nil => rfl
  | cons x r ih =>
    cases r with
    | nil =>
      have := hm x List.mem_cons_self
      show (decide (x.1 < w.1) && true) = true
      rw [Bool.and_true]
      exact decide_eq_true (by omega)
    | cons y r =>
      have h' : (decide (x.1 < y.1) && ((y :: r).zip (y :: r).tail).all (fun q => decide (q.1.1 < q.2.1))) = true := h
      obtain ⟨h1, h2⟩ := Bool.and_eq_true_iff.mp h'
      show (decide (x.1 < y.1) && ((y :: r ++ [w]).zip (y :: r ++ [w]).tail).all (fun q => decide (q.1.1 < q.2.1))) = true
      rw [h1, ih h2 fun z hz => hm z (List.mem_cons_of_mem _ hz)]
      rfl
theorem ok_rw_weights {a : Addr} {n many : Nat} (h1 : 1 ≤ many) (h2 : many ≤ 100) (d : Dice Γ a n) (hn : n ≤ 10 ^ 15) (q : ∀ ws Γ', Wts many ws → Dice Γ' a (n + 1000) → Q (.val (wD ws)) Γ') : f__law_rw_weights E [.ref a, .int many] Γ Q := by
  unfold f__law_rw_weights r__law_rw_weights
  simp? [p20, cp20]
  refine ok_pick d (by omega) (by simp) (by simp) fun x hx Γ2 d2 => ?_
  obtain ⟨far, rfl, f0, f1⟩ : ∃ far : Int, x = .int far ∧ 1 ≤ far ∧ far ≤ 100000000000000000000 := by
    simp only [List.mem_cons, List.not_mem_nil, or_false] at hx
    rcases hx with h | h | h <;> exact ⟨_, h, by omega, by omega⟩
  simp? []
  refine ⟨⟨by omega, by omega⟩, ?_⟩
  refine for_ind (fun r s => ∃ (m : Nat) (ws : List (Nat × Int)) (x : Sl) (Γ' : Gam), m + r.length = many ∧ r = (List.range' m r.length).map (fun k => D.int (k : Nat)) ∧ (∀ w ∈ ws, w.1 < m ∧ 1 ≤ w.2 ∧ w.2 < 10 ^ 40) ∧ (ws.zip ws.tail).all (fun q => decide (q.1.1 < q.2.1)) = true ∧ ws.length ≤ m ∧ x.isOwn = false ∧
      s = ⟨[.val (.ref a), .val (.int many), .val (.int far), .lst (ws.map fun w => D.tup [.int w.1, .int w.2]), x], Γ'⟩ ∧ Dice Γ' a (n + 1 + 2 * m))
    ⟨0, [], .emp, Γ2, by rw [rangeD_len]; omega, ?_, by simp, rfl, by simp, rfl, rfl, d2⟩ ?_ ?_
  · rw [rangeD_len]
    unfold rangeD
    rw [List.range_eq_range']
    apply List.map_congr_left
    intro k _
    simp
  · rintro s ⟨m, ws, x, Γ', hm, -, hw, has, hl, hx, rfl, d'⟩
    simp only [List.length_nil] at hm
    simp? []
    refine pNe_nil ?_
    cases hws : ws with
    | nil =>
      simp? [List.isEmpty_nil]
      refine ok_roll d' (by omega) (by omega) (by omega) fun c Γ5 c0 c1 d5 => ?_
      obtain ⟨c, rfl⟩ : ∃ j : Nat, c = j := ⟨c.toNat, by omega⟩
      simp? []
      exact q [(c, 1)] _ ⟨by simp, by simp; omega, by simp, rfl, by simp⟩ (d5.mono (by omega))
    | cons w0 wr =>
      rw [← hws]
      have hne : (ws.map fun w : Nat × Int => D.tup [.int w.1, .int w.2]).isEmpty = false := by rw [hws]; rfl
      simp? [hne]
      exact q ws _ ⟨by rw [hws]; simp, fun w h => by have := (hw w h).1; omega, fun w h => (hw w h).2, has, by omega⟩ (d'.mono (by omega))
  · rintro x r s - ⟨m, ws, x', Γ', hm, hr, hw, has, hl, hx, rfl, d'⟩ R hR
    simp only [List.length_cons] at hm
    have hr' : x :: r = D.int (m : Nat) :: (List.range' (m + 1) r.length).map (fun k => D.int (k : Nat)) := by
      rw [hr]
      simp only [List.length_cons, List.range'_succ, List.map_cons, List.length_map, List.length_range']
    obtain ⟨rfl, hr2⟩ := List.cons.inj hr'
    simp? []
    refine ok_roll d' (by omega) (by omega) (by omega) fun c Γ5 c0 c1 d5 => ?_
    simp? []
    refine pEq_int ?_
    by_cases hc : c = 0
    · simp? [decide_eq_true hc]
      refine ok_roll d5 (by omega) (by omega) (by omega) fun e Γ6 e0 e1 d6 => ?_
      simp? []
      have ee : (ws.map fun w : Nat × Int => D.tup [.int w.1, .int w.2]) ++ [D.tup [.int (m : Nat), .int (1 + e)]] = (ws ++ [(m, 1 + e)]).map fun w => D.tup [.int w.1, .int w.2] := by simp
      rw [ee]
      refine ⟨Nat.lt_of_lt_of_le (show ws.length < 10000 by omega) (size_le (Nat.le_refl _)), hR _ ⟨m + 1, _, .val (.int (m : Nat)), Γ6, by omega, hr2, ?_, asc_snoc has (fun w h => (hw w h).1) rfl, by simp; omega, rfl, rfl, d6.mono (by omega)⟩⟩
      intro w hw'
      rcases List.mem_append.mp hw' with hw' | hw'
      · have := hw w hw'
        omega
      · rw [List.mem_singleton.mp hw']
        refine ⟨by simp, ?_, ?_⟩
        · show 1 ≤ 1 + e
          omega
        · show 1 + e < 10 ^ 40
          omega
    · simp? [decide_eq_false hc]
      exact hR _ ⟨m + 1, ws, .val (.int (m : Nat)), Γ5, by omega, hr2, fun w h => by have := hw w h; omega, has, by omega, rfl, rfl, d5.mono (by omega)⟩
end K05

set_option Elab.async false
set_option linter.all false
set_option maxRecDepth 100000
set_option exponentiation.threshold 3000
namespace K05
open PySem PySem.Spec L2 DL
variable {E : Ex → Gam → Prop} {Γ : Gam} {Q : R → Gam → Prop}
theorem ok_require_number {g : Int} (h0 : 1 ≤ g) (h1 : g < FARZ) (q : Q (.val .non) Γ) : f_require_number E [.int g, .int 1, .non] Γ Q := by
  unfold f_require_number r_require_number
  simp? []
  refine ok_is_near rfl ?_
  have e : isNear (.int g) = true := by
    simp only [FARZ] at h1
    simp [isNear, FARZ]
    omega
  have e1 : decide (g < 1) = false := decide_eq_false (by omega)
  simp? [e, e1, Bool.true_bne, Bool.bne_true]
  exact q
theorem ok_does_divide {r : List Int} {g : Int} (hg : 0 < g) (hl : r.length ≤ 5000) (h : ∀ x ∈ r.dropLast, g ∣ x) (q : Q (.val (.bl true)) Γ) : f_does_divide E [iD r, .int g] Γ Q := by
  unfold f_does_divide r_does_divide
  simp? [cut_init]
  rw [← List.map_dropLast]
  refine ⟨(fun i hi => by (try simp at hi); first | (subst hi; rfl) | (rcases hi with hi | hi <;> (subst hi; rfl))), lc_mapA .int (fun _ => .bl true) (by simp [wipeS_len]) rfl (size_le (by rw [List.length_dropLast]; omega)) (fun x hx R hR => ?_) (pAll_map (f := fun _ => true) ?_)⟩
  · simp? []
    refine ⟨hg, pEq_int ?_⟩
    rw [Int.emod_eq_zero_of_dvd (h x hx)]
    exact hR
  · simp? [show (r.dropLast.all fun _ => true) = true from by simp]
    exact q
theorem ok_cut_by {r : List Int} {g : Int} (hg : 0 < g) (hb : g < FARZ) (hl : r.length ≤ 5000) (q : Q (.val (iD (cutZ r g))) Γ) : f_cut_by E [iD r, .int g] Γ Q := by
  unfold f_cut_by r_cut_by
  simp? []
  refine ⟨(fun i hi => by (try simp at hi); first | (subst hi; rfl) | (rcases hi with hi | hi <;> (subst hi; rfl))), lc_mapA .int (fun x => .int (x / g)) (by simp [wipeS_len]) rfl (size_le (by omega)) (fun x hx R hR => ?_) ?_⟩
  · simp? []
    exact ⟨divw hg (by simp only [FARZ] at hb; omega), hR⟩
  · simp? []
    have e : (r.map fun x => D.int (x / g)) = (cutZ r g).map D.int := by unfold cutZ; rw [List.map_map]; rfl
    rw [e]
    exact q
/-! ### opposites -/
theorem ok_opposite_in {r : List Int} (hne : r ≠ []) (hl : r.length ≤ 5000) (q : Q (.val (iD (oppZ r))) Γ) : f_opposite_in E [iD r] Γ Q := by
  unfold f_opposite_in r_opposite_in
  simp? [cut_init, at_last hne]
  rw [← List.map_dropLast]
  refine ⟨(fun i hi => by (try simp at hi); first | (subst hi; rfl) | (rcases hi with hi | hi <;> (subst hi; rfl))), lc_mapA .int (fun x => .int (-x)) (by simp [wipeS_len]) rfl (size_le (by rw [List.length_dropLast]; omega)) (fun x hx R hR => ?_) ?_⟩
  · simp? []
    exact hR
  · simp? [at_last hne]
    have e : (r.dropLast.map fun x => D.int (-x)) ++ [D.int (-(lastZ r) - 1)] = (oppZ r).map D.int := by unfold oppZ; rw [List.map_append, List.map_map]; rfl
    rw [e]
    exact ⟨size_le (by rw [List.length_map, opp_len hne]; omega), q⟩
theorem ok_opposite_row {r : List Int} (hn : Near r) (h1 : 1 ≤ r.length) (h2 : r.length ≤ 25) (q : Q (.val (iD (oppZ r))) Γ) : f_opposite_row E [iD r] Γ Q := by
  unfold f_opposite_row r_opposite_row
  simp? []
  refine ok_require_free_row hn h1 h2 ?_
  simp? []
  exact ok_opposite_in (fun e => by rw [e] at h1; simp at h1) (by omega) q
section
variable {v : Nat} {rows : List (List Int)}
theorem ok_put_row {r : List Int} (L : Lot v rows) (h : rows.length < 100) (hr : r.length = v + 1) (hn : Near r) (q : Q (.val (lotD v (rows ++ [r]))) Γ) : f_put_row E [lotD v rows, iD r] Γ Q := by
  have := L.v24
  unfold f_put_row r_put_row
  simp? []
  refine ok_require_lot L.dats L.is ?_
  simp? []
  unfold f_require_row r_require_row
  simp? [atI_0]
  refine ok_is_near_row (dats_iD (by omega)) ?_
  simp? [isRow_iD (show (r.length : Int) = v + 1 by omega) hn, atI_1, c_MOST_ROWS]
  refine pEq_int ?_
  simp? [decide_eq_false (show ¬ ((rows.length : Nat) : Int) = 100 by omega), atI_0, atI_1]
  rw [rows_snoc]
  exact ⟨size_le (by rw [List.length_map, List.length_append, List.length_singleton]; omega), q⟩
/-! ### places turned -/
abbrev oD (o : List Nat) : D := .tup (o.map fun k : Nat => D.int k)
theorem getD_at {r : List Int} {k : Nat} (h : k < r.length) : atI (r.map D.int) (k : Int) = some (.int (r.getD k 0)) := by
  rw [atI_nat (by rw [List.length_map]; exact h), List.getElem_map, List.getD_eq_getElem?_getD, List.getElem?_eq_getElem h]
  rfl
theorem ok_turned_row {r : List Int} {o : List Nat} (ho : ∀ k ∈ o, k < v) (hr : r.length = v + 1) (hl : o.length ≤ 5000) (q : Q (.val (iD (turnZ o r))) Γ) : f_turned_row E [iD r, oD o] Γ Q := by
  have hne : r ≠ [] := fun e => by rw [e] at hr; cases hr
  unfold f_turned_row r_turned_row
  simp? []
  refine ⟨(fun i hi => by (try simp at hi); first | (subst hi; rfl) | (rcases hi with hi | hi <;> (subst hi; rfl))), lc_mapA (fun k : Nat => .int k) (fun k => .int (r.getD k 0)) (by simp [wipeS_len]) rfl (size_le (by omega)) (fun k hk R hR => ?_) ?_⟩
  · have := ho k hk
    simp? [getD_at (r := r) (k := k) (by omega)]
    exact hR
  · simp? [at_last hne]
    have e : (o.map fun k => D.int (r.getD k 0)) ++ [D.int (lastZ r)] = (turnZ o r).map D.int := by unfold turnZ; rw [List.map_append, List.map_map]; rfl
    rw [e]
    exact ⟨size_le (by rw [List.length_map, turn_len]; omega), q⟩
theorem range_sorted (v : Nat) : ((List.range v).map fun k : Nat => (k : Int)).Pairwise (· ≤ ·) := by
  rw [List.pairwise_map]
  exact (List.pairwise_lt_range).imp fun h => by omega
theorem ok_is_sequence_of {o : List Nat} (hv : v ≤ 24) (ho : o.Perm (List.range v)) (q : Q (.val (.bl true)) Γ) : f_is_sequence_of E [.int v, oD o] Γ Q := by
  have hl : o.length = v := by rw [ho.length_eq, List.length_range]
  unfold f_is_sequence_of r_is_sequence_of
  simp? [isi_tup (show dat (oD o) = true from rfl), isTup]
  refine pNe_int ?_
  simp? [decide_eq_true (show ((o.length : Nat) : Int) = v by omega)]
  refine ⟨(fun i hi => by (try simp at hi); first | (subst hi; rfl) | (rcases hi with hi | hi <;> (subst hi; rfl))), lc_mapA (fun k : Nat => .int k) (fun _ => .bl true) (by simp [wipeS_len]) rfl (size_le (by omega)) (fun k hk R hR => ?_) (pAll_map (f := fun _ => true) ?_)⟩
  · simp? []
    exact ok_is_whole rfl hR
  · simp? [show (o.all fun _ => true) = true from by simp]
    refine ⟨_, ints_map (fun k : Nat => (k : Int)) o, ?_⟩
    simp? []
    refine ⟨⟨by omega, by omega⟩, ?_⟩
    have e : sortI (o.map fun k : Nat => (k : Int)) = (List.range v).map fun k : Nat => (k : Int) := sorted_eq ((sortI_perm _).trans (ho.map _)) (sortI_sorted _) (range_sorted v)
    have e2 : rangeD 0 v = ((List.range v).map fun k : Nat => (k : Int)).map D.int := by
      unfold rangeD
      rw [List.map_map]
      apply List.map_congr_left
      intro k _
      simp
    rw [e, Int.toNat_natCast, e2]
    refine pEq_self (Pn.ok (Pn.lst (Pn.ints fun k hk => ?_)) (by omega)) q
    obtain ⟨j, hj, rfl⟩ := List.mem_map.mp hk
    have := List.mem_range.mp hj
    omega
theorem perm_lt {o : List Nat} (ho : o.Perm (List.range v)) : ∀ k ∈ o, k < v := fun k hk => List.mem_range.mp (ho.mem_iff.mp hk)
theorem ok_turned_lot {o : List Nat} (L : Lot v rows) (ho : o.Perm (List.range v)) (q : Q (.val (lotD v (rows.map (turnZ o)))) Γ) : f_turned_lot E [lotD v rows, oD o] Γ Q := by
  have hl : o.length = v := by rw [ho.length_eq, List.length_range]
  have := L.v24
  unfold f_turned_lot r_turned_lot
  simp? []
  refine ok_require_lot L.dats L.is ?_
  simp? [atI_0]
  refine ok_is_sequence_of L.v24 ho ?_
  simp? [atI_0, atI_1]
  refine ⟨(fun i hi => by (try simp at hi); first | (subst hi; rfl) | (rcases hi with hi | hi <;> (subst hi; rfl))), lc_mapA iD (fun r => iD (turnZ o r)) (by simp [wipeS_len]) rfl (size_le (by have := L.many; omega)) (fun r hr R hR => ?_) ?_⟩
  · simp? []
    refine ok_turned_row (v := v) (perm_lt ho) (L.len r hr) (by omega) ?_
    simp? []
    exact hR
  · simp? []
    have e : (rows.map fun r => iD (turnZ o r)) = (rows.map (turnZ o)).map iD := by rw [List.map_map]; rfl
    rw [e]
    exact q
end
end K05

set_option Elab.async false
set_option linter.all false
set_option maxRecDepth 100000
set_option exponentiation.threshold 3000
namespace K05
open PySem PySem.Spec L2 DL
variable {E : Ex → Gam → Prop} {Γ : Gam} {Q : R → Gam → Prop}
theorem rep0 (n : Nat) : (List.replicate n [D.int 0]).flatten = (List.replicate n (0 : Int)).map D.int := by
  induction n with
  | zero => rfl
  | succ k ih => rw [List.replicate_succ, List.flatten_cons, ih]; rfl
theorem bools_true : ∀ {ds : List D}, (∀ d ∈ ds, d = .bl true) → bools ds = some (List.replicate ds.length true)
  | [], _ => rfl
  | d :: ds, h => by
    have e := h d List.mem_cons_self
    subst e
    show (bools ds).map (true :: ·) = _
    rw [bools_true fun z hz => h z (List.mem_cons_of_mem _ hz)]
    rfl
theorem pAll_true {s : DSt} {Q : D → Prop} {ds : List D} (h : ∀ d ∈ ds, d = .bl true) (q : Q (.bl true)) : pAll s (.lst ds) Q := ⟨_, bools_true h, by rw [show (List.replicate ds.length true).all id = true from by simp]; exact q⟩
theorem ok_led_row {n : Nat} {r : List Int} {M : List (List Int)} {w : Int} (hw : w = n + 1) (hr : Sm r) (hM : ∀ m ∈ M, Sm m) (hM2 : ∀ m ∈ M, m.length = n + 1) (hne : r ≠ []) (hl : r.length ≤ 5000) (hn : n ≤ 24) (q : Q (.val (iD (ledZ n r M))) Γ) : f_led_row E [iD r, rD M, .int w] Γ Q := by
  subst hw
  unfold f_led_row r_led_row
  simp? [at_last hne]
  have e : ((n : Int) + 1 - 1).toNat = n := by omega
  refine ⟨by omega, by omega, size_le (by omega), ?_⟩
  rw [e, rep0]
  have e2 : (List.replicate n (0 : Int)).map D.int ++ [D.int (lastZ r)] = (start n (lastZ r)).map D.int := by unfold start; rw [List.map_append]; rfl
  rw [e2]
  refine ⟨size_le (by simp; omega), ?_⟩
  simp? [zip_eq, zip_maps]
  refine for_ind (fun rest s => ∃ (pre suf : List (Int × List Int)) (x y : Sl), r.zip M = pre ++ suf ∧ rest = suf.map (fun q => D.tup [.int q.1, iD q.2]) ∧ (ledF pre (start n (lastZ r))).length = n + 1 ∧
      s = ⟨[.val (iD r), .val (rD M), .val (.int (n + 1)), .val (.lst ((ledF pre (start n (lastZ r))).map .int)), x, y, .emp, .emp], Γ⟩) ⟨[], r.zip M, _, _, rfl, rfl, start_len _ _, rfl⟩ ?_ ?_
  · rintro s ⟨pre, suf, x, y, e0, e1, _, rfl⟩
    cases suf with
    | cons a l => cases e1
    | nil =>
      rw [List.append_nil] at e0
      subst e0
      simp? []
      exact q
  · rintro x rest s - ⟨pre, suf, x1, y1, e0, e1, hlen, rfl⟩ R hR
    cases suf with
    | nil => cases e1
    | cons a l =>
      rw [List.map_cons] at e1
      obtain ⟨rfl, e2⟩ := List.cons.inj e1
      have ha : a ∈ r.zip M := by rw [e0]; simp
      obtain ⟨a1, a2⟩ := List.of_mem_zip (a := a.1) (b := a.2) ha
      simp? [zip_eq, zip_maps]
      refine ⟨(fun i hi => by (try simp at hi); first | (subst hi; rfl) | (rcases hi with hi | hi <;> (subst hi; rfl))), lc_mapA2 (fun q => .int q.1) (fun q => .int q.2) (fun q => .int (q.1 + a.1 * q.2)) (by simp [wipeS_len]) (by simp [wipeS_len]) rfl rfl (size_le (Nat.le_trans zip_len (by omega))) (fun q hq R hR => ?_) ?_⟩
      · simp? []
        exact ⟨mulw (hr _ a1) (hM _ a2 _ (zip_mem hq).2), hR⟩
      · have hst : (lstep (ledF pre (start n (lastZ r))) a).length = n + 1 := by
          unfold lstep
          rw [List.length_map, List.length_zip, hlen, hM2 _ a2]
          exact Nat.min_self _
        have es : ledF (pre ++ [a]) (start n (lastZ r)) = lstep (ledF pre (start n (lastZ r))) a := by
          unfold ledF
          rw [List.foldl_append]
          rfl
        simp? []
        refine hR _ ⟨pre ++ [a], l, .val (.int a.1), .val (iD a.2), by rw [e0]; simp, e2, by rw [es]; exact hst, ?_⟩
        rw [es]
        unfold lstep
        rw [List.map_map]
        rfl
structure Mat (v n : Nat) (M : List (List Int)) : Prop where
  many : M.length = v
  n24 : n ≤ 24
  len : ∀ m ∈ M, m.length = n + 1
  sm : ∀ m ∈ M, ∀ x ∈ m, -1000000 ≤ x ∧ x ≤ 1000000
  nil : M = [] → n = 0
section
variable {v n : Nat} {rows M : List (List Int)}
theorem Mat.small (hM : Mat v n M) : ∀ m ∈ M, Sm m := fun m hm x hx => by
  have := hM.sm m hm x hx
  omega
theorem row_ne (L : Lot v rows) {r : List Int} (hr : r ∈ rows) : r ≠ [] := fun e => by
  have := L.len r hr
  rw [e] at this
  cases this
theorem ok_led_in (L : Lot v rows) (hM : Mat v n M) (q : Q (.val (lotD n (rows.map fun r => ledZ n r M))) Γ) : f_led_in E [lotD v rows, rD M] Γ Q := by
  have h24 := L.v24
  have hmany := L.many
  have n24 := hM.n24
  have fin : ∀ w : Int, w = n + 1 → (∀ i ∈ [3], (([Sl.val (lotD v rows), Sl.val (rD M), Sl.val (.int w), Sl.emp] : List Sl).getD i .emp).isOwn = false) ∧
      lcD (.one 3) dYes (dFn f_led_row [] (dLen 3 (dCons (dVar 3) (dCons (dVar 1) (dCons (dVar 2) (dNil)))))) [3] (rows.map iD) [] ⟨[.val (lotD v rows), .val (rD M), .val (.int w), .emp], Γ⟩ fun ds s => Q (.val (.tup [.int (w - 1), .tup ds])) s.Γ := fun w hw => by
    refine ⟨(fun i hi => by (try simp at hi); first | (subst hi; rfl) | (rcases hi with hi | hi <;> (subst hi; rfl))), lc_mapA iD (fun r => iD (ledZ n r M)) (by simp [wipeS_len]) rfl (size_le (by omega)) (fun r hr R hR => ?_) ?_⟩
    · simp? []
      refine ok_led_row hw (L.near r hr).sm hM.small hM.len (row_ne L hr) (by have := L.len r hr; omega) n24 ?_
      simp? []
      exact hR
    · have e : w - 1 = n := by omega
      have e2 : (rows.map fun r => iD (ledZ n r M)) = (rows.map fun r => ledZ n r M).map iD := by rw [List.map_map]; rfl
      rw [e, e2]
      exact q
  unfold f_led_in r_led_in
  cases hMM : M with
  | nil =>
    have hn := hM.nil hMM
    simp? []
    refine pNe_nilT ?_
    simp? [List.isEmpty_nil, atI_1]
    have := fin 1 (by omega)
    rw [hMM] at this
    revert this
    simp? []
    exact id
  | cons m0 ms =>
    have hl : m0.length = n + 1 := hM.len m0 (by rw [hMM]; simp)
    simp? []
    refine pNe_nilT ?_
    simp? [List.isEmpty_cons, atI_1, atI_0]
    have := fin (m0.length : Nat) (by omega)
    rw [hMM] at this
    revert this
    simp? []
    exact id
theorem ok_is_matrix (L : Lot v rows) (hM : Mat v n M) (q : Q (.val (.bl true)) Γ) : f_is_matrix E [lotD v rows, rD M] Γ Q := by
  have h24 := L.v24
  have hmm := hM.many
  have n24 := hM.n24
  unfold f_is_matrix r_is_matrix
  simp? [isi_tup (show dat (rD M) = true from rfl), isTup, atI_0]
  refine pNe_int ?_
  simp? [decide_eq_true (show ((M.length : Nat) : Int) = v by omega)]
  refine ⟨(fun i hi => by (try simp at hi); first | (subst hi; rfl) | (rcases hi with hi | hi <;> (subst hi; rfl))), lc_mapA iD (fun _ => .bl true) (by simp [wipeS_len]) rfl (size_le (by omega)) (fun m hm R hR => ?_) (pAll_map (f := fun _ => true) ?_)⟩
  · have := hM.len m hm
    simp? [isi_tup (show dat (iD m) = true from rfl), isTup, c_MOST_PLACES, decide_eq_true (show (1 : Int) ≤ (m.length : Nat) by omega), decide_eq_true (show ((m.length : Nat) : Int) ≤ 24 + 1 by omega)]
    exact hR
  simp? [show (M.all fun _ => true) = true from by simp]
  refine ⟨(fun i hi => by (try simp at hi); first | (subst hi; rfl) | (rcases hi with hi | hi <;> (subst hi; rfl))), lc_mapA iD (fun _ => .bl true) (by simp [wipeS_len]) rfl (size_le (by omega)) (fun m hm R hR => ?_) (pAll_map (f := fun _ => true) ?_)⟩
  · have h1 := hM.len m hm
    cases hMM : M with
    | nil => rw [hMM] at hm; cases hm
    | cons m0 ms =>
      have h2 := hM.len m0 (by rw [hMM]; simp)
      simp? [atI_0]
      refine pEq_int ?_
      rw [decide_eq_true (show ((m.length : Nat) : Int) = (m0.length : Nat) by omega)]
      rw [hMM] at hR
      exact hR
  simp? [show (M.all fun _ => true) = true from by simp]
  refine ⟨(fun i hi => by (try simp at hi); first | (subst hi; rfl) | (rcases hi with hi | hi <;> (subst hi; rfl))), lc2_acc iD (fun m => m) .int (fun _ _ => .bl true) (by simp [wipeS_len]) (by simp [wipeS_len]) (by decide) rfl rfl ?_ (fun m hm R hR => ?_) (fun m hm x hx R hR => ?_) (pAll_true ?_ q)⟩
  · have : (M.flatMap fun m => m).length ≤ 25 * M.length := by
      clear hmm q
      have hl := hM.len
      revert hl
      generalize M = N
      intro hl
      induction N with
      | nil => simp
      | cons a l ih =>
        rw [List.flatMap_cons, List.length_append, List.length_cons]
        have h1 := hl a List.mem_cons_self
        have := ih fun z hz => hl z (List.mem_cons_of_mem _ hz)
        omega
    exact size_le (by simp only [List.length_nil]; omega)
  · simp? []
    exact hR
  · have := hM.sm m hm x hx
    simp? []
    refine ok_is_whole rfl ?_
    have e : decide ((if x < 0 then -x else x) ≤ 1000000) = true := decide_eq_true (by split <;> omega)
    simp? [isInt, c_MOST_LED, e]
    exact hR
  · intro d hd
    simp only [List.nil_append, List.mem_flatMap, List.mem_map] at hd
    obtain ⟨_, _, _, _, rfl⟩ := hd
    rfl
theorem ok_led_lot (L : Lot v rows) (hM : Mat v n M) (hn : ∀ r ∈ rows, Near (ledZ n r M)) (q : Q (.val (lotD n (rows.map fun r => ledZ n r M))) Γ) : f_led_lot E [lotD v rows, rD M] Γ Q := by
  have hmany := L.many
  have n24 := hM.n24
  unfold f_led_lot r_led_lot
  simp? []
  refine ok_require_lot L.dats L.is ?_
  simp? []
  refine ok_is_matrix L hM ?_
  simp? []
  refine ok_led_in L hM ?_
  simp? [atI_1]
  refine ⟨(fun i hi => by (try simp at hi); first | (subst hi; rfl) | (rcases hi with hi | hi <;> (subst hi; rfl))), lc2_acc iD (fun m => m) .int (fun _ _ => .bl true) (by simp [wipeS_len]) (by simp [wipeS_len]) (by decide) rfl rfl ?_ (fun m hm R hR => ?_) (fun m hm x hx R hR => ?_) (pAll_true ?_ ?_)⟩
  · have : ((rows.map fun r => ledZ n r M).flatMap fun m => m).length ≤ 25 * rows.length := by
      have hl : ∀ r ∈ rows, (ledZ n r M).length ≤ 25 := fun r _ => by rw [led_len hM.len]; omega
      clear q hn hmany L
      induction rows with
      | nil => simp
      | cons a l ih =>
        rw [List.map_cons, List.flatMap_cons, List.length_append, List.length_cons]
        have h1 := hl a List.mem_cons_self
        have := ih fun z hz => hl z (List.mem_cons_of_mem _ hz)
        omega
    exact size_le (by simp only [List.length_nil]; omega)
  · simp? []
    exact hR
  · obtain ⟨r, hr, rfl⟩ := List.mem_map.mp hm
    have := hn r hr x hx
    simp? []
    refine ok_is_near rfl ?_
    rw [show isNear (.int x) = true from by show (decide (-FARZ < x) && decide (x < FARZ)) = true; rw [decide_eq_true this.1, decide_eq_true this.2]; rfl]
    exact hR
  · intro d hd
    simp only [List.nil_append, List.mem_flatMap, List.mem_map] at hd
    obtain ⟨_, _, _, _, rfl⟩ := hd
    rfl
  · simp? []
    exact q
end
end K05

set_option Elab.async false
set_option linter.all false
set_option maxRecDepth 100000
set_option exponentiation.threshold 3000
namespace K05
open PySem PySem.Spec L2 DL
variable {E : Ex → Gam → Prop} {Γ : Gam} {Q : R → Gam → Prop}
/-! ### drawn sequences -/
theorem ok_shuffled {a : Addr} {n : Nat} {items : List Nat} (hl : items.length ≤ 30) (d : Dice Γ a n) (hn : n ≤ 10 ^ 16) (q : ∀ (o : List Nat) Γ', o.Perm items → Dice Γ' a (n + 30) → Q (.lst (o.map fun k : Nat => .int k)) Γ') : f__law_shuffled E [.ref a, .lst (items.map fun k : Nat => .int k)] Γ Q := by
  unfold f__law_shuffled r__law_shuffled
  simp? []
  refine ⟨⟨by omega, by omega⟩, ?_⟩
  refine for_ind (fun rest s => ∃ (l f : List Nat) (x : Sl) (Γ' : Gam), (f ++ l).Perm items ∧ rest.length = l.length ∧ s = ⟨[.val (.ref a), .val (.lst (items.map fun k : Nat => .int k)), .lst (l.map fun k : Nat => .int k), .lst (f.map fun k : Nat => .int k), x], Γ'⟩ ∧ Dice Γ' a (n + f.length))
    ⟨items, [], _, Γ, .refl _, by rw [rangeD_len, Int.toNat_natCast], rfl, d⟩ ?_ ?_
  · rintro s ⟨l, f, x, Γ', hp, e, rfl, d'⟩
    have : l = [] := List.length_eq_zero_iff.mp e.symm
    subst this
    rw [List.append_nil] at hp
    simp? []
    exact q f Γ' hp (d'.mono (by rw [hp.length_eq]; omega))
  · rintro x rest s - ⟨l, f, x', Γ', hp, e, rfl, d'⟩ R hR
    simp only [List.length_cons] at e
    have hlen := hp.length_eq
    rw [List.length_append] at hlen
    simp? [dPop]
    refine ok_roll d' (by omega) (by omega) (by omega) fun c Γ5 c0 c1 d5 => ?_
    obtain ⟨c, rfl⟩ : ∃ j : Nat, c = j := ⟨c.toNat, by omega⟩
    have hc : c < l.length := by omega
    simp? []

    refine ⟨⟨by omega, by omega⟩, c, ixN_nat hc, D.int (l[c] : Nat), by rw [List.getElem?_map, List.getElem?_eq_getElem hc]; rfl, Nat.lt_of_lt_of_le (show f.length < 10000 by omega) (size_le (Nat.le_refl _)), hR _ ⟨l.eraseIdx c, f ++ [l[c]], .val x, Γ5, ?_, ?_, ?_, ?_⟩⟩
    · refine .trans ?_ hp
      rw [List.append_assoc]
      exact .append_left _ (erase_perm l c hc)
    · rw [List.length_eraseIdx, if_pos hc]
      omega
    · rw [map_erase, List.map_append]
      rfl
    · rw [List.length_append, List.length_singleton]
      exact d5
/-! ### divisors -/
theorem ok_divisor {x y : Int} (q : Q (.val (.int (gcdZ x y))) Γ) : f__law_divisor E [.int x, .int y] Γ Q := by
  unfold f__law_divisor r__law_divisor
  simp? []
  rw [abs_eq, abs_eq]
  have main : ∀ (k a b : Nat), b < k → Nat.gcd a b = Int.gcd x y → whileD (dTst (dOp (pI (fun _ _ => True) fun i j => .bl (decide (j < i))) (dPeek 1) (dC (.int 0)))) (sParVV 0 1 (dVar 1) (dOp (pI (fun _ j => 0 < j) fun i j => .int (i % j)) (dCall (p1 pInt) (dCons (dPeek 0) (dNil))) (dPeek 1)))
      (fun x s => E x s.Γ) { nx := fun s => sRet (dVar 0) (fun x s => E x s.Γ) { nx := fun s => Q (.val .non) s.Γ, rt := Q } s, rt := Q } k ⟨[.val (.int (a : Nat)), .val (.int (b : Nat))], Γ⟩ := by
    intro k
    induction k with
    | zero => intro a b h; omega
    | succ k ih =>
      intro a b h e
      unfold whileD
      simp? []
      by_cases hb : b = 0
      · subst hb
        simp? [decide_eq_false (show ¬ (0 : Int) < ((0 : Nat) : Int) by omega)]
        rw [Nat.gcd_zero_right] at e
        rw [e]
        exact q
      · simp? [decide_eq_true (show (0 : Int) < ((b : Nat) : Int) by omega)]
        refine ⟨by omega, ?_⟩
        rw [← Int.natCast_emod]
        refine ih b (a % b) (by have := Nat.mod_lt a (show b > 0 by omega); omega) ?_
        rw [← e, Nat.gcd_comm a b, Nat.gcd_rec b a, Nat.gcd_comm]
  exact ⟨_, main (y.natAbs + 1) x.natAbs y.natAbs (by omega) rfl⟩
theorem ok_shared {r : List Int} (hl : r.length ≤ 5000) (q : Q (.val (.int (sharedZ r.dropLast))) Γ) : f__law_shared E [.lst (r.map .int)] Γ Q := by
  unfold f__law_shared r__law_shared
  simp? [cut_init]
  rw [← List.map_dropLast]
  refine for_ind (fun rest s => ∃ (pre suf : List Int) (x : Sl), r.dropLast = pre ++ suf ∧ rest = suf.map .int ∧ s = ⟨[.val (.lst (r.map .int)), .val (.int (sharedZ pre)), x], Γ⟩) ⟨[], _, _, rfl, rfl, rfl⟩ ?_ ?_
  · rintro s ⟨pre, suf, x, e0, e1, rfl⟩
    cases suf with
    | cons a l => cases e1
    | nil =>
      rw [List.append_nil] at e0
      rw [e0] at q
      simp? []
      exact q
  · rintro x rest s - ⟨pre, suf, x', e0, e1, rfl⟩ R hR
    cases suf with
    | nil => cases e1
    | cons y l =>
      obtain ⟨rfl, e2⟩ := List.cons.inj e1
      simp? []
      refine ok_divisor ?_
      simp? []
      refine hR _ ⟨pre ++ [y], l, .val (.int y), by rw [e0]; simp, e2, ?_⟩
      unfold sharedZ
      rw [List.foldl_append]
      rfl
/-! ### what keeps a lot -/
section
variable {v n : Nat} {rows M : List (List Int)}
theorem keeps_empty (rows : List (List Int)) (p : List Int) : ((rows.filter fun r => decide (lastZ r + dot r p < 0)).map iD).isEmpty = keeps rows p := by
  unfold keeps
  induction rows with
  | nil => rfl
  | cons r rs ih =>
    rw [List.filter_cons, List.all_cons]
    by_cases h : lastZ r + dot r p < 0
    · rw [if_pos (decide_eq_true h), decide_eq_false (by omega)]
      rfl
    · rw [if_neg (by simpa using h), decide_eq_true (by omega), Bool.true_and]
      exact ih
theorem ok_law_keeps {p : List Int} (L : Lot v rows) (hp : Sm p) (q : Q (.val (.bl (keeps rows p))) Γ) : f__law_keeps E [lotD v rows, iD p] Γ Q := by
  have hm := L.many
  have h24 := L.v24
  unfold f__law_keeps r__law_keeps
  simp? [atI_1]
  refine ⟨(fun i hi => by (try simp at hi); first | (subst hi; rfl) | (rcases hi with hi | hi <;> (subst hi; rfl))), lc_filtA iD iD (fun r => decide (lastZ r + dot r p < 0)) (by simp [wipeS_len]) rfl (by rw [sizeLine_eq]; simp; omega) (fun r hr R hR => ?_) (fun r hr _ R hR => ?_) ?_⟩
  · simp? []
    refine ok__law_row_at (L.near r hr).sm hp (by have := L.len r hr; omega) (row_ne L hr) ?_
    simp? []
    exact hR
  · simp? []
    exact hR
  · rw [List.nil_append]
    refine pEq_nil ?_
    rw [keeps_empty]
    exact q
theorem ok_law_opposite_row {r : List Int} (hne : r ≠ []) (hl : r.length ≤ 5000) (q : Q (.val (iD (oppZ r))) Γ) : f__law_opposite_row E [iD r] Γ Q := by
  unfold f__law_opposite_row r__law_opposite_row
  simp? [cut_init, at_last hne]
  rw [← List.map_dropLast]
  refine ⟨(fun i hi => by (try simp at hi); first | (subst hi; rfl) | (rcases hi with hi | hi <;> (subst hi; rfl))), lc_mapA .int (fun x => .int (0 - x)) (by simp [wipeS_len]) rfl (size_le (by rw [List.length_dropLast]; omega)) (fun x hx R hR => ?_) ?_⟩
  · simp? []
    exact hR
  · simp? [at_last hne]
    have e : (r.dropLast.map fun x => D.int (0 - x)) ++ [D.int (0 - lastZ r - 1)] = (oppZ r).map D.int := by
      unfold oppZ
      rw [List.map_append, List.map_map]
      congr 1
      · apply List.map_congr_left
        intro x _
        show D.int (0 - x) = D.int (-x)
        rw [Int.zero_sub]
      · rw [Int.zero_sub]
        rfl
    rw [e]
    exact ⟨size_le (by rw [List.length_dropLast]; omega), q⟩
/-! ### the points of a box -/
theorem ok_box {v : Nat} (hv : v ≤ 3) (q : ∀ ps : List (List Int), ps.length ≤ 343 → (∀ p ∈ ps, p.length = v ∧ ∀ x ∈ p, -3 ≤ x ∧ x ≤ 3) → Q (.val (.lst (ps.map iD))) Γ) : f__law_rw_box E [.int v, .int 3] Γ Q := by
  unfold f__law_rw_box r__law_rw_box
  simp? []
  refine ⟨⟨by omega, by omega⟩, ?_⟩
  refine for_ind (fun rest s => ∃ (ps : List (List Int)) (k : Nat) (x y z : Sl), k + rest.length = v ∧ ps.length ≤ 7 ^ k ∧ (∀ p ∈ ps, p.length = k ∧ ∀ x ∈ p, -3 ≤ x ∧ x ≤ 3) ∧ s = ⟨[.val (.int v), .val (.int 3), .val (.lst (ps.map iD)), x, y, z, .emp], Γ⟩)
    ⟨[[]], 0, _, _, _, by rw [rangeD_len]; omega, by simp, by simp, rfl⟩ ?_ ?_
  · rintro s ⟨ps, k, x, y, z, hk, hl, hp, rfl⟩
    simp only [List.length_nil, Nat.add_zero] at hk
    subst hk
    simp? []
    exact q ps (Nat.le_trans hl (Nat.pow_le_pow_right (by omega) hv)) hp
  · rintro x rest s - ⟨ps, k, x', y', z', hk, hl, hp, rfl⟩ R hR
    simp only [List.length_cons] at hk
    simp? []
    have h7 : (7 : Nat) ^ (k + 1) ≤ 343 := Nat.le_trans (Nat.pow_le_pow_right (by omega) (show k + 1 ≤ 3 by omega)) (by decide)
    have h7' : (7 : Nat) ^ (k + 1) = 7 * 7 ^ k := by rw [Nat.pow_succ]; omega
    refine for_ind (fun rest s => ∃ (todo done : List (List Int)) (z : Sl), rest = todo.map iD ∧ (∀ p ∈ todo, p.length = k ∧ ∀ x ∈ p, -3 ≤ x ∧ x ≤ 3) ∧ done.length + 7 * todo.length ≤ 7 ^ (k + 1) ∧ (∀ p ∈ done, p.length = k + 1 ∧ ∀ x ∈ p, -3 ≤ x ∧ x ≤ 3) ∧
      s = ⟨[.val (.int v), .val (.int 3), .val (.lst (ps.map iD)), .val x, .lst (done.map iD), z, .emp], Γ⟩) ⟨ps, [], _, rfl, hp, by simp; omega, by simp, rfl⟩ ?_ ?_
    · rintro s ⟨todo, done, z, e, -, hl', hd, rfl⟩
      simp? []
      exact hR _ ⟨done, k + 1, _, _, _, by omega, by omega, hd, rfl⟩
    · rintro w rest' s - ⟨todo, done, z, e, ht, hl', hd, rfl⟩ R' hR'
      cases todo with
      | nil => cases e
      | cons p todo =>
        obtain ⟨rfl, e2⟩ := List.cons.inj e
        have hpp := ht p List.mem_cons_self
        simp only [List.length_cons] at hl'
        have er : rangeD (0 - 3) (3 + 1 - (0 - 3) : Int).toNat = (List.range 7).map fun i : Nat => D.int (-3 + i) := rfl
        simp? []
        refine ⟨⟨by omega, by omega⟩, (fun i hi => by (try simp at hi); first | (subst hi; rfl) | (rcases hi with hi | hi <;> (subst hi; rfl))), ?_⟩
        rw [er]
        refine lc_mapA (fun i : Nat => .int (-3 + i)) (fun i => iD (p ++ [-3 + (i : Int)])) (by simp [wipeS_len]) rfl (size_le (by simp)) (fun i hi R hR => ?_) ?_
        · simp? []
          refine ⟨size_le (by omega), ?_⟩
          have e3 : p.map D.int ++ [D.int (-3 + i)] = (p ++ [-3 + (i : Int)]).map D.int := by simp
          rw [e3]
          exact hR
        · simp? []

          refine ⟨_, rfl, size_le (by simp; omega), hR' _ ⟨todo, done ++ (List.range 7).map (fun i : Nat => p ++ [-3 + (i : Int)]), .val (iD p), e2, fun z hz => ht z (List.mem_cons_of_mem _ hz), by simp; omega, ?_, ?_⟩⟩
          · intro z hz
            rcases List.mem_append.mp hz with hz | hz
            · exact hd z hz
            · obtain ⟨i, hi, rfl⟩ := List.mem_map.mp hz
              have := List.mem_range.mp hi
              refine ⟨by simp [hpp.1], fun y hy => ?_⟩
              rcases List.mem_append.mp hy with hy | hy
              · exact hpp.2 y hy
              · rw [List.mem_singleton.mp hy]
                omega
          · rw [List.map_append, List.map_map]
            rfl
end
end K05

set_option Elab.async false
set_option linter.all false
set_option maxRecDepth 100000
set_option exponentiation.threshold 3000
namespace K05
open PySem PySem.Spec L2 DL
variable {E : Ex → Gam → Prop} {Γ : Gam} {Q : R → Gam → Prop}
/-! ### lots whose rows are divided -/
def mulRow (g : Int) (r : List Int) : List Int := r.dropLast.map (· * g) ++ [lastZ r]
theorem cp9 : CPow 10 9 := ⟨by decide, by decide, by decide⟩
theorem cp6 : CPow 10 6 := ⟨by decide, by decide, by decide⟩
theorem p9 : (10 : Int) ^ (9 : Int).toNat = 1000000000 := by decide +kernel
theorem p6 : (10 : Int) ^ (6 : Int).toNat = 1000000 := by decide +kernel
section
variable {v n : Nat} {rows M : List (List Int)}
theorem mulRow_len {g : Int} {r : List Int} (hr : r.length = v + 1) : (mulRow g r).length = v + 1 := by
  unfold mulRow
  rw [List.length_append, List.length_map, List.length_dropLast, List.length_singleton]
  omega
theorem ok_dividing {a : Addr} {m : Nat} (L : LotS v rows) (d : Dice Γ a m) (hm : m ≤ 10 ^ 17) (q : ∀ g Γ', 1 ≤ g → g ≤ 1000000000 → Dice Γ' a (m + 1) → Q (.val (.tup [lotD v (rows.map (mulRow g)), .int g])) Γ') : f__law_dividing E [.ref a, lotD v rows] Γ Q := by
  have hv := L.v3
  have hf := L.few
  unfold f__law_dividing r__law_dividing
  simp? [p9, cp9]
  refine ok_pick d (by omega) (by simp) (by simp) fun x hx Γ1 d1 => ?_
  obtain ⟨g, rfl, g0, g1⟩ : ∃ g : Int, x = .int g ∧ 1 ≤ g ∧ g ≤ 1000000000 := by
    simp only [List.mem_cons, List.not_mem_nil, or_false] at hx
    rcases hx with h | h | h | h | h | h <;> exact ⟨_, h, by omega, by omega⟩
  simp? [atI_1]
  refine ⟨(fun i hi => by (try simp at hi); first | (subst hi; rfl) | (rcases hi with hi | hi <;> (subst hi; rfl))), lc_mapA iD (fun r => iD (mulRow g r)) (by simp [wipeS_len]) rfl (size_le (by omega)) (fun r hr R hR => ?_) ?_⟩
  · have hl := L.len r hr
    have hne : r ≠ [] := fun e => by rw [e] at hl; cases hl
    simp? [cut_init, at_last hne]
    rw [← List.map_dropLast]
    refine ⟨(fun i hi => by (try simp at hi); first | (subst hi; rfl) | (rcases hi with hi | hi <;> (subst hi; rfl))), lc_mapA .int (fun x => .int (x * g)) (by simp [wipeS_len]) rfl (size_le (by rw [List.length_dropLast]; omega)) (fun x hx R hR => ?_) ?_⟩
    · have := L.sm r hr x (by rw [List.dropLast_eq_take] at hx; exact List.mem_of_mem_take hx)
      simp? []
      exact ⟨mulw (by omega) (by omega), hR⟩
    · simp? [at_last hne]
      have e : (r.dropLast.map fun x => D.int (x * g)) ++ [D.int (lastZ r)] = (mulRow g r).map D.int := by
        unfold mulRow
        rw [List.map_append, List.map_map]
        rfl
      rw [e]
      exact ⟨size_le (by rw [List.length_dropLast]; omega), hR⟩
  · simp? [atI_0]
    have e : (rows.map fun r => iD (mulRow g r)) = (rows.map (mulRow g)).map iD := by rw [List.map_map]; rfl
    rw [e]
    exact q g Γ1 g0 g1 d1
theorem ok_small {a : Addr} {m : Nat} (d : Dice Γ a m) (hm : m ≤ 10 ^ 16) (q : ∀ v rows Γ', LotS v rows → rows ≠ [] → Dice Γ' a (m + 10000) → Q (.val (lotD v rows)) Γ') : f__law_small E [.ref a] Γ Q := by
  unfold f__law_small r__law_small
  simp? []
  refine ok_law_lot d hm fun v rows Γ1 L d1 => ?_
  simp? [atI_1]
  refine pNe_nilT ?_
  cases hrs : rows with
  | nil =>
    simp? [List.isEmpty_nil]
    refine q 1 [[2, -1], [-2, 1]] Γ1 ⟨by omega, by simp, by simp, ?_⟩ (by simp) d1
    intro r hr x hx
    simp only [List.mem_cons, List.not_mem_nil, or_false] at hr
    rcases hr with rfl | rfl <;> simp only [List.mem_cons, List.not_mem_nil, or_false] at hx <;> rcases hx with rfl | rfl <;> omega
  | cons r0 rs =>
    simp? [List.isEmpty_cons]
    rw [hrs] at L
    exact q v (r0 :: rs) Γ1 L (by simp) d1
/-! ### matrices -/
theorem rows_of {p : List Int → Prop} : ∀ {ys : List D}, (∀ y ∈ ys, ∃ k, y = iD k ∧ p k) → ∃ ks : List (List Int), ys = ks.map iD ∧ ∀ k ∈ ks, p k
  | [], _ => ⟨[], rfl, by simp⟩
  | y :: ys, h => by
    obtain ⟨k, rfl, hk⟩ := h y List.mem_cons_self
    obtain ⟨ks, rfl, hks⟩ := rows_of fun z hz => h z (List.mem_cons_of_mem _ hz)
    exact ⟨k :: ks, rfl, fun z hz => (List.mem_cons.mp hz).elim (fun e => e ▸ hk) (hks z)⟩
structure Mat0 (v n : Nat) (M : List (List Int)) : Prop where
  many : M.length = v
  len : ∀ m ∈ M, m.length = n + 1
  sm : ∀ m ∈ M, ∀ x ∈ m, -1000000 ≤ x ∧ x ≤ 1000000
theorem ok_law_matrix {a : Addr} {m : Nat} (hv : v ≤ 10) (hw : n ≤ 10) (d : Dice Γ a m) (hm : m ≤ 10 ^ 16) (q : ∀ M Γ', Mat0 v n M → Dice Γ' a (m + 300) → Q (.val (rD M)) Γ') : f__law_matrix E [.ref a, .int v, .int n] Γ Q := by
  unfold f__law_matrix r__law_matrix
  simp? [p6, cp6]
  refine ok_pick d (by omega) (by simp) (by simp) fun x hx Γ1 d1 => ?_
  obtain ⟨far, rfl, f0, f1⟩ : ∃ far : Int, x = .int far ∧ 0 ≤ far ∧ far ≤ 1000000 := by
    simp only [List.mem_cons, List.not_mem_nil, or_false] at hx
    rcases hx with h | h | h | h <;> exact ⟨_, h, by omega, by omega⟩
  simp? []
  refine ⟨⟨by omega, by omega⟩, (fun i hi => by (try simp at hi); first | (subst hi; rfl) | (rcases hi with hi | hi <;> (subst hi; rfl))), lc_dice 20 (fun y => ∃ k : List Int, y = iD k ∧ k.length = n + 1 ∧ ∀ x ∈ k, -1000000 ≤ x ∧ x ≤ 1000000) (by simp [wipeS_len]) rfl (by rw [rangeD_len]; omega) d1 (fun x hx Γ2 m2 hm2 d2 R hR => ?_) fun ys Γ3 hly hp d3 => ?_⟩
  · rw [rangeD_len] at hm2
    simp? []
    refine ⟨⟨by omega, by omega⟩, (fun i hi => by (try simp at hi); first | (subst hi; rfl) | (rcases hi with hi | hi <;> (subst hi; rfl))), lc_dice 1 (fun y => ∃ k : Int, y = .int k ∧ (-1000000 ≤ k ∧ k ≤ 1000000)) (by simp [wipeS_len]) rfl (by rw [rangeD_len]; omega) d2 (fun x hx Γ3 m3 hm3 d3 R hR => ?_) fun ys Γ3 hly hp d3 => ?_⟩
    · rw [rangeD_len] at hm3
      simp? []
      refine ⟨mulw (by omega) (by omega), ok_far d3 (by omega) f0 (by omega) rfl fun k Γ2 k0 k1 d2 => ?_⟩
      simp? []
      exact hR _ _ ⟨_, rfl, by omega, by omega⟩ d2
    · rw [rangeD_len] at hly d3
      obtain ⟨p, rfl, hp'⟩ := ints_of hp
      rw [List.length_map] at hly
      simp? []
      exact hR _ _ ⟨p, rfl, by omega, hp'⟩ (d3.mono (by omega))
  · rw [rangeD_len] at hly d3
    obtain ⟨M, rfl, hM⟩ := rows_of hp
    rw [List.length_map] at hly
    simp? []
    exact q M Γ3 ⟨by omega, fun m hm => (hM m hm).1, fun m hm => (hM m hm).2⟩ (d3.mono (by omega))
/-! ### lots put together -/
theorem cols_at {r : List Int} {M : List (List Int)} {j : Nat} {w : Nat} (hM : ∀ m ∈ M, m.length = w) (hj : j < w) (hr : Sm r) (hM2 : ∀ m ∈ M, Sm m) (hl : r.length ≤ 5000) {te : DT} {i k : Nat} {ρ : List Sl} {Q : List D → DSt → Prop} (hi : i < ρ.length) (hk : k < ρ.length) (he : ρ[i]? = some .emp) (hf : ρ[k]? = some .emp)
    (h : ∀ (x : Int) (m : List Int), CMulW x (m.getD j 0) → atI (m.map D.int) (j : Int) = some (.int (m.getD j 0)) → ∀ R : D → DSt → Prop, R (.int (x * m.getD j 0)) ⟨(ρ.set i (.val (.int x))).set k (.val (iD m)), Γ⟩ → te noEx ⟨(ρ.set i (.val (.int x))).set k (.val (iD m)), Γ⟩ R)
    (q : Q ((r.zip M).map fun q => .int (q.1 * q.2.getD j 0)) ⟨ρ, Γ⟩) : lcD (.many [i, k]) dYes te [i, k] (zipD (r.map .int) (M.map iD)) [] ⟨ρ, Γ⟩ Q := by
  rw [zip_maps]
  refine lc_mapA2 (xs := r.zip M) (fun q : Int × List Int => .int q.1) (fun q => iD q.2) (fun q => .int (q.1 * q.2.getD j 0)) hi hk he hf (size_le (Nat.le_trans (Nat.le_of_eq List.length_zip) (by omega))) (fun q hq R hR => ?_) q
  obtain ⟨q1, q2⟩ := List.of_mem_zip (a := q.1) (b := q.2) hq
  have hlen := hM _ q2
  have hm : q.2.getD j 0 ∈ q.2 := by
    rw [List.getD_eq_getElem?_getD, List.getElem?_eq_getElem (by omega)]
    exact List.getElem_mem _
  exact h q.1 q.2 (mulw (hr _ q1) (hM2 _ q2 _ hm)) (getD_at (by omega)) R hR
theorem ok_put_together {x : D} (hr : ∀ r ∈ rows, Sm r ∧ r ≠ [] ∧ r.length ≤ 50) (hmany : rows.length ≤ 100) (hn : n ≤ 24) (hM : ∀ m ∈ M, m.length = n + 1) (hM2 : ∀ m ∈ M, Sm m) (q : Q (.val (lotD n (rows.map fun r => ledZ n r M))) Γ) : f__law_put_together E [.tup [x, rD rows], rD M, .int n] Γ Q := by
  unfold f__law_put_together r__law_put_together
  simp? [atI_1]
  refine for_ind (fun rest s => ∃ (pre suf : List (List Int)) (y z : Sl), rows = pre ++ suf ∧ rest = suf.map iD ∧ s = ⟨[.val (.tup [x, rD rows]), .val (rD M), .val (.int n), .lst (pre.map fun r => iD (ledZ n r M)), y, z, .emp, .emp, .emp], Γ⟩) ⟨[], rows, _, _, rfl, rfl, rfl⟩ ?_ ?_
  · rintro s ⟨pre, suf, y, z, e0, e1, rfl⟩
    cases suf with
    | cons a l => cases e1
    | nil =>
      rw [List.append_nil] at e0
      subst e0
      simp? []
      have e : (rows.map fun r => iD (ledZ n r M)) = (rows.map fun r => ledZ n r M).map iD := by rw [List.map_map]; rfl
      rw [e]
      exact q
  · rintro w rest s - ⟨pre, suf, y, z, e0, e1, rfl⟩ R hR
    cases suf with
    | nil => cases e1
    | cons r l =>
      obtain ⟨rfl, e2⟩ := List.cons.inj e1
      have hmem : r ∈ rows := by rw [e0]; simp
      obtain ⟨hs, hne, hlen⟩ := hr r hmem
      have hpre : pre.length < 100 := by
        have := congrArg List.length e0
        rw [List.length_append, List.length_cons] at this
        omega
      have er : rangeD 0 ((n : Int) + 1).toNat = (List.range (n + 1)).map fun j : Nat => D.int j := by
        rw [show ((n : Int) + 1).toNat = n + 1 by omega]
        unfold rangeD
        apply List.map_congr_left
        intro j _
        simp
      simp? []
      refine ⟨⟨by omega, by omega⟩, (fun i hi => by (try simp at hi); first | (subst hi; rfl) | (rcases hi with hi | hi <;> (subst hi; rfl))), ?_⟩
      rw [er]
      refine lc_mapA (fun j : Nat => .int j) (fun j => .int (colsum (r.zip M) j)) (by simp [wipeS_len]) rfl (size_le (by rw [List.length_range]; omega)) (fun j hj R hR => ?_) ?_
      · have hj := List.mem_range.mp hj
        simp? [zip_eq]
        refine ⟨(fun i hi => by (try simp at hi); first | (subst hi; rfl) | (rcases hi with hi | hi <;> (subst hi; rfl))), cols_at (j := j) hM hj hs hM2 (by omega) (by simp [wipeS_len]) (by simp [wipeS_len]) rfl rfl (fun x m c ha R hR => ?_) ?_⟩
        · simp? [ha]
          exact ⟨c, hR⟩
        · refine pSum_map ?_
          simp? []
          exact hR
      · have ec : ((List.range (n + 1)).map fun j => D.int (colsum (r.zip M) j)) = ((List.range (n + 1)).map fun j => colsum (r.zip M) j).map D.int := by rw [List.map_map]; rfl
        have hne2 : ((List.range (n + 1)).map fun j => colsum (r.zip M) j) ≠ [] := by
          rw [List.range_succ]
          simp
        rw [ec]
        simp? [cut_init, at_last hne2, at_last hne]
        have ed : ((List.range (n + 1)).map fun j => colsum (r.zip M) j) = ((List.range n).map fun j => colsum (r.zip M) j) ++ [colsum (r.zip M) n] := by rw [List.range_succ, List.map_append]; rfl
        rw [ed, last_snoc, List.map_append, List.map_singleton, List.dropLast_concat]
        have ef : ((List.range n).map fun j => colsum (r.zip M) j).map D.int ++ [D.int (colsum (r.zip M) n + lastZ r)] = (ledZ n r M).map D.int := by rw [led_cols hM, List.map_append]; rfl
        rw [ef]
        refine ⟨size_le (by simp; omega), Nat.lt_of_lt_of_le (show pre.length < 10000 by omega) (size_le (Nat.le_refl _)), hR _ ⟨pre ++ [r], l, .val (iD r), _, by rw [e0]; simp, e2, by rw [List.map_append]; rfl⟩⟩
end
end K05

set_option Elab.async false
set_option linter.all false
set_option maxRecDepth 100000
set_option exponentiation.threshold 3000
namespace K05
open PySem PySem.Spec L2 DL
variable {E : Ex → Gam → Prop} {Γ : Gam} {Q : R → Gam → Prop}
theorem near_abs {r : List Int} (h : Near r) : ∀ x ∈ r, x.natAbs ≤ 10 ^ 60 := fun x hx => by
  have := h x hx
  simp only [FARZ] at this
  omega
theorem last_bound {r : List Int} {A : Nat} (h : ∀ x ∈ r, x.natAbs ≤ A) : (lastZ r).natAbs ≤ A := by
  by_cases e : r = []
  · subst e
    show (0 : Int).natAbs ≤ A
    simp
  · exact h _ (last_mem e)
section
variable {v : Nat} {rows : List (List Int)} {ws : List (Nat × Int)}
abbrev totalOf (v : Nat) (rows : List (List Int)) (ws : List (Nat × Int)) : List Int := wsum rows ws (List.replicate (v + 1) 0)
theorem total_len (L : Lot v rows) (W : Wts rows.length ws) : (totalOf v rows ws).length = v + 1 := wsum_len L W.at_ (by simp)
theorem total_abs (L : Lot v rows) (W : Wts rows.length ws) : ∀ x ∈ totalOf v rows ws, x.natAbs ≤ 100 * (10 ^ 40 * 10 ^ 60) := fun x hx => by
  have h := wsum_bound (rows := rows) (W := 10 ^ 40) (F := 10 ^ 60) (fun r hr => near_abs (L.near r hr)) (ws := ws) (f := List.replicate (v + 1) 0) (c := 0) (fun a ha => ⟨W.at_ a ha, by have := W.pos a ha; omega⟩) (fun y hy => by rw [(List.mem_replicate.mp hy).2]; simp) x hx
  have h2 : ws.length * (10 ^ 40 * 10 ^ 60) ≤ 100 * (10 ^ 40 * 10 ^ 60) := Nat.mul_le_mul_right _ W.many
  omega
theorem total_sm (L : Lot v rows) (W : Wts rows.length ws) : Sm (totalOf v rows ws) := fun x hx => by
  have h := total_abs L W x hx
  have h5 : 100 * (10 ^ 40 * 10 ^ 60) < 2 ^ 600 := by decide
  omega
theorem total_worth (L : Lot v rows) (W : Wts rows.length ws) (p : List Int) : worth (totalOf v rows ws) p = (ws.map fun a => a.2 * worth (rows.getD a.1 []) p).sum := by
  rw [wsum_worth L p W.at_ (by simp), worth0, Int.zero_add]
theorem getD_mem {k : Nat} (h : k < rows.length) : rows.getD k [] ∈ rows := by
  rw [List.getD_eq_getElem?_getD, List.getElem?_eq_getElem h]
  exact List.getElem_mem h
theorem keeps_total (L : Lot v rows) (W : Wts rows.length ws) {p : List Int} (hk : keeps rows p = true) : 0 ≤ worth (totalOf v rows ws) p := by
  rw [total_worth L W]
  unfold keeps at hk
  rw [List.all_eq_true] at hk
  refine sum_nonneg fun x hx => ?_
  obtain ⟨b, hb, rfl⟩ := List.mem_map.mp hx
  have h1 := of_decide_eq_true (hk _ (getD_mem (W.at_ b hb)))
  have h2 := (W.pos b hb).1
  refine Int.mul_nonneg (by omega) ?_
  unfold worth
  omega
theorem ok_summedD {QD : D → DSt → Prop} {ρ : List Sl} (L : Lot v rows) (W : Wts rows.length ws) (q : QD (.lst ((totalOf v rows ws).map .int)) ⟨ρ, Γ⟩) : f__law_summed E [rD rows, wD ws] Γ (RD QD ρ) := ok__law_summed L W q q
theorem ok_cut_row {g : Int} (L : Lot v rows) (W : Wts rows.length ws) (hg : 1 ≤ g) (hg2 : g < FARZ) (hd : ∀ x ∈ (totalOf v rows ws).dropLast, g ∣ x) (q : Q (.val (iD (cutZ (totalOf v rows ws) g))) Γ) : f_cut_row E [lotD v rows, wD ws, .int g] Γ Q := by
  have hl := total_len L W
  have := L.v24
  unfold f_cut_row r_cut_row
  simp? []
  refine ok_require_lot L.dats L.is ?_
  simp? []
  refine ok_require_weights W ?_
  simp? []
  refine ok_require_number hg hg2 ?_
  simp? []
  refine ok_weighted_in L W ?_
  simp? []
  refine ok_does_divide (by omega) (by show (totalOf v rows ws).length ≤ 5000; omega) hd ?_
  simp? []
  exact ok_cut_by (by omega) hg2 (by show (totalOf v rows ws).length ≤ 5000; omega) q
theorem div_abs {x g : Int} (hg : 1 ≤ g) : (x / g).natAbs ≤ x.natAbs := by
  by_cases hx : 0 ≤ x
  · have h1 : 0 ≤ x / g := Int.ediv_nonneg hx (by omega)
    have h2 : x / g ≤ x := Int.ediv_le_self g hx
    omega
  · have h1 : x / g < 0 := Int.ediv_neg_of_neg_of_pos (by omega) (by omega)
    have h3 : x * g ≤ x * 1 := Int.mul_le_mul_of_nonpos_left (by omega) hg
    have h2 : x ≤ x / g := Int.le_ediv_of_mul_le (by omega) (by omega)
    omega
theorem cut_sm {r : List Int} {g : Int} (hr : Sm r) (hg : 1 ≤ g) : Sm (cutZ r g) := fun x hx => by
  unfold cutZ at hx
  obtain ⟨y, hy, rfl⟩ := List.mem_map.mp hx
  have h1 := hr y hy
  have h2 := div_abs (x := y) hg
  show (y / g).natAbs < _
  omega
theorem repr_iD {r : List Int} (h : Sm r) (hl : r.length ≤ 5000) : reprOk (iD r) := repr_tup (fun k hk => log_of (h k hk)) hl
theorem lc_cut {g : Int} {r : List Int} {te : DT} {i : Nat} {ρ : List Sl} {Q : List D → DSt → Prop} (hg : 1 ≤ g) (hg2 : g < FARZ) (hl : r.length ≤ 5000) (hi : i < ρ.length) (he : ρ[i]? = some .emp)
    (h : ∀ x : Int, CDivW x g → ∀ R : D → DSt → Prop, R (.int (x / g)) ⟨ρ.set i (.val (.int x)), Γ⟩ → te noEx ⟨ρ.set i (.val (.int x)), Γ⟩ R) (q : Q ((cutZ r g).map .int) ⟨ρ, Γ⟩) : lcD (.one i) dYes te [i] (r.map .int) [] ⟨ρ, Γ⟩ Q := by
  refine lc_mapA .int (fun x => .int (x / g)) hi he (size_le (by omega)) (fun x hx R hR => h x (divw (by omega) (by simp only [FARZ] at hg2; omega)) R hR) ?_
  have e : (r.map fun x => D.int (x / g)) = (cutZ r g).map D.int := by unfold cutZ; rw [List.map_map]; rfl
  rw [e]
  exact q
def gsOf (sh : Int) : List Int := (([1, 2, 3, 5, 7, 1000000000] : List Int).filter fun g => decide (sh % g = 0)) ++ (if 0 < sh ∧ sh < 1000000000000000000000000000000 then [sh] else [])
theorem gs_ok {sh g : Int} (h : g ∈ gsOf sh) : 1 ≤ g ∧ g < FARZ ∧ g ∣ sh := by
  unfold gsOf at h
  rcases List.mem_append.mp h with h | h
  · obtain ⟨h1, h2⟩ := List.mem_filter.mp h
    have h3 := of_decide_eq_true h2
    refine ⟨?_, ?_, Int.dvd_of_emod_eq_zero h3⟩
    · simp only [List.mem_cons, List.not_mem_nil, or_false] at h1
      omega
    · simp only [List.mem_cons, List.not_mem_nil, or_false] at h1
      simp only [FARZ]
      omega
  · split at h
    · rename_i hs
      rw [List.mem_singleton.mp h]
      exact ⟨by omega, by simp only [FARZ]; omega, Int.dvd_refl _⟩
    · cases h
theorem gs_len (sh : Int) : (gsOf sh).length ≤ 7 := by
  unfold gsOf
  rw [List.length_append]
  have h1 := List.length_filter_le (fun g => decide (sh % g = 0)) ([1, 2, 3, 5, 7, 1000000000] : List Int)
  have h2 : (if 0 < sh ∧ sh < 1000000000000000000000000000000 then [sh] else []).length ≤ 1 := by split <;> simp
  have h3 : ([1, 2, 3, 5, 7, 1000000000] : List Int).length = 6 := rfl
  omega
theorem ok_cuts_right {a : Addr} {m : Nat} (L : Lot v rows) (hne : rows ≠ []) (hfew : rows.length ≤ 30) (d : Dice Γ a m) (hm : m ≤ 10 ^ 15) (q : ∀ Γ', Dice Γ' a (m + 1000) → Q (.val (.bl true)) Γ') : f__law_cuts_right E [.ref a, lotD v rows] Γ Q := by
  have h24 := L.v24
  have hpos := List.length_pos_iff.mpr hne
  unfold f__law_cuts_right r__law_cuts_right
  simp? []
  refine ok_rw_weights hpos (by omega) d hm fun ws Γ1 W d1 => ?_
  have hlen := total_len L W
  have hsm := total_sm L W
  simp? []
  refine ok_summedD L W ?_
  simp? [p9, cp9, p30, cp30]
  refine ok_shared (by omega) ?_
  simp? []
  generalize hsh : sharedZ (totalOf v rows ws).dropLast = sh
  have hdv : ∀ x ∈ (totalOf v rows ws).dropLast, sh ∣ x := fun x hx => by
    rw [← hsh]
    exact shared_dvd _ x hx
  refine ⟨(fun i hi => by (try simp at hi); first | (subst hi; rfl) | (rcases hi with hi | hi <;> (subst hi; rfl))), ?_⟩
  refine lc_filtA (xs := ([1, 2, 3, 5, 7, 1000000000] : List Int)) .int .int (fun g => decide (sh % g = 0)) (by simp [wipeS_len]) rfl (size_le (by simp)) (fun g hg R hR => ?_) (fun g hg _ R hR => ?_) ?_
  · have : 0 < g := by
      simp only [List.mem_cons, List.not_mem_nil, or_false] at hg
      omega
    simp? []
    exact ⟨this, pEq_int ⟨_, rfl, hR⟩⟩
  · simp? []
    exact hR
  rw [List.nil_append]
  have fin : ∀ gs : List Int, gs = gsOf sh → (([1, 2, 3, 5, 7, 1000000000] : List Int).filter fun g => decide (sh % g = 0)).map D.int ++ (if 0 < sh ∧ sh < 1000000000000000000000000000000 then [D.int sh] else []) = gs.map D.int := fun gs e => by
    rw [e]
    unfold gsOf
    rw [List.map_append]
    split <;> rfl
  have hbox : ∀ {E' : Ex → Gam → Prop} {QQ : R → Gam → Prop}, (∀ ps : List (List Int), ps.length ≤ 343 → (∀ p ∈ ps, (v ≤ 3 → p.length = v) ∧ ∀ x ∈ p, -3 ≤ x ∧ x ≤ 3) → QQ (.val (.lst (ps.map iD))) Γ1) → f__law_rw_box E' [.int (if (3 : Int) < v then 3 else v), .int 3] Γ1 QQ := fun {E' QQ} h => by
    by_cases hv : v ≤ 3
    · rw [if_neg (by omega)]
      exact ok_box hv fun ps h1 h2 => h ps h1 fun p hp => ⟨fun _ => (h2 p hp).1, (h2 p hp).2⟩
    · rw [if_pos (by omega)]
      exact ok_box (v := 3) (by omega) fun ps h1 h2 => h ps h1 fun p hp => ⟨fun z => absurd z hv, (h2 p hp).2⟩
  have body : ∀ gs : List Int, gs = gsOf sh → forD (.one 8) (sSeq (sSet 9 (dFn f_cut_row [] (dLen 3 (dCons (dVar 1) (dCons (dVar 4) (dCons (dVar 8) (dNil))))))) (sSeq (sIf (dTst (dOp pNe (dCall (p1 pRepr) (dCons (dPeek 9) (dNil))) (dCall (p1 pRepr) (dCons (dCall (p1 pTup) (dCons (dFrz (dLc [12] (.one 12) (dSeq (dVar 5)) (dYes) (dOp (pI CDivW fun i j => .int (i / j)) (dPeek 12) (dPeek 8)))) (dNil))) (dNil))))) (sRet (dC (.bl false))) (sNext)) (sSeq (sSet 10 (dFrz (dLc [11] (.one 11) (dSeq (dFn f__law_rw_box [] (dLen 2 (dCons (dCall (p2 (pI2 fun i j => if j < i then j else i)) (dCons (dPeek 2) (dCons (dC (.int 3)) (dNil)))) (dCons (dC (.int 3)) (dNil)))))) (dAnd (dTst (dOp pLt (dPeek 2) (dC (.int 4)))) (dTru (dFn f__law_keeps [] (dLen 2 (dCons (dVar 1) (dCons (dVar 11) (dNil))))))) (dVar 11)))) (sIf (dTst (dOp pNe (dFrz (dLc [11] (.one 11) (dSeq (dVar 10)) (dTst (dOp pLt (dFn f__law_row_at [] (dLen 2 (dCons (dVar 9) (dCons (dVar 11) (dNil))))) (dC (.int 0)))) (dVar 11))) (dFrz (dLst (dNil))))) (sRet (dC (.bl false))) (sNext)))))
      (fun x s => E x s.Γ) { nx := fun s => sRet (dC (.bl true)) (fun x s => E x s.Γ) { nx := fun s => Q (.val .non) s.Γ, rt := Q } s, rt := Q } (gs.map .int)
      ⟨[.val (.ref a), .val (lotD v rows), .val (.int v), .val (rD rows), .val (wD ws), .val (.lst ((totalOf v rows ws).map .int)), .val (.int sh), .val (.lst (gs.map .int)), .emp, .emp, .emp, .emp, .emp], Γ1⟩ := fun gs egs => by
    refine for_ind (fun rest s => ∃ (todo : List Int) (x8 x9 x10 : Sl), rest = todo.map .int ∧ (∀ g ∈ todo, 1 ≤ g ∧ g < FARZ ∧ g ∣ sh) ∧ s = ⟨[.val (.ref a), .val (lotD v rows), .val (.int v), .val (rD rows), .val (wD ws), .val (.lst ((totalOf v rows ws).map .int)), .val (.int sh), .val (.lst (gs.map .int)), x8, x9, x10, .emp, .emp], Γ1⟩)
      ⟨gs, _, _, _, rfl, fun g hg => gs_ok (by rw [← egs]; exact hg), rfl⟩ ?_ ?_
    · rintro s ⟨todo, x8, x9, x10, -, -, rfl⟩
      simp? []
      exact q Γ1 d1
    · rintro x rest s - ⟨todo, x8, x9, x10, e, hg, rfl⟩ R hR
      cases todo with
      | nil => cases e
      | cons g todo =>
        obtain ⟨rfl, e2⟩ := List.cons.inj e
        obtain ⟨g1, g2, g3⟩ := hg g List.mem_cons_self
        have hgd : ∀ x ∈ (totalOf v rows ws).dropLast, g ∣ x := fun x hx => Int.dvd_trans g3 (hdv x hx)
        have hcs := cut_sm hsm g1
        have hcl : (cutZ (totalOf v rows ws) g).length = v + 1 := by unfold cutZ; rw [List.length_map, hlen]
        have hrep := repr_iD hcs (by omega)
        simp? []
        refine ok_cut_row L W g1 g2 hgd ?_
        simp? [hrep]
        refine ⟨(fun i hi => by (try simp at hi); first | (subst hi; rfl) | (rcases hi with hi | hi <;> (subst hi; rfl))), lc_cut (r := totalOf v rows ws) g1 g2 (by omega) (by simp [wipeS_len]) rfl (fun x c R hR => ?_) ?_⟩
        · simp? []
          exact ⟨c, hR⟩
        simp? [hrep]
        refine pNe_self ?_
        simp? []
        refine hbox fun ps hpl hps => ?_
        simp? []
        refine ⟨(fun i hi => by (try simp at hi); first | (subst hi; rfl) | (rcases hi with hi | hi <;> (subst hi; rfl))), lc_filtA iD iD (fun p => decide ((v : Int) < 4) && keeps rows p) (by simp [wipeS_len]) rfl (by rw [sizeLine_eq]; simp; omega) (fun p hp R hR => ?_) (fun p hp _ R hR => ?_) ?_⟩
        · have hsp : Sm p := fun x hx => by
            have := (hps p hp).2 x hx
            omega
          by_cases hv : (v : Int) < 4
          · rw [decide_eq_true hv, Bool.true_and] at hR
            simp? [decide_eq_true hv]
            refine ok_law_keeps L hsp ?_
            simp? []
            exact hR
          · rw [decide_eq_false hv, Bool.false_and] at hR
            simp? [decide_eq_false hv]
            exact hR
        · simp? []
          exact hR
        rw [List.nil_append]
        have hpt : ∀ p ∈ ps.filter (fun p => decide ((v : Int) < 4) && keeps rows p), p.length = v ∧ Sm p ∧ keeps rows p = true := fun p hp => by
          obtain ⟨h1, h2⟩ := List.mem_filter.mp hp
          obtain ⟨h3, h4⟩ := Bool.and_eq_true_iff.mp h2
          have h5 := of_decide_eq_true h3
          exact ⟨(hps p h1).1 (by omega), fun x hx => by have := (hps p h1).2 x hx; omega, h4⟩
        have hptl : (ps.filter (fun p => decide ((v : Int) < 4) && keeps rows p)).length ≤ 343 := Nat.le_trans (List.length_filter_le _ _) hpl
        generalize ps.filter (fun p => decide ((v : Int) < 4) && keeps rows p) = pts at hpt hptl
        simp? []
        refine ⟨(fun i hi => by (try simp at hi); first | (subst hi; rfl) | (rcases hi with hi | hi <;> (subst hi; rfl))), lc_filtA iD iD (fun p => decide (lastZ (cutZ (totalOf v rows ws) g) + dot (cutZ (totalOf v rows ws) g) p < 0)) (by simp [wipeS_len]) rfl (by rw [sizeLine_eq]; simp; omega) (fun p hp R hR => ?_) (fun p hp _ R hR => ?_) ?_⟩
        · simp? []
          refine ok__law_row_at hcs (hpt p hp).2.1 (by omega) (fun e => by rw [e] at hcl; cases hcl) ?_
          simp? []
          exact hR
        · simp? []
          exact hR
        rw [List.nil_append]
        refine pNe_nil ?_
        have hempty : (pts.filter fun p => decide (lastZ (cutZ (totalOf v rows ws) g) + dot (cutZ (totalOf v rows ws) g) p < 0)) = [] := by
          rw [List.filter_eq_nil_iff]
          intro p hp
          obtain ⟨h1, h2, h3⟩ := hpt p hp
          have hk := cut_keeps (show 0 < g by omega) (r := totalOf v rows ws) (p := p) (fun x hx => hgd x (by
            rw [h1] at hx
            rw [List.dropLast_eq_take, hlen]
            exact hx)) (keeps_total L W h3)
          have hk' : 0 ≤ lastZ (cutZ (totalOf v rows ws) g) + dot (cutZ (totalOf v rows ws) g) p := hk
          rw [decide_eq_false (by omega)]
          simp
        rw [hempty]
        simp? [List.isEmpty_nil]
        exact hR _ ⟨todo, _, _, _, e2, fun z hz => hg z (List.mem_cons_of_mem _ hz), rfl⟩
  have key := body _ rfl
  rw [← fin _ rfl] at key
  have hfl : (([1, 2, 3, 5, 7, 1000000000] : List Int).filter fun g => decide (sh % g = 0)).length ≤ 6 := List.length_filter_le _ _
  by_cases hs0 : 0 < sh
  · by_cases hs1 : sh < 1000000000000000000000000000000
    · rw [if_pos ⟨hs0, hs1⟩] at key
      simp? [decide_eq_true hs0, decide_eq_true hs1]
      exact ⟨size_le (by omega), key⟩
    · rw [if_neg (fun z => hs1 z.2)] at key
      simp? [decide_eq_true hs0, decide_eq_false hs1]
      exact ⟨size_le (by omega), key⟩
  · rw [if_neg (fun z => hs0 z.1)] at key
    simp? [decide_eq_false hs0]
    exact ⟨size_le (by omega), key⟩
end
end K05

set_option Elab.async false
set_option linter.all false
set_option maxRecDepth 100000
set_option exponentiation.threshold 3000
namespace K05
open PySem PySem.Spec L2 DL
variable {E : Ex → Gam → Prop} {Γ : Gam} {Q : R → Gam → Prop}
structure LotM (v : Nat) (rows : List (List Int)) : Prop where
  v3 : v ≤ 3
  few : rows.length ≤ 10
  len : ∀ r ∈ rows, r.length = v + 1
  ab : ∀ r ∈ rows, ∀ x ∈ r, x.natAbs ≤ 40000000000
section
variable {v w k : Nat} {rows M N : List (List Int)}
theorem near_nat {r : List Int} {B : Nat} (hB : B < 10 ^ 60) (h : ∀ x ∈ r, x.natAbs ≤ B) : Near r := fun x hx => by
  have := h x hx
  simp only [FARZ]
  omega
theorem LotM.lot (L : LotM v rows) : Lot v rows := ⟨by have := L.v3; omega, by have := L.few; omega, L.len, fun r hr => near_nat (by decide) (L.ab r hr)⟩
theorem LotS.mul {g : Int} (L : LotS v rows) (g1 : 1 ≤ g) (g2 : g ≤ 1000000000) : LotM v (rows.map (mulRow g)) := by
  refine ⟨L.v3, by rw [List.length_map]; exact L.few, fun r hr => ?_, fun r hr x hx => ?_⟩
  · obtain ⟨r, h, rfl⟩ := List.mem_map.mp hr
    exact mulRow_len (L.len r h)
  · obtain ⟨r, h, rfl⟩ := List.mem_map.mp hr
    have hl := L.len r h
    have hne : r ≠ [] := fun e => by rw [e] at hl; cases hl
    unfold mulRow at hx
    rcases List.mem_append.mp hx with hx | hx
    · obtain ⟨y, hy, rfl⟩ := List.mem_map.mp hx
      have := L.sm r h y (by rw [List.dropLast_eq_take] at hy; exact List.mem_of_mem_take hy)
      show (y * g).natAbs ≤ _
      rw [Int.natAbs_mul]
      have h1 : y.natAbs ≤ 40 := by omega
      have h2 : g.natAbs ≤ 1000000000 := by omega
      exact Nat.le_trans (Nat.mul_le_mul h1 h2) (by decide)
    · rw [List.mem_singleton.mp hx]
      have := L.sm r h _ (last_mem hne)
      omega
theorem led_abs {r : List Int} {A B : Nat} (hr : ∀ x ∈ r, x.natAbs ≤ A) (hM : ∀ m ∈ M, ∀ x ∈ m, x.natAbs ≤ B) (hl : M.length ≤ 3) : ∀ x ∈ ledZ w r M, x.natAbs ≤ A + 3 * (A * B) := fun x hx => by
  unfold ledZ at hx
  have := led_bound (l := r.zip M) (f := start w (lastZ r)) (c := A) (A := A) (B := B) (fun q hq => by
    obtain ⟨h1, h2⟩ := List.of_mem_zip (a := q.1) (b := q.2) hq
    exact ⟨hr _ h1, hM _ h2⟩) (fun y hy => by
      unfold start at hy
      rcases List.mem_append.mp hy with hy | hy
      · rw [(List.mem_replicate.mp hy).2]
        simp
      · rw [List.mem_singleton.mp hy]
        exact last_bound hr) x hx
  have h2 : (r.zip M).length ≤ 3 := by rw [List.length_zip]; omega
  have h3 : (r.zip M).length * (A * B) ≤ 3 * (A * B) := Nat.mul_le_mul_right _ h2
  omega
theorem Mat0.ab (h : Mat0 v w M) : ∀ m ∈ M, ∀ x ∈ m, x.natAbs ≤ 1000000 := fun m hm x hx => by
  have := h.sm m hm x hx
  omega
theorem Mat0.small (h : Mat0 v w M) : ∀ m ∈ M, Sm m := fun m hm x hx => by
  have := h.sm m hm x hx
  omega
theorem Mat0.mat (h : Mat0 v w M) (hw : w ≤ 24) (hv : 0 < v) : Mat v w M := ⟨h.many, hw, h.len, h.sm, fun e => by
  have := h.many
  rw [e] at this
  simp at this
  omega⟩
/-- lots shown -/
theorem repr_lot {n : Nat} {rs : List (List Int)} (hn : n ≤ 1000) (hl : rs.length ≤ 100) (hr : ∀ r ∈ rs, r.length ≤ 25 ∧ Sm r) : reprOk (lotD n rs) := by
  have h1 : ∀ d ∈ rs.map iD, Pn 1 (1923 * 25 + 3) d := fun d hd => by
    obtain ⟨r, h, rfl⟩ := List.mem_map.mp hd
    have h2 : Pn 1 ((1921 + 2) * (r.map D.int).length + 3) (iD r) := Pn.tup (Pn.ints (hr r h).2)
    refine h2.mono (Nat.le_refl _) ?_
    rw [List.length_map]
    have := (hr r h).1
    omega
  have h2 : Pn 2 ((1923 * 25 + 3 + 2) * 100 + 3) (rD rs) := (Pn.tup h1).mono (Nat.le_refl _) (by rw [List.length_map]; omega)
  have h3 : Pn 2 ((1923 * 25 + 3 + 2) * 100 + 3) (.int (n : Nat)) := (Pn.int (log_of (by omega))).mono (by omega) (by omega)
  have h4 : ∀ d ∈ [D.int (n : Nat), rD rs], Pn 2 ((1923 * 25 + 3 + 2) * 100 + 3) d := fun d hd => by
    simp only [List.mem_cons, List.not_mem_nil, or_false] at hd
    rcases hd with rfl | rfl
    · exact h3
    · exact h2
  exact (Pn.tup h4).repr (by omega) (by simp)
theorem keeps_led {p : List Int} (hM : ∀ m ∈ M, m.length = w + 1) (hp : p.length = w) : keeps (rows.map fun r => ledZ w r M) p = keeps rows (M.map fun m => worth m p) := by
  unfold keeps
  rw [List.all_map]
  congr 1
  funext r
  have := led_worth (r := r) hM hp
  unfold worth at this
  show decide (0 ≤ dot (ledZ w r M) p + lastZ (ledZ w r M)) = decide (0 ≤ dot r (M.map fun m => lastZ m + dot m p) + lastZ r)
  rw [Int.add_comm, this, Int.add_comm]
theorem intsD_map (xs : List Int) : intsD (xs.map D.int) = some xs := by
  have := ints_map (fun x : Int => x) xs
  rw [List.map_id'] at this
  exact this
theorem p50 : (10 : Int) ^ (50 : Int).toNat = 100000000000000000000000000000000000000000000000000 := by decide +kernel
theorem cp50 : CPow 10 50 := ⟨by decide, by decide, by decide⟩
theorem ok_bls (b : Bool) : okD (.lst [.bl b, .bl b]) := Pn.ok (Pn.lst (n := 0) (m := 5) fun d hd => by
  simp only [List.mem_cons, List.not_mem_nil, or_false] at hd
  rcases hd with rfl | rfl <;> exact .bl) (by omega)
theorem ok_led_nil (L : LotM 0 rows) : (rows.map fun r => ledZ 0 r []) = rows := by
  have h : ∀ r ∈ rows, ledZ 0 r [] = r := fun r hr => by
    have hl := L.len r hr
    match r, hl with
    | [x], _ => rfl
  rw [List.map_congr_left h, List.map_id']
theorem mat_nil : Mat 0 0 [] := ⟨rfl, by omega, by simp, by simp, fun _ => rfl⟩
theorem ok_led_right {a : Addr} {m : Nat} (L : LotM v rows) (d : Dice Γ a m) (hm : m ≤ 10 ^ 15) (q : ∀ Γ', Dice Γ' a (m + 2000) → Q (.val (.bl true)) Γ') : f__law_led_right E [.ref a, lotD v rows] Γ Q := by
  have hv3 := L.v3
  have hfew := L.few
  have LL := L.lot
  unfold f__law_led_right r__law_led_right
  simp? [atI_0]
  refine ok_roll d (by omega) (by omega) (by omega) fun w Γ1 w0 w1 d1 => ?_
  obtain ⟨w, rfl⟩ : ∃ j : Nat, w = j := ⟨w.toNat, by omega⟩
  simp? []
  refine ok_roll d1 (by omega) (by omega) (by omega) fun k Γ2 k0 k1 d2 => ?_
  obtain ⟨k, rfl⟩ : ∃ j : Nat, k = j := ⟨k.toNat, by omega⟩
  simp? []
  refine ok_law_matrix (v := v) (n := w) (by omega) (by omega) d2 (by omega) fun M Γ3 hM d3 => ?_
  simp? []
  refine ok_law_matrix (v := w) (n := k) (by omega) (by omega) d3 (by omega) fun N Γ4 hN d4 => ?_
  simp? []
  refine pEq_int ?_
  have hMl := hM.many
  have hNl := hN.many
  by_cases hv : v = 0
  · subst hv
    simp? [decide_eq_true (show ((0 : Nat) : Int) = 0 from rfl)]
    have hrep : reprOk (lotD 0 rows) := repr_lot (by omega) (by omega) fun r hr => ⟨by have := L.len r hr; omega, (LL.near r hr).sm⟩
    refine ok_led_lot (n := 0) (M := []) LL mat_nil (fun r hr => ?_) ?_
    · have hl := L.len r hr
      have := LL.near r hr
      match r, hl, this with
      | [x], _, h => exact h
    · rw [ok_led_nil L]
      simp? [hrep]
      refine pEq_str ?_
      simp? [decide_eq_true (rfl : (toP (lotD 0 rows)).shown = (toP (lotD 0 rows)).shown)]
      exact q _ (d4.mono (by omega))
  · simp? [decide_eq_false (show ¬ ((v : Nat) : Int) = 0 by omega)]
    have hMM := hM.mat (by omega) (by omega)
    have hled : ∀ r ∈ rows, ∀ x ∈ ledZ w r M, x.natAbs ≤ 40000000000 + 3 * (40000000000 * 1000000) := fun r hr => led_abs (L.ab r hr) hM.ab (by omega)
    refine ok_led_lot LL hMM (fun r hr => near_nat (by decide) (hled r hr)) ?_
    have hledl : ∀ r ∈ rows.map (fun r => ledZ w r M), r.length = w + 1 := fun r hr => by
      obtain ⟨r, _, rfl⟩ := List.mem_map.mp hr
      exact led_len hM.len
    have Lled : Lot w (rows.map fun r => ledZ w r M) := ⟨by omega, by rw [List.length_map]; omega, hledl, fun r hr => by
      obtain ⟨r, h, rfl⟩ := List.mem_map.mp hr
      exact near_nat (by decide) (hled r h)⟩
    have hrep : reprOk (lotD w (rows.map fun r => ledZ w r M)) := repr_lot (by omega) (by rw [List.length_map]; omega) fun r hr => ⟨by have := hledl r hr; omega, (Lled.near r hr).sm⟩
    simp? [hrep]
    refine ok_put_together (n := w) (fun r hr => ⟨(LL.near r hr).sm, row_ne LL hr, by have := L.len r hr; omega⟩) (by omega) (by omega) hM.len hM.small ?_
    simp? [hrep]
    refine pNe_self ?_
    simp? []
    refine ⟨⟨by omega, by omega⟩, ?_⟩
    refine for_ind (fun rest s => ∃ (x8 x9 x10 : Sl) (Γ' : Gam), rest.length ≤ 3 ∧ s = ⟨[.val (.ref a), .val (lotD v rows), .val (.int v), .val (.int w), .val (.int k), .val (rD M), .val (rD N), .val (lotD w (rows.map fun r => ledZ w r M)), x8, x9, x10, .emp, .emp, .emp], Γ'⟩ ∧ Dice Γ' a (m + 602 + 100 * (3 - rest.length)))
      ⟨_, _, _, Γ4, by rw [rangeD_len]; decide, rfl, d4.mono (by omega)⟩ ?_ ?_
    · rintro s ⟨x8, x9, x10, Γ5, -, rfl, d5⟩
      simp only [List.length_nil] at d5
      simp? []
      refine ok_put_together (n := k) (rows := M) (M := N) (fun r hr => ⟨hM.small r hr, (fun e => by have := hM.len r hr; rw [e] at this; cases this), by have := hM.len r hr; omega⟩) (by omega) (by omega) hN.len hN.small ?_
      simp? [atI_1]
      refine pEq_int ?_
      by_cases hw : w = 0
      · subst hw
        simp? [decide_eq_true (show ((0 : Nat) : Int) = 0 from rfl)]
        exact q _ (d5.mono (by omega))
      · simp? [decide_eq_false (show ¬ ((w : Nat) : Int) = 0 by omega)]
        have hBl : ∀ r ∈ M.map (fun r => ledZ k r N), r.length = k + 1 := fun r hr => by
          obtain ⟨r, _, rfl⟩ := List.mem_map.mp hr
          exact led_len hN.len
        refine ⟨(fun i hi => by (try simp at hi); first | (subst hi; rfl) | (rcases hi with hi | hi <;> (subst hi; rfl))), lc_filtA iD iD (fun r => decide (1000000 < maxZ (r.map fun x => ((x.natAbs : Nat) : Int)))) (by simp [wipeS_len]) rfl (by rw [sizeLine_eq]; simp; omega) (fun r hr R hR => ?_) (fun r hr _ R hR => ?_) ?_⟩
        · have hl := hBl r hr
          simp? []
          refine ⟨(fun i hi => by (try simp at hi); first | (subst hi; rfl) | (rcases hi with hi | hi <;> (subst hi; rfl))), lc_mapA .int (fun x => .int ((x.natAbs : Nat) : Int)) (by simp [wipeS_len]) rfl (size_le (by omega)) (fun x hx R hR => ?_) ?_⟩
          · simp? []
            rw [abs_eq]
            exact hR
          · simp? [p6, cp6]
            refine ⟨_, ints_map (fun x : Int => ((x.natAbs : Nat) : Int)) r, fun e => ?_, ?_⟩
            · have := congrArg List.length e
              rw [List.length_map, hl] at this
              cases this
            · simp? []
              exact hR
        · simp? []
          exact hR
        rw [List.nil_append]
        refine pNe_nil ?_
        cases hf : (M.map fun r => ledZ k r N).filter fun r => decide (1000000 < maxZ (r.map fun x => ((x.natAbs : Nat) : Int))) with
        | cons z zs =>
          simp? [List.isEmpty_cons]
          exact q _ (d5.mono (by omega))
        | nil =>
          have hB : ∀ r ∈ M.map (fun r => ledZ k r N), ∀ x ∈ r, -1000000 ≤ x ∧ x ≤ 1000000 := fun r hr x hx => by
            have h1 := List.filter_eq_nil_iff.mp hf r hr
            have h2 : ((x.natAbs : Nat) : Int) ≤ maxZ (r.map fun x => ((x.natAbs : Nat) : Int)) := maxZ_le (List.mem_map.mpr ⟨x, hx, rfl⟩)
            have h3 : ¬ 1000000 < maxZ (r.map fun x => ((x.natAbs : Nat) : Int)) := fun z => h1 (decide_eq_true z)
            omega
          have hBoth : Mat v k (M.map fun r => ledZ k r N) := ⟨by rw [List.length_map, hMl], by omega, hBl, hB, fun e => by
            have := congrArg List.length e
            rw [List.length_map, hMl] at this
            exact absurd this hv⟩
          have hBab : ∀ r ∈ M.map (fun r => ledZ k r N), ∀ x ∈ r, x.natAbs ≤ 1000000 := fun r hr x hx => by
            have := hB r hr x hx
            omega
          have hNN := hN.mat (show k ≤ 24 by omega) (by omega)
          have hlast : ∀ r ∈ rows.map (fun r => ledZ w r M), ∀ x ∈ ledZ k r N, x.natAbs ≤ 120000040000000000 + 3 * (120000040000000000 * 1000000) := fun r hr => by
            obtain ⟨r, h, rfl⟩ := List.mem_map.mp hr
            exact led_abs (fun x hx => Nat.le_trans (hled r h x hx) (by decide)) hN.ab (by omega)
          have hlast2 : ∀ r ∈ rows, ∀ x ∈ ledZ k r (M.map fun r => ledZ k r N), x.natAbs ≤ 40000000000 + 3 * (40000000000 * 1000000) := fun r hr => led_abs (L.ab r hr) hBab (by rw [List.length_map]; omega)
          have heq : ((rows.map fun r => ledZ w r M).map fun r => ledZ k r N) = rows.map fun r => ledZ k r (M.map fun r => ledZ k r N) := by
            rw [List.map_map]
            apply List.map_congr_left
            intro r _
            exact (led_led (r := r) hM.len hN.len).resolve_right fun z => z hNl
          simp? [List.isEmpty_nil]
          refine ok_led_lot Lled hNN (fun r hr => near_nat (by decide) (hlast r hr)) ?_
          have hr1 : reprOk (lotD k ((rows.map fun r => ledZ w r M).map fun r => ledZ k r N)) := repr_lot (by omega) (by rw [List.length_map, List.length_map]; omega) fun r hr => by
            obtain ⟨r, h, rfl⟩ := List.mem_map.mp hr
            exact ⟨by rw [led_len hN.len]; omega, (near_nat (by decide) (hlast r h)).sm⟩
          simp? [hr1]
          refine ok_led_lot LL hBoth (fun r hr => near_nat (by decide) (hlast2 r hr)) ?_
          rw [← heq]
          simp? [hr1]
          refine pEq_str ?_
          rw [decide_eq_true rfl]
          exact q _ (d5.mono (by omega))
    · rintro x rest s - ⟨x8, x9, x10, Γ5, hl, rfl, d5⟩ R hR
      simp only [List.length_cons] at hl d5
      simp? []
      refine ok_rw_point (v := w) (by omega) d5 (by omega) fun p Γ6 hpl hpb d6 => ?_
      have hpn : Near p := fun x hx => by
        have := hpb x hx
        simp only [FARZ]
        omega
      simp? []
      refine ⟨(fun i hi => by (try simp at hi); first | (subst hi; rfl) | (rcases hi with hi | hi <;> (subst hi; rfl))), lc_mapA iD (fun m => .int (worth m p)) (by simp [wipeS_len]) rfl (size_le (by omega)) (fun m hm R hR => ?_) ?_⟩
      · have hml := hM.len m hm
        simp? []
        refine ok__law_row_at (hM.small m hm) hpn.sm (by omega) (fun e => by rw [e] at hml; cases hml) ?_
        simp? []
        exact hR
      have et : (M.map fun m => D.int (worth m p)) = (M.map fun m => worth m p).map D.int := by rw [List.map_map]; rfl
      rw [et]
      have hnext : ∀ x9' x10', R ⟨[.val (.ref a), .val (lotD v rows), .val (.int v), .val (.int w), .val (.int k), .val (rD M), .val (rD N), .val (lotD w (rows.map fun r => ledZ w r M)), .val x, x9', x10', .emp, .emp, .emp], Γ6⟩ := fun x9' x10' => hR _ ⟨_, _, _, Γ6, by omega, rfl, d6.mono (by omega)⟩
      simp? []
      refine ⟨(fun i hi => by (try simp at hi); first | (subst hi; rfl) | (rcases hi with hi | hi <;> (subst hi; rfl))), lc_mapA .int (fun x => .int ((x.natAbs : Nat) : Int)) (by simp [wipeS_len]) rfl (size_le (by rw [List.length_map]; omega)) (fun x hx R hR => ?_) ?_⟩
      · simp? []
        rw [abs_eq]
        exact hR
      have e0 : (.int 0 :: (M.map fun m => worth m p).map fun x => D.int ((x.natAbs : Nat) : Int)) = (0 :: (M.map fun m => worth m p).map fun x => ((x.natAbs : Nat) : Int)).map D.int := by
        simp only [List.map_cons, List.map_map]
        rfl
      have hns := intsD_map (0 :: (M.map fun m => worth m p).map fun x => ((x.natAbs : Nat) : Int))
      rw [← e0] at hns
      refine ⟨size_le (by simp; omega), _, hns, by simp, cp50, ?_⟩
      rw [p50]
      by_cases hmax : maxZ (0 :: (M.map fun m => worth m p).map fun x => ((x.natAbs : Nat) : Int)) < 100000000000000000000000000000000000000000000000000
      · have hthere : Near (M.map fun m => worth m p) := near_nat (B := 10 ^ 50) (by decide) fun x hx => by
          have h2 : ((x.natAbs : Nat) : Int) ≤ maxZ (0 :: (M.map fun m => worth m p).map fun x => ((x.natAbs : Nat) : Int)) := maxZ_le (List.mem_cons_of_mem _ (List.mem_map.mpr ⟨x, hx, rfl⟩))
          omega
        simp? [decide_eq_true hmax]
        refine ok_does_keep Lled hpn hpl ?_
        simp? []
        refine ok_does_keep LL hthere (by rw [List.length_map, hMl]) ?_
        simp? []
        refine ok_law_keeps LL hthere.sm ?_
        rw [keeps_led hM.len hpl]
        simp? []
        refine ⟨by omega, by omega, size_le (by simp), ?_⟩
        have e3 : (List.replicate (2 : Int).toNat [D.bl (keeps rows (M.map fun m => worth m p))]).flatten = [D.bl (keeps rows (M.map fun m => worth m p)), D.bl (keeps rows (M.map fun m => worth m p))] := rfl
        rw [e3]
        refine pNe_same (ok_bls _) ?_
        simp? []
        exact hnext _ _
      · simp? [decide_eq_false hmax]
        exact hnext _ _
end
end K05

set_option Elab.async false
set_option linter.all false
set_option maxRecDepth 100000
set_option exponentiation.threshold 3000
namespace K05
open PySem PySem.Spec L2 DL
variable {Γ : Gam}
def X1 : DS := sSet 1 (dFn f__law_rw_any [] (dLen 1 (dCons (dVar 0) (dNil))))
def X2 : DS := sAsg (.many [2, 3]) (dVar 1)
def X3 : DS := sIf (dAnd (dTst (dOp pNe (dPeek 3) (dTup (dNil)))) (dNot (dTru (dFn f__law_cuts_right [] (dLen 2 (dCons (dVar 0) (dCons (dVar 1) (dNil)))))))) (sRet (dC (.bl false))) (sNext)
def X4 : DS := sAsg (.many [4, 5]) (dFn f__law_dividing [] (dLen 2 (dCons (dVar 0) (dCons (dFn f__law_small [] (dLen 1 (dCons (dVar 0) (dNil)))) (dNil)))))
def X5 : DS := sIf (dOr (dNot (dTru (dFn f__law_cuts_right [] (dLen 2 (dCons (dVar 0) (dCons (dVar 4) (dNil))))))) (dTst (dOp pNe (dFn f_cut_row [] (dLen 3 (dCons (dVar 4) (dCons (dTup (dCons (dTup (dCons (dC (.int 0)) (dCons (dC (.int 1)) (dNil)))) (dNil))) (dCons (dVar 5) (dNil)))))) (dCall (p1 pTup) (dCons (dFrz (dLc [15] (.one 15) (dSeq (dOp pIx (dOp pIx (dPeek 4) (dC (.int 1))) (dC (.int 0)))) (dYes) (dOp (pI CDivW fun i j => .int (i / j)) (dPeek 15) (dPeek 5)))) (dNil)))))) (sRet (dC (.bl false))) (sNext)
def X6 : DS := sFor (.one 6) (dSeq (dSl (dPeek 3) (dNoPart) (dPart (dC (.int 4))))) (sSeq (sAsg (.many [7, 8]) (dTup (dCons (dFn f_opposite_row [] (dLen 1 (dCons (dVar 6) (dNil)))) (dCons (dFn f__law_rw_point [] (dLen 2 (dCons (dVar 0) (dCons (dVar 2) (dNil))))) (dNil))))) (sSeq (sIf (dOr (dTst (dOp pNe (dCall (p1 pRepr) (dCons (dPeek 7) (dNil))) (dCall (p1 pRepr) (dCons (dFn f__law_opposite_row [] (dLen 1 (dCons (dVar 6) (dNil)))) (dNil))))) (dAnd (dTst (dOp pLt (dCall (p1 pAbs) (dCons (dOp pIx (dPeek 6) (dUn pNeg (dC (.int 1)))) (dNil))) (dOp (pI CPow fun i j => .int (i ^ j.toNat)) (dC (.int 10)) (dC (.int 59))))) (dTst (dOp pNe (dFn f_opposite_row [] (dLen 1 (dCons (dVar 7) (dNil)))) (dPeek 6))))) (sRet (dC (.bl false))) (sNext)) (sIf (dTst (dOp pEq (dOp pLt (dFn f_row_at [] (dLen 2 (dCons (dVar 6) (dCons (dVar 8) (dNil))))) (dC (.int 0))) (dOp pLt (dFn f_row_at [] (dLen 2 (dCons (dVar 7) (dCons (dVar 8) (dNil))))) (dC (.int 0))))) (sRet (dC (.bl false))) (sNext))))
def X7 : DS := sSet 9 (dCall (p1 pTup) (dCons (dFrz (dLc [14] (.one 14) (dRng1 (dCons (dOp pAdd (dPeek 2) (dC (.int 1))) (dNil))) (dYes) (dFn f__law_rw_number [] (dLen 1 (dCons (dVar 0) (dNil)))))) (dNil)))
def X8 : DS := sIf (dTst (dOp pNe (dCall (p1 pRepr) (dCons (dFn f_put_row [] (dLen 2 (dCons (dVar 1) (dCons (dVar 9) (dNil))))) (dNil))) (dCall (p1 pRepr) (dCons (dTup (dCons (dVar 2) (dCons (dOp pAdd (dPeek 3) (dTup (dCons (dVar 9) (dNil)))) (dNil)))) (dNil))))) (sRet (dC (.bl false))) (sNext)
def X9 : DS := sSet 10 (dCall (p1 pTup) (dCons (dFn f__law_shuffled [] (dLen 2 (dCons (dVar 0) (dCons (dFrz (dListRg (dPeek 2))) (dNil))))) (dNil)))
def X10 : DS := sAsg (.many [11, 8]) (dTup (dCons (dFn f_turned_lot [] (dLen 2 (dCons (dVar 1) (dCons (dVar 10) (dNil))))) (dCons (dFn f__law_rw_point [] (dLen 2 (dCons (dVar 0) (dCons (dVar 2) (dNil))))) (dNil))))
def X11 : DS := sIf (dTst (dOp pNe (dCall (p1 pRepr) (dCons (dPeek 11) (dNil))) (dCall (p1 pRepr) (dCons (dTup (dCons (dVar 2) (dCons (dCall (p1 pTup) (dCons (dFrz (dLc [6] (.one 6) (dSeq (dVar 3)) (dYes) (dCall (p1 pTup) (dCons (dFrz (dCat (dFrz (dLc [16] (.one 16) (dSeq (dVar 10)) (dYes) (dOp pIx (dPeek 6) (dPeek 16)))) (dFrz (dLst (dCons (dOp pIx (dPeek 6) (dUn pNeg (dC (.int 1)))) (dNil)))))) (dNil))))) (dNil))) (dNil)))) (dNil))))) (sRet (dC (.bl false))) (sNext)
def X12 : DS := sIf (dTst (dOp pNe (dFn f_does_keep [] (dLen 2 (dCons (dVar 11) (dCons (dCall (p1 pTup) (dCons (dFrz (dLc [16] (.one 16) (dSeq (dVar 10)) (dYes) (dOp pIx (dPeek 8) (dPeek 16)))) (dNil))) (dNil))))) (dFn f__law_keeps [] (dLen 2 (dCons (dVar 1) (dCons (dVar 8) (dNil))))))) (sRet (dC (.bl false))) (sNext)
def X13 : DS := sIf (dTst (dOp pNe (dPeek 3) (dTup (dNil)))) (sSeq (sSet 12 (dFn f__law_rw_weights [] (dLen 2 (dCons (dVar 0) (dCons (dCall (p1 pLen) (dCons (dPeek 3) (dNil))) (dNil)))))) (sSeq (sSet 13 (dFn f_weighted_row [] (dLen 2 (dCons (dVar 1) (dCons (dVar 12) (dNil)))))) (sIf (dTst (dOp pNe (dFn f_weighted_row [] (dLen 2 (dCons (dVar 11) (dCons (dVar 12) (dNil))))) (dCall (p1 pTup) (dCons (dFrz (dCat (dFrz (dLc [16] (.one 16) (dSeq (dVar 10)) (dYes) (dOp pIx (dPeek 13) (dPeek 16)))) (dFrz (dLst (dCons (dOp pIx (dPeek 13) (dUn pNeg (dC (.int 1)))) (dNil)))))) (dNil))))) (sRet (dC (.bl false))) (sNext)))) (sNext)
def X14 : DS := sRet (dFn f__law_led_right [] (dLen 2 (dCons (dVar 0) (dCons (dVar 4) (dNil)))))
theorem X_eq : r__law_right = sSeq X1 (sSeq X2 (sSeq X3 (sSeq X4 (sSeq X5 (sSeq X6 (sSeq X7 (sSeq X8 (sSeq X9 (sSeq X10 (sSeq X11 (sSeq X12 (sSeq X13 (X14))))))))))))) := rfl
theorem eqD_bl (a b : Bool) : eqD (.bl a) (.bl b) = decide (a = b) := by cases a <;> cases b <;> rfl
theorem pEq_bl {s : DSt} {Q : D → Prop} {a b : Bool} (q : Q (.bl (decide (a = b)))) : pEq s (.bl a) (.bl b) Q := .inl ⟨⟨rfl, rfl⟩, ⟨rfl, rfl⟩, by rw [eqD_bl]; exact q⟩
theorem pNe_bl {s : DSt} {Q : D → Prop} {a b : Bool} (q : Q (.bl (!decide (a = b)))) : pNe s (.bl a) (.bl b) Q := .inl ⟨⟨rfl, rfl⟩, ⟨rfl, rfl⟩, by rw [eqD_bl]; exact q⟩
theorem okD_iD {r : List Int} (h : Sm r) : okD (iD r) := (Pn.tup (Pn.ints h)).ok (by omega)
section
variable {v : Nat} {rows : List (List Int)} {a : Addr} {m : Nat} {E' : DE'} {De : DEnds}
abbrev sx (a : Addr) (v : Nat) (rows : List (List Int)) (x4 x5 x6 x7 x8 x9 x10 x11 x12 x13 : Sl) (Γ : Gam) : DSt := ⟨[.val (.ref a), .val (lotD v rows), .val (.int v), .val (rD rows), x4, x5, x6, x7, x8, x9, x10, x11, x12, x13, .emp, .emp, .emp], Γ⟩
theorem ok_X3 {x4 x5 x6 x7 x8 x9 x10 x11 x12 x13 : Sl} (L : Lot2 v rows) (d : Dice Γ a m) (hm : m ≤ 10 ^ 15) (q : ∀ Γ', Dice Γ' a (m + 1000) → De.nx (sx a v rows x4 x5 x6 x7 x8 x9 x10 x11 x12 x13 Γ')) : X3 E' De (sx a v rows x4 x5 x6 x7 x8 x9 x10 x11 x12 x13 Γ) := by
  unfold X3
  simp? []
  refine pNe_nilT ?_
  cases hrs : rows with
  | nil =>
    simp? [List.isEmpty_nil, List.map_nil]
    have := q Γ (d.mono (by omega))
    rw [hrs] at this
    exact this
  | cons r rs =>
    simp? [List.isEmpty_cons]
    rw [← hrs]
    refine ok_cuts_right (v := v) (rows := rows) L.lot (by rw [hrs]; simp) L.few d hm fun Γ' d' => ?_
    simp? []
    exact q Γ' d'
theorem total_one {r : List Int} (h : rows.getD 0 [] = r) (hr : r.length = v + 1) : totalOf v rows [(0, 1)] = r := by
  show wstep rows (List.replicate (v + 1) 0) (0, 1) = r
  unfold wstep
  show ((List.replicate (v + 1) 0).zip (rows.getD 0 [])).map (fun q => q.1 + 1 * q.2) = r
  rw [h]
  apply List.ext_getElem
  · simp [hr]
  · intro i h1 h2
    simp
theorem wts_one {n : Nat} (h : 0 < n) : Wts n [(0, 1)] := ⟨by simp, fun a ha => by rw [List.mem_singleton.mp ha]; exact h, fun a ha => by rw [List.mem_singleton.mp ha]; decide, rfl, by simp⟩
theorem ok_X4 {x4 x5 x6 x7 x8 x9 x10 x11 x12 x13 : Sl} (d : Dice Γ a m) (hm : m ≤ 10 ^ 15)
    (q : ∀ (v' : Nat) (rows' : List (List Int)) g Γ', LotS v' rows' → rows' ≠ [] → 1 ≤ g → g ≤ 1000000000 → Dice Γ' a (m + 10001) → De.nx (sx a v rows (.val (lotD v' (rows'.map (mulRow g)))) (.val (.int g)) x6 x7 x8 x9 x10 x11 x12 x13 Γ')) : X4 E' De (sx a v rows x4 x5 x6 x7 x8 x9 x10 x11 x12 x13 Γ) := by
  unfold X4
  simp? []
  refine ok_small d (by omega) fun v' rows' Γ1 L hne d1 => ?_
  simp? []
  refine ok_dividing L d1 (by omega) fun g Γ2 g1 g2 d2 => ?_
  simp? []
  exact q v' rows' g Γ2 L hne g1 g2 (d2.mono (by omega))
theorem ok_X5 {x6 x7 x8 x9 x10 x11 x12 x13 : Sl} {v' : Nat} {rows' : List (List Int)} {g : Int} (L : LotS v' rows') (hne : rows' ≠ []) (g1 : 1 ≤ g) (g2 : g ≤ 1000000000) (d : Dice Γ a m) (hm : m ≤ 10 ^ 15)
    (q : ∀ Γ', Dice Γ' a (m + 1000) → De.nx (sx a v rows (.val (lotD v' (rows'.map (mulRow g)))) (.val (.int g)) x6 x7 x8 x9 x10 x11 x12 x13 Γ')) : X5 E' De (sx a v rows (.val (lotD v' (rows'.map (mulRow g)))) (.val (.int g)) x6 x7 x8 x9 x10 x11 x12 x13 Γ) := by
  have LM := L.mul g1 g2
  have hf := LM.few
  have hv := LM.v3
  cases hrs : rows' with
  | nil => exact absurd hrs hne
  | cons r0 rs =>
    rw [← hrs]
    have h0 : r0 ∈ rows' := by rw [hrs]; simp
    have hl0 := L.len r0 h0
    have hn0 : r0 ≠ [] := fun e => by rw [e] at hl0; cases hl0
    have hR : (rows'.map (mulRow g)).getD 0 [] = mulRow g r0 := by rw [hrs]; rfl
    have hml : (mulRow g r0).length = v' + 1 := mulRow_len hl0
    have ht := total_one hR hml
    have hpos : 0 < (rows'.map (mulRow g)).length := by rw [hrs]; simp
    have hmem : mulRow g r0 ∈ rows'.map (mulRow g) := List.mem_map.mpr ⟨r0, h0, rfl⟩
    have hsm := (LM.lot.near _ hmem).sm
    have hfar : g < FARZ := by simp only [FARZ]; omega
    unfold X5
    simp? []
    refine ok_cuts_right (v := v') (rows := rows'.map (mulRow g)) LM.lot (by rw [hrs]; simp) (by omega) d hm fun Γ' d' => ?_
    simp? []
    refine ok_cut_row (v := v') (rows := rows'.map (mulRow g)) (ws := [(0, 1)]) (g := g) LM.lot (wts_one hpos) g1 hfar ?_ ?_
    · rw [ht]
      intro x hx
      unfold mulRow at hx
      rw [List.dropLast_concat] at hx
      obtain ⟨y, _, rfl⟩ := List.mem_map.mp hx
      exact Int.dvd_mul_left ..
    · rw [ht]
      have hat : atI ((rows'.map (mulRow g)).map iD) 0 = some (iD (mulRow g r0)) := by rw [hrs, List.map_cons, List.map_cons, atI_0]
      simp? [atI_1, hat]
      refine ⟨(fun i hi => by (try simp at hi); first | (subst hi; rfl) | (rcases hi with hi | hi <;> (subst hi; rfl))), lc_cut (r := mulRow g r0) g1 hfar (by omega) (by simp [wipeS_len]) rfl (fun x c R hR => ?_) ?_⟩
      · simp? []
        exact ⟨c, hR⟩
      simp? []
      refine pNe_same (okD_iD (cut_sm hsm g1)) ?_
      simp? []
      exact q Γ' d'
theorem ok_X6 {x4 x5 x6 x7 x8 x9 x10 x11 x12 x13 : Sl} (L : Lot2 v rows) (h6 : x6.isOwn = false) (d : Dice Γ a m) (hm : m ≤ 10 ^ 15)
    (q : ∀ x6 x7 x8 Γ', x6.isOwn = false → Dice Γ' a (m + 400) → De.nx (sx a v rows x4 x5 x6 x7 x8 x9 x10 x11 x12 x13 Γ')) : X6 E' De (sx a v rows x4 x5 x6 x7 x8 x9 x10 x11 x12 x13 Γ) := by
  have h24 := L.lot.v24
  unfold X6
  have e4 : cutD (rows.map iD) none (some 4) = (rows.take 4).map iD := by
    rw [List.map_take]
    exact cut_to (n := 4)
  simp? [e4]
  refine for_ind (fun rest s => ∃ (todo : List (List Int)) (x6 x7 x8 : Sl) (Γ' : Gam), rest = todo.map iD ∧ (∀ r ∈ todo, r ∈ rows) ∧ todo.length ≤ 4 ∧ x6.isOwn = false ∧ s = sx a v rows x4 x5 x6 x7 x8 x9 x10 x11 x12 x13 Γ' ∧ Dice Γ' a (m + 100 * (4 - todo.length)))
    ⟨rows.take 4, _, _, _, Γ, rfl, fun r hr => List.mem_of_mem_take hr, by simp; omega, h6, rfl, d.mono (by omega)⟩ ?_ ?_
  · rintro s ⟨todo, x6, x7, x8, Γ', -, -, -, hx, rfl, d'⟩
    exact q _ _ _ _ hx (d'.mono (by omega))
  · rintro x rest s - ⟨todo, x6, x7, x8, Γ', e, ht, hl, _, rfl, d'⟩ R hR
    cases todo with
    | nil => cases e
    | cons r todo =>
      obtain ⟨rfl, e2⟩ := List.cons.inj e
      simp only [List.length_cons] at hl d'
      have hmem := ht r List.mem_cons_self
      have hrl := L.lot.len r hmem
      have hn := L.lot.near r hmem
      have hf := L.far r hmem
      have hne : r ≠ [] := fun e => by rw [e] at hrl; cases hrl
      have hol : (oppZ r).length = v + 1 := by rw [opp_len hne, hrl]
      have hlast := hf _ (last_mem hne)
      have hon : Near (oppZ r) := fun x hx => by
        unfold oppZ at hx
        rcases List.mem_append.mp hx with hx | hx
        · obtain ⟨y, hy, rfl⟩ := List.mem_map.mp hx
          have := hf y (by rw [List.dropLast_eq_take] at hy; exact List.mem_of_mem_take hy)
          simp only [F59, FARZ] at this ⊢
          omega
        · rw [List.mem_singleton.mp hx]
          simp only [F59, FARZ] at hlast ⊢
          omega
      have hrep := repr_iD hon.sm (by omega)
      simp? []
      refine ok_opposite_row hn (by omega) (by omega) ?_
      simp? []
      refine ok_rw_point (v := v) (by omega) d' (by omega) fun p Γ2 hpl hpb d2 => ?_
      have hpn : Near p := fun x hx => by
        have := hpb x hx
        simp only [FARZ]
        omega
      simp? [hrep]
      refine ok_law_opposite_row hne (by omega) ?_
      simp? [hrep]
      refine pNe_self ?_
      have hdiff : decide (decide (dot r p + lastZ r < 0) = decide (dot (oppZ r) p + lastZ (oppZ r) < 0)) = false := by
        have := opp_worth (r := r) (p := p) (by omega)
        unfold worth at this
        by_cases h : dot r p + lastZ r < 0
        · rw [decide_eq_true h, decide_eq_false (show ¬ (dot (oppZ r) p + lastZ (oppZ r) < 0) by omega)]
          rfl
        · rw [decide_eq_false h, decide_eq_true (show dot (oppZ r) p + lastZ (oppZ r) < 0 by omega)]
          rfl
      have hend := hR (sx a v rows x4 x5 (.val (iD r)) (.val (iD (oppZ r))) (.val (iD p)) x9 x10 x11 x12 x13 Γ2) ⟨todo, _, _, _, Γ2, e2, fun z hz => ht z (List.mem_cons_of_mem _ hz), by omega, rfl, rfl, d2.mono (by omega)⟩
      simp? [at_last hne, p59, cp59]
      by_cases habs : (if lastZ r < 0 then -lastZ r else lastZ r) < 100000000000000000000000000000000000000000000000000000000000
      · simp? [decide_eq_true habs]
        refine ok_opposite_row hon (by omega) (by omega) ?_
        rw [opp_opp hne]
        simp? []
        refine pNe_same (okD_iD hn.sm) ?_
        simp? []
        refine ok_row_at hn hpn (by omega) (by omega) ?_
        simp? []
        refine ok_row_at hon hpn (by omega) (by omega) ?_
        simp? []
        refine pEq_bl ?_
        simp? [hdiff]
        exact hend
      · simp? [decide_eq_false habs]
        refine ok_row_at hn hpn (by omega) (by omega) ?_
        simp? []
        refine ok_row_at hon hpn (by omega) (by omega) ?_
        simp? []
        refine pEq_bl ?_
        simp? [hdiff]
        exact hend
theorem far_near {k : Int} (h : -F59 ≤ k ∧ k ≤ F59) : -FARZ < k ∧ k < FARZ := by
  simp only [F59, FARZ] at h ⊢
  omega
theorem ok_X7 {x4 x5 x6 x7 x8 x9 x10 x11 x12 x13 : Sl} (h24 : v ≤ 24) (d : Dice Γ a m) (hm : m ≤ 10 ^ 15)
    (q : ∀ (r : List Int) Γ', r.length = v + 1 → Near r → Dice Γ' a (m + 50) → De.nx (sx a v rows x4 x5 x6 x7 x8 (.val (iD r)) x10 x11 x12 x13 Γ')) : X7 E' De (sx a v rows x4 x5 x6 x7 x8 x9 x10 x11 x12 x13 Γ) := by
  unfold X7
  simp? []
  refine ⟨⟨by omega, by omega⟩, (fun i hi => by (try simp at hi); first | (subst hi; rfl) | (rcases hi with hi | hi <;> (subst hi; rfl))), lc_dice 2 (fun y => ∃ k : Int, y = .int k ∧ (-F59 ≤ k ∧ k ≤ F59)) (by simp [wipeS_len]) rfl (by rw [rangeD_len]; omega) d (fun x hx Γ m2 hm2 d R hR => ?_) fun ys Γ3 hly hp d3 => ?_⟩
  · rw [rangeD_len] at hm2
    simp? []
    exact ok_rw_number d (by omega) fun k Γ2 hk d2 => hR _ _ ⟨k, rfl, hk⟩ d2
  · rw [rangeD_len] at hly d3
    obtain ⟨p, rfl, hp'⟩ := ints_of hp
    rw [List.length_map] at hly
    simp? []
    exact q p Γ3 (by omega) (fun x hx => far_near (hp' x hx)) (d3.mono (by omega))
theorem ok_X8 {x4 x5 x6 x7 x8 x10 x11 x12 x13 : Sl} {r : List Int} (L : Lot2 v rows) (hr : r.length = v + 1) (hn : Near r)
    (q : De.nx (sx a v rows x4 x5 x6 x7 x8 (.val (iD r)) x10 x11 x12 x13 Γ)) : X8 E' De (sx a v rows x4 x5 x6 x7 x8 (.val (iD r)) x10 x11 x12 x13 Γ) := by
  have h24 := L.lot.v24
  have hf := L.few
  have hrep : reprOk (lotD v (rows ++ [r])) := repr_lot (by omega) (by simp; omega) fun z hz => by
    rcases List.mem_append.mp hz with hz | hz
    · exact ⟨by have := L.lot.len z hz; omega, (L.lot.near z hz).sm⟩
    · rw [List.mem_singleton.mp hz]
      exact ⟨by omega, hn.sm⟩
  unfold X8
  simp? []
  refine ok_put_row L.lot (by omega) hr hn ?_
  simp? [hrep]
  rw [rows_snoc]
  simp? [hrep]
  refine ⟨size_le (by omega), pNe_self ?_⟩
  simp? []
  exact q
theorem ok_X9 {x4 x5 x6 x7 x8 x9 x10 x11 x12 x13 : Sl} (h24 : v ≤ 24) (d : Dice Γ a m) (hm : m ≤ 10 ^ 15)
    (q : ∀ (o : List Nat) Γ', o.Perm (List.range v) → Dice Γ' a (m + 30) → De.nx (sx a v rows x4 x5 x6 x7 x8 x9 (.val (oD o)) x11 x12 x13 Γ')) : X9 E' De (sx a v rows x4 x5 x6 x7 x8 x9 x10 x11 x12 x13 Γ) := by
  unfold X9
  have e : rangeD 0 (v : Int).toNat = (List.range v).map fun k : Nat => D.int k := by
    unfold rangeD
    rw [Int.toNat_natCast]
    apply List.map_congr_left
    intro k _
    simp
  simp? [e]
  refine ⟨⟨by omega, by omega⟩, ok_shuffled (items := List.range v) (by rw [List.length_range]; omega) d (by omega) fun o Γ' ho d' => ?_⟩
  simp? []
  exact q o Γ' ho d'
theorem ok_X10 {x4 x5 x6 x7 x8 x9 x11 x12 x13 : Sl} {o : List Nat} (L : Lot2 v rows) (ho : o.Perm (List.range v)) (d : Dice Γ a m) (hm : m ≤ 10 ^ 15)
    (q : ∀ (p : List Int) Γ', p.length = v → Near p → Dice Γ' a (m + 100) → De.nx (sx a v rows x4 x5 x6 x7 (.val (iD p)) x9 (.val (oD o)) (.val (lotD v (rows.map (turnZ o)))) x12 x13 Γ')) : X10 E' De (sx a v rows x4 x5 x6 x7 x8 x9 (.val (oD o)) x11 x12 x13 Γ) := by
  have h24 := L.lot.v24
  unfold X10
  simp? []
  refine ok_turned_lot L.lot ho ?_
  simp? []
  refine ok_rw_point (v := v) h24 d (by omega) fun p Γ2 hpl hpb d2 => ?_
  simp? []
  exact q p Γ2 hpl (fun x hx => by
    have := hpb x hx
    simp only [FARZ]
    omega) d2
theorem turned_lot {o : List Nat} (L : Lot2 v rows) (ho : o.Perm (List.range v)) : Lot v (rows.map (turnZ o)) := by
  have hl : o.length = v := by rw [ho.length_eq, List.length_range]
  refine ⟨L.lot.v24, by rw [List.length_map]; exact L.lot.many, fun r hr => ?_, fun r hr x hx => ?_⟩
  · obtain ⟨r, _, rfl⟩ := List.mem_map.mp hr
    rw [turn_len, hl]
  · obtain ⟨r, h, rfl⟩ := List.mem_map.mp hr
    have hrl := L.lot.len r h
    unfold turnZ at hx
    rcases List.mem_append.mp hx with hx | hx
    · obtain ⟨k, hk, rfl⟩ := List.mem_map.mp hx
      have := perm_lt ho k hk
      refine L.lot.near r h _ ?_
      rw [List.getD_eq_getElem?_getD, List.getElem?_eq_getElem (by omega)]
      exact List.getElem_mem _
    · rw [List.mem_singleton.mp hx]
      exact L.lot.near r h _ (last_mem fun e => by rw [e] at hrl; cases hrl)
theorem turn_lc {o : List Nat} {r : List Int} {te : DT} {i : Nat} {ρ : List Sl} {Q : List D → DSt → Prop} (hr : r.length = v + 1) (ho : ∀ k ∈ o, k < v) (hl : o.length ≤ 5000) (hi : i < ρ.length) (he : ρ[i]? = some .emp)
    (h : ∀ k : Nat, atI (r.map D.int) (k : Int) = some (.int (r.getD k 0)) → ∀ R : D → DSt → Prop, R (.int (r.getD k 0)) ⟨ρ.set i (.val (.int k)), Γ⟩ → te noEx ⟨ρ.set i (.val (.int k)), Γ⟩ R) (q : Q ((o.map fun k => r.getD k 0).map .int) ⟨ρ, Γ⟩) : lcD (.one i) dYes te [i] (o.map fun k : Nat => .int k) [] ⟨ρ, Γ⟩ Q := by
  refine lc_mapA (fun k : Nat => .int k) (fun k => .int (r.getD k 0)) hi he (size_le (by omega)) (fun k hk R hR => h k (getD_at (by have := ho k hk; omega)) R hR) ?_
  rw [List.map_map] at q
  exact q
theorem ok_X11 {x4 x5 x6 x7 x8 x9 x12 x13 : Sl} {o : List Nat} (L : Lot2 v rows) (h6 : x6.isOwn = false) (ho : o.Perm (List.range v))
    (q : De.nx (sx a v rows x4 x5 x6 x7 x8 x9 (.val (oD o)) (.val (lotD v (rows.map (turnZ o)))) x12 x13 Γ)) : X11 E' De (sx a v rows x4 x5 x6 x7 x8 x9 (.val (oD o)) (.val (lotD v (rows.map (turnZ o)))) x12 x13 Γ) := by
  have h24 := L.lot.v24
  have hf := L.few
  have hl : o.length = v := by rw [ho.length_eq, List.length_range]
  have LT := turned_lot L ho
  have hrep : reprOk (lotD v (rows.map (turnZ o))) := repr_lot (by omega) (by rw [List.length_map]; omega) fun r hr => ⟨by have := LT.len r hr; omega, (LT.near r hr).sm⟩
  unfold X11
  simp? [hrep]
  refine ⟨fun i hi => by subst hi; exact h6, ?_⟩
  refine lc_mapA iD (fun r => iD (turnZ o r)) (by simp [wipeS_len]) rfl (size_le (by omega)) (fun r hr R hR => ?_) ?_
  · have hrl := L.lot.len r hr
    have hne : r ≠ [] := fun e => by rw [e] at hrl; cases hrl
    simp? []
    refine ⟨(fun i hi => by (try simp at hi); first | (subst hi; rfl) | (rcases hi with hi | hi <;> (subst hi; rfl))), turn_lc hrl (perm_lt ho) (by omega) (by simp [wipeS_len]) rfl (fun k hk R hR => ?_) ?_⟩
    · simp? [hk]
      exact hR
    simp? [at_last hne]
    have e : ((o.map fun k => r.getD k 0).map D.int) ++ [D.int (lastZ r)] = (turnZ o r).map D.int := by unfold turnZ; rw [List.map_append]; rfl
    rw [e]
    exact ⟨size_le (by omega), hR⟩
  have e : (rows.map fun r => iD (turnZ o r)) = (rows.map (turnZ o)).map iD := by rw [List.map_map]; rfl
  rw [e]
  simp? [hrep]
  refine pNe_self ?_
  simp? []
  exact q
theorem keeps_turn {o : List Nat} {p : List Int} (L : Lot v rows) (ho : o.Perm (List.range v)) (hp : p.length = v) : keeps (rows.map (turnZ o)) (o.map fun k => p.getD k 0) = keeps rows p := by
  unfold keeps
  rw [List.all_map]
  apply Bool.eq_iff_iff.mpr
  rw [List.all_eq_true, List.all_eq_true]
  have h : ∀ r ∈ rows, ((fun r => decide (0 ≤ dot r (o.map fun k => p.getD k 0) + lastZ r)) ∘ turnZ o) r = decide (0 ≤ dot r p + lastZ r) := fun r hr => by
    have := turn_worth ho (L.len r hr) hp
    unfold worth at this
    show decide (0 ≤ dot (turnZ o r) (o.map fun k => p.getD k 0) + lastZ (turnZ o r)) = _
    rw [Int.add_comm, this, Int.add_comm]
  exact ⟨fun z r hr => by rw [← h r hr]; exact z r hr, fun z r hr => by rw [h r hr]; exact z r hr⟩
theorem ok_X12 {x4 x5 x6 x7 x9 x12 x13 : Sl} {o : List Nat} {p : List Int} (L : Lot2 v rows) (ho : o.Perm (List.range v)) (hp : p.length = v) (hn : Near p)
    (q : De.nx (sx a v rows x4 x5 x6 x7 (.val (iD p)) x9 (.val (oD o)) (.val (lotD v (rows.map (turnZ o)))) x12 x13 Γ)) : X12 E' De (sx a v rows x4 x5 x6 x7 (.val (iD p)) x9 (.val (oD o)) (.val (lotD v (rows.map (turnZ o)))) x12 x13 Γ) := by
  have h24 := L.lot.v24
  have hl : o.length = v := by rw [ho.length_eq, List.length_range]
  have LT := turned_lot L ho
  unfold X12
  simp? []
  refine ⟨(fun i hi => by (try simp at hi); first | (subst hi; rfl) | (rcases hi with hi | hi <;> (subst hi; rfl))), ?_⟩
  refine lc_mapA (fun k : Nat => .int k) (fun k => .int (p.getD k 0)) (by simp [wipeS_len]) rfl (size_le (by omega)) (fun k hk R hR => ?_) ?_
  · have := perm_lt ho k hk
    simp? [getD_at (r := p) (k := k) (by omega)]
    exact hR
  have e : (o.map fun k => D.int (p.getD k 0)) = (o.map fun k => p.getD k 0).map D.int := by rw [List.map_map]; rfl
  rw [e]
  simp? []
  refine ok_does_keep LT (fun x hx => ?_) (by rw [List.length_map, hl]) ?_
  · obtain ⟨k, hk, rfl⟩ := List.mem_map.mp hx
    have := perm_lt ho k hk
    refine hn _ ?_
    rw [List.getD_eq_getElem?_getD, List.getElem?_eq_getElem (by omega)]
    exact List.getElem_mem _
  simp? []
  refine ok_law_keeps L.lot hn.sm ?_
  simp? []
  refine pNe_bl ?_
  rw [keeps_turn L.lot ho hp, decide_eq_true rfl]
  simp? []
  exact q
theorem ok_X13 {x4 x5 x6 x7 x8 x9 x12 x13 : Sl} {o : List Nat} (L : Lot2 v rows) (ho : o.Perm (List.range v)) (d : Dice Γ a m) (hm : m ≤ 10 ^ 15)
    (q : ∀ x12 x13 Γ', Dice Γ' a (m + 1000) → De.nx (sx a v rows x4 x5 x6 x7 x8 x9 (.val (oD o)) (.val (lotD v (rows.map (turnZ o)))) x12 x13 Γ')) : X13 E' De (sx a v rows x4 x5 x6 x7 x8 x9 (.val (oD o)) (.val (lotD v (rows.map (turnZ o)))) x12 x13 Γ) := by
  have h24 := L.lot.v24
  have hf := L.few
  have hl : o.length = v := by rw [ho.length_eq, List.length_range]
  have LT := turned_lot L ho
  unfold X13
  simp? []
  refine pNe_nilT ?_
  by_cases hne : rows = []
  · have he : (rows.map iD).isEmpty = true := by rw [hne]; rfl
    simp? [he]
    exact q x12 x13 Γ (d.mono (by omega))
  · have he : (rows.map iD).isEmpty = false := by
      cases hrs : rows with
      | nil => exact absurd hrs hne
      | cons r rs => rfl
    have hpos := List.length_pos_iff.mpr hne
    simp? [he]
    refine ok_rw_weights hpos (by omega) d hm fun ws Γ1 W d1 => ?_
    have hlen := total_len L.lot W
    have hsm := total_sm L.lot W
    have hne2 : totalOf v rows ws ≠ [] := fun e => by rw [e] at hlen; cases hlen
    have W2 : Wts (rows.map (turnZ o)).length ws := by rw [List.length_map]; exact W
    have ht : totalOf v (rows.map (turnZ o)) ws = turnZ o (totalOf v rows ws) := by
      show wsum (rows.map (turnZ o)) ws (List.replicate (v + 1) 0) = _
      have := turn_wsum (rows := rows) (o := o) L.lot.len (perm_lt ho) (ws := ws) (f := List.replicate (v + 1) 0) W.at_ (by simp)
      rw [turn_zero hl] at this
      exact this
    simp? []
    refine ok_weighted_row L.lot W ?_
    simp? []
    refine ok_weighted_row LT W2 ?_
    show RD _ _ (.val (iD (totalOf v (rows.map (turnZ o)) ws))) Γ1
    rw [ht]
    simp? []
    refine ⟨(fun i hi => by (try simp at hi); first | (subst hi; rfl) | (rcases hi with hi | hi <;> (subst hi; rfl))), turn_lc (r := totalOf v rows ws) hlen (perm_lt ho) (by omega) (by simp [wipeS_len]) rfl (fun k hk R hR => ?_) ?_⟩
    · simp? [hk]
      exact hR
    simp? [at_last hne2]
    have e : ((o.map fun k => (totalOf v rows ws).getD k 0).map D.int) ++ [D.int (lastZ (totalOf v rows ws))] = (turnZ o (totalOf v rows ws)).map D.int := by unfold turnZ; rw [List.map_append]; rfl
    rw [e]
    refine ⟨size_le (by omega), pNe_same (okD_iD ?_) ?_⟩
    · rw [← ht]
      exact total_sm LT W2
    simp? []
    exact q _ _ Γ1 d1
end
end K05

set_option Elab.async false
set_option linter.all false
set_option maxRecDepth 100000
set_option exponentiation.threshold 3000
namespace K05
open PySem PySem.Spec L2 DL
variable {Γ : Gam}
variable {a : Addr} {m : Nat}
set_option maxHeartbeats 1000000
theorem ok_right {E : Ex → Gam → Prop} {Q : R → Gam → Prop} (d : Dice Γ a m) (hm : m ≤ 10 ^ 14) (q : ∀ Γ', Dice Γ' a (m + 30000) → Q (.val (.bl true)) Γ') : f__law_right E [.ref a] Γ Q := by
  unfold f__law_right
  rw [X_eq]
  simp? []
  unfold X1
  simp? []
  refine ok_rw_any d (by omega) fun v rows Γ1 L d1 => ?_
  unfold X2
  simp? []
  have h24 := L.lot.v24
  refine ok_X3 L d1 (by omega) fun Γ2 d2 => ?_
  dsimp only
  refine ok_X4 d2 (by omega) fun v' rows' g Γ3 LS hne g1 g2 d3 => ?_
  dsimp only
  refine ok_X5 LS hne g1 g2 d3 (by omega) fun Γ4 d4 => ?_
  dsimp only
  refine ok_X6 L rfl d4 (by omega) fun x6 x7 x8 Γ5 h6 d5 => ?_
  dsimp only
  refine ok_X7 h24 d5 (by omega) fun r Γ6 hr hn d6 => ?_
  dsimp only
  refine ok_X8 L hr hn ?_
  dsimp only
  refine ok_X9 h24 d6 (by omega) fun o Γ7 ho d7 => ?_
  dsimp only
  refine ok_X10 L ho d7 (by omega) fun p Γ8 hp hpn d8 => ?_
  dsimp only
  refine ok_X11 L h6 ho ?_
  dsimp only
  refine ok_X12 L ho hp hpn ?_
  dsimp only
  refine ok_X13 L ho d8 (by omega) fun x12 x13 Γ9 d9 => ?_
  dsimp only
  unfold X14
  simp? []
  refine ok_led_right (LS.mul g1 g2) d9 (by omega) fun Γ10 d10 => ?_
  simp? []
  exact q Γ10 (d10.mono (by omega))
end K05

set_option Elab.async false
set_option linter.all false
set_option maxRecDepth 100000
set_option exponentiation.threshold 3000
namespace K05
open PySem PySem.Spec L2 DL
variable {E : Ex → Gam → Prop} {Γ : Gam} {Q : R → Gam → Prop}
theorem p17 : (10 : Int) ^ (17 : Int).toNat = 100000000000000000 := by decide +kernel
theorem cp17 : CPow 10 17 := ⟨by decide, by decide, by decide⟩
theorem far2 : 0 < FARZ * FARZ ∧ FARZ * FARZ < 2 ^ 500 ∧ FARZ.natAbs < 2 ^ 600 := by decide
theorem ok_dice {ns : List Int} {i : Nat} (hi : i ≤ 100) (q : ∀ x y : Int, 0 ≤ x → x < 2 ^ 500 → 0 ≤ y → y < 2 ^ 100 → Q (.lst [.int x, .int y, .int 0]) Γ) : f__law_dice E [.sq (ns.map .int), .int i] Γ Q := by
  obtain ⟨f1, f2, f3⟩ := far2
  have tail : ∀ c : Int, Q (.lst [.int ((if (if c < 0 then -c else c) - 100000000000000000 > 0 then (if c < 0 then -c else c) - 100000000000000000 else 0) % (FARZ * FARZ)), .int ((if c < 0 then -c else c) % 1152921504606846737 * 37 + 859 * i + 31 * (if decide (c < 0) = true then 1 else 0) + 17), .int 0]) Γ := fun c => by
    have hm : ∀ k : Int, 0 ≤ k % 1152921504606846737 ∧ k % 1152921504606846737 < 1152921504606846737 := fun k => ⟨Int.emod_nonneg _ (by omega), Int.emod_lt_of_pos _ (by omega)⟩
    have h1 := hm (if c < 0 then -c else c)
    refine q _ _ (Int.emod_nonneg _ (by omega)) (Int.lt_trans (Int.emod_lt_of_pos _ f1) f2) ?_ ?_
    · split <;> omega
    · split <;> omega
  unfold f__law_dice r__law_dice
  by_cases h : i < ns.length
  · have hat : atI (ns.map D.int) (i : Int) = some (.int ns[i]) := by rw [atI_nat (by rw [List.length_map]; exact h), List.getElem_map]
    simp? [decide_eq_true (show ((i : Nat) : Int) < (ns.length : Nat) by omega), hat, p17, cp17, far_pow, cpow_far, f1, mulw f3 f3]
    have hm : ∀ k : Int, 0 ≤ k % 1152921504606846737 ∧ k % 1152921504606846737 < 1152921504606846737 := fun k => ⟨Int.emod_nonneg _ (by omega), Int.emod_lt_of_pos _ (by omega)⟩
    have h1 := hm (if ns[i] < 0 then -ns[i] else ns[i])
    refine ⟨by omega, mulw (by omega) (by omega), mulw (by omega) (by omega), mulw (by omega) (by split <;> omega), ?_⟩
    exact tail ns[i]
  · simp? [decide_eq_false (show ¬ ((i : Nat) : Int) < (ns.length : Nat) by omega), p17, cp17, far_pow, cpow_far, f1, mulw f3 f3]
    have hm : ∀ k : Int, 0 ≤ k % 1152921504606846737 ∧ k % 1152921504606846737 < 1152921504606846737 := fun k => ⟨Int.emod_nonneg _ (by omega), Int.emod_lt_of_pos _ (by omega)⟩
    have h1 := hm (if (97 * (i : Int) + 43) < 0 then -(97 * (i : Int) + 43) else 97 * (i : Int) + 43)
    refine ⟨mulw (by omega) (by omega), by omega, mulw (by omega) (by omega), mulw (by omega) (by omega), mulw (by omega) (by split <;> omega), ?_⟩
    exact tail (97 * (i : Int) + 43)
theorem rangeD_mem {n : Nat} {x : D} (h : x ∈ rangeD 0 n) : ∃ i : Nat, i < n ∧ x = .int i := by
  unfold rangeD at h
  obtain ⟨i, hi, rfl⟩ := List.mem_map.mp h
  exact ⟨i, List.mem_range.mp hi, by simp⟩

abbrev half : D := .tup [.int 1, .tup [.tup [.int 2, .int (-1)], .tup [.int (-2), .int 1]]]
abbrev band : D := .tup [.int 2, .tup [.tup [.int 1, .int 0, .int 0], .tup [.int 0, .int 1, .int 0], .tup [.int (-3), .int (-3), .int 7]]]
abbrev halfR : List (List Int) := [[2, -1], [-2, 1]]
abbrev bandR : List (List Int) := [[1, 0, 0], [0, 1, 0], [-3, -3, 7]]
theorem near_all {rows : List (List Int)} (h : rows.all (fun r => r.all fun x => decide (-100 ≤ x) && decide (x ≤ 100)) = true) : ∀ r ∈ rows, Near r := fun r hr x hx => by
  rw [List.all_eq_true] at h
  have h1 := h r hr
  rw [List.all_eq_true] at h1
  obtain ⟨h2, h3⟩ := Bool.and_eq_true_iff.mp (h1 x hx)
  exact near_small ⟨of_decide_eq_true h2, of_decide_eq_true h3⟩
theorem len_all {n : Nat} {rows : List (List Int)} (h : rows.all (fun r => decide (r.length = n)) = true) : ∀ r ∈ rows, r.length = n := fun r hr => by
  rw [List.all_eq_true] at h
  exact of_decide_eq_true (h r hr)
theorem lotA : Lot 1 halfR := ⟨by omega, by decide, len_all (by decide), near_all (by decide)⟩
theorem lotB : Lot 2 bandR := ⟨by omega, by decide, len_all (by decide), near_all (by decide)⟩
theorem lotC : Lot 1 [] := ⟨by omega, by decide, len_all (by decide), near_all (by decide)⟩
theorem wts_at {n k : Nat} (h : k < n) : Wts n [(k, 1)] := ⟨by simp, fun a ha => by rw [List.mem_singleton.mp ha]; exact h, fun a ha => by rw [List.mem_singleton.mp ha]; exact ⟨Int.le_refl 1, show (1 : Int) < 10 ^ 40 by decide⟩, rfl, by simp⟩
theorem t1 : totalOf 1 halfR [(0, 1)] = [2, -1] := by decide +kernel
theorem t2 : totalOf 1 halfR [(1, 1)] = [-2, 1] := by decide +kernel
theorem t3 : totalOf 2 bandR [(2, 1)] = [-3, -3, 7] := by decide +kernel
theorem hC1 (q : Q (.val (.tup [.int 1, .int (-1)])) Γ) : f_cut_row E [half, .tup [.tup [.int 0, .int 1]], .int 2] Γ Q :=
  ok_cut_row (v := 1) (rows := halfR) (ws := [(0, 1)]) (g := 2) lotA (wts_at (by decide)) (by omega) (by decide) (by rw [t1]; decide) (by rw [t1]; exact q)
theorem hC2 (q : Q (.val (.tup [.int (-1), .int 0])) Γ) : f_cut_row E [half, .tup [.tup [.int 1, .int 1]], .int 2] Γ Q :=
  ok_cut_row (v := 1) (rows := halfR) (ws := [(1, 1)]) (g := 2) lotA (wts_at (by decide)) (by omega) (by decide) (by rw [t2]; decide) (by rw [t2]; exact q)
theorem hO (q : Q (.val (.tup [.int (-2), .int 0])) Γ) : f_opposite_row E [.tup [.int 2, .int (-1)]] Γ Q :=
  ok_opposite_row (r := [2, -1]) (near_all (rows := [[2, -1]]) (by decide) _ (by simp)) (by decide) (by decide) q
theorem hC3 (q : Q (.val (.tup [.int (-1), .int (-1), .int 2])) Γ) : f_cut_row E [band, .tup [.tup [.int 2, .int 1]], .int 3] Γ Q :=
  ok_cut_row (v := 2) (rows := bandR) (ws := [(2, 1)]) (g := 3) lotB (wts_at (by decide)) (by omega) (by decide) (by rw [t3]; decide) (by rw [t3]; exact q)
theorem l1 : (bandR.map fun r => ledZ 1 r [[2, 0], [-1, 1]]) = [[2, 0], [-1, 1], [-3, 4]] := by decide +kernel
theorem hL (q : Q (.val (.tup [.int 1, .tup [.tup [.int 2, .int 0], .tup [.int (-1), .int 1], .tup [.int (-3), .int 4]]])) Γ) : f_led_lot E [band, .tup [.tup [.int 2, .int 0], .tup [.int (-1), .int 1]]] Γ Q := by
  refine ok_led_lot (v := 2) (n := 1) (rows := bandR) (M := [[2, 0], [-1, 1]]) lotB ⟨rfl, by omega, len_all (by decide), ?_, by simp⟩ (fun r hr => ?_) (by rw [l1]; exact q)
  · intro m hm x hx
    simp only [List.mem_cons, List.not_mem_nil, or_false] at hm
    rcases hm with rfl | rfl <;> simp only [List.mem_cons, List.not_mem_nil, or_false] at hx <;> omega
  · refine near_all (rows := bandR.map fun r => ledZ 1 r [[2, 0], [-1, 1]]) (by decide +kernel) _ (List.mem_map.mpr ⟨r, hr, rfl⟩)
theorem u1 : (bandR.map (turnZ [1, 0])) = [[0, 1, 0], [1, 0, 0], [-3, -3, 7]] := by decide +kernel
theorem hT (q : Q (.val (.tup [.int 2, .tup [.tup [.int 0, .int 1, .int 0], .tup [.int 1, .int 0, .int 0], .tup [.int (-3), .int (-3), .int 7]]])) Γ) : f_turned_lot E [band, .tup [.int 1, .int 0]] Γ Q :=
  ok_turned_lot (v := 2) (rows := bandR) (o := [1, 0]) lotB (.swap 0 1 []) (by rw [u1]; exact q)
theorem hP (q : Q (.val (.tup [.int 1, .tup [.tup [.int 5, .int (-9)]]])) Γ) : f_put_row E [.tup [.int 1, .tup []], .tup [.int 5, .int (-9)]] Γ Q :=
  ok_put_row (v := 1) (rows := []) (r := [5, -9]) lotC (by decide) rfl (near_all (rows := [[5, -9]]) (by decide) _ (by simp)) q
def lawTail (fc fo fl ft fp : DSp) : DS := sSeq (sAsg (.many [4, 5]) (dTup (dCons (dTup (dCons (dC (.int 1)) (dCons (dTup (dCons (dTup (dCons (dC (.int 2)) (dCons (dUn pNeg (dC (.int 1))) (dNil)))) (dCons (dTup (dCons (dUn pNeg (dC (.int 2))) (dCons (dC (.int 1)) (dNil)))) (dNil)))) (dNil)))) (dCons (dTup (dCons (dC (.int 2)) (dCons (dTup (dCons (dTup (dCons (dC (.int 1)) (dCons (dC (.int 0)) (dCons (dC (.int 0)) (dNil))))) (dCons (dTup (dCons (dC (.int 0)) (dCons (dC (.int 1)) (dCons (dC (.int 0)) (dNil))))) (dCons (dTup (dCons (dUn pNeg (dC (.int 3))) (dCons (dUn pNeg (dC (.int 3))) (dCons (dC (.int 7)) (dNil))))) (dNil))))) (dNil)))) (dNil))))) (sSeq (sSet 6 (dFrz (dLst (dCons (dFn fc [] (dLen 3 (dCons (dVar 4) (dCons (dTup (dCons (dTup (dCons (dC (.int 0)) (dCons (dC (.int 1)) (dNil)))) (dNil))) (dCons (dC (.int 2)) (dNil)))))) (dCons (dFn fc [] (dLen 3 (dCons (dVar 4) (dCons (dTup (dCons (dTup (dCons (dC (.int 1)) (dCons (dC (.int 1)) (dNil)))) (dNil))) (dCons (dC (.int 2)) (dNil)))))) (dCons (dFn fo [] (dLen 1 (dCons (dTup (dCons (dC (.int 2)) (dCons (dUn pNeg (dC (.int 1))) (dNil)))) (dNil)))) (dNil))))))) (sSeq (sSet 6 (dFrz (dCat (dPeek 6) (dFrz (dLst (dCons (dFn fc [] (dLen 3 (dCons (dVar 5) (dCons (dTup (dCons (dTup (dCons (dC (.int 2)) (dCons (dC (.int 1)) (dNil)))) (dNil))) (dCons (dC (.int 3)) (dNil)))))) (dCons (dFn fl [] (dLen 2 (dCons (dVar 5) (dCons (dTup (dCons (dTup (dCons (dC (.int 2)) (dCons (dC (.int 0)) (dNil)))) (dCons (dTup (dCons (dUn pNeg (dC (.int 1))) (dCons (dC (.int 1)) (dNil)))) (dNil)))) (dNil))))) (dNil)))))))) (sSeq (sSet 6 (dFrz (dCat (dPeek 6) (dFrz (dLst (dCons (dFn ft [] (dLen 2 (dCons (dVar 5) (dCons (dTup (dCons (dC (.int 1)) (dCons (dC (.int 0)) (dNil)))) (dNil))))) (dCons (dFn fp [] (dLen 2 (dCons (dTup (dCons (dC (.int 1)) (dCons (dTup (dNil)) (dNil)))) (dCons (dTup (dCons (dC (.int 5)) (dCons (dUn pNeg (dC (.int 9))) (dNil)))) (dNil))))) (dNil)))))))) (sSeq (sSet 7 (dFrz (dLst (dCons (dTup (dCons (dC (.int 1)) (dCons (dUn pNeg (dC (.int 1))) (dNil)))) (dCons (dTup (dCons (dUn pNeg (dC (.int 1))) (dCons (dC (.int 0)) (dNil)))) (dCons (dTup (dCons (dUn pNeg (dC (.int 2))) (dCons (dC (.int 0)) (dNil)))) (dCons (dTup (dCons (dUn pNeg (dC (.int 1))) (dCons (dUn pNeg (dC (.int 1))) (dCons (dC (.int 2)) (dNil))))) (dCons (dTup (dCons (dC (.int 1)) (dCons (dTup (dCons (dTup (dCons (dC (.int 2)) (dCons (dC (.int 0)) (dNil)))) (dCons (dTup (dCons (dUn pNeg (dC (.int 1))) (dCons (dC (.int 1)) (dNil)))) (dCons (dTup (dCons (dUn pNeg (dC (.int 3))) (dCons (dC (.int 4)) (dNil)))) (dNil))))) (dNil)))) (dNil))))))))) (sRet (dOp pEq (dPeek 6) (dFrz (dCat (dPeek 7) (dFrz (dLst (dCons (dTup (dCons (dC (.int 2)) (dCons (dTup (dCons (dTup (dCons (dC (.int 0)) (dCons (dC (.int 1)) (dCons (dC (.int 0)) (dNil))))) (dCons (dTup (dCons (dC (.int 1)) (dCons (dC (.int 0)) (dCons (dC (.int 0)) (dNil))))) (dCons (dTup (dCons (dUn pNeg (dC (.int 3))) (dCons (dUn pNeg (dC (.int 3))) (dCons (dC (.int 7)) (dNil))))) (dNil))))) (dNil)))) (dCons (dTup (dCons (dC (.int 1)) (dCons (dTup (dCons (dTup (dCons (dC (.int 5)) (dCons (dUn pNeg (dC (.int 9))) (dNil)))) (dNil))) (dNil)))) (dNil)))))))))))))
theorem tail_ok {fc fo fl ft fp : DSp} {x0 x1 x2 x3 : Sl} {De : DEnds}
    (hC1 : ∀ {E Γ Q}, Q (.val (.tup [.int 1, .int (-1)])) Γ → fc E [half, .tup [.tup [.int 0, .int 1]], .int 2] Γ Q)
    (hC2 : ∀ {E Γ Q}, Q (.val (.tup [.int (-1), .int 0])) Γ → fc E [half, .tup [.tup [.int 1, .int 1]], .int 2] Γ Q)
    (hO : ∀ {E Γ Q}, Q (.val (.tup [.int (-2), .int 0])) Γ → fo E [.tup [.int 2, .int (-1)]] Γ Q)
    (hC3 : ∀ {E Γ Q}, Q (.val (.tup [.int (-1), .int (-1), .int 2])) Γ → fc E [band, .tup [.tup [.int 2, .int 1]], .int 3] Γ Q)
    (hL : ∀ {E Γ Q}, Q (.val (.tup [.int 1, .tup [.tup [.int 2, .int 0], .tup [.int (-1), .int 1], .tup [.int (-3), .int 4]]])) Γ → fl E [band, .tup [.tup [.int 2, .int 0], .tup [.int (-1), .int 1]]] Γ Q)
    (hT : ∀ {E Γ Q}, Q (.val (.tup [.int 2, .tup [.tup [.int 0, .int 1, .int 0], .tup [.int 1, .int 0, .int 0], .tup [.int (-3), .int (-3), .int 7]]])) Γ → ft E [band, .tup [.int 1, .int 0]] Γ Q)
    (hP : ∀ {E Γ Q}, Q (.val (.tup [.int 1, .tup [.tup [.int 5, .int (-9)]]])) Γ → fp E [.tup [.int 1, .tup []], .tup [.int 5, .int (-9)]] Γ Q)
    {E : DE'} (q : De.rt (.val (.bl true)) Γ) : lawTail fc fo fl ft fp E De ⟨[x0, x1, x2, x3, .emp, .emp, .emp, .emp], Γ⟩ := by
  unfold lawTail
  simp? []
  refine hC1 ?_
  simp? []
  refine hC2 ?_
  simp? []
  refine hO ?_
  simp? []
  refine hC3 ?_
  simp? []
  refine hL ?_
  simp? []
  refine hT ?_
  simp? []
  refine hP ?_
  simp? []
  exact .inl ⟨⟨rfl, rfl⟩, ⟨rfl, rfl⟩, q⟩
theorem law_ok : LawD 63 f_law := by
  intro ns hns
  unfold f_law r_law
  simp? []
  have hmx : ∀ k : Int, (if (if k < 5 then k else 5) > 1 then (if k < 5 then k else 5) else 1) ≤ 5 ∧ 1 ≤ (if (if k < 5 then k else 5) > 1 then (if k < 5 then k else 5) else 1) := fun k => by
    split
    · split <;> omega
    · omega
  have hb := hmx (ns.length : Nat)
  generalize (if (if ((ns.length : Nat) : Int) < 5 then ((ns.length : Nat) : Int) else 5) > 1 then (if ((ns.length : Nat) : Int) < 5 then ((ns.length : Nat) : Int) else 5) else 1) = m at hb ⊢
  refine ⟨⟨by omega, by omega⟩, ?_⟩
  refine for_ind (fun r s => ∃ (x1 x2 x3 : Sl) (Γ : Gam), (∀ y ∈ r, ∃ i : Nat, i < 100 ∧ y = .int i) ∧ s = ⟨[.val (.sq (ns.map .int)), x1, x2, x3, .emp, .emp, .emp, .emp], Γ⟩) ⟨_, _, _, _, fun y hy => ?_, rfl⟩ ?_ ?_
  · obtain ⟨i, h, e⟩ := rangeD_mem hy
    exact ⟨i, by omega, e⟩
  · rintro s ⟨x1, x2, x3, Γ, -, rfl⟩
    show lawTail f_cut_row f_opposite_row f_led_lot f_turned_lot f_put_row _ _ _
    exact tail_ok hC1 hC2 hO hC3 hL hT hP rfl
  · rintro x r s - ⟨x1, x2, x3, Γ, hx, rfl⟩ R hR
    obtain ⟨i, hi, rfl⟩ := hx x List.mem_cons_self
    simp? []
    refine ok_dice (by omega) fun x y hx0 hx1 hy0 hy1 => ?_
    simp? []
    intro a ha
    have d0 : Dice ((a, [D.int x, .int y, .int 0]) :: Γ) a 0 := ⟨x, y, 0, by simp, hx0, hx1, hy0, hy1, by omega, by omega⟩
    refine ⟨⟨by omega, by omega⟩, ?_⟩
    refine for_ind (fun r s => ∃ (x3 : Sl) (Γ : Gam), r.length ≤ 4 ∧ s = ⟨[.val (.sq (ns.map .int)), .val (.int i), .val (.ref a), x3, .emp, .emp, .emp, .emp], Γ⟩ ∧ Dice Γ a (100000 * (4 - r.length))) ⟨_, _, by rw [rangeD_len]; decide, rfl, d0.mono (by omega)⟩ ?_ ?_
    · rintro s ⟨x3, Γ', -, rfl, d⟩
      exact hR _ ⟨_, _, _, _, fun y hy => hx y (List.mem_cons_of_mem _ hy), rfl⟩
    · rintro z r' s - ⟨x3, Γ', hl, rfl, d⟩ R hR
      simp only [List.length_cons] at hl d
      simp? []
      refine ok_right d (by omega) fun Γ2 d2 => ?_
      simp? []
      exact hR _ ⟨_, _, by omega, rfl, d2.mono (by omega)⟩
end K05

end Ev
set_option Elab.async false
set_option linter.all false
set_option maxRecDepth 100000
namespace K05
open PySem PySem.Spec L2 DL
open PyProof.Rows hiding St
def top (i : Nat) : Stmt := PySem.Challenge.pw_sweeporders_k05_whole_cuts_opposites_and.main.body.getD i (.Pass ⟨0, 0, 0, 0⟩)
abbrev st_is_whole : Stmt := top 10
abbrev st_is_near : Stmt := top 11
abbrev st_is_near_row : Stmt := top 19
abbrev st_require_row : Stmt := top 37
abbrev st_is_pair : Stmt := top 12
abbrev st_is_lot_in : Stmt := top 21
abbrev st_require_lot : Stmt := top 36
abbrev st_put_row : Stmt := top 48
abbrev st_turned_row : Stmt := top 35
abbrev st_is_sequence_of : Stmt := top 42
abbrev st_turned_lot : Stmt := top 50
abbrev st_led_row : Stmt := top 33
abbrev st_led_in : Stmt := top 34
abbrev st_is_matrix : Stmt := top 41
abbrev st_led_lot : Stmt := top 49
abbrev st_cut_by : Stmt := top 31
abbrev st_does_divide : Stmt := top 30
abbrev st_weighted_by : Stmt := top 28
abbrev st_weighted_in : Stmt := top 29
abbrev st_require_number : Stmt := top 14
abbrev st_is_ascending : Stmt := top 13
abbrev st_is_weight : Stmt := top 22
abbrev st_are_weights_by : Stmt := top 23
abbrev st_are_weights_in : Stmt := top 24
abbrev st_require_weights : Stmt := top 40
abbrev st_cut_row : Stmt := top 46
abbrev st_opposite_in : Stmt := top 32
abbrev st_is_free_row : Stmt := top 20
abbrev st_require_free_row : Stmt := top 38
abbrev st_opposite_row : Stmt := top 47
abbrev st__law_put_together : Stmt := top 71
abbrev st__law_row_at : Stmt := top 57
abbrev st__law_keeps : Stmt := top 58
abbrev st_row_worth : Stmt := top 26
abbrev st_does_keep_in : Stmt := top 27
abbrev st_is_point_of : Stmt := top 25
abbrev st_require_point_of : Stmt := top 39
abbrev st_does_keep : Stmt := top 44
abbrev st__law_roll : Stmt := top 53
abbrev st__law_pick : Stmt := top 54
abbrev st__law_rw_point : Stmt := top 65
abbrev st__law_matrix : Stmt := top 72
abbrev st__law_led_right : Stmt := top 73
abbrev st_weighted_row : Stmt := top 45
abbrev st__law_rw_weights : Stmt := top 66
abbrev st__law_shuffled : Stmt := top 55
abbrev st__law_rw_number : Stmt := top 62
abbrev st_row_at : Stmt := top 43
abbrev st__law_opposite_row : Stmt := top 60
abbrev st__law_rw_box : Stmt := top 67
abbrev st__law_divisor : Stmt := top 56
abbrev st__law_shared : Stmt := top 68
abbrev st__law_summed : Stmt := top 59
abbrev st__law_cuts_right : Stmt := top 70
abbrev st__law_lot : Stmt := top 61
abbrev st__law_small : Stmt := top 74
abbrev st__law_dividing : Stmt := top 69
abbrev st__law_rw_lot : Stmt := top 63
abbrev st__law_rw_any : Stmt := top 64
abbrev st__law_right : Stmt := top 75
abbrev st__law_dice : Stmt := top 52
abbrev st_law : Stmt := top 76
def frees : List Str := ["int", "isinstance", "bool", "tuple", "len", "all", "sorted", "list", "range", "zip", "abs", "sum", "repr", "max", "min"]
def cs : List (Str × D) := [("FAR", c_FAR), ("PAIR_SIZE", c_PAIR_SIZE), ("MOST_PLACES", c_MOST_PLACES), ("MOST_ROWS", c_MOST_ROWS), ("MOST_LED", c_MOST_LED)]
def ds : List PDef := [⟨"is_whole", st_is_whole⟩, ⟨"is_near", st_is_near⟩, ⟨"is_near_row", st_is_near_row⟩, ⟨"require_row", st_require_row⟩, ⟨"is_pair", st_is_pair⟩, ⟨"is_lot_in", st_is_lot_in⟩, ⟨"require_lot", st_require_lot⟩, ⟨"put_row", st_put_row⟩, ⟨"turned_row", st_turned_row⟩, ⟨"is_sequence_of", st_is_sequence_of⟩, ⟨"turned_lot", st_turned_lot⟩, ⟨"led_row", st_led_row⟩, ⟨"led_in", st_led_in⟩, ⟨"is_matrix", st_is_matrix⟩, ⟨"led_lot", st_led_lot⟩, ⟨"cut_by", st_cut_by⟩, ⟨"does_divide", st_does_divide⟩, ⟨"weighted_by", st_weighted_by⟩, ⟨"weighted_in", st_weighted_in⟩, ⟨"require_number", st_require_number⟩, ⟨"is_ascending", st_is_ascending⟩, ⟨"is_weight", st_is_weight⟩, ⟨"are_weights_by", st_are_weights_by⟩, ⟨"are_weights_in", st_are_weights_in⟩, ⟨"require_weights", st_require_weights⟩, ⟨"cut_row", st_cut_row⟩, ⟨"opposite_in", st_opposite_in⟩, ⟨"is_free_row", st_is_free_row⟩, ⟨"require_free_row", st_require_free_row⟩, ⟨"opposite_row", st_opposite_row⟩, ⟨"_law_put_together", st__law_put_together⟩, ⟨"_law_row_at", st__law_row_at⟩, ⟨"_law_keeps", st__law_keeps⟩, ⟨"row_worth", st_row_worth⟩, ⟨"does_keep_in", st_does_keep_in⟩, ⟨"is_point_of", st_is_point_of⟩, ⟨"require_point_of", st_require_point_of⟩, ⟨"does_keep", st_does_keep⟩, ⟨"_law_roll", st__law_roll⟩, ⟨"_law_pick", st__law_pick⟩, ⟨"_law_rw_point", st__law_rw_point⟩, ⟨"_law_matrix", st__law_matrix⟩, ⟨"_law_led_right", st__law_led_right⟩, ⟨"weighted_row", st_weighted_row⟩, ⟨"_law_rw_weights", st__law_rw_weights⟩, ⟨"_law_shuffled", st__law_shuffled⟩, ⟨"_law_rw_number", st__law_rw_number⟩, ⟨"row_at", st_row_at⟩, ⟨"_law_opposite_row", st__law_opposite_row⟩, ⟨"_law_rw_box", st__law_rw_box⟩, ⟨"_law_divisor", st__law_divisor⟩, ⟨"_law_shared", st__law_shared⟩, ⟨"_law_summed", st__law_summed⟩, ⟨"_law_cuts_right", st__law_cuts_right⟩, ⟨"_law_lot", st__law_lot⟩, ⟨"_law_small", st__law_small⟩, ⟨"_law_dividing", st__law_dividing⟩, ⟨"_law_rw_lot", st__law_rw_lot⟩, ⟨"_law_rw_any", st__law_rw_any⟩, ⟨"_law_right", st__law_right⟩, ⟨"_law_dice", st__law_dice⟩, ⟨"law", st_law⟩]
section
variable {P : Program} {w : World} {K : PySem.W.Frag} {mg : Str → Option Value} {base : Heap}
theorem hU1 {k : Nat} {A : Around} (hr : Room k A) : A.units + 200 < cLine := by have := hr.un; omega
theorem hU2 {k : Nat} {A : Around} (hr : Room k A) : A.units + 64 < cLine := by have := hr.un; omega
theorem sc_is_whole : FnScope ["value"] ["value"] (defScope st_is_whole) := ⟨rfl, rfl, rfl, by decide +kernel, rfl, by decide +kernel, by decide +kernel⟩
theorem w_is_whole (G : PF K mg frees cs ds) : Fun1 P w K mg base 1 "is_whole" ["value"] [] f_is_whole :=
  have S := sc_is_whole
  fun1 (N := ["value"]) (ps := ["value"]) (G.fn 0 rfl) S (fun _ _ _ _ _ _ us hl => match us, hl with | [_], _ => rfl) (by decide) fun f cdv A outer s H E Z gd hr =>
    dss_one (ds_ret (DE.toM (de_and (de_callB bc_isi (by rfl) (G.free 1 rfl) (by decide +kernel) (dar_cons (dr_var (pv 0)) (dar_cons (DE.toR (de_ty (by rfl) (G.free 0 rfl) (by decide +kernel) (by decide) (by decide))) (dar_nil) rfl) rfl) (by decide) (by decide) rfl rfl) (de_one (de_not (DE.toR (de_callB bc_isi (by rfl) (G.free 1 rfl) (by decide +kernel) (dar_cons (dr_var (pv 0)) (dar_cons (DE.toR (de_ty (by rfl) (G.free 2 rfl) (by decide +kernel) (by decide) (by decide))) (dar_nil) rfl) rfl) (by decide) (by decide) rfl rfl)))))))

theorem sc_is_near : FnScope ["value"] ["value"] (defScope st_is_near) := ⟨rfl, rfl, rfl, by decide +kernel, rfl, by decide +kernel, by decide +kernel⟩
theorem w_is_near (G : PF K mg frees cs ds) : Fun1 P w K mg base 2 "is_near" ["value"] [] f_is_near :=
  have S := sc_is_near
  fun1 (N := ["value"]) (ps := ["value"]) (G.fn 1 rfl) S (fun _ _ _ _ _ _ us hl => match us, hl with | [_], _ => rfl) (by decide) fun f cdv A outer s H E Z gd hr =>
    dss_one (ds_ret (DE.toM (de_and (de_fn (Fun1.calls (w_is_whole G) gd hr (by decide) (by rfl) (by decide)) (by decide) (da_cons (de_var (pv 0)) (da_nil) rfl) rfl rfl) (de_one (de_chain bop_lt bop_lt (DE.toR (de_unB bun_neg (DE.toR (de_glob (by rfl) (G.con 0 rfl) (by decide))))) (dr_var (pv 0)) (DE.toR (de_glob (by rfl) (G.con 0 rfl) (by decide))) (by rfl))))))

theorem sc_is_near_row : FnScope ["v", "value", "number"] ["v", "value"] (defScope st_is_near_row) := ⟨rfl, rfl, rfl, by decide +kernel, rfl, by decide +kernel, by decide +kernel⟩
theorem w_is_near_row (G : PF K mg frees cs ds) : Fun1 P w K mg base 3 "is_near_row" ["v", "value"] [] f_is_near_row :=
  have S := sc_is_near_row
  fun1 (N := ["v", "value", "number"]) (ps := ["v", "value"]) (G.fn 2 rfl) S (fun _ _ _ _ _ _ us hl => match us, hl with | [_, _], _ => rfl) (by decide) fun f cdv A outer s H E Z gd hr =>
    dss_one (ds_ret (DE.toM (de_and (de_callB bc_isi (by rfl) (G.free 1 rfl) (by decide +kernel) (dar_cons (dr_var (pv 1)) (dar_cons (DE.toR (de_ty (by rfl) (G.free 3 rfl) (by decide +kernel) (by decide) (by decide))) (dar_nil) rfl) rfl) (by decide) (by decide) rfl rfl) (de_and (de_cmpB (bop_eq (hU2 hr)) (DE.toR (de_callB bc_len (by rfl) (G.free 4 rfl) (by decide +kernel) (dar_cons (dr_var (pv 1)) (dar_nil) rfl) (by decide) (by decide) rfl rfl)) (DE.toR (de_bop bop_add (dr_var (pv 0)) (DE.toR (de_int)))) (nomark _)) (de_one (de_callB (bc_all rfl) (by rfl) (G.free 5 rfl) (by decide +kernel) (dar_cons (DE.toR (DF.toE (df_lcx (.one 2) [("number", 2)] rfl S.nd (di_seq (de_var (pv 1))) (by kernel_rfl) (fun _ _ _ _ _ => pg_name (i := 2) S.nd rfl (by first | exact .inl rfl | exact .inr rfl)) (by decide) (fun _ _ _ _ _ _ => dts_nil) (fun _ _ _ _ _ _ => de_fn (Fun1.calls (w_is_near G) gd hr (by decide) (by rfl) (by decide)) (by decide) (da_cons (de_var (pv 2)) (da_nil) rfl) rfl rfl) (fun _ => rfl)))) (dar_nil) rfl) (by decide) (by decide) rfl rfl))))))

theorem sc_require_row : FnScope ["lot", "row"] ["lot", "row"] (defScope st_require_row) := ⟨rfl, rfl, rfl, by decide +kernel, rfl, by decide +kernel, by decide +kernel⟩
theorem w_require_row (G : PF K mg frees cs ds) : Fun1 P w K mg base 4 "require_row" ["lot", "row"] [] f_require_row :=
  have S := sc_require_row
  fun1 (N := ["lot", "row"]) (ps := ["lot", "row"]) (G.fn 3 rfl) S (fun _ _ _ _ _ _ us hl => match us, hl with | [_, _], _ => rfl) (by decide) fun f cdv A outer s H E Z gd hr =>
    dss_one (ds_if (dt_not (dt_truth (DE.toR (de_fn (Fun1.calls (w_is_near_row G) gd hr (by decide) (by rfl) (by decide)) (by decide) (da_cons (de_ixB bix (dr_var (pv 0)) (DE.toR (de_int)) (fun _ _ => rfl)) (da_cons (de_var (pv 1)) (da_nil) rfl) rfl) rfl rfl)) (fun _ => rfl))) (dss_one (ds_never)) (dss_nil))

theorem sc_is_pair : FnScope ["value"] ["value"] (defScope st_is_pair) := ⟨rfl, rfl, rfl, by decide +kernel, rfl, by decide +kernel, by decide +kernel⟩
theorem w_is_pair (G : PF K mg frees cs ds) : Fun1 P w K mg base 1 "is_pair" ["value"] [] f_is_pair :=
  have S := sc_is_pair
  fun1 (N := ["value"]) (ps := ["value"]) (G.fn 4 rfl) S (fun _ _ _ _ _ _ us hl => match us, hl with | [_], _ => rfl) (by decide) fun f cdv A outer s H E Z gd hr =>
    dss_one (ds_ret (DE.toM (de_and (de_callB bc_isi (by rfl) (G.free 1 rfl) (by decide +kernel) (dar_cons (dr_var (pv 0)) (dar_cons (DE.toR (de_ty (by rfl) (G.free 3 rfl) (by decide +kernel) (by decide) (by decide))) (dar_nil) rfl) rfl) (by decide) (by decide) rfl rfl) (de_one (de_cmpB (bop_eq (hU2 hr)) (DE.toR (de_callB bc_len (by rfl) (G.free 4 rfl) (by decide +kernel) (dar_cons (dr_var (pv 0)) (dar_nil) rfl) (by decide) (by decide) rfl rfl)) (DE.toR (de_glob (by rfl) (G.con 1 rfl) (by decide))) (nomark _))))))

theorem sc_is_lot_in : FnScope ["value", "row"] ["value"] (defScope st_is_lot_in) := ⟨rfl, rfl, rfl, by decide +kernel, rfl, by decide +kernel, by decide +kernel⟩
theorem w_is_lot_in (G : PF K mg frees cs ds) : Fun1 P w K mg base 4 "is_lot_in" ["value"] [] f_is_lot_in :=
  have S := sc_is_lot_in
  fun1 (N := ["value", "row"]) (ps := ["value"]) (G.fn 5 rfl) S (fun _ _ _ _ _ _ us hl => match us, hl with | [_], _ => rfl) (by decide) fun f cdv A outer s H E Z gd hr =>
    dss_cons (ds_if (DW.pt (dw_or (dt_not (dt_truth (DE.toR (de_fn (Fun1.calls (w_is_pair G) gd hr (by decide) (by rfl) (by decide)) (by decide) (da_cons (de_var (pv 0)) (da_nil) rfl) rfl rfl)) (fun _ => rfl))) (dw_or (dt_not (dt_truth (DE.toR (de_fn (Fun1.calls (w_is_near G) gd hr (by decide) (by rfl) (by decide)) (by decide) (da_cons (de_ixB bix (dr_var (pv 0)) (DE.toR (de_int)) (fun _ _ => rfl)) (da_nil) rfl) rfl rfl)) (fun _ => rfl))) (dw_or1 (dt_not (dt_chain bop_le bop_le (DE.toR (de_int)) (DE.toR (de_ixB bix (dr_var (pv 0)) (DE.toR (de_int)) (fun _ _ => rfl))) (DE.toR (de_glob (by rfl) (G.con 2 rfl) (by decide))) (by rfl))))))) (dss_one (ds_ret (DE.toM (de_bl)))) (dss_nil))
    (dss_cons (ds_if (DW.pt (dw_or (dt_not (dt_truth (DE.toR (de_callB bc_isi (by rfl) (G.free 1 rfl) (by decide +kernel) (dar_cons (DE.toR (de_ixB bix (dr_var (pv 0)) (DE.toR (de_int)) (fun _ _ => rfl))) (dar_cons (DE.toR (de_ty (by rfl) (G.free 3 rfl) (by decide +kernel) (by decide) (by decide))) (dar_nil) rfl) rfl) (by decide) (by decide) rfl rfl)) (fun _ => rfl))) (dw_or1 (dt_cmp bop_gt (DE.toR (de_callB bc_len (by rfl) (G.free 4 rfl) (by decide +kernel) (dar_cons (DE.toR (de_ixB bix (dr_var (pv 0)) (DE.toR (de_int)) (fun _ _ => rfl))) (dar_nil) rfl) (by decide) (by decide) rfl rfl)) (DE.toR (de_glob (by rfl) (G.con 3 rfl) (by decide))) (nomark _))))) (dss_one (ds_ret (DE.toM (de_bl)))) (dss_nil))
    (dss_one (ds_ret (DE.toM (de_callB (bc_all rfl) (by rfl) (G.free 5 rfl) (by decide +kernel) (dar_cons (DE.toR (DF.toE (df_lcx (.one 1) [("row", 1)] rfl S.nd (di_seq (de_ixB bix (dr_var (pv 0)) (DE.toR (de_int)) (fun _ _ => rfl))) (by kernel_rfl) (fun _ _ _ _ _ => pg_name (i := 1) S.nd rfl (by first | exact .inl rfl | exact .inr rfl)) (by decide) (fun _ _ _ _ _ _ => dts_nil) (fun _ _ _ _ _ _ => de_fn (Fun1.calls (w_is_near_row G) gd hr (by decide) (by rfl) (by decide)) (by decide) (da_cons (de_ixB bix (dr_var (pv 0)) (DE.toR (de_int)) (fun _ _ => rfl)) (da_cons (de_var (pv 1)) (da_nil) rfl) rfl) rfl rfl) (fun _ => rfl)))) (dar_nil) rfl) (by decide) (by decide) rfl rfl)))))

theorem sc_require_lot : FnScope ["lot"] ["lot"] (defScope st_require_lot) := ⟨rfl, rfl, rfl, by decide +kernel, rfl, by decide +kernel, by decide +kernel⟩
theorem w_require_lot (G : PF K mg frees cs ds) : Fun1 P w K mg base 5 "require_lot" ["lot"] [] f_require_lot :=
  have S := sc_require_lot
  fun1 (N := ["lot"]) (ps := ["lot"]) (G.fn 6 rfl) S (fun _ _ _ _ _ _ us hl => match us, hl with | [_], _ => rfl) (by decide) fun f cdv A outer s H E Z gd hr =>
    dss_one (ds_if (dt_not (dt_truth (DE.toR (de_fn (Fun1.calls (w_is_lot_in G) gd hr (by decide) (by rfl) (by decide)) (by decide) (da_cons (de_var (pv 0)) (da_nil) rfl) rfl rfl)) (fun _ => rfl))) (dss_one (ds_never)) (dss_nil))

theorem sc_put_row : FnScope ["lot", "row"] ["lot", "row"] (defScope st_put_row) := ⟨rfl, rfl, rfl, by decide +kernel, rfl, by decide +kernel, by decide +kernel⟩
theorem w_put_row (G : PF K mg frees cs ds) : Fun1 P w K mg base 6 "put_row" ["lot", "row"] [] f_put_row :=
  have S := sc_put_row
  fun1 (N := ["lot", "row"]) (ps := ["lot", "row"]) (G.fn 7 rfl) S (fun _ _ _ _ _ _ us hl => match us, hl with | [_, _], _ => rfl) (by decide) fun f cdv A outer s H E Z gd hr =>
    dss_cons (ds_expr (DE.toM (de_fn (Fun1.calls (w_require_lot G) gd hr (by decide) (by rfl) (by decide)) (by decide) (da_cons (de_var (pv 0)) (da_nil) rfl) rfl rfl)) rfl)
    (dss_cons (ds_expr (DE.toM (de_fn (Fun1.calls (w_require_row G) gd hr (by decide) (by rfl) (by decide)) (by decide) (da_cons (de_var (pv 0)) (da_cons (de_var (pv 1)) (da_nil) rfl) rfl) rfl rfl)) rfl)
    (dss_cons (ds_if (dt_cmp (bop_eq (hU2 hr)) (DE.toR (de_callB bc_len (by rfl) (G.free 4 rfl) (by decide +kernel) (dar_cons (DE.toR (de_ixB bix (dr_var (pv 0)) (DE.toR (de_int)) (fun _ _ => rfl))) (dar_nil) rfl) (by decide) (by decide) rfl rfl)) (DE.toR (de_glob (by rfl) (G.con 3 rfl) (by decide))) (nomark _)) (dss_one (ds_never)) (dss_nil))
    (dss_one (ds_ret (DE.toM (de_tup (da_cons (de_ixB bix (dr_var (pv 0)) (DE.toR (de_int)) (fun _ _ => rfl)) (da_cons (de_tup (da_star (DE.toR (de_ixB bix (dr_var (pv 0)) (DE.toR (de_int)) (fun _ _ => rfl))) (da_cons (de_var (pv 1)) (da_nil) rfl) rfl)) (da_nil) rfl) rfl)))))))

theorem sc_turned_row : FnScope ["row", "order", "place"] ["row", "order"] (defScope st_turned_row) := ⟨rfl, rfl, rfl, by decide +kernel, rfl, by decide +kernel, by decide +kernel⟩
theorem w_turned_row (G : PF K mg frees cs ds) : Fun1 P w K mg base 1 "turned_row" ["row", "order"] [] f_turned_row :=
  have S := sc_turned_row
  fun1 (N := ["row", "order", "place"]) (ps := ["row", "order"]) (G.fn 8 rfl) S (fun _ _ _ _ _ _ us hl => match us, hl with | [_, _], _ => rfl) (by decide) fun f cdv A outer s H E Z gd hr =>
    dss_one (ds_ret (DE.toM (de_tup (da_star (DE.toR (DF.toE (df_lcx (.one 2) [("place", 2)] rfl S.nd (di_seq (de_var (pv 1))) (by kernel_rfl) (fun _ _ _ _ _ => pg_name (i := 2) S.nd rfl (by first | exact .inl rfl | exact .inr rfl)) (by decide) (fun _ _ _ _ _ _ => dts_nil) (fun _ _ _ _ _ _ => de_ixB bix (dr_var (pv 0)) (dr_var (pv 2)) (fun _ _ => rfl)) (fun _ => rfl)))) (da_cons (de_ixB bix (dr_var (pv 0)) (DE.toR (de_unB bun_neg (DE.toR (de_int)))) (fun _ _ => rfl)) (da_nil) rfl) rfl))))

theorem sc_is_sequence_of : FnScope ["v", "value", "place"] ["v", "value"] (defScope st_is_sequence_of) := ⟨rfl, rfl, rfl, by decide +kernel, rfl, by decide +kernel, by decide +kernel⟩
theorem w_is_sequence_of (G : PF K mg frees cs ds) : Fun1 P w K mg base 2 "is_sequence_of" ["v", "value"] [] f_is_sequence_of :=
  have S := sc_is_sequence_of
  fun1 (N := ["v", "value", "place"]) (ps := ["v", "value"]) (G.fn 9 rfl) S (fun _ _ _ _ _ _ us hl => match us, hl with | [_, _], _ => rfl) (by decide) fun f cdv A outer s H E Z gd hr =>
    dss_cons (ds_if (DW.pt (dw_or (dt_not (dt_truth (DE.toR (de_callB bc_isi (by rfl) (G.free 1 rfl) (by decide +kernel) (dar_cons (dr_var (pv 1)) (dar_cons (DE.toR (de_ty (by rfl) (G.free 3 rfl) (by decide +kernel) (by decide) (by decide))) (dar_nil) rfl) rfl) (by decide) (by decide) rfl rfl)) (fun _ => rfl))) (dw_or (dt_cmp (bop_ne (hU2 hr)) (DE.toR (de_callB bc_len (by rfl) (G.free 4 rfl) (by decide +kernel) (dar_cons (dr_var (pv 1)) (dar_nil) rfl) (by decide) (by decide) rfl rfl)) (dr_var (pv 0)) (nomark _)) (dw_or1 (dt_not (dt_truth (DE.toR (de_callB (bc_all rfl) (by rfl) (G.free 5 rfl) (by decide +kernel) (dar_cons (DE.toR (DF.toE (df_lcx (.one 2) [("place", 2)] rfl S.nd (di_seq (de_var (pv 1))) (by kernel_rfl) (fun _ _ _ _ _ => pg_name (i := 2) S.nd rfl (by first | exact .inl rfl | exact .inr rfl)) (by decide) (fun _ _ _ _ _ _ => dts_nil) (fun _ _ _ _ _ _ => de_fn (Fun1.calls (w_is_whole G) gd hr (by decide) (by rfl) (by decide)) (by decide) (da_cons (de_var (pv 2)) (da_nil) rfl) rfl rfl) (fun _ => rfl)))) (dar_nil) rfl) (by decide) (by decide) rfl rfl)) (fun _ => rfl))))))) (dss_one (ds_ret (DE.toM (de_bl)))) (dss_nil))
    (dss_one (ds_ret (DE.toM (de_cmpB (bop_eq (hU2 hr)) (DE.toR (DF.toE (df_sortI (by rfl) (G.free 6 rfl) (by decide +kernel) (dar_cons (dr_var (pv 1)) (dar_nil) rfl) rfl rfl))) (DE.toR (DF.toE (df_listRg rfl (by rfl) (G.free 7 rfl) (by rfl) (G.free 8 rfl) (dr_var (pv 0)) rfl rfl))) (nomark _)))))

theorem sc_turned_lot : FnScope ["lot", "order", "row"] ["lot", "order"] (defScope st_turned_lot) := ⟨rfl, rfl, rfl, by decide +kernel, rfl, by decide +kernel, by decide +kernel⟩
theorem w_turned_lot (G : PF K mg frees cs ds) : Fun1 P w K mg base 6 "turned_lot" ["lot", "order"] [] f_turned_lot :=
  have S := sc_turned_lot
  fun1 (N := ["lot", "order", "row"]) (ps := ["lot", "order"]) (G.fn 10 rfl) S (fun _ _ _ _ _ _ us hl => match us, hl with | [_, _], _ => rfl) (by decide) fun f cdv A outer s H E Z gd hr =>
    dss_cons (ds_expr (DE.toM (de_fn (Fun1.calls (w_require_lot G) gd hr (by decide) (by rfl) (by decide)) (by decide) (da_cons (de_var (pv 0)) (da_nil) rfl) rfl rfl)) rfl)
    (dss_cons (ds_if (dt_not (dt_truth (DE.toR (de_fn (Fun1.calls (w_is_sequence_of G) gd hr (by decide) (by rfl) (by decide)) (by decide) (da_cons (de_ixB bix (dr_var (pv 0)) (DE.toR (de_int)) (fun _ _ => rfl)) (da_cons (de_var (pv 1)) (da_nil) rfl) rfl) rfl rfl)) (fun _ => rfl))) (dss_one (ds_never)) (dss_nil))
    (dss_one (ds_ret (DE.toM (de_tup (da_cons (de_ixB bix (dr_var (pv 0)) (DE.toR (de_int)) (fun _ _ => rfl)) (da_cons (de_callT bc_tup (by rfl) (G.free 3 rfl) (by decide +kernel) (dar_cons (DE.toR (DF.toE (df_lcx (.one 2) [("row", 2)] rfl S.nd (di_seq (de_ixB bix (dr_var (pv 0)) (DE.toR (de_int)) (fun _ _ => rfl))) (by kernel_rfl) (fun _ _ _ _ _ => pg_name (i := 2) S.nd rfl (by first | exact .inl rfl | exact .inr rfl)) (by decide) (fun _ _ _ _ _ _ => dts_nil) (fun _ _ _ _ _ _ => de_fn (Fun1.calls (w_turned_row G) gd hr (by decide) (by rfl) (by decide)) (by decide) (da_cons (de_var (pv 2)) (da_cons (de_var (pv 1)) (da_nil) rfl) rfl) rfl rfl) (fun _ => rfl)))) (dar_nil) rfl) (by decide) (by decide) rfl rfl) (da_nil) rfl) rfl))))))

theorem sc_led_row : FnScope ["row", "matrix", "wide", "found", "number", "told", "one", "member"] ["row", "matrix", "wide"] (defScope st_led_row) := ⟨rfl, rfl, rfl, by decide +kernel, rfl, by decide +kernel, by decide +kernel⟩
theorem w_led_row (G : PF K mg frees cs ds) : Fun1 P w K mg base 1 "led_row" ["row", "matrix", "wide"] [] f_led_row :=
  have S := sc_led_row
  fun1 (N := ["row", "matrix", "wide", "found", "number", "told", "one", "member"]) (ps := ["row", "matrix", "wide"]) (G.fn 11 rfl) S (fun _ _ _ _ _ _ us hl => match us, hl with | [_, _, _], _ => rfl) (by decide) fun f cdv A outer s H E Z gd hr =>
    dss_cons (ds_set S.nd rfl (by first | exact .inl rfl | exact .inr rfl) (DE.toM (DF.toE (df_cat (DE.toR (DF.toE (df_rep (DE.toR (DF.toE (df_lst (da_cons (de_int) (da_nil) rfl)))) (DE.toR (de_bop bop_sub (dr_var (pv 2)) (DE.toR (de_int))))))) (DE.toR (DF.toE (df_lst (da_cons (de_ixB bix (dr_var (pv 0)) (DE.toR (de_unB bun_neg (DE.toR (de_int)))) (fun _ _ => rfl)) (da_nil) rfl))))))) rfl (.inl rfl))
    (dss_cons (ds_for (T := .many [4, 5]) (passes_of rfl) rfl (di_zip (by rfl) (G.free 9 rfl) (da_cons (de_var (pv 0)) (da_cons (de_var (pv 1)) (da_nil) rfl) rfl) rfl rfl) (pg_tup rfl (pgs_cons (pg_name (i := 4) S.nd rfl (by first | exact .inl rfl | exact .inr rfl)) (pgs_cons (pg_name (i := 5) S.nd rfl (by first | exact .inl rfl | exact .inr rfl)) (pgs_nil)))) (dss_one (ds_setLcx (.many [6, 7]) [("one", 6), ("member", 7)] rfl S.nd rfl rfl rfl (di_zip (by rfl) (G.free 9 rfl) (da_cons (de_var (pv 3)) (da_cons (de_var (pv 5)) (da_nil) rfl) rfl) rfl rfl) (by kernel_rfl) (fun _ _ _ _ _ => pg_tup rfl (pgs_cons (pg_name (i := 6) S.nd rfl (by first | exact .inl rfl | exact .inr rfl)) (pgs_cons (pg_name (i := 7) S.nd rfl (by first | exact .inl rfl | exact .inr rfl)) (pgs_nil)))) (by decide) (fun _ _ _ _ _ _ => dts_nil) (fun _ _ _ _ _ _ => de_bop bop_add (dr_var (pv 6)) (DE.toR (de_bop bop_mul (dr_var (pv 4)) (dr_var (pv 7))))) (fun _ => rfl))) (fun _ => rfl))
    (dss_one (ds_ret (DE.toM (de_callT bc_tup (by rfl) (G.free 3 rfl) (by decide +kernel) (dar_cons (dr_var (pv 3)) (dar_nil) rfl) (by decide) (by decide) rfl rfl)))))

theorem sc_led_in : FnScope ["lot", "matrix", "wide", "row"] ["lot", "matrix"] (defScope st_led_in) := ⟨rfl, rfl, rfl, by decide +kernel, rfl, by decide +kernel, by decide +kernel⟩
theorem w_led_in (G : PF K mg frees cs ds) : Fun1 P w K mg base 2 "led_in" ["lot", "matrix"] [] f_led_in :=
  have S := sc_led_in
  fun1 (N := ["lot", "matrix", "wide", "row"]) (ps := ["lot", "matrix"]) (G.fn 12 rfl) S (fun _ _ _ _ _ _ us hl => match us, hl with | [_, _], _ => rfl) (by decide) fun f cdv A outer s H E Z gd hr =>
    dss_cons (ds_set S.nd rfl (by first | exact .inl rfl | exact .inr rfl) (DE.toM (de_if (dt_cmp (bop_ne (hU2 hr)) (dr_var (pv 1)) (DE.toR (de_tup (da_nil))) (nomark _)) (de_callB bc_len (by rfl) (G.free 4 rfl) (by decide +kernel) (dar_cons (DE.toR (de_ixB bix (dr_var (pv 1)) (DE.toR (de_int)) (fun _ _ => rfl))) (dar_nil) rfl) (by decide) (by decide) rfl rfl) (de_int))) rfl (.inl rfl))
    (dss_one (ds_ret (DE.toM (de_tup (da_cons (de_bop bop_sub (dr_var (pv 2)) (DE.toR (de_int))) (da_cons (de_callT bc_tup (by rfl) (G.free 3 rfl) (by decide +kernel) (dar_cons (DE.toR (DF.toE (df_lcx (.one 3) [("row", 3)] rfl S.nd (di_seq (de_ixB bix (dr_var (pv 0)) (DE.toR (de_int)) (fun _ _ => rfl))) (by kernel_rfl) (fun _ _ _ _ _ => pg_name (i := 3) S.nd rfl (by first | exact .inl rfl | exact .inr rfl)) (by decide) (fun _ _ _ _ _ _ => dts_nil) (fun _ _ _ _ _ _ => de_fn (Fun1.calls (w_led_row G) gd hr (by decide) (by rfl) (by decide)) (by decide) (da_cons (de_var (pv 3)) (da_cons (de_var (pv 1)) (da_cons (de_var (pv 2)) (da_nil) rfl) rfl) rfl) rfl rfl) (fun _ => rfl)))) (dar_nil) rfl) (by decide) (by decide) rfl rfl) (da_nil) rfl) rfl)))))

theorem sc_is_matrix : FnScope ["lot", "value", "row", "number"] ["lot", "value"] (defScope st_is_matrix) := ⟨rfl, rfl, rfl, by decide +kernel, rfl, by decide +kernel, by decide +kernel⟩
theorem w_is_matrix (G : PF K mg frees cs ds) : Fun1 P w K mg base 2 "is_matrix" ["lot", "value"] [] f_is_matrix :=
  have S := sc_is_matrix
  fun1 (N := ["lot", "value", "row", "number"]) (ps := ["lot", "value"]) (G.fn 13 rfl) S (fun _ _ _ _ _ _ us hl => match us, hl with | [_, _], _ => rfl) (by decide) fun f cdv A outer s H E Z gd hr =>
    dss_cons (ds_if (DW.pt (dw_or (dt_not (dt_truth (DE.toR (de_callB bc_isi (by rfl) (G.free 1 rfl) (by decide +kernel) (dar_cons (dr_var (pv 1)) (dar_cons (DE.toR (de_ty (by rfl) (G.free 3 rfl) (by decide +kernel) (by decide) (by decide))) (dar_nil) rfl) rfl) (by decide) (by decide) rfl rfl)) (fun _ => rfl))) (dw_or1 (dt_cmp (bop_ne (hU2 hr)) (DE.toR (de_callB bc_len (by rfl) (G.free 4 rfl) (by decide +kernel) (dar_cons (dr_var (pv 1)) (dar_nil) rfl) (by decide) (by decide) rfl rfl)) (DE.toR (de_ixB bix (dr_var (pv 0)) (DE.toR (de_int)) (fun _ _ => rfl))) (nomark _))))) (dss_one (ds_ret (DE.toM (de_bl)))) (dss_nil))
    (dss_cons (ds_if (dt_not (dt_truth (DE.toR (de_callB (bc_all rfl) (by rfl) (G.free 5 rfl) (by decide +kernel) (dar_cons (DE.toR (DF.toE (df_lcx (.one 2) [("row", 2)] rfl S.nd (di_seq (de_var (pv 1))) (by kernel_rfl) (fun _ _ _ _ _ => pg_name (i := 2) S.nd rfl (by first | exact .inl rfl | exact .inr rfl)) (by decide) (fun _ _ _ _ _ _ => dts_nil) (fun _ _ _ _ _ _ => de_and (de_callB bc_isi (by rfl) (G.free 1 rfl) (by decide +kernel) (dar_cons (dr_var (pv 2)) (dar_cons (DE.toR (de_ty (by rfl) (G.free 3 rfl) (by decide +kernel) (by decide) (by decide))) (dar_nil) rfl) rfl) (by decide) (by decide) rfl rfl) (de_one (de_chain bop_le bop_le (DE.toR (de_int)) (DE.toR (de_callB bc_len (by rfl) (G.free 4 rfl) (by decide +kernel) (dar_cons (dr_var (pv 2)) (dar_nil) rfl) (by decide) (by decide) rfl rfl)) (DE.toR (de_bop bop_add (DE.toR (de_glob (by rfl) (G.con 2 rfl) (by decide))) (DE.toR (de_int)))) (by rfl)))) (fun _ => rfl)))) (dar_nil) rfl) (by decide) (by decide) rfl rfl)) (fun _ => rfl))) (dss_one (ds_ret (DE.toM (de_bl)))) (dss_nil))
    (dss_cons (ds_if (dt_not (dt_truth (DE.toR (de_callB (bc_all rfl) (by rfl) (G.free 5 rfl) (by decide +kernel) (dar_cons (DE.toR (DF.toE (df_lcx (.one 2) [("row", 2)] rfl S.nd (di_seq (de_var (pv 1))) (by kernel_rfl) (fun _ _ _ _ _ => pg_name (i := 2) S.nd rfl (by first | exact .inl rfl | exact .inr rfl)) (by decide) (fun _ _ _ _ _ _ => dts_nil) (fun _ _ _ _ _ _ => de_cmpB (bop_eq (hU2 hr)) (DE.toR (de_callB bc_len (by rfl) (G.free 4 rfl) (by decide +kernel) (dar_cons (dr_var (pv 2)) (dar_nil) rfl) (by decide) (by decide) rfl rfl)) (DE.toR (de_callB bc_len (by rfl) (G.free 4 rfl) (by decide +kernel) (dar_cons (DE.toR (de_ixB bix (dr_var (pv 1)) (DE.toR (de_int)) (fun _ _ => rfl))) (dar_nil) rfl) (by decide) (by decide) rfl rfl)) (nomark _)) (fun _ => rfl)))) (dar_nil) rfl) (by decide) (by decide) rfl rfl)) (fun _ => rfl))) (dss_one (ds_ret (DE.toM (de_bl)))) (dss_nil))
    (dss_one (ds_ret (DE.toM (de_callB (bc_all rfl) (by rfl) (G.free 5 rfl) (by decide +kernel) (dar_cons (DE.toR (DF.toE (df_lc2 (.one 2) (.one 3) [("row", 2), ("number", 3)] [3] rfl S.nd (di_seq (de_var (pv 1))) (by kernel_rfl) (by decide) (fun _ _ _ _ _ => pg_name (i := 2) S.nd rfl (by first | exact .inl rfl | exact .inr rfl)) (by decide) (fun _ _ _ _ _ _ => dts_nil) (fun _ _ _ _ _ _ => di_seq (de_var (pv 2))) (fun _ _ _ _ _ => pg_name (i := 3) S.nd rfl (by first | exact .inl rfl | exact .inr rfl)) (by decide) (fun _ _ _ _ _ _ => dts_nil) (fun _ _ _ _ _ _ => de_and (de_fn (Fun1.calls (w_is_whole G) gd hr (by decide) (by rfl) (by decide)) (by decide) (da_cons (de_var (pv 3)) (da_nil) rfl) rfl rfl) (de_one (de_cmpB bop_le (DE.toR (de_callB bc_abs (by rfl) (G.free 10 rfl) (by decide +kernel) (dar_cons (dr_var (pv 3)) (dar_nil) rfl) (by decide) (by decide) rfl rfl)) (DE.toR (de_glob (by rfl) (G.con 4 rfl) (by decide))) (nomark _)))) (fun _ => rfl) (fun _ _ => rfl)))) (dar_nil) rfl) (by decide) (by decide) rfl rfl))))))

theorem sc_led_lot : FnScope ["lot", "matrix", "found", "row", "number"] ["lot", "matrix"] (defScope st_led_lot) := ⟨rfl, rfl, rfl, by decide +kernel, rfl, by decide +kernel, by decide +kernel⟩
theorem w_led_lot (G : PF K mg frees cs ds) : Fun1 P w K mg base 6 "led_lot" ["lot", "matrix"] [] f_led_lot :=
  have S := sc_led_lot
  fun1 (N := ["lot", "matrix", "found", "row", "number"]) (ps := ["lot", "matrix"]) (G.fn 14 rfl) S (fun _ _ _ _ _ _ us hl => match us, hl with | [_, _], _ => rfl) (by decide) fun f cdv A outer s H E Z gd hr =>
    dss_cons (ds_expr (DE.toM (de_fn (Fun1.calls (w_require_lot G) gd hr (by decide) (by rfl) (by decide)) (by decide) (da_cons (de_var (pv 0)) (da_nil) rfl) rfl rfl)) rfl)
    (dss_cons (ds_if (dt_not (dt_truth (DE.toR (de_fn (Fun1.calls (w_is_matrix G) gd hr (by decide) (by rfl) (by decide)) (by decide) (da_cons (de_var (pv 0)) (da_cons (de_var (pv 1)) (da_nil) rfl) rfl) rfl rfl)) (fun _ => rfl))) (dss_one (ds_never)) (dss_nil))
    (dss_cons (ds_set S.nd rfl (by first | exact .inl rfl | exact .inr rfl) (DE.toM (de_fn (Fun1.calls (w_led_in G) gd hr (by decide) (by rfl) (by decide)) (by decide) (da_cons (de_var (pv 0)) (da_cons (de_var (pv 1)) (da_nil) rfl) rfl) rfl rfl)) rfl (.inl rfl))
    (dss_cons (ds_if (dt_not (dt_truth (DE.toR (de_callB (bc_all rfl) (by rfl) (G.free 5 rfl) (by decide +kernel) (dar_cons (DE.toR (DF.toE (df_lc2 (.one 3) (.one 4) [("row", 3), ("number", 4)] [4] rfl S.nd (di_seq (de_ixB bix (dr_var (pv 2)) (DE.toR (de_int)) (fun _ _ => rfl))) (by kernel_rfl) (by decide) (fun _ _ _ _ _ => pg_name (i := 3) S.nd rfl (by first | exact .inl rfl | exact .inr rfl)) (by decide) (fun _ _ _ _ _ _ => dts_nil) (fun _ _ _ _ _ _ => di_seq (de_var (pv 3))) (fun _ _ _ _ _ => pg_name (i := 4) S.nd rfl (by first | exact .inl rfl | exact .inr rfl)) (by decide) (fun _ _ _ _ _ _ => dts_nil) (fun _ _ _ _ _ _ => de_fn (Fun1.calls (w_is_near G) gd hr (by decide) (by rfl) (by decide)) (by decide) (da_cons (de_var (pv 4)) (da_nil) rfl) rfl rfl) (fun _ => rfl) (fun _ _ => rfl)))) (dar_nil) rfl) (by decide) (by decide) rfl rfl)) (fun _ => rfl))) (dss_one (ds_never)) (dss_nil))
    (dss_one (ds_ret (DE.toM (de_var (pv 2))))))))

theorem sc_cut_by : FnScope ["row", "g", "number"] ["row", "g"] (defScope st_cut_by) := ⟨rfl, rfl, rfl, by decide +kernel, rfl, by decide +kernel, by decide +kernel⟩
theorem w_cut_by (G : PF K mg frees cs ds) : Fun1 P w K mg base 1 "cut_by" ["row", "g"] [] f_cut_by :=
  have S := sc_cut_by
  fun1 (N := ["row", "g", "number"]) (ps := ["row", "g"]) (G.fn 15 rfl) S (fun _ _ _ _ _ _ us hl => match us, hl with | [_, _], _ => rfl) (by decide) fun f cdv A outer s H E Z gd hr =>
    dss_one (ds_ret (DE.toM (de_callT bc_tup (by rfl) (G.free 3 rfl) (by decide +kernel) (dar_cons (DE.toR (DF.toE (df_lcx (.one 2) [("number", 2)] rfl S.nd (di_seq (de_var (pv 0))) (by kernel_rfl) (fun _ _ _ _ _ => pg_name (i := 2) S.nd rfl (by first | exact .inl rfl | exact .inr rfl)) (by decide) (fun _ _ _ _ _ _ => dts_nil) (fun _ _ _ _ _ _ => de_bop bop_fdiv (dr_var (pv 2)) (dr_var (pv 1))) (fun _ => rfl)))) (dar_nil) rfl) (by decide) (by decide) rfl rfl)))

theorem sc_does_divide : FnScope ["row", "g", "number"] ["row", "g"] (defScope st_does_divide) := ⟨rfl, rfl, rfl, by decide +kernel, rfl, by decide +kernel, by decide +kernel⟩
theorem w_does_divide (G : PF K mg frees cs ds) : Fun1 P w K mg base 1 "does_divide" ["row", "g"] [] f_does_divide :=
  have S := sc_does_divide
  fun1 (N := ["row", "g", "number"]) (ps := ["row", "g"]) (G.fn 16 rfl) S (fun _ _ _ _ _ _ us hl => match us, hl with | [_, _], _ => rfl) (by decide) fun f cdv A outer s H E Z gd hr =>
    dss_one (ds_ret (DE.toM (de_callB (bc_all rfl) (by rfl) (G.free 5 rfl) (by decide +kernel) (dar_cons (DE.toR (DF.toE (df_lcx (.one 2) [("number", 2)] rfl S.nd (di_seq (de_slice (dr_var (pv 0)) (do_none) (do_some (DE.toR (de_unB bun_neg (DE.toR (de_int))))))) (by kernel_rfl) (fun _ _ _ _ _ => pg_name (i := 2) S.nd rfl (by first | exact .inl rfl | exact .inr rfl)) (by decide) (fun _ _ _ _ _ _ => dts_nil) (fun _ _ _ _ _ _ => de_cmpB (bop_eq (hU2 hr)) (DE.toR (de_bop bop_mod (dr_var (pv 2)) (dr_var (pv 1)))) (DE.toR (de_int)) (nomark _)) (fun _ => rfl)))) (dar_nil) rfl) (by decide) (by decide) rfl rfl)))

theorem sc_weighted_by : FnScope ["rows", "v", "weights", "found", "at", "weight", "one", "number"] ["rows", "v", "weights"] (defScope st_weighted_by) := ⟨rfl, rfl, rfl, by decide +kernel, rfl, by decide +kernel, by decide +kernel⟩
theorem w_weighted_by (G : PF K mg frees cs ds) : Fun1 P w K mg base 1 "weighted_by" ["rows", "v", "weights"] [] f_weighted_by :=
  have S := sc_weighted_by
  fun1 (N := ["rows", "v", "weights", "found", "at", "weight", "one", "number"]) (ps := ["rows", "v", "weights"]) (G.fn 17 rfl) S (fun _ _ _ _ _ _ us hl => match us, hl with | [_, _, _], _ => rfl) (by decide) fun f cdv A outer s H E Z gd hr =>
    dss_cons (ds_set S.nd rfl (by first | exact .inl rfl | exact .inr rfl) (DE.toM (DF.toE (df_rep (DE.toR (DF.toE (df_lst (da_cons (de_int) (da_nil) rfl)))) (DE.toR (de_bop bop_add (dr_var (pv 1)) (DE.toR (de_int))))))) rfl (.inl rfl))
    (dss_cons (ds_for (T := .many [4, 5]) (passes_of rfl) rfl (di_seq (de_var (pv 2))) (pg_tup rfl (pgs_cons (pg_name (i := 4) S.nd rfl (by first | exact .inl rfl | exact .inr rfl)) (pgs_cons (pg_name (i := 5) S.nd rfl (by first | exact .inl rfl | exact .inr rfl)) (pgs_nil)))) (dss_one (ds_setLcx (.many [6, 7]) [("one", 6), ("number", 7)] rfl S.nd rfl rfl rfl (di_zip (by rfl) (G.free 9 rfl) (da_cons (de_var (pv 3)) (da_cons (de_ixB bix (dr_var (pv 0)) (dr_var (pv 4)) (fun _ _ => rfl)) (da_nil) rfl) rfl) rfl rfl) (by kernel_rfl) (fun _ _ _ _ _ => pg_tup rfl (pgs_cons (pg_name (i := 6) S.nd rfl (by first | exact .inl rfl | exact .inr rfl)) (pgs_cons (pg_name (i := 7) S.nd rfl (by first | exact .inl rfl | exact .inr rfl)) (pgs_nil)))) (by decide) (fun _ _ _ _ _ _ => dts_nil) (fun _ _ _ _ _ _ => de_bop bop_add (dr_var (pv 6)) (DE.toR (de_bop bop_mul (dr_var (pv 5)) (dr_var (pv 7))))) (fun _ => rfl))) (fun _ => rfl))
    (dss_one (ds_ret (DE.toM (de_callT bc_tup (by rfl) (G.free 3 rfl) (by decide +kernel) (dar_cons (dr_var (pv 3)) (dar_nil) rfl) (by decide) (by decide) rfl rfl)))))

theorem sc_weighted_in : FnScope ["lot", "weights"] ["lot", "weights"] (defScope st_weighted_in) := ⟨rfl, rfl, rfl, by decide +kernel, rfl, by decide +kernel, by decide +kernel⟩
theorem w_weighted_in (G : PF K mg frees cs ds) : Fun1 P w K mg base 2 "weighted_in" ["lot", "weights"] [] f_weighted_in :=
  have S := sc_weighted_in
  fun1 (N := ["lot", "weights"]) (ps := ["lot", "weights"]) (G.fn 18 rfl) S (fun _ _ _ _ _ _ us hl => match us, hl with | [_, _], _ => rfl) (by decide) fun f cdv A outer s H E Z gd hr =>
    dss_one (ds_ret (DE.toM (de_fn (Fun1.calls (w_weighted_by G) gd hr (by decide) (by rfl) (by decide)) (by decide) (da_cons (de_ixB bix (dr_var (pv 0)) (DE.toR (de_int)) (fun _ _ => rfl)) (da_cons (de_ixB bix (dr_var (pv 0)) (DE.toR (de_int)) (fun _ _ => rfl)) (da_cons (de_var (pv 1)) (da_nil) rfl) rfl) rfl) rfl rfl)))

theorem sc_require_number : FnScope ["value", "least", "most"] ["value", "least", "most"] (defScope st_require_number) := ⟨rfl, rfl, rfl, by decide +kernel, rfl, by decide +kernel, by decide +kernel⟩
theorem w_require_number (G : PF K mg frees cs ds) : Fun1 P w K mg base 3 "require_number" ["value", "least", "most"] [] f_require_number :=
  have S := sc_require_number
  fun1 (N := ["value", "least", "most"]) (ps := ["value", "least", "most"]) (G.fn 19 rfl) S (fun _ _ _ _ _ _ us hl => match us, hl with | [_, _, _], _ => rfl) (by decide) fun f cdv A outer s H E Z gd hr =>
    dss_one (ds_if (DW.pt (dw_or (dt_not (dt_truth (DE.toR (de_fn (Fun1.calls (w_is_near G) gd hr (by decide) (by rfl) (by decide)) (by decide) (da_cons (de_var (pv 0)) (da_nil) rfl) rfl rfl)) (fun _ => rfl))) (dw_or (DW.pt (dw_and (dt_cmp bop_isnot (dr_var (pv 1)) (DE.toR (de_non)) (nomark _)) (dw_and1 (dt_cmp bop_lt (dr_var (pv 0)) (dr_var (pv 1)) (nomark _))))) (dw_or1 (DW.pt (dw_and (dt_cmp bop_isnot (dr_var (pv 2)) (DE.toR (de_non)) (nomark _)) (dw_and1 (dt_cmp bop_gt (dr_var (pv 0)) (dr_var (pv 2)) (nomark _))))))))) (dss_one (ds_never)) (dss_nil))

theorem sc_is_ascending : FnScope ["items", "one", "other"] ["items"] (defScope st_is_ascending) := ⟨rfl, rfl, rfl, by decide +kernel, rfl, by decide +kernel, by decide +kernel⟩
theorem w_is_ascending (G : PF K mg frees cs ds) : Fun1 P w K mg base 1 "is_ascending" ["items"] [] f_is_ascending :=
  have S := sc_is_ascending
  fun1 (N := ["items", "one", "other"]) (ps := ["items"]) (G.fn 20 rfl) S (fun _ _ _ _ _ _ us hl => match us, hl with | [_], _ => rfl) (by decide) fun f cdv A outer s H E Z gd hr =>
    dss_one (ds_ret (DE.toM (de_callB (bc_all rfl) (by rfl) (G.free 5 rfl) (by decide +kernel) (dar_cons (DE.toR (DF.toE (df_lcx (.many [1, 2]) [("one", 1), ("other", 2)] rfl S.nd (di_zip (by rfl) (G.free 9 rfl) (da_cons (de_var (pv 0)) (da_cons (de_slice (dr_var (pv 0)) (do_some (DE.toR (de_int))) (do_none)) (da_nil) rfl) rfl) rfl rfl) (by kernel_rfl) (fun _ _ _ _ _ => pg_tup rfl (pgs_cons (pg_name (i := 1) S.nd rfl (by first | exact .inl rfl | exact .inr rfl)) (pgs_cons (pg_name (i := 2) S.nd rfl (by first | exact .inl rfl | exact .inr rfl)) (pgs_nil)))) (by decide) (fun _ _ _ _ _ _ => dts_nil) (fun _ _ _ _ _ _ => de_cmpB bop_lt (dr_var (pv 1)) (dr_var (pv 2)) (nomark _)) (fun _ => rfl)))) (dar_nil) rfl) (by decide) (by decide) rfl rfl)))

theorem sc_is_weight : FnScope ["many", "value"] ["many", "value"] (defScope st_is_weight) := ⟨rfl, rfl, rfl, by decide +kernel, rfl, by decide +kernel, by decide +kernel⟩
theorem w_is_weight (G : PF K mg frees cs ds) : Fun1 P w K mg base 2 "is_weight" ["many", "value"] [] f_is_weight :=
  have S := sc_is_weight
  fun1 (N := ["many", "value"]) (ps := ["many", "value"]) (G.fn 21 rfl) S (fun _ _ _ _ _ _ us hl => match us, hl with | [_, _], _ => rfl) (by decide) fun f cdv A outer s H E Z gd hr =>
    dss_cons (ds_if (DW.pt (dw_or (dt_not (dt_truth (DE.toR (de_fn (Fun1.calls (w_is_pair G) gd hr (by decide) (by rfl) (by decide)) (by decide) (da_cons (de_var (pv 1)) (da_nil) rfl) rfl rfl)) (fun _ => rfl))) (dw_or (dt_not (dt_truth (DE.toR (de_fn (Fun1.calls (w_is_whole G) gd hr (by decide) (by rfl) (by decide)) (by decide) (da_cons (de_ixB bix (dr_var (pv 1)) (DE.toR (de_int)) (fun _ _ => rfl)) (da_nil) rfl) rfl rfl)) (fun _ => rfl))) (dw_or1 (dt_not (dt_truth (DE.toR (de_fn (Fun1.calls (w_is_whole G) gd hr (by decide) (by rfl) (by decide)) (by decide) (da_cons (de_ixB bix (dr_var (pv 1)) (DE.toR (de_int)) (fun _ _ => rfl)) (da_nil) rfl) rfl rfl)) (fun _ => rfl))))))) (dss_one (ds_ret (DE.toM (de_bl)))) (dss_nil))
    (dss_one (ds_ret (DE.toM (de_and (de_chain bop_le bop_lt (DE.toR (de_int)) (DE.toR (de_ixB bix (dr_var (pv 1)) (DE.toR (de_int)) (fun _ _ => rfl))) (dr_var (pv 0)) (by rfl)) (de_one (de_cmpB bop_ge (DE.toR (de_ixB bix (dr_var (pv 1)) (DE.toR (de_int)) (fun _ _ => rfl))) (DE.toR (de_int)) (nomark _)))))))

theorem sc_are_weights_by : FnScope ["many", "value", "one"] ["many", "value"] (defScope st_are_weights_by) := ⟨rfl, rfl, rfl, by decide +kernel, rfl, by decide +kernel, by decide +kernel⟩
theorem w_are_weights_by (G : PF K mg frees cs ds) : Fun1 P w K mg base 3 "are_weights_by" ["many", "value"] [] f_are_weights_by :=
  have S := sc_are_weights_by
  fun1 (N := ["many", "value", "one"]) (ps := ["many", "value"]) (G.fn 22 rfl) S (fun _ _ _ _ _ _ us hl => match us, hl with | [_, _], _ => rfl) (by decide) fun f cdv A outer s H E Z gd hr =>
    dss_cons (ds_if (DW.pt (dw_or (dt_not (dt_truth (DE.toR (de_callB bc_isi (by rfl) (G.free 1 rfl) (by decide +kernel) (dar_cons (dr_var (pv 1)) (dar_cons (DE.toR (de_ty (by rfl) (G.free 3 rfl) (by decide +kernel) (by decide) (by decide))) (dar_nil) rfl) rfl) (by decide) (by decide) rfl rfl)) (fun _ => rfl))) (dw_or (dt_cmp (bop_eq (hU2 hr)) (dr_var (pv 1)) (DE.toR (de_tup (da_nil))) (nomark _)) (dw_or1 (dt_not (dt_truth (DE.toR (de_callB (bc_all rfl) (by rfl) (G.free 5 rfl) (by decide +kernel) (dar_cons (DE.toR (DF.toE (df_lcx (.one 2) [("one", 2)] rfl S.nd (di_seq (de_var (pv 1))) (by kernel_rfl) (fun _ _ _ _ _ => pg_name (i := 2) S.nd rfl (by first | exact .inl rfl | exact .inr rfl)) (by decide) (fun _ _ _ _ _ _ => dts_nil) (fun _ _ _ _ _ _ => de_fn (Fun1.calls (w_is_weight G) gd hr (by decide) (by rfl) (by decide)) (by decide) (da_cons (de_var (pv 0)) (da_cons (de_var (pv 2)) (da_nil) rfl) rfl) rfl rfl) (fun _ => rfl)))) (dar_nil) rfl) (by decide) (by decide) rfl rfl)) (fun _ => rfl))))))) (dss_one (ds_ret (DE.toM (de_bl)))) (dss_nil))
    (dss_one (ds_ret (DE.toM (de_fn (Fun1.calls (w_is_ascending G) gd hr (by decide) (by rfl) (by decide)) (by decide) (da_cons (DF.toE (df_lcx (.one 2) [("one", 2)] rfl S.nd (di_seq (de_var (pv 1))) (by kernel_rfl) (fun _ _ _ _ _ => pg_name (i := 2) S.nd rfl (by first | exact .inl rfl | exact .inr rfl)) (by decide) (fun _ _ _ _ _ _ => dts_nil) (fun _ _ _ _ _ _ => de_ixB bix (dr_var (pv 2)) (DE.toR (de_int)) (fun _ _ => rfl)) (fun _ => rfl))) (da_nil) rfl) rfl rfl))))

theorem sc_are_weights_in : FnScope ["lot", "value"] ["lot", "value"] (defScope st_are_weights_in) := ⟨rfl, rfl, rfl, by decide +kernel, rfl, by decide +kernel, by decide +kernel⟩
theorem w_are_weights_in (G : PF K mg frees cs ds) : Fun1 P w K mg base 4 "are_weights_in" ["lot", "value"] [] f_are_weights_in :=
  have S := sc_are_weights_in
  fun1 (N := ["lot", "value"]) (ps := ["lot", "value"]) (G.fn 23 rfl) S (fun _ _ _ _ _ _ us hl => match us, hl with | [_, _], _ => rfl) (by decide) fun f cdv A outer s H E Z gd hr =>
    dss_one (ds_ret (DE.toM (de_fn (Fun1.calls (w_are_weights_by G) gd hr (by decide) (by rfl) (by decide)) (by decide) (da_cons (de_callB bc_len (by rfl) (G.free 4 rfl) (by decide +kernel) (dar_cons (DE.toR (de_ixB bix (dr_var (pv 0)) (DE.toR (de_int)) (fun _ _ => rfl))) (dar_nil) rfl) (by decide) (by decide) rfl rfl) (da_cons (de_var (pv 1)) (da_nil) rfl) rfl) rfl rfl)))

theorem sc_require_weights : FnScope ["lot", "weights", "at", "weight"] ["lot", "weights"] (defScope st_require_weights) := ⟨rfl, rfl, rfl, by decide +kernel, rfl, by decide +kernel, by decide +kernel⟩
theorem w_require_weights (G : PF K mg frees cs ds) : Fun1 P w K mg base 5 "require_weights" ["lot", "weights"] [] f_require_weights :=
  have S := sc_require_weights
  fun1 (N := ["lot", "weights", "at", "weight"]) (ps := ["lot", "weights"]) (G.fn 24 rfl) S (fun _ _ _ _ _ _ us hl => match us, hl with | [_, _], _ => rfl) (by decide) fun f cdv A outer s H E Z gd hr =>
    dss_one (ds_if (DW.pt (dw_or (dt_not (dt_truth (DE.toR (de_fn (Fun1.calls (w_are_weights_in G) gd hr (by decide) (by rfl) (by decide)) (by decide) (da_cons (de_var (pv 0)) (da_cons (de_var (pv 1)) (da_nil) rfl) rfl) rfl rfl)) (fun _ => rfl))) (dw_or1 (dt_not (dt_truth (DE.toR (de_callB (bc_all rfl) (by rfl) (G.free 5 rfl) (by decide +kernel) (dar_cons (DE.toR (DF.toE (df_lcx (.many [2, 3]) [("at", 2), ("weight", 3)] rfl S.nd (di_seq (de_var (pv 1))) (by kernel_rfl) (fun _ _ _ _ _ => pg_tup rfl (pgs_cons (pg_name (i := 2) S.nd rfl (by first | exact .inl rfl | exact .inr rfl)) (pgs_cons (pg_name (i := 3) S.nd rfl (by first | exact .inl rfl | exact .inr rfl)) (pgs_nil)))) (by decide) (fun _ _ _ _ _ _ => dts_nil) (fun _ _ _ _ _ _ => de_fn (Fun1.calls (w_is_near G) gd hr (by decide) (by rfl) (by decide)) (by decide) (da_cons (de_var (pv 3)) (da_nil) rfl) rfl rfl) (fun _ => rfl)))) (dar_nil) rfl) (by decide) (by decide) rfl rfl)) (fun _ => rfl)))))) (dss_one (ds_never)) (dss_nil))

theorem sc_cut_row : FnScope ["lot", "weights", "g", "found"] ["lot", "weights", "g"] (defScope st_cut_row) := ⟨rfl, rfl, rfl, by decide +kernel, rfl, by decide +kernel, by decide +kernel⟩
theorem w_cut_row (G : PF K mg frees cs ds) : Fun1 P w K mg base 6 "cut_row" ["lot", "weights", "g"] [] f_cut_row :=
  have S := sc_cut_row
  fun1 (N := ["lot", "weights", "g", "found"]) (ps := ["lot", "weights", "g"]) (G.fn 25 rfl) S (fun _ _ _ _ _ _ us hl => match us, hl with | [_, _, _], _ => rfl) (by decide) fun f cdv A outer s H E Z gd hr =>
    dss_cons (ds_expr (DE.toM (de_fn (Fun1.calls (w_require_lot G) gd hr (by decide) (by rfl) (by decide)) (by decide) (da_cons (de_var (pv 0)) (da_nil) rfl) rfl rfl)) rfl)
    (dss_cons (ds_expr (DE.toM (de_fn (Fun1.calls (w_require_weights G) gd hr (by decide) (by rfl) (by decide)) (by decide) (da_cons (de_var (pv 0)) (da_cons (de_var (pv 1)) (da_nil) rfl) rfl) rfl rfl)) rfl)
    (dss_cons (ds_expr (DE.toM (de_fn (Fun1.calls (w_require_number G) gd hr (by decide) (by rfl) (by decide)) (by decide) (da_cons (de_var (pv 2)) (da_cons (de_int) (da_cons (de_non) (da_nil) rfl) rfl) rfl) rfl rfl)) rfl)
    (dss_cons (ds_set S.nd rfl (by first | exact .inl rfl | exact .inr rfl) (DE.toM (de_fn (Fun1.calls (w_weighted_in G) gd hr (by decide) (by rfl) (by decide)) (by decide) (da_cons (de_var (pv 0)) (da_cons (de_var (pv 1)) (da_nil) rfl) rfl) rfl rfl)) rfl (.inl rfl))
    (dss_cons (ds_if (dt_not (dt_truth (DE.toR (de_fn (Fun1.calls (w_does_divide G) gd hr (by decide) (by rfl) (by decide)) (by decide) (da_cons (de_var (pv 3)) (da_cons (de_var (pv 2)) (da_nil) rfl) rfl) rfl rfl)) (fun _ => rfl))) (dss_one (ds_never)) (dss_nil))
    (dss_one (ds_ret (DE.toM (de_fn (Fun1.calls (w_cut_by G) gd hr (by decide) (by rfl) (by decide)) (by decide) (da_cons (de_var (pv 3)) (da_cons (de_var (pv 2)) (da_nil) rfl) rfl) rfl rfl))))))))

theorem sc_opposite_in : FnScope ["row", "number"] ["row"] (defScope st_opposite_in) := ⟨rfl, rfl, rfl, by decide +kernel, rfl, by decide +kernel, by decide +kernel⟩
theorem w_opposite_in (G : PF K mg frees cs ds) : Fun1 P w K mg base 1 "opposite_in" ["row"] [] f_opposite_in :=
  have S := sc_opposite_in
  fun1 (N := ["row", "number"]) (ps := ["row"]) (G.fn 26 rfl) S (fun _ _ _ _ _ _ us hl => match us, hl with | [_], _ => rfl) (by decide) fun f cdv A outer s H E Z gd hr =>
    dss_one (ds_ret (DE.toM (de_tup (da_star (DE.toR (DF.toE (df_lcx (.one 1) [("number", 1)] rfl S.nd (di_seq (de_slice (dr_var (pv 0)) (do_none) (do_some (DE.toR (de_unB bun_neg (DE.toR (de_int))))))) (by kernel_rfl) (fun _ _ _ _ _ => pg_name (i := 1) S.nd rfl (by first | exact .inl rfl | exact .inr rfl)) (by decide) (fun _ _ _ _ _ _ => dts_nil) (fun _ _ _ _ _ _ => de_unB bun_neg (dr_var (pv 1))) (fun _ => rfl)))) (da_cons (de_bop bop_sub (DE.toR (de_unB bun_neg (DE.toR (de_ixB bix (dr_var (pv 0)) (DE.toR (de_unB bun_neg (DE.toR (de_int)))) (fun _ _ => rfl))))) (DE.toR (de_int))) (da_nil) rfl) rfl))))

theorem sc_is_free_row : FnScope ["value", "number"] ["value"] (defScope st_is_free_row) := ⟨rfl, rfl, rfl, by decide +kernel, rfl, by decide +kernel, by decide +kernel⟩
theorem w_is_free_row (G : PF K mg frees cs ds) : Fun1 P w K mg base 3 "is_free_row" ["value"] [] f_is_free_row :=
  have S := sc_is_free_row
  fun1 (N := ["value", "number"]) (ps := ["value"]) (G.fn 27 rfl) S (fun _ _ _ _ _ _ us hl => match us, hl with | [_], _ => rfl) (by decide) fun f cdv A outer s H E Z gd hr =>
    dss_cons (ds_if (DW.pt (dw_or (dt_not (dt_truth (DE.toR (de_callB bc_isi (by rfl) (G.free 1 rfl) (by decide +kernel) (dar_cons (dr_var (pv 0)) (dar_cons (DE.toR (de_ty (by rfl) (G.free 3 rfl) (by decide +kernel) (by decide) (by decide))) (dar_nil) rfl) rfl) (by decide) (by decide) rfl rfl)) (fun _ => rfl))) (dw_or1 (dt_not (dt_chain bop_le bop_le (DE.toR (de_int)) (DE.toR (de_callB bc_len (by rfl) (G.free 4 rfl) (by decide +kernel) (dar_cons (dr_var (pv 0)) (dar_nil) rfl) (by decide) (by decide) rfl rfl)) (DE.toR (de_bop bop_add (DE.toR (de_glob (by rfl) (G.con 2 rfl) (by decide))) (DE.toR (de_int)))) (by rfl)))))) (dss_one (ds_ret (DE.toM (de_bl)))) (dss_nil))
    (dss_one (ds_ret (DE.toM (de_callB (bc_all rfl) (by rfl) (G.free 5 rfl) (by decide +kernel) (dar_cons (DE.toR (DF.toE (df_lcx (.one 1) [("number", 1)] rfl S.nd (di_seq (de_var (pv 0))) (by kernel_rfl) (fun _ _ _ _ _ => pg_name (i := 1) S.nd rfl (by first | exact .inl rfl | exact .inr rfl)) (by decide) (fun _ _ _ _ _ _ => dts_nil) (fun _ _ _ _ _ _ => de_fn (Fun1.calls (w_is_near G) gd hr (by decide) (by rfl) (by decide)) (by decide) (da_cons (de_var (pv 1)) (da_nil) rfl) rfl rfl) (fun _ => rfl)))) (dar_nil) rfl) (by decide) (by decide) rfl rfl))))

theorem sc_require_free_row : FnScope ["row"] ["row"] (defScope st_require_free_row) := ⟨rfl, rfl, rfl, by decide +kernel, rfl, by decide +kernel, by decide +kernel⟩
theorem w_require_free_row (G : PF K mg frees cs ds) : Fun1 P w K mg base 4 "require_free_row" ["row"] [] f_require_free_row :=
  have S := sc_require_free_row
  fun1 (N := ["row"]) (ps := ["row"]) (G.fn 28 rfl) S (fun _ _ _ _ _ _ us hl => match us, hl with | [_], _ => rfl) (by decide) fun f cdv A outer s H E Z gd hr =>
    dss_one (ds_if (dt_not (dt_truth (DE.toR (de_fn (Fun1.calls (w_is_free_row G) gd hr (by decide) (by rfl) (by decide)) (by decide) (da_cons (de_var (pv 0)) (da_nil) rfl) rfl rfl)) (fun _ => rfl))) (dss_one (ds_never)) (dss_nil))

theorem sc_opposite_row : FnScope ["row"] ["row"] (defScope st_opposite_row) := ⟨rfl, rfl, rfl, by decide +kernel, rfl, by decide +kernel, by decide +kernel⟩
theorem w_opposite_row (G : PF K mg frees cs ds) : Fun1 P w K mg base 5 "opposite_row" ["row"] [] f_opposite_row :=
  have S := sc_opposite_row
  fun1 (N := ["row"]) (ps := ["row"]) (G.fn 29 rfl) S (fun _ _ _ _ _ _ us hl => match us, hl with | [_], _ => rfl) (by decide) fun f cdv A outer s H E Z gd hr =>
    dss_cons (ds_expr (DE.toM (de_fn (Fun1.calls (w_require_free_row G) gd hr (by decide) (by rfl) (by decide)) (by decide) (da_cons (de_var (pv 0)) (da_nil) rfl) rfl rfl)) rfl)
    (dss_one (ds_ret (DE.toM (de_fn (Fun1.calls (w_opposite_in G) gd hr (by decide) (by rfl) (by decide)) (by decide) (da_cons (de_var (pv 0)) (da_nil) rfl) rfl rfl))))

theorem sc__law_put_together : FnScope ["lot", "matrix", "wide", "rows", "row", "later", "place", "x", "one"] ["lot", "matrix", "wide"] (defScope st__law_put_together) := ⟨rfl, rfl, rfl, by decide +kernel, rfl, by decide +kernel, by decide +kernel⟩
theorem w__law_put_together (G : PF K mg frees cs ds) : Fun1 P w K mg base 1 "_law_put_together" ["lot", "matrix", "wide"] [] f__law_put_together :=
  have S := sc__law_put_together
  fun1 (N := ["lot", "matrix", "wide", "rows", "row", "later", "place", "x", "one"]) (ps := ["lot", "matrix", "wide"]) (G.fn 30 rfl) S (fun _ _ _ _ _ _ us hl => match us, hl with | [_, _, _], _ => rfl) (by decide) fun f cdv A outer s H E Z gd hr =>
    dss_cons (ds_own S.nd rfl (by first | exact .inl rfl | exact .inr rfl) (df_lst (da_nil)) rfl (.inl rfl))
    (dss_cons (ds_for (T := .one 4) (passes_of rfl) rfl (di_seq (de_ixB bix (dr_var (pv 0)) (DE.toR (de_int)) (fun _ _ => rfl))) (pg_name (i := 4) S.nd rfl (by first | exact .inl rfl | exact .inr rfl)) (dss_cons (ds_setLcx (.one 6) [("place", 6)] rfl S.nd rfl rfl rfl (di_range1 (by rfl) (G.free 8 rfl) (dar_cons (DE.toR (de_bop bop_add (dr_var (pv 2)) (DE.toR (de_int)))) (dar_nil) rfl) rfl) (by kernel_rfl) (fun _ _ _ _ _ => pg_name (i := 6) S.nd rfl (by first | exact .inl rfl | exact .inr rfl)) (by decide) (fun _ _ _ _ _ _ => dts_nil) (fun _ _ _ _ _ _ => de_callB (bc_sum rfl) (by rfl) (G.free 11 rfl) (by decide +kernel) (dar_cons (DE.toR (DF.toE (df_lcx (.many [7, 8]) [("x", 7), ("one", 8)] rfl S.nd (di_zip (by rfl) (G.free 9 rfl) (da_cons (de_var (pv 4)) (da_cons (de_var (pv 1)) (da_nil) rfl) rfl) rfl rfl) (by kernel_rfl) (fun _ _ _ _ _ => pg_tup rfl (pgs_cons (pg_name (i := 7) S.nd rfl (by first | exact .inl rfl | exact .inr rfl)) (pgs_cons (pg_name (i := 8) S.nd rfl (by first | exact .inl rfl | exact .inr rfl)) (pgs_nil)))) (by decide) (fun _ _ _ _ _ _ => dts_nil) (fun _ _ _ _ _ _ => de_bop bop_mul (dr_var (pv 7)) (DE.toR (de_ixB bix (dr_var (pv 8)) (dr_var (pv 6)) (fun _ _ => rfl)))) (fun _ => rfl)))) (dar_nil) rfl) (by decide) (by decide) rfl rfl) (fun _ => rfl))
    (dss_one (ds_app (pv 3) (DE.toM (de_callT bc_tup (by rfl) (G.free 3 rfl) (by decide +kernel) (dar_cons (DE.toR (de_bop bop_add (DE.toR (de_slice (dr_var (pv 5)) (do_none) (do_some (DE.toR (de_unB bun_neg (DE.toR (de_int))))))) (DE.toR (DF.toE (df_lst (da_cons (de_bop bop_add (DE.toR (de_ixB bix (dr_var (pv 5)) (DE.toR (de_unB bun_neg (DE.toR (de_int)))) (fun _ _ => rfl))) (DE.toR (de_ixB bix (dr_var (pv 4)) (DE.toR (de_unB bun_neg (DE.toR (de_int)))) (fun _ _ => rfl)))) (da_nil) rfl)))))) (dar_nil) rfl) (by decide) (by decide) rfl rfl)) rfl rfl rfl rfl rfl rfl))) (fun _ => rfl))
    (dss_one (ds_ret (DE.toM (de_tup (da_cons (de_var (pv 2)) (da_cons (de_callT bc_tup (by rfl) (G.free 3 rfl) (by decide +kernel) (dar_cons (dr_var (pv 3)) (dar_nil) rfl) (by decide) (by decide) rfl rfl) (da_nil) rfl) rfl))))))

theorem sc__law_row_at : FnScope ["row", "point", "a", "b"] ["row", "point"] (defScope st__law_row_at) := ⟨rfl, rfl, rfl, by decide +kernel, rfl, by decide +kernel, by decide +kernel⟩
theorem w__law_row_at (G : PF K mg frees cs ds) : Fun1 P w K mg base 1 "_law_row_at" ["row", "point"] [] f__law_row_at :=
  have S := sc__law_row_at
  fun1 (N := ["row", "point", "a", "b"]) (ps := ["row", "point"]) (G.fn 31 rfl) S (fun _ _ _ _ _ _ us hl => match us, hl with | [_, _], _ => rfl) (by decide) fun f cdv A outer s H E Z gd hr =>
    dss_one (ds_ret (DE.toM (de_bop bop_add (DE.toR (de_ixB bix (dr_var (pv 0)) (DE.toR (de_unB bun_neg (DE.toR (de_int)))) (fun _ _ => rfl))) (DE.toR (de_callB (bc_sum rfl) (by rfl) (G.free 11 rfl) (by decide +kernel) (dar_cons (DE.toR (DF.toE (df_lcx (.many [2, 3]) [("a", 2), ("b", 3)] rfl S.nd (di_zip (by rfl) (G.free 9 rfl) (da_cons (de_var (pv 0)) (da_cons (de_var (pv 1)) (da_nil) rfl) rfl) rfl rfl) (by kernel_rfl) (fun _ _ _ _ _ => pg_tup rfl (pgs_cons (pg_name (i := 2) S.nd rfl (by first | exact .inl rfl | exact .inr rfl)) (pgs_cons (pg_name (i := 3) S.nd rfl (by first | exact .inl rfl | exact .inr rfl)) (pgs_nil)))) (by decide) (fun _ _ _ _ _ _ => dts_nil) (fun _ _ _ _ _ _ => de_bop bop_mul (dr_var (pv 2)) (dr_var (pv 3))) (fun _ => rfl)))) (dar_nil) rfl) (by decide) (by decide) rfl rfl)))))

theorem sc__law_keeps : FnScope ["lot", "point", "row"] ["lot", "point"] (defScope st__law_keeps) := ⟨rfl, rfl, rfl, by decide +kernel, rfl, by decide +kernel, by decide +kernel⟩
theorem w__law_keeps (G : PF K mg frees cs ds) : Fun1 P w K mg base 2 "_law_keeps" ["lot", "point"] [] f__law_keeps :=
  have S := sc__law_keeps
  fun1 (N := ["lot", "point", "row"]) (ps := ["lot", "point"]) (G.fn 32 rfl) S (fun _ _ _ _ _ _ us hl => match us, hl with | [_, _], _ => rfl) (by decide) fun f cdv A outer s H E Z gd hr =>
    dss_one (ds_ret (DE.toM (de_cmpB (bop_eq (hU2 hr)) (DE.toR (DF.toE (df_lcx (.one 2) [("row", 2)] rfl S.nd (di_seq (de_ixB bix (dr_var (pv 0)) (DE.toR (de_int)) (fun _ _ => rfl))) (by kernel_rfl) (fun _ _ _ _ _ => pg_name (i := 2) S.nd rfl (by first | exact .inl rfl | exact .inr rfl)) (by decide) (fun _ _ _ _ _ _ => dts_one (dt_cmp bop_lt (DE.toR (de_fn (Fun1.calls (w__law_row_at G) gd hr (by decide) (by rfl) (by decide)) (by decide) (da_cons (de_var (pv 2)) (da_cons (de_var (pv 1)) (da_nil) rfl) rfl) rfl rfl)) (DE.toR (de_int)) (nomark _))) (fun _ _ _ _ _ _ => de_var (pv 2)) (fun _ => rfl)))) (DE.toR (DF.toE (df_lst (da_nil)))) (nomark _))))

theorem sc_row_worth : FnScope ["row", "point", "number", "member"] ["row", "point"] (defScope st_row_worth) := ⟨rfl, rfl, rfl, by decide +kernel, rfl, by decide +kernel, by decide +kernel⟩
theorem w_row_worth (G : PF K mg frees cs ds) : Fun1 P w K mg base 1 "row_worth" ["row", "point"] [] f_row_worth :=
  have S := sc_row_worth
  fun1 (N := ["row", "point", "number", "member"]) (ps := ["row", "point"]) (G.fn 33 rfl) S (fun _ _ _ _ _ _ us hl => match us, hl with | [_, _], _ => rfl) (by decide) fun f cdv A outer s H E Z gd hr =>
    dss_one (ds_ret (DE.toM (de_bop bop_add (DE.toR (de_callB (bc_sum rfl) (by rfl) (G.free 11 rfl) (by decide +kernel) (dar_cons (DE.toR (DF.toE (df_lcx (.many [2, 3]) [("number", 2), ("member", 3)] rfl S.nd (di_zip (by rfl) (G.free 9 rfl) (da_cons (de_var (pv 0)) (da_cons (de_var (pv 1)) (da_nil) rfl) rfl) rfl rfl) (by kernel_rfl) (fun _ _ _ _ _ => pg_tup rfl (pgs_cons (pg_name (i := 2) S.nd rfl (by first | exact .inl rfl | exact .inr rfl)) (pgs_cons (pg_name (i := 3) S.nd rfl (by first | exact .inl rfl | exact .inr rfl)) (pgs_nil)))) (by decide) (fun _ _ _ _ _ _ => dts_nil) (fun _ _ _ _ _ _ => de_bop bop_mul (dr_var (pv 2)) (dr_var (pv 3))) (fun _ => rfl)))) (dar_nil) rfl) (by decide) (by decide) rfl rfl)) (DE.toR (de_ixB bix (dr_var (pv 0)) (DE.toR (de_unB bun_neg (DE.toR (de_int)))) (fun _ _ => rfl))))))

theorem sc_does_keep_in : FnScope ["lot", "point", "row"] ["lot", "point"] (defScope st_does_keep_in) := ⟨rfl, rfl, rfl, by decide +kernel, rfl, by decide +kernel, by decide +kernel⟩
theorem w_does_keep_in (G : PF K mg frees cs ds) : Fun1 P w K mg base 2 "does_keep_in" ["lot", "point"] [] f_does_keep_in :=
  have S := sc_does_keep_in
  fun1 (N := ["lot", "point", "row"]) (ps := ["lot", "point"]) (G.fn 34 rfl) S (fun _ _ _ _ _ _ us hl => match us, hl with | [_, _], _ => rfl) (by decide) fun f cdv A outer s H E Z gd hr =>
    dss_one (ds_ret (DE.toM (de_callB (bc_all rfl) (by rfl) (G.free 5 rfl) (by decide +kernel) (dar_cons (DE.toR (DF.toE (df_lcx (.one 2) [("row", 2)] rfl S.nd (di_seq (de_ixB bix (dr_var (pv 0)) (DE.toR (de_int)) (fun _ _ => rfl))) (by kernel_rfl) (fun _ _ _ _ _ => pg_name (i := 2) S.nd rfl (by first | exact .inl rfl | exact .inr rfl)) (by decide) (fun _ _ _ _ _ _ => dts_nil) (fun _ _ _ _ _ _ => de_cmpB bop_ge (DE.toR (de_fn (Fun1.calls (w_row_worth G) gd hr (by decide) (by rfl) (by decide)) (by decide) (da_cons (de_var (pv 2)) (da_cons (de_var (pv 1)) (da_nil) rfl) rfl) rfl rfl)) (DE.toR (de_int)) (nomark _)) (fun _ => rfl)))) (dar_nil) rfl) (by decide) (by decide) rfl rfl)))

theorem sc_is_point_of : FnScope ["v", "value", "number"] ["v", "value"] (defScope st_is_point_of) := ⟨rfl, rfl, rfl, by decide +kernel, rfl, by decide +kernel, by decide +kernel⟩
theorem w_is_point_of (G : PF K mg frees cs ds) : Fun1 P w K mg base 3 "is_point_of" ["v", "value"] [] f_is_point_of :=
  have S := sc_is_point_of
  fun1 (N := ["v", "value", "number"]) (ps := ["v", "value"]) (G.fn 35 rfl) S (fun _ _ _ _ _ _ us hl => match us, hl with | [_, _], _ => rfl) (by decide) fun f cdv A outer s H E Z gd hr =>
    dss_one (ds_ret (DE.toM (de_and (de_callB bc_isi (by rfl) (G.free 1 rfl) (by decide +kernel) (dar_cons (dr_var (pv 1)) (dar_cons (DE.toR (de_ty (by rfl) (G.free 3 rfl) (by decide +kernel) (by decide) (by decide))) (dar_nil) rfl) rfl) (by decide) (by decide) rfl rfl) (de_and (de_cmpB (bop_eq (hU2 hr)) (DE.toR (de_callB bc_len (by rfl) (G.free 4 rfl) (by decide +kernel) (dar_cons (dr_var (pv 1)) (dar_nil) rfl) (by decide) (by decide) rfl rfl)) (dr_var (pv 0)) (nomark _)) (de_one (de_callB (bc_all rfl) (by rfl) (G.free 5 rfl) (by decide +kernel) (dar_cons (DE.toR (DF.toE (df_lcx (.one 2) [("number", 2)] rfl S.nd (di_seq (de_var (pv 1))) (by kernel_rfl) (fun _ _ _ _ _ => pg_name (i := 2) S.nd rfl (by first | exact .inl rfl | exact .inr rfl)) (by decide) (fun _ _ _ _ _ _ => dts_nil) (fun _ _ _ _ _ _ => de_fn (Fun1.calls (w_is_near G) gd hr (by decide) (by rfl) (by decide)) (by decide) (da_cons (de_var (pv 2)) (da_nil) rfl) rfl rfl) (fun _ => rfl)))) (dar_nil) rfl) (by decide) (by decide) rfl rfl))))))

theorem sc_require_point_of : FnScope ["v", "point"] ["v", "point"] (defScope st_require_point_of) := ⟨rfl, rfl, rfl, by decide +kernel, rfl, by decide +kernel, by decide +kernel⟩
theorem w_require_point_of (G : PF K mg frees cs ds) : Fun1 P w K mg base 4 "require_point_of" ["v", "point"] [] f_require_point_of :=
  have S := sc_require_point_of
  fun1 (N := ["v", "point"]) (ps := ["v", "point"]) (G.fn 36 rfl) S (fun _ _ _ _ _ _ us hl => match us, hl with | [_, _], _ => rfl) (by decide) fun f cdv A outer s H E Z gd hr =>
    dss_one (ds_if (dt_not (dt_truth (DE.toR (de_fn (Fun1.calls (w_is_point_of G) gd hr (by decide) (by rfl) (by decide)) (by decide) (da_cons (de_var (pv 0)) (da_cons (de_var (pv 1)) (da_nil) rfl) rfl) rfl rfl)) (fun _ => rfl))) (dss_one (ds_never)) (dss_nil))

theorem sc_does_keep : FnScope ["lot", "point"] ["lot", "point"] (defScope st_does_keep) := ⟨rfl, rfl, rfl, by decide +kernel, rfl, by decide +kernel, by decide +kernel⟩
theorem w_does_keep (G : PF K mg frees cs ds) : Fun1 P w K mg base 6 "does_keep" ["lot", "point"] [] f_does_keep :=
  have S := sc_does_keep
  fun1 (N := ["lot", "point"]) (ps := ["lot", "point"]) (G.fn 37 rfl) S (fun _ _ _ _ _ _ us hl => match us, hl with | [_, _], _ => rfl) (by decide) fun f cdv A outer s H E Z gd hr =>
    dss_cons (ds_expr (DE.toM (de_fn (Fun1.calls (w_require_lot G) gd hr (by decide) (by rfl) (by decide)) (by decide) (da_cons (de_var (pv 0)) (da_nil) rfl) rfl rfl)) rfl)
    (dss_cons (ds_expr (DE.toM (de_fn (Fun1.calls (w_require_point_of G) gd hr (by decide) (by rfl) (by decide)) (by decide) (da_cons (de_ixB bix (dr_var (pv 0)) (DE.toR (de_int)) (fun _ _ => rfl)) (da_cons (de_var (pv 1)) (da_nil) rfl) rfl) rfl rfl)) rfl)
    (dss_one (ds_ret (DE.toM (de_fn (Fun1.calls (w_does_keep_in G) gd hr (by decide) (by rfl) (by decide)) (by decide) (da_cons (de_var (pv 0)) (da_cons (de_var (pv 1)) (da_nil) rfl) rfl) rfl rfl)))))

theorem sc__law_roll : FnScope ["dice", "total", "found", "one", "two"] ["dice", "total"] (defScope st__law_roll) := ⟨rfl, rfl, rfl, by decide +kernel, rfl, by decide +kernel, by decide +kernel⟩
theorem w__law_roll (G : PF K mg frees cs ds) : Fun1 P w K mg base 1 "_law_roll" ["dice", "total"] [] f__law_roll :=
  have S := sc__law_roll
  fun1 (N := ["dice", "total", "found", "one", "two"]) (ps := ["dice", "total"]) (G.fn 38 rfl) S (fun _ _ _ _ _ _ us hl => match us, hl with | [_, _], _ => rfl) (by decide) fun f cdv A outer s H E Z gd hr =>
    dss_cons (ds_if (dt_cmp bop_gt (DE.toR (de_ixB bix (dr_var (pv 0)) (DE.toR (de_int)) (fun _ _ => rfl))) (DE.toR (de_int)) (nomark _)) (dss_cons (ds_set S.nd rfl (by first | exact .inl rfl | exact .inr rfl) (DE.toM (de_bop bop_mod (DE.toR (de_callT bc_int (by rfl) (G.free 0 rfl) (by decide +kernel) (dar_cons (DE.toR (de_ixB bix (dr_var (pv 0)) (DE.toR (de_int)) (fun _ _ => rfl))) (dar_nil) rfl) (by decide) (by decide) rfl rfl)) (dr_var (pv 1)))) rfl (.inl rfl))
    (dss_cons (ds_ixG (pv 0) (de_int) (de_bop bop_fdiv (DE.toR (de_ixB bix (dr_var (pv 0)) (DE.toR (de_int)) (fun _ _ => rfl))) (dr_var (pv 1))) (fun _ => rfl) rfl rfl rfl)
    (dss_one (ds_ret (DE.toM (de_var (pv 2))))))) (dss_nil))
    (dss_cons (ds_ixG (pv 0) (de_int) (de_bop bop_add (DE.toR (de_ixB bix (dr_var (pv 0)) (DE.toR (de_int)) (fun _ _ => rfl))) (DE.toR (de_int))) (fun _ => rfl) rfl rfl rfl)
    (dss_cons (ds_set S.nd rfl (by first | exact .inl rfl | exact .inr rfl) (DE.toM (de_bop bop_mod (DE.toR (de_callT bc_int (by rfl) (G.free 0 rfl) (by decide +kernel) (dar_cons (DE.toR (de_bop bop_add (DE.toR (de_ixB bix (dr_var (pv 0)) (DE.toR (de_int)) (fun _ _ => rfl))) (DE.toR (de_bop bop_mul (DE.toR (de_int)) (DE.toR (de_ixB bix (dr_var (pv 0)) (DE.toR (de_int)) (fun _ _ => rfl))))))) (dar_nil) rfl) (by decide) (by decide) rfl rfl)) (DE.toR (de_int)))) rfl (.inl rfl))
    (dss_cons (ds_set S.nd rfl (by first | exact .inl rfl | exact .inr rfl) (DE.toM (de_bop bop_add (DE.toR (de_bop bop_mul (DE.toR (de_bop bop_mod (DE.toR (de_callT bc_int (by rfl) (G.free 0 rfl) (by decide +kernel) (dar_cons (DE.toR (de_bop bop_add (DE.toR (de_bop bop_mul (dr_var (pv 3)) (dr_var (pv 3)))) (DE.toR (de_bop bop_mul (DE.toR (de_int)) (DE.toR (de_ixB bix (dr_var (pv 0)) (DE.toR (de_int)) (fun _ _ => rfl))))))) (dar_nil) rfl) (by decide) (by decide) rfl rfl)) (DE.toR (de_int)))) (DE.toR (de_int)))) (dr_var (pv 3)))) rfl (.inl rfl))
    (dss_one (ds_ret (DE.toM (de_bop bop_mod (DE.toR (de_callT bc_int (by rfl) (G.free 0 rfl) (by decide +kernel) (dar_cons (DE.toR (de_bop bop_fdiv (dr_var (pv 4)) (DE.toR (de_int)))) (dar_nil) rfl) (by decide) (by decide) rfl rfl)) (dr_var (pv 1)))))))))

theorem sc__law_pick : FnScope ["dice", "items"] ["dice", "items"] (defScope st__law_pick) := ⟨rfl, rfl, rfl, by decide +kernel, rfl, by decide +kernel, by decide +kernel⟩
theorem w__law_pick (G : PF K mg frees cs ds) : Fun1 P w K mg base 2 "_law_pick" ["dice", "items"] [] f__law_pick :=
  have S := sc__law_pick
  fun1 (N := ["dice", "items"]) (ps := ["dice", "items"]) (G.fn 39 rfl) S (fun _ _ _ _ _ _ us hl => match us, hl with | [_, _], _ => rfl) (by decide) fun f cdv A outer s H E Z gd hr =>
    dss_one (ds_ret (DE.toM (de_ixB bix (dr_var (pv 1)) (DE.toR (de_fn (Fun1.calls (w__law_roll G) gd hr (by decide) (by rfl) (by decide)) (by decide) (da_cons (de_var (pv 0)) (da_cons (de_callB bc_len (by rfl) (G.free 4 rfl) (by decide +kernel) (dar_cons (dr_var (pv 1)) (dar_nil) rfl) (by decide) (by decide) rfl rfl) (da_nil) rfl) rfl) rfl rfl)) (fun _ _ => rfl))))

theorem sc__law_rw_point : FnScope ["dice", "v", "far", "place"] ["dice", "v"] (defScope st__law_rw_point) := ⟨rfl, rfl, rfl, by decide +kernel, rfl, by decide +kernel, by decide +kernel⟩
theorem w__law_rw_point (G : PF K mg frees cs ds) : Fun1 P w K mg base 3 "_law_rw_point" ["dice", "v"] [] f__law_rw_point :=
  have S := sc__law_rw_point
  fun1 (N := ["dice", "v", "far", "place"]) (ps := ["dice", "v"]) (G.fn 40 rfl) S (fun _ _ _ _ _ _ us hl => match us, hl with | [_, _], _ => rfl) (by decide) fun f cdv A outer s H E Z gd hr =>
    dss_cons (ds_set S.nd rfl (by first | exact .inl rfl | exact .inr rfl) (DE.toM (de_fn (Fun1.calls (w__law_pick G) gd hr (by decide) (by rfl) (by decide)) (by decide) (da_cons (de_var (pv 0)) (da_cons (DF.toE (df_lst (da_cons (de_int) (da_cons (de_int) (da_cons (de_int) (da_cons (de_bop bop_pow (DE.toR (de_int)) (DE.toR (de_int))) (da_nil) rfl) rfl) rfl) rfl))) (da_nil) rfl) rfl) rfl rfl)) rfl (.inl rfl))
    (dss_one (ds_ret (DE.toM (de_callT bc_tup (by rfl) (G.free 3 rfl) (by decide +kernel) (dar_cons (DE.toR (DF.toE (df_lcx (.one 3) [("place", 3)] rfl S.nd (di_range1 (by rfl) (G.free 8 rfl) (dar_cons (dr_var (pv 1)) (dar_nil) rfl) rfl) (by kernel_rfl) (fun _ _ _ _ _ => pg_name (i := 3) S.nd rfl (by first | exact .inl rfl | exact .inr rfl)) (by decide) (fun _ _ _ _ _ _ => dts_nil) (fun _ _ _ _ _ _ => de_bop bop_sub (DE.toR (de_fn (Fun1.calls (w__law_roll G) gd hr (by decide) (by rfl) (by decide)) (by decide) (da_cons (de_var (pv 0)) (da_cons (de_bop bop_add (DE.toR (de_bop bop_mul (DE.toR (de_int)) (dr_var (pv 2)))) (DE.toR (de_int))) (da_nil) rfl) rfl) rfl rfl)) (dr_var (pv 2))) (fun _ => rfl)))) (dar_nil) rfl) (by decide) (by decide) rfl rfl))))

theorem sc__law_matrix : FnScope ["dice", "v", "wide", "far", "row", "place"] ["dice", "v", "wide"] (defScope st__law_matrix) := ⟨rfl, rfl, rfl, by decide +kernel, rfl, by decide +kernel, by decide +kernel⟩
theorem w__law_matrix (G : PF K mg frees cs ds) : Fun1 P w K mg base 3 "_law_matrix" ["dice", "v", "wide"] [] f__law_matrix :=
  have S := sc__law_matrix
  fun1 (N := ["dice", "v", "wide", "far", "row", "place"]) (ps := ["dice", "v", "wide"]) (G.fn 41 rfl) S (fun _ _ _ _ _ _ us hl => match us, hl with | [_, _, _], _ => rfl) (by decide) fun f cdv A outer s H E Z gd hr =>
    dss_cons (ds_set S.nd rfl (by first | exact .inl rfl | exact .inr rfl) (DE.toM (de_fn (Fun1.calls (w__law_pick G) gd hr (by decide) (by rfl) (by decide)) (by decide) (da_cons (de_var (pv 0)) (da_cons (DF.toE (df_lst (da_cons (de_int) (da_cons (de_int) (da_cons (de_int) (da_cons (de_bop bop_pow (DE.toR (de_int)) (DE.toR (de_int))) (da_nil) rfl) rfl) rfl) rfl))) (da_nil) rfl) rfl) rfl rfl)) rfl (.inl rfl))
    (dss_one (ds_ret (DE.toM (de_callT bc_tup (by rfl) (G.free 3 rfl) (by decide +kernel) (dar_cons (DE.toR (DF.toE (df_lcx (.one 4) [("row", 4)] rfl S.nd (di_range1 (by rfl) (G.free 8 rfl) (dar_cons (dr_var (pv 1)) (dar_nil) rfl) rfl) (by kernel_rfl) (fun _ _ _ _ _ => pg_name (i := 4) S.nd rfl (by first | exact .inl rfl | exact .inr rfl)) (by decide) (fun _ _ _ _ _ _ => dts_nil) (fun _ _ _ _ _ _ => de_callT bc_tup (by rfl) (G.free 3 rfl) (by decide +kernel) (dar_cons (DE.toR (DF.toE (df_lcx (.one 5) [("place", 5)] rfl S.nd (di_range1 (by rfl) (G.free 8 rfl) (dar_cons (DE.toR (de_bop bop_add (dr_var (pv 2)) (DE.toR (de_int)))) (dar_nil) rfl) rfl) (by kernel_rfl) (fun _ _ _ _ _ => pg_name (i := 5) S.nd rfl (by first | exact .inl rfl | exact .inr rfl)) (by decide) (fun _ _ _ _ _ _ => dts_nil) (fun _ _ _ _ _ _ => de_bop bop_sub (DE.toR (de_fn (Fun1.calls (w__law_roll G) gd hr (by decide) (by rfl) (by decide)) (by decide) (da_cons (de_var (pv 0)) (da_cons (de_bop bop_add (DE.toR (de_bop bop_mul (DE.toR (de_int)) (dr_var (pv 3)))) (DE.toR (de_int))) (da_nil) rfl) rfl) rfl rfl)) (dr_var (pv 3))) (fun _ => rfl)))) (dar_nil) rfl) (by decide) (by decide) rfl rfl) (fun _ => rfl)))) (dar_nil) rfl) (by decide) (by decide) rfl rfl))))

theorem sc__law_led_right : FnScope ["dice", "lot", "v", "wide", "far", "matrix", "other", "led", "turn", "point", "there", "both", "row", "x"] ["dice", "lot"] (defScope st__law_led_right) := ⟨rfl, rfl, rfl, by decide +kernel, rfl, by decide +kernel, by decide +kernel⟩
theorem w__law_led_right (G : PF K mg frees cs ds) : Fun1 P w K mg base 7 "_law_led_right" ["dice", "lot"] [] f__law_led_right :=
  have S := sc__law_led_right
  fun1 (N := ["dice", "lot", "v", "wide", "far", "matrix", "other", "led", "turn", "point", "there", "both", "row", "x"]) (ps := ["dice", "lot"]) (G.fn 42 rfl) S (fun _ _ _ _ _ _ us hl => match us, hl with | [_, _], _ => rfl) (by decide) fun f cdv A outer s H E Z gd hr =>
    dss_cons (ds_par3 rfl S.nd rfl rfl rfl (by decide) (by decide) (by decide) rfl rfl rfl (de_ixB bix (dr_var (pv 1)) (DE.toR (de_int)) (fun _ _ => rfl)) (de_fn (Fun1.calls (w__law_roll G) gd hr (by decide) (by rfl) (by decide)) (by decide) (da_cons (de_var (pv 0)) (da_cons (de_int) (da_nil) rfl) rfl) rfl rfl) (de_fn (Fun1.calls (w__law_roll G) gd hr (by decide) (by rfl) (by decide)) (by decide) (da_cons (de_var (pv 0)) (da_cons (de_int) (da_nil) rfl) rfl) rfl rfl) rfl rfl rfl rfl rfl)
    (dss_cons (ds_parVV rfl S.nd rfl rfl (by decide) rfl rfl (de_fn (Fun1.calls (w__law_matrix G) gd hr (by decide) (by rfl) (by decide)) (by decide) (da_cons (de_var (pv 0)) (da_cons (de_var (pv 2)) (da_cons (de_var (pv 3)) (da_nil) rfl) rfl) rfl) rfl rfl) (de_fn (Fun1.calls (w__law_matrix G) gd hr (by decide) (by rfl) (by decide)) (by decide) (da_cons (de_var (pv 0)) (da_cons (de_var (pv 3)) (da_cons (de_var (pv 4)) (da_nil) rfl) rfl) rfl) rfl rfl) rfl rfl rfl rfl)
    (dss_cons (ds_if (dt_cmp (bop_eq (hU2 hr)) (dr_var (pv 2)) (DE.toR (de_int)) (nomark _)) (dss_one (ds_ret (DE.toM (de_cmpB (bop_eq (hU2 hr)) (DE.toR (de_callB (bc_repr gd (hU1 hr)) (by rfl) (G.free 12 rfl) (by decide +kernel) (dar_cons (DE.toR (de_fn (Fun1.calls (w_led_lot G) gd hr (by decide) (by rfl) (by decide)) (by decide) (da_cons (de_var (pv 1)) (da_cons (de_tup (da_nil)) (da_nil) rfl) rfl) rfl rfl)) (dar_nil) rfl) (by decide) (by decide) rfl rfl)) (DE.toR (de_callB (bc_repr gd (hU1 hr)) (by rfl) (G.free 12 rfl) (by decide +kernel) (dar_cons (dr_var (pv 1)) (dar_nil) rfl) (by decide) (by decide) rfl rfl)) (nomark _))))) (dss_nil))
    (dss_cons (ds_set S.nd rfl (by first | exact .inl rfl | exact .inr rfl) (DE.toM (de_fn (Fun1.calls (w_led_lot G) gd hr (by decide) (by rfl) (by decide)) (by decide) (da_cons (de_var (pv 1)) (da_cons (de_var (pv 5)) (da_nil) rfl) rfl) rfl rfl)) rfl (.inl rfl))
    (dss_cons (ds_if (dt_cmp (bop_ne (hU2 hr)) (DE.toR (de_callB (bc_repr gd (hU1 hr)) (by rfl) (G.free 12 rfl) (by decide +kernel) (dar_cons (dr_var (pv 7)) (dar_nil) rfl) (by decide) (by decide) rfl rfl)) (DE.toR (de_callB (bc_repr gd (hU1 hr)) (by rfl) (G.free 12 rfl) (by decide +kernel) (dar_cons (DE.toR (de_fn (Fun1.calls (w__law_put_together G) gd hr (by decide) (by rfl) (by decide)) (by decide) (da_cons (de_var (pv 1)) (da_cons (de_var (pv 5)) (da_cons (de_var (pv 3)) (da_nil) rfl) rfl) rfl) rfl rfl)) (dar_nil) rfl) (by decide) (by decide) rfl rfl)) (nomark _)) (dss_one (ds_ret (DE.toM (de_bl)))) (dss_nil))
    (dss_cons (ds_for (T := .one 8) (passes_of rfl) rfl (di_range1 (by rfl) (G.free 8 rfl) (dar_cons (DE.toR (de_int)) (dar_nil) rfl) rfl) (pg_name (i := 8) S.nd rfl (by first | exact .inl rfl | exact .inr rfl)) (dss_cons (ds_set S.nd rfl (by first | exact .inl rfl | exact .inr rfl) (DE.toM (de_fn (Fun1.calls (w__law_rw_point G) gd hr (by decide) (by rfl) (by decide)) (by decide) (da_cons (de_var (pv 0)) (da_cons (de_var (pv 3)) (da_nil) rfl) rfl) rfl rfl)) rfl (.inl rfl))
    (dss_cons (ds_set S.nd rfl (by first | exact .inl rfl | exact .inr rfl) (DE.toM (de_callT bc_tup (by rfl) (G.free 3 rfl) (by decide +kernel) (dar_cons (DE.toR (DF.toE (df_lcx (.one 12) [("row", 12)] rfl S.nd (di_seq (de_var (pv 5))) (by kernel_rfl) (fun _ _ _ _ _ => pg_name (i := 12) S.nd rfl (by first | exact .inl rfl | exact .inr rfl)) (by decide) (fun _ _ _ _ _ _ => dts_nil) (fun _ _ _ _ _ _ => de_fn (Fun1.calls (w__law_row_at G) gd hr (by decide) (by rfl) (by decide)) (by decide) (da_cons (de_var (pv 12)) (da_cons (de_var (pv 9)) (da_nil) rfl) rfl) rfl rfl) (fun _ => rfl)))) (dar_nil) rfl) (by decide) (by decide) rfl rfl)) rfl (.inl rfl))
    (dss_one (ds_if (dt_cmp bop_lt (DE.toR (de_callB (bc_maxL rfl) (by rfl) (G.free 13 rfl) (by decide +kernel) (dar_cons (DE.toR (DF.toE (df_cat (DE.toR (DF.toE (df_lst (da_cons (de_int) (da_nil) rfl)))) (DE.toR (DF.toE (df_lcx (.one 13) [("x", 13)] rfl S.nd (di_seq (de_var (pv 10))) (by kernel_rfl) (fun _ _ _ _ _ => pg_name (i := 13) S.nd rfl (by first | exact .inl rfl | exact .inr rfl)) (by decide) (fun _ _ _ _ _ _ => dts_nil) (fun _ _ _ _ _ _ => de_callB bc_abs (by rfl) (G.free 10 rfl) (by decide +kernel) (dar_cons (dr_var (pv 13)) (dar_nil) rfl) (by decide) (by decide) rfl rfl) (fun _ => rfl))))))) (dar_nil) rfl) (by decide) (by decide) rfl rfl)) (DE.toR (de_bop bop_pow (DE.toR (de_int)) (DE.toR (de_int)))) (nomark _)) (dss_one (ds_if (dt_cmp (bop_ne (hU2 hr)) (DE.toR (DF.toE (df_lst (da_cons (de_fn (Fun1.calls (w_does_keep G) gd hr (by decide) (by rfl) (by decide)) (by decide) (da_cons (de_var (pv 7)) (da_cons (de_var (pv 9)) (da_nil) rfl) rfl) rfl rfl) (da_cons (de_fn (Fun1.calls (w_does_keep G) gd hr (by decide) (by rfl) (by decide)) (by decide) (da_cons (de_var (pv 1)) (da_cons (de_var (pv 10)) (da_nil) rfl) rfl) rfl rfl) (da_nil) rfl) rfl)))) (DE.toR (DF.toE (df_rep (DE.toR (DF.toE (df_lst (da_cons (de_fn (Fun1.calls (w__law_keeps G) gd hr (by decide) (by rfl) (by decide)) (by decide) (da_cons (de_var (pv 1)) (da_cons (de_var (pv 10)) (da_nil) rfl) rfl) rfl rfl) (da_nil) rfl)))) (DE.toR (de_int))))) (nomark _)) (dss_one (ds_ret (DE.toM (de_bl)))) (dss_nil))) (dss_nil))))) (fun _ => rfl))
    (dss_cons (ds_set S.nd rfl (by first | exact .inl rfl | exact .inr rfl) (DE.toM (de_ixB bix (DE.toR (de_fn (Fun1.calls (w__law_put_together G) gd hr (by decide) (by rfl) (by decide)) (by decide) (da_cons (de_tup (da_cons (de_var (pv 3)) (da_cons (de_var (pv 5)) (da_nil) rfl) rfl)) (da_cons (de_var (pv 6)) (da_cons (de_var (pv 4)) (da_nil) rfl) rfl) rfl) rfl rfl)) (DE.toR (de_int)) (fun _ _ => rfl))) rfl (.inl rfl))
    (dss_cons (ds_if (DW.pt (dw_or (dt_cmp (bop_eq (hU2 hr)) (dr_var (pv 3)) (DE.toR (de_int)) (nomark _)) (dw_or1 (dt_cmp (bop_ne (hU2 hr)) (DE.toR (DF.toE (df_lcx (.one 12) [("row", 12)] rfl S.nd (di_seq (de_var (pv 11))) (by kernel_rfl) (fun _ _ _ _ _ => pg_name (i := 12) S.nd rfl (by first | exact .inl rfl | exact .inr rfl)) (by decide) (fun _ _ _ _ _ _ => dts_one (dt_cmp bop_gt (DE.toR (de_callB (bc_maxL rfl) (by rfl) (G.free 13 rfl) (by decide +kernel) (dar_cons (DE.toR (DF.toE (df_lcx (.one 13) [("x", 13)] rfl S.nd (di_seq (de_var (pv 12))) (by kernel_rfl) (fun _ _ _ _ _ => pg_name (i := 13) S.nd rfl (by first | exact .inl rfl | exact .inr rfl)) (by decide) (fun _ _ _ _ _ _ => dts_nil) (fun _ _ _ _ _ _ => de_callB bc_abs (by rfl) (G.free 10 rfl) (by decide +kernel) (dar_cons (dr_var (pv 13)) (dar_nil) rfl) (by decide) (by decide) rfl rfl) (fun _ => rfl)))) (dar_nil) rfl) (by decide) (by decide) rfl rfl)) (DE.toR (de_bop bop_pow (DE.toR (de_int)) (DE.toR (de_int)))) (nomark _))) (fun _ _ _ _ _ _ => de_var (pv 12)) (fun _ => rfl)))) (DE.toR (DF.toE (df_lst (da_nil)))) (nomark _))))) (dss_one (ds_ret (DE.toM (de_bl)))) (dss_nil))
    (dss_one (ds_ret (DE.toM (de_cmpB (bop_eq (hU2 hr)) (DE.toR (de_callB (bc_repr gd (hU1 hr)) (by rfl) (G.free 12 rfl) (by decide +kernel) (dar_cons (DE.toR (de_fn (Fun1.calls (w_led_lot G) gd hr (by decide) (by rfl) (by decide)) (by decide) (da_cons (de_var (pv 7)) (da_cons (de_var (pv 6)) (da_nil) rfl) rfl) rfl rfl)) (dar_nil) rfl) (by decide) (by decide) rfl rfl)) (DE.toR (de_callB (bc_repr gd (hU1 hr)) (by rfl) (G.free 12 rfl) (by decide +kernel) (dar_cons (DE.toR (de_fn (Fun1.calls (w_led_lot G) gd hr (by decide) (by rfl) (by decide)) (by decide) (da_cons (de_var (pv 1)) (da_cons (de_var (pv 11)) (da_nil) rfl) rfl) rfl rfl)) (dar_nil) rfl) (by decide) (by decide) rfl rfl)) (nomark _))))))))))))

theorem sc_weighted_row : FnScope ["lot", "weights"] ["lot", "weights"] (defScope st_weighted_row) := ⟨rfl, rfl, rfl, by decide +kernel, rfl, by decide +kernel, by decide +kernel⟩
theorem w_weighted_row (G : PF K mg frees cs ds) : Fun1 P w K mg base 6 "weighted_row" ["lot", "weights"] [] f_weighted_row :=
  have S := sc_weighted_row
  fun1 (N := ["lot", "weights"]) (ps := ["lot", "weights"]) (G.fn 43 rfl) S (fun _ _ _ _ _ _ us hl => match us, hl with | [_, _], _ => rfl) (by decide) fun f cdv A outer s H E Z gd hr =>
    dss_cons (ds_expr (DE.toM (de_fn (Fun1.calls (w_require_lot G) gd hr (by decide) (by rfl) (by decide)) (by decide) (da_cons (de_var (pv 0)) (da_nil) rfl) rfl rfl)) rfl)
    (dss_cons (ds_expr (DE.toM (de_fn (Fun1.calls (w_require_weights G) gd hr (by decide) (by rfl) (by decide)) (by decide) (da_cons (de_var (pv 0)) (da_cons (de_var (pv 1)) (da_nil) rfl) rfl) rfl rfl)) rfl)
    (dss_one (ds_ret (DE.toM (de_fn (Fun1.calls (w_weighted_in G) gd hr (by decide) (by rfl) (by decide)) (by decide) (da_cons (de_var (pv 0)) (da_cons (de_var (pv 1)) (da_nil) rfl) rfl) rfl rfl)))))

theorem sc__law_rw_weights : FnScope ["dice", "many", "far", "found", "at"] ["dice", "many"] (defScope st__law_rw_weights) := ⟨rfl, rfl, rfl, by decide +kernel, rfl, by decide +kernel, by decide +kernel⟩
theorem w__law_rw_weights (G : PF K mg frees cs ds) : Fun1 P w K mg base 3 "_law_rw_weights" ["dice", "many"] [] f__law_rw_weights :=
  have S := sc__law_rw_weights
  fun1 (N := ["dice", "many", "far", "found", "at"]) (ps := ["dice", "many"]) (G.fn 44 rfl) S (fun _ _ _ _ _ _ us hl => match us, hl with | [_, _], _ => rfl) (by decide) fun f cdv A outer s H E Z gd hr =>
    dss_cons (ds_parVF rfl S.nd rfl rfl (by decide) rfl rfl (de_fn (Fun1.calls (w__law_pick G) gd hr (by decide) (by rfl) (by decide)) (by decide) (da_cons (de_var (pv 0)) (da_cons (DF.toE (df_lst (da_cons (de_int) (da_cons (de_int) (da_cons (de_bop bop_pow (DE.toR (de_int)) (DE.toR (de_int))) (da_nil) rfl) rfl) rfl))) (da_nil) rfl) rfl) rfl rfl) (df_lst (da_nil)) rfl rfl rfl rfl)
    (dss_cons (ds_for (T := .one 4) (passes_of rfl) rfl (di_range1 (by rfl) (G.free 8 rfl) (dar_cons (dr_var (pv 1)) (dar_nil) rfl) rfl) (pg_name (i := 4) S.nd rfl (by first | exact .inl rfl | exact .inr rfl)) (dss_one (ds_if (dt_cmp (bop_eq (hU2 hr)) (DE.toR (de_fn (Fun1.calls (w__law_roll G) gd hr (by decide) (by rfl) (by decide)) (by decide) (da_cons (de_var (pv 0)) (da_cons (de_int) (da_nil) rfl) rfl) rfl rfl)) (DE.toR (de_int)) (nomark _)) (dss_one (ds_app (pv 3) (DE.toM (de_tup (da_cons (de_var (pv 4)) (da_cons (de_bop bop_add (DE.toR (de_int)) (DE.toR (de_fn (Fun1.calls (w__law_roll G) gd hr (by decide) (by rfl) (by decide)) (by decide) (da_cons (de_var (pv 0)) (da_cons (de_var (pv 2)) (da_nil) rfl) rfl) rfl rfl))) (da_nil) rfl) rfl))) rfl rfl rfl rfl rfl rfl)) (dss_nil))) (fun _ => rfl))
    (dss_one (ds_ret (DE.toM (de_if (dt_cmp (bop_ne (hU2 hr)) (dr_var (pv 3)) (DE.toR (DF.toE (df_lst (da_nil)))) (nomark _)) (de_callT bc_tup (by rfl) (G.free 3 rfl) (by decide +kernel) (dar_cons (dr_var (pv 3)) (dar_nil) rfl) (by decide) (by decide) rfl rfl) (de_tup (da_cons (de_tup (da_cons (de_fn (Fun1.calls (w__law_roll G) gd hr (by decide) (by rfl) (by decide)) (by decide) (da_cons (de_var (pv 0)) (da_cons (de_var (pv 1)) (da_nil) rfl) rfl) rfl rfl) (da_cons (de_int) (da_nil) rfl) rfl)) (da_nil) rfl)))))))

theorem sc__law_shuffled : FnScope ["dice", "items", "left", "found", "turn"] ["dice", "items"] (defScope st__law_shuffled) := ⟨rfl, rfl, rfl, by decide +kernel, rfl, by decide +kernel, by decide +kernel⟩
theorem w__law_shuffled (G : PF K mg frees cs ds) : Fun1 P w K mg base 2 "_law_shuffled" ["dice", "items"] [] f__law_shuffled :=
  have S := sc__law_shuffled
  fun1 (N := ["dice", "items", "left", "found", "turn"]) (ps := ["dice", "items"]) (G.fn 45 rfl) S (fun _ _ _ _ _ _ us hl => match us, hl with | [_, _], _ => rfl) (by decide) fun f cdv A outer s H E Z gd hr =>
    dss_cons (ds_parFFx rfl S.nd rfl rfl (by decide) rfl rfl (df_list (by rfl) (G.free 7 rfl) (by decide +kernel) (dar_cons (dr_var (pv 1)) (dar_nil) rfl) rfl rfl) (fun _ => df_lst (da_nil)) rfl rfl rfl rfl)
    (dss_cons (ds_for (T := .one 4) (passes_of rfl) rfl (di_range1 (by rfl) (G.free 8 rfl) (dar_cons (DE.toR (de_callB bc_len (by rfl) (G.free 4 rfl) (by decide +kernel) (dar_cons (dr_var (pv 1)) (dar_nil) rfl) (by decide) (by decide) rfl rfl)) (dar_nil) rfl) rfl) (pg_name (i := 4) S.nd rfl (by first | exact .inl rfl | exact .inr rfl)) (dss_one (ds_app (pv 3) (dm_pop (pv 2) (de_fn (Fun1.calls (w__law_roll G) gd hr (by decide) (by rfl) (by decide)) (by decide) (da_cons (de_var (pv 0)) (da_cons (de_callB bc_len (by rfl) (G.free 4 rfl) (by decide +kernel) (dar_cons (dr_var (pv 2)) (dar_nil) rfl) (by decide) (by decide) rfl rfl) (da_nil) rfl) rfl) rfl rfl) rfl rfl rfl rfl rfl) rfl rfl rfl rfl rfl rfl)) (fun _ => rfl))
    (dss_one (ds_retO (pv 3))))

theorem sc__law_rw_number : FnScope ["dice", "far"] ["dice"] (defScope st__law_rw_number) := ⟨rfl, rfl, rfl, by decide +kernel, rfl, by decide +kernel, by decide +kernel⟩
theorem w__law_rw_number (G : PF K mg frees cs ds) : Fun1 P w K mg base 3 "_law_rw_number" ["dice"] [] f__law_rw_number :=
  have S := sc__law_rw_number
  fun1 (N := ["dice", "far"]) (ps := ["dice"]) (G.fn 46 rfl) S (fun _ _ _ _ _ _ us hl => match us, hl with | [_], _ => rfl) (by decide) fun f cdv A outer s H E Z gd hr =>
    dss_cons (ds_set S.nd rfl (by first | exact .inl rfl | exact .inr rfl) (DE.toM (de_fn (Fun1.calls (w__law_pick G) gd hr (by decide) (by rfl) (by decide)) (by decide) (da_cons (de_var (pv 0)) (da_cons (DF.toE (df_lst (da_cons (de_int) (da_cons (de_int) (da_cons (de_int) (da_cons (de_int) (da_cons (de_bop bop_pow (DE.toR (de_int)) (DE.toR (de_int))) (da_nil) rfl) rfl) rfl) rfl) rfl))) (da_nil) rfl) rfl) rfl rfl)) rfl (.inl rfl))
    (dss_one (ds_ret (DE.toM (de_bop bop_sub (DE.toR (de_fn (Fun1.calls (w__law_roll G) gd hr (by decide) (by rfl) (by decide)) (by decide) (da_cons (de_var (pv 0)) (da_cons (de_bop bop_add (DE.toR (de_bop bop_mul (DE.toR (de_int)) (dr_var (pv 1)))) (DE.toR (de_int))) (da_nil) rfl) rfl) rfl rfl)) (dr_var (pv 1))))))

theorem sc_row_at : FnScope ["row", "point"] ["row", "point"] (defScope st_row_at) := ⟨rfl, rfl, rfl, by decide +kernel, rfl, by decide +kernel, by decide +kernel⟩
theorem w_row_at (G : PF K mg frees cs ds) : Fun1 P w K mg base 5 "row_at" ["row", "point"] [] f_row_at :=
  have S := sc_row_at
  fun1 (N := ["row", "point"]) (ps := ["row", "point"]) (G.fn 47 rfl) S (fun _ _ _ _ _ _ us hl => match us, hl with | [_, _], _ => rfl) (by decide) fun f cdv A outer s H E Z gd hr =>
    dss_cons (ds_expr (DE.toM (de_fn (Fun1.calls (w_require_free_row G) gd hr (by decide) (by rfl) (by decide)) (by decide) (da_cons (de_var (pv 0)) (da_nil) rfl) rfl rfl)) rfl)
    (dss_cons (ds_expr (DE.toM (de_fn (Fun1.calls (w_require_point_of G) gd hr (by decide) (by rfl) (by decide)) (by decide) (da_cons (de_bop bop_sub (DE.toR (de_callB bc_len (by rfl) (G.free 4 rfl) (by decide +kernel) (dar_cons (dr_var (pv 0)) (dar_nil) rfl) (by decide) (by decide) rfl rfl)) (DE.toR (de_int))) (da_cons (de_var (pv 1)) (da_nil) rfl) rfl) rfl rfl)) rfl)
    (dss_one (ds_ret (DE.toM (de_fn (Fun1.calls (w_row_worth G) gd hr (by decide) (by rfl) (by decide)) (by decide) (da_cons (de_var (pv 0)) (da_cons (de_var (pv 1)) (da_nil) rfl) rfl) rfl rfl)))))

theorem sc__law_opposite_row : FnScope ["row", "x"] ["row"] (defScope st__law_opposite_row) := ⟨rfl, rfl, rfl, by decide +kernel, rfl, by decide +kernel, by decide +kernel⟩
theorem w__law_opposite_row (G : PF K mg frees cs ds) : Fun1 P w K mg base 1 "_law_opposite_row" ["row"] [] f__law_opposite_row :=
  have S := sc__law_opposite_row
  fun1 (N := ["row", "x"]) (ps := ["row"]) (G.fn 48 rfl) S (fun _ _ _ _ _ _ us hl => match us, hl with | [_], _ => rfl) (by decide) fun f cdv A outer s H E Z gd hr =>
    dss_one (ds_ret (DE.toM (de_callT bc_tup (by rfl) (G.free 3 rfl) (by decide +kernel) (dar_cons (DE.toR (DF.toE (df_cat (DE.toR (DF.toE (df_lcx (.one 1) [("x", 1)] rfl S.nd (di_seq (de_slice (dr_var (pv 0)) (do_none) (do_some (DE.toR (de_unB bun_neg (DE.toR (de_int))))))) (by kernel_rfl) (fun _ _ _ _ _ => pg_name (i := 1) S.nd rfl (by first | exact .inl rfl | exact .inr rfl)) (by decide) (fun _ _ _ _ _ _ => dts_nil) (fun _ _ _ _ _ _ => de_bop bop_sub (DE.toR (de_int)) (dr_var (pv 1))) (fun _ => rfl)))) (DE.toR (DF.toE (df_lst (da_cons (de_bop bop_sub (DE.toR (de_bop bop_sub (DE.toR (de_int)) (DE.toR (de_ixB bix (dr_var (pv 0)) (DE.toR (de_unB bun_neg (DE.toR (de_int)))) (fun _ _ => rfl))))) (DE.toR (de_int))) (da_nil) rfl))))))) (dar_nil) rfl) (by decide) (by decide) rfl rfl)))

theorem sc__law_rw_box : FnScope ["v", "far", "found", "place", "later", "point", "x"] ["v", "far"] (defScope st__law_rw_box) := ⟨rfl, rfl, rfl, by decide +kernel, rfl, by decide +kernel, by decide +kernel⟩
theorem w__law_rw_box (G : PF K mg frees cs ds) : Fun1 P w K mg base 1 "_law_rw_box" ["v", "far"] [] f__law_rw_box :=
  have S := sc__law_rw_box
  fun1 (N := ["v", "far", "found", "place", "later", "point", "x"]) (ps := ["v", "far"]) (G.fn 49 rfl) S (fun _ _ _ _ _ _ us hl => match us, hl with | [_, _], _ => rfl) (by decide) fun f cdv A outer s H E Z gd hr =>
    dss_cons (ds_set S.nd rfl (by first | exact .inl rfl | exact .inr rfl) (DE.toM (DF.toE (df_lst (da_cons (de_tup (da_nil)) (da_nil) rfl)))) rfl (.inl rfl))
    (dss_cons (ds_for (T := .one 3) (passes_of rfl) rfl (di_range1 (by rfl) (G.free 8 rfl) (dar_cons (dr_var (pv 0)) (dar_nil) rfl) rfl) (pg_name (i := 3) S.nd rfl (by first | exact .inl rfl | exact .inr rfl)) (dss_cons (ds_own S.nd rfl (by first | exact .inl rfl | exact .inr rfl) (df_lst (da_nil)) rfl (.inl rfl))
    (dss_cons (ds_for (T := .one 5) (passes_of rfl) rfl (di_seq (de_var (pv 2))) (pg_name (i := 5) S.nd rfl (by first | exact .inl rfl | exact .inr rfl)) (dss_one (ds_ext (pv 4) (DF.toE (df_lcx (.one 6) [("x", 6)] rfl S.nd (di_range2 (by rfl) (G.free 8 rfl) (dar_cons (DE.toR (de_bop bop_sub (DE.toR (de_int)) (dr_var (pv 1)))) (dar_cons (DE.toR (de_bop bop_add (dr_var (pv 1)) (DE.toR (de_int)))) (dar_nil) rfl) rfl) rfl rfl) (by kernel_rfl) (fun _ _ _ _ _ => pg_name (i := 6) S.nd rfl (by first | exact .inl rfl | exact .inr rfl)) (by decide) (fun _ _ _ _ _ _ => dts_nil) (fun _ _ _ _ _ _ => de_bop bop_add (dr_var (pv 5)) (DE.toR (de_tup (da_cons (de_var (pv 6)) (da_nil) rfl)))) (fun _ => rfl))) rfl rfl rfl rfl rfl rfl)) (fun _ => rfl))
    (dss_one (ds_set S.nd rfl (by first | exact .inl rfl | exact .inr rfl) (DE.toM (de_var (pv 4))) rfl (.inl rfl))))) (fun _ => rfl))
    (dss_one (ds_ret (DE.toM (de_var (pv 2))))))

theorem sc__law_divisor : FnScope ["one", "other"] ["one", "other"] (defScope st__law_divisor) := ⟨rfl, rfl, rfl, by decide +kernel, rfl, by decide +kernel, by decide +kernel⟩
theorem w__law_divisor (G : PF K mg frees cs ds) : Fun1 P w K mg base 1 "_law_divisor" ["one", "other"] [] f__law_divisor :=
  have S := sc__law_divisor
  fun1 (N := ["one", "other"]) (ps := ["one", "other"]) (G.fn 50 rfl) S (fun _ _ _ _ _ _ us hl => match us, hl with | [_, _], _ => rfl) (by decide) fun f cdv A outer s H E Z gd hr =>
    dss_cons (ds_parVV rfl S.nd rfl rfl (by decide) rfl rfl (de_callB bc_abs (by rfl) (G.free 10 rfl) (by decide +kernel) (dar_cons (dr_var (pv 0)) (dar_nil) rfl) (by decide) (by decide) rfl rfl) (de_callB bc_abs (by rfl) (G.free 10 rfl) (by decide +kernel) (dar_cons (dr_var (pv 1)) (dar_nil) rfl) (by decide) (by decide) rfl rfl) rfl rfl rfl rfl)
    (dss_cons (ds_while (passes_of rfl) (dt_cmp bop_gt (dr_var (pv 1)) (DE.toR (de_int)) (nomark _)) (dss_one (ds_parVV rfl S.nd rfl rfl (by decide) rfl rfl (de_var (pv 1)) (de_bop bop_mod (DE.toR (de_callT bc_int (by rfl) (G.free 0 rfl) (by decide +kernel) (dar_cons (dr_var (pv 0)) (dar_nil) rfl) (by decide) (by decide) rfl rfl)) (dr_var (pv 1))) rfl rfl rfl rfl)))
    (dss_one (ds_ret (DE.toM (de_var (pv 0))))))

theorem sc__law_shared : FnScope ["row", "found", "x"] ["row"] (defScope st__law_shared) := ⟨rfl, rfl, rfl, by decide +kernel, rfl, by decide +kernel, by decide +kernel⟩
theorem w__law_shared (G : PF K mg frees cs ds) : Fun1 P w K mg base 2 "_law_shared" ["row"] [] f__law_shared :=
  have S := sc__law_shared
  fun1 (N := ["row", "found", "x"]) (ps := ["row"]) (G.fn 51 rfl) S (fun _ _ _ _ _ _ us hl => match us, hl with | [_], _ => rfl) (by decide) fun f cdv A outer s H E Z gd hr =>
    dss_cons (ds_set S.nd rfl (by first | exact .inl rfl | exact .inr rfl) (DE.toM (de_int)) rfl (.inl rfl))
    (dss_cons (ds_for (T := .one 2) (passes_of rfl) rfl (di_seq (de_slice (dr_var (pv 0)) (do_none) (do_some (DE.toR (de_unB bun_neg (DE.toR (de_int))))))) (pg_name (i := 2) S.nd rfl (by first | exact .inl rfl | exact .inr rfl)) (dss_one (ds_set S.nd rfl (by first | exact .inl rfl | exact .inr rfl) (DE.toM (de_fn (Fun1.calls (w__law_divisor G) gd hr (by decide) (by rfl) (by decide)) (by decide) (da_cons (de_var (pv 1)) (da_cons (de_var (pv 2)) (da_nil) rfl) rfl) rfl rfl)) rfl (.inl rfl))) (fun _ => rfl))
    (dss_one (ds_ret (DE.toM (de_var (pv 1))))))

theorem sc__law_summed : FnScope ["rows", "weights", "found", "at", "many", "a", "b"] ["rows", "weights"] (defScope st__law_summed) := ⟨rfl, rfl, rfl, by decide +kernel, rfl, by decide +kernel, by decide +kernel⟩
theorem w__law_summed (G : PF K mg frees cs ds) : Fun1 P w K mg base 1 "_law_summed" ["rows", "weights"] [] f__law_summed :=
  have S := sc__law_summed
  fun1 (N := ["rows", "weights", "found", "at", "many", "a", "b"]) (ps := ["rows", "weights"]) (G.fn 52 rfl) S (fun _ _ _ _ _ _ us hl => match us, hl with | [_, _], _ => rfl) (by decide) fun f cdv A outer s H E Z gd hr =>
    dss_cons (ds_set S.nd rfl (by first | exact .inl rfl | exact .inr rfl) (DE.toM (DF.toE (df_rep (DE.toR (DF.toE (df_lst (da_cons (de_int) (da_nil) rfl)))) (DE.toR (de_callB bc_len (by rfl) (G.free 4 rfl) (by decide +kernel) (dar_cons (DE.toR (de_ixB bix (dr_var (pv 0)) (DE.toR (de_int)) (fun _ _ => rfl))) (dar_nil) rfl) (by decide) (by decide) rfl rfl))))) rfl (.inl rfl))
    (dss_cons (ds_for (T := .many [3, 4]) (passes_of rfl) rfl (di_seq (de_var (pv 1))) (pg_tup rfl (pgs_cons (pg_name (i := 3) S.nd rfl (by first | exact .inl rfl | exact .inr rfl)) (pgs_cons (pg_name (i := 4) S.nd rfl (by first | exact .inl rfl | exact .inr rfl)) (pgs_nil)))) (dss_one (ds_setLcx (.many [5, 6]) [("a", 5), ("b", 6)] rfl S.nd rfl rfl rfl (di_zip (by rfl) (G.free 9 rfl) (da_cons (de_var (pv 2)) (da_cons (de_ixB bix (dr_var (pv 0)) (dr_var (pv 3)) (fun _ _ => rfl)) (da_nil) rfl) rfl) rfl rfl) (by kernel_rfl) (fun _ _ _ _ _ => pg_tup rfl (pgs_cons (pg_name (i := 5) S.nd rfl (by first | exact .inl rfl | exact .inr rfl)) (pgs_cons (pg_name (i := 6) S.nd rfl (by first | exact .inl rfl | exact .inr rfl)) (pgs_nil)))) (by decide) (fun _ _ _ _ _ _ => dts_nil) (fun _ _ _ _ _ _ => de_bop bop_add (dr_var (pv 5)) (DE.toR (de_bop bop_mul (dr_var (pv 4)) (dr_var (pv 6))))) (fun _ => rfl))) (fun _ => rfl))
    (dss_one (ds_ret (DE.toM (de_var (pv 2))))))

theorem sc__law_cuts_right : FnScope ["dice", "lot", "v", "rows", "weights", "total", "shared", "some", "g", "cut", "box", "point", "x"] ["dice", "lot"] (defScope st__law_cuts_right) := ⟨rfl, rfl, rfl, by decide +kernel, rfl, by decide +kernel, by decide +kernel⟩
theorem w__law_cuts_right (G : PF K mg frees cs ds) : Fun1 P w K mg base 7 "_law_cuts_right" ["dice", "lot"] [] f__law_cuts_right :=
  have S := sc__law_cuts_right
  fun1 (N := ["dice", "lot", "v", "rows", "weights", "total", "shared", "some", "g", "cut", "box", "point", "x"]) (ps := ["dice", "lot"]) (G.fn 53 rfl) S (fun _ _ _ _ _ _ us hl => match us, hl with | [_, _], _ => rfl) (by decide) fun f cdv A outer s H E Z gd hr =>
    dss_cons (ds_asg (T := .many [2, 3]) (DE.toM (de_var (pv 1))) (pg_tup rfl (pgs_cons (pg_name (i := 2) S.nd rfl (by first | exact .inl rfl | exact .inr rfl)) (pgs_cons (pg_name (i := 3) S.nd rfl (by first | exact .inl rfl | exact .inr rfl)) (pgs_nil)))) rfl rfl rfl)
    (dss_cons (ds_set S.nd rfl (by first | exact .inl rfl | exact .inr rfl) (DE.toM (de_fn (Fun1.calls (w__law_rw_weights G) gd hr (by decide) (by rfl) (by decide)) (by decide) (da_cons (de_var (pv 0)) (da_cons (de_callB bc_len (by rfl) (G.free 4 rfl) (by decide +kernel) (dar_cons (dr_var (pv 3)) (dar_nil) rfl) (by decide) (by decide) rfl rfl) (da_nil) rfl) rfl) rfl rfl)) rfl (.inl rfl))
    (dss_cons (ds_set S.nd rfl (by first | exact .inl rfl | exact .inr rfl) (DE.toM (de_fn (Fun1.calls (w__law_summed G) gd hr (by decide) (by rfl) (by decide)) (by decide) (da_cons (de_var (pv 3)) (da_cons (de_var (pv 4)) (da_nil) rfl) rfl) rfl rfl)) rfl (.inl rfl))
    (dss_cons (ds_asg (T := .many [6, 7]) (DE.toM (de_tup (da_cons (de_fn (Fun1.calls (w__law_shared G) gd hr (by decide) (by rfl) (by decide)) (by decide) (da_cons (de_var (pv 5)) (da_nil) rfl) rfl rfl) (da_cons (DF.toE (df_lst (da_cons (de_int) (da_cons (de_int) (da_cons (de_int) (da_cons (de_int) (da_cons (de_int) (da_cons (de_bop bop_pow (DE.toR (de_int)) (DE.toR (de_int))) (da_nil) rfl) rfl) rfl) rfl) rfl) rfl))) (da_nil) rfl) rfl))) (pg_tup rfl (pgs_cons (pg_name (i := 6) S.nd rfl (by first | exact .inl rfl | exact .inr rfl)) (pgs_cons (pg_name (i := 7) S.nd rfl (by first | exact .inl rfl | exact .inr rfl)) (pgs_nil)))) rfl rfl rfl)
    (dss_cons (ds_set S.nd rfl (by first | exact .inl rfl | exact .inr rfl) (DE.toM (DF.toE (df_cat (DE.toR (DF.toE (df_lcx (.one 8) [("g", 8)] rfl S.nd (di_seq (de_var (pv 7))) (by kernel_rfl) (fun _ _ _ _ _ => pg_name (i := 8) S.nd rfl (by first | exact .inl rfl | exact .inr rfl)) (by decide) (fun _ _ _ _ _ _ => dts_one (dt_cmp (bop_eq (hU2 hr)) (DE.toR (de_bop bop_mod (DE.toR (de_callT bc_int (by rfl) (G.free 0 rfl) (by decide +kernel) (dar_cons (dr_var (pv 6)) (dar_nil) rfl) (by decide) (by decide) rfl rfl)) (dr_var (pv 8)))) (DE.toR (de_int)) (nomark _))) (fun _ _ _ _ _ _ => de_var (pv 8)) (fun _ => rfl)))) (DE.toR (DF.toE (df_if (dt_chain bop_lt bop_lt (DE.toR (de_int)) (dr_var (pv 6)) (DE.toR (de_bop bop_pow (DE.toR (de_int)) (DE.toR (de_int)))) (by rfl)) (df_lst (da_cons (de_var (pv 6)) (da_nil) rfl)) (df_lst (da_nil)))))))) rfl (.inl rfl))
    (dss_cons (ds_for (T := .one 8) (passes_of rfl) rfl (di_seq (de_var (pv 7))) (pg_name (i := 8) S.nd rfl (by first | exact .inl rfl | exact .inr rfl)) (dss_cons (ds_set S.nd rfl (by first | exact .inl rfl | exact .inr rfl) (DE.toM (de_fn (Fun1.calls (w_cut_row G) gd hr (by decide) (by rfl) (by decide)) (by decide) (da_cons (de_var (pv 1)) (da_cons (de_var (pv 4)) (da_cons (de_var (pv 8)) (da_nil) rfl) rfl) rfl) rfl rfl)) rfl (.inl rfl))
    (dss_cons (ds_if (dt_cmp (bop_ne (hU2 hr)) (DE.toR (de_callB (bc_repr gd (hU1 hr)) (by rfl) (G.free 12 rfl) (by decide +kernel) (dar_cons (dr_var (pv 9)) (dar_nil) rfl) (by decide) (by decide) rfl rfl)) (DE.toR (de_callB (bc_repr gd (hU1 hr)) (by rfl) (G.free 12 rfl) (by decide +kernel) (dar_cons (DE.toR (de_callT bc_tup (by rfl) (G.free 3 rfl) (by decide +kernel) (dar_cons (DE.toR (DF.toE (df_lcx (.one 12) [("x", 12)] rfl S.nd (di_seq (de_var (pv 5))) (by kernel_rfl) (fun _ _ _ _ _ => pg_name (i := 12) S.nd rfl (by first | exact .inl rfl | exact .inr rfl)) (by decide) (fun _ _ _ _ _ _ => dts_nil) (fun _ _ _ _ _ _ => de_bop bop_fdiv (dr_var (pv 12)) (dr_var (pv 8))) (fun _ => rfl)))) (dar_nil) rfl) (by decide) (by decide) rfl rfl)) (dar_nil) rfl) (by decide) (by decide) rfl rfl)) (nomark _)) (dss_one (ds_ret (DE.toM (de_bl)))) (dss_nil))
    (dss_cons (ds_setLcx (.one 11) [("point", 11)] rfl S.nd rfl rfl rfl (di_seq (de_fn (Fun1.calls (w__law_rw_box G) gd hr (by decide) (by rfl) (by decide)) (by decide) (da_cons (de_callB (bc_min rfl) (by rfl) (G.free 14 rfl) (by decide +kernel) (dar_cons (dr_var (pv 2)) (dar_cons (DE.toR (de_int)) (dar_nil) rfl) rfl) (by decide) (by decide) rfl rfl) (da_cons (de_int) (da_nil) rfl) rfl) rfl rfl)) (by kernel_rfl) (fun _ _ _ _ _ => pg_name (i := 11) S.nd rfl (by first | exact .inl rfl | exact .inr rfl)) (by decide) (fun _ _ _ _ _ _ => dts_one (DW.pt (dw_and (dt_cmp bop_lt (dr_var (pv 2)) (DE.toR (de_int)) (nomark _)) (dw_and1 (dt_truth (DE.toR (de_fn (Fun1.calls (w__law_keeps G) gd hr (by decide) (by rfl) (by decide)) (by decide) (da_cons (de_var (pv 1)) (da_cons (de_var (pv 11)) (da_nil) rfl) rfl) rfl rfl)) (fun _ => rfl)))))) (fun _ _ _ _ _ _ => de_var (pv 11)) (fun _ => rfl))
    (dss_one (ds_if (dt_cmp (bop_ne (hU2 hr)) (DE.toR (DF.toE (df_lcx (.one 11) [("point", 11)] rfl S.nd (di_seq (de_var (pv 10))) (by kernel_rfl) (fun _ _ _ _ _ => pg_name (i := 11) S.nd rfl (by first | exact .inl rfl | exact .inr rfl)) (by decide) (fun _ _ _ _ _ _ => dts_one (dt_cmp bop_lt (DE.toR (de_fn (Fun1.calls (w__law_row_at G) gd hr (by decide) (by rfl) (by decide)) (by decide) (da_cons (de_var (pv 9)) (da_cons (de_var (pv 11)) (da_nil) rfl) rfl) rfl rfl)) (DE.toR (de_int)) (nomark _))) (fun _ _ _ _ _ _ => de_var (pv 11)) (fun _ => rfl)))) (DE.toR (DF.toE (df_lst (da_nil)))) (nomark _)) (dss_one (ds_ret (DE.toM (de_bl)))) (dss_nil)))))) (fun _ => rfl))
    (dss_one (ds_ret (DE.toM (de_bl)))))))))

theorem sc__law_lot : FnScope ["dice", "most", "v", "far", "rows", "high", "turn", "row", "place", "x"] ["dice", "most"] (defScope st__law_lot) := ⟨rfl, rfl, rfl, by decide +kernel, rfl, by decide +kernel, by decide +kernel⟩
theorem w__law_lot (G : PF K mg frees cs ds) : Fun1 P w K mg base 3 "_law_lot" ["dice", "most"] [] f__law_lot :=
  have S := sc__law_lot
  fun1 (N := ["dice", "most", "v", "far", "rows", "high", "turn", "row", "place", "x"]) (ps := ["dice", "most"]) (G.fn 54 rfl) S (fun _ _ _ _ _ _ us hl => match us, hl with | [_, _], _ => rfl) (by decide) fun f cdv A outer s H E Z gd hr =>
    dss_cons (ds_asg (T := .many [2, 3]) (DE.toM (de_tup (da_cons (de_fn (Fun1.calls (w__law_roll G) gd hr (by decide) (by rfl) (by decide)) (by decide) (da_cons (de_var (pv 0)) (da_cons (de_bop bop_add (dr_var (pv 1)) (DE.toR (de_int))) (da_nil) rfl) rfl) rfl rfl) (da_cons (de_fn (Fun1.calls (w__law_pick G) gd hr (by decide) (by rfl) (by decide)) (by decide) (da_cons (de_var (pv 0)) (da_cons (DF.toE (df_lst (da_cons (de_int) (da_cons (de_int) (da_cons (de_int) (da_cons (de_int) (da_nil) rfl) rfl) rfl) rfl))) (da_nil) rfl) rfl) rfl rfl) (da_nil) rfl) rfl))) (pg_tup rfl (pgs_cons (pg_name (i := 2) S.nd rfl (by first | exact .inl rfl | exact .inr rfl)) (pgs_cons (pg_name (i := 3) S.nd rfl (by first | exact .inl rfl | exact .inr rfl)) (pgs_nil)))) rfl rfl rfl)
    (dss_cons (ds_parFVx rfl S.nd rfl rfl (by decide) rfl rfl (df_lst (da_nil)) (fun _ => de_fn (Fun1.calls (w__law_pick G) gd hr (by decide) (by rfl) (by decide)) (by decide) (da_cons (de_var (pv 0)) (da_cons (DF.toE (df_lst (da_cons (de_int) (da_cons (de_int) (da_cons (de_int) (da_nil) rfl) rfl) rfl))) (da_nil) rfl) rfl) rfl rfl) rfl rfl rfl rfl)
    (dss_cons (ds_for (T := .one 6) (passes_of rfl) rfl (di_range1 (by rfl) (G.free 8 rfl) (dar_cons (DE.toR (de_fn (Fun1.calls (w__law_roll G) gd hr (by decide) (by rfl) (by decide)) (by decide) (da_cons (de_var (pv 0)) (da_cons (de_bop bop_add (dr_var (pv 2)) (DE.toR (de_int))) (da_nil) rfl) rfl) rfl rfl)) (dar_nil) rfl) rfl) (pg_name (i := 6) S.nd rfl (by first | exact .inl rfl | exact .inr rfl)) (dss_cons (ds_setLcx (.one 8) [("place", 8)] rfl S.nd rfl rfl rfl (di_range1 (by rfl) (G.free 8 rfl) (dar_cons (dr_var (pv 2)) (dar_nil) rfl) rfl) (by kernel_rfl) (fun _ _ _ _ _ => pg_name (i := 8) S.nd rfl (by first | exact .inl rfl | exact .inr rfl)) (by decide) (fun _ _ _ _ _ _ => dts_nil) (fun _ _ _ _ _ _ => de_bop bop_sub (DE.toR (de_fn (Fun1.calls (w__law_roll G) gd hr (by decide) (by rfl) (by decide)) (by decide) (da_cons (de_var (pv 0)) (da_cons (de_bop bop_add (DE.toR (de_bop bop_mul (DE.toR (de_int)) (dr_var (pv 3)))) (DE.toR (de_int))) (da_nil) rfl) rfl) rfl rfl)) (dr_var (pv 3))) (fun _ => rfl))
    (dss_one (ds_app (pv 4) (DE.toM (de_callT bc_tup (by rfl) (G.free 3 rfl) (by decide +kernel) (dar_cons (DE.toR (DF.toE (df_cat (dr_var (pv 7)) (DE.toR (DF.toE (df_lst (da_cons (de_bop bop_sub (DE.toR (de_fn (Fun1.calls (w__law_roll G) gd hr (by decide) (by rfl) (by decide)) (by decide) (da_cons (de_var (pv 0)) (da_cons (de_bop bop_add (DE.toR (de_bop bop_mul (DE.toR (de_int)) (dr_var (pv 5)))) (DE.toR (de_int))) (da_nil) rfl) rfl) rfl rfl)) (dr_var (pv 5))) (da_nil) rfl))))))) (dar_nil) rfl) (by decide) (by decide) rfl rfl)) rfl rfl rfl rfl rfl rfl))) (fun _ => rfl))
    (dss_cons (ds_if (DW.pt (dw_and (dt_cmp (bop_ne (hU2 hr)) (dr_var (pv 4)) (DE.toR (DF.toE (df_lst (da_nil)))) (nomark _)) (dw_and1 (dt_cmp (bop_eq (hU2 hr)) (DE.toR (de_fn (Fun1.calls (w__law_roll G) gd hr (by decide) (by rfl) (by decide)) (by decide) (da_cons (de_var (pv 0)) (da_cons (de_int) (da_nil) rfl) rfl) rfl rfl)) (DE.toR (de_int)) (nomark _))))) (dss_cons (ds_set S.nd rfl (by first | exact .inl rfl | exact .inr rfl) (DE.toM (de_ixB bix (dr_var (pv 4)) (DE.toR (de_fn (Fun1.calls (w__law_roll G) gd hr (by decide) (by rfl) (by decide)) (by decide) (da_cons (de_var (pv 0)) (da_cons (de_callB bc_len (by rfl) (G.free 4 rfl) (by decide +kernel) (dar_cons (dr_var (pv 4)) (dar_nil) rfl) (by decide) (by decide) rfl rfl) (da_nil) rfl) rfl) rfl rfl)) (fun _ _ => rfl))) rfl (.inl rfl))
    (dss_one (ds_app (pv 4) (DE.toM (de_callT bc_tup (by rfl) (G.free 3 rfl) (by decide +kernel) (dar_cons (DE.toR (DF.toE (df_cat (DE.toR (DF.toE (df_lcx (.one 9) [("x", 9)] rfl S.nd (di_seq (de_slice (dr_var (pv 7)) (do_none) (do_some (DE.toR (de_unB bun_neg (DE.toR (de_int))))))) (by kernel_rfl) (fun _ _ _ _ _ => pg_name (i := 9) S.nd rfl (by first | exact .inl rfl | exact .inr rfl)) (by decide) (fun _ _ _ _ _ _ => dts_nil) (fun _ _ _ _ _ _ => de_bop bop_sub (DE.toR (de_int)) (dr_var (pv 9))) (fun _ => rfl)))) (DE.toR (DF.toE (df_lst (da_cons (de_bop bop_sub (DE.toR (de_fn (Fun1.calls (w__law_roll G) gd hr (by decide) (by rfl) (by decide)) (by decide) (da_cons (de_var (pv 0)) (da_cons (de_int) (da_nil) rfl) rfl) rfl rfl)) (DE.toR (de_ixB bix (dr_var (pv 7)) (DE.toR (de_unB bun_neg (DE.toR (de_int)))) (fun _ _ => rfl)))) (da_nil) rfl))))))) (dar_nil) rfl) (by decide) (by decide) rfl rfl)) rfl rfl rfl rfl rfl rfl))) (dss_nil))
    (dss_one (ds_ret (DE.toM (de_tup (da_cons (de_var (pv 2)) (da_cons (de_callT bc_tup (by rfl) (G.free 3 rfl) (by decide +kernel) (dar_cons (dr_var (pv 4)) (dar_nil) rfl) (by decide) (by decide) rfl rfl) (da_nil) rfl) rfl))))))))

theorem sc__law_small : FnScope ["dice", "lot"] ["dice"] (defScope st__law_small) := ⟨rfl, rfl, rfl, by decide +kernel, rfl, by decide +kernel, by decide +kernel⟩
theorem w__law_small (G : PF K mg frees cs ds) : Fun1 P w K mg base 4 "_law_small" ["dice"] [] f__law_small :=
  have S := sc__law_small
  fun1 (N := ["dice", "lot"]) (ps := ["dice"]) (G.fn 55 rfl) S (fun _ _ _ _ _ _ us hl => match us, hl with | [_], _ => rfl) (by decide) fun f cdv A outer s H E Z gd hr =>
    dss_cons (ds_set S.nd rfl (by first | exact .inl rfl | exact .inr rfl) (DE.toM (de_fn (Fun1.calls (w__law_lot G) gd hr (by decide) (by rfl) (by decide)) (by decide) (da_cons (de_var (pv 0)) (da_cons (de_int) (da_nil) rfl) rfl) rfl rfl)) rfl (.inl rfl))
    (dss_one (ds_ret (DE.toM (de_if (dt_cmp (bop_ne (hU2 hr)) (DE.toR (de_ixB bix (dr_var (pv 1)) (DE.toR (de_int)) (fun _ _ => rfl))) (DE.toR (de_tup (da_nil))) (nomark _)) (de_var (pv 1)) (de_tup (da_cons (de_int) (da_cons (de_tup (da_cons (de_tup (da_cons (de_int) (da_cons (de_unB bun_neg (DE.toR (de_int))) (da_nil) rfl) rfl)) (da_cons (de_tup (da_cons (de_unB bun_neg (DE.toR (de_int))) (da_cons (de_int) (da_nil) rfl) rfl)) (da_nil) rfl) rfl)) (da_nil) rfl) rfl))))))

theorem sc__law_dividing : FnScope ["dice", "lot", "g", "rows", "row", "x"] ["dice", "lot"] (defScope st__law_dividing) := ⟨rfl, rfl, rfl, by decide +kernel, rfl, by decide +kernel, by decide +kernel⟩
theorem w__law_dividing (G : PF K mg frees cs ds) : Fun1 P w K mg base 3 "_law_dividing" ["dice", "lot"] [] f__law_dividing :=
  have S := sc__law_dividing
  fun1 (N := ["dice", "lot", "g", "rows", "row", "x"]) (ps := ["dice", "lot"]) (G.fn 56 rfl) S (fun _ _ _ _ _ _ us hl => match us, hl with | [_, _], _ => rfl) (by decide) fun f cdv A outer s H E Z gd hr =>
    dss_cons (ds_set S.nd rfl (by first | exact .inl rfl | exact .inr rfl) (DE.toM (de_fn (Fun1.calls (w__law_pick G) gd hr (by decide) (by rfl) (by decide)) (by decide) (da_cons (de_var (pv 0)) (da_cons (DF.toE (df_lst (da_cons (de_int) (da_cons (de_int) (da_cons (de_int) (da_cons (de_int) (da_cons (de_int) (da_cons (de_bop bop_pow (DE.toR (de_int)) (DE.toR (de_int))) (da_nil) rfl) rfl) rfl) rfl) rfl) rfl))) (da_nil) rfl) rfl) rfl rfl)) rfl (.inl rfl))
    (dss_cons (ds_setLcx (.one 4) [("row", 4)] rfl S.nd rfl rfl rfl (di_seq (de_ixB bix (dr_var (pv 1)) (DE.toR (de_int)) (fun _ _ => rfl))) (by kernel_rfl) (fun _ _ _ _ _ => pg_name (i := 4) S.nd rfl (by first | exact .inl rfl | exact .inr rfl)) (by decide) (fun _ _ _ _ _ _ => dts_nil) (fun _ _ _ _ _ _ => de_callT bc_tup (by rfl) (G.free 3 rfl) (by decide +kernel) (dar_cons (DE.toR (DF.toE (df_cat (DE.toR (DF.toE (df_lcx (.one 5) [("x", 5)] rfl S.nd (di_seq (de_slice (dr_var (pv 4)) (do_none) (do_some (DE.toR (de_unB bun_neg (DE.toR (de_int))))))) (by kernel_rfl) (fun _ _ _ _ _ => pg_name (i := 5) S.nd rfl (by first | exact .inl rfl | exact .inr rfl)) (by decide) (fun _ _ _ _ _ _ => dts_nil) (fun _ _ _ _ _ _ => de_bop bop_mul (dr_var (pv 5)) (dr_var (pv 2))) (fun _ => rfl)))) (DE.toR (DF.toE (df_lst (da_cons (de_ixB bix (dr_var (pv 4)) (DE.toR (de_unB bun_neg (DE.toR (de_int)))) (fun _ _ => rfl)) (da_nil) rfl))))))) (dar_nil) rfl) (by decide) (by decide) rfl rfl) (fun _ => rfl))
    (dss_one (ds_ret (DE.toM (de_tup (da_cons (de_tup (da_cons (de_ixB bix (dr_var (pv 1)) (DE.toR (de_int)) (fun _ _ => rfl)) (da_cons (de_callT bc_tup (by rfl) (G.free 3 rfl) (by decide +kernel) (dar_cons (dr_var (pv 3)) (dar_nil) rfl) (by decide) (by decide) rfl rfl) (da_nil) rfl) rfl)) (da_cons (de_var (pv 2)) (da_nil) rfl) rfl))))))

theorem sc__law_rw_lot : FnScope ["dice", "most", "v", "rows", "turn", "place"] ["dice", "most"] (defScope st__law_rw_lot) := ⟨rfl, rfl, rfl, by decide +kernel, rfl, by decide +kernel, by decide +kernel⟩
theorem w__law_rw_lot (G : PF K mg frees cs ds) : Fun1 P w K mg base 4 "_law_rw_lot" ["dice", "most"] [] f__law_rw_lot :=
  have S := sc__law_rw_lot
  fun1 (N := ["dice", "most", "v", "rows", "turn", "place"]) (ps := ["dice", "most"]) (G.fn 57 rfl) S (fun _ _ _ _ _ _ us hl => match us, hl with | [_, _], _ => rfl) (by decide) fun f cdv A outer s H E Z gd hr =>
    dss_cons (ds_parVF rfl S.nd rfl rfl (by decide) rfl rfl (de_fn (Fun1.calls (w__law_roll G) gd hr (by decide) (by rfl) (by decide)) (by decide) (da_cons (de_var (pv 0)) (da_cons (de_bop bop_add (dr_var (pv 1)) (DE.toR (de_int))) (da_nil) rfl) rfl) rfl rfl) (df_lst (da_nil)) rfl rfl rfl rfl)
    (dss_cons (ds_for (T := .one 4) (passes_of rfl) rfl (di_range1 (by rfl) (G.free 8 rfl) (dar_cons (DE.toR (de_fn (Fun1.calls (w__law_roll G) gd hr (by decide) (by rfl) (by decide)) (by decide) (da_cons (de_var (pv 0)) (da_cons (de_bop bop_add (dr_var (pv 2)) (DE.toR (de_int))) (da_nil) rfl) rfl) rfl rfl)) (dar_nil) rfl) rfl) (pg_name (i := 4) S.nd rfl (by first | exact .inl rfl | exact .inr rfl)) (dss_one (ds_app (pv 3) (DE.toM (de_callT bc_tup (by rfl) (G.free 3 rfl) (by decide +kernel) (dar_cons (DE.toR (DF.toE (df_lcx (.one 5) [("place", 5)] rfl S.nd (di_range1 (by rfl) (G.free 8 rfl) (dar_cons (DE.toR (de_bop bop_add (dr_var (pv 2)) (DE.toR (de_int)))) (dar_nil) rfl) rfl) (by kernel_rfl) (fun _ _ _ _ _ => pg_name (i := 5) S.nd rfl (by first | exact .inl rfl | exact .inr rfl)) (by decide) (fun _ _ _ _ _ _ => dts_nil) (fun _ _ _ _ _ _ => de_fn (Fun1.calls (w__law_rw_number G) gd hr (by decide) (by rfl) (by decide)) (by decide) (da_cons (de_var (pv 0)) (da_nil) rfl) rfl rfl) (fun _ => rfl)))) (dar_nil) rfl) (by decide) (by decide) rfl rfl)) rfl rfl rfl rfl rfl rfl)) (fun _ => rfl))
    (dss_one (ds_ret (DE.toM (de_tup (da_cons (de_var (pv 2)) (da_cons (de_callT bc_tup (by rfl) (G.free 3 rfl) (by decide +kernel) (dar_cons (dr_var (pv 3)) (dar_nil) rfl) (by decide) (by decide) rfl rfl) (da_nil) rfl) rfl))))))

theorem sc__law_rw_any : FnScope ["dice"] ["dice"] (defScope st__law_rw_any) := ⟨rfl, rfl, rfl, by decide +kernel, rfl, by decide +kernel, by decide +kernel⟩
theorem w__law_rw_any (G : PF K mg frees cs ds) : Fun1 P w K mg base 5 "_law_rw_any" ["dice"] [] f__law_rw_any :=
  have S := sc__law_rw_any
  fun1 (N := ["dice"]) (ps := ["dice"]) (G.fn 58 rfl) S (fun _ _ _ _ _ _ us hl => match us, hl with | [_], _ => rfl) (by decide) fun f cdv A outer s H E Z gd hr =>
    dss_one (ds_ret (DE.toM (de_if (dt_cmp (bop_eq (hU2 hr)) (DE.toR (de_fn (Fun1.calls (w__law_roll G) gd hr (by decide) (by rfl) (by decide)) (by decide) (da_cons (de_var (pv 0)) (da_cons (de_int) (da_nil) rfl) rfl) rfl rfl)) (DE.toR (de_int)) (nomark _)) (de_fn (Fun1.calls (w__law_rw_lot G) gd hr (by decide) (by rfl) (by decide)) (by decide) (da_cons (de_var (pv 0)) (da_cons (de_fn (Fun1.calls (w__law_pick G) gd hr (by decide) (by rfl) (by decide)) (by decide) (da_cons (de_var (pv 0)) (da_cons (DF.toE (df_lst (da_cons (de_int) (da_cons (de_int) (da_cons (de_int) (da_nil) rfl) rfl) rfl))) (da_nil) rfl) rfl) rfl rfl) (da_nil) rfl) rfl) rfl rfl) (de_fn (Fun1.calls (w__law_lot G) gd hr (by decide) (by rfl) (by decide)) (by decide) (da_cons (de_var (pv 0)) (da_cons (de_int) (da_nil) rfl) rfl) rfl rfl))))

theorem sc__law_right : FnScope ["dice", "lot", "v", "rows", "small", "g", "row", "other", "point", "more", "order", "turned", "weights", "total", "place", "x", "at"] ["dice"] (defScope st__law_right) := ⟨rfl, rfl, rfl, by decide +kernel, rfl, by decide +kernel, by decide +kernel⟩
theorem w__law_right (G : PF K mg frees cs ds) : Fun1 P w K mg base 8 "_law_right" ["dice"] [] f__law_right :=
  have S := sc__law_right
  fun1 (N := ["dice", "lot", "v", "rows", "small", "g", "row", "other", "point", "more", "order", "turned", "weights", "total", "place", "x", "at"]) (ps := ["dice"]) (G.fn 59 rfl) S (fun _ _ _ _ _ _ us hl => match us, hl with | [_], _ => rfl) (by decide) fun f cdv A outer s H E Z gd hr =>
    dss_cons (ds_set S.nd rfl (by first | exact .inl rfl | exact .inr rfl) (DE.toM (de_fn (Fun1.calls (w__law_rw_any G) gd hr (by decide) (by rfl) (by decide)) (by decide) (da_cons (de_var (pv 0)) (da_nil) rfl) rfl rfl)) rfl (.inl rfl))
    (dss_cons (ds_asg (T := .many [2, 3]) (DE.toM (de_var (pv 1))) (pg_tup rfl (pgs_cons (pg_name (i := 2) S.nd rfl (by first | exact .inl rfl | exact .inr rfl)) (pgs_cons (pg_name (i := 3) S.nd rfl (by first | exact .inl rfl | exact .inr rfl)) (pgs_nil)))) rfl rfl rfl)
    (dss_cons (ds_if (DW.pt (dw_and (dt_cmp (bop_ne (hU2 hr)) (dr_var (pv 3)) (DE.toR (de_tup (da_nil))) (nomark _)) (dw_and1 (dt_not (dt_truth (DE.toR (de_fn (Fun1.calls (w__law_cuts_right G) gd hr (by decide) (by rfl) (by decide)) (by decide) (da_cons (de_var (pv 0)) (da_cons (de_var (pv 1)) (da_nil) rfl) rfl) rfl rfl)) (fun _ => rfl)))))) (dss_one (ds_ret (DE.toM (de_bl)))) (dss_nil))
    (dss_cons (ds_asg (T := .many [4, 5]) (DE.toM (de_fn (Fun1.calls (w__law_dividing G) gd hr (by decide) (by rfl) (by decide)) (by decide) (da_cons (de_var (pv 0)) (da_cons (de_fn (Fun1.calls (w__law_small G) gd hr (by decide) (by rfl) (by decide)) (by decide) (da_cons (de_var (pv 0)) (da_nil) rfl) rfl rfl) (da_nil) rfl) rfl) rfl rfl)) (pg_tup rfl (pgs_cons (pg_name (i := 4) S.nd rfl (by first | exact .inl rfl | exact .inr rfl)) (pgs_cons (pg_name (i := 5) S.nd rfl (by first | exact .inl rfl | exact .inr rfl)) (pgs_nil)))) rfl rfl rfl)
    (dss_cons (ds_if (DW.pt (dw_or (dt_not (dt_truth (DE.toR (de_fn (Fun1.calls (w__law_cuts_right G) gd hr (by decide) (by rfl) (by decide)) (by decide) (da_cons (de_var (pv 0)) (da_cons (de_var (pv 4)) (da_nil) rfl) rfl) rfl rfl)) (fun _ => rfl))) (dw_or1 (dt_cmp (bop_ne (hU2 hr)) (DE.toR (de_fn (Fun1.calls (w_cut_row G) gd hr (by decide) (by rfl) (by decide)) (by decide) (da_cons (de_var (pv 4)) (da_cons (de_tup (da_cons (de_tup (da_cons (de_int) (da_cons (de_int) (da_nil) rfl) rfl)) (da_nil) rfl)) (da_cons (de_var (pv 5)) (da_nil) rfl) rfl) rfl) rfl rfl)) (DE.toR (de_callT bc_tup (by rfl) (G.free 3 rfl) (by decide +kernel) (dar_cons (DE.toR (DF.toE (df_lcx (.one 15) [("x", 15)] rfl S.nd (di_seq (de_ixB bix (DE.toR (de_ixB bix (dr_var (pv 4)) (DE.toR (de_int)) (fun _ _ => rfl))) (DE.toR (de_int)) (fun _ _ => rfl))) (by kernel_rfl) (fun _ _ _ _ _ => pg_name (i := 15) S.nd rfl (by first | exact .inl rfl | exact .inr rfl)) (by decide) (fun _ _ _ _ _ _ => dts_nil) (fun _ _ _ _ _ _ => de_bop bop_fdiv (dr_var (pv 15)) (dr_var (pv 5))) (fun _ => rfl)))) (dar_nil) rfl) (by decide) (by decide) rfl rfl)) (nomark _))))) (dss_one (ds_ret (DE.toM (de_bl)))) (dss_nil))
    (dss_cons (ds_for (T := .one 6) (passes_of rfl) rfl (di_seq (de_slice (dr_var (pv 3)) (do_none) (do_some (DE.toR (de_int))))) (pg_name (i := 6) S.nd rfl (by first | exact .inl rfl | exact .inr rfl)) (dss_cons (ds_asg (T := .many [7, 8]) (DE.toM (de_tup (da_cons (de_fn (Fun1.calls (w_opposite_row G) gd hr (by decide) (by rfl) (by decide)) (by decide) (da_cons (de_var (pv 6)) (da_nil) rfl) rfl rfl) (da_cons (de_fn (Fun1.calls (w__law_rw_point G) gd hr (by decide) (by rfl) (by decide)) (by decide) (da_cons (de_var (pv 0)) (da_cons (de_var (pv 2)) (da_nil) rfl) rfl) rfl rfl) (da_nil) rfl) rfl))) (pg_tup rfl (pgs_cons (pg_name (i := 7) S.nd rfl (by first | exact .inl rfl | exact .inr rfl)) (pgs_cons (pg_name (i := 8) S.nd rfl (by first | exact .inl rfl | exact .inr rfl)) (pgs_nil)))) rfl rfl rfl)
    (dss_cons (ds_if (DW.pt (dw_or (dt_cmp (bop_ne (hU2 hr)) (DE.toR (de_callB (bc_repr gd (hU1 hr)) (by rfl) (G.free 12 rfl) (by decide +kernel) (dar_cons (dr_var (pv 7)) (dar_nil) rfl) (by decide) (by decide) rfl rfl)) (DE.toR (de_callB (bc_repr gd (hU1 hr)) (by rfl) (G.free 12 rfl) (by decide +kernel) (dar_cons (DE.toR (de_fn (Fun1.calls (w__law_opposite_row G) gd hr (by decide) (by rfl) (by decide)) (by decide) (da_cons (de_var (pv 6)) (da_nil) rfl) rfl rfl)) (dar_nil) rfl) (by decide) (by decide) rfl rfl)) (nomark _)) (dw_or1 (DW.pt (dw_and (dt_cmp bop_lt (DE.toR (de_callB bc_abs (by rfl) (G.free 10 rfl) (by decide +kernel) (dar_cons (DE.toR (de_ixB bix (dr_var (pv 6)) (DE.toR (de_unB bun_neg (DE.toR (de_int)))) (fun _ _ => rfl))) (dar_nil) rfl) (by decide) (by decide) rfl rfl)) (DE.toR (de_bop bop_pow (DE.toR (de_int)) (DE.toR (de_int)))) (nomark _)) (dw_and1 (dt_cmp (bop_ne (hU2 hr)) (DE.toR (de_fn (Fun1.calls (w_opposite_row G) gd hr (by decide) (by rfl) (by decide)) (by decide) (da_cons (de_var (pv 7)) (da_nil) rfl) rfl rfl)) (dr_var (pv 6)) (nomark _)))))))) (dss_one (ds_ret (DE.toM (de_bl)))) (dss_nil))
    (dss_one (ds_if (dt_cmp (bop_eq (hU2 hr)) (DE.toR (de_cmpB bop_lt (DE.toR (de_fn (Fun1.calls (w_row_at G) gd hr (by decide) (by rfl) (by decide)) (by decide) (da_cons (de_var (pv 6)) (da_cons (de_var (pv 8)) (da_nil) rfl) rfl) rfl rfl)) (DE.toR (de_int)) (nomark _))) (DE.toR (de_cmpB bop_lt (DE.toR (de_fn (Fun1.calls (w_row_at G) gd hr (by decide) (by rfl) (by decide)) (by decide) (da_cons (de_var (pv 7)) (da_cons (de_var (pv 8)) (da_nil) rfl) rfl) rfl rfl)) (DE.toR (de_int)) (nomark _))) (nomark _)) (dss_one (ds_ret (DE.toM (de_bl)))) (dss_nil))))) (fun _ => rfl))
    (dss_cons (ds_set S.nd rfl (by first | exact .inl rfl | exact .inr rfl) (DE.toM (de_callT bc_tup (by rfl) (G.free 3 rfl) (by decide +kernel) (dar_cons (DE.toR (DF.toE (df_lcx (.one 14) [("place", 14)] rfl S.nd (di_range1 (by rfl) (G.free 8 rfl) (dar_cons (DE.toR (de_bop bop_add (dr_var (pv 2)) (DE.toR (de_int)))) (dar_nil) rfl) rfl) (by kernel_rfl) (fun _ _ _ _ _ => pg_name (i := 14) S.nd rfl (by first | exact .inl rfl | exact .inr rfl)) (by decide) (fun _ _ _ _ _ _ => dts_nil) (fun _ _ _ _ _ _ => de_fn (Fun1.calls (w__law_rw_number G) gd hr (by decide) (by rfl) (by decide)) (by decide) (da_cons (de_var (pv 0)) (da_nil) rfl) rfl rfl) (fun _ => rfl)))) (dar_nil) rfl) (by decide) (by decide) rfl rfl)) rfl (.inl rfl))
    (dss_cons (ds_if (dt_cmp (bop_ne (hU2 hr)) (DE.toR (de_callB (bc_repr gd (hU1 hr)) (by rfl) (G.free 12 rfl) (by decide +kernel) (dar_cons (DE.toR (de_fn (Fun1.calls (w_put_row G) gd hr (by decide) (by rfl) (by decide)) (by decide) (da_cons (de_var (pv 1)) (da_cons (de_var (pv 9)) (da_nil) rfl) rfl) rfl rfl)) (dar_nil) rfl) (by decide) (by decide) rfl rfl)) (DE.toR (de_callB (bc_repr gd (hU1 hr)) (by rfl) (G.free 12 rfl) (by decide +kernel) (dar_cons (DE.toR (de_tup (da_cons (de_var (pv 2)) (da_cons (de_bop bop_add (dr_var (pv 3)) (DE.toR (de_tup (da_cons (de_var (pv 9)) (da_nil) rfl)))) (da_nil) rfl) rfl))) (dar_nil) rfl) (by decide) (by decide) rfl rfl)) (nomark _)) (dss_one (ds_ret (DE.toM (de_bl)))) (dss_nil))
    (dss_cons (ds_set S.nd rfl (by first | exact .inl rfl | exact .inr rfl) (DE.toM (de_callT bc_tup (by rfl) (G.free 3 rfl) (by decide +kernel) (dar_cons (DE.toR (de_fn (Fun1.calls (w__law_shuffled G) gd hr (by decide) (by rfl) (by decide)) (by decide) (da_cons (de_var (pv 0)) (da_cons (DF.toE (df_listRg rfl (by rfl) (G.free 7 rfl) (by rfl) (G.free 8 rfl) (dr_var (pv 2)) rfl rfl)) (da_nil) rfl) rfl) rfl rfl)) (dar_nil) rfl) (by decide) (by decide) rfl rfl)) rfl (.inl rfl))
    (dss_cons (ds_asg (T := .many [11, 8]) (DE.toM (de_tup (da_cons (de_fn (Fun1.calls (w_turned_lot G) gd hr (by decide) (by rfl) (by decide)) (by decide) (da_cons (de_var (pv 1)) (da_cons (de_var (pv 10)) (da_nil) rfl) rfl) rfl rfl) (da_cons (de_fn (Fun1.calls (w__law_rw_point G) gd hr (by decide) (by rfl) (by decide)) (by decide) (da_cons (de_var (pv 0)) (da_cons (de_var (pv 2)) (da_nil) rfl) rfl) rfl rfl) (da_nil) rfl) rfl))) (pg_tup rfl (pgs_cons (pg_name (i := 11) S.nd rfl (by first | exact .inl rfl | exact .inr rfl)) (pgs_cons (pg_name (i := 8) S.nd rfl (by first | exact .inl rfl | exact .inr rfl)) (pgs_nil)))) rfl rfl rfl)
    (dss_cons (ds_if (dt_cmp (bop_ne (hU2 hr)) (DE.toR (de_callB (bc_repr gd (hU1 hr)) (by rfl) (G.free 12 rfl) (by decide +kernel) (dar_cons (dr_var (pv 11)) (dar_nil) rfl) (by decide) (by decide) rfl rfl)) (DE.toR (de_callB (bc_repr gd (hU1 hr)) (by rfl) (G.free 12 rfl) (by decide +kernel) (dar_cons (DE.toR (de_tup (da_cons (de_var (pv 2)) (da_cons (de_callT bc_tup (by rfl) (G.free 3 rfl) (by decide +kernel) (dar_cons (DE.toR (DF.toE (df_lcx (.one 6) [("row", 6)] rfl S.nd (di_seq (de_var (pv 3))) (by kernel_rfl) (fun _ _ _ _ _ => pg_name (i := 6) S.nd rfl (by first | exact .inl rfl | exact .inr rfl)) (by decide) (fun _ _ _ _ _ _ => dts_nil) (fun _ _ _ _ _ _ => de_callT bc_tup (by rfl) (G.free 3 rfl) (by decide +kernel) (dar_cons (DE.toR (DF.toE (df_cat (DE.toR (DF.toE (df_lcx (.one 16) [("at", 16)] rfl S.nd (di_seq (de_var (pv 10))) (by kernel_rfl) (fun _ _ _ _ _ => pg_name (i := 16) S.nd rfl (by first | exact .inl rfl | exact .inr rfl)) (by decide) (fun _ _ _ _ _ _ => dts_nil) (fun _ _ _ _ _ _ => de_ixB bix (dr_var (pv 6)) (dr_var (pv 16)) (fun _ _ => rfl)) (fun _ => rfl)))) (DE.toR (DF.toE (df_lst (da_cons (de_ixB bix (dr_var (pv 6)) (DE.toR (de_unB bun_neg (DE.toR (de_int)))) (fun _ _ => rfl)) (da_nil) rfl))))))) (dar_nil) rfl) (by decide) (by decide) rfl rfl) (fun _ => rfl)))) (dar_nil) rfl) (by decide) (by decide) rfl rfl) (da_nil) rfl) rfl))) (dar_nil) rfl) (by decide) (by decide) rfl rfl)) (nomark _)) (dss_one (ds_ret (DE.toM (de_bl)))) (dss_nil))
    (dss_cons (ds_if (dt_cmp (bop_ne (hU2 hr)) (DE.toR (de_fn (Fun1.calls (w_does_keep G) gd hr (by decide) (by rfl) (by decide)) (by decide) (da_cons (de_var (pv 11)) (da_cons (de_callT bc_tup (by rfl) (G.free 3 rfl) (by decide +kernel) (dar_cons (DE.toR (DF.toE (df_lcx (.one 16) [("at", 16)] rfl S.nd (di_seq (de_var (pv 10))) (by kernel_rfl) (fun _ _ _ _ _ => pg_name (i := 16) S.nd rfl (by first | exact .inl rfl | exact .inr rfl)) (by decide) (fun _ _ _ _ _ _ => dts_nil) (fun _ _ _ _ _ _ => de_ixB bix (dr_var (pv 8)) (dr_var (pv 16)) (fun _ _ => rfl)) (fun _ => rfl)))) (dar_nil) rfl) (by decide) (by decide) rfl rfl) (da_nil) rfl) rfl) rfl rfl)) (DE.toR (de_fn (Fun1.calls (w__law_keeps G) gd hr (by decide) (by rfl) (by decide)) (by decide) (da_cons (de_var (pv 1)) (da_cons (de_var (pv 8)) (da_nil) rfl) rfl) rfl rfl)) (nomark _)) (dss_one (ds_ret (DE.toM (de_bl)))) (dss_nil))
    (dss_cons (ds_if (dt_cmp (bop_ne (hU2 hr)) (dr_var (pv 3)) (DE.toR (de_tup (da_nil))) (nomark _)) (dss_cons (ds_set S.nd rfl (by first | exact .inl rfl | exact .inr rfl) (DE.toM (de_fn (Fun1.calls (w__law_rw_weights G) gd hr (by decide) (by rfl) (by decide)) (by decide) (da_cons (de_var (pv 0)) (da_cons (de_callB bc_len (by rfl) (G.free 4 rfl) (by decide +kernel) (dar_cons (dr_var (pv 3)) (dar_nil) rfl) (by decide) (by decide) rfl rfl) (da_nil) rfl) rfl) rfl rfl)) rfl (.inl rfl))
    (dss_cons (ds_set S.nd rfl (by first | exact .inl rfl | exact .inr rfl) (DE.toM (de_fn (Fun1.calls (w_weighted_row G) gd hr (by decide) (by rfl) (by decide)) (by decide) (da_cons (de_var (pv 1)) (da_cons (de_var (pv 12)) (da_nil) rfl) rfl) rfl rfl)) rfl (.inl rfl))
    (dss_one (ds_if (dt_cmp (bop_ne (hU2 hr)) (DE.toR (de_fn (Fun1.calls (w_weighted_row G) gd hr (by decide) (by rfl) (by decide)) (by decide) (da_cons (de_var (pv 11)) (da_cons (de_var (pv 12)) (da_nil) rfl) rfl) rfl rfl)) (DE.toR (de_callT bc_tup (by rfl) (G.free 3 rfl) (by decide +kernel) (dar_cons (DE.toR (DF.toE (df_cat (DE.toR (DF.toE (df_lcx (.one 16) [("at", 16)] rfl S.nd (di_seq (de_var (pv 10))) (by kernel_rfl) (fun _ _ _ _ _ => pg_name (i := 16) S.nd rfl (by first | exact .inl rfl | exact .inr rfl)) (by decide) (fun _ _ _ _ _ _ => dts_nil) (fun _ _ _ _ _ _ => de_ixB bix (dr_var (pv 13)) (dr_var (pv 16)) (fun _ _ => rfl)) (fun _ => rfl)))) (DE.toR (DF.toE (df_lst (da_cons (de_ixB bix (dr_var (pv 13)) (DE.toR (de_unB bun_neg (DE.toR (de_int)))) (fun _ _ => rfl)) (da_nil) rfl))))))) (dar_nil) rfl) (by decide) (by decide) rfl rfl)) (nomark _)) (dss_one (ds_ret (DE.toM (de_bl)))) (dss_nil))))) (dss_nil))
    (dss_one (ds_ret (DE.toM (de_fn (Fun1.calls (w__law_led_right G) gd hr (by decide) (by rfl) (by decide)) (by decide) (da_cons (de_var (pv 0)) (da_cons (de_var (pv 4)) (da_nil) rfl) rfl) rfl rfl))))))))))))))))

theorem sc__law_dice : FnScope ["script", "spot", "cell", "left"] ["script", "spot"] (defScope st__law_dice) := ⟨rfl, rfl, rfl, by decide +kernel, rfl, by decide +kernel, by decide +kernel⟩
theorem w__law_dice (G : PF K mg frees cs ds) : Fun1 P w K mg base 1 "_law_dice" ["script", "spot"] [] f__law_dice :=
  have S := sc__law_dice
  fun1 (N := ["script", "spot", "cell", "left"]) (ps := ["script", "spot"]) (G.fn 60 rfl) S (fun _ _ _ _ _ _ us hl => match us, hl with | [_, _], _ => rfl) (by decide) fun f cdv A outer s H E Z gd hr =>
    dss_cons (ds_set S.nd rfl (by first | exact .inl rfl | exact .inr rfl) (DE.toM (de_if (dt_cmp bop_lt (dr_var (pv 1)) (DE.toR (de_callB bc_len (by rfl) (G.free 4 rfl) (by decide +kernel) (dar_cons (dr_var (pv 0)) (dar_nil) rfl) (by decide) (by decide) rfl rfl)) (nomark _)) (de_callT bc_int (by rfl) (G.free 0 rfl) (by decide +kernel) (dar_cons (DE.toR (de_ixB bix (dr_var (pv 0)) (dr_var (pv 1)) (fun _ _ => rfl))) (dar_nil) rfl) (by decide) (by decide) rfl rfl) (de_bop bop_add (DE.toR (de_bop bop_mul (DE.toR (de_int)) (dr_var (pv 1)))) (DE.toR (de_int))))) rfl (.inl rfl))
    (dss_cons (ds_set S.nd rfl (by first | exact .inl rfl | exact .inr rfl) (DE.toM (de_bop bop_mod (DE.toR (de_callB (bc_max rfl) (by rfl) (G.free 13 rfl) (by decide +kernel) (dar_cons (DE.toR (de_int)) (dar_cons (DE.toR (de_bop bop_sub (DE.toR (de_callB bc_abs (by rfl) (G.free 10 rfl) (by decide +kernel) (dar_cons (dr_var (pv 2)) (dar_nil) rfl) (by decide) (by decide) rfl rfl)) (DE.toR (de_bop bop_pow (DE.toR (de_int)) (DE.toR (de_int)))))) (dar_nil) rfl) rfl) (by decide) (by decide) rfl rfl)) (DE.toR (de_bop bop_mul (DE.toR (de_bop bop_pow (DE.toR (de_int)) (DE.toR (de_int)))) (DE.toR (de_bop bop_pow (DE.toR (de_int)) (DE.toR (de_int)))))))) rfl (.inl rfl))
    (dss_one (ds_retF (df_lst (da_cons (de_var (pv 3)) (da_cons (de_bop bop_add (DE.toR (de_bop bop_add (DE.toR (de_bop bop_add (DE.toR (de_bop bop_mul (DE.toR (de_bop bop_mod (DE.toR (de_callB bc_abs (by rfl) (G.free 10 rfl) (by decide +kernel) (dar_cons (dr_var (pv 2)) (dar_nil) rfl) (by decide) (by decide) rfl rfl)) (DE.toR (de_int)))) (DE.toR (de_int)))) (DE.toR (de_bop bop_mul (DE.toR (de_int)) (dr_var (pv 1)))))) (DE.toR (de_bop bop_mul (DE.toR (de_int)) (DE.toR (de_callT bc_int (by rfl) (G.free 0 rfl) (by decide +kernel) (dar_cons (DE.toR (de_cmpB bop_lt (dr_var (pv 2)) (DE.toR (de_int)) (nomark _))) (dar_nil) rfl) (by decide) (by decide) rfl rfl)))))) (DE.toR (de_int))) (da_cons (de_int) (da_nil) rfl) rfl) rfl)))))

theorem sc_law : FnScope ["script", "spot", "dice", "turn", "half", "band", "told", "due"] ["script"] (defScope st_law) := ⟨rfl, rfl, rfl, by decide +kernel, rfl, by decide +kernel, by decide +kernel⟩
theorem w_law (G : PF K mg frees cs ds) : Fun1 P w K mg base 9 "law" ["script"] [] f_law :=
  have S := sc_law
  fun1 (N := ["script", "spot", "dice", "turn", "half", "band", "told", "due"]) (ps := ["script"]) (G.fn 61 rfl) S (fun _ _ _ _ _ _ us hl => match us, hl with | [_], _ => rfl) (by decide) fun f cdv A outer s H E Z gd hr =>
    dss_cons (ds_for (T := .one 1) (passes_of rfl) rfl (di_range1 (by rfl) (G.free 8 rfl) (dar_cons (DE.toR (de_callB (bc_max rfl) (by rfl) (G.free 13 rfl) (by decide +kernel) (dar_cons (DE.toR (de_int)) (dar_cons (DE.toR (de_callB (bc_min rfl) (by rfl) (G.free 14 rfl) (by decide +kernel) (dar_cons (DE.toR (de_int)) (dar_cons (DE.toR (de_callB bc_len (by rfl) (G.free 4 rfl) (by decide +kernel) (dar_cons (dr_var (pv 0)) (dar_nil) rfl) (by decide) (by decide) rfl rfl)) (dar_nil) rfl) rfl) (by decide) (by decide) rfl rfl)) (dar_nil) rfl) rfl) (by decide) (by decide) rfl rfl)) (dar_nil) rfl) rfl) (pg_name (i := 1) S.nd rfl (by first | exact .inl rfl | exact .inr rfl)) (dss_cons (ds_share S.nd rfl (by first | exact .inl rfl | exact .inr rfl) (df_fn (Fun1.calls (w__law_dice G) gd hr (by decide) (by rfl) (by decide)) (by decide) (da_cons (de_var (pv 0)) (da_cons (de_var (pv 1)) (da_nil) rfl) rfl) rfl rfl) rfl (.inl rfl))
    (dss_one (ds_for (T := .one 3) (passes_of rfl) rfl (di_range1 (by rfl) (G.free 8 rfl) (dar_cons (DE.toR (de_int)) (dar_nil) rfl) rfl) (pg_name (i := 3) S.nd rfl (by first | exact .inl rfl | exact .inr rfl)) (dss_one (ds_if (dt_not (dt_truth (DE.toR (de_fn (Fun1.calls (w__law_right G) gd hr (by decide) (by rfl) (by decide)) (by decide) (da_cons (de_var (pv 2)) (da_nil) rfl) rfl rfl)) (fun _ => rfl))) (dss_one (ds_ret (DE.toM (de_bl)))) (dss_nil))) (fun _ => rfl)))) (fun _ => rfl))
    (dss_cons (ds_asg (T := .many [4, 5]) (DE.toM (de_tup (da_cons (de_tup (da_cons (de_int) (da_cons (de_tup (da_cons (de_tup (da_cons (de_int) (da_cons (de_unB bun_neg (DE.toR (de_int))) (da_nil) rfl) rfl)) (da_cons (de_tup (da_cons (de_unB bun_neg (DE.toR (de_int))) (da_cons (de_int) (da_nil) rfl) rfl)) (da_nil) rfl) rfl)) (da_nil) rfl) rfl)) (da_cons (de_tup (da_cons (de_int) (da_cons (de_tup (da_cons (de_tup (da_cons (de_int) (da_cons (de_int) (da_cons (de_int) (da_nil) rfl) rfl) rfl)) (da_cons (de_tup (da_cons (de_int) (da_cons (de_int) (da_cons (de_int) (da_nil) rfl) rfl) rfl)) (da_cons (de_tup (da_cons (de_unB bun_neg (DE.toR (de_int))) (da_cons (de_unB bun_neg (DE.toR (de_int))) (da_cons (de_int) (da_nil) rfl) rfl) rfl)) (da_nil) rfl) rfl) rfl)) (da_nil) rfl) rfl)) (da_nil) rfl) rfl))) (pg_tup rfl (pgs_cons (pg_name (i := 4) S.nd rfl (by first | exact .inl rfl | exact .inr rfl)) (pgs_cons (pg_name (i := 5) S.nd rfl (by first | exact .inl rfl | exact .inr rfl)) (pgs_nil)))) rfl rfl rfl)
    (dss_cons (ds_set S.nd rfl (by first | exact .inl rfl | exact .inr rfl) (DE.toM (DF.toE (df_lst (da_cons (de_fn (Fun1.calls (w_cut_row G) gd hr (by decide) (by rfl) (by decide)) (by decide) (da_cons (de_var (pv 4)) (da_cons (de_tup (da_cons (de_tup (da_cons (de_int) (da_cons (de_int) (da_nil) rfl) rfl)) (da_nil) rfl)) (da_cons (de_int) (da_nil) rfl) rfl) rfl) rfl rfl) (da_cons (de_fn (Fun1.calls (w_cut_row G) gd hr (by decide) (by rfl) (by decide)) (by decide) (da_cons (de_var (pv 4)) (da_cons (de_tup (da_cons (de_tup (da_cons (de_int) (da_cons (de_int) (da_nil) rfl) rfl)) (da_nil) rfl)) (da_cons (de_int) (da_nil) rfl) rfl) rfl) rfl rfl) (da_cons (de_fn (Fun1.calls (w_opposite_row G) gd hr (by decide) (by rfl) (by decide)) (by decide) (da_cons (de_tup (da_cons (de_int) (da_cons (de_unB bun_neg (DE.toR (de_int))) (da_nil) rfl) rfl)) (da_nil) rfl) rfl rfl) (da_nil) rfl) rfl) rfl)))) rfl (.inl rfl))
    (dss_cons (ds_set S.nd rfl (by first | exact .inl rfl | exact .inr rfl) (DE.toM (DF.toE (df_cat (dr_var (pv 6)) (DE.toR (DF.toE (df_lst (da_cons (de_fn (Fun1.calls (w_cut_row G) gd hr (by decide) (by rfl) (by decide)) (by decide) (da_cons (de_var (pv 5)) (da_cons (de_tup (da_cons (de_tup (da_cons (de_int) (da_cons (de_int) (da_nil) rfl) rfl)) (da_nil) rfl)) (da_cons (de_int) (da_nil) rfl) rfl) rfl) rfl rfl) (da_cons (de_fn (Fun1.calls (w_led_lot G) gd hr (by decide) (by rfl) (by decide)) (by decide) (da_cons (de_var (pv 5)) (da_cons (de_tup (da_cons (de_tup (da_cons (de_int) (da_cons (de_int) (da_nil) rfl) rfl)) (da_cons (de_tup (da_cons (de_unB bun_neg (DE.toR (de_int))) (da_cons (de_int) (da_nil) rfl) rfl)) (da_nil) rfl) rfl)) (da_nil) rfl) rfl) rfl rfl) (da_nil) rfl) rfl))))))) rfl (.inl rfl))
    (dss_cons (ds_set S.nd rfl (by first | exact .inl rfl | exact .inr rfl) (DE.toM (DF.toE (df_cat (dr_var (pv 6)) (DE.toR (DF.toE (df_lst (da_cons (de_fn (Fun1.calls (w_turned_lot G) gd hr (by decide) (by rfl) (by decide)) (by decide) (da_cons (de_var (pv 5)) (da_cons (de_tup (da_cons (de_int) (da_cons (de_int) (da_nil) rfl) rfl)) (da_nil) rfl) rfl) rfl rfl) (da_cons (de_fn (Fun1.calls (w_put_row G) gd hr (by decide) (by rfl) (by decide)) (by decide) (da_cons (de_tup (da_cons (de_int) (da_cons (de_tup (da_nil)) (da_nil) rfl) rfl)) (da_cons (de_tup (da_cons (de_int) (da_cons (de_unB bun_neg (DE.toR (de_int))) (da_nil) rfl) rfl)) (da_nil) rfl) rfl) rfl rfl) (da_nil) rfl) rfl))))))) rfl (.inl rfl))
    (dss_cons (ds_set S.nd rfl (by first | exact .inl rfl | exact .inr rfl) (DE.toM (DF.toE (df_lst (da_cons (de_tup (da_cons (de_int) (da_cons (de_unB bun_neg (DE.toR (de_int))) (da_nil) rfl) rfl)) (da_cons (de_tup (da_cons (de_unB bun_neg (DE.toR (de_int))) (da_cons (de_int) (da_nil) rfl) rfl)) (da_cons (de_tup (da_cons (de_unB bun_neg (DE.toR (de_int))) (da_cons (de_int) (da_nil) rfl) rfl)) (da_cons (de_tup (da_cons (de_unB bun_neg (DE.toR (de_int))) (da_cons (de_unB bun_neg (DE.toR (de_int))) (da_cons (de_int) (da_nil) rfl) rfl) rfl)) (da_cons (de_tup (da_cons (de_int) (da_cons (de_tup (da_cons (de_tup (da_cons (de_int) (da_cons (de_int) (da_nil) rfl) rfl)) (da_cons (de_tup (da_cons (de_unB bun_neg (DE.toR (de_int))) (da_cons (de_int) (da_nil) rfl) rfl)) (da_cons (de_tup (da_cons (de_unB bun_neg (DE.toR (de_int))) (da_cons (de_int) (da_nil) rfl) rfl)) (da_nil) rfl) rfl) rfl)) (da_nil) rfl) rfl)) (da_nil) rfl) rfl) rfl) rfl) rfl)))) rfl (.inl rfl))
    (dss_one (ds_ret (DE.toM (de_cmpB (bop_eq (hU2 hr)) (dr_var (pv 6)) (DE.toR (DF.toE (df_cat (dr_var (pv 7)) (DE.toR (DF.toE (df_lst (da_cons (de_tup (da_cons (de_int) (da_cons (de_tup (da_cons (de_tup (da_cons (de_int) (da_cons (de_int) (da_cons (de_int) (da_nil) rfl) rfl) rfl)) (da_cons (de_tup (da_cons (de_int) (da_cons (de_int) (da_cons (de_int) (da_nil) rfl) rfl) rfl)) (da_cons (de_tup (da_cons (de_unB bun_neg (DE.toR (de_int))) (da_cons (de_unB bun_neg (DE.toR (de_int))) (da_cons (de_int) (da_nil) rfl) rfl) rfl)) (da_nil) rfl) rfl) rfl)) (da_nil) rfl) rfl)) (da_cons (de_tup (da_cons (de_int) (da_cons (de_tup (da_cons (de_tup (da_cons (de_int) (da_cons (de_unB bun_neg (DE.toR (de_int))) (da_nil) rfl) rfl)) (da_nil) rfl)) (da_nil) rfl) rfl)) (da_nil) rfl) rfl))))))) (nomark _))))))))))

end
end K05

set_option Elab.async false
set_option linter.all false
set_option maxRecDepth 100000
set_option maxHeartbeats 0
namespace K05
open PySem PySem.Spec L2 DL
open PyProof.Rows hiding St
def names0 : List PySem.Str := ["LoopError", "InvalidRows", "InvalidPoint", "InvalidOperation", "InvalidNumber", "TooMany", "FAR", "PAIR_SIZE", "is_whole", "is_near", "is_pair", "is_ascending", "require_number", "MOST_PLACES", "MOST_ROWS", "MOST_LED", "is_near_row", "is_free_row", "is_lot_in", "is_weight", "are_weights_by", "are_weights_in", "is_point_of", "row_worth", "does_keep_in", "weighted_by", "weighted_in", "does_divide", "cut_by", "opposite_in"]
def names1 : List PySem.Str := ["led_row", "led_in", "turned_row", "require_lot", "require_row", "require_free_row", "require_point_of", "require_weights", "is_matrix", "is_sequence_of", "row_at", "does_keep", "weighted_row", "cut_row", "opposite_row", "put_row", "led_lot", "turned_lot", "_law_dice", "_law_roll", "_law_pick", "_law_shuffled", "_law_divisor", "_law_row_at", "_law_keeps", "_law_summed", "_law_opposite_row", "_law_lot", "_law_rw_number", "_law_rw_lot"]
def names2 : List PySem.Str := ["_law_rw_any", "_law_rw_point", "_law_rw_weights", "_law_rw_box", "_law_shared", "_law_dividing", "_law_cuts_right", "_law_put_together", "_law_matrix", "_law_led_right", "_law_small", "_law_right"]
def names : List PySem.Str := names0 ++ names1 ++ names2
abbrev R : PySem.W.OpenRow := PySem.W.OpenLaw.row PySem.Challenge.rw_sweeporders_k05_whole_cuts_opposites_and
abbrev hk : PySem.W.Hook := hookX 4 frees cs ds
def ob (s : PySem.W.SharedT) : He.AlD := obsXG 4 frees cs ds (HandSHeadRun.getT s)
theorem ob_eq (s : PySem.W.SharedT) : ob s = hk.obs s.abs := obsXG_eq (HandSHeadRun.getT_eq s)
theorem run (w : World) : HandSHeadRun.RunEq R (PySem.W.view R.prog [76]) hk ob 4000 names w := by
  intro os
  kernel_rfl
end K05
open PySem PySem.W PySem.Calls PyProof.Rows
theorem PySem.Challenge.cw_sweeporders_k05_whole_cuts_opposites_and_holds : PySem.Challenge.rw_sweeporders_k05_whole_cuts_opposites_and.Holds := by
  w_on; o_law
  refine HandSHeadRun.head_any (r := OpenLaw.row PySem.Challenge.rw_sweeporders_k05_whole_cuts_opposites_and) (q := view (OpenLaw.row PySem.Challenge.rw_sweeporders_k05_whole_cuts_opposites_and).prog [76]) (H := K05.hk) (ob := K05.ob) (M := 4000) (loose := K05.names) (d := HandSHeadRun.topDef (OpenLaw.row PySem.Challenge.rw_sweeporders_k05_whole_cuts_opposites_and).prog 76) (kwd := []) K05.ob_eq
    (by kernel_rfl) (fun s => by kernel_rfl) K05.run (by kernel_rfl) (by kernel_rfl) (by kernel_rfl) (by rfl) (by first | assumption | decide +kernel) (by decide +kernel) ⟨rfl, rfl, rfl, rfl, rfl, by decide +kernel⟩ ?hw ?hc
  case hw => w_witness2
  case hc =>
    refine DL.walkD (l := PySem.Challenge.rw_sweeporders_k05_whole_cuts_opposites_and) (n := 63) (k := 9) (x := "script") (nm := "law") rfl (by decide) (by kernel_rfl) (by kernel_rfl) ⟨rfl, by decide, by decide⟩ K05.law_ok fun w mg h Y G => ?_
    obtain ⟨K, KX, c⟩ := Y
    exact ⟨K, KX, fun base h1 h2 => K05.w_law (DL.says_pf KX G c)⟩

