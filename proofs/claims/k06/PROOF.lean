import PyProof.Rows.All
import Wide.All
import OpenK.AllK
import Wide.FinOn
import HandS.ForMost
import HandS.Exc
import HandS.ExcOwn
import HandS.WordsExc
import HandS.IsInst
import HandS.TupAny
import HandS.TupMul
import HandS.Deep
import HandS.Flow
import HandS.Conv
import HandS.Zip
import KE.KDictKeyed
import KE.KDictDisplayH
import PyProof.ListMulRoad
import PyProof.FactsAll.tuple_2
import HandS.Style
import KE.KDictWalk
import HandS.TupLen
import HandS.CallLocal
import PyProof.Rows.SortShellAny
import HandS.SetFor
import HandS.SetKeys
import HandS.DictComp
import KE.KDictPairs
import PySem.Challenge.RW_eyedbelt_k06_whole_shares_in_the_long_ru
set_option Elab.async false
set_option linter.all false
set_option maxRecDepth 100000
set_option maxHeartbeats 4000000
/-! DL1: data, stores, the relation to the abstract heap; readings by data -/
namespace DL
open PySem PySem.Spec L2
/-- the program and the world that are meant -/
class Pw where
  P : Program
  w : World
  mg : Str → Option Value
variable [Pw]

/-- data: what a value is, its tuples and never changed lists seen through; cel n: the n-th thing that may change -/
inductive D where
  | non | bl (b : Bool) | int (i : Int) | str (x : Str) | tup (l : List D) | lst (l : List D) | ro (l : List D) | cel (n : Nat) | dic (ks : List Key) (l : List D) | dcn (ks : List D) (l : List D) | glo (x : Str)
/-- what may change -/
inductive CO where
  | dead | lst (l : List D) | dkn (kvs : List (D × D)) | dks (kvs : List (Key × D))
abbrev Sto := List CO
abbrev Ev := List (Option D)
/-- an own error: its class's number, or the one with a line -/
inductive Er where
  | e (c : Nat) | t (line : Int)

/-! ### dicts whose keys are nested tuples, as objects of the abstract heap -/
abbrev EntN := NestedKey × Addr × V
def EntR (p : EntN) (q : NestedKey × Addr × Value) : Prop := p.1 = q.1 ∧ p.2.1 = q.2.1 ∧ RelV p.2.2 q.2.2
/-- a dict with these entries, in order: key, the key's own object, value -/
def DNo (a : Addr) (es : List EntN) : HO := .ext fun h => es.length ≤ sizeLine ∧ (a == sysModules) = false ∧ ∃ xs, Paired EntR es xs ∧
  ∃ o os ep, h.get? a = some o ∧ o.ExactDict ∧ o.data = .dict os ep ∧ os.toList = xs.map (entryOfKey (nestedKind Pw.P Pw.w)) ∧ (xs.map (·.1)).Nodup
def atN (es : List EntN) (k : NestedKey) : Option (Addr × V) := (es.find? fun x => decide (x.1 = k)).map (·.2)
def putN1 (k : NestedKey) (v : V) (x : EntN) : EntN := if x.1 = k then (x.1, x.2.1, v) else x
def putN (es : List EntN) (k : NestedKey) (a : Addr) (v : V) : List EntN := if (atN es k).isSome then es.map (putN1 k v) else es ++ [(k, a, v)]
theorem atN_rel {k : NestedKey} {es : List EntN} {xs : List (NestedKey × Addr × Value)} (r : Paired EntR es xs) : (∀ p, atN es k = some p → ∃ q, atKey xs k = some q ∧ p.1 = q.1 ∧ RelV p.2 q.2) ∧ (atN es k = none → atKey xs k = none) := by
  induction r with
  | nil => exact ⟨fun p h => by simp [atN] at h, fun _ => rfl⟩
  | @cons e x es xs hr t ih =>
    obtain ⟨h1, h2, h3⟩ := hr
    by_cases c : e.1 = k
    · have c' : x.1 = k := h1 ▸ c
      have e1 : atN (e :: es) k = some e.2 := by simp [atN, List.find?_cons, c]
      have e2 : atKey (x :: xs) k = some x.2 := by simp [atKey, List.find?_cons, c']
      rw [e1, e2]
      exact ⟨fun p hp => by cases hp; exact ⟨_, rfl, h2, h3⟩, fun h => by cases h⟩
    · have c' : ¬ x.1 = k := h1 ▸ c
      have e1 : atN (e :: es) k = atN es k := by simp [atN, List.find?_cons, c]
      have e2 : atKey (x :: xs) k = atKey xs k := by simp [atKey, List.find?_cons, c']
      rw [e1, e2]
      exact ih
theorem atN_isSome {k : NestedKey} {es : List EntN} {xs : List (NestedKey × Addr × Value)} (r : Paired EntR es xs) : (atKey xs k).isSome = (atN es k).isSome := by
  cases h : atN es k with
  | none => rw [(atN_rel r).2 h]; rfl
  | some p =>
    obtain ⟨q, hq, _⟩ := (atN_rel r).1 p h
    rw [hq]; rfl
theorem putN_rel {k : NestedKey} {a : Addr} {v : V} {u : Value} {es : List EntN} {xs : List (NestedKey × Addr × Value)} (r : Paired EntR es xs) (rv : RelV v u) : Paired EntR (putN es k a v) (storedH xs k a u) := by
  unfold putN storedH
  rw [atN_isSome r]
  split
  · rename_i hc
    clear hc
    induction r with
    | nil => exact .nil
    | @cons e x es xs hr t ih =>
      refine .cons ?_ ih
      obtain ⟨h1, h2, h3⟩ := hr
      unfold putN1 putAt
      by_cases c : e.1 = k
      · rw [if_pos c, if_pos (h1 ▸ c)]
        exact ⟨h1, h2, rv⟩
      · rw [if_neg c, if_neg (h1 ▸ c)]
        exact ⟨h1, h2, h3⟩
  · rename_i hc
    clear hc
    induction r with
    | nil => exact .cons ⟨rfl, rfl, rv⟩ .nil
    | cons hr t ih => exact .cons hr ih
theorem putN_len (es : List EntN) (k : NestedKey) (a : Addr) (v : V) : (putN es k a v).length ≤ es.length + 1 := by
  unfold putN
  split <;> simp
mutual
/-- data as a key of a dict -/
def nkD : D → Option NestedKey
  | .non => some .none
  | .bl b => some (.num (if b = true then 1 else 0))
  | .int i => some (.num i)
  | .str x => some (.text x)
  | .tup l => match nkL l with
    | some ks => some (.tup ks)
    | none => none
  | _ => none
def nkL : List D → Option (List NestedKey)
  | [] => some []
  | d :: r => match nkD d, nkL r with
    | some k, some ks => some (k :: ks)
    | _, _ => none
end
/-- a tuple as a key -/
def keyN (d : D) : Option NestedKey := match d with
  | .tup l => match nkD (.tup l) with
    | some k => if k.depth ≤ 8 then some k else none
    | none => none
  | _ => none
inductive Rv (K : PySem.W.Frag) (F : Hp) (α : List Addr) : V → D → Prop
  | non : Rv K F α .non .non
  | bl (b : Bool) : Rv K F α (.bl b) (.bl b)
  | int (i : Int) : Rv K F α (.int i) (.int i)
  | str (x : Str) : Rv K F α (.str x) (.str x)
  | tup {a : Addr} {xs : List V} {ds : List D} : SqT K F a xs → xs.length = ds.length → (∀ (i : Nat) x d, xs[i]? = some x → ds[i]? = some d → Rv K F α x d) → Rv K F α (.ref a) (.tup ds)
  | lst {a : Addr} {xs : List V} {ds : List D} : F a = some (.lst xs) → xs.length = ds.length → (∀ (i : Nat) x d, xs[i]? = some x → ds[i]? = some d → Rv K F α x d) → Rv K F α (.ref a) (.lst ds)
  | ro {a : Addr} {xs : List V} {ds : List D} : SqL K F a xs → xs.length = ds.length → (∀ (i : Nat) x d, xs[i]? = some x → ds[i]? = some d → Rv K F α x d) → Rv K F α (.ref a) (.ro ds)
  | cel {n : Nat} {a : Addr} : α[n]? = some a → Rv K F α (.ref a) (.cel n)
  | dic {a : Addr} {kvs : List (Key × V)} {ds : List D} : F a = some (.dK kvs) → kvs.length = ds.length → (∀ (i : Nat) k x d, kvs[i]? = some (k, x) → ds[i]? = some d → Rv K F α x d) → Rv K F α (.ref a) (.dic (kvs.map (·.1)) ds)
  | dcn {a : Addr} {o : Obj} {es : List EntN} {ks ds : List D} : F a = some (.frz o (DNo a es)) → es.length = ks.length → es.length = ds.length → (∀ (i : Nat) e d, es[i]? = some e → ks[i]? = some d → keyN d = some e.1) →
      (∀ (i : Nat) e d, es[i]? = some e → ks[i]? = some d → Rv K F α (.ref e.2.1) d) → (∀ (i : Nat) e d, es[i]? = some e → ds[i]? = some d → Rv K F α e.2.2 d) → Rv K F α (.ref a) (.dcn ks ds)
  | glo {x : Str} {a : Addr} : Pw.mg x = some (.ref a) → Rv K F α (.ref a) (.glo x)

def RvL (K : PySem.W.Frag) (F : Hp) (α : List Addr) (xs : List V) (ds : List D) : Prop := xs.length = ds.length ∧ ∀ (i : Nat) x d, xs[i]? = some x → ds[i]? = some d → Rv K F α x d

section
variable {K : PySem.W.Frag} {F F' F'' H H' : Hp} {α α' α'' : List Addr} {M M' : Sto}
theorem SqT.mono {a : Addr} {xs : List V} (s : Same F F') (h : SqT K F a xs) : SqT K F' a xs := by
  rcases h with (h | ⟨o, h⟩) | h
  · exact .inl (.inl (s _ _ h))
  · exact .inl (.inr ⟨o, s _ _ h⟩)
  · exact .inr h
theorem Rv.mono {v : V} {d : D} (s : Same F F') (p : α <+: α') (h : Rv K F α v d) : Rv K F' α' v d := by
  induction h with
  | non => exact .non
  | bl b => exact .bl b
  | int i => exact .int i
  | str x => exact .str x
  | tup h1 h2 _ ih => exact .tup (SqT.mono s h1) h2 fun i x d a b => ih i x d a b
  | lst h1 h2 _ ih => exact .lst (s _ _ h1) h2 fun i x d a b => ih i x d a b
  | ro h1 h2 _ ih => exact .ro (s.seq h1) h2 fun i x d a b => ih i x d a b
  | cel h =>
    obtain ⟨t, rfl⟩ := p
    rw [List.getElem?_append_left (List.getElem?_eq_some_iff.mp h).1 |>.symm] at h
    exact .cel h
  | dic h1 h2 _ ih => exact .dic (s _ _ h1) h2 fun i k x d a b => ih i k x d a b
  | dcn h1 h2 h3 h4 _ _ ih5 ih6 => exact .dcn (s _ _ h1) h2 h3 h4 (fun i e d a b => ih5 i e d a b) fun i e d a b => ih6 i e d a b
  | glo h1 => exact .glo h1
theorem RvL.mono {xs : List V} {ds : List D} (s : Same F F') (p : α <+: α') (h : RvL K F α xs ds) : RvL K F' α' xs ds := ⟨h.1, fun i x d a b => (h.2 i x d a b).mono s p⟩
/-- the entries of a dict, by data -/
structure EnR (K : PySem.W.Frag) (F : Hp) (α : List Addr) (es : List EntN) (kvs : List (D × D)) : Prop where
  len : es.length = kvs.length
  key : ∀ (i : Nat) e p, es[i]? = some e → kvs[i]? = some p → keyN p.1 = some e.1
  kv : ∀ (i : Nat) e p, es[i]? = some e → kvs[i]? = some p → Rv K F α (.ref e.2.1) p.1
  val : ∀ (i : Nat) e p, es[i]? = some e → kvs[i]? = some p → Rv K F α e.2.2 p.2
theorem EnR.mono {es : List EntN} {kvs : List (D × D)} (s : Same F F') (p : α <+: α') (h : EnR K F α es kvs) : EnR K F' α' es kvs := ⟨h.len, h.key, fun i e q a b => (h.kv i e q a b).mono s p, fun i e q a b => (h.val i e q a b).mono s p⟩
/-- the same of a dict with ints and texts as keys -/
structure KnR (K : PySem.W.Frag) (F : Hp) (α : List Addr) (es : List (Key × V)) (kvs : List (Key × D)) : Prop where
  len : es.length = kvs.length
  key : ∀ (i : Nat) e p, es[i]? = some e → kvs[i]? = some p → p.1 = e.1
  val : ∀ (i : Nat) e p, es[i]? = some e → kvs[i]? = some p → Rv K F α e.2 p.2
theorem KnR.mono {es : List (Key × V)} {kvs : List (Key × D)} (s : Same F F') (p : α <+: α') (h : KnR K F α es kvs) : KnR K F' α' es kvs := ⟨h.len, h.key, fun i e q a b => (h.val i e q a b).mono s p⟩
theorem RvL.nil : RvL K F α [] [] := ⟨rfl, fun i x d a _ => by simp at a⟩
theorem RvL.cons {x : V} {d : D} {xs : List V} {ds : List D} (h : Rv K F α x d) (t : RvL K F α xs ds) : RvL K F α (x :: xs) (d :: ds) := by
  refine ⟨by simp [t.1], fun i y e a b => ?_⟩
  cases i with
  | zero => simp at a b; subst a; subst b; exact h
  | succ i => simp at a b; exact t.2 i y e a b
theorem RvL.of_cons {xs : List V} {d : D} {ds : List D} (h : RvL K F α xs (d :: ds)) : ∃ x r, xs = x :: r ∧ Rv K F α x d ∧ RvL K F α r ds := by
  cases xs with
  | nil => have := h.1; simp at this
  | cons x r =>
    refine ⟨x, r, rfl, h.2 0 x d rfl rfl, ?_, fun i y e a b => h.2 (i + 1) y e (by simpa using a) (by simpa using b)⟩
    have := h.1
    simpa using this
theorem RvL.of_nil {xs : List V} (h : RvL K F α xs []) : xs = [] := by
  have := h.1
  simpa using this
theorem RvL.append {xs ys : List V} {ds es : List D} (h : RvL K F α xs ds) (t : RvL K F α ys es) : RvL K F α (xs ++ ys) (ds ++ es) := by
  refine ⟨by simp [h.1, t.1], fun i x d a b => ?_⟩
  by_cases c : i < xs.length
  · rw [List.getElem?_append_left c] at a
    rw [List.getElem?_append_left (h.1 ▸ c)] at b
    exact h.2 i x d a b
  · rw [List.getElem?_append_right (by omega)] at a
    rw [List.getElem?_append_right (by rw [← h.1]; omega), ← h.1] at b
    exact t.2 _ x d a b
theorem RvL.take {xs : List V} {ds : List D} (n : Nat) (h : RvL K F α xs ds) : RvL K F α (xs.take n) (ds.take n) := by
  refine ⟨by simp [h.1], fun i x d a b => ?_⟩
  rw [List.getElem?_take] at a b
  split at a
  · rw [if_pos (by assumption)] at b; exact h.2 i x d a b
  · cases a
theorem RvL.drop {xs : List V} {ds : List D} (n : Nat) (h : RvL K F α xs ds) : RvL K F α (xs.drop n) (ds.drop n) := by
  refine ⟨by simp [h.1], fun i x d a b => ?_⟩
  rw [List.getElem?_drop] at a b
  exact h.2 _ x d a b
theorem RvL.reverse {xs : List V} {ds : List D} (h : RvL K F α xs ds) : RvL K F α xs.reverse ds.reverse := by
  refine ⟨by simp [h.1], fun i x d a b => ?_⟩
  have hi : i < xs.length := by
    have := (List.getElem?_eq_some_iff.mp a).1
    simpa using this
  rw [List.getElem?_reverse hi] at a
  rw [List.getElem?_reverse (h.1 ▸ hi)] at b
  rw [← h.1] at b
  exact h.2 _ x d a b
theorem RvL.set {x : V} {d : D} {xs : List V} {ds : List D} (i : Nat) (h : RvL K F α xs ds) (q : Rv K F α x d) : RvL K F α (xs.set i x) (ds.set i d) := by
  refine ⟨by simp [h.1], fun j y e a b => ?_⟩
  rw [List.getElem?_set] at a b
  by_cases c : i = j
  · subst c
    simp only [if_true] at a b
    split at a
    · rw [if_pos (by rw [← h.1]; assumption)] at b; cases a; cases b; exact q
    · cases a
  · rw [if_neg c] at a b
    exact h.2 j y e a b
theorem RvL.at {xs : List V} {ds : List D} {i : Nat} {d : D} (h : RvL K F α xs ds) (b : ds[i]? = some d) : ∃ x, xs[i]? = some x ∧ Rv K F α x d := by
  have hi : i < xs.length := by
    rw [h.1]
    exact (List.getElem?_eq_some_iff.mp b).1
  exact ⟨xs[i], List.getElem?_eq_getElem hi, h.2 i _ d (List.getElem?_eq_getElem hi) b⟩
theorem RvL.len {xs : List V} {ds : List D} (h : RvL K F α xs ds) : xs.length = ds.length := h.1
theorem Rv.tup' {a : Addr} {xs : List V} {ds : List D} (h : SqT K F a xs) (r : RvL K F α xs ds) : Rv K F α (.ref a) (.tup ds) := .tup h r.1 r.2
theorem Rv.lst' {a : Addr} {xs : List V} {ds : List D} (h : F a = some (.lst xs)) (r : RvL K F α xs ds) : Rv K F α (.ref a) (.lst ds) := .lst h r.1 r.2
theorem Rv.ro' {a : Addr} {xs : List V} {ds : List D} (h : SqL K F a xs) (r : RvL K F α xs ds) : Rv K F α (.ref a) (.ro ds) := .ro h r.1 r.2
theorem Rv.of_tup {v : V} {ds : List D} (h : Rv K F α v (.tup ds)) : ∃ a xs, v = .ref a ∧ SqT K F a xs ∧ RvL K F α xs ds := by
  cases h with
  | tup a b c => exact ⟨_, _, rfl, a, b, c⟩
theorem Rv.of_lst {v : V} {ds : List D} (h : Rv K F α v (.lst ds)) : ∃ a xs, v = .ref a ∧ F a = some (.lst xs) ∧ RvL K F α xs ds := by
  cases h with
  | lst a b c => exact ⟨_, _, rfl, a, b, c⟩
theorem Rv.of_ro {v : V} {ds : List D} (h : Rv K F α v (.ro ds)) : ∃ a xs, v = .ref a ∧ SqL K F a xs ∧ RvL K F α xs ds := by
  cases h with
  | ro a b c => exact ⟨_, _, rfl, a, b, c⟩
theorem Rv.of_cel {v : V} {n : Nat} (h : Rv K F α v (.cel n)) : ∃ a, v = .ref a ∧ α[n]? = some a := by
  cases h with
  | cel a => exact ⟨_, rfl, a⟩
theorem Rv.of_int {v : V} {i : Int} (h : Rv K F α v (.int i)) : v = .int i := by cases h; rfl
theorem Rv.of_bl {v : V} {i : Bool} (h : Rv K F α v (.bl i)) : v = .bl i := by cases h; rfl
theorem Rv.of_str {v : V} {i : Str} (h : Rv K F α v (.str i)) : v = .str i := by cases h; rfl
theorem Rv.of_non {v : V} (h : Rv K F α v .non) : v = .non := by cases h; rfl
end

/-- what a thing that may change looks like at its address -/
def CoAt (K : PySem.W.Frag) (F : Hp) (α : List Addr) (H : Hp) (a : Addr) : CO → Prop
  | .dead => True
  | .lst ds => ∃ xs, H a = some (.lst xs) ∧ RvL K F α xs ds
  | .dkn kvs => ∃ es, H a = some (DNo a es) ∧ EnR K F α es kvs
  | .dks kvs => ∃ es, H a = some (.dK es) ∧ KnR K F α es kvs
/-- the abstract heap holds what never changes (F) and the things that may change (α, M) -/
structure W (K : PySem.W.Frag) (Z : List (Addr × HO)) (F H : Hp) (α : List Addr) (M : Sto) : Prop where
  sub : Same F H
  len : α.length = M.length
  nd : α.Nodup
  out : ∀ (n : Nat) a co, α[n]? = some a → M[n]? = some co → (F a = none ∨ co = .dead) ∧ (∃ o, H a = some o) ∧ CoAt K F α H a co
  held : ∀ q ∈ Z, H q.1 = some q.2 ∧ F q.1 = none ∧ q.1 ∉ α

section
variable {Z : List (Addr × HO)} {K : PySem.W.Frag} {F F' F'' H H' : Hp} {α α' α'' : List Addr} {M M' : Sto} {p a : Addr}
theorem CoAt.mono {co : CO} (s : Same F F') (q : α <+: α') (e : H' a = H a) (h : CoAt K F α H a co) : CoAt K F' α' H' a co := by
  cases co with
  | dead => trivial
  | lst ds => obtain ⟨xs, h1, h2⟩ := h; exact ⟨xs, e.trans h1, h2.mono s q⟩
  | dkn kvs => obtain ⟨es, h1, h2⟩ := h; exact ⟨es, e.trans h1, h2.mono s q⟩
  | dks kvs => obtain ⟨es, h1, h2⟩ := h; exact ⟨es, e.trans h1, h2.mono s q⟩
theorem W.at (w : W K Z F H α M) {n : Nat} {a : Addr} (h : α[n]? = some a) : ∃ co, M[n]? = some co ∧ (F a = none ∨ co = .dead) ∧ (∃ o, H a = some o) ∧ CoAt K F α H a co := by
  have hn : n < M.length := by
    rw [← w.len]
    exact (List.getElem?_eq_some_iff.mp h).1
  exact ⟨M[n], List.getElem?_eq_getElem hn, w.out n a _ h (List.getElem?_eq_getElem hn)⟩
theorem Same.upd {o : HO} (h : H p = none) : Same H (upd H p o) := fun b x e => by
  rw [upd_ne (ne_of_none e h)]
  exact e
theorem W.freeF (w : W K Z F H α M) (h : H p = none) : F p = none := by
  cases e : F p with
  | none => rfl
  | some o => rw [w.sub _ _ e] at h; cases h
/-- a new thing that never changes -/
theorem W.fresh (w : W K Z F H α M) (h : H p = none) (o : HO) : W K Z (L2.upd F p o) (L2.upd H p o) α M := by
  refine ⟨fun b x e => ?_, w.len, w.nd, fun n a co h1 h2 => ?_, fun q hq => ?_⟩
  rotate_left 2
  · obtain ⟨h1, h2, h3⟩ := w.held q hq
    have hne : q.1 ≠ p := ne_of_none h1 h
    exact ⟨by rw [upd_ne hne]; exact h1, by rw [upd_ne hne]; exact h2, h3⟩
  · by_cases hb : b = p
    · subst hb; rw [upd_same] at e ⊢; exact e
    · rw [upd_ne hb] at e ⊢; exact w.sub _ _ e
  · obtain ⟨q1, ⟨o', q2⟩, q3⟩ := w.out n a co h1 h2
    have hne : a ≠ p := ne_of_none q2 h
    exact ⟨by rw [upd_ne hne]; exact q1, ⟨o', by rw [upd_ne hne]; exact q2⟩, q3.mono (Same.upd (w.freeF h)) (List.prefix_refl _) (upd_ne hne)⟩
/-- a list that changes no more -/
theorem W.freeze (w : W K Z F H α M) {n : Nat} {a : Addr} {ds : List D} (h : α[n]? = some a) (hm : M[n]? = some (.lst ds)) : ∃ F', W K Z F' H α (M.set n .dead) ∧ Same F F' ∧ Rv K F' α (.ref a) (.lst ds) := by
  obtain ⟨q1, _, xs, q2, q3⟩ := w.out n a _ h hm
  have q1 : F a = none := by
    rcases q1 with q | q
    · exact q
    · cases q
  have sm : Same F (L2.upd F a (.lst xs)) := Same.upd q1
  refine ⟨L2.upd F a (.lst xs), ⟨fun b x e => ?_, by simp [w.len], w.nd, fun m b co h1 h2 => ?_, fun q hq => ?_⟩, sm, .lst' upd_same (q3.mono sm (List.prefix_refl _))⟩
  rotate_left 2
  · obtain ⟨h1, h2, h3⟩ := w.held q hq
    have hne : q.1 ≠ a := fun e => h3 (by rw [e]; exact List.mem_iff_getElem?.mpr ⟨n, h⟩)
    exact ⟨h1, by rw [upd_ne hne]; exact h2, h3⟩
  · by_cases hb : b = a
    · subst hb; rw [upd_same] at e; cases e; exact q2
    · rw [upd_ne hb] at e; exact w.sub _ _ e
  · rw [List.getElem?_set] at h2
    by_cases e : n = m
    · subst e
      rw [h] at h1; cases h1
      simp only [if_true] at h2
      split at h2
      · cases h2; exact ⟨.inr rfl, ⟨_, q2⟩, trivial⟩
      · cases h2
    · rw [if_neg e] at h2
      obtain ⟨r1, r2, r3⟩ := w.out m b co h1 h2
      have hne : b ≠ a := fun z => by
        subst z
        exact e ((List.getElem?_inj (List.getElem?_eq_some_iff.mp h).1 w.nd).mp (h.trans h1.symm))
      exact ⟨by rw [upd_ne hne]; exact r1, r2, r3.mono sm (List.prefix_refl _) rfl⟩
/-- a dict that changes no more: its object is held as it is (the caller has locked it) -/
theorem W.freezeD (w : W K Z F H α M) {n : Nat} {a : Addr} {kvs0 kvs : List (D × D)} {es : List EntN} (h : α[n]? = some a) (hm : M[n]? = some (.dkn kvs0)) (he : EnR K F α es kvs) (od : Obj) :
    ∃ F', W K Z F' (L2.upd H a (.frz od (DNo a es))) α (M.set n .dead) ∧ Same F F' ∧ Rv K F' α (.ref a) (.dcn (kvs.map (·.1)) (kvs.map (·.2))) := by
  obtain ⟨q1, _, _⟩ := w.out n a _ h hm
  have q1 : F a = none := by
    rcases q1 with q | q
    · exact q
    · cases q
  have sm : Same F (L2.upd F a (.frz od (DNo a es))) := Same.upd q1
  have he2 := he.mono sm (List.prefix_refl α)
  refine ⟨L2.upd F a (.frz od (DNo a es)), ⟨fun b x e => ?_, by simp [w.len], w.nd, fun m b co h1 h2 => ?_, fun q hq => ?_⟩, sm, .dcn upd_same (by simpa using he.len) (by simpa using he.len) (fun i e d e1 e2 => ?_) (fun i e d e1 e2 => ?_) fun i e d e1 e2 => ?_⟩
  · by_cases hb : b = a
    · subst hb; rw [upd_same] at e ⊢; exact e
    · rw [upd_ne hb] at e ⊢; exact w.sub _ _ e
  · rw [List.getElem?_set] at h2
    by_cases e : n = m
    · subst e
      rw [h] at h1; cases h1
      simp only [if_true] at h2
      split at h2
      · cases h2; exact ⟨.inr rfl, ⟨_, upd_same⟩, trivial⟩
      · cases h2
    · rw [if_neg e] at h2
      obtain ⟨r1, ⟨o', r2⟩, r3⟩ := w.out m b co h1 h2
      have hne : b ≠ a := fun z => by
        subst z
        exact e ((List.getElem?_inj (List.getElem?_eq_some_iff.mp h).1 w.nd).mp (h.trans h1.symm))
      exact ⟨by rw [upd_ne hne]; exact r1, ⟨o', by rw [upd_ne hne]; exact r2⟩, r3.mono sm (List.prefix_refl _) (upd_ne hne)⟩
  · obtain ⟨h1, h2, h3⟩ := w.held q hq
    have hne : q.1 ≠ a := fun e => h3 (by rw [e]; exact List.mem_iff_getElem?.mpr ⟨n, h⟩)
    exact ⟨by rw [upd_ne hne]; exact h1, by rw [upd_ne hne]; exact h2, h3⟩
  · rw [List.getElem?_map] at e2
    obtain ⟨p, hp, rfl⟩ := Option.map_eq_some_iff.mp e2
    exact he.key i e p e1 hp
  · rw [List.getElem?_map] at e2
    obtain ⟨p, hp, rfl⟩ := Option.map_eq_some_iff.mp e2
    exact he2.kv i e p e1 hp
  · rw [List.getElem?_map] at e2
    obtain ⟨p, hp, rfl⟩ := Option.map_eq_some_iff.mp e2
    exact he2.val i e p e1 hp
/-- a new thing that may change -/
theorem W.alloc (w : W K Z F H α M) (h : H p = none) {o : HO} {co : CO} (hc : CoAt K F (α ++ [p]) (L2.upd H p o) p co) : W K Z F (L2.upd H p o) (α ++ [p]) (M ++ [co]) := by
  have hp : p ∉ α := fun hm => by
    obtain ⟨n, hn⟩ := List.mem_iff_getElem?.mp hm
    obtain ⟨_, _, _, ⟨o', q⟩, _⟩ := w.at hn
    rw [h] at q; cases q
  refine ⟨w.sub.trans (Same.upd h), by simp [w.len], ?_, fun n a co' h1 h2 => ?_, fun q hq => ?_⟩
  rotate_left 2
  · obtain ⟨h1, h2, h3⟩ := w.held q hq
    have hne : q.1 ≠ p := ne_of_none h1 h
    exact ⟨by rw [upd_ne hne]; exact h1, h2, by simp [h3, hne]⟩
  · rw [List.nodup_append]
    exact ⟨w.nd, by simp, fun x hx y hy => by simp at hy; subst hy; exact fun e => hp (e ▸ hx)⟩
  · by_cases hn : n < α.length
    · rw [List.getElem?_append_left hn] at h1
      rw [List.getElem?_append_left (w.len ▸ hn)] at h2
      obtain ⟨q1, ⟨o', q2⟩, q3⟩ := w.out n a co' h1 h2
      have hne : a ≠ p := ne_of_none q2 h
      exact ⟨q1, ⟨o', by rw [upd_ne hne]; exact q2⟩, q3.mono (Same.refl _) (List.prefix_append _ _) (upd_ne hne)⟩
    · have e : n = α.length := by
        have := (List.getElem?_eq_some_iff.mp h1).1
        simp at this; omega
      subst e
      simp at h1
      rw [w.len] at h2
      simp at h2
      subst h1; subst h2
      exact ⟨.inl (w.freeF h), ⟨o, upd_same⟩, hc⟩
/-- a thing is changed -/
theorem W.put (w : W K Z F H α M) {n : Nat} {co0 : CO} (h : α[n]? = some a) (hm : M[n]? = some co0) (hd : co0 ≠ .dead) {o : HO} {co : CO} (hc : CoAt K F α (L2.upd H a o) a co) : W K Z F (L2.upd H a o) α (M.set n co) := by
  have f0 : F a = none := by
    rcases (w.out n a co0 h hm).1 with q | q
    · exact q
    · exact absurd q hd
  refine ⟨fun b x e => ?_, by simp [w.len], w.nd, fun m b co' h1 h2 => ?_, fun q hq => ?_⟩
  rotate_left 2
  · obtain ⟨h1, h2, h3⟩ := w.held q hq
    have hne : q.1 ≠ a := fun e => h3 (by rw [e]; exact List.mem_iff_getElem?.mpr ⟨n, h⟩)
    exact ⟨by rw [upd_ne hne]; exact h1, h2, h3⟩
  · have : b ≠ a := fun z => by subst z; rw [f0] at e; cases e
    rw [upd_ne this]; exact w.sub _ _ e
  · rw [List.getElem?_set] at h2
    by_cases e : n = m
    · subst e
      simp only [if_true] at h2
      rw [h] at h1; cases h1
      split at h2
      · cases h2; exact ⟨.inl f0, ⟨o, upd_same⟩, hc⟩
      · cases h2
    · rw [if_neg e] at h2
      obtain ⟨q1, ⟨o', q2⟩, q3⟩ := w.out m b co' h1 h2
      have hne : b ≠ a := fun z => by
        subst z
        exact e ((List.getElem?_inj (List.getElem?_eq_some_iff.mp h).1 w.nd).mp (h.trans h1.symm))
      exact ⟨q1, ⟨o', by rw [upd_ne hne]; exact q2⟩, q3.mono (Same.refl _) (List.prefix_refl _) (upd_ne hne)⟩
end
section
variable {Z : List (Addr × HO)} {K : PySem.W.Frag} {F H : Hp} {α : List Addr} {M : Sto} {p : Addr}
theorem CoAt.keep {H' : Hp} {a : Addr} {co : CO} (e : H' a = H a) (h : CoAt K F α H a co) : CoAt K F α H' a co := h.mono (Same.refl _) (List.prefix_refl _) e
/-- a new object is held: nobody may change it or see it -/
theorem W.hold (w : W K Z F H α M) (h : H p = none) (o : HO) : W K ((p, o) :: Z) F (L2.upd H p o) α M := by
  refine ⟨w.sub.trans (Same.upd h), w.len, w.nd, fun n a co h1 h2 => ?_, fun q hq => ?_⟩
  · obtain ⟨q1, ⟨o', q2⟩, q3⟩ := w.out n a co h1 h2
    have hne : a ≠ p := ne_of_none q2 h
    exact ⟨q1, ⟨o', by rw [upd_ne hne]; exact q2⟩, q3.keep (upd_ne hne)⟩
  · rcases List.mem_cons.mp hq with rfl | hq
    · refine ⟨upd_same, w.freeF h, fun hm => ?_⟩
      obtain ⟨n, hn⟩ := List.mem_iff_getElem?.mp hm
      obtain ⟨_, _, _, ⟨o', q⟩, _⟩ := w.at hn
      simp only at q
      rw [h] at q; cases q
    · obtain ⟨h1, h2, h3⟩ := w.held q hq
      exact ⟨by rw [upd_ne (ne_of_none h1 h)]; exact h1, h2, h3⟩
theorem W.drop {q : Addr × HO} (w : W K (q :: Z) F H α M) : W K Z F H α M := ⟨w.sub, w.len, w.nd, w.out, fun r hr => w.held r (List.mem_cons_of_mem _ hr)⟩
/-- the held object is changed by who holds it (no other hold of the same) -/
theorem W.rehold {o o' : HO} (w : W K ((p, o) :: Z) F H α M) (hz : ∀ q ∈ Z, q.1 ≠ p) : W K ((p, o') :: Z) F (L2.upd H p o') α M := by
  obtain ⟨h1, h2, h3⟩ := w.held (p, o) List.mem_cons_self
  refine ⟨fun b x e => ?_, w.len, w.nd, fun n a co q1 q2 => ?_, fun q hq => ?_⟩
  · have : b ≠ p := fun z => by subst z; simp only at h2; rw [h2] at e; cases e
    rw [upd_ne this]; exact w.sub _ _ e
  · have hne : a ≠ p := fun z => h3 (z ▸ List.mem_iff_getElem?.mpr ⟨n, q1⟩)
    obtain ⟨r1, ⟨o2, r2⟩, r3⟩ := w.out n a co q1 q2
    exact ⟨r1, ⟨o2, by rw [upd_ne hne]; exact r2⟩, r3.keep (upd_ne hne)⟩
  · rcases List.mem_cons.mp hq with rfl | hq
    · exact ⟨upd_same, h2, h3⟩
    · obtain ⟨q1, q2, q3⟩ := w.held q (List.mem_cons_of_mem _ hq)
      exact ⟨by rw [upd_ne (hz q hq)]; exact q1, q2, q3⟩
/-- the held object changes no more and may be seen -/
theorem W.show_ {o : HO} (w : W K ((p, o) :: Z) F H α M) (hz : ∀ q ∈ Z, q.1 ≠ p) : W K Z (L2.upd F p o) H α M := by
  obtain ⟨h1, h2, h3⟩ := w.held (p, o) List.mem_cons_self
  have sm : Same F (L2.upd F p o) := Same.upd h2
  refine ⟨fun b x e => ?_, w.len, w.nd, fun n a co q1 q2 => ?_, fun q hq => ?_⟩
  · by_cases hb : b = p
    · subst hb; rw [upd_same] at e; cases e; exact h1
    · rw [upd_ne hb] at e; exact w.sub _ _ e
  · have hne : a ≠ p := fun z => h3 (z ▸ List.mem_iff_getElem?.mpr ⟨n, q1⟩)
    obtain ⟨r1, r2, r3⟩ := w.out n a co q1 q2
    exact ⟨by rw [upd_ne hne]; exact r1, r2, r3.mono sm (List.prefix_refl _) rfl⟩
  · obtain ⟨q1, q2, q3⟩ := w.held q (List.mem_cons_of_mem _ hq)
    exact ⟨q1, by rw [upd_ne (hz q hq)]; exact q2, q3⟩
theorem W.heldNe (w : W K Z F H α M) (h : H p = none) : ∀ q ∈ Z, q.1 ≠ p := fun q hq => ne_of_none (w.held q hq).1 h
end
end DL
/-! DL2: outcomes, readings by data, the judgements weakened -/
namespace DL
open PySem PySem.Spec L2
variable [Pw]

inductive Out (β : Type) where
  | ok (b : β) (M : Sto) | ex (e : Er) (M : Sto)
inductive OutS where
  | nx (δ : Ev) (M : Sto) | rt (d : D) (M : Sto) | bk (δ : Ev) (M : Sto) | ct (δ : Ev) (M : Sto) | ex (e : Er) (M : Sto)
abbrev RO (β : Type) := Option (Out β)
abbrev GE := Ev → Sto → RO D
abbrev GT := Ev → Sto → RO Bool
abbrev GA := Ev → Sto → RO (List D)
abbrev GS := Ev → Sto → Option OutS
/-- a target -/
abbrev GG := D → Ev → Sto → RO Ev
abbrev F1 := D → Sto → RO D
abbrev F2 := D → D → Sto → RO D
abbrev FL := List D → Sto → RO D
@[reducible] def okR {β : Type} (b : β) (M : Sto) : RO β := some (.ok b M)
def bindR {β γ : Type} (r : RO β) (k : β → Sto → RO γ) : RO γ :=
  match r with
  | some (.ok b M) => k b M
  | some (.ex e M) => some (.ex e M)
  | none => none
def bindS {β : Type} (r : RO β) (k : β → Sto → Option OutS) : Option OutS :=
  match r with
  | some (.ok b M) => k b M
  | some (.ex e M) => some (.ex e M)
  | none => none
def seqS (r : Option OutS) (k : Ev → Sto → Option OutS) : Option OutS :=
  match r with
  | some (.nx δ M) => k δ M
  | r => r
@[simp] theorem bindR_ok {β γ : Type} (b : β) (M : Sto) (k : β → Sto → RO γ) : bindR (some (.ok b M)) k = k b M := rfl
@[simp] theorem bindR_none {β γ : Type} (k : β → Sto → RO γ) : bindR none k = none := rfl
@[simp] theorem bindR_ex {β γ : Type} (e : Er) (M : Sto) (k : β → Sto → RO γ) : bindR (some (.ex e M)) k = some (.ex e M) := rfl
@[simp] theorem bindS_ok {β : Type} (b : β) (M : Sto) (k : β → Sto → Option OutS) : bindS (some (.ok b M)) k = k b M := rfl
@[simp] theorem bindS_ex {β : Type} (e : Er) (M : Sto) (k : β → Sto → Option OutS) : bindS (some (.ex e M)) k = some (.ex e M) := rfl
@[simp] theorem bindS_none {β : Type} (k : β → Sto → Option OutS) : bindS none k = none := rfl
@[simp] theorem seqS_nx (δ : Ev) (M : Sto) (k : Ev → Sto → Option OutS) : seqS (some (.nx δ M)) k = k δ M := rfl
@[simp] theorem seqS_rt (d : D) (M : Sto) (k : Ev → Sto → Option OutS) : seqS (some (.rt d M)) k = some (.rt d M) := rfl
@[simp] theorem seqS_ex (e : Er) (M : Sto) (k : Ev → Sto → Option OutS) : seqS (some (.ex e M)) k = some (.ex e M) := rfl
@[simp] theorem seqS_bk (δ : Ev) (M : Sto) (k : Ev → Sto → Option OutS) : seqS (some (.bk δ M)) k = some (.bk δ M) := rfl
@[simp] theorem seqS_ct (δ : Ev) (M : Sto) (k : Ev → Sto → Option OutS) : seqS (some (.ct δ M)) k = some (.ct δ M) := rfl
@[simp] theorem seqS_none (k : Ev → Sto → Option OutS) : seqS none k = none := rfl

def brB {β : Type} (d : D) (t f : Option β) : Option β := match d with
  | .bl c => if c = true then t else f
  | _ => none
@[simp] theorem brB_bl {β : Type} (c : Bool) (t f : Option β) : brB (.bl c) t f = if c = true then t else f := rfl
@[simp] theorem bindR_ite {β γ : Type} (c : Prop) [Decidable c] (a b : RO β) (k : β → Sto → RO γ) : bindR (if c then a else b) k = if c then bindR a k else bindR b k := by split <;> rfl
@[simp] theorem bindS_ite {β : Type} (c : Prop) [Decidable c] (a b : RO β) (k : β → Sto → Option OutS) : bindS (if c then a else b) k = if c then bindS a k else bindS b k := by split <;> rfl
@[simp] theorem seqS_ite (c : Prop) [Decidable c] (a b : Option OutS) (k : Ev → Sto → Option OutS) : seqS (if c then a else b) k = if c then seqS a k else seqS b k := by split <;> rfl
/-- the slots -/
def EvR (K : PySem.W.Frag) (F : Hp) (α : List Addr) (σ : St) (δ : Ev) : Prop :=
  σ.length = δ.length ∧ ∀ (i : Nat) d, δ[i]? = some (some d) → ∃ v, σ[i]? = some (some v) ∧ Rv K F α v d
/-- what is wanted of an error: CT the classes -/
def ExW (CT : Nat → Addr) (E : XK) (e : Er) (H : Hp) : Prop :=
  match e with
  | .e c => E (.ref (CT c)) none H
  | .t line => ∀ d, H d = some (.xd [(("line" : Str), .int line)]) → E (.ref (CT 8)) (some d) H
def KO (K : PySem.W.Frag) (Z : List (Addr × HO)) (CT : Nat → Addr) (E : XK) (F : Hp) (α : List Addr) {β : Type} (R : Hp → List Addr → β → Sto → Hp → Prop) : RO β → Prop
  | some (.ok b M') => ∀ F' α' H', W K Z F' H' α' M' → Same F F' → α <+: α' → R F' α' b M' H'
  | some (.ex e M') => ∀ F' α' H', W K Z F' H' α' M' → Same F F' → α <+: α' → ExW CT E e H'
  | none => False
def KS (K : PySem.W.Frag) (Z : List (Addr × HO)) (CT : Nat → Addr) (E : XK) (F : Hp) (α : List Addr) (Dd : Ends) : Option OutS → Prop
  | some (.nx δ' M') => ∀ F' α' H' σ', W K Z F' H' α' M' → Same F F' → α <+: α' → EvR K F' α' σ' δ' → Dd.nx σ' H'
  | some (.rt d M') => ∀ F' α' H' v, W K Z F' H' α' M' → Same F F' → α <+: α' → Rv K F' α' v d → Dd.rt v H'
  | some (.bk δ' M') => ∀ F' α' H' σ', W K Z F' H' α' M' → Same F F' → α <+: α' → EvR K F' α' σ' δ' → Dd.bk σ' H'
  | some (.ct δ' M') => ∀ F' α' H' σ', W K Z F' H' α' M' → Same F F' → α <+: α' → EvR K F' α' σ' δ' → Dd.ct σ' H'
  | some (.ex e M') => ∀ F' α' H', W K Z F' H' α' M' → Same F F' → α <+: α' → ExW CT E e H'
  | none => False

/-- what a value's wish is -/
abbrev QD (K : PySem.W.Frag) (Q : VK) : Hp → List Addr → D → Sto → Hp → Prop := fun F α d _ H => ∀ v, Rv K F α v d → Q v H
def tD (K : PySem.W.Frag) (CT : Nat → Addr) (E : XK) (g : GE) : TE := fun σ H Q => ∃ Z F α δ M, W K Z F H α M ∧ EvR K F α σ δ ∧ KO K Z CT E F α (QD K Q) (g δ M)
def tDT (K : PySem.W.Frag) (CT : Nat → Addr) (E : XK) (g : GT) : TT := fun σ H Q => ∃ Z F α δ M, W K Z F H α M ∧ EvR K F α σ δ ∧ KO K Z CT E F α (fun _ _ b _ H' => Q b H') (g δ M)
def tDA (K : PySem.W.Frag) (CT : Nat → Addr) (E : XK) (g : GA) : TA := fun σ H Q => ∃ Z F α δ M, W K Z F H α M ∧ EvR K F α σ δ ∧ KO K Z CT E F α (fun F' α' ds _ H' => ∀ vs, RvL K F' α' vs ds → Q vs H') (g δ M)
def tDS (K : PySem.W.Frag) (CT : Nat → Addr) (E : XK) (g : GS) : TS := fun Dd σ H => ∃ Z F α δ M, W K Z F H α M ∧ EvR K F α σ δ ∧ KS K Z CT E F α Dd (g δ M)
def gD (K : PySem.W.Frag) (CT : Nat → Addr) (E : XK) (g : GG) : TG := fun v σ H Q => ∃ Z F α δ M d, W K Z F H α M ∧ EvR K F α σ δ ∧ Rv K F α v d ∧ KO K Z CT E F α (fun F' α' δ' _ H' => ∀ σ', EvR K F' α' σ' δ' → Q σ' H') (g d δ M)
/-- operations by values -/
def r2D (K : PySem.W.Frag) (CT : Nat → Addr) (E : XK) (f : F2) : R2 := fun x y H Q => ∃ Z F α M a b, W K Z F H α M ∧ Rv K F α x a ∧ Rv K F α y b ∧ KO K Z CT E F α (QD K Q) (f a b M)
def r1D (K : PySem.W.Frag) (CT : Nat → Addr) (E : XK) (f : F1) : V → Hp → VK → Prop := fun x H Q => ∃ Z F α M a, W K Z F H α M ∧ Rv K F α x a ∧ KO K Z CT E F α (QD K Q) (f a M)
def rLD (K : PySem.W.Frag) (CT : Nat → Addr) (E : XK) (f : FL) : List V → Hp → VK → Prop := fun xs H Q => ∃ Z F α M ds, W K Z F H α M ∧ RvL K F α xs ds ∧ KO K Z CT E F α (QD K Q) (f ds M)

section
variable {Z : List (Addr × HO)} {K : PySem.W.Frag} {CT : Nat → Addr} {E : XK} {F F' H H' : Hp} {α α' : List Addr} {M M' : Sto} {β γ : Type} {R R' : Hp → List Addr → β → Sto → Hp → Prop} {σ : St} {δ : Ev}
theorem EvR.mono (s : Same F F') (p : α <+: α') (h : EvR K F α σ δ) : EvR K F' α' σ δ :=
  ⟨h.1, fun i d e => by obtain ⟨v, a, b⟩ := h.2 i d e; exact ⟨v, a, b.mono s p⟩⟩
theorem EvR.set {i : Nat} {v : V} {d : D} (h : EvR K F α σ δ) (r : Rv K F α v d) : EvR K F α (σ.set i (some v)) (δ.set i (some d)) := by
  refine ⟨by simp [h.1], fun j e q => ?_⟩
  rw [List.getElem?_set] at q ⊢
  by_cases c : i = j
  · subst c
    simp only [if_true] at q ⊢
    split at q
    · cases q
      rw [if_pos (by rw [h.1]; assumption)]
      exact ⟨v, rfl, r⟩
    · cases q
  · rw [if_neg c] at q ⊢
    exact h.2 j e q
theorem KO.mono {r : RO β} (s : Same F F') (p : α <+: α') (h : KO K Z CT E F α R r) : KO K Z CT E F' α' R r := by
  match r, h with
  | some (.ok b M'), h => exact fun F'' α'' H' w s' p' => h F'' α'' H' w (s.trans s') (p.trans p')
  | some (.ex e M'), h => exact fun F'' α'' H' w s' p' => h F'' α'' H' w (s.trans s') (p.trans p')
theorem KO.imp {r : RO β} (h : KO K Z CT E F α R r) (hR : ∀ F' α' b M' H', W K Z F' H' α' M' → Same F F' → α <+: α' → R F' α' b M' H' → R' F' α' b M' H') : KO K Z CT E F α R' r := by
  match r, h with
  | some (.ok b M'), h => exact fun F' α' H' w s p => hR _ _ _ _ _ w s p (h F' α' H' w s p)
  | some (.ex e M'), h => exact h
theorem KO.of_bind {r : RO β} {k : β → Sto → RO γ} {S : Hp → List Addr → γ → Sto → Hp → Prop} (h : KO K Z CT E F α S (bindR r k)) : KO K Z CT E F α (fun F' α' b M' _ => KO K Z CT E F' α' S (k b M')) r := by
  match r, h with
  | some (.ok b M'), h => exact fun F' α' H' w s p => KO.mono s p h
  | some (.ex e M'), h => exact h
theorem KS.mono {r : Option OutS} {Dd : Ends} (s : Same F F') (p : α <+: α') (h : KS K Z CT E F α Dd r) : KS K Z CT E F' α' Dd r := by
  match r, h with
  | some (.nx δ M'), h => exact fun F'' α'' H' σ' w s' p' => h F'' α'' H' σ' w (s.trans s') (p.trans p')
  | some (.rt δ M'), h => exact fun F'' α'' H' σ' w s' p' => h F'' α'' H' σ' w (s.trans s') (p.trans p')
  | some (.bk δ M'), h => exact fun F'' α'' H' σ' w s' p' => h F'' α'' H' σ' w (s.trans s') (p.trans p')
  | some (.ct δ M'), h => exact fun F'' α'' H' σ' w s' p' => h F'' α'' H' σ' w (s.trans s') (p.trans p')
  | some (.ex e M'), h => exact fun F'' α'' H' w s' p' => h F'' α'' H' w (s.trans s') (p.trans p')
theorem KO.of_bindS {r : RO β} {k : β → Sto → Option OutS} {Dd : Ends} (h : KS K Z CT E F α Dd (bindS r k)) : KO K Z CT E F α (fun F' α' b M' _ => KS K Z CT E F' α' Dd (k b M')) r := by
  match r, h with
  | some (.ok b M'), h => exact fun F' α' H' w s p => KS.mono s p h
  | some (.ex e M'), h => exact h
theorem KS.of_seq {r : Option OutS} {k : Ev → Sto → Option OutS} {Dd : Ends} (h : KS K Z CT E F α Dd (seqS r k)) : KS K Z CT E F α { Dd with nx := tDS K CT E k Dd } r := by
  match r, h with
  | some (.nx δ M'), h => exact fun F' α' H' σ' w s p e => ⟨Z, F', α', δ, M', w, e, KS.mono s p h⟩
  | some (.rt δ M'), h => exact h
  | some (.bk δ M'), h => exact h
  | some (.ct δ M'), h => exact h
  | some (.ex e M'), h => exact h
end

section
variable {X : Cx} {e a b c : Expr} {t t' : TE} {CT : Nat → Addr} {E : XK} {pos : Pos}
theorem imp_e (h : PE X e t) (w : ∀ σ H Q, t' σ H Q → t σ H Q) : PE X e t' := ⟨fun pins s σ H Q I q => h.run pins s σ H Q I (w _ _ _ q)⟩
theorem imp_t {t t' : TT} (h : PT X e t) (w : ∀ σ H Q, t' σ H Q → t σ H Q) : PT X e t' := ⟨fun pins s σ H Q I q => h.run pins s σ H Q I (w _ _ _ q)⟩
theorem imp_w {t t' : TT} (h : PW X e t) (w : ∀ σ H Q, t' σ H Q → t σ H Q) : PW X e t' := ⟨fun wh pins s σ H Q I q => h.run wh pins s σ H Q I (w _ _ _ q)⟩
theorem imp_a {es : List Expr} {t t' : TA} (h : PA X es t) (w : ∀ σ H Q, t' σ H Q → t σ H Q) : PA X es t' := ⟨fun p pins s σ H Q I q => h.run p pins s σ H Q I (w _ _ _ q)⟩
theorem imp_s {st : Stmt} {t t' : TS} (h : PS X st t) (w : ∀ Dd σ H, t' Dd σ H → t Dd σ H) : PS X st t' := ⟨fun pins s σ H Q I q => h.run pins s σ H Q I (w _ _ _ q)⟩
theorem imp_ss {st : List Stmt} {t t' : TS} (h : PSs X st t) (w : ∀ Dd σ H, t' Dd σ H → t Dd σ H) : PSs X st t' := ⟨fun pins s σ H Q I q => h.run pins s σ H Q I (w _ _ _ q)⟩
theorem imp_g {t t' : TG} (h : PG X e t) (w : ∀ v σ H Q, t' v σ H Q → t v σ H Q) : PG X e t' := ⟨fun pins s σ H v u Q I r q => h.run pins s σ H v u Q I r (w _ _ _ _ q)⟩
theorem imp_op {f : Value → Value → Sem Value} {r r' : R2} (h : OpR X f r) (w : ∀ x y H Q, r' x y H Q → r x y H Q) : OpR X f r' := fun pins s σ H x y v u Q I a b q => h pins s σ H x y v u Q I a b (w _ _ _ _ q)
theorem imp_call {f : Value} {r r' : List V → Hp → VK → Prop} (h : CallR X f r) (w : ∀ xs H Q, r' xs H Q → r xs H Q) : CallR X f r' := fun pins s σ H xs us Q I a q => h pins s σ H xs us Q I a (w _ _ _ q)
theorem imp_ix {r r' : R2} (h : IxR X r) (w : ∀ x y H Q, r' x y H Q → r x y H Q) : IxR X r' := fun ve sl pins s σ H x y v u Q I a b q hs => h ve sl pins s σ H x y v u Q I a b (w _ _ _ _ q) hs
theorem imp_sl {r r' : V → Option Int → Option Int → Hp → VK → Prop} (h : SlR X r) (w : ∀ x lo hi H Q, r' x lo hi H Q → r x lo hi H Q) : SlR X r' := fun pins s σ H x v vl vu lo hi sl Q I a b c d q => h pins s σ H x v vl vu lo hi sl Q I a b c d (w _ _ _ _ _ q)

/-! ### names, constants -/
@[simp] def gVar (i : Nat) : GE := fun δ M => match δ[i]? with
  | some (some d) => okR d M
  | _ => none
@[simp] def gC (d : D) : GE := fun _ M => okR d M
theorem d_var (i : Nat) {x : Str} (hN : X.N[i]? = some x := by rfl) (hv : Vis X.env.scope x := by first | exact Or.inl rfl | exact Or.inr (Or.inl rfl) | exact Or.inr (Or.inr rfl)) (hd : (x == ("__debug__" : Str)) = false := by decide)
    (hcd : (x == ("__classdict__" : Str)) = false := by decide) : PE X (.Name x pos) (tD X.K CT E (gVar i)) := by
  refine imp_e (pe_var hN hv hd hcd) fun σ H Q h => ?_
  obtain ⟨Z, F, α, δ, M, w, ev, k⟩ := h
  unfold gVar at k
  split at k
  · rename_i d hd
    obtain ⟨v, h1, h2⟩ := ev.2 i d hd
    exact ⟨v, h1, k F α H w (Same.refl _) (List.prefix_refl _) v h2⟩
  · exact k.elim
theorem d_cst {v : V} {d : D} (h : PE X e (tC v)) (r : ∀ F α, Rv X.K F α v d) : PE X e (tD X.K CT E (gC d)) := by
  refine imp_e h fun σ H Q h => ?_
  obtain ⟨Z, F, α, δ, M, w, ev, k⟩ := h
  exact k F α H w (Same.refl _) (List.prefix_refl _) v (r F α)
theorem d_int {i : Int} {j : Nat} : PE X (.Constant (.int i) j pos) (tD X.K CT E (gC (.int i))) := d_cst pe_int fun _ _ => .int i
theorem d_bl {i : Bool} {j : Nat} : PE X (.Constant (.bool i) j pos) (tD X.K CT E (gC (.bl i))) := d_cst pe_bl fun _ _ => .bl i
theorem d_non {j : Nat} : PE X (.Constant .none j pos) (tD X.K CT E (gC .non)) := d_cst pe_non fun _ _ => .non
theorem d_str {i : Str} {j : Nat} : PE X (.Constant (.str i) j pos) (tD X.K CT E (gC (.str i))) := d_cst pe_str fun _ _ => .str i
/-- a module's constant -/
theorem d_glob {x : Str} {v : V} {u : Value} {d : D} (hg : Gl X x) (hm : X.mg x = some u) (r : RelV v u) (rd : ∀ F α, Rv X.K F α v d) (hd : (x == ("__debug__" : Str)) = false := by decide) : PE X (.Name x pos) (tD X.K CT E (gC d)) := d_cst (pe_glob hg hm r hd) rd

/-! ### argument lists -/
@[simp] def gNil : GA := fun _ M => okR [] M
@[simp] def gCons (g : GE) (r : GA) : GA := fun δ M => bindR (g δ M) fun d M1 => bindR (r δ M1) fun ds M2 => okR (d :: ds) M2
variable {es : List Expr} {g ga gb gc : GE} {gl : GA} {gt gu : GT}
theorem da_nil : PA X [] (tDA X.K CT E gNil) := by
  refine imp_a pa_nil fun σ H Q h => ?_
  obtain ⟨Z, F, α, δ, M, w, ev, k⟩ := h
  exact k F α H w (Same.refl _) (List.prefix_refl _) [] .nil
theorem da_cons (h : PE X e (tD X.K CT E g)) (hr : PA X es (tDA X.K CT E gl)) (hs : starEach (e :: es) X.env = (false, eval e X.env) :: starEach es X.env := by rfl) : PA X (e :: es) (tDA X.K CT E (gCons g gl)) := by
  refine imp_a (pa_cons h hr hs) fun σ H Q h => ?_
  obtain ⟨Z, F, α, δ, M, w, ev, k⟩ := h
  refine ⟨Z, F, α, δ, M, w, ev, (KO.of_bind k).imp fun F1 α1 d M1 H1 w1 s1 p1 k1 v rv => ?_⟩
  refine ⟨Z, F1, α1, δ, M1, w1, ev.mono s1 p1, (KO.of_bind k1).imp fun F2 α2 ds M2 H2 w2 s2 p2 k2 vs rvs => ?_⟩
  exact k2 F2 α2 H2 w2 (Same.refl _) (List.prefix_refl _) (v :: vs) (.cons (rv.mono s2 p2) rvs)

/-! ### operators -/
@[simp] def gOp (f : F2) (ga gb : GE) : GE := fun δ M => bindR (ga δ M) fun a M1 => bindR (gb δ M1) fun b M2 => f a b M2
theorem op_go {f : F2} {σ : St} {H : Hp} {Q : VK} (h : tD X.K CT E (gOp f ga gb) σ H Q) : tOp (r2D X.K CT E f) (tD X.K CT E ga) (tD X.K CT E gb) σ H Q := by
  obtain ⟨Z, F, α, δ, M, w, ev, k⟩ := h
  refine ⟨Z, F, α, δ, M, w, ev, (KO.of_bind k).imp fun F1 α1 d M1 H1 w1 s1 p1 k1 v rv => ?_⟩
  refine ⟨Z, F1, α1, δ, M1, w1, ev.mono s1 p1, (KO.of_bind k1).imp fun F2 α2 d2 M2 H2 w2 s2 p2 k2 u ru => ?_⟩
  exact ⟨Z, F2, α2, M2, d, d2, w2, rv.mono s2 p2, ru, k2⟩
theorem d_bin {op : Operator} {f : F2} (ho : OpR X (binaryOp op) (r2D X.K CT E f)) (ha : PE X a (tD X.K CT E ga)) (hb : PE X b (tD X.K CT E gb)) : PE X (.BinOp a op b pos) (tD X.K CT E (gOp f ga gb)) :=
  imp_e (pe_op ho ha hb) fun _ _ _ h => op_go h
theorem d_cmp {op : CmpOp} {f : F2} (ho : OpR X (compareOp op) (r2D X.K CT E f)) (ha : PE X a (tD X.K CT E ga)) (hb : PE X b (tD X.K CT E gb)) (hm : behindInMarks op b = false) : PE X (.Compare a [op] [b] pos) (tD X.K CT E (gOp f ga gb)) :=
  imp_e (pe_cmpR ho ha hb hm) fun _ _ _ h => op_go h
@[simp] def gUn (f : F1) (ga : GE) : GE := fun δ M => bindR (ga δ M) fun a M1 => f a M1
theorem d_ix {f : F2} (ho : IxR X (r2D X.K CT E f)) (ha : PE X a (tD X.K CT E ga)) (hb : PE X b (tD X.K CT E gb)) (hs : PlainIx b) : PE X (.Subscript a b pos) (tD X.K CT E (gOp f ga gb)) :=
  imp_e (pe_ix ho ha hb hs) fun _ _ _ h => op_go h
/-- a < b < c -/
@[simp] def gChain (f f' : F2) (ga gb gc : GE) : GE := fun δ M => bindR (ga δ M) fun a M1 => bindR (gb δ M1) fun b M2 => bindR (f a b M2) fun r M3 => brB r (bindR (gc δ M3) fun c M4 => f' b c M4) (okR (.bl false) M3)
theorem d_chain {op op' : CmpOp} {f f' : F2} (ho : OpR X (compareOp op) (r2D X.K CT E f)) (ho' : OpR X (compareOp op') (r2D X.K CT E f')) (ha : PE X a (tD X.K CT E ga)) (hb : PE X b (tD X.K CT E gb)) (hc : PE X c (tD X.K CT E gc))
    (hm : lastMarks [op, op'] [b, c] = false := by with_unfolding_all rfl) : PE X (.Compare a [op, op'] [b, c] pos) (tD X.K CT E (gChain f f' ga gb gc)) := by
  refine imp_e (pe_chain ho ho' ha hb hc hm) fun σ H Q h => ?_
  obtain ⟨Z, F, α, δ, M, w, ev, k⟩ := h
  refine ⟨Z, F, α, δ, M, w, ev, (KO.of_bind k).imp fun F1 α1 d M1 H1 w1 s1 p1 k1 v rv => ?_⟩
  refine ⟨Z, F1, α1, δ, M1, w1, ev.mono s1 p1, (KO.of_bind k1).imp fun F2 α2 d2 M2 H2 w2 s2 p2 k2 u ru => ?_⟩
  refine ⟨Z, F2, α2, M2, d, d2, w2, rv.mono s2 p2, ru, (KO.of_bind k2).imp fun F3 α3 r M3 H3 w3 s3 p3 k3 z rz => ?_⟩
  unfold brB at k3
  split at k3
  · rename_i q
    cases rz
    cases q
    · exact ⟨false, rfl, iteF (k3 F3 α3 H3 w3 (Same.refl _) (List.prefix_refl _) _ (.bl false))⟩
    · refine ⟨true, rfl, iteT ?_⟩
      refine ⟨Z, F3, α3, δ, M3, w3, (ev.mono s1 p1).mono (s2.trans s3) (p2.trans p3), (KO.of_bind k3).imp fun F4 α4 d4 M4 H4 w4 s4 p4 k4 u4 ru4 => ?_⟩
      exact ⟨Z, F4, α4, M4, d2, d4, w4, ru.mono (s3.trans s4) (p3.trans p4), ru4, k4⟩
  · exact k3.elim

/-! ### and, or, not, if as values (bools but the last) -/
@[simp] def gAnd (ga gb : GE) : GE := fun δ M => bindR (ga δ M) fun a M1 => brB a (gb δ M1) (okR (.bl false) M1)
@[simp] def gOr (ga gb : GE) : GE := fun δ M => bindR (ga δ M) fun a M1 => brB a (okR (.bl true) M1) (gb δ M1)
@[simp] def gNot (ga : GE) : GE := fun δ M => bindR (ga δ M) fun a M1 =>
  match a with
  | .bl c => okR (.bl (!c)) M1
  | _ => none
variable {rest : List Expr}
theorem d_one {op : BoolOp} (h : PE X a t) : PE X (.BoolOp op [a] pos) t := pe_one h
theorem d_and (ha : PE X a (tD X.K CT E ga)) (hb : PE X (.BoolOp .And (b :: rest) pos) (tD X.K CT E gb)) : PE X (.BoolOp .And (a :: b :: rest) pos) (tD X.K CT E (gAnd ga gb)) := by
  refine imp_e (pe_and ha hb) fun σ H Q h => ?_
  obtain ⟨Z, F, α, δ, M, w, ev, k⟩ := h
  refine ⟨Z, F, α, δ, M, w, ev, (KO.of_bind k).imp fun F1 α1 d M1 H1 w1 s1 p1 k1 v rv => ?_⟩
  unfold brB at k1
  split at k1
  · rename_i q
    cases rv
    cases q
    · exact ⟨false, rfl, iteF (k1 F1 α1 H1 w1 (Same.refl _) (List.prefix_refl _) _ (.bl false))⟩
    · exact ⟨true, rfl, iteT ⟨Z, F1, α1, δ, M1, w1, ev.mono s1 p1, k1⟩⟩
  · exact k1.elim
theorem d_or (ha : PE X a (tD X.K CT E ga)) (hb : PE X (.BoolOp .Or (b :: rest) pos) (tD X.K CT E gb)) : PE X (.BoolOp .Or (a :: b :: rest) pos) (tD X.K CT E (gOr ga gb)) := by
  refine imp_e (pe_or ha hb) fun σ H Q h => ?_
  obtain ⟨Z, F, α, δ, M, w, ev, k⟩ := h
  refine ⟨Z, F, α, δ, M, w, ev, (KO.of_bind k).imp fun F1 α1 d M1 H1 w1 s1 p1 k1 v rv => ?_⟩
  unfold brB at k1
  split at k1
  · rename_i q
    cases rv
    cases q
    · exact ⟨false, rfl, iteF ⟨Z, F1, α1, δ, M1, w1, ev.mono s1 p1, k1⟩⟩
    · exact ⟨true, rfl, iteT (k1 F1 α1 H1 w1 (Same.refl _) (List.prefix_refl _) _ (.bl true))⟩
  · exact k1.elim
theorem d_not (ha : PE X a (tD X.K CT E ga)) : PE X (.UnaryOp .Not a pos) (tD X.K CT E (gNot ga)) := by
  refine imp_e (pe_not ha) fun σ H Q h => ?_
  obtain ⟨Z, F, α, δ, M, w, ev, k⟩ := h
  refine ⟨Z, F, α, δ, M, w, ev, (KO.of_bind k).imp fun F1 α1 d M1 H1 w1 s1 p1 k1 v rv => ?_⟩
  split at k1
  · cases rv
    exact ⟨_, rfl, k1 F1 α1 H1 w1 (Same.refl _) (List.prefix_refl _) _ (.bl _)⟩
  · exact k1.elim
@[simp] def gIf (gt : GT) (ga gb : GE) : GE := fun δ M => bindR (gt δ M) fun c M1 => if c = true then ga δ M1 else gb δ M1
theorem d_ifE (hc : PT X c (tDT X.K CT E gt)) (ha : PE X a (tD X.K CT E ga)) (hb : PE X b (tD X.K CT E gb)) : PE X (.IfExp c a b pos) (tD X.K CT E (gIf gt ga gb)) := by
  refine imp_e (pe_ifExp hc ha hb) fun σ H Q h => ?_
  obtain ⟨Z, F, α, δ, M, w, ev, k⟩ := h
  refine ⟨Z, F, α, δ, M, w, ev, (KO.of_bind k).imp fun F1 α1 d M1 H1 w1 s1 p1 k1 => ?_⟩
  refine ite2 (fun e => ?_) (fun e => ?_)
  · rw [if_pos e] at k1
    exact ⟨Z, F1, α1, δ, M1, w1, ev.mono s1 p1, k1⟩
  · rw [if_neg e] at k1
    exact ⟨Z, F1, α1, δ, M1, w1, ev.mono s1 p1, k1⟩

/-! ### tests -/
@[simp] def gTst (g : GE) : GT := fun δ M => bindR (g δ M) fun d M1 =>
  match d with
  | .bl c => okR c M1
  | _ => none
theorem dt_val (h : PE X e (tD X.K CT E g)) (he : ∀ whole, isTrue e X.env whole = (do let v ← whole; standAt e.pos; holding [v] (truthy v)) := by intro _; rfl) : PT X e (tDT X.K CT E (gTst g)) := by
  refine imp_t (pt_val h he) fun σ H Q h => ?_
  obtain ⟨Z, F, α, δ, M, w, ev, k⟩ := h
  refine ⟨Z, F, α, δ, M, w, ev, (KO.of_bind k).imp fun F1 α1 d M1 H1 w1 s1 p1 k1 v rv => ?_⟩
  split at k1
  · cases rv
    exact ⟨_, rfl, k1 F1 α1 H1 w1 (Same.refl _) (List.prefix_refl _)⟩
  · exact k1.elim
@[simp] def gTAnd (gt gu : GT) : GT := fun δ M => bindR (gt δ M) fun c M1 => if c = true then gu δ M1 else okR false M1
@[simp] def gTOr (gt gu : GT) : GT := fun δ M => bindR (gt δ M) fun c M1 => if c = true then okR true M1 else gu δ M1
@[simp] def gTNot (gt : GT) : GT := fun δ M => bindR (gt δ M) fun c M1 => okR (!c) M1
theorem dw_and1 (ha : PT X a (tDT X.K CT E gt)) : PW X (.BoolOp .And [a] pos) (tDT X.K CT E gt) := pw_and1 ha
theorem dw_or1 (ha : PT X a (tDT X.K CT E gt)) : PW X (.BoolOp .Or [a] pos) (tDT X.K CT E gt) := pw_or1 ha
theorem dw_and (ha : PT X a (tDT X.K CT E gt)) (hb : PW X (.BoolOp .And (b :: rest) pos) (tDT X.K CT E gu)) : PW X (.BoolOp .And (a :: b :: rest) pos) (tDT X.K CT E (gTAnd gt gu)) := by
  refine imp_w (pw_and ha hb) fun σ H Q h => ?_
  obtain ⟨Z, F, α, δ, M, w, ev, k⟩ := h
  refine ⟨Z, F, α, δ, M, w, ev, (KO.of_bind k).imp fun F1 α1 d M1 H1 w1 s1 p1 k1 => ?_⟩
  refine ite2 (fun e => ?_) (fun e => ?_)
  · rw [if_pos e] at k1
    exact ⟨Z, F1, α1, δ, M1, w1, ev.mono s1 p1, k1⟩
  · rw [if_neg e] at k1
    exact k1 F1 α1 H1 w1 (Same.refl _) (List.prefix_refl _)
theorem dw_or (ha : PT X a (tDT X.K CT E gt)) (hb : PW X (.BoolOp .Or (b :: rest) pos) (tDT X.K CT E gu)) : PW X (.BoolOp .Or (a :: b :: rest) pos) (tDT X.K CT E (gTOr gt gu)) := by
  refine imp_w (pw_or ha hb) fun σ H Q h => ?_
  obtain ⟨Z, F, α, δ, M, w, ev, k⟩ := h
  refine ⟨Z, F, α, δ, M, w, ev, (KO.of_bind k).imp fun F1 α1 d M1 H1 w1 s1 p1 k1 => ?_⟩
  refine ite2 (fun e => ?_) (fun e => ?_)
  · rw [if_pos e] at k1
    exact k1 F1 α1 H1 w1 (Same.refl _) (List.prefix_refl _)
  · rw [if_neg e] at k1
    exact ⟨Z, F1, α1, δ, M1, w1, ev.mono s1 p1, k1⟩
theorem dt_not (ha : PT X a (tDT X.K CT E gt)) : PT X (.UnaryOp .Not a pos) (tDT X.K CT E (gTNot gt)) := by
  refine imp_t (pt_not ha) fun σ H Q h => ?_
  obtain ⟨Z, F, α, δ, M, w, ev, k⟩ := h
  exact ⟨Z, F, α, δ, M, w, ev, (KO.of_bind k).imp fun F1 α1 d M1 H1 w1 s1 p1 k1 => k1 F1 α1 H1 w1 (Same.refl _) (List.prefix_refl _)⟩

/-! ### tuples and lists that never change -/
@[simp] def gTup (gl : GA) : GE := fun δ M => bindR (gl δ M) fun ds M1 => if ds.length ≤ sizeLine then okR (.tup ds) M1 else none
@[simp] def gLst (gl : GA) : GE := fun δ M => bindR (gl δ M) fun ds M1 => if ds.length ≤ sizeLine then okR (.lst ds) M1 else none
def gLstC (gl : GA) : GE := fun δ M => bindR (gl δ M) fun ds M1 => if ds.length ≤ sizeLine then okR (.cel M1.length) (M1 ++ [.lst ds]) else none
theorem d_tup {x1} (h : PA X es (tDA X.K CT E gl)) : PE X (.Tuple es x1 pos) (tD X.K CT E (gTup gl)) := by
  refine imp_e (pe_tup h) fun σ H Q h => ?_
  obtain ⟨Z, F, α, δ, M, w, ev, k⟩ := h
  refine ⟨Z, F, α, δ, M, w, ev, (KO.of_bind k).imp fun F1 α1 ds M1 H1 w1 s1 p1 k1 vs rvs => ?_⟩
  split at k1
  · rename_i hl
    refine ⟨rvs.len ▸ hl, fun p hp => ?_⟩
    have s2 := Same.upd (o := .tup vs) (w1.freeF hp)
    exact k1 _ α1 _ (w1.fresh hp _) s2 (List.prefix_refl _) _ (.tup' (SqT.of upd_same) (rvs.mono s2 (List.prefix_refl _)))
  · exact k1.elim
theorem d_lst (h : PA X es (tDA X.K CT E gl)) : PE X (.List es pos) (tD X.K CT E (gLst gl)) := by
  refine imp_e (pe_lst h) fun σ H Q h => ?_
  obtain ⟨Z, F, α, δ, M, w, ev, k⟩ := h
  refine ⟨Z, F, α, δ, M, w, ev, (KO.of_bind k).imp fun F1 α1 ds M1 H1 w1 s1 p1 k1 vs rvs => ?_⟩
  split at k1
  · rename_i hl
    refine ⟨rvs.len ▸ hl, fun p hp => ?_⟩
    have s2 := Same.upd (o := .lst vs) (w1.freeF hp)
    exact k1 _ α1 _ (w1.fresh hp _) s2 (List.prefix_refl _) _ (.lst' upd_same (rvs.mono s2 (List.prefix_refl _)))
  · exact k1.elim
theorem d_lstC (h : PA X es (tDA X.K CT E gl)) : PE X (.List es pos) (tD X.K CT E (gLstC gl)) := by
  refine imp_e (pe_lst h) fun σ H Q h => ?_
  obtain ⟨Z, F, α, δ, M, w, ev, k⟩ := h
  refine ⟨Z, F, α, δ, M, w, ev, (KO.of_bind k).imp fun F1 α1 ds M1 H1 w1 s1 p1 k1 vs rvs => ?_⟩
  split at k1
  · rename_i hl
    refine ⟨rvs.len ▸ hl, fun p hp => ?_⟩
    refine k1 F1 (α1 ++ [p]) _ (w1.alloc hp ⟨vs, upd_same, rvs.mono (Same.refl _) (List.prefix_append _ _)⟩) (Same.refl _) (List.prefix_append _ _) _ (.cel ?_)
    rw [← w1.len]
    simp
  · exact k1.elim
end
end DL
/-! DL3: statements, targets, loops, calls, defs -/
namespace DL
open PySem PySem.Spec L2
variable [Pw]
abbrev PR {α : Type} (l : List α) : l <+: l := List.prefix_refl l

section
variable {X : Cx} {CT : Nat → Addr} {E : XK} {pos : Pos} {st : Stmt} {rest body : List Stmt} {e : Expr} {g ga gb : GE} {gl : GA} {gt : GT} {s s1 s2 : GS} {tg : Expr} {t t1 : GG}
/-! ### blocks -/
@[simp] def gNext : GS := fun δ M => some (.nx δ M)
@[simp] def gSeq (s t : GS) : GS := fun δ M => seqS (s δ M) t
theorem dss_nil : PSs X [] (tDS X.K CT E gNext) := imp_ss pss_nil fun Dd σ H ⟨Z, F, α, δ, M, w, ev, k⟩ => k F α H σ w (Same.refl _) (PR _) ev
theorem dss_cons (h1 : PS X st (tDS X.K CT E s1)) (h2 : PSs X rest (tDS X.K CT E s2)) : PSs X (st :: rest) (tDS X.K CT E (gSeq s1 s2)) :=
  imp_ss (pss_cons h1 h2) fun Dd σ H ⟨Z, F, α, δ, M, w, ev, k⟩ => ⟨Z, F, α, δ, M, w, ev, KS.of_seq k⟩
theorem dss_one (h1 : PS X st (tDS X.K CT E s1)) : PSs X [st] (tDS X.K CT E s1) := pss_one h1
@[simp] def gBrk : GS := fun δ M => some (.bk δ M)
@[simp] def gCnt : GS := fun δ M => some (.ct δ M)
theorem ds_pass : PS X (.Pass pos) (tDS X.K CT E gNext) := imp_s ps_pass fun Dd σ H ⟨Z, F, α, δ, M, w, ev, k⟩ => k F α H σ w (Same.refl _) (PR _) ev
theorem ds_break : PS X (.Break pos) (tDS X.K CT E gBrk) := imp_s ps_break fun Dd σ H ⟨Z, F, α, δ, M, w, ev, k⟩ => k F α H σ w (Same.refl _) (PR _) ev
theorem ds_continue : PS X (.Continue pos) (tDS X.K CT E gCnt) := imp_s ps_continue fun Dd σ H ⟨Z, F, α, δ, M, w, ev, k⟩ => k F α H σ w (Same.refl _) (PR _) ev
@[simp] def gExpr (g : GE) : GS := fun δ M => bindS (g δ M) fun _ M1 => some (.nx δ M1)
theorem ds_expr (he : PE X e (tD X.K CT E g)) (hs : swapsWith e none pos.line X.env = pure false := by rfl) : PS X (.Expr e pos) (tDS X.K CT E (gExpr g)) :=
  imp_s (ps_expr he hs) fun Dd σ H ⟨Z, F, α, δ, M, w, ev, k⟩ => by
    refine ⟨Z, F, α, δ, M, w, ev, (KO.of_bindS k).imp fun F1 α1 d M1 H1 w1 s1 p1 k1 v rv => k1 F1 α1 H1 σ w1 (Same.refl _) (PR _) (ev.mono s1 p1)⟩
@[simp] def gRet (g : GE) : GS := fun δ M => bindS (g δ M) fun d M1 => some (.rt d M1)
theorem ds_ret (he : PE X e (tD X.K CT E g)) : PS X (.Return (some e) pos) (tDS X.K CT E (gRet g)) :=
  imp_s (ps_ret he) fun Dd σ H ⟨Z, F, α, δ, M, w, ev, k⟩ => by
    refine ⟨Z, F, α, δ, M, w, ev, (KO.of_bindS k).imp fun F1 α1 d M1 H1 w1 s1 p1 k1 v rv => k1 F1 α1 H1 v w1 (Same.refl _) (PR _) rv⟩
/-- return of a list that was filled: it changes no more -/
def gRetF (g : GE) : GS := fun δ M => bindS (g δ M) fun d M1 =>
  match d with
  | .cel n => match M1[n]? with
    | some (.lst ds) => some (.rt (.lst ds) (M1.set n .dead))
    | _ => none
  | _ => none
theorem ds_retF (he : PE X e (tD X.K CT E g)) : PS X (.Return (some e) pos) (tDS X.K CT E (gRetF g)) :=
  imp_s (ps_ret he) fun Dd σ H ⟨Z, F, α, δ, M, w, ev, k⟩ => by
    refine ⟨Z, F, α, δ, M, w, ev, (KO.of_bindS k).imp fun F1 α1 d M1 H1 w1 s1 p1 k1 v rv => ?_⟩
    split at k1
    · split at k1
      · rename_i n _ ds hm
        obtain ⟨a, rfl, ha⟩ := rv.of_cel
        obtain ⟨F2, w2, s2, r2⟩ := w1.freeze ha hm
        exact k1 F2 α1 H1 _ w2 s2 (PR _) r2
      · exact k1.elim
    · exact k1.elim
@[simp] def gRetN : GS := fun δ M => some (.rt .non M)
theorem ds_retN : PS X (.Return none pos) (tDS X.K CT E gRetN) := imp_s ps_retN fun Dd σ H ⟨Z, F, α, δ, M, w, ev, k⟩ => k F α H _ w (Same.refl _) (PR _) .non
@[simp] def gIfS (gt : GT) (s1 s2 : GS) : GS := fun δ M => bindS (gt δ M) fun c M1 => if c = true then s1 δ M1 else s2 δ M1
theorem ds_if {c : Expr} {a b : List Stmt} (hc : PT X c (tDT X.K CT E gt)) (ha : PSs X a (tDS X.K CT E s1)) (hb : PSs X b (tDS X.K CT E s2)) : PS X (.If c a b pos) (tDS X.K CT E (gIfS gt s1 s2)) :=
  imp_s (ps_if hc ha hb) fun Dd σ H ⟨Z, F, α, δ, M, w, ev, k⟩ => by
    refine ⟨Z, F, α, δ, M, w, ev, (KO.of_bindS k).imp fun F1 α1 d M1 H1 w1 s1 p1 k1 => ?_⟩
    refine ite2 (fun q => ?_) (fun q => ?_)
    · rw [if_pos q] at k1; exact ⟨Z, F1, α1, δ, M1, w1, ev.mono s1 p1, k1⟩
    · rw [if_neg q] at k1; exact ⟨Z, F1, α1, δ, M1, w1, ev.mono s1 p1, k1⟩

/-! ### targets -/
@[simp] def gName (i : Nat) : GG := fun d δ M => okR (δ.set i (some d)) M
theorem dg_name {i : Nat} {x : Str} (hN : X.N.Nodup) (hi : X.N[i]? = some x) (hx : Loc X.env.scope x) (hf : X.fn x = true ∨ X.env.scope.names.lookup x = some .local := by first | exact .inl rfl | exact .inr rfl | assumption) : PG X (.Name x pos) (gD X.K CT E (DL.gName i)) :=
  imp_g (pg_name hN hi hx hf) fun v σ H Q ⟨Z, F, α, δ, M, d, w, ev, rv, k⟩ => k F α H w (Same.refl _) (PR _) _ (ev.set rv)
/-- several targets -/
abbrev GGs := List D → Ev → Sto → RO Ev
def tsD (K : PySem.W.Frag) (CT : Nat → Addr) (E : XK) (g : GGs) : TGs := fun vs σ H Q => ∃ Z F α δ M ds, W K Z F H α M ∧ EvR K F α σ δ ∧ RvL K F α vs ds ∧ KO K Z CT E F α (fun F' α' δ' _ H' => ∀ σ', EvR K F' α' σ' δ' → Q σ' H') (g ds δ M)
@[simp] def gsNil : GGs := fun ds δ M => match ds with
  | [] => okR δ M
  | _ => none
@[simp] def gsCons (t : GG) (u : GGs) : GGs := fun ds δ M => match ds with
  | d :: r => bindR (t d δ M) fun δ1 M1 => u r δ1 M1
  | _ => none
theorem imp_gs {es : List Expr} {t t' : TGs} (h : PGs X es t) (w : ∀ v σ H Q, t' v σ H Q → t v σ H Q) : PGs X es t' := ⟨fun pins s σ H v u Q I r q => h.run pins s σ H v u Q I r (w _ _ _ _ q)⟩
theorem dgs_nil : PGs X [] (tsD X.K CT E gsNil) := imp_gs pgs_nil fun vs σ H Q ⟨Z, F, α, δ, M, ds, w, ev, rv, k⟩ => by
  unfold gsNil at k
  split at k
  · exact ⟨rv.of_nil, k F α H w (Same.refl _) (PR _) _ ev⟩
  · exact k.elim
variable {us : GGs} {es : List Expr}
theorem dgs_cons (h1 : PG X e (gD X.K CT E t)) (h2 : PGs X es (tsD X.K CT E us))
    (hs : (assignEach (e :: es) X.env).map (·.2) = assign e X.env :: (assignEach es X.env).map (·.2) := by rfl) : PGs X (e :: es) (tsD X.K CT E (gsCons t us)) :=
  imp_gs (pgs_cons h1 h2 hs) fun vs σ H Q ⟨Z, F, α, δ, M, ds, w, ev, rv, k⟩ => by
    unfold gsCons at k
    split at k
    · obtain ⟨v, r, rfl, r1, r2⟩ := rv.of_cons
      refine ⟨v, r, rfl, Z, F, α, δ, M, _, w, ev, r1, (KO.of_bind k).imp fun F1 α1 δ1 M1 H1 w1 s1 p1 k1 σ1 ev1 => ?_⟩
      exact ⟨Z, F1, α1, δ1, M1, _, w1, ev1, r2.mono s1 p1, k1⟩
    · exact k.elim
@[simp] def gTupT (n : Nat) (us : GGs) : GG := fun d δ M => match d with
  | .tup ds => if ds.length = n then us ds δ M else none
  | _ => none
theorem dg_tup {k : Nat} {n : Nat} (hc : X.calm = true) (h : PGs X es (tsD X.K CT E us))
    (hn : (assignEach es X.env).length = n := by rfl) (hst : (assignEach es X.env).findIdx? (·.1) = none := by rfl) : PG X (.Tuple es k pos) (gD X.K CT E (gTupT n us)) :=
  imp_g (pg_tup hc h hn hst) fun v σ H Q ⟨Z, F, α, δ, M, d, w, ev, rv, k⟩ => by
    unfold gTupT at k
    split at k
    · split at k
      · rename_i hl
        obtain ⟨a, xs, rfl, h1, h2⟩ := rv.of_tup
        exact ⟨a, xs, rfl, by
          rcases h1 with (h1 | ⟨o, h1⟩) | h1
          · exact .inl (.inl (w.sub _ _ h1))
          · exact .inl (.inr ⟨o, w.sub _ _ h1⟩)
          · exact .inr h1, h2.len.trans hl, Z, F, α, δ, M, _, w, ev, h2, k⟩
      · exact k.elim
    · exact k.elim
/-- target = value -/
@[simp] def gAsg (g : GE) (t : GG) : GS := fun δ M => bindS (bindR (g δ M) fun d M1 => t d δ M1) fun δ' M' => some (.nx δ' M')
theorem asg_go {Dd : Ends} {σ : St} {H : Hp} (h : tDS X.K CT E (gAsg g t) Dd σ H) : tAsg (tD X.K CT E g) (gD X.K CT E t) Dd σ H := by
  obtain ⟨Z, F, α, δ, M, w, ev, k⟩ := h
  refine ⟨Z, F, α, δ, M, w, ev, (KO.of_bind (KO.of_bindS k)).imp fun F1 α1 d M1 H1 w1 s1 p1 k1 v rv => ?_⟩
  exact ⟨Z, F1, α1, δ, M1, d, w1, ev.mono s1 p1, rv, k1.imp fun F2 α2 δ2 M2 H2 w2 s2 p2 k2 σ2 ev2 => k2 F2 α2 H2 σ2 w2 (Same.refl _) (PR _) ev2⟩
theorem ds_asg (he : PE X e (tD X.K CT E g)) (hg : PG X tg (gD X.K CT E t)) (hs : swapsWithSole [tg] e pos.line X.env = pure false := by rfl) (hw : swappedStores [tg] e X.env = pure none := by rfl)
    (h1 : (assignEach [tg] X.env).map (·.2) = [assign tg X.env] := by rfl) : PS X (.Assign [tg] e pos) (tDS X.K CT E (gAsg g t)) := imp_s (ps_asg he hg hs hw h1) fun _ _ _ h => asg_go h
theorem set_go {i : Nat} {Dd : Ends} {σ : St} {H : Hp} (h : tDS X.K CT E (gAsg g (DL.gName i)) Dd σ H) : tAsg (tD X.K CT E g) (L2.gName i) Dd σ H := by
  obtain ⟨Z, F, α, δ, M, w, ev, k⟩ := h
  refine ⟨Z, F, α, δ, M, w, ev, (KO.of_bind (KO.of_bindS k)).imp fun F1 α1 d M1 H1 w1 s1 p1 k1 v rv => ?_⟩
  exact k1 F1 α1 H1 w1 (Same.refl _) (PR _) F1 α1 H1 _ w1 (Same.refl _) (PR _) ((ev.mono s1 p1).set rv)
theorem ds_set {i : Nat} {x : Str} {pos' : Pos} (hN : X.N.Nodup) (hi : X.N[i]? = some x) (hx : Loc X.env.scope x) (he : PE X e (tD X.K CT E g)) (hs : swapsWith e (some (.Name x pos')) pos.line X.env = pure false := by rfl) (hf : X.fn x = true ∨ X.env.scope.names.lookup x = some .local := by first | exact .inl rfl | exact .inr rfl | assumption) :
    PS X (.Assign [.Name x pos'] e pos) (tDS X.K CT E (gAsg g (DL.gName i))) := imp_s (ps_set hN hi hx he hs hf) fun _ _ _ h => set_go h
/-- a, b = x, y (plain locals) -/
@[simp] def gPar (i j : Nat) (gl : GA) : GS := fun δ M => bindS (gl δ M) fun ds M1 => match ds with
  | [a, b] => some (.nx ((δ.set i (some a)).set j (some b)) M1)
  | _ => none
theorem ds_par {i j : Nat} {x y : Str} {a b : Expr} {px py pt : Pos} {kt k2 pt2} (hc : X.calm = true) (hN : X.N.Nodup) (hi : X.N[i]? = some x) (hj : X.N[j]? = some y) (hij : i ≠ j)
    (hx : X.env.scope.names.lookup x = some .local) (hy : X.env.scope.names.lookup y = some .local) (ha : PA X [a, b] (tDA X.K CT E gl))
    (hw : swappedStores [.Tuple [.Name x px, .Name y py] kt pt] (.Tuple [a, b] k2 pt2) X.env = pure (some [x, y]) := by rfl)
    (hs : swapsWithSole [.Tuple [.Name x px, .Name y py] kt pt] (.Tuple [a, b] k2 pt2) pos.line X.env = pure false := by rfl) :
    PS X (.Assign [.Tuple [.Name x px, .Name y py] kt pt] (.Tuple [a, b] k2 pt2) pos) (tDS X.K CT E (gPar i j gl)) :=
  imp_s (ps_par hc hN hi hj hij hx hy ha hw hs) fun Dd σ H ⟨Z, F, α, δ, M, w, ev, k⟩ => by
    refine ⟨Z, F, α, δ, M, w, ev, (KO.of_bindS k).imp fun F1 α1 ds M1 H1 w1 s1 p1 k1 vs rvs => ?_⟩
    split at k1
    · obtain ⟨v, r, rfl, r1, r2⟩ := rvs.of_cons
      obtain ⟨u, r', rfl, r3, r4⟩ := r2.of_cons
      have := r4.of_nil
      subst this
      exact ⟨v, u, rfl, k1 F1 α1 H1 _ w1 (Same.refl _) (PR _) (((ev.mono s1 p1).set r1).set r3)⟩
    · exact k1.elim

/-! ### what is walked -/
abbrev GI := Ev → Sto → RO (List D)
structure ItR (K : PySem.W.Frag) (F : Hp) (α : List Addr) (J : It) (ds : List D) : Prop where
  go : ∀ (i : Nat) Z F' α' H' M', W K Z F' H' α' M' → Same F F' → α <+: α' → i < ds.length → J.go i H'
  yld : ∀ (i : Nat) Z F' α' H' M' x H'' d, W K Z F' H' α' M' → Same F F' → α <+: α' → J.yld i H' x H'' → ds[i]? = some d → ∃ F'', W K Z F'' H'' α' M' ∧ Same F' F'' ∧ Rv K F'' α' x d
  stop : ∀ (i : Nat) Z F' α' H' M', W K Z F' H' α' M' → Same F F' → α <+: α' → ds.length ≤ i → J.stop i H'
def tDI (K : PySem.W.Frag) (CT : Nat → Addr) (E : XK) (gi : GI) : TI := fun σ H R => ∃ Z F α δ M, W K Z F H α M ∧ EvR K F α σ δ ∧ KO K Z CT E F α (fun F' α' ds _ H' => ∀ J, ItR K F' α' J ds → R J H') (gi δ M)
theorem imp_i {iter : Expr} {wi wi' : TI} (h : PI X tg iter wi) (w : ∀ σ H R, wi' σ H R → wi σ H R) : PI X tg iter wi' := ⟨fun pins s σ H R I q => h.run pins s σ H R I (w _ _ _ q)⟩
theorem ItR.list {K : PySem.W.Frag} {F : Hp} {α : List Addr} {a : Addr} {xs : List V} {ds : List D} (h : SqL K F a xs) (r : RvL K F α xs ds) : ItR K F α (Itl K a) ds where
  go := fun i Z F' α' H' M' w s p hi => ⟨xs, xs[i]'(r.len ▸ hi), w.sub.seq (s.seq h), List.getElem?_eq_getElem _⟩
  yld := fun i Z F' α' H' M' x H'' d w s p hy hd => by
    obtain ⟨rfl, q⟩ := hy
    exact ⟨F', w, Same.refl _, (r.2 i x d (q xs (w.sub.seq (s.seq h))) hd).mono s p⟩
  stop := fun i Z F' α' H' M' w s p hi => ⟨xs, w.sub.seq (s.seq h), r.len ▸ hi⟩
theorem ItR.tup {K : PySem.W.Frag} {F : Hp} {α : List Addr} {a : Addr} {xs : List V} {ds : List D} (h : SqT K F a xs) (r : RvL K F α xs ds) : ItR K F α (Itt K a) ds where
  go := fun i Z F' α' H' M' w s p hi => ⟨xs, xs[i]'(r.len ▸ hi), SqT.mono w.sub (SqT.mono s h), List.getElem?_eq_getElem _⟩
  yld := fun i Z F' α' H' M' x H'' d w s p hy hd => by
    obtain ⟨rfl, q⟩ := hy
    exact ⟨F', w, Same.refl _, (r.2 i x d (q xs (SqT.mono w.sub (SqT.mono s h))) hd).mono s p⟩
  stop := fun i Z F' α' H' M' w s p hi => ⟨xs, SqT.mono w.sub (SqT.mono s h), r.len ▸ hi⟩
def rngD (lo : Int) (n : Nat) : List D := (List.range n).map fun (i : Nat) => D.int (lo + i)
theorem ItR.rng {K : PySem.W.Frag} {F : Hp} {α : List Addr} {lo : Int} {n : Nat} : ItR K F α (Itr lo n) (rngD lo n) where
  go := fun i Z F' α' H' M' w s p hi => show i < n by unfold rngD at hi; simpa using hi
  yld := fun i Z F' α' H' M' x H'' d w s p hy hd => by
    obtain ⟨rfl, rfl⟩ := hy
    refine ⟨F', w, Same.refl _, ?_⟩
    unfold rngD at hd
    rw [List.getElem?_map] at hd
    by_cases hi : i < n
    · rw [List.getElem?_range hi] at hd
      cases hd
      exact .int _
    · rw [List.getElem?_eq_none (by simpa using hi)] at hd
      cases hd
  stop := fun i Z F' α' H' M' w s p hi => show n ≤ i by unfold rngD at hi; simpa using hi
def itemsD (d : D) : Option (List D) := match d with
  | .lst ds => some ds
  | .ro ds => some ds
  | _ => none
/-- for .. in a list that changes no more -/
@[simp] def gItL (g : GE) : GI := fun δ M => bindR (g δ M) fun d M1 => match itemsD d with
  | some ds => okR ds M1
  | none => none
theorem di_list (h : PE X e (tD X.K CT E g)) : PI X tg e (tDI X.K CT E (gItL g)) :=
  imp_i (pi_list h) fun σ H R ⟨Z, F, α, δ, M, w, ev, k⟩ => by
    refine ⟨Z, F, α, δ, M, w, ev, (KO.of_bind k).imp fun F1 α1 d M1 H1 w1 s1 p1 k1 v rv => ?_⟩
    cases d with
    | lst ds =>
      obtain ⟨a, xs, rfl, h1, h2⟩ := rv.of_lst
      exact ⟨a, rfl, ⟨xs, w1.sub.seq (SqL.of h1)⟩, k1 F1 α1 H1 w1 (Same.refl _) (PR _) _ (.list (SqL.of h1) h2)⟩
    | ro ds =>
      obtain ⟨a, xs, rfl, h1, h2⟩ := rv.of_ro
      exact ⟨a, rfl, ⟨xs, w1.sub.seq h1⟩, k1 F1 α1 H1 w1 (Same.refl _) (PR _) _ (.list h1 h2)⟩
    | _ => exact k1.elim
/-- for .. in a tuple -/
@[simp] def gItT (g : GE) : GI := fun δ M => bindR (g δ M) fun d M1 => match d with
  | .tup ds => okR ds M1
  | _ => none
theorem di_tup (h : PE X e (tD X.K CT E g)) : PI X tg e (tDI X.K CT E (gItT g)) :=
  imp_i (pi_tup h) fun σ H R ⟨Z, F, α, δ, M, w, ev, k⟩ => by
    refine ⟨Z, F, α, δ, M, w, ev, (KO.of_bind k).imp fun F1 α1 d M1 H1 w1 s1 p1 k1 v rv => ?_⟩
    split at k1
    · obtain ⟨a, xs, rfl, h1, h2⟩ := rv.of_tup
      exact ⟨a, rfl, ⟨xs, SqT.mono w1.sub h1⟩, k1 F1 α1 H1 w1 (Same.refl _) (PR _) _ (.tup h1 h2)⟩
    · exact k1.elim
/-- range(n), range(a, b) -/
@[simp] def gRng1 (gl : GA) : GI := fun δ M => bindR (gl δ M) fun ds M1 => match ds with
  | [.int j] => if -(2 ^ 62) ≤ j ∧ j < 2 ^ 62 then okR (rngD 0 j.toNat) M1 else none
  | _ => none
@[simp] def gRng2 (gl : GA) : GI := fun δ M => bindR (gl δ M) fun ds M1 => match ds with
  | [.int i, .int j] => if -(2 ^ 62) ≤ i ∧ i < 2 ^ 62 ∧ -(2 ^ 62) ≤ j ∧ j < 2 ^ 62 then okR (rngD i (j - i).toNat) M1 else none
  | _ => none
theorem di_rng1 {a : Expr} {p : Pos} (hg : Gl X "range") (hm : X.mg "range" = none) (ha : PA X [a] (tDA X.K CT E gl)) (hs : starEach [a] X.env = [(false, eval a X.env)] := by rfl) : PI X tg (.Call (.Name "range" p) [a] [] pos) (tDI X.K CT E (gRng1 gl)) :=
  imp_i (pi_range1 hg hm ha hs) fun σ H R ⟨Z, F, α, δ, M, w, ev, k⟩ => by
    refine ⟨Z, F, α, δ, M, w, ev, (KO.of_bind k).imp fun F1 α1 ds M1 H1 w1 s1 p1 k1 vs rvs => ?_⟩
    split at k1
    · split at k1
      · rename_i hb
        obtain ⟨v, r, rfl, r1, r2⟩ := rvs.of_cons
        have e1 := r1.of_int
        have e2 := r2.of_nil
        subst e1; subst e2
        exact ⟨_, rfl, hb.1, hb.2, k1 F1 α1 H1 w1 (Same.refl _) (PR _) _ .rng⟩
      · exact k1.elim
    · exact k1.elim
theorem di_rng2 {a b : Expr} {p : Pos} (hg : Gl X "range") (hm : X.mg "range" = none) (ha : PA X [a, b] (tDA X.K CT E gl)) (hs : starEach [a, b] X.env = [(false, eval a X.env), (false, eval b X.env)] := by rfl) (hs2 : starEach [b] X.env = [(false, eval b X.env)] := by rfl) :
    PI X tg (.Call (.Name "range" p) [a, b] [] pos) (tDI X.K CT E (gRng2 gl)) :=
  imp_i (pi_range2 hg hm ha hs hs2) fun σ H R ⟨Z, F, α, δ, M, w, ev, k⟩ => by
    refine ⟨Z, F, α, δ, M, w, ev, (KO.of_bind k).imp fun F1 α1 ds M1 H1 w1 s1 p1 k1 vs rvs => ?_⟩
    split at k1
    · split at k1
      · rename_i hb
        obtain ⟨v, r, rfl, r1, r2⟩ := rvs.of_cons
        obtain ⟨v2, r', rfl, r3, r4⟩ := r2.of_cons
        have e1 := r1.of_int
        have e2 := r3.of_int
        have e3 := r4.of_nil
        subst e1; subst e2; subst e3
        exact ⟨_, _, rfl, hb, k1 F1 α1 H1 w1 (Same.refl _) (PR _) _ .rng⟩
      · exact k1.elim
    · exact k1.elim

/-! ### for -/
def forL (t : GG) (s : GS) : List D → Ev → Sto → Option OutS
  | [], δ, M => some (.nx δ M)
  | d :: ds, δ, M => bindS (t d δ M) fun δ1 M1 => match s δ1 M1 with
    | some (.nx δ2 M2) => forL t s ds δ2 M2
    | some (.ct δ2 M2) => forL t s ds δ2 M2
    | some (.bk δ2 M2) => some (.nx δ2 M2)
    | r => r
@[simp] def gFor (gi : GI) (t : GG) (s : GS) : GS := fun δ M => bindS (gi δ M) fun ds M1 => forL t s ds δ M1
theorem ds_for {iter : Expr} {gi : GI} (hp : PassesOwn (model X.prog X.w) X.A X.env X.xe) (hc : X.calm = true) (hi : PI X tg iter (tDI X.K CT E gi)) (hg : PG X tg (gD X.K CT E t)) (hb : PSs X body (tDS X.K CT E s))
    (hs : ∀ x, foldedSetIterable iter X.env x = pure x := by intro _; rfl) : PS X (.For tg iter body [] pos) (tDS X.K CT E (gFor gi t s)) :=
  imp_s (ps_for hp hc hi hg hb hs) fun Dd σ H ⟨Z, F, α, δ, M, w, ev, k⟩ => by
    refine ⟨Z, F, α, δ, M, w, ev, (KO.of_bindS k).imp fun F0 α0 ds M0 H0 w0 s0 p0 k0 J hJ => ?_⟩
    refine ⟨fun i m σ' H' => ∃ F1 α1 δ1 M1, W X.K Z F1 H' α1 M1 ∧ EvR X.K F1 α1 σ' δ1 ∧ Same F0 F1 ∧ α0 <+: α1 ∧ i + m = ds.length ∧ KS X.K Z CT E F1 α1 Dd (forL t s (ds.drop i) δ1 M1),
      ⟨ds.length, F0, α0, δ, M0, w0, ev.mono s0 p0, Same.refl _, PR _, by omega, by simpa using k0⟩, ?_⟩
    rintro i m σ1 H1 ⟨F1, α1, δ1, M1, w1, ev1, s1, p1, hm, k1⟩
    by_cases hi : i < ds.length
    · refine .inr ⟨hJ.go i Z F1 α1 H1 M1 w1 s1 p1 hi, _, fun σ' H' hN => ⟨m - 1, by omega, hN⟩, fun x H' hy => ?_⟩
      obtain ⟨F2, w2, s2, rx⟩ := hJ.yld i Z F1 α1 H1 M1 x H' ds[i] w1 s1 p1 hy (List.getElem?_eq_getElem hi)
      have hd : ds.drop i = ds[i] :: ds.drop (i + 1) := List.drop_eq_getElem_cons hi
      rw [hd] at k1
      have k2 := KO.of_bindS (KS.mono s2 (PR _) k1)
      refine ⟨Z, F2, α1, δ1, M1, ds[i], w2, ev1.mono s2 (PR _), rx, k2.imp fun F3 α3 δ3 M3 H3 w3 s3 p3 k3 σ3 ev3 => ?_⟩
      refine ⟨Z, F3, α3, δ3, M3, w3, ev3, ?_⟩
      have sA : Same F0 F3 := s1.trans (s2.trans s3)
      have pA : α0 <+: α3 := p1.trans p3
      generalize hr : s δ3 M3 = r at k3
      match r, k3 with
      | some (.nx δ4 M4), k3 => exact fun F' α' H' σ' w s p e => ⟨F', α', δ4, M4, w, e, sA.trans s, pA.trans p, by omega, KS.mono s p k3⟩
      | some (.ct δ4 M4), k3 => exact fun F' α' H' σ' w s p e => ⟨F', α', δ4, M4, w, e, sA.trans s, pA.trans p, by omega, KS.mono s p k3⟩
      | some (.bk δ4 M4), k3 => exact k3
      | some (.rt δ4 M4), k3 => exact k3
      | some (.ex e4 M4), k3 => exact k3
      | none, k3 => exact k3.elim
    · refine .inl ⟨hJ.stop i Z F1 α1 H1 M1 w1 s1 p1 (by omega), ?_⟩
      rw [List.drop_of_length_le (by omega)] at k1
      exact k1 F1 α1 H1 σ1 w1 (Same.refl _) (PR _) ev1

/-! ### while -/
def whileN (c : GT) (s : GS) : Nat → Ev → Sto → Option OutS
  | 0, _, _ => none
  | n + 1, δ, M => bindS (c δ M) fun b M1 => if b = true then (match s δ M1 with
    | some (.nx δ2 M2) => whileN c s n δ2 M2
    | some (.ct δ2 M2) => whileN c s n δ2 M2
    | some (.bk δ2 M2) => some (.nx δ2 M2)
    | r => r) else some (.nx δ M1)
open Classical in
noncomputable def gWhile (c : GT) (s : GS) : GS := fun δ M => if h : ∃ n, (whileN c s n δ M).isSome = true then whileN c s (Classical.choose h) δ M else none
theorem whileN_mono {c : GT} {s : GS} : ∀ {n m : Nat} {δ : Ev} {M : Sto}, n ≤ m → (whileN c s n δ M).isSome = true → whileN c s m δ M = whileN c s n δ M := by
  intro n
  induction n with
  | zero => intro m δ M _ h; simp [whileN] at h
  | succ n ih =>
    intro m δ M hm h
    obtain ⟨m, rfl⟩ : ∃ k, m = k + 1 := ⟨m - 1, by omega⟩
    simp only [whileN] at h ⊢
    generalize c δ M = r at h ⊢
    match r, h with
    | none, h => rfl
    | some (.ex e M1), h => rfl
    | some (.ok b M1), h =>
      simp only [bindS_ok] at h ⊢
      cases b with
      | false => rfl
      | true =>
        simp only [if_true] at h ⊢
        generalize s δ M1 = r2 at h ⊢
        match r2, h with
        | some (.nx δ2 M2), h => exact ih (by omega) h
        | some (.ct δ2 M2), h => exact ih (by omega) h
        | some (.bk δ2 M2), h => rfl
        | some (.rt d2 M2), h => rfl
        | some (.ex e2 M2), h => rfl
        | none, h => rfl
theorem gWhile_eq {c : GT} {s : GS} {n : Nat} {δ : Ev} {M : Sto} {r : OutS} (h : whileN c s n δ M = some r) : gWhile c s δ M = some r := by
  unfold gWhile
  have hx : ∃ n, (whileN c s n δ M).isSome = true := ⟨n, by rw [h]; rfl⟩
  rw [dif_pos hx]
  have h2 := Classical.choose_spec hx
  by_cases q : n ≤ Classical.choose hx
  · rw [whileN_mono q (by rw [h]; rfl)]; exact h
  · rw [← whileN_mono (show Classical.choose hx ≤ n by omega) h2]; exact h
theorem gWhile_ex {c : GT} {s : GS} {δ : Ev} {M : Sto} {r : OutS} (h : gWhile c s δ M = some r) : ∃ n, whileN c s n δ M = some r := by
  unfold gWhile at h
  split at h
  · exact ⟨_, h⟩
  · cases h
theorem ds_while {c : Expr} (hp : PassesOwn (model X.prog X.w) X.A X.env X.xe) (hc : PT X c (tDT X.K CT E gt)) (hb : PSs X body (tDS X.K CT E s)) : PS X (.While c body [] pos) (tDS X.K CT E (gWhile gt s)) :=
  imp_s (ps_while hp hc hb) fun Dd σ H ⟨Z, F, α, δ, M, w, ev, k⟩ => by
    have hk : ∃ n, KS X.K Z CT E F α Dd (whileN gt s n δ M) := by
      cases hr : gWhile gt s δ M with
      | none => rw [hr] at k; exact k.elim
      | some r =>
        obtain ⟨n, hn⟩ := gWhile_ex hr
        exact ⟨n, by rw [hn, ← hr]; exact k⟩
    obtain ⟨n, k⟩ := hk
    refine ⟨fun m σ' H' => ∃ F1 α1 δ1 M1, W X.K Z F1 H' α1 M1 ∧ EvR X.K F1 α1 σ' δ1 ∧ KS X.K Z CT E F1 α1 Dd (whileN gt s m δ1 M1), ⟨n, F, α, δ, M, w, ev, k⟩, ?_⟩
    rintro m σ1 H1 ⟨F1, α1, δ1, M1, w1, ev1, k1⟩
    cases m with
    | zero => exact k1.elim
    | succ m =>
      refine ⟨Z, F1, α1, δ1, M1, w1, ev1, (KO.of_bindS k1).imp fun F2 α2 b M2 H2 w2 s2 p2 k2 => ?_⟩
      cases b with
      | false => exact iteF (k2 F2 α2 H2 σ1 w2 (Same.refl _) (PR _) (ev1.mono s2 p2))
      | true =>
        simp only [if_true] at k2
        refine iteT ⟨_, fun σ' H' hN => ⟨m, by omega, hN⟩, Z, F2, α2, δ1, M2, w2, ev1.mono s2 p2, ?_⟩
        generalize hr : s δ1 M2 = r at k2
        match r, k2 with
        | some (.nx δ4 M4), k3 => exact fun F' α' H' σ' w s p e => ⟨F', α', δ4, M4, w, e, KS.mono s p k3⟩
        | some (.ct δ4 M4), k3 => exact fun F' α' H' σ' w s p e => ⟨F', α', δ4, M4, w, e, KS.mono s p k3⟩
        | some (.bk δ4 M4), k3 => exact k3
        | some (.rt δ4 M4), k3 => exact k3
        | some (.ex e4 M4), k3 => exact k3
        | none, k3 => exact k3.elim
end

/-! ### defs and their calls -/
/-- a def's promise by data -/
def spD (K : PySem.W.Frag) (CT : Nat → Addr) (n : Nat) (f : FL) : Sp := fun vs H Q E => ∃ Z F α M ds, W K Z F H α M ∧ RvL K F α vs ds ∧ ds.length = n ∧ KO K Z CT E F α (QD K Q) (f ds M)
/-- a def that stands at the module's name x and keeps its promise -/
structure FnD (P : Program) (w : World) (K : PySem.W.Frag) (mg : Str → Option Value) (base : Heap) (CT : Nat → Addr) (x : Str) (n : Nat) (k : Nat) (f : FL) : Prop where
  ex : ∃ a fd ps, ps.length = n ∧ mg x = some (.ref a) ∧ PySem.W.keepIn K (.ref a) = true ∧ Binds K fd ps [] ∧ FnOk P w K mg base (L2.CX P w) k a fd ps (spD K CT n f)
/-- what the body's context has -/
structure DX (X : Cx) (E : XK) (k : Nat) : Prop where
  calm : X.calm = true
  room : Room k X.A
  pass : Passes (L2.CX X.prog X.w) X E
  own : PassesOwn (model X.prog X.w) X.A X.env X.xe
  nd : X.N.Nodup
  tk : Takes X (fun cls d _ H => E cls d H)
  pw : X.prog = Pw.P ∧ X.w = Pw.w ∧ X.mg = Pw.mg
section
variable {X : Cx} {CT : Nat → Addr} {E : XK} {pos p : Pos} {x : Str} {e : Expr} {es : List Expr} {gl : GA} {f : FL} {k k' n : Nat}
@[simp] def gCall (f : FL) (gl : GA) : GE := fun δ M => bindR (gl δ M) fun ds M1 => f ds M1
theorem rel_go {σ : L2.St} {H : Hp} {Q : VK} (h : tD X.K CT E (gCall f gl) σ H Q) : tCB (rLD X.K CT E f) (tDA X.K CT E gl) σ H Q := by
  obtain ⟨Z, F, α, δ, M, w, ev, k⟩ := h
  exact ⟨Z, F, α, δ, M, w, ev, (KO.of_bind k).imp fun F1 α1 ds M1 H1 w1 s1 p1 k1 vs rvs => ⟨Z, F1, α1, M1, ds, w1, rvs, k1⟩⟩
/-- the same with the number of arguments checked -/
@[simp] def gCallN (n : Nat) (f : FL) (gl : GA) : GE := fun δ M => bindR (gl δ M) fun ds M1 => if ds.length = n then f ds M1 else none
theorem d_call (G : FnD X.prog X.w X.K X.mg X.base CT x n k f) (dx : DX X E k') (hk : k ≤ k') (hg : Gl X x) (ha : PA X (e :: es) (tDA X.K CT E gl)) (hdb : (x == ("__debug__" : Str)) = false := by decide)
    (he : starEach (e :: es) X.env = (false, eval e X.env) :: starEach es X.env := by rfl) (hpl : (backTo pos (starEach es X.env)).any (·.1) = false := by rfl) :
    PE X (.Call (.Name x p) (e :: es) [] pos) (tD X.K CT E (gCallN n f gl)) := by
  obtain ⟨a, fd, ps, hn, hm, hkp, hb, F⟩ := G.ex
  refine imp_e (pe_call F (dx.room.mono hk) hg hm hkp hb .nil dx.pass ha hdb he hpl) fun σ H Q ⟨Z, F, α, δ, M, w, ev, k⟩ => ?_
  refine ⟨Z, F, α, δ, M, w, ev, (KO.of_bind k).imp fun F1 α1 ds M1 H1 w1 s1 p1 k1 vs rvs => ?_⟩
  show spD X.K CT n f (vs ++ []) H1 Q E
  rw [List.append_nil]
  split at k1
  · rename_i hl
    exact ⟨Z, F1, α1, M1, ds, w1, rvs, hl, k1⟩
  · exact k1.elim
theorem d_call0 (G : FnD X.prog X.w X.K X.mg X.base CT x n k f) (dx : DX X E k') (hk : k ≤ k') (hg : Gl X x) (hdb : (x == ("__debug__" : Str)) = false := by decide) :
    PE X (.Call (.Name x p) [] [] pos) (tD X.K CT E (gCallN n f gNil)) := by
  obtain ⟨a, fd, ps, hn, hm, hkp, hb, F⟩ := G.ex
  refine imp_e (pe_call0 F (dx.room.mono hk) hg hm hkp hb .nil dx.pass hdb) fun σ H Q ⟨Z, F, α, δ, M, w, ev, k⟩ => ?_
  have k1 : KO X.K Z CT E F α (QD X.K Q) (if (0 : Nat) = n then f [] M else none) := k
  show spD X.K CT n f ([] ++ []) H Q E
  rw [List.append_nil]
  split at k1
  · rename_i hl
    exact ⟨Z, F, α, M, [], w, .nil, hl, k1⟩
  · exact k1.elim
/-- a built-in function, a built-in class called -/
theorem d_callB {id : String} {f : FL} (hc : CallR X (.builtin id) (rLD X.K CT E f)) (hg : Gl X x) (hm : X.mg x = none) (hv : bootBuiltins x = some (.builtin id)) (ha : PA X (e :: es) (tDA X.K CT E gl)) (hn : x ≠ "__name__" := by decide) (hdb : (x == ("__debug__" : Str)) = false := by decide)
    (he : starEach (e :: es) X.env = (false, eval e X.env) :: starEach es X.env := by rfl) (hpl : (backTo pos (starEach es X.env)).any (·.1) = false := by rfl) : PE X (.Call (.Name x p) (e :: es) [] pos) (tD X.K CT E (gCall f gl)) :=
  imp_e (pe_callB hc hg hm hv ha hn hdb he hpl) fun _ _ _ h => rel_go h
theorem d_callTy {T : String} {f : FL} (hc : CallR X (.type T) (rLD X.K CT E f)) (hg : Gl X x) (hm : X.mg x = none) (hv : bootBuiltins x = some (.type T)) (ha : PA X (e :: es) (tDA X.K CT E gl)) (hn : x ≠ "__name__" := by decide) (hdb : (x == ("__debug__" : Str)) = false := by decide)
    (he : starEach (e :: es) X.env = (false, eval e X.env) :: starEach es X.env := by rfl) (hpl : (backTo pos (starEach es X.env)).any (·.1) = false := by rfl) : PE X (.Call (.Name x p) (e :: es) [] pos) (tD X.K CT E (gCall f gl)) :=
  imp_e (pe_callTy hc hg hm hv ha hn hdb he hpl) fun _ _ _ h => rel_go h
end
/-- the def's function: its body from the slots at the entry; m: how many names -/
def finS (r : Option OutS) : RO D := match r with
  | some (.nx _ M') => okR .non M'
  | some (.rt d M') => okR d M'
  | some (.ex e M') => some (.ex e M')
  | _ => none
@[simp] theorem finS_nx (δ : Ev) (M : Sto) : finS (some (.nx δ M)) = okR .non M := rfl
@[simp] theorem finS_rt (d : D) (M : Sto) : finS (some (.rt d M)) = okR d M := rfl
@[simp] theorem finS_ex (e : Er) (M : Sto) : finS (some (.ex e M)) = some (.ex e M) := rfl
@[simp] theorem finS_ite (c : Prop) [Decidable c] (a b : Option OutS) : finS (if c then a else b) = if c then finS a else finS b := by split <;> rfl
def runD (m : Nat) (g : GS) : FL := fun ds M => finS (g (ds.map some ++ List.replicate (m - ds.length) none) M)
section
variable {K : PySem.W.Frag} {base : Heap} {CT : Nat → Addr}
theorem EvR.begin {F : Hp} {α : List Addr} {N : List Str} {vs : List V} {ds : List D} (h : RvL K F α vs ds) : EvR K F α (L2.start N vs) (ds.map some ++ List.replicate (N.length - ds.length) none) := by
  unfold L2.start
  rw [h.len]
  refine ⟨by simp [h.len], fun i d e => ?_⟩
  by_cases c : i < ds.length
  · rw [List.getElem?_append_left (by simpa using c), List.getElem?_map] at e
    rw [List.getElem?_append_left (by simpa [h.len] using c), List.getElem?_map]
    cases q : ds[i]? with
    | none => rw [q] at e; simp at e
    | some d' =>
      rw [q] at e
      simp at e
      subst e
      obtain ⟨v, hv, r⟩ := h.at q
      exact ⟨v, by rw [hv]; rfl, r⟩
  · rw [List.getElem?_append_right (by simpa using c)] at e
    rw [List.getElem?_replicate] at e
    split at e <;> simp at e
/-- THE RULE for a def -/
theorem fnD_of {x qual : Str} {st : Stmt} {a : Addr} {fd : FuncData} {N ps : List Str} {k n : Nat} {g : GS} (F : Fun K x qual st a fd) (hm : Pw.mg x = some (.ref a)) (hb : Binds K fd ps []) (S : FnScope N ps (defScope st)) (hn : ps.length = n)
    (body : ∀ (cdv : Value) (A : Around) (outer : List Env) (s : Shared) (H : Hp) (E : XK), DX (cxOf (L2.CX Pw.P Pw.w) Pw.P Pw.w K Pw.mg base N qual (defScope st) a cdv A outer s H E) E k →
      PSs (cxOf (L2.CX Pw.P Pw.w) Pw.P Pw.w K Pw.mg base N qual (defScope st) a cdv A outer s H E) (defBody st) (tDS K CT E g)) :
    FnD Pw.P Pw.w K Pw.mg base CT x n (k + 1) (runD N.length g) := by
  refine ⟨a, fd, ps, hn, hm, F.kp, hb, F.okX S (fun vs H Q E ⟨_, _, _, _, _, _, h1, h2, _⟩ => h1.len.trans (h2.trans hn.symm)) (fun cdv A outer s H vs Q E hr h => ⟨_, body cdv A outer s H E ?_, ?_⟩)⟩
  · exact ⟨rfl, hr, passes_call (takes_of rfl rfl rfl rfl) fun _ _ _ _ z => z, passes_of rfl, S.nd, takes_of rfl rfl rfl rfl, rfl, rfl, rfl⟩
  · obtain ⟨Z, F, α, M, ds, w, rv, hl, k⟩ := h
    refine ⟨Z, F, α, _, M, w, EvR.begin rv, ?_⟩
    unfold runD finS at k
    generalize g (ds.map some ++ List.replicate (N.length - ds.length) none) M = r at k ⊢
    match r, k with
    | some (.nx δ' M'), k => exact fun F' α' H' σ' w s p _ => k F' α' H' w s p _ .non
    | some (.rt d M'), k => exact fun F' α' H' v w s p r => k F' α' H' w s p v r
    | some (.ex e M'), k => exact k
theorem FnD.mono {P : Program} {w : World} {mg : Str → Option Value} {x : Str} {n j k : Nat} {f : FL} (G : FnD P w K mg base CT x n j f) (h : j ≤ k) : FnD P w K mg base CT x n k f := by
  obtain ⟨a, fd, ps, h1, h2, h3, h4, h5⟩ := G.ex
  exact ⟨a, fd, ps, h1, h2, h3, h4, h5.mono h⟩
end
end DL
/-! DL4: operators and built-ins by data -/
namespace DL
open PySem PySem.Spec L2
variable [Pw]

/-! ### data as PyData -/
mutual
def D.py : D → PyData
  | .non => .none
  | .bl b => .bool b
  | .int i => .int i
  | .str x => .str x
  | .tup l => .tuple (D.pyL l)
  | .lst l => .list (D.pyL l)
  | .ro l => .list (D.pyL l)
  | .cel _ => .none
  | .dic _ _ => .none
  | .dcn _ _ => .none
  | .glo _ => .none
def D.pyL : List D → List PyData
  | [] => []
  | d :: r => D.py d :: D.pyL r
end
mutual
/-- no thing that may change in it, its texts in order -/
def D.flat : D → Bool
  | .str x => PySem.PyData.strOk x
  | .tup l => D.flatL l
  | .lst l => D.flatL l
  | .ro _ => false
  | .cel _ => false
  | .dic _ _ => false
  | .dcn _ _ => false
  | .glo _ => false
  | _ => true
def D.flatL : List D → Bool
  | [] => true
  | d :: r => D.flat d && D.flatL r
end
mutual
def D.dep : D → Nat
  | .tup l => D.depL l + 1
  | .lst l => D.depL l + 1
  | .ro l => D.depL l + 1
  | _ => 0
def D.depL : List D → Nat
  | [] => 0
  | d :: r => max (D.dep d) (D.depL r)
end
mutual
/-- == -/
def D.eqv : D → D → Bool
  | .non, .non => true
  | .bl a, .bl b => a == b
  | .bl a, .int j => (if a then 1 else 0) == j
  | .int i, .bl b => i == (if b then 1 else 0)
  | .int i, .int j => i == j
  | .str x, .str y => x == y
  | .tup xs, .tup ys => D.eqvL xs ys
  | .lst xs, .lst ys => D.eqvL xs ys
  | .lst xs, .ro ys => D.eqvL xs ys
  | .ro xs, .lst ys => D.eqvL xs ys
  | .ro xs, .ro ys => D.eqvL xs ys
  | _, _ => false
def D.eqvL : List D → List D → Bool
  | [], [] => true
  | x :: xs, y :: ys => D.eqv x y && D.eqvL xs ys
  | _, _ => false
end
def D.okk (d : D) : Bool := d.flat && decide (d.dep ≤ 64)
mutual
theorem D.py_lay : ∀ d : D, d.flat = true → d.py.canLay0 = true
  | .non, _ => rfl
  | .bl _, _ => rfl
  | .int _, _ => rfl
  | .str x, h => by simpa [D.py, PyData.canLay0, D.flat] using h
  | .tup l, h => by simp only [D.py, PyData.canLay0]; exact D.pyL_lay l (by simpa [D.flat] using h)
  | .lst l, h => by simp only [D.py, PyData.canLay0]; exact D.pyL_lay l (by simpa [D.flat] using h)
  | .ro l, h => by simp [D.flat] at h
  | .cel _, h => by simp [D.flat] at h
  | .dic _ _, h => by simp [D.flat] at h
  | .dcn _ _, h => by simp [D.flat] at h
  | .glo _, h => by simp [D.flat] at h
theorem D.pyL_lay : ∀ l : List D, D.flatL l = true → PyData.canLayAll0 (D.pyL l) = true
  | [], _ => by simp [D.pyL, PyData.canLayAll0]
  | d :: r, h => by
    have h' : d.flat = true ∧ D.flatL r = true := by simpa [D.flatL] using h
    simp [D.pyL, PyData.canLayAll0, D.py_lay d h'.1, D.pyL_lay r h'.2]
end
mutual
theorem D.py_dep : ∀ d : D, d.py.depth = d.dep
  | .non => by simp [D.py, PyData.depth, D.dep]
  | .bl _ => by simp [D.py, PyData.depth, D.dep]
  | .int _ => by simp [D.py, PyData.depth, D.dep]
  | .str x => by simp [D.py, PyData.depth, D.dep]
  | .tup l => by simp [D.py, PyData.depth, D.dep, D.pyL_dep l]
  | .lst l => by simp [D.py, PyData.depth, D.dep, D.pyL_dep l]
  | .ro l => by simp [D.py, PyData.depth, D.dep, D.pyL_dep l]
  | .cel _ => by simp [D.py, PyData.depth, D.dep]
  | .dic _ _ => by simp [D.py, PyData.depth, D.dep]
  | .dcn _ _ => by simp [D.py, PyData.depth, D.dep]
  | .glo _ => by simp [D.py, PyData.depth, D.dep]
theorem D.pyL_dep : ∀ l : List D, PyData.depthAll (D.pyL l) = D.depL l
  | [] => by simp [D.pyL, PyData.depthAll, D.depL]
  | d :: r => by simp [D.pyL, PyData.depthAll, D.depL, D.py_dep d, D.pyL_dep r]
end
theorem D.okk_shaped {d : D} (h : d.okk = true) : SeqAt.shaped d.py = true := by
  unfold D.okk at h
  simp only [Bool.and_eq_true, decide_eq_true_eq] at h
  simp [SeqAt.shaped, D.py_lay d h.1, D.py_dep, h.2]
mutual
theorem D.py_eqv : ∀ a b : D, a.flat = true → b.flat = true → PyData.eqv a.py b.py = D.eqv a b
  | .non, b, _, hb => by cases b <;> simp [D.py, PyData.eqv, D.eqv, D.flat] at hb ⊢
  | .bl _, b, _, hb => by cases b <;> simp [D.py, PyData.eqv, D.eqv, D.flat] at hb ⊢
  | .int _, b, _, hb => by cases b <;> simp [D.py, PyData.eqv, D.eqv, D.flat] at hb ⊢
  | .str x, b, _, hb => by cases b <;> simp [D.py, PyData.eqv, D.eqv, D.flat] at hb ⊢
  | .tup l, b, h, hb => by
    cases b with
    | tup m => simp only [D.py, PyData.eqv, D.eqv]; exact D.pyL_eqv l m (by simpa [D.flat] using h) (by simpa [D.flat] using hb)
    | _ => simp [D.py, PyData.eqv, D.eqv, D.flat] at hb ⊢
  | .lst l, b, h, hb => by
    cases b with
    | lst m => simp only [D.py, PyData.eqv, D.eqv]; exact D.pyL_eqv l m (by simpa [D.flat] using h) (by simpa [D.flat] using hb)
    | _ => simp [D.py, PyData.eqv, D.eqv, D.flat] at hb ⊢
  | .ro l, b, h, hb => by simp [D.flat] at h
  | .cel _, _, h, _ => by simp [D.flat] at h
  | .dic _ _, _, h, _ => by simp [D.flat] at h
  | .dcn _ _, _, h, _ => by simp [D.flat] at h
  | .glo _, _, h, _ => by simp [D.flat] at h
theorem D.pyL_eqv : ∀ l m : List D, D.flatL l = true → D.flatL m = true → PyData.eqvAll (D.pyL l) (D.pyL m) = D.eqvL l m
  | [], [], _, _ => by simp [D.pyL, PyData.eqvAll, D.eqvL]
  | [], _ :: _, _, _ => by simp [D.pyL, PyData.eqvAll, D.eqvL]
  | _ :: _, [], _, _ => by simp [D.pyL, PyData.eqvAll, D.eqvL]
  | x :: l, y :: m, h, k => by
    have h' : x.flat = true ∧ D.flatL l = true := by simpa [D.flatL] using h
    have k' : y.flat = true ∧ D.flatL m = true := by simpa [D.flatL] using k
    simp [D.pyL, PyData.eqvAll, D.eqvL, D.py_eqv x y h'.1 k'.1, D.pyL_eqv l m h'.2 k'.2]
end
theorem D.pyL_at : ∀ (l : List D) (i : Nat), (D.pyL l)[i]? = (l[i]?).map D.py
  | [], i => by simp [D.pyL]
  | d :: r, 0 => by simp [D.pyL]
  | d :: r, i + 1 => by simp [D.pyL, D.pyL_at r i]
theorem D.pyL_len : ∀ l : List D, (D.pyL l).length = l.length
  | [] => rfl
  | d :: r => by simp [D.pyL, D.pyL_len r]
theorem D.flatL_at : ∀ {l : List D} {i : Nat} {d : D}, D.flatL l = true → l[i]? = some d → d.flat = true
  | [], i, d, _, e => by simp at e
  | x :: r, 0, d, h, e => by
    have h' : x.flat = true ∧ D.flatL r = true := by simpa [D.flatL] using h
    simp at e; subst e; exact h'.1
  | x :: r, i + 1, d, h, e => by
    have h' : x.flat = true ∧ D.flatL r = true := by simpa [D.flatL] using h
    exact D.flatL_at h'.2 (by simpa using e)

section
variable {Z : List (Addr × HO)} {K : PySem.W.Frag} {F F' H H' : Hp} {α α' : List Addr} {M M' : Sto}
theorem dpAll_of {H : Hp} : ∀ {xs : List V} {ps : List PyData}, xs.length = ps.length → (∀ (i : Nat) x p, xs[i]? = some x → ps[i]? = some p → Dp K H x p) → DpAll K H xs ps
  | [], [], _, _ => .nil
  | [], _ :: _, h, _ => by simp at h
  | _ :: _, [], h, _ => by simp at h
  | x :: xs, p :: ps, h, q => .cons (q 0 x p rfl rfl) (dpAll_of (by simpa using h) fun i y z a b => q (i + 1) y z (by simpa using a) (by simpa using b))
theorem Rv.dp {v : V} {d : D} (s : Same F H) (r : Rv K F α v d) (h : d.flat = true) : Dp K H v d.py := by
  induction r with
  | non => exact .non
  | bl b => exact .bl b
  | int i => exact .int i
  | str x => exact .str x
  | tup h1 h2 h3 ih =>
    rename_i a xs ds
    simp only [D.py]
    refine .tup (SqT.mono s h1) (dpAll_of (by rw [D.pyL_len]; exact h2) fun i x p e1 e2 => ?_)
    rw [D.pyL_at] at e2
    cases q : ds[i]? with
    | none => rw [q] at e2; simp at e2
    | some d =>
      rw [q] at e2; simp at e2; subst e2
      exact ih i x d e1 q (D.flatL_at (by simpa [D.flat] using h) q)
  | lst h1 h2 h3 ih =>
    rename_i a xs ds
    simp only [D.py]
    refine .lst (SqL.of (s _ _ h1)) (dpAll_of (by rw [D.pyL_len]; exact h2) fun i x p e1 e2 => ?_)
    rw [D.pyL_at] at e2
    cases q : ds[i]? with
    | none => rw [q] at e2; simp at e2
    | some d =>
      rw [q] at e2; simp at e2; subst e2
      exact ih i x d e1 q (D.flatL_at (by simpa [D.flat] using h) q)
  | ro h1 h2 h3 ih => simp [D.flat] at h
  | cel h1 => simp [D.flat] at h
  | dic h1 => simp [D.flat] at h
  | dcn h1 => simp [D.flat] at h
  | glo h1 => simp [D.flat] at h

/-! ### views -/
/-- a changing list seen as it is now -/
def D.now (M : Sto) (d : D) : D := match d with
  | .cel n => match M[n]? with
    | some (.lst ds) => .lst ds
    | _ => d
  | _ => d
/-- the items of a list, as it is now -/
def D.lstV (M : Sto) (d : D) : Option (List D) := match d with
  | .lst ds => some ds
  | .cel n => match M[n]? with
    | some (.lst ds) => some ds
    | _ => none
  | _ => none
theorem lstV_ok {v : V} {d : D} {ds : List D} (w : W K Z F H α M) (r : Rv K F α v d) (h : d.lstV M = some ds) : ∃ a xs, v = .ref a ∧ H a = some (.lst xs) ∧ RvL K F α xs ds := by
  cases d with
  | lst es =>
    cases h
    obtain ⟨a, xs, rfl, h1, h2⟩ := r.of_lst
    exact ⟨a, xs, rfl, w.sub _ _ h1, h2⟩
  | cel n =>
    simp only [D.lstV] at h
    split at h
    · rename_i es he
      cases h
      obtain ⟨a, rfl, ha⟩ := r.of_cel
      obtain ⟨_, _, xs, h1, h2⟩ := w.out n a _ ha he
      exact ⟨a, xs, rfl, h1, h2⟩
    · cases h
  | _ => cases h
/-- the items of a list that may be the script -/
def D.seqV (M : Sto) (d : D) : Option (List D) := match d with
  | .ro ds => some ds
  | d => d.lstV M
theorem seqV_ok {v : V} {d : D} {ds : List D} (w : W K Z F H α M) (r : Rv K F α v d) (h : d.seqV M = some ds) : ∃ a xs, v = .ref a ∧ SqL K H a xs ∧ RvL K F α xs ds := by
  cases d with
  | ro es =>
    cases h
    obtain ⟨a, xs, rfl, h1, h2⟩ := r.of_ro
    exact ⟨a, xs, rfl, w.sub.seq h1, h2⟩
  | _ =>
    obtain ⟨a, xs, e, h1, h2⟩ := lstV_ok w r (by simpa [D.seqV] using h)
    exact ⟨a, xs, e, SqL.of h1, h2⟩
theorem tup_ok {v : V} {ds : List D} (w : W K Z F H α M) (r : Rv K F α v (.tup ds)) : ∃ a xs, v = .ref a ∧ SqT K H a xs ∧ RvL K F α xs ds := by
  obtain ⟨a, xs, e, h1, h2⟩ := r.of_tup
  exact ⟨a, xs, e, SqT.mono w.sub h1, h2⟩
end

section
variable {Z : List (Addr × HO)} {X : Cx} {CT : Nat → Addr} {E : XK}
theorem okQ {F H : Hp} {α : List Addr} {M : Sto} {Q : VK} {d : D} {v : V} (w : W X.K Z F H α M) (k : KO X.K Z CT E F α (QD X.K Q) (okR d M)) (r : Rv X.K F α v d) : Q v H := k F α H w (Same.refl _) (PR _) v r
/-- a new tuple or list, and what follows -/
theorem newQ {F H : Hp} {α : List Addr} {M : Sto} {Q : VK} {d : D} {p : Addr} {o : HO} (w : W X.K Z F H α M) (hp : H p = none) (k : KO X.K Z CT E F α (QD X.K Q) (okR d M)) (r : Same F (upd F p o) → Rv X.K (upd F p o) α (.ref p) d) : Q (.ref p) (upd H p o) :=
  k _ α _ (w.fresh hp o) (Same.upd (w.freeF hp)) (PR _) _ (r (Same.upd (w.freeF hp)))
theorem newCQ {F H : Hp} {α : List Addr} {M : Sto} {Q : VK} {ds : List D} {xs : List V} {p : Addr} (w : W X.K Z F H α M) (hp : H p = none) (k : KO X.K Z CT E F α (QD X.K Q) (okR (.cel M.length) (M ++ [.lst ds]))) (r : RvL X.K F α xs ds) : Q (.ref p) (upd H p (.lst xs)) := by
  refine k F (α ++ [p]) _ (w.alloc hp ⟨xs, upd_same, r.mono (Same.refl _) (List.prefix_append _ _)⟩) (Same.refl _) (List.prefix_append _ _) _ (.cel ?_)
  rw [← w.len]
  simp
/-! ### + -/
def addF : F2 := fun a b M => match a, b with
  | .int i, .int j => okR (.int (i + j)) M
  | .str x, .str y => if x.length + y.length ≤ sizeLine then okR (.str (x ++ y)) M else none
  | .tup xs, .tup ys => if xs.length + ys.length ≤ sizeLine then okR (.tup (xs ++ ys)) M else none
  | a, b => match a.lstV M, b.lstV M with
    | some xs, some ys => if xs.length + ys.length ≤ sizeLine then okR (.lst (xs ++ ys)) M else none
    | _, _ => none
theorem o_add : OpR X (binaryOp .Add) (r2D X.K CT E addF) := by
  refine imp_op (OpR.or op_add (OpR.or op_add_str (OpR.or op_catA op_cat))) fun x y H Q ⟨Z, F, α, M, a, b, w, ra, rb, k⟩ => ?_
  unfold addF at k
  split at k
  · cases ra; cases rb
    exact .inl ⟨_, _, rfl, rfl, okQ w k (.int _)⟩
  · cases ra; cases rb
    split at k
    · exact .inr (.inl ⟨_, _, rfl, rfl, by assumption, okQ w k (.str _)⟩)
    · exact k.elim
  · rename_i ds es
    split at k
    · rename_i hl
      obtain ⟨p, us, rfl, h1, r1⟩ := tup_ok w ra
      obtain ⟨q, vs, rfl, h2, r2⟩ := tup_ok w rb
      refine .inr (.inr (.inl ⟨p, q, us, vs, rfl, rfl, h1, h2, by rw [r1.len, r2.len]; exact hl, fun e => ?_, fun e1 e2 => ?_, fun e1 e2 t ht => ?_⟩))
      · subst e
        obtain rfl : ds = [] := List.length_eq_zero_iff.mp r1.len.symm
        exact okQ w k rb
      · subst e2
        obtain rfl : es = [] := List.length_eq_zero_iff.mp r2.len.symm
        exact okQ w k (by simpa using ra)
      · exact newQ w ht k fun s => .tup' (SqT.of upd_same) ((r1.append r2).mono s (PR _))
    · exact k.elim
  · split at k
    · split at k
      · rename_i xs ys e1 e2 hl
        obtain ⟨p, us, rfl, h1, r1⟩ := lstV_ok w ra e1
        obtain ⟨q, vs, rfl, h2, r2⟩ := lstV_ok w rb e2
        exact .inr (.inr (.inr ⟨p, q, us, vs, rfl, rfl, h1, h2, by rw [r1.len, r2.len]; exact hl, fun t ht => newQ w ht k fun s => .lst' upd_same ((r1.append r2).mono s (PR _))⟩))
      · exact k.elim
    · exact k.elim
/-- list + list, to be changed later -/
def addCF : F2 := fun a b M => match a.lstV M, b.lstV M with
  | some xs, some ys => if xs.length + ys.length ≤ sizeLine then okR (.cel M.length) (M ++ [.lst (xs ++ ys)]) else none
  | _, _ => none
theorem o_addC : OpR X (binaryOp .Add) (r2D X.K CT E addCF) := by
  refine imp_op op_cat fun x y H Q ⟨Z, F, α, M, a, b, w, ra, rb, k⟩ => ?_
  unfold addCF at k
  split at k
  · split at k
    · rename_i xs ys e1 e2 hl
      obtain ⟨p, us, rfl, h1, r1⟩ := lstV_ok w ra e1
      obtain ⟨q, vs, rfl, h2, r2⟩ := lstV_ok w rb e2
      exact ⟨p, q, us, vs, rfl, rfl, h1, h2, by rw [r1.len, r2.len]; exact hl, fun t ht => newCQ w ht k (r1.append r2)⟩
    · exact k.elim
  · exact k.elim
/-! ### ints -/
def intF (C : Int → Int → Bool) (g : Int → Int → D) : F2 := fun a b M => match a, b with
  | .int i, .int j => if C i j = true then okR (g i j) M else none
  | _, _ => none
theorem o_int {f : Value → Value → Sem Value} {C : Int → Int → Bool} {C' : Int → Int → Prop} {g : Int → Int → D} {g' : Int → Int → V} (h : OpR X f (rI C' g')) (hC : ∀ i j, C i j = true → C' i j) (hg : ∀ i j F α, Rv X.K F α (g' i j) (g i j)) : OpR X f (r2D X.K CT E (intF C g)) := by
  refine imp_op h fun x y H Q ⟨Z, F, α, M, a, b, w, ra, rb, k⟩ => ?_
  unfold intF at k
  split at k
  · cases ra; cases rb
    split at k
    · exact ⟨_, _, rfl, rfl, hC _ _ (by assumption), okQ w k (hg _ _ _ _)⟩
    · exact k.elim
  · exact k.elim
theorem o_int0 {f : Value → Value → Sem Value} {g : Int → Int → D} {g' : Int → Int → V} (h : OpR X f (rI0 g')) (hg : ∀ i j F α, Rv X.K F α (g' i j) (g i j)) : OpR X f (r2D X.K CT E (intF (fun _ _ => true) g)) := by
  refine imp_op h fun x y H Q ⟨Z, F, α, M, a, b, w, ra, rb, k⟩ => ?_
  unfold intF at k
  split at k
  · cases ra; cases rb
    exact ⟨_, _, rfl, rfl, okQ w k (hg _ _ _ _)⟩
  · exact k.elim
def subF : F2 := intF (fun _ _ => true) fun i j => .int (i - j)
def modF : F2 := intF (fun _ j => decide (0 < j)) fun i j => .int (i % j)
def fdivF : F2 := intF (fun _ j => decide (0 < j ∧ j < 1073741824)) fun i j => .int (i / j)
def powF : F2 := intF (fun i j => decide (0 ≤ j ∧ j ≤ 1000000 ∧ i.natAbs < 2 ^ 64)) fun i j => .int (i ^ j.toNat)
def ltF : F2 := intF (fun _ _ => true) fun i j => .bl (decide (i < j))
def leF : F2 := intF (fun _ _ => true) fun i j => .bl (decide (i ≤ j))
def gtF : F2 := intF (fun _ _ => true) fun i j => .bl (decide (j < i))
def geF : F2 := intF (fun _ _ => true) fun i j => .bl (decide (j ≤ i))
theorem o_sub : OpR X (binaryOp .Sub) (r2D X.K CT E subF) := o_int0 op_sub fun _ _ _ _ => .int _
theorem o_mod : OpR X (binaryOp .Mod) (r2D X.K CT E modF) := o_int op_mod (fun _ _ h => of_decide_eq_true h) fun _ _ _ _ => .int _
theorem o_fdiv : OpR X (binaryOp .FloorDiv) (r2D X.K CT E fdivF) := o_int op_fdiv (fun _ _ h => by simpa [CDiv] using h) fun _ _ _ _ => .int _
theorem o_pow : OpR X (binaryOp .Pow) (r2D X.K CT E powF) := o_int op_pow (fun _ _ h => by rw [decide_eq_true_eq] at h; exact h) fun _ _ _ _ => .int _
theorem o_lt : OpR X (compareOp .Lt) (r2D X.K CT E ltF) := o_int0 op_lt fun _ _ _ _ => .bl _
theorem o_le : OpR X (compareOp .LtE) (r2D X.K CT E leF) := o_int0 op_le fun _ _ _ _ => .bl _
theorem o_gt : OpR X (compareOp .Gt) (r2D X.K CT E gtF) := o_int0 op_gt fun _ _ _ _ => .bl _
theorem o_ge : OpR X (compareOp .GtE) (r2D X.K CT E geF) := o_int0 op_ge fun _ _ _ _ => .bl _
/-! ### == and != -/
def D.scal : D → D → Option Bool
  | .non, .non => some true | .non, .int _ => some false | .int _, .non => some false | .non, .bl _ => some false | .bl _, .non => some false | .non, .str _ => some false | .str _, .non => some false
  | .int i, .int j => some (decide (i = j)) | .bl i, .bl j => some (decide (i = j)) | .str i, .str j => some (decide (i = j))
  | .int _, .str _ => some false | .str _, .int _ => some false | .bl _, .str _ => some false | .str _, .bl _ => some false
  | _, _ => none
def eqR (a b : D) (M : Sto) : Option Bool := match D.scal a b with
  | some r => some r
  | none => if ((a.now M).okk && (b.now M).okk) = true then some (D.eqv (a.now M) (b.now M)) else none
def eqF : F2 := fun a b M => match eqR a b M with
  | some r => okR (.bl r) M
  | none => none
def neF : F2 := fun a b M => match eqR a b M with
  | some r => okR (.bl (!r)) M
  | none => none
theorem scal_ok {K : PySem.W.Frag} {F : Hp} {α : List Addr} {x y : V} {a b : D} {r : Bool} (ra : Rv K F α x a) (rb : Rv K F α y b) (h : D.scal a b = some r) : L2.scal x y = true ∧ decide (x = y) = r := by
  cases ra <;> cases rb <;> simp [D.scal] at h <;> subst h <;> simp [L2.scal]
theorem now_dp {K : PySem.W.Frag} {F H : Hp} {α : List Addr} {M : Sto} {v : V} {d : D} (w : W K Z F H α M) (r : Rv K F α v d) (h : (d.now M).flat = true) : Dp K H v (d.now M).py := by
  cases d with
  | cel n =>
    simp only [D.now] at h ⊢
    split at h
    · rename_i ds hm
      obtain ⟨a, rfl, ha⟩ := r.of_cel
      obtain ⟨_, _, xs, h1, h2⟩ := w.out n a _ ha hm
      simp only [D.py]
      refine .lst (SqL.of h1) (dpAll_of (by rw [D.pyL_len]; exact h2.1) fun i x p e1 e2 => ?_)
      rw [D.pyL_at] at e2
      cases q : ds[i]? with
      | none => rw [q] at e2; simp at e2
      | some d =>
        rw [q] at e2; simp at e2; subst e2
        exact (h2.2 i x d e1 q).dp w.sub (D.flatL_at (by simpa [D.flat] using h) q)
    · simp [D.flat] at h
  | _ => exact r.dp w.sub h
theorem o_eq (hr : X.A.units + 64 < cLine) : OpR X (compareOp .Eq) (r2D X.K CT E eqF) := by
  refine imp_op (OpR.or op_eq (op_eqD hr)) fun x y H Q ⟨Z, F, α, M, a, b, w, ra, rb, k⟩ => ?_
  unfold eqF eqR at k
  cases e : D.scal a b with
  | some r =>
    simp only [e] at k
    obtain ⟨h1, h2⟩ := scal_ok ra rb e
    exact .inl ⟨h1, by rw [h2]; exact okQ w k (.bl _)⟩
  | none =>
    simp only [e] at k
    by_cases hk : ((a.now M).okk && (b.now M).okk) = true
    · simp only [hk, if_true] at k
      have h' : (a.now M).okk = true ∧ (b.now M).okk = true := by simpa using hk
      have f1 : (a.now M).flat = true := by have := h'.1; unfold D.okk at this; simp at this; exact this.1
      have f2 : (b.now M).flat = true := by have := h'.2; unfold D.okk at this; simp at this; exact this.1
      exact .inr ⟨_, _, now_dp w ra f1, now_dp w rb f2, D.okk_shaped h'.1, D.okk_shaped h'.2, by rw [D.py_eqv _ _ f1 f2]; exact okQ w k (.bl _)⟩
    · simp only [hk] at k
      exact k.elim
theorem o_ne (hr : X.A.units + 64 < cLine) : OpR X (compareOp .NotEq) (r2D X.K CT E neF) := by
  refine imp_op (OpR.or op_ne (op_neD hr)) fun x y H Q ⟨Z, F, α, M, a, b, w, ra, rb, k⟩ => ?_
  unfold neF eqR at k
  cases e : D.scal a b with
  | some r =>
    simp only [e] at k
    obtain ⟨h1, h2⟩ := scal_ok ra rb e
    exact .inl ⟨h1, by rw [h2]; exact okQ w k (.bl _)⟩
  | none =>
    simp only [e] at k
    by_cases hk : ((a.now M).okk && (b.now M).okk) = true
    · simp only [hk, if_true] at k
      have h' : (a.now M).okk = true ∧ (b.now M).okk = true := by simpa using hk
      have f1 : (a.now M).flat = true := by have := h'.1; unfold D.okk at this; simp at this; exact this.1
      have f2 : (b.now M).flat = true := by have := h'.2; unfold D.okk at this; simp at this; exact this.1
      exact .inr ⟨_, _, now_dp w ra f1, now_dp w rb f2, D.okk_shaped h'.1, D.okk_shaped h'.2, by rw [D.py_eqv _ _ f1 f2]; exact okQ w k (.bl _)⟩
    · simp only [hk] at k
      exact k.elim
/-! ### is None, is not None -/
def D.isNon : D → Bool
  | .non => true
  | _ => false
def isNF : F1 := fun a M => okR (.bl a.isNon) M
def notNF : F1 := fun a M => okR (.bl (!a.isNon)) M
theorem isNon_ok {K : PySem.W.Frag} {F : Hp} {α : List Addr} {x : V} {a : D} (ra : Rv K F α x a) : decide (x = .non) = a.isNon := by
  cases ra <;> simp [D.isNon]
variable {a b : Expr} {ga gb : GE} {pos pos' : Pos} {j : Nat}
theorem d_isN (ha : PE X a (tD X.K CT E ga)) : PE X (.Compare a [.Is] [.Constant .none j pos'] pos) (tD X.K CT E (gUn isNF ga)) :=
  imp_e (pe_cmp (pc_isN ha)) fun σ H Q ⟨Z, F, α, δ, M, w, ev, k⟩ => ⟨Z, F, α, δ, M, w, ev, (KO.of_bind k).imp fun F1 α1 d M1 H1 w1 s1 p1 k1 v rv => by
    show Q (.bl (decide (v = .non))) H1
    rw [isNon_ok rv]
    exact okQ w1 k1 (.bl _)⟩
theorem d_notN (ha : PE X a (tD X.K CT E ga)) : PE X (.Compare a [.IsNot] [.Constant .none j pos'] pos) (tD X.K CT E (gUn notNF ga)) :=
  imp_e (pe_cmp (pc_notN ha)) fun σ H Q ⟨Z, F, α, δ, M, w, ev, k⟩ => ⟨Z, F, α, δ, M, w, ev, (KO.of_bind k).imp fun F1 α1 d M1 H1 w1 s1 p1 k1 v rv => by
    show Q (.bl (!decide (v = .non))) H1
    rw [isNon_ok rv]
    exact okQ w1 k1 (.bl _)⟩
/-! ### subscripts -/
def subIx : F2 := fun a b M => match b with
  | .int i => match a with
    | .tup ds => (atI ds i).map (.ok · M)
    | a => match a.seqV M with
      | some ds => (atI ds i).map (.ok · M)
      | none => none
  | _ => none
theorem atI_len {β γ : Type} {xs : List β} {ys : List γ} {i : Int} {y : γ} (h : xs.length = ys.length) (e : atI ys i = some y) : ∃ (j : Nat) (x : β), atI xs i = some x ∧ xs[j]? = some x ∧ ys[j]? = some y := by
  unfold atI at e ⊢
  rw [h]
  cases q : ixN ys.length i with
  | none => rw [q] at e; cases e
  | some j =>
    rw [q] at e
    simp only [Option.bind_some] at e ⊢
    have hj : j < xs.length := by
      rw [h]
      exact (List.getElem?_eq_some_iff.mp e).1
    exact ⟨j, xs[j], List.getElem?_eq_getElem hj, List.getElem?_eq_getElem hj, e⟩
theorem x_seq : IxR X (r2D X.K CT E subIx) := by
  refine imp_ix (IxR.or ix_list ix_tup) fun x y H Q ⟨Z, F, α, M, a, b, w, ra, rb, k⟩ => ?_
  unfold subIx at k
  split at k
  · cases rb
    split at k
    · rename_i ds
      obtain ⟨p, xs, rfl, h1, r1⟩ := tup_ok w ra
      cases e : atI ds _ with
      | none => rw [e] at k; exact k.elim
      | some d =>
        rw [e] at k
        obtain ⟨j, x, e1, e2, e3⟩ := atI_len r1.len e
        exact .inr ⟨p, xs, _, x, rfl, rfl, h1, e1, okQ w k (r1.2 j x d e2 e3)⟩
    · split at k
      · rename_i ds e0
        obtain ⟨p, xs, rfl, h1, r1⟩ := seqV_ok w ra e0
        cases e : atI ds _ with
        | none => rw [e] at k; exact k.elim
        | some d =>
          rw [e] at k
          obtain ⟨j, x, e1, e2, e3⟩ := atI_len r1.len e
          exact .inl ⟨p, xs, _, x, rfl, rfl, h1, e1, okQ w k (r1.2 j x d e2 e3)⟩
      · exact k.elim
  · exact k.elim
/-! ### slices -/
abbrev GO := Ev → Sto → RO (Option Int)
def tDO (K : PySem.W.Frag) (CT : Nat → Addr) (E : XK) (g : GO) : TO := fun σ H Q => ∃ Z F α δ M, W K Z F H α M ∧ EvR K F α σ δ ∧ KO K Z CT E F α (fun _ _ o _ H' => Q o H') (g δ M)
@[simp] def goNone : GO := fun _ M => okR none M
@[simp] def goSome (g : GE) : GO := fun δ M => bindR (g δ M) fun d M1 => match d with
  | .int i => okR (some i) M1
  | _ => none
theorem imp_o {e : Option Expr} {t t' : TO} (h : PO X e t) (w : ∀ σ H Q, t' σ H Q → t σ H Q) : PO X e t' := ⟨fun pins s σ H Q I q => h.run pins s σ H Q I (w _ _ _ q)⟩
theorem do_none : PO X none (tDO X.K CT E goNone) := imp_o po_none fun σ H Q ⟨Z, F, α, δ, M, w, ev, k⟩ => k F α H w (Same.refl _) (PR _)
theorem do_some (h : PE X a (tD X.K CT E ga)) : PO X (some a) (tDO X.K CT E (goSome ga)) := imp_o (po_some h) fun σ H Q ⟨Z, F, α, δ, M, w, ev, k⟩ =>
  ⟨Z, F, α, δ, M, w, ev, (KO.of_bind k).imp fun F1 α1 d M1 H1 w1 s1 p1 k1 v rv => by
    split at k1
    · cases rv
      exact ⟨_, rfl, k1 F1 α1 H1 w1 (Same.refl _) (PR _)⟩
    · exact k1.elim⟩
def cutD (xs : List D) (lo hi : Option Int) : List D := (xs.drop (HT.sIx xs.length 0 lo)).take (HT.sIx xs.length xs.length hi - HT.sIx xs.length 0 lo)
theorem cut_rel {K : PySem.W.Frag} {F : Hp} {α : List Addr} {xs : List V} {ds : List D} (r : RvL K F α xs ds) (lo hi : Option Int) : RvL K F α (cutV xs lo hi) (cutD ds lo hi) := by
  unfold cutV cutD
  rw [r.len]
  exact (r.drop _).take _
abbrev F3 := D → Option Int → Option Int → Sto → RO D
@[simp] def gSlice (f : F3) (g : GE) (lo hi : GO) : GE := fun δ M => bindR (g δ M) fun d M1 => bindR (lo δ M1) fun l M2 => bindR (hi δ M2) fun h M3 => f d l h M3
def r3D (K : PySem.W.Frag) (CT : Nat → Addr) (E : XK) (f : F3) : V → Option Int → Option Int → Hp → VK → Prop := fun x lo hi H Q => ∃ Z F α M a, W K Z F H α M ∧ Rv K F α x a ∧ KO K Z CT E F α (QD K Q) (f a lo hi M)
variable {f3 : F3} {lo hi : Option Expr} {gl gh : GO} {p2 : Pos} {e : Expr} {g : GE}
theorem d_slice (hr : SlR X (r3D X.K CT E f3)) (he : PE X e (tD X.K CT E g)) (hl : PO X lo (tDO X.K CT E gl)) (hu : PO X hi (tDO X.K CT E gh)) : PE X (.Subscript e (.Slice lo hi none p2) pos) (tD X.K CT E (gSlice f3 g gl gh)) :=
  imp_e (pe_slice hr he hl hu) fun σ H Q ⟨Z, F, α, δ, M, w, ev, k⟩ => by
    refine ⟨Z, F, α, δ, M, w, ev, (KO.of_bind k).imp fun F1 α1 d M1 H1 w1 s1 p1 k1 v rv => ?_⟩
    refine ⟨Z, F1, α1, δ, M1, w1, ev.mono s1 p1, (KO.of_bind k1).imp fun F2 α2 l M2 H2 w2 s2 p2 k2 => ?_⟩
    refine ⟨Z, F2, α2, δ, M2, w2, (ev.mono s1 p1).mono s2 p2, (KO.of_bind k2).imp fun F3 α3 h M3 H3 w3 s3 p3 k3 => ?_⟩
    exact ⟨Z, F3, α3, M3, d, w3, rv.mono (s2.trans s3) (p2.trans p3), k3⟩
def slF : F3 := fun d lo hi M => match d with
  | .tup ds => okR (.tup (cutD ds lo hi)) M
  | d => match d.seqV M with
    | some ds => okR (.lst (cutD ds lo hi)) M
    | none => none
theorem s_seq : SlR X (r3D X.K CT E slF) := by
  refine imp_sl (SlR.or sl_tupA sl_list) fun x lo hi H Q ⟨Z, F, α, M, a, w, ra, k⟩ => ?_
  unfold slF at k
  split at k
  · rename_i ds
    obtain ⟨p, xs, rfl, h1, r1⟩ := tup_ok w ra
    refine .inl ⟨p, xs, rfl, h1, fun hw => ?_, fun hw t ht => newQ w ht k fun s => .tup' (SqT.of upd_same) ((cut_rel r1 lo hi).mono s (PR _))⟩
    have e : cutD ds lo hi = ds := by
      unfold cutD
      rw [← r1.len, hw.1, hw.2, r1.len]
      simp
    rw [e] at k
    exact okQ w k ra
  · split at k
    · rename_i ds e0
      obtain ⟨p, xs, rfl, h1, r1⟩ := seqV_ok w ra e0
      exact .inr ⟨p, xs, rfl, h1, fun t ht => newQ w ht k fun s => .lst' upd_same ((cut_rel r1 lo hi).mono s (PR _))⟩
    · exact k.elim
end
end DL
/-! TM: a tuple times a number from 0 on -/
namespace DL
open PySem PySem.Spec PyProof.Rows L2
variable [Pw]
theorem tuple_mul1 (l : Addr) (items : Array Value) (n : Nat) (dd : Option Addr) (sl : Array (Option Value)) (u : Tok) :
    Meets (Builtin.«tuple.__mul__» ⟨[.ref l, .int 1 u], []⟩) (fun _ R s => s.heap.get? l = some { cls := .type "tuple", dict := dd, data := .seq items n, slots := sl } ∧
      R (.ok (.ret (Value.ref l))) s) :=
  .of_wp fun prog w A R s h => by
    obtain ⟨hp, g, d, tk, os⟩ := s
    obtain ⟨hl, h⟩ := h
    have f1 := AutoSeq1.idx_int
    wp_walk using wpAny_loadPart' hl
    exact ⟨_, rfl, h⟩
theorem tuple_mul0 (l : Addr) (items : Array Value) (n : Nat) (dd : Option Addr) (sl : Array (Option Value)) (u : Tok) (c1 : (items.isEmpty || (0 : Int) == 1) = false) :
    Meets (Builtin.«tuple.__mul__» ⟨[.ref l, .int 0 u], []⟩) (fun _ R s => s.heap.get? l = some { cls := .type "tuple", dict := dd, data := .seq items n, slots := sl } ∧
      R (.ok (.ret (Value.ref s.heap.objs.size))) { s with heap := s.heap.push { cls := Value.type "tuple", data := Data.seq #[] }, toks := s.toks }) :=
  .of_wp fun prog w A R s h => by
    obtain ⟨hp, g, d, tk, os⟩ := s
    obtain ⟨hl, h⟩ := h
    have f1 := AutoSeq1.idx_int
    wp_walk using wpAny_loadPart' hl
    repeat (first
      | (refine wpAny_ite_false (decide_eq_false (by rw [c1]; exact Bool.false_ne_true)) ?_; wp_walk using wpAny_loadPart' hl))
    exact ⟨_, rfl, h⟩
/-- a tuple (not empty) times 0, 1, 2 .. -/
def rMulT (K : PySem.W.Frag) : R2 := fun x y H Q => ∃ l k xs, x = .ref l ∧ y = .int k ∧ SqT K H l xs ∧ xs ≠ [] ∧ 0 ≤ k ∧ k ≤ 1000 ∧ xs.length ≤ 1000 ∧ (k = 1 → Q (.ref l) H) ∧ (k ≠ 1 → ∀ p, H p = none → Q (.ref p) (upd H p (.tup (List.replicate k.toNat xs).flatten)))
theorem op_mulT {X : Cx} : OpR X (binaryOp .Mult) (rMulT X.K) := by
  intro pins s σ H x y v u Q I rx ry h
  obtain ⟨l, k, xs, rfl, rfl, hT, hne, h1, h2, hz, q1, q⟩ := h
  by_cases hk : 2 ≤ k
  · exact op_repT pins s σ H _ _ v u Q I rx ry ⟨l, k, xs, rfl, rfl, hT, hne, hk, h2, hz, q (by omega)⟩
  cases rx
  obtain ⟨t, rfl⟩ := ry
  obtain ⟨its, r, ⟨⟨cls, dd, data, sl⟩, ho, hc, n, hd⟩, hs⟩ := I.tuple hT
  simp only at hc hd
  subst hc hd
  have hle : its.length = xs.length := r.length.symm
  have hn : its ≠ [] := fun e => hne (by
    rw [e] at hle
    exact List.eq_nil_of_length_eq_zero hle.symm)
  have hi : its.toArray.isEmpty = false := by
    cases its with
    | nil => exact absurd rfl hn
    | cons a b => rfl
  by_cases h0 : k = 1
  · subst h0
    refine wpAny_binaryOp_repeat_ref (T := "tuple") (U := "int") (by decide) ⟨_, ho, rfl⟩ (fun s' => typeIs_int s' 1 t) noFill_tuple_mul F.fills_int_mul F.slot_int_rmul repeat_tuple F.slot_int_index.lookup
      (call_meets F.slot_int_rmul (typeIs_int s 1 t) F.entry_int_rmul (F.args_int_rmul_2 _ _) (int_rmul_tuple 1 t l its.toArray n dd sl)
        ⟨ho, rfl, ⟨_, ho, rfl⟩, call_meets F.slot_tuple_mul ⟨_, ho, rfl⟩ F.entry_tuple_mul (F.args_tuple_mul_2 _ _) (tuple_mul1 l its.toArray n dd sl t) ⟨ho, ?_⟩⟩)
    exact ⟨.ref l, H, I, rfl, q1 rfl⟩
  · obtain rfl : k = 0 := by omega
    refine wpAny_binaryOp_repeat_ref (T := "tuple") (U := "int") (by decide) ⟨_, ho, rfl⟩ (fun s' => typeIs_int s' 0 t) noFill_tuple_mul F.fills_int_mul F.slot_int_rmul repeat_tuple F.slot_int_index.lookup
      (call_meets F.slot_int_rmul (typeIs_int s 0 t) F.entry_int_rmul (F.args_int_rmul_2 _ _) (int_rmul_tuple 0 t l its.toArray n dd sl)
        ⟨ho, rfl, ⟨_, ho, rfl⟩, call_meets F.slot_tuple_mul ⟨_, ho, rfl⟩ F.entry_tuple_mul (F.args_tuple_mul_2 _ _) (tuple_mul0 l its.toArray n dd sl t (by rw [hi]; rfl)) ⟨ho, ?_⟩⟩)
    refine ⟨.ref s.heap.objs.size, _, I.laid (t' := s.toks) (o := .tup (List.replicate 0 xs).flatten) (fun b ob q => Heap.get?_push_of_some _ q) (Nat.le_refl _) ?_, rfl, q (by decide) _ (I.hok.fresh (Nat.le_refl _))⟩
    exact ⟨by simp, [], .nil, IsTup.new _ _⟩
end DL
namespace DL
open PySem PySem.Spec PyProof.Rows L2
variable [Pw]
section
variable {prog : Program} {w : World} {A : Around} {E : Value → Shared → Prop} {s : Shared}
theorem fm_congr {β γ : Type} {f g : β → Option γ} : ∀ (l : List β), (∀ a ∈ l, f a = g a) → l.filterMap f = l.filterMap g
  | [], _ => rfl
  | a :: l, h => by
    rw [List.filterMap_cons, List.filterMap_cons, h a (List.mem_cons_self), fm_congr l fun b hb => h b (List.mem_cons_of_mem _ hb)]
theorem rev_pick (xs : Array Value) : ((List.range xs.size).filterMap fun (m : Nat) => xs[(((xs.size : Int) - 1) + (m : Int) * (-1)).toNat]?).toArray = xs.toList.reverse.toArray := by
  have e : ((List.range xs.size).filterMap fun (m : Nat) => xs[(((xs.size : Int) - 1) + (m : Int) * (-1)).toNat]?) = xs.toList.reverse := by
    have h1 : ((List.range xs.size).filterMap fun (m : Nat) => xs[(((xs.size : Int) - 1) + (m : Int) * (-1)).toNat]?) = (List.range xs.size).filterMap fun (m : Nat) => xs.toList.reverse[m]? := by
      apply fm_congr
      intro m hm
      have hm' : m < xs.size := List.mem_range.mp hm
      rw [List.getElem?_reverse (by simpa using hm'), Array.length_toList]
      have : (((xs.size : Int) - 1) + (m : Int) * (-1)).toNat = xs.size - 1 - m := by omega
      rw [this, Array.getElem?_toList]
    rw [h1]
    have : ∀ (l : List Value), (List.range l.length).filterMap (fun m => l[m]?) = l := by
      intro l
      induction l with
      | nil => rfl
      | cons a r ih =>
        rw [List.length_cons, List.range_succ_eq_map, List.filterMap_cons]
        simp only [List.getElem?_cons_zero, List.filterMap_map]
        congr 1
    have h2 := this xs.toList.reverse
    simpa using h2
  rw [e]
theorem getItem_tuple_rev {t sl : Addr} {items : Array Value} {vl vu vs : Value} {Q : Value → Shared → Prop} (ht : IsTup s.heap t items) (hs : s.heap.IsSliceOf sl vl vu vs) (pl : IsPart vl none) (pu : IsPart vu none) (ps : IsPart vs (some (-1)))
    (h : Q (.ref s.heap.objs.size) { s with heap := s.heap.push { cls := .type "tuple", data := .seq items.toList.reverse.toArray } })
    (hsz : items.size ≤ sizeLine) : wpAny (model prog w) A (getItem (.ref t) (.ref sl)) Q E s := by
  have htake : sizeOk (.seq items.toList.reverse.toArray) := by
    show items.toList.reverse.toArray.size ≤ sizeLine
    simpa using hsz
  obtain ⟨os, hos, hcs, hds⟩ := id hs
  have hTs : s.TypeIs (.ref sl) "slice" := ⟨os, hos, hcs⟩
  unfold getItem
  try with_reducible refine wpAny_holding ?_
  first | refine wpAny_bind (wpAny_pure ?_) | skip
  refine wpAny_bind (wpAny_sequenceKey ht.typeIs (by decide) ?_)
  refine wpAny_bind (wpAny_callSpecial?_slot (name := Str.ofString "__getitem__") ht.typeIs PyProof.Rows.slot_tuple_getitem
    (wpAny_call_entry PyProof.Rows.slot_tuple_getitem ht.typeIs entry_tuple_getitem ?_ (args_tuple_getitem _ _)))
  show wpAny _ _ (Builtin.Tuple.tupleItemsOf (.ref t) >>= _) _ _ s
  refine wpAny_bind (tupleItemsOf_ ht ?_)
  refine wpAny_bind (wpAny_typeOf hTs ?_)
  rw [if_pos (by decide)]
  have app : ∀ {A' : Around} {Q : Int × Int × Nat → Shared → Prop}, Q ((items.size : Int) - 1, -1, items.size) s → wpAny (model prog w) A' (Builtin.Slice.sliceApplied (.ref sl) (pure (items.size : Int))) Q E s := by
    intro A' Q h
    unfold Builtin.Slice.sliceApplied Builtin.Slice.sliceFields
    refine wpAny_bind (wpAny_bind (wpAny_field hos hds (x := vl) rfl (wpAny_bind (wpAny_field hos hds (x := vu) rfl (wpAny_bind (wpAny_field hos hds (x := vs) rfl (wpAny_pure ?_)))))))
    refine wpAny_bind (HT.slicePart_ ps ?_)
    show wpAny _ _ (if ((-1 : Int) == 0) = true then _ else _) _ _ s
    rw [if_neg (by decide)]
    refine wpAny_bind (HT.slicePart_ pl (wpAny_bind (HT.slicePart_ pu (wpAny_bind (wpAny_pure ?_)))))
    show wpAny _ _ (match Builtin.Slice.sliceAdjust none none (-1) (items.size : Int) with | (lo, hi) => pure (lo, (-1 : Int), Builtin.Slice.slicePlaces lo hi (-1))) _ _ s
    have e1 : Builtin.Slice.sliceAdjust none none (-1) (items.size : Int) = ((items.size : Int) - 1, -1) := rfl
    rw [e1]
    show wpAny _ _ (pure (((items.size : Int) - 1), (-1 : Int), Builtin.Slice.slicePlaces ((items.size : Int) - 1) (-1) (-1))) _ _ s
    have e2 : Builtin.Slice.slicePlaces ((items.size : Int) - 1) (-1) (-1) = items.size := by
      unfold Builtin.Slice.slicePlaces
      rw [if_neg (by decide)]
      by_cases hz : (items.size : Int) - 1 > -1
      · rw [if_pos hz]
        have : ((items.size : Int) - 1 - -1 - 1) / (- -1) = (items.size : Int) - 1 := by
          rw [show (- -1 : Int) = 1 by decide, Int.ediv_one]
          omega
        rw [this]
        omega
      · rw [if_neg hz]
        omega
    rw [e2]
    exact wpAny_pure h
  refine wpAny_bind (app ?_)
  have hno : ¬ (((items.size : Int) - 1 == 0 && (-1 : Int) == 1 && items.size == items.size) = true) := by simp
  show wpAny _ _ (if ((items.size : Int) - 1 == 0 && (-1 : Int) == 1 && items.size == items.size) = true then _ else _) _ _ s
  rw [if_neg hno, rev_pick]
  first
    | exact wpAny_bind (m := Builtin.Tuple.tupleExact _) (wpAny_newObj_type (wpAny_pure ⟨_, rfl, wpAny_pure h⟩) htake)
    | exact wpAny_bind (m := Builtin.Tuple.tupleExact _) (wpAny_newObj_type (wpAny_bind (wpAny_pure (wpAny_pure ⟨_, rfl, wpAny_pure h⟩))) htake)
    | exact wpAny_bind (wpAny_bind (m := Builtin.Tuple.tupleExact _) (wpAny_newObj_type (wpAny_pure (wpAny_pure ⟨_, rfl, wpAny_pure h⟩)) htake))
    | exact wpAny_bind (wpAny_bind (m := Builtin.Tuple.tupleExact _) (wpAny_newObj_type (wpAny_pure ⟨_, rfl, wpAny_pure h⟩) htake))
end
/-- t[::-1] of a tuple, or of a list -/
def tRevA (K : PySem.W.Frag) (te : TE) : TE := fun σ H Q => te σ H fun x H1 => ∃ a xs, x = .ref a ∧ ((SqL K H1 a xs ∧ ∀ p, H1 p = none → Q (.ref p) (upd H1 p (.lst xs.reverse))) ∨ (SqT K H1 a xs ∧ ∀ p, H1 p = none → Q (.ref p) (upd H1 p (.tup xs.reverse))))
theorem pe_revA {X : Cx} {e : Expr} {te : TE} {k : Nat} {p1 p2 p3 pos : Pos} (he : PE X e te) : PE X (.Subscript e (.Slice none none (some (.UnaryOp .USub (.Constant (.int 1) k p1) p2)) p3) pos) (tRevA X.K te) := by
  refine ⟨fun pins s σ H Q I h => ?_⟩
  refine Subscript_ (thn (he.run pins s σ H _ I h) fun v s1 ⟨x, H1, I1, r1, q1⟩ => ?_)
  obtain ⟨a, xs, ex, q1⟩ := q1
  subst ex
  cases r1
  have hst : PO X (some (.UnaryOp .USub (.Constant (.int 1) k p1) p2)) (tPart (tUn (rU fun i => .int (-i)) (tC (.int 1)))) := po_some (pe_un un_neg pe_int)
  refine wpAny_Slice (thn (po_none.run pins s1 σ H1 (fun o H2 => o = none ∧ H2 = H1) I1 ⟨rfl, rfl⟩) fun vl s2 ⟨l, H2, I2, pl, el, e2⟩ => ?_)
  subst el e2
  refine thn (po_none.run pins s2 σ H2 (fun o H3 => o = none ∧ H3 = H2) I2 ⟨rfl, rfl⟩) fun vu s3 ⟨u, H3, I3, pu, eu, e3⟩ => ?_
  subst eu e3
  refine thn (hst.run pins s3 σ H3 (fun o H4 => o = some (-1) ∧ H4 = H3) I3 ⟨1, rfl, -1, rfl, rfl, rfl⟩) fun vs s4 ⟨o, H4, I4, ps, eo, e4⟩ => ?_
  subst eo e4
  have I5 : Inv X pins σ H4 { s4 with heap := s4.heap.push { cls := .type "slice", data := .fields #[vl, vu, vs] } } := I4.kept (t' := s4.toks) fun b ob q => Heap.get?_push_of_some _ q
  show wpAny (model X.prog X.w) X.A (subscriptTail e (.Slice none none (some (.UnaryOp .USub (.Constant (.int 1) k p1) p2)) p3) (.ref a) (.ref s4.heap.objs.size)) (EP X pins σ Q) X.xe { s4 with heap := s4.heap.push { cls := .type "slice", data := .fields #[vl, vu, vs] } }
  rcases q1 with ⟨hx, q⟩ | ⟨hx, q⟩
  · obtain ⟨its, r, ht, hz⟩ := I5.list hx
    have hlen := r.length
    refine tail_any (ops := [.ref a, .ref s4.heap.objs.size]) ht.isList.typeIs (PySem.slot_list_getitem.lookup) ?_ (by with_unfolding_all rfl)
    refine wpAny_getItem_list_slice ht.isList (Heap.IsSliceOf.new _ vl vu vs) pl pu ps (by decide) ?_ (by rw [List.size_toArray]; omega)
    rw [PySem.W.krv_pick]
    refine ⟨.ref _, _, I5.laid (t' := s4.toks) (o := .lst xs.reverse) (fun b ob q => Heap.get?_push_of_some _ q) (Nat.le_refl _) ?_, rfl, q _ (I5.hok.fresh (Nat.le_refl _))⟩
    exact ⟨by rw [List.length_reverse]; exact hz, _, 0, r.reverse, Heap.get?_push_size _ rfl⟩
  · obtain ⟨its, r, ht, hz⟩ := I5.tuple hx
    have hlen := r.length
    refine tail_any (ops := [.ref a, .ref s4.heap.objs.size]) ht.typeIs (PyProof.Rows.slot_tuple_getitem.lookup) ?_ (by with_unfolding_all rfl)
    refine getItem_tuple_rev ht (Heap.IsSliceOf.new _ vl vu vs) pl pu ps ?_ (by rw [List.size_toArray]; omega)
    refine ⟨.ref _, _, I5.laid (t' := s4.toks) (o := .tup xs.reverse) (fun b ob q => Heap.get?_push_of_some _ q) (Nat.le_refl _) ?_, rfl, q _ (I5.hok.fresh (Nat.le_refl _))⟩
    exact ⟨by rw [List.length_reverse]; exact hz, _, by simpa using r.reverse, IsTup.new _ _⟩
end DL
/-! DL5: built-ins, comprehensions, zip, raise, changing lists -/
namespace DL
open PySem PySem.Spec L2
variable [Pw]

section
variable {Z : List (Addr × HO)} {X : Cx} {CT : Nat → Addr} {E : XK} {k : Nat} {e a b : Expr} {es : List Expr} {g ga gb : GE} {gl : GA} {pos p q : Pos} {x : Str}
/-! ### isinstance -/
/-- the name of a value's built-in type -/
def D.tyN (M : Sto) : D → Option String
  | .non => some "NoneType" | .bl _ => some "bool" | .int _ => some "int" | .str _ => some "str" | .tup _ => some "tuple" | .lst _ => some "list" | .ro _ => some "list"
  | .cel n => match M[n]? with
    | some (.lst _) => some "list"
    | _ => none
  | .dic _ _ => none
  | .dcn _ _ => none
  | .glo _ => none
/-- whether the one built-in type is the other or below it -/
def subTy (t T : String) : Bool := t == T || (t == "bool" && T == "int")
def tyOk (T : String) : Bool := ["NoneType", "bool", "int", "str", "tuple", "list"].all fun t => match kitB t T with
  | some b => b == subTy t T
  | none => false
theorem tyOk_kit {t T : String} (h : tyOk T = true) (ht : t ∈ ["NoneType", "bool", "int", "str", "tuple", "list"]) {K : PySem.W.Frag} : PySem.W.kitOne K (.type t) (.type T) = some (subTy t T) := by
  have := List.all_eq_true.mp h t ht
  split at this
  · rename_i b hb
    have e : b = subTy t T := by simpa using this
    subst e
    exact kit_ty hb
  · cases this
theorem tyN_ok {K : PySem.W.Frag} {F H : Hp} {α : List Addr} {M : Sto} {v : V} {d : D} {t : String} (w : W K Z F H α M) (r : Rv K F α v d) (h : d.tyN M = some t) : TyX K H v (.type t) ∧ t ∈ ["NoneType", "bool", "int", "str", "tuple", "list"] := by
  cases r with
  | non => cases h; exact ⟨.base .non, by simp⟩
  | bl b => cases h; exact ⟨.base (.bl _), by simp⟩
  | int i => cases h; exact ⟨.base (.int _), by simp⟩
  | str x => cases h; exact ⟨.base (.str _), by simp⟩
  | tup h1 _ _ =>
    cases h
    refine ⟨?_, by simp⟩
    rcases h1 with (h1 | ⟨o, h1⟩) | ⟨o, its, n, h1, h2, _⟩
    · exact .base (.tup (w.sub _ _ h1))
    · exact .fTuple (w.sub _ _ h1)
    · exact .kTuple h1 h2
  | lst h1 _ _ => cases h; exact ⟨.base (.lst (w.sub _ _ h1)), by simp⟩
  | ro h1 _ _ =>
    cases h
    refine ⟨?_, by simp⟩
    rcases h1 with (h1 | ⟨o, h1⟩) | ⟨o, its, n, h1, h2, _⟩
    · exact .base (.lst (w.sub _ _ h1))
    · exact .base (.frz (w.sub _ _ h1))
    · exact .kList h1 h2
  | cel h1 =>
    simp only [D.tyN] at h
    split at h
    · rename_i ds hm
      cases h
      obtain ⟨_, _, xs, h2, _⟩ := w.out _ _ _ h1 hm
      exact ⟨.base (.lst h2), by simp⟩
    · cases h
  | dic h1 => cases h
  | dcn h1 => cases h
  | glo h1 => cases h
def isiF (T : String) : F1 := fun d M => match d.tyN M with
  | some t => okR (.bl (subTy t T)) M
  | none => none
def isi2F (T U : String) : F1 := fun d M => match d.tyN M with
  | some t => okR (.bl (subTy t T || subTy t U)) M
  | none => none
theorem d_isi {y : Str} {T : String} (hg : Gl X "isinstance") (hm : X.mg "isinstance" = none) (hg2 : Gl X y) (hm2 : X.mg y = none) (hv2 : bootBuiltins y = some (.type T)) (hT : tyOk T = true) (he : PE X e (tD X.K CT E g)) (hn2 : y ≠ "__name__" := by decide) (hd2 : (y == ("__debug__" : Str)) = false := by decide)
    (hs : starEach [e, .Name y q] X.env = (false, eval e X.env) :: starEach [.Name y q] X.env := by rfl) (hs2 : starEach [.Name y q] X.env = (false, eval (.Name y q) X.env) :: starEach [] X.env := by rfl) (hpl : (backTo pos (starEach [.Name y q] X.env)).any (·.1) = false := by rfl) :
    PE X (.Call (.Name "isinstance" p) [e, .Name y q] [] pos) (tD X.K CT E (gUn (isiF T) g)) := by
  refine imp_e (pe_callB call_isi hg hm (by decide +kernel) (pa_cons he (pa_cons (pe_bltn (v := .ty T) hg2 hm2 hv2 rfl hn2 hd2) pa_nil hs2) hs) (by decide) (by decide) hs hpl) fun σ H Q ⟨Z, F, α, δ, M, w, ev, k⟩ => ?_
  refine ⟨Z, F, α, δ, M, w, ev, (KO.of_bind k).imp fun F1 α1 d M1 H1 w1 s1 p1 k1 v rv => ?_⟩
  unfold isiF at k1
  split at k1
  · rename_i t ht
    obtain ⟨h1, h2⟩ := tyN_ok w1 rv ht
    exact ⟨v, .ty T, _, _, _, rfl, .ty T, h1, tyOk_kit hT h2, okQ w1 k1 (.bl _)⟩
  · exact k1.elim
theorem d_isi2 {y z : Str} {T U : String} {q2 q3 : Pos} {j : Nat} (hg : Gl X "isinstance") (hm : X.mg "isinstance" = none) (hg2 : Gl X y) (hm2 : X.mg y = none) (hv2 : bootBuiltins y = some (.type T)) (hT : tyOk T = true)
    (hg3 : Gl X z) (hm3 : X.mg z = none) (hv3 : bootBuiltins z = some (.type U)) (hU : tyOk U = true) (he : PE X e (tD X.K CT E g)) (hn2 : y ≠ "__name__" := by decide) (hd2 : (y == ("__debug__" : Str)) = false := by decide) (hn3 : z ≠ "__name__" := by decide) (hd3 : (z == ("__debug__" : Str)) = false := by decide)
    (hs : starEach [e, .Tuple [.Name y q, .Name z q2] j q3] X.env = (false, eval e X.env) :: starEach [.Tuple [.Name y q, .Name z q2] j q3] X.env := by rfl)
    (hs2 : starEach [.Tuple [.Name y q, .Name z q2] j q3] X.env = (false, eval (.Tuple [.Name y q, .Name z q2] j q3) X.env) :: starEach [] X.env := by rfl)
    (hs3 : starEach [.Name y q, .Name z q2] X.env = (false, eval (.Name y q) X.env) :: starEach [.Name z q2] X.env := by rfl) (hs4 : starEach [.Name z q2] X.env = (false, eval (.Name z q2) X.env) :: starEach [] X.env := by rfl)
    (hpl : (backTo pos (starEach [.Tuple [.Name y q, .Name z q2] j q3] X.env)).any (·.1) = false := by rfl) :
    PE X (.Call (.Name "isinstance" p) [e, .Tuple [.Name y q, .Name z q2] j q3] [] pos) (tD X.K CT E (gUn (isi2F T U) g)) := by
  refine imp_e (pe_callB call_isiT hg hm (by decide +kernel) (pa_cons he (pa_cons (pe_tup (pa_cons (pe_bltn (v := .ty T) hg2 hm2 hv2 rfl hn2 hd2) (pa_cons (pe_bltn (v := .ty U) hg3 hm3 hv3 rfl hn3 hd3) pa_nil hs4) hs3)) pa_nil hs2) hs) (by decide) (by decide) hs hpl) fun σ H Q ⟨Z, F, α, δ, M, w, ev, k⟩ => ?_
  refine ⟨Z, F, α, δ, M, w, ev, (KO.of_bind k).imp fun F1 α1 d M1 H1 w1 s1 p1 k1 v rv => ?_⟩
  unfold isi2F at k1
  split at k1
  · rename_i t ht
    refine ⟨by show 2 ≤ sizeLine; decide, fun tp htp => ?_⟩
    have w2 := w1.fresh htp (.tup [.ty T, .ty U])
    have s2 := Same.upd (o := .tup [.ty T, .ty U]) (w1.freeF htp)
    have rv2 := rv.mono s2 (PR _)
    obtain ⟨h1, h2⟩ := tyN_ok w2 rv2 ht
    refine ⟨v, tp, _, _, _, _, rfl, upd_same, .cons (.ty T) (.cons (.ty U) .nil), h1, ?_, okQ w2 (KO.mono s2 (PR _) k1) (.bl _)⟩
    refine kitAny_cons (tyOk_kit hT h2) (fun e => kitAny_cons (b := subTy t U) (tyOk_kit hU h2) (fun e2 => ?_) fun e2 => ?_) fun e => by simp [e]
    · rw [e, e2]
      exact kitAny_nil
    · simp [e2]
  · exact k1.elim

/-! ### len, abs, min, max, int, list, tuple, all, any -/
def lenF : FL := fun ds M => match ds with
  | [.str x] => if x.length ≤ sizeLine then okR (.int x.length) M else none
  | [.tup l] => okR (.int l.length) M
  | [d] => match d.seqV M with
    | some l => okR (.int l.length) M
    | none => none
  | _ => none
theorem c_len : CallR X (.builtin "len") (rLD X.K CT E lenF) := imp_call call_len fun xs H Q ⟨Z, F, α, M, ds, w, r, k⟩ => by
  unfold lenF at k
  split at k
  · obtain ⟨v, t, rfl, r1, r2⟩ := r.of_cons
    obtain rfl := r2.of_nil
    cases r1
    split at k
    · exact ⟨_, _, rfl, ⟨by assumption, rfl⟩, okQ w k (.int _)⟩
    · exact k.elim
  · obtain ⟨v, t, rfl, r1, r2⟩ := r.of_cons
    obtain rfl := r2.of_nil
    obtain ⟨p, xs, rfl, h1, h2⟩ := tup_ok w r1
    exact ⟨_, _, rfl, .inr ⟨xs, h1, rfl⟩, by rw [h2.len]; exact okQ w k (.int _)⟩
  · obtain ⟨v, t, rfl, r1, r2⟩ := r.of_cons
    obtain rfl := r2.of_nil
    split at k
    · rename_i l hl
      obtain ⟨p, xs, rfl, h1, h2⟩ := seqV_ok w r1 hl
      exact ⟨_, _, rfl, .inl ⟨xs, h1, rfl⟩, by rw [h2.len]; exact okQ w k (.int _)⟩
    · exact k.elim
  · exact k.elim
def absF : FL := fun ds M => match ds with
  | [.int i] => okR (.int (if i < 0 then -i else i)) M
  | _ => none
theorem c_abs : CallR X (.builtin "abs") (rLD X.K CT E absF) := imp_call call_abs fun xs H Q ⟨Z, F, α, M, ds, w, r, k⟩ => by
  unfold absF at k
  split at k
  · obtain ⟨v, t, rfl, r1, r2⟩ := r.of_cons
    obtain rfl := r2.of_nil
    cases r1
    exact ⟨_, rfl, okQ w k (.int _)⟩
  · exact k.elim
def minF : FL := fun ds M => match ds with
  | [.int i, .int j] => okR (.int (if j < i then j else i)) M
  | _ => none
def maxF : FL := fun ds M => match ds with
  | [.int i, .int j] => okR (.int (if j > i then j else i)) M
  | _ => none
theorem c_min (hc : X.calm = true) : CallR X (.builtin "min") (rLD X.K CT E minF) := imp_call (call_min2 hc) fun xs H Q ⟨Z, F, α, M, ds, w, r, k⟩ => by
  unfold minF at k
  split at k
  · obtain ⟨v, t, rfl, r1, r2⟩ := r.of_cons
    obtain ⟨v2, t2, rfl, r3, r4⟩ := r2.of_cons
    obtain rfl := r4.of_nil
    cases r1; cases r3
    exact ⟨_, _, rfl, okQ w k (.int _)⟩
  · exact k.elim
theorem c_max (hc : X.calm = true) : CallR X (.builtin "max") (rLD X.K CT E maxF) := imp_call (call_max2 hc) fun xs H Q ⟨Z, F, α, M, ds, w, r, k⟩ => by
  unfold maxF at k
  split at k
  · obtain ⟨v, t, rfl, r1, r2⟩ := r.of_cons
    obtain ⟨v2, t2, rfl, r3, r4⟩ := r2.of_cons
    obtain rfl := r4.of_nil
    cases r1; cases r3
    exact ⟨_, _, rfl, okQ w k (.int _)⟩
  · exact k.elim
def toIntF : FL := fun ds M => match ds with
  | [.int i] => okR (.int i) M
  | [.bl c] => okR (.int (if c then 1 else 0)) M
  | _ => none
theorem c_int : CallR X (.type "int") (rLD X.K CT E toIntF) := imp_call call_int1 fun xs H Q ⟨Z, F, α, M, ds, w, r, k⟩ => by
  unfold toIntF at k
  split at k
  · obtain ⟨v, t, rfl, r1, r2⟩ := r.of_cons
    obtain rfl := r2.of_nil
    cases r1
    exact .inl ⟨_, rfl, okQ w k (.int _)⟩
  · obtain ⟨v, t, rfl, r1, r2⟩ := r.of_cons
    obtain rfl := r2.of_nil
    cases r1
    exact .inr ⟨_, rfl, okQ w k (.int _)⟩
  · exact k.elim
/-- the items of a list or a tuple -/
def D.itsV (M : Sto) (d : D) : Option (List D) := match d with
  | .tup l => some l
  | d => d.seqV M
theorem itsV_ok {K : PySem.W.Frag} {F H : Hp} {α : List Addr} {M : Sto} {v : V} {d : D} {ds : List D} (w : W K Z F H α M) (r : Rv K F α v d) (h : d.itsV M = some ds) : ∃ a xs, v = .ref a ∧ (SqL K H a xs ∨ SqT K H a xs) ∧ RvL K F α xs ds := by
  cases d with
  | tup l =>
    cases h
    obtain ⟨a, xs, e, h1, h2⟩ := tup_ok w r
    exact ⟨a, xs, e, .inr h1, h2⟩
  | _ =>
    obtain ⟨a, xs, e, h1, h2⟩ := seqV_ok w r (by simpa [D.itsV] using h)
    exact ⟨a, xs, e, .inl h1, h2⟩
def listF : FL := fun ds M => match ds with
  | [d] => match d.itsV M with
    | some l => okR (.lst l) M
    | none => none
  | _ => none
def listCF : FL := fun ds M => match ds with
  | [d] => match d.itsV M with
    | some l => okR (.cel M.length) (M ++ [.lst l])
    | none => none
  | _ => none
theorem c_list : CallR X (.type "list") (rLD X.K CT E listF) := imp_call call_list_of fun xs H Q ⟨Z, F, α, M, ds, w, r, k⟩ => by
  unfold listF at k
  split at k
  · obtain ⟨v, t, rfl, r1, r2⟩ := r.of_cons
    obtain rfl := r2.of_nil
    split at k
    · rename_i l hl
      obtain ⟨a, xs, rfl, h1, h2⟩ := itsV_ok w r1 hl
      exact ⟨a, xs, rfl, h1, fun l hl => newQ w hl k fun s => .lst' upd_same (h2.mono s (PR _))⟩
    · exact k.elim
  · exact k.elim
theorem c_listC : CallR X (.type "list") (rLD X.K CT E listCF) := imp_call call_list_of fun xs H Q ⟨Z, F, α, M, ds, w, r, k⟩ => by
  unfold listCF at k
  split at k
  · obtain ⟨v, t, rfl, r1, r2⟩ := r.of_cons
    obtain rfl := r2.of_nil
    split at k
    · rename_i l hl
      obtain ⟨a, xs, rfl, h1, h2⟩ := itsV_ok w r1 hl
      exact ⟨a, xs, rfl, h1, fun l hl => newCQ w hl k h2⟩
    · exact k.elim
  · exact k.elim
def tupleF : FL := fun ds M => match ds with
  | [.tup l] => okR (.tup l) M
  | [d] => match d.seqV M with
    | some l => okR (.tup l) M
    | none => none
  | _ => none
theorem c_tuple : CallR X (.type "tuple") (rLD X.K CT E tupleF) := imp_call call_tuple_of fun xs H Q ⟨Z, F, α, M, ds, w, r, k⟩ => by
  unfold tupleF at k
  split at k
  · obtain ⟨v, t, rfl, r1, r2⟩ := r.of_cons
    obtain rfl := r2.of_nil
    obtain ⟨a, xs, rfl, h1, h2⟩ := tup_ok w r1
    exact ⟨a, xs, rfl, .inr ⟨h1, okQ w k r1⟩⟩
  · obtain ⟨v, t, rfl, r1, r2⟩ := r.of_cons
    obtain rfl := r2.of_nil
    split at k
    · rename_i l hl
      obtain ⟨a, xs, rfl, h1, h2⟩ := seqV_ok w r1 hl
      exact ⟨a, xs, rfl, .inl ⟨h1, fun l hl => newQ w hl k fun s => .tup' (SqT.of upd_same) (h2.mono s (PR _))⟩⟩
    · exact k.elim
  · exact k.elim
/-- a list of truth values -/
def blsOf : List D → Option (List Bool)
  | [] => some []
  | .bl b :: r => (blsOf r).map (b :: ·)
  | _ => none
theorem blsOf_ok {K : PySem.W.Frag} {F : Hp} {α : List Addr} : ∀ {xs : List V} {ds : List D} {bs : List Bool}, RvL K F α xs ds → blsOf ds = some bs → xs = bs.map V.bl
  | xs, [], bs, r, h => by cases h; rw [r.of_nil]; rfl
  | xs, d :: ds, bs, r, h => by
    obtain ⟨v, t, rfl, r1, r2⟩ := r.of_cons
    cases d <;> simp [blsOf] at h
    obtain ⟨cs, h1, rfl⟩ := h
    cases r1
    rw [blsOf_ok r2 h1]
    rfl
def allF : FL := fun ds M => match ds with
  | [d] => match (d.seqV M).bind blsOf with
    | some bs => okR (.bl (bs.all id)) M
    | none => none
  | _ => none
def anyF : FL := fun ds M => match ds with
  | [d] => match (d.seqV M).bind blsOf with
    | some bs => okR (.bl (bs.any id)) M
    | none => none
  | _ => none
theorem c_all (hc : X.calm = true) : CallR X (.builtin "all") (rLD X.K CT E allF) := imp_call (cr_all hc) fun xs H Q ⟨Z, F, α, M, ds, w, r, k⟩ => by
  unfold allF at k
  split at k
  · obtain ⟨v, t, rfl, r1, r2⟩ := r.of_cons
    obtain rfl := r2.of_nil
    split at k
    · rename_i bs hb
      obtain ⟨l, hl, hb⟩ := Option.bind_eq_some_iff.mp hb
      obtain ⟨a, xs, rfl, h1, h2⟩ := seqV_ok w r1 hl
      rw [blsOf_ok h2 hb] at h1
      exact ⟨a, bs, rfl, h1, okQ w k (.bl _)⟩
    · exact k.elim
  · exact k.elim
theorem c_any (hc : X.calm = true) : CallR X (.builtin "any") (rLD X.K CT E anyF) := imp_call (cr_any hc) fun xs H Q ⟨Z, F, α, M, ds, w, r, k⟩ => by
  unfold anyF at k
  split at k
  · obtain ⟨v, t, rfl, r1, r2⟩ := r.of_cons
    obtain rfl := r2.of_nil
    split at k
    · rename_i bs hb
      obtain ⟨l, hl, hb⟩ := Option.bind_eq_some_iff.mp hb
      obtain ⟨a, xs, rfl, h1, h2⟩ := seqV_ok w r1 hl
      rw [blsOf_ok h2 hb] at h1
      exact ⟨a, bs, rfl, h1, okQ w k (.bl _)⟩
    · exact k.elim
  · exact k.elim
/-! ### -x, * -/
def negF : F1 := fun a M => match a with
  | .int i => okR (.int (-i)) M
  | _ => none
theorem d_neg (ha : PE X a (tD X.K CT E ga)) : PE X (.UnaryOp .USub a pos) (tD X.K CT E (gUn negF ga)) :=
  imp_e (pe_un un_neg ha) fun σ H Q ⟨Z, F, α, δ, M, w, ev, k⟩ => ⟨Z, F, α, δ, M, w, ev, (KO.of_bind k).imp fun F1 α1 d M1 H1 w1 s1 p1 k1 v rv => by
    unfold negF at k1
    split at k1
    · cases rv
      exact ⟨_, rfl, okQ w1 k1 (.int _)⟩
    · exact k1.elim⟩
def mulF : F2 := fun a b M => match a, b with
  | .int i, .int j => if (-(2 ^ 64) < i ∧ i < 2 ^ 64) ∨ (-(2 ^ 64) < j ∧ j < 2 ^ 64) then okR (.int (i * j)) M else none
  | .tup l, .int j => if l ≠ [] ∧ 0 ≤ j ∧ j ≤ 1000 ∧ l.length ≤ 1000 then okR (.tup (List.replicate j.toNat l).flatten) M else none
  | a, .int j => match a.lstV M with
    | some l => if -(2 ^ 63) ≤ j ∧ j < 2 ^ 63 ∧ l.length * j.toNat ≤ sizeLine then okR (.lst (List.replicate j.toNat l).flatten) M else none
    | none => none
  | _, _ => none
theorem RvL.rep {K : PySem.W.Frag} {F : Hp} {α : List Addr} {xs : List V} {ds : List D} (h : RvL K F α xs ds) : ∀ n : Nat, RvL K F α (List.replicate n xs).flatten (List.replicate n ds).flatten
  | 0 => .nil
  | n + 1 => by
    simp only [List.replicate_succ, List.flatten_cons]
    exact h.append (RvL.rep h n)
theorem o_mul : OpR X (binaryOp .Mult) (r2D X.K CT E mulF) := by
  refine imp_op (OpR.or op_mul (OpR.or op_mulT op_rep)) fun x y H Q ⟨Z, F, α, M, a, b, w, ra, rb, k⟩ => ?_
  unfold mulF at k
  split at k
  · cases ra; cases rb
    split at k
    · exact .inl ⟨_, _, rfl, rfl, by assumption, okQ w k (.int _)⟩
    · exact k.elim
  · rename_i l j
    cases rb
    split at k
    · rename_i hc
      obtain ⟨p, xs, rfl, h1, h2⟩ := tup_ok w ra
      refine .inr (.inl ⟨p, _, xs, rfl, rfl, h1, fun e => hc.1 ?_, hc.2.1, hc.2.2.1, h2.len ▸ hc.2.2.2, fun e => ?_, fun e t ht => newQ w ht k fun s => .tup' (SqT.of upd_same) ((h2.rep _).mono s (PR _))⟩)
      · have := h2.len
        rw [e] at this
        exact List.length_eq_zero_iff.mp this.symm
      · subst e
        exact okQ w k (by simpa using ra)
    · exact k.elim
  · cases rb
    split at k
    · rename_i l hl
      split at k
      · rename_i hc
        obtain ⟨p, xs, rfl, h1, h2⟩ := lstV_ok w ra hl
        exact .inr (.inr ⟨p, _, xs, rfl, rfl, h1, hc.1, hc.2.1, h2.len ▸ hc.2.2, fun t ht => newQ w ht k fun s => .lst' upd_same ((h2.rep _).mono s (PR _))⟩)
      · exact k.elim
    · exact k.elim
  · exact k.elim
/-! ### in, not in -/
def D.isScal : D → Bool
  | .non => true | .bl _ => true | .int _ => true | .str _ => true
  | _ => false
def inR (a b : D) (M : Sto) : Option Bool := match b.itsV M with
  | some ds => if (a.isScal && ds.all D.isScal) = true then some (ds.any fun z => D.eqv z a)
    else match b with
      | .tup _ => none
      | _ => if (a.okk && (D.lst ds).okk) = true then some (ds.any fun z => D.eqv z a) else none
  | none => none
def inF : F2 := fun a b M => match inR a b M with
  | some r => okR (.bl r) M
  | none => none
def notInF : F2 := fun a b M => match inR a b M with
  | some r => okR (.bl (!r)) M
  | none => none
theorem scal_flat {K : PySem.W.Frag} {F : Hp} {α : List Addr} {v : V} {d : D} (r : Rv K F α v d) (h : d.isScal = true) : flatV v = true := by cases r <;> simp [D.isScal] at h <;> rfl
theorem scal_eqV {K : PySem.W.Frag} {F : Hp} {α : List Addr} {v u : V} {d e : D} (r : Rv K F α v d) (r' : Rv K F α u e) (h : d.isScal = true) (h' : e.isScal = true) : eqV v u = D.eqv d e := by
  cases r <;> simp [D.isScal] at h <;> cases r' <;> simp [D.isScal] at h' <;> simp [eqV, D.eqv]
theorem scal_any {K : PySem.W.Frag} {F : Hp} {α : List Addr} {u : V} {a : D} (r' : Rv K F α u a) (h' : a.isScal = true) : ∀ {xs : List V} {ds : List D}, RvL K F α xs ds → ds.all D.isScal = true → xs.all flatV = true ∧ inV u xs = ds.any fun z => D.eqv z a
  | xs, [], r, _ => by rw [r.of_nil]; exact ⟨rfl, rfl⟩
  | xs, d :: ds, r, h => by
    obtain ⟨v, t, rfl, r1, r2⟩ := r.of_cons
    have h2 : d.isScal = true ∧ ds.all D.isScal = true := by simpa using h
    obtain ⟨q1, q2⟩ := scal_any r' h' r2 h2.2
    refine ⟨by simp [q1, scal_flat r1 h2.1], ?_⟩
    unfold inV at q2 ⊢
    rw [List.any_cons, List.any_cons, q2, scal_eqV r1 r' h2.1 h']
theorem pyL_any {a : D} (ha : a.flat = true) : ∀ {ds : List D}, D.flatL ds = true → ((D.pyL ds).any fun z => PyData.eqv z a.py) = ds.any fun z => D.eqv z a
  | [], _ => rfl
  | d :: ds, h => by
    have h2 : d.flat = true ∧ D.flatL ds = true := by simpa [D.flatL] using h
    simp only [D.pyL, List.any_cons]
    rw [pyL_any ha h2.2, D.py_eqv _ _ h2.1 ha]
theorem okk_flat {d : D} (h : d.okk = true) : d.flat = true := by unfold D.okk at h; simp at h; exact h.1
theorem in_core {F H : Hp} {α : List Addr} {M : Sto} {x y : V} {a b : D} {r : Bool} (w : W X.K Z F H α M) (ra : Rv X.K F α x a) (rb : Rv X.K F α y b) (e : inR a b M = some r) :
    (∃ p xs, y = .ref p ∧ (SqL X.K H p xs ∨ SqT X.K H p xs) ∧ flatV x = true ∧ xs.all flatV = true ∧ inV x xs = r) ∨
    (∃ d ds, Dp X.K H x d ∧ Dp X.K H y (.list ds) ∧ SeqAt.shaped d = true ∧ SeqAt.shaped (.list ds) = true ∧ (ds.any fun z => PyData.eqv z d) = r) := by
  unfold inR at e
  split at e
  · rename_i ds hd
    split at e
    · rename_i hc
      cases e
      have hc' : a.isScal = true ∧ ds.all D.isScal = true := by simpa using hc
      obtain ⟨p, xs, rfl, h1, h2⟩ := itsV_ok w rb hd
      obtain ⟨q1, q2⟩ := scal_any ra hc'.1 h2 hc'.2
      exact .inl ⟨p, xs, rfl, h1, scal_flat ra hc'.1, q1, q2⟩
    · split at e
      · cases e
      · rename_i hnt
        split at e
        · rename_i hc
          cases e
          have hc' : a.okk = true ∧ (D.lst ds).okk = true := by simpa using hc
          have hd' : b.seqV M = some ds := by
            cases b with
            | tup l => exact absurd rfl (hnt l)
            | _ => simpa [D.itsV] using hd
          obtain ⟨p, xs, rfl, h1, h2⟩ := seqV_ok w rb hd'
          have f2 := okk_flat hc'.2
          refine .inr ⟨a.py, D.pyL ds, ra.dp w.sub (okk_flat hc'.1), ?_, D.okk_shaped hc'.1, by simpa [D.py] using D.okk_shaped hc'.2, pyL_any (okk_flat hc'.1) (by simpa [D.flat] using f2)⟩
          refine .lst h1 (dpAll_of (by rw [D.pyL_len]; exact h2.1) fun i x p e1 e2 => ?_)
          rw [D.pyL_at] at e2
          cases q : ds[i]? with
          | none => rw [q] at e2; simp at e2
          | some d =>
            rw [q] at e2; simp at e2; subst e2
            exact (h2.2 i x d e1 q).dp w.sub (D.flatL_at (by simpa [D.flat] using f2) q)
        · cases e
  · cases e
theorem o_in (hr : X.A.units + 65 < cLine) : OpR X (compareOp .In) (r2D X.K CT E inF) := by
  refine imp_op (OpR.or op_in_seq (op_inD hr)) fun x y H Q ⟨Z, F, α, M, a, b, w, ra, rb, k⟩ => ?_
  unfold inF at k
  cases e : inR a b M with
  | none => rw [e] at k; exact k.elim
  | some r =>
    rw [e] at k
    have fin : Q (.bl r) H := okQ w k (.bl _)
    rcases in_core w ra rb e with ⟨p, xs, rfl, h1, h2, h3, rfl⟩ | ⟨d, ds, h1, h2, h3, h4, rfl⟩
    · exact .inl ⟨p, xs, rfl, h1, h2, h3, fin⟩
    · exact .inr ⟨d, ds, h1, h2, h3, h4, fin⟩
theorem o_notIn (hr : X.A.units + 65 < cLine) : OpR X (compareOp .NotIn) (r2D X.K CT E notInF) := by
  refine imp_op (OpR.or op_notIn_seq (op_notInD hr)) fun x y H Q ⟨Z, F, α, M, a, b, w, ra, rb, k⟩ => ?_
  unfold notInF at k
  cases e : inR a b M with
  | none => rw [e] at k; exact k.elim
  | some r =>
    rw [e] at k
    have fin : Q (.bl (!r)) H := okQ w k (.bl _)
    rcases in_core w ra rb e with ⟨p, xs, rfl, h1, h2, h3, rfl⟩ | ⟨d, ds, h1, h2, h3, h4, rfl⟩
    · exact .inl ⟨p, xs, rfl, h1, h2, h3, fin⟩
    · exact .inr ⟨d, ds, h1, h2, h3, h4, fin⟩
/-! ### t[::-1] -/
def revF : F1 := fun d M => match d with
  | .tup l => okR (.tup l.reverse) M
  | d => match d.seqV M with
    | some l => okR (.lst l.reverse) M
    | none => none
theorem d_rev {j : Nat} {p1 p2 p3 : Pos} (he : PE X e (tD X.K CT E g)) : PE X (.Subscript e (.Slice none none (some (.UnaryOp .USub (.Constant (.int 1) j p1) p2)) p3) pos) (tD X.K CT E (gUn revF g)) :=
  imp_e (pe_revA he) fun σ H Q ⟨Z, F, α, δ, M, w, ev, k⟩ => ⟨Z, F, α, δ, M, w, ev, (KO.of_bind k).imp fun F1 α1 d M1 H1 w1 s1 p1 k1 v rv => by
    unfold revF at k1
    split at k1
    · obtain ⟨a, xs, rfl, h1, h2⟩ := tup_ok w1 rv
      exact ⟨a, xs, rfl, .inr ⟨h1, fun t ht => newQ w1 ht k1 fun s => .tup' (SqT.of upd_same) (h2.reverse.mono s (PR _))⟩⟩
    · split at k1
      · rename_i l hl
        obtain ⟨a, xs, rfl, h1, h2⟩ := seqV_ok w1 rv hl
        exact ⟨a, xs, rfl, .inl ⟨h1, fun t ht => newQ w1 ht k1 fun s => .lst' upd_same (h2.reverse.mono s (PR _))⟩⟩
      · exact k1.elim⟩
/-! ### raise X('..') -/
structure ExcF (K : PySem.W.Frag) (mg : Str → Option Value) (x : Str) (C : Addr) : Prop where
  g : mg x = some (.ref C)
  q : PySem.W.excIn K C [.type "ValueError", .type "Exception", .type "BaseException", .type "object"] "ValueError.__new__" = true
  k : PySem.W.keepIn K (.ref C) = true
  b : PySem.W.subIn K (.ref C) (.type "BaseException") = some true
  t : PySem.W.typeIn K (.ref C) = some (.type "type")
@[simp] def gRaise (c : Nat) : GS := fun _ M => some (.ex (.e c) M)
theorem ds_raise {m : Str} {j c : Nat} {p2 pos2 : Pos} (dx : DX X E k) (T : ExcF X.K X.mg x (CT c)) (hg : Gl X x) (hdb : (x == ("__debug__" : Str)) = false := by decide) :
    PS X (.Raise (some (.Call (.Name x p) [.Constant (.str m) j p2] [] pos)) none pos2) (tDS X.K CT E (gRaise c)) :=
  imp_s (ps_raise dx.calm dx.tk (pmk_own PySem.F.excBase_ValueError T.q T.g T.k (raises_own T.b T.t) hg hdb)) fun Dd σ H ⟨Z, F, α, δ, M, w, ev, k⟩ => k F α H w (Same.refl _) (PR _)
/-! ### o[i] = v of a changing list -/
def gSubT (go gi : GE) : GG := fun v δ M => bindR (go δ M) fun o M1 => bindR (gi δ M1) fun i M2 => match o, i with
  | .cel n, .int j => match M2[n]? with
    | some (.lst ds) => match ixN ds.length j with
      | some m => okR δ (M2.set n (.lst (ds.set m v)))
      | none => none
    | _ => none
  | _, _ => none
theorem dg_sub {o i : Expr} {go gi : GE} (ho : PE X o (tD X.K CT E go)) (hi : PE X i (tD X.K CT E gi))
    (ha : ∀ v, assign (.Subscript o i pos) X.env v = (do
      let ov ← holding [v] (eval o X.env)
      let iv ← holding [v, ov] (eval i X.env)
      standAt pos
      holding [v, ov, iv] (setItem ov iv v)
      release [v, ov, iv] []) := by intro _; rfl) : PG X (.Subscript o i pos) (gD X.K CT E (gSubT go gi)) :=
  imp_g (pg_sub ho hi set_list ha) fun v σ H Q ⟨Z, F, α, δ, M, d, w, ev, rv, k⟩ => by
    refine ⟨Z, F, α, δ, M, w, ev, (KO.of_bind k).imp fun F1 α1 o M1 H1 w1 s1 p1 k1 vo ro => ?_⟩
    refine ⟨Z, F1, α1, δ, M1, w1, ev.mono s1 p1, (KO.of_bind k1).imp fun F2 α2 i M2 H2 w2 s2 p2 k2 vi ri => ?_⟩
    split at k2
    · cases ri
      split at k2
      · rename_i n j _ ds hm
        split at k2
        · rename_i m hx
          obtain ⟨a, rfl, ha⟩ := (ro.mono s2 p2).of_cel
          obtain ⟨_, _, xs, h1, h2⟩ := w2.out n a _ ha hm
          have rv2 := (rv.mono s1 p1).mono s2 p2
          exact ⟨a, xs, _, m, rfl, rfl, h1, by rw [h2.len]; exact hx, k2 F2 α2 _ (w2.put ha hm (by intro z; cases z) ⟨_, upd_same, h2.set m rv2⟩) (Same.refl _) (PR _) _ ((ev.mono s1 p1).mono s2 p2)⟩
        · exact k2.elim
      · exact k2.elim
    · exact k2.elim
/-! ### xs.append(v) of a changing list -/
def gApp (go gv : GE) : GE := fun δ M => bindR (go δ M) fun o M1 => match o with
  | .cel n => match M1[n]? with
    | some (.lst _) => bindR (gv δ M1) fun v M2 => match M2[n]? with
      | some (.lst ds) => if ds.length < sizeLine then okR .non (M2.set n (.lst (ds ++ [v]))) else none
      | _ => none
    | _ => none
  | _ => none
theorem d_app {o : Expr} {go gv : GE} {apos cpos : Pos} (ho : PE X o (tD X.K CT E go)) (hv : PE X e (tD X.K CT E gv))
    (hbase : attributeBase o "append" X.env (eval o X.env) = eval o X.env := by rfl)
    (hfew : ((backTo cpos (starEach [e] X.env)).all (fun x => !x.1) && (backToKw cpos (keywordEach [] X.env)).all (fun x => x.1.isSome)
      && decide ([e].length + ([] : List Keyword).length + (if ([] : List Keyword).isEmpty then 0 else 1) < 30)) = true := by rfl)
    (hline : (apos.endLine == cpos.line) = true := by rfl) (hs : starEach [e] X.env = (false, eval e X.env) :: starEach [] X.env := by rfl) (hplain : (backTo cpos (starEach [] X.env)).any (·.1) = false := by rfl) :
    PE X (.Call (.Attribute o "append" apos) [e] [] cpos) (tD X.K CT E (gApp go gv)) :=
  imp_e (pe_bm PySem.F.plainAttrs_list PySem.F.slot_list_append PySem.F.type_list_append mt_append ho (pa_cons hv pa_nil hs) hbase hfew hline hs hplain) fun σ H Q ⟨Z, F, α, δ, M, w, ev, k⟩ => by
    refine ⟨Z, F, α, δ, M, w, ev, (KO.of_bind k).imp fun F1 α1 o M1 H1 w1 s1 p1 k1 vo ro => ?_⟩
    split at k1
    · split at k1
      · rename_i n _ ds0 hm0
        obtain ⟨a, rfl, ha⟩ := ro.of_cel
        obtain ⟨_, _, xs0, h0, _⟩ := w1.out n a _ ha hm0
        refine ⟨.inl ⟨rfl, xs0, SqL.of h0⟩, Z, F1, α1, δ, M1, w1, ev.mono s1 p1, (KO.of_bind k1).imp fun F2 α2 v M2 H2 w2 s2 p2 k2 vv rv => ?_⟩
        split at k2
        · rename_i ds hm
          split at k2
          · rename_i hl
            have ha2 : α2[n]? = some a := by
              obtain ⟨z, hz, e⟩ := (Rv.cel ha : Rv X.K F1 α1 (.ref a) (.cel n)).mono s2 p2 |>.of_cel
              cases hz
              exact e
            obtain ⟨_, _, xs, h1, h2⟩ := w2.out n a _ ha2 hm
            exact ⟨a, xs, vv, rfl, rfl, h1, h2.len ▸ hl, k2 F2 α2 _ (w2.put ha2 hm (by intro z; cases z) ⟨_, upd_same, h2.append (.cons rv .nil)⟩) (Same.refl _) (PR _) _ .non⟩
          · exact k2.elim
        · exact k2.elim
      · exact k1.elim
    · exact k1.elim
end
end DL
/-! DL6: comprehensions, zip -/
namespace DL
open PySem PySem.Spec L2
variable [Pw]

/-! ### a comprehension's target: a name, or several in a tuple -/
inductive TGC where
  | one (i : Nat) | many (is : List Nat)
def namesH : List Nat → TGs
  | [] => L2.gNil
  | i :: r => L2.gCons (L2.gName i) (namesH r)
def TGC.h (K : PySem.W.Frag) : TGC → TG
  | .one i => L2.gName i
  | .many is => L2.gTup K is.length (namesH is)
def setMany : List Nat → List D → Ev → Ev
  | i :: is, d :: ds, δ => setMany is ds (δ.set i (some d))
  | _, _, δ => δ
def TGC.d : TGC → D → Ev → Option Ev
  | .one i, d, δ => some (δ.set i (some d))
  | .many is, .tup ds, δ => if ds.length = is.length then some (setMany is ds δ) else none
  | _, _, _ => none
def TGC.slots : TGC → List Nat
  | .one i => [i]
  | .many is => is
def wipeD (δ : Ev) : List Nat → Ev
  | [] => δ
  | v :: vs => (wipeD δ vs).set v none
theorem wipe_get {σ : L2.St} : ∀ {vs : List Nat} {j : Nat}, (wipe σ vs)[j]? = if j ∈ vs then (if j < σ.length then some none else none) else σ[j]?
  | [], j => by simp [wipe]
  | v :: vs, j => by
    simp only [wipe, List.getElem?_set, wipe_length]
    by_cases e : v = j
    · subst e; simp
    · rw [if_neg e, wipe_get]
      simp [Ne.symm e]
theorem wipe_set {σ : L2.St} {vs : List Nat} {i : Nat} {x : Option V} (h : i ∈ vs) : wipe (σ.set i x) vs = wipe σ vs := by
  apply List.ext_getElem?
  intro j
  rw [wipe_get, wipe_get]
  by_cases e : j ∈ vs
  · simp [e]
  · simp only [e, if_false, List.getElem?_set]
    have : i ≠ j := fun z => e (z ▸ h)
    rw [if_neg this]
theorem wipe_wipe {σ : L2.St} {vs : List Nat} : wipe (wipe σ vs) vs = wipe σ vs := by
  apply List.ext_getElem?
  intro j
  rw [wipe_get, wipe_get, wipe_length]
  by_cases e : j ∈ vs <;> simp [e]
theorem wipeD_len {δ : Ev} : ∀ {vs : List Nat}, (wipeD δ vs).length = δ.length
  | [] => rfl
  | v :: vs => by simp [wipeD, wipeD_len (vs := vs)]
theorem wipeD_get {δ : Ev} : ∀ {vs : List Nat} {j : Nat} {d : D}, (wipeD δ vs)[j]? = some (some d) → j ∉ vs ∧ δ[j]? = some (some d)
  | [], j, d, h => ⟨by simp, h⟩
  | v :: vs, j, d, h => by
    simp only [wipeD, List.getElem?_set] at h
    by_cases e : v = j
    · subst e
      simp only [if_true] at h
      split at h <;> cases h
    · rw [if_neg e] at h
      obtain ⟨h1, h2⟩ := wipeD_get h
      exact ⟨by simp [Ne.symm e, h1], h2⟩
section
variable {Z : List (Addr × HO)} {K : PySem.W.Frag} {F F' H H' : Hp} {α α' : List Addr} {M : Sto} {σ : L2.St} {δ : Ev}
theorem EvR.wipe {vs : List Nat} (h : EvR K F α σ δ) : EvR K F α (L2.wipe σ vs) (wipeD δ vs) := by
  refine ⟨by rw [wipe_length, wipeD_len, h.1], fun i d e => ?_⟩
  obtain ⟨h1, h2⟩ := wipeD_get e
  obtain ⟨v, h3, h4⟩ := h.2 i d h2
  exact ⟨v, by rw [wipe_get, if_neg h1]; exact h3, h4⟩
theorem names_go : ∀ {is : List Nat} {vs : List V} {ds : List D} {σ : L2.St} {δ : Ev} {ws : List Nat} {Q : L2.St → Hp → Prop}, RvL K F α vs ds → ds.length = is.length → EvR K F α σ δ → (∀ i ∈ is, i ∈ ws) →
    (∀ σ1, EvR K F α σ1 (setMany is ds δ) → L2.wipe σ1 ws = L2.wipe σ ws → Q σ1 H) → namesH is vs σ H Q
  | [], vs, ds, σ, δ, ws, Q, r, hl, ev, hi, k => by
    obtain rfl : ds = [] := List.length_eq_zero_iff.mp hl
    exact ⟨r.of_nil, k σ ev rfl⟩
  | i :: is, vs, [], σ, δ, ws, Q, r, hl, ev, hi, k => by simp at hl
  | i :: is, vs, d :: ds, σ, δ, ws, Q, r, hl, ev, hi, k => by
    obtain ⟨v, t, rfl, r1, r2⟩ := r.of_cons
    refine ⟨v, t, rfl, ?_⟩
    show namesH is t (σ.set i (some v)) H Q
    exact names_go r2 (by simpa using hl) (ev.set r1) (fun j hj => hi j (List.mem_cons_of_mem _ hj)) fun σ1 e1 e2 => k σ1 e1 (e2.trans (wipe_set (hi i List.mem_cons_self)))
theorem tgc_go {T : TGC} {v : V} {d : D} {δ1 : Ev} {ws : List Nat} {Q : L2.St → Hp → Prop} (w : W K Z F H α M) (r : Rv K F α v d) (ev : EvR K F α σ δ) (hd : T.d d δ = some δ1) (hi : ∀ i ∈ T.slots, i ∈ ws)
    (k : ∀ σ1, EvR K F α σ1 δ1 → L2.wipe σ1 ws = L2.wipe σ ws → Q σ1 H) : T.h K v σ H Q := by
  cases T with
  | one i =>
    cases hd
    exact k _ (ev.set r) (wipe_set (hi i (by simp [TGC.slots])))
  | many is =>
    cases d <;> simp only [TGC.d] at hd <;> try cases hd
    rename_i ds
    split at hd
    · rename_i hl
      cases hd
      obtain ⟨a, xs, rfl, h1, h2⟩ := tup_ok w r
      exact ⟨a, xs, rfl, h1, h2.len.trans hl, names_go h2 hl ev hi k⟩
    · cases hd
end

/-! ### [elt for target in iter if ..] -/
def noEx {β : Type} : RO β → RO β
  | some (.ok b M) => some (.ok b M)
  | _ => none
@[simp] theorem noEx_ok {β : Type} (b : β) (M : Sto) : noEx (some (.ok b M)) = some (.ok b M) := rfl
theorem KO.of_bindN {K : PySem.W.Frag} {Z : List (Addr × HO)} {CT : Nat → Addr} {E : XK} {F : Hp} {α : List Addr} {β γ : Type} {r : RO β} {k : β → Sto → RO γ} {S : Hp → List Addr → γ → Sto → Hp → Prop} (h : KO K Z CT E F α S (bindR (noEx r) k)) :
    KO K Z CT E0 F α (fun F' α' b M' _ => KO K Z CT E F' α' S (k b M')) r := by
  match r, h with
  | some (.ok b M'), h => exact fun F' α' H' w s p => KO.mono s p h
def lcL (T : TGC) (tt : GT) (te : GE) (δ : Ev) : List D → List D → Sto → RO D
  | [], acc, M => okR (.lst acc) M
  | d :: ds, acc, M => match T.d d δ with
    | none => none
    | some δ1 => bindR (noEx (tt δ1 M)) fun b M1 => if b = true then bindR (noEx (te δ1 M1)) fun y M2 => if acc.length < sizeLine then lcL T tt te δ ds (acc ++ [y]) M2 else none else lcL T tt te δ ds acc M1
@[simp] def gLc (gi : GI) (T : TGC) (tt : GT) (te : GE) (vs : List Nat) : GE := fun δ M => bindR (gi δ M) fun ds M1 => lcL T tt te (wipeD δ vs) ds [] M1
@[simp] def gYes : GT := fun _ M => okR true M
section
variable {X : Cx} {CT : Nat → Addr} {E : XK} {k : Nat} {gi : GI} {T : TGC} {tt : GT} {te : GE} {vs : List Nat}
theorem KO.toE {K : PySem.W.Frag} {Z Z' : List (Addr × HO)} {CT : Nat → Addr} {F : Hp} {α : List Addr} {β : Type} {r : RO β} {S S' : Hp → List Addr → β → Sto → Hp → Prop} (h : KO K Z CT E0 F α S r) (hS : ∀ F' α' b M' H', W K Z' F' H' α' M' → Same F F' → α <+: α' → (W K Z' F' H' α' M' → W K Z F' H' α' M') → S F' α' b M' H' → S' F' α' b M' H')
    (hZ : ∀ F' H' α' M', W K Z' F' H' α' M' → W K Z F' H' α' M') : KO K Z' CT E0 F α S' r := by
  match r, h with
  | some (.ok b M'), h => exact fun F' α' H' w s p => hS F' α' b M' H' w s p (hZ F' H' α' M') (h F' α' H' (hZ _ _ _ _ w) s p)
  | some (.ex e M'), h => exact fun F' α' H' w s p => h F' α' H' (hZ _ _ _ _ w) s p
theorem lc_go {σ : L2.St} {H : Hp} {Q : VK} (hi : ∀ i ∈ T.slots, i ∈ vs) (h : tD X.K CT E (gLc gi T tt te vs) σ H Q) : tLc (tDI X.K CT E gi) (T.h X.K) (tDT X.K CT E0 tt) (tD X.K CT E0 te) vs σ H Q := by
  obtain ⟨Z, F, α, δ, M, w, ev, k⟩ := h
  refine ⟨Z, F, α, δ, M, w, ev, (KO.of_bind k).imp fun F0 α0 ds M0 H0 w0 s0 p0 k0 J hJ D hD => ?_⟩
  have hz : ∀ q ∈ Z, q.1 ≠ D := w0.heldNe hD
  have ev0 := (ev.mono s0 p0).wipe (vs := vs)
  -- what is so ahead of turn i
  refine ⟨fun i m H' => ∃ F1 α1 M1 acc xs, W X.K ((D, .lst xs) :: Z) F1 H' α1 M1 ∧ Same F0 F1 ∧ α0 <+: α1 ∧ RvL X.K F1 α1 xs acc ∧ i + m = ds.length ∧ KO X.K Z CT E F1 α1 (QD X.K Q) (lcL T tt te (wipeD δ vs) (ds.drop i) acc M1),
    ⟨ds.length, F0, α0, M0, [], [], w0.hold hD _, Same.refl _, PR _, .nil, by omega, by simpa using k0⟩, ?_⟩
  rintro i m H1 ⟨F1, α1, M1, acc, xs, w1, s1, p1, ra, hm, k1⟩
  obtain ⟨hD1, hF1, _⟩ := w1.held (D, .lst xs) List.mem_cons_self
  by_cases hlt : i < ds.length
  · refine .inr ⟨hJ.go i _ F1 α1 H1 M1 w1 s1 p1 hlt, _, fun H' hN => ⟨m - 1, by omega, hN⟩, fun x H2 hy => ?_⟩
    obtain ⟨F2, w2, s2, rx⟩ := hJ.yld i _ F1 α1 H1 M1 x H2 ds[i] w1 s1 p1 hy (List.getElem?_eq_getElem hlt)
    rw [List.drop_eq_getElem_cons hlt] at k1
    simp only [lcL] at k1
    split at k1
    · exact k1.elim
    · rename_i δ1 hd
      have k2 := KO.mono s2 (PR _) k1
      refine tgc_go w2 rx (ev0.mono (s1.trans s2) p1) hd hi fun σ1 ev1 hw => ⟨hw.trans wipe_wipe, ?_⟩
      refine ⟨(D, .lst xs) :: Z, F2, α1, δ1, M1, w2, ev1, (KO.of_bindN k2).toE (fun F3 α3 b M3 H3 w3 s3 p3 _ k3 => ?_) fun _ _ _ _ q => q.drop⟩
      have sA : Same F0 F3 := s1.trans (s2.trans s3)
      have pA : α0 <+: α3 := p1.trans p3
      have raA := ra.mono (s2.trans s3) p3
      refine ite2 (fun hb => ?_) (fun hb => ?_)
      · rw [if_pos hb] at k3
        refine ⟨(D, .lst xs) :: Z, F3, α3, δ1, M3, w3, ev1.mono s3 p3, (KO.of_bindN k3).toE (fun F4 α4 y M4 H4 w4 s4 p4 _ k4 v rv => ?_) fun _ _ _ _ q => q.drop⟩
        split at k4
        · rename_i hl
          have raB := raA.mono s4 p4
          obtain ⟨hD4, _, _⟩ := w4.held (D, .lst xs) List.mem_cons_self
          refine ⟨xs, hD4, raB.len ▸ hl, F4, α4, M4, acc ++ [y], xs ++ [v], w4.rehold hz, sA.trans s4, pA.trans p4, raB.append (.cons rv .nil), by omega, k4⟩
        · exact k4.elim
      · rw [if_neg hb] at k3
        exact ⟨F3, α3, M3, acc, xs, w3, sA, pA, raA, by omega, k3⟩
  · refine .inl ⟨hJ.stop i _ F1 α1 H1 M1 w1 s1 p1 (by omega), ?_⟩
    rw [List.drop_of_length_le (by omega)] at k1
    have s2 : Same F1 (upd F1 D (.lst xs)) := Same.upd hF1
    exact k1 _ α1 H1 (w1.show_ hz) s2 (PR _) _ (.lst' upd_same (ra.mono s2 (PR _)))
theorem DX.blk {s : Shared} {H : Hp} {scope : Scope} {cenv : Env} {fp : List Addr} (dx : DX X E k) : DX (X.blk s H scope cenv fp) E0 k where
  calm := dx.calm
  room := dx.room
  pass := passL
  own := PassesOwn.never
  nd := dx.nd
  tk := takes0
  pw := dx.pw
theorem d_lc {elt tg iter : Expr} {ifs : List Expr} {scope : Scope} {own : List (Str × Nat)} {pos : Pos} (dx : DX X E k) (hi : PI X tg iter (tDI X.K CT E gi)) (ok : BlkOk X.N X.env.scope scope own) (hT : ∀ i ∈ T.slots, i ∈ own.map (·.2))
    (hg : ∀ (s : Shared) (H : Hp) (C : Addr) (cl : List (Str × Addr)) (fp : List Addr), PG (X.blk s H scope (compEnvC scope cl C X.env) fp) tg (T.h X.K))
    (ht : ∀ (s : Shared) (H : Hp) (C : Addr) (cl : List (Str × Addr)) (fp : List Addr), PTs (X.blk s H scope (compEnvC scope cl C X.env) fp) ifs (tDT X.K CT E0 tt))
    (he : ∀ (s : Shared) (H : Hp) (C : Addr) (cl : List (Str × Addr)) (fp : List Addr), DX (X.blk s H scope (compEnvC scope cl C X.env) fp) E0 k → PE (X.blk s H scope (compEnvC scope cl C X.env) fp) elt (tD X.K CT E0 te)) (hs : ∀ x, foldedSetIterable iter X.env x = pure x := by intro _; rfl) :
    PE X (.ListComp elt [⟨tg, iter, ifs, 0⟩] scope pos) (tD X.K CT E (gLc gi T tt te (own.map (·.2)))) :=
  imp_e (pe_lc dx.calm dx.nd hi ok hg ht (fun s H C cl fp => he s H C cl fp dx.blk) hs) fun σ H Q h => lc_go hT h
theorem ds_setLc {i : Nat} {y : Str} {py : Pos} {elt tg iter : Expr} {ifs : List Expr} {scope : Scope} {own : List (Str × Nat)} {pos spos : Pos} (dx : DX X E k) (hy : X.N[i]? = some y) (hyl : X.env.scope.names.lookup y = some .local)
    (hsw : swapsWith (.ListComp elt [⟨tg, iter, ifs, 0⟩] scope pos) (some (.Name y py)) spos.line X.env = pure true) (hi : PI X tg iter (tDI X.K CT E gi)) (ok : BlkOk X.N X.env.scope scope own) (hT : ∀ i ∈ T.slots, i ∈ own.map (·.2))
    (hg : ∀ (s : Shared) (H : Hp) (C : Addr) (cl : List (Str × Addr)) (fp : List Addr), PG (X.blk s H scope (compEnvC scope cl C X.env) fp) tg (T.h X.K))
    (ht : ∀ (s : Shared) (H : Hp) (C : Addr) (cl : List (Str × Addr)) (fp : List Addr), PTs (X.blk s H scope (compEnvC scope cl C X.env) fp) ifs (tDT X.K CT E0 tt))
    (he : ∀ (s : Shared) (H : Hp) (C : Addr) (cl : List (Str × Addr)) (fp : List Addr), DX (X.blk s H scope (compEnvC scope cl C X.env) fp) E0 k → PE (X.blk s H scope (compEnvC scope cl C X.env) fp) elt (tD X.K CT E0 te)) (hs : ∀ x, foldedSetIterable iter X.env x = pure x := by intro _; rfl) :
    PS X (.Assign [.Name y py] (.ListComp elt [⟨tg, iter, ifs, 0⟩] scope pos) spos) (tDS X.K CT E (gAsg (gLc gi T tt te (own.map (·.2))) (DL.gName i))) :=
  imp_s (ps_setLc dx.calm dx.nd hy hyl hsw hi ok hg ht (fun s H C cl fp => he s H C cl fp dx.blk) hs) fun Dd σ H ⟨Z, F, α, δ, M, w, ev, k⟩ =>
    lc_go hT ⟨Z, F, α, δ, M, w, ev, (KO.of_bind (KO.of_bindS k)).imp fun F1 α1 d M1 H1 w1 s1 p1 k1 v rv => k1 F1 α1 H1 w1 (Same.refl _) (PR _) F1 α1 H1 _ w1 (Same.refl _) (PR _) ((ev.mono s1 p1).set rv)⟩
theorem dts_nil : PTs X [] (tDT X.K CT E gYes) := ⟨fun pins s σ H Q I h => pts_nil.run pins s σ H Q I (by obtain ⟨Z, F, α, δ, M, w, ev, k⟩ := h; exact k F α H w (Same.refl _) (PR _))⟩
theorem dts_one {c : Expr} {t : GT} (h : PT X c (tDT X.K CT E t)) : PTs X [c] (tDT X.K CT E t) := pts_one h
/-! ### zip -/
def zipF : FL := fun ds M => match ds with
  | [.tup l, .tup m] => okR (.lst ((l.zip m).map fun p => D.tup [p.1, p.2])) M
  | [a, b] => match a.seqV M, b.seqV M with
    | some l, some m => okR (.lst ((l.zip m).map fun p => D.tup [p.1, p.2])) M
    | _, _ => none
  | _ => none
def frozenB (a b : D) : Bool := match a, b with
  | .cel _, _ => false
  | _, .cel _ => false
  | _, _ => true
@[simp] def gZip (gl : GA) : GI := fun δ M => bindR (gl δ M) fun ds M1 => match ds with
  | [.tup l, .tup m] => okR ((l.zip m).map fun p => D.tup [p.1, p.2]) M1
  | [.lst l, .lst m] => okR ((l.zip m).map fun p => D.tup [p.1, p.2]) M1
  | _ => none
theorem zip_at {β γ : Type} : ∀ {l : List β} {m : List γ} {i : Nat} {p : β × γ}, (l.zip m)[i]? = some p → l[i]? = some p.1 ∧ m[i]? = some p.2
  | [], m, i, p, h => by simp at h
  | _ :: _, [], i, p, h => by simp at h
  | a :: l, b :: m, 0, p, h => by simp at h; subst h; exact ⟨rfl, rfl⟩
  | a :: l, b :: m, i + 1, p, h => by simpa using zip_at (l := l) (m := m) (by simpa using h)
theorem ItR.zipL {K : PySem.W.Frag} {F : Hp} {α : List Addr} {a b : Addr} {xs ys : List V} {l m : List D} (h : F a = some (.lst xs)) (h' : F b = some (.lst ys)) (r : RvL K F α xs l) (r' : RvL K F α ys m) : ItR K F α (Itz K a b) ((l.zip m).map fun p => D.tup [p.1, p.2]) where
  go := fun i Z F' α' H' M' w s p hi => by
    have hi' : i < l.length ∧ i < m.length := by simp at hi; omega
    exact ⟨xs, ys, xs[i]'(r.len ▸ hi'.1), ys[i]'(r'.len ▸ hi'.2), SqL.of (w.sub _ _ (s _ _ h)), SqL.of (w.sub _ _ (s _ _ h')), List.getElem?_eq_getElem _, List.getElem?_eq_getElem _⟩
  yld := fun i Z F' α' H' M' x H'' d w s p hy hd => by
    obtain ⟨T, u, v, rfl, hT, rfl, h1, h2⟩ := hy
    rw [List.getElem?_map] at hd
    cases q : (l.zip m)[i]? with
    | none => rw [q] at hd; simp at hd
    | some pr =>
      rw [q] at hd; simp at hd; subst hd
      obtain ⟨q1, q2⟩ := zip_at q
      have s2 : Same F' (upd F' T (.tup [u, v])) := Same.upd (w.freeF hT)
      have r1 := ((r.2 i u pr.1 (h1 xs (SqL.of (w.sub _ _ (s _ _ h)))) q1).mono s p).mono s2 (PR _)
      have r2 := ((r'.2 i v pr.2 (h2 ys (SqL.of (w.sub _ _ (s _ _ h')))) q2).mono s p).mono s2 (PR _)
      exact ⟨_, w.fresh hT _, s2, .tup' (SqT.of upd_same) (.cons r1 (.cons r2 .nil))⟩
  stop := fun i Z F' α' H' M' w s p hi => ⟨xs, ys, SqL.of (w.sub _ _ (s _ _ h)), SqL.of (w.sub _ _ (s _ _ h')), by simp at hi; rw [r.len, r'.len]; omega⟩
theorem ItR.zipT {K : PySem.W.Frag} {F : Hp} {α : List Addr} {a b : Addr} {xs ys : List V} {l m : List D} (h : SqT K F a xs) (h' : SqT K F b ys) (r : RvL K F α xs l) (r' : RvL K F α ys m) : ItR K F α (RZ.ItzT K a b) ((l.zip m).map fun p => D.tup [p.1, p.2]) where
  go := fun i Z F' α' H' M' w s p hi => by
    have hi' : i < l.length ∧ i < m.length := by simp at hi; omega
    exact ⟨xs, ys, xs[i]'(r.len ▸ hi'.1), ys[i]'(r'.len ▸ hi'.2), SqT.mono w.sub (SqT.mono s h), SqT.mono w.sub (SqT.mono s h'), List.getElem?_eq_getElem _, List.getElem?_eq_getElem _⟩
  yld := fun i Z F' α' H' M' x H'' d w s p hy hd => by
    obtain ⟨T, u, v, rfl, hT, rfl, h1, h2⟩ := hy
    rw [List.getElem?_map] at hd
    cases q : (l.zip m)[i]? with
    | none => rw [q] at hd; simp at hd
    | some pr =>
      rw [q] at hd; simp at hd; subst hd
      obtain ⟨q1, q2⟩ := zip_at q
      have s2 : Same F' (upd F' T (.tup [u, v])) := Same.upd (w.freeF hT)
      have r1 := ((r.2 i u pr.1 (h1 xs (SqT.mono w.sub (SqT.mono s h))) q1).mono s p).mono s2 (PR _)
      have r2 := ((r'.2 i v pr.2 (h2 ys (SqT.mono w.sub (SqT.mono s h'))) q2).mono s p).mono s2 (PR _)
      exact ⟨_, w.fresh hT _, s2, .tup' (SqT.of upd_same) (.cons r1 (.cons r2 .nil))⟩
  stop := fun i Z F' α' H' M' w s p hi => ⟨xs, ys, SqT.mono w.sub (SqT.mono s h), SqT.mono w.sub (SqT.mono s h'), by simp at hi; rw [r.len, r'.len]; omega⟩
theorem di_zip {e e2 : Expr} {gl : GA} {p pos tpos : Pos} {elts : List Expr} {kk : Nat} (hg : Gl X "zip") (hm : X.mg "zip" = none) (ha : PA X [e, e2] (tDA X.K CT E gl))
    (hs : starEach [e, e2] X.env = (false, eval e X.env) :: starEach [e2] X.env := by rfl) (hpl : (backTo pos (starEach [e2] X.env)).any (·.1) = false := by rfl) :
    PI X (.Tuple elts kk tpos) (.Call (.Name "zip" p) [e, e2] [] pos) (tDI X.K CT E (gZip gl)) :=
  imp_i (RZ.pi_zipA hg hm ha hs hpl) fun σ H R ⟨Z, F, α, δ, M, w, ev, k⟩ => by
    refine ⟨Z, F, α, δ, M, w, ev, (KO.of_bind k).imp fun F1 α1 ds M1 H1 w1 s1 p1 k1 vs rvs => ?_⟩
    split at k1
    · obtain ⟨v, t, rfl, r1, r2⟩ := rvs.of_cons
      obtain ⟨v2, t2, rfl, r3, r4⟩ := r2.of_cons
      obtain rfl := r4.of_nil
      obtain ⟨a, xs, rfl, h1, h2⟩ := r1.of_tup
      obtain ⟨b, ys, rfl, h3, h4⟩ := r3.of_tup
      exact ⟨a, b, xs, ys, rfl, .inr ⟨SqT.mono w1.sub h1, SqT.mono w1.sub h3, k1 F1 α1 H1 w1 (Same.refl _) (PR _) _ (.zipT h1 h3 h2 h4)⟩⟩
    · obtain ⟨v, t, rfl, r1, r2⟩ := rvs.of_cons
      obtain ⟨v2, t2, rfl, r3, r4⟩ := r2.of_cons
      obtain rfl := r4.of_nil
      obtain ⟨a, xs, rfl, h1, h2⟩ := r1.of_lst
      obtain ⟨b, ys, rfl, h3, h4⟩ := r3.of_lst
      exact ⟨a, b, xs, ys, rfl, .inl ⟨SqL.of (w1.sub _ _ h1), SqL.of (w1.sub _ _ h3), k1 F1 α1 H1 w1 (Same.refl _) (PR _) _ (.zipL h1 h3 h2 h4)⟩⟩
    · exact k1.elim
end
end DL
/-! DL7: comprehensions with two clauses -/
namespace DL
open PySem PySem.Spec L2
variable [Pw]
theorem bindR_assoc {β γ ε : Type} {r : RO β} {f : β → Sto → RO γ} {g : γ → Sto → RO ε} : bindR (bindR r f) g = bindR r fun b M => bindR (f b M) g := by
  match r with
  | some (.ok _ _) => rfl
  | some (.ex _ _) => rfl
  | none => rfl
def lcIn (T : TGC) (tt : GT) (te : GE) (δ : Ev) : List D → List D → Sto → RO (List D)
  | [], acc, M => okR acc M
  | d :: ds, acc, M => match T.d d δ with
    | none => none
    | some δ1 => bindR (noEx (tt δ1 M)) fun b M1 => if b = true then bindR (noEx (te δ1 M1)) fun y M2 => if acc.length < sizeLine then lcIn T tt te δ ds (acc ++ [y]) M2 else none else lcIn T tt te δ ds acc M1
def lc2L (T : TGC) (tt : GT) (gi1 : GI) (T1 : TGC) (tt1 : GT) (te : GE) (vs1 : List Nat) (δ : Ev) : List D → List D → Sto → RO D
  | [], acc, M => okR (.lst acc) M
  | d :: ds, acc, M => match T.d d δ with
    | none => none
    | some δ1 => bindR (noEx (tt δ1 M)) fun b M1 => if b = true then bindR (noEx (gi1 δ1 M1)) fun es M2 => bindR (lcIn T1 tt1 te (wipeD δ1 vs1) es acc M2) fun acc' M3 => lc2L T tt gi1 T1 tt1 te vs1 δ ds acc' M3
      else lc2L T tt gi1 T1 tt1 te vs1 δ ds acc M1
@[simp] def gLc2 (gi : GI) (T : TGC) (tt : GT) (gi1 : GI) (T1 : TGC) (tt1 : GT) (te : GE) (vs vs1 : List Nat) : GE := fun δ M => bindR (gi δ M) fun ds M1 => lc2L T tt gi1 T1 tt1 te vs1 (wipeD δ vs) ds [] M1
section
variable {X : Cx} {CT : Nat → Addr} {E : XK} {k : Nat} {gi gi1 : GI} {T T1 : TGC} {tt tt1 : GT} {te : GE} {vs vs1 : List Nat}
theorem lc2_go {σ : L2.St} {H : Hp} {Q : VK} (hi : ∀ i ∈ T.slots, i ∈ vs) (hi1 : ∀ i ∈ T1.slots, i ∈ vs1) (h : tD X.K CT E (gLc2 gi T tt gi1 T1 tt1 te vs vs1) σ H Q) :
    tLc2 (tDI X.K CT E gi) (T.h X.K) (tDT X.K CT E0 tt) (tDI X.K CT E0 gi1) (T1.h X.K) (tDT X.K CT E0 tt1) (tD X.K CT E0 te) vs vs1 σ H Q := by
  obtain ⟨Z, F, α, δ, M, w, ev, k⟩ := h
  refine ⟨Z, F, α, δ, M, w, ev, (KO.of_bind k).imp fun F0 α0 ds M0 H0 w0 s0 p0 k0 J hJ D hD => ?_⟩
  have hz : ∀ q ∈ Z, q.1 ≠ D := w0.heldNe hD
  have ev0 := (ev.mono s0 p0).wipe (vs := vs)
  refine ⟨fun i m H' => ∃ F1 α1 M1 acc xs, W X.K ((D, .lst xs) :: Z) F1 H' α1 M1 ∧ Same F0 F1 ∧ α0 <+: α1 ∧ RvL X.K F1 α1 xs acc ∧ i + m = ds.length ∧ KO X.K Z CT E F1 α1 (QD X.K Q) (lc2L T tt gi1 T1 tt1 te vs1 (wipeD δ vs) (ds.drop i) acc M1),
    ⟨ds.length, F0, α0, M0, [], [], w0.hold hD _, Same.refl _, PR _, .nil, by omega, by simpa using k0⟩, ?_⟩
  rintro i m H1 ⟨F1, α1, M1, acc, xs, w1, s1, p1, ra, hm, k1⟩
  obtain ⟨hD1, hF1, _⟩ := w1.held (D, .lst xs) List.mem_cons_self
  by_cases hlt : i < ds.length
  · refine .inr ⟨hJ.go i _ F1 α1 H1 M1 w1 s1 p1 hlt, _, fun H' hN => ⟨m - 1, by omega, hN⟩, fun x H2 hy => ?_⟩
    obtain ⟨F2, w2, s2, rx⟩ := hJ.yld i _ F1 α1 H1 M1 x H2 ds[i] w1 s1 p1 hy (List.getElem?_eq_getElem hlt)
    rw [List.drop_eq_getElem_cons hlt] at k1
    simp only [lc2L] at k1
    split at k1
    · exact k1.elim
    · rename_i δ1 hd
      have k2 := KO.mono s2 (PR _) k1
      refine tgc_go w2 rx (ev0.mono (s1.trans s2) p1) hd hi fun σ1 ev1 hw => ⟨hw.trans wipe_wipe, ?_⟩
      refine ⟨(D, .lst xs) :: Z, F2, α1, δ1, M1, w2, ev1, (KO.of_bindN k2).toE (fun F3 α3 b M3 H3 w3 s3 p3 _ k3 => ?_) fun _ _ _ _ q => q.drop⟩
      have sA : Same F0 F3 := s1.trans (s2.trans s3)
      have pA : α0 <+: α3 := p1.trans p3
      have raA := ra.mono (s2.trans s3) p3
      have ev3 := ev1.mono s3 p3
      refine ite2 (fun hb => ?_) (fun hb => ?_)
      · rw [if_pos hb] at k3
        refine ⟨(D, .lst xs) :: Z, F3, α3, δ1, M3, w3, ev3, (KO.of_bindN k3).toE (fun F4 α4 es M4 H4 w4 s4 p4 _ k4 J1 hJ1 => ?_) fun _ _ _ _ q => q.drop⟩
        have evW := (ev3.mono s4 p4).wipe (vs := vs1)
        refine ⟨fun j n H' => ∃ F5 α5 M5 acc5 xs5, W X.K ((D, .lst xs5) :: Z) F5 H' α5 M5 ∧ Same F4 F5 ∧ α4 <+: α5 ∧ RvL X.K F5 α5 xs5 acc5 ∧ j + n = es.length ∧
            KO X.K Z CT E F5 α5 (QD X.K Q) (bindR (lcIn T1 tt1 te (wipeD δ1 vs1) (es.drop j) acc5 M5) fun acc' M6 => lc2L T tt gi1 T1 tt1 te vs1 (wipeD δ vs) (ds.drop (i + 1)) acc' M6),
          ⟨es.length, F4, α4, M4, acc, xs, w4, Same.refl _, PR _, raA.mono s4 p4, by omega, by simpa using k4⟩, ?_⟩
        rintro j n H5 ⟨F5, α5, M5, acc5, xs5, w5, s5, p5, ra5, hn, k5⟩
        by_cases hlt1 : j < es.length
        · refine .inr ⟨hJ1.go j _ F5 α5 H5 M5 w5 s5 p5 hlt1, _, fun H' hN => ⟨n - 1, by omega, hN⟩, fun x1 H6 hy1 => ?_⟩
          obtain ⟨F6, w6, s6, rx1⟩ := hJ1.yld j _ F5 α5 H5 M5 x1 H6 es[j] w5 s5 p5 hy1 (List.getElem?_eq_getElem hlt1)
          rw [List.drop_eq_getElem_cons hlt1] at k5
          simp only [lcIn] at k5
          split at k5
          · exact k5.elim
          · rename_i δ6 hd6
            have k6 := KO.mono s6 (PR _) k5
            refine tgc_go w6 rx1 (evW.mono (s5.trans s6) p5) hd6 hi1 fun σ6 ev6 hw6 => ⟨hw6.trans wipe_wipe, ?_⟩
            rw [bindR_assoc] at k6
            refine ⟨(D, .lst xs5) :: Z, F6, α5, δ6, M5, w6, ev6, (KO.of_bindN k6).toE (fun F7 α7 b7 M7 H7 w7 s7 p7 _ k7 => ?_) fun _ _ _ _ q => q.drop⟩
            have raB := ra5.mono (s6.trans s7) p7
            refine ite2 (fun hb => ?_) (fun hb => ?_)
            · rw [if_pos hb] at k7
              rw [bindR_assoc] at k7
              refine ⟨(D, .lst xs5) :: Z, F7, α7, δ6, M7, w7, ev6.mono s7 p7, (KO.of_bindN k7).toE (fun F8 α8 y M8 H8 w8 s8 p8 _ k8 v rv => ?_) fun _ _ _ _ q => q.drop⟩
              split at k8
              · rename_i hl
                have raC := raB.mono s8 p8
                obtain ⟨hD8, _, _⟩ := w8.held (D, .lst xs5) List.mem_cons_self
                exact ⟨xs5, hD8, raC.len ▸ hl, F8, α8, M8, acc5 ++ [y], xs5 ++ [v], w8.rehold hz, s5.trans (s6.trans (s7.trans s8)), p5.trans (p7.trans p8), raC.append (.cons rv .nil), by omega, k8⟩
              · exact k8.elim
            · rw [if_neg hb] at k7
              exact ⟨F7, α7, M7, acc5, xs5, w7, s5.trans (s6.trans s7), p5.trans p7, raB, by omega, k7⟩
        · refine .inl ⟨hJ1.stop j _ F5 α5 H5 M5 w5 s5 p5 (by omega), ?_⟩
          rw [List.drop_of_length_le (by omega)] at k5
          exact ⟨F5, α5, M5, acc5, xs5, w5, sA.trans (s4.trans s5), pA.trans (p4.trans p5), ra5, by omega, k5⟩
      · rw [if_neg hb] at k3
        exact ⟨F3, α3, M3, acc, xs, w3, sA, pA, raA, by omega, k3⟩
  · refine .inl ⟨hJ.stop i _ F1 α1 H1 M1 w1 s1 p1 (by omega), ?_⟩
    rw [List.drop_of_length_le (by omega)] at k1
    have s2 : Same F1 (upd F1 D (.lst xs)) := Same.upd hF1
    exact k1 _ α1 H1 (w1.show_ hz) s2 (PR _) _ (.lst' upd_same (ra.mono s2 (PR _)))
theorem d_lc2 {elt tg iter tg1 iter1 : Expr} {ifs ifs1 : List Expr} {scope : Scope} {own : List (Str × Nat)} {pos : Pos} (dx : DX X E k) (hi : PI X tg iter (tDI X.K CT E gi)) (ok : BlkOk X.N X.env.scope scope own) (hv : ∀ i ∈ vs1, i ∈ own.map (·.2)) (hT : ∀ i ∈ T.slots, i ∈ own.map (·.2)) (hT1 : ∀ i ∈ T1.slots, i ∈ vs1)
    (hg : ∀ (s : Shared) (H : Hp) (C : Addr) (cl : List (Str × Addr)) (fp : List Addr), PG (X.blk s H scope (compEnvC scope cl C X.env) fp) tg (T.h X.K))
    (ht : ∀ (s : Shared) (H : Hp) (C : Addr) (cl : List (Str × Addr)) (fp : List Addr), PTs (X.blk s H scope (compEnvC scope cl C X.env) fp) ifs (tDT X.K CT E0 tt))
    (hi1 : ∀ (s : Shared) (H : Hp) (C : Addr) (cl : List (Str × Addr)) (fp : List Addr), DX (X.blk s H scope (compEnvC scope cl C X.env) fp) E0 k → PI (X.blk s H scope (compEnvC scope cl C X.env) fp) tg1 iter1 (tDI X.K CT E0 gi1))
    (hg1 : ∀ (s : Shared) (H : Hp) (C : Addr) (cl : List (Str × Addr)) (fp : List Addr), PG (X.blk s H scope (compEnvC scope cl C X.env) fp) tg1 (T1.h X.K))
    (ht1 : ∀ (s : Shared) (H : Hp) (C : Addr) (cl : List (Str × Addr)) (fp : List Addr), PTs (X.blk s H scope (compEnvC scope cl C X.env) fp) ifs1 (tDT X.K CT E0 tt1))
    (he : ∀ (s : Shared) (H : Hp) (C : Addr) (cl : List (Str × Addr)) (fp : List Addr), DX (X.blk s H scope (compEnvC scope cl C X.env) fp) E0 k → PE (X.blk s H scope (compEnvC scope cl C X.env) fp) elt (tD X.K CT E0 te)) (hs : ∀ x, foldedSetIterable iter X.env x = pure x := by intro _; rfl) (hs1 : ∀ env x, foldedSetIterable iter1 env x = pure x := by intro _ _; rfl) :
    PE X (.ListComp elt [⟨tg, iter, ifs, 0⟩, ⟨tg1, iter1, ifs1, 0⟩] scope pos) (tD X.K CT E (gLc2 gi T tt gi1 T1 tt1 te (own.map (·.2)) vs1)) :=
  imp_e (pe_lc2 dx.calm dx.nd hi ok hv hg ht (fun s H C cl fp => hi1 s H C cl fp dx.blk) hg1 ht1 (fun s H C cl fp => he s H C cl fp dx.blk) hs hs1) fun σ H Q h => lc2_go hT hT1 h
end
end DL
/-! DL8: comparisons as tests; dicts that never change; three names at once -/
namespace DL
open PySem PySem.Spec L2
variable [Pw]
section
variable {Z : List (Addr × HO)} {X : Cx} {CT : Nat → Addr} {E : XK} {k : Nat} {e a b c : Expr} {es : List Expr} {g ga gb gc : GE} {gl : GA} {pos p q pos' : Pos} {x : Str}
/-! ### tests -/
theorem tst_go {t : TE} {σ : L2.St} {H : Hp} {Q : Bool → Hp → Prop} (ht : ∀ σ H Q, tD X.K CT E g σ H Q → t σ H Q) (h : tDT X.K CT E (gTst g) σ H Q) : t σ H fun x H' => ∃ k, x = .bl k ∧ Q k H' := by
  refine ht _ _ _ ?_
  obtain ⟨Z, F, α, δ, M, w, ev, k⟩ := h
  refine ⟨Z, F, α, δ, M, w, ev, (KO.of_bind k).imp fun F1 α1 d M1 H1 w1 s1 p1 k1 v rv => ?_⟩
  split at k1
  · cases rv
    exact ⟨_, rfl, k1 F1 α1 H1 w1 (Same.refl _) (PR _)⟩
  · exact k1.elim
theorem dt_cmp {op : CmpOp} {f : F2} (ho : OpR X (compareOp op) (r2D X.K CT E f)) (ha : PE X a (tD X.K CT E ga)) (hb : PE X b (tD X.K CT E gb)) (hm : behindInMarks op b = false) : PT X (.Compare a [op] [b] pos) (tDT X.K CT E (gTst (gOp f ga gb))) :=
  imp_t (pt_cmpR ho ha hb hm) fun σ H Q h => tst_go (fun _ _ _ h => op_go h) h
theorem dt_chain {op op' : CmpOp} {f f' : F2} (ho : OpR X (compareOp op) (r2D X.K CT E f)) (ho' : OpR X (compareOp op') (r2D X.K CT E f')) (ha : PE X a (tD X.K CT E ga)) (hb : PE X b (tD X.K CT E gb)) (hc : PE X c (tD X.K CT E gc))
    (hm : lastMarks [op, op'] [b, c] = false := by with_unfolding_all rfl) : PT X (.Compare a [op, op'] [b, c] pos) (tDT X.K CT E (gTst (gChain f f' ga gb gc))) :=
  imp_t (pt_chain ho ho' ha hb hc hm) fun σ H Q h => tst_go (fun _ _ _ h => by
    obtain ⟨Z, F, α, δ, M, w, ev, k⟩ := h
    refine ⟨Z, F, α, δ, M, w, ev, (KO.of_bind k).imp fun F1 α1 d M1 H1 w1 s1 p1 k1 v rv => ?_⟩
    refine ⟨Z, F1, α1, δ, M1, w1, ev.mono s1 p1, (KO.of_bind k1).imp fun F2 α2 d2 M2 H2 w2 s2 p2 k2 u ru => ?_⟩
    refine ⟨Z, F2, α2, M2, d, d2, w2, rv.mono s2 p2, ru, (KO.of_bind k2).imp fun F3 α3 r M3 H3 w3 s3 p3 k3 z rz => ?_⟩
    unfold brB at k3
    split at k3
    · rename_i q
      cases rz
      cases q
      · exact ⟨false, rfl, iteF (k3 F3 α3 H3 w3 (Same.refl _) (PR _) _ (.bl false))⟩
      · refine ⟨true, rfl, iteT ?_⟩
        refine ⟨Z, F3, α3, δ, M3, w3, (ev.mono s1 p1).mono (s2.trans s3) (p2.trans p3), (KO.of_bind k3).imp fun F4 α4 d4 M4 H4 w4 s4 p4 k4 u4 ru4 => ?_⟩
        exact ⟨Z, F4, α4, M4, d2, d4, w4, ru.mono (s3.trans s4) (p3.trans p4), ru4, k4⟩
    · exact k3.elim) h
theorem dt_isN {j : Nat} (ha : PE X a (tD X.K CT E ga)) : PT X (.Compare a [.Is] [.Constant .none j pos'] pos) (tDT X.K CT E (gTst (gUn isNF ga))) :=
  imp_t (pt_cmp (pc_isN ha)) fun σ H Q h => tst_go (t := tIsN (tD X.K CT E ga)) (fun _ H Q ⟨Z, F, α, δ, M, w, ev, k⟩ => ⟨Z, F, α, δ, M, w, ev, (KO.of_bind k).imp fun F1 α1 d M1 H1 w1 s1 p1 k1 v rv => by
    show Q (.bl (decide (v = .non))) H1
    rw [isNon_ok rv]
    exact okQ w1 k1 (.bl _)⟩) h
theorem dt_notN {j : Nat} (ha : PE X a (tD X.K CT E ga)) : PT X (.Compare a [.IsNot] [.Constant .none j pos'] pos) (tDT X.K CT E (gTst (gUn notNF ga))) :=
  imp_t (pt_cmp (pc_notN ha)) fun σ H Q h => tst_go (t := tNotN (tD X.K CT E ga)) (fun _ H Q ⟨Z, F, α, δ, M, w, ev, k⟩ => ⟨Z, F, α, δ, M, w, ev, (KO.of_bind k).imp fun F1 α1 d M1 H1 w1 s1 p1 k1 v rv => by
    show Q (.bl (!decide (v = .non))) H1
    rw [isNon_ok rv]
    exact okQ w1 k1 (.bl _)⟩) h

/-! ### a, b, c = x, y, z -/
@[simp] def gPar3 (i j l : Nat) (gl : GA) : GS := fun δ M => bindS (gl δ M) fun ds M1 => match ds with
  | [a, b, c] => some (.nx (((δ.set i (some a)).set j (some b)).set l (some c)) M1)
  | _ => none
theorem ds_par3 {i j l : Nat} {x y z : Str} {px py pz pt : Pos} {kt k2 pt2} (hc : X.calm = true) (hN : X.N.Nodup) (hi : X.N[i]? = some x) (hj : X.N[j]? = some y) (hl : X.N[l]? = some z) (hij : i ≠ j) (hil : i ≠ l) (hjl : j ≠ l)
    (hx : X.env.scope.names.lookup x = some .local) (hy : X.env.scope.names.lookup y = some .local) (hz : X.env.scope.names.lookup z = some .local) (ha : PA X [a, b, c] (tDA X.K CT E gl))
    (hw : swappedStores [.Tuple [.Name x px, .Name y py, .Name z pz] kt pt] (.Tuple [a, b, c] k2 pt2) X.env = pure (some [x, y, z]) := by rfl)
    (hs : swapsWithSole [.Tuple [.Name x px, .Name y py, .Name z pz] kt pt] (.Tuple [a, b, c] k2 pt2) pos.line X.env = pure false := by rfl) :
    PS X (.Assign [.Tuple [.Name x px, .Name y py, .Name z pz] kt pt] (.Tuple [a, b, c] k2 pt2) pos) (tDS X.K CT E (gPar3 i j l gl)) :=
  imp_s (ps_par3 hc hN hi hj hl hij hil hjl hx hy hz ha hw hs) fun Dd σ H ⟨Z, F, α, δ, M, w, ev, k⟩ => by
    refine ⟨Z, F, α, δ, M, w, ev, (KO.of_bindS k).imp fun F1 α1 ds M1 H1 w1 s1 p1 k1 vs rvs => ?_⟩
    split at k1
    · obtain ⟨v, r, rfl, r1, r2⟩ := rvs.of_cons
      obtain ⟨u, r', rfl, r3, r4⟩ := r2.of_cons
      obtain ⟨t, r'', rfl, r5, r6⟩ := r4.of_cons
      have := r6.of_nil
      subst this
      exact ⟨v, u, t, rfl, k1 F1 α1 H1 _ w1 (Same.refl _) (PR _) ((((ev.mono s1 p1).set r1).set r3).set r5)⟩
    · exact k1.elim

/-! ### dicts that never change -/
def keyD : D → Option Key
  | .int i => some (.inl i)
  | .str x => some (.inr x)
  | _ => none
def dicGet : List Key → List D → Key → Option D
  | k :: ks, d :: ds, j => if k = j then some d else dicGet ks ds j
  | _, _, _ => none
def mkDic : List (D × D) → Option (List Key × List D)
  | [] => some ([], [])
  | (a, b) :: r => match keyD a, mkDic r with
    | some k, some (ks, ds) => some (k :: ks, b :: ds)
    | _, _ => none
theorem keyD_ok {K : PySem.W.Frag} {F : Hp} {α : List Addr} {v : V} {d : D} {k : Key} (r : Rv K F α v d) (h : keyD d = some k) : v = kV k := by
  cases r <;> simp [keyD] at h <;> subst h <;> rfl
theorem dicGet_ok {K : PySem.W.Frag} {F : Hp} {α : List Addr} {j : Key} : ∀ {kvs : List (Key × V)} {ds : List D}, kvs.length = ds.length → (∀ (i : Nat) k x d, kvs[i]? = some (k, x) → ds[i]? = some d → Rv K F α x d) →
    (∀ d, dicGet (kvs.map (·.1)) ds j = some d → ∃ v, valV kvs j = some v ∧ Rv K F α v d) ∧ (dicGet (kvs.map (·.1)) ds j = none → valV kvs j = none)
  | [], ds, _, _ => ⟨fun d h => by simp [dicGet] at h, fun _ => rfl⟩
  | (k, x) :: kvs, [], h, _ => by simp at h
  | (k, x) :: kvs, d :: ds, h, r => by
    have ih := dicGet_ok (j := j) (kvs := kvs) (ds := ds) (by simpa using h) fun i k x d a b => r (i + 1) k x d (by simpa using a) (by simpa using b)
    by_cases e : k = j
    · subst e
      refine ⟨fun d' h' => ?_, fun h' => ?_⟩
      · simp [dicGet] at h'
        subst h'
        exact ⟨x, valV_pos rfl, r 0 k x d rfl rfl⟩
      · simp [dicGet] at h'
    · simp only [List.map_cons, dicGet, if_neg e]
      rw [valV_neg (p := (k, x)) (r := kvs) e]
      exact ih
theorem merge_id {kvs : List (Key × V)} (h : (kvs.map (·.1)).Nodup) : mergeK [] kvs = kvs := by
  have gen : ∀ (more acc : List (Key × V)), ((acc ++ more).map (·.1)).Nodup → mergeK acc more = acc ++ more := by
    intro more
    induction more with
    | nil => intro acc _; simp [mergeK]
    | cons kv r ih =>
      intro acc hn
      have hnone : valV acc kv.1 = none := by
        have : ∀ z ∈ acc, ¬ z.1 = kv.1 := by
          intro z hz e
          rw [List.map_append, List.nodup_append] at hn
          exact hn.2.2 z.1 (List.mem_map_of_mem hz) kv.1 (by simp) e
        unfold valV
        rw [List.find?_eq_none.mpr fun z hz => by simpa using this z hz]
        rfl
      show mergeK (putK acc kv.1 kv.2) r = _
      rw [putK_new _ hnone, ih]
      · simp
      · simpa using hn
  simpa using gen kvs [] (by simpa using h)
@[simp] def prsG : List (GE × GE) → Ev → Sto → RO (List (D × D))
  | [], _, M => okR [] M
  | (gk, gv) :: r, δ, M => bindR (gk δ M) fun x M1 => bindR (gv δ M1) fun y M2 => bindR (prsG r δ M2) fun ps M3 => okR ((x, y) :: ps) M3
abbrev prT (K : PySem.W.Frag) (CT : Nat → Addr) (E : XK) (gs : List (GE × GE)) : List (TE × TE) := gs.map fun g => (tD K CT E g.1, tD K CT E g.2)
def PrR (K : PySem.W.Frag) (F : Hp) (α : List Addr) (ps : List (V × V)) (ds : List (D × D)) : Prop := RvL K F α (ps.map (·.1)) (ds.map (·.1)) ∧ RvL K F α (ps.map (·.2)) (ds.map (·.2))
theorem prs_go {σ : L2.St} {δ : Ev} : ∀ {gs : List (GE × GE)} {F H : Hp} {α : List Addr} {M : Sto} {Q : List (V × V) → Hp → Prop}, W X.K Z F H α M → EvR X.K F α σ δ →
    KO X.K Z CT E F α (fun F' α' ds M' H' => ∀ ps, PrR X.K F' α' ps ds → Q ps H') (prsG gs δ M) → tPairs (prT X.K CT E gs) σ H Q
  | [], F, H, α, M, Q, w, ev, k => k F α H w (Same.refl _) (PR _) [] ⟨.nil, .nil⟩
  | (gk, gv) :: r, F, H, α, M, Q, w, ev, k => by
    refine ⟨Z, F, α, δ, M, w, ev, (KO.of_bind k).imp fun F1 α1 x M1 H1 w1 s1 p1 k1 v rv => ?_⟩
    refine ⟨Z, F1, α1, δ, M1, w1, ev.mono s1 p1, (KO.of_bind k1).imp fun F2 α2 y M2 H2 w2 s2 p2 k2 u ru => ?_⟩
    refine prs_go w2 ((ev.mono s1 p1).mono s2 p2) ((KO.of_bind k2).imp fun F3 α3 ps M3 H3 w3 s3 p3 k3 qs hq => ?_)
    exact k3 F3 α3 H3 w3 (Same.refl _) (PR _) ((v, u) :: qs) ⟨.cons (rv.mono (s2.trans s3) (p2.trans p3)) hq.1, .cons (ru.mono s3 p3) hq.2⟩
@[simp] def gDict (gs : List (GE × GE)) : GE := fun δ M => bindR (prsG gs δ M) fun ps M1 => match mkDic ps with
  | some (ks, ds) => if ks.Nodup ∧ ks.length ≤ 15 then okR (.dic ks ds) M1 else none
  | none => none
theorem mkDic_ok {K : PySem.W.Frag} {F : Hp} {α : List Addr} : ∀ {ps : List (V × V)} {qs : List (D × D)} {ks : List Key} {ds : List D}, PrR K F α ps qs → mkDic qs = some (ks, ds) →
    ∃ kvs : List (Key × V), ps = kvs.map (fun kv => (kV kv.1, kv.2)) ∧ kvs.map (·.1) = ks ∧ RvL K F α (kvs.map (·.2)) ds
  | ps, [], ks, ds, r, h => by
    cases h
    have := r.1.of_nil
    obtain rfl : ps = [] := List.map_eq_nil_iff.mp this
    exact ⟨[], rfl, rfl, .nil⟩
  | [], (a, b) :: qs, ks, ds, r, h => by
    have := r.1.1
    simp at this
  | (v, u) :: ps, (a, b) :: qs, ks, ds, r, h => by
    simp only [mkDic] at h
    split at h
    · rename_i k' ks' ds' e1 e2
      cases h
      obtain ⟨r1, r2⟩ := r
      obtain ⟨_, _, q1, q2, q3⟩ := r1.of_cons
      cases q1
      obtain ⟨_, _, q4, q5, q6⟩ := r2.of_cons
      cases q4
      obtain ⟨kvs, h1, h2, h3⟩ := mkDic_ok (ps := ps) (qs := qs) ⟨q3, q6⟩ e2
      refine ⟨(k', u) :: kvs, ?_, by simp [h2], .cons q5 h3⟩
      have ev : v = kV k' := keyD_ok q2 e1
      rw [List.map_cons, ← h1, ev]
    · cases h
theorem d_dict {gs : List (GE × GE)} {keys : List (Option Expr)} {values : List Expr} (h : PPs X pos keys values (prT X.K CT E gs)) (hall : keys.all (·.isSome) = true) (hl : keys.length = values.length) (h0 : keys ≠ []) (h15 : keys.length ≤ 15) :
    PE X (.Dict keys values pos) (tD X.K CT E (gDict gs)) :=
  imp_e (pe_disp h hall hl h0 h15) fun σ H Q ⟨Z, F, α, δ, M, w, ev, k⟩ => by
    intro p hp
    have hz := w.heldNe hp
    refine prs_go (Z := (p, .dK []) :: Z) (w.hold hp _) ev ?_
    have k' := KO.of_bind k
    revert k'
    generalize prsG gs δ M = r
    intro k'
    match r, k' with
    | some (.ex e M'), k' => exact fun F' α' H' w' s' p' => k' F' α' H' w'.drop s' p'
    | some (.ok qs M'), k' =>
      intro F' α' H' w' s' p' ps hps
      obtain ⟨hD, hF, _⟩ := w'.held (p, .dK []) List.mem_cons_self
      have k1 : KO X.K Z CT E F' α' (QD X.K Q) (match mkDic qs with
        | some (ks, ds) => if ks.Nodup ∧ ks.length ≤ 15 then okR (D.dic ks ds) M' else none
        | none => none) := k' F' α' H' w'.drop s' p'
      split at k1
      · rename_i ks ds hm
        split at k1
        · rename_i hc
          obtain ⟨kvs, rfl, h2, h3⟩ := mkDic_ok hps hm
          subst h2
          refine ⟨hD, kvs, rfl, by simpa using hc.2, ?_⟩
          rw [merge_id hc.1]
          have w2 := w'.rehold (o' := .dK kvs) hz
          have sm : Same F' (upd F' p (.dK kvs)) := Same.upd hF
          refine k1 _ α' _ (w2.show_ hz) sm (PR _) _ (.dic upd_same (by have := h3.len; simpa using this) fun i k x d e1 e2 => (h3.2 i x d (by rw [List.getElem?_map, e1]; rfl) e2).mono sm (PR _))
        · exact k1.elim
      · exact k1.elim
@[simp] def gDGet (go gk gd : GE) : GE := fun δ M => bindR (go δ M) fun o M1 => match o with
  | .dic ks ds => bindR (gk δ M1) fun k M2 => bindR (gd δ M2) fun d M3 => match keyD k with
    | some j => okR ((dicGet ks ds j).getD d) M3
    | none => none
  | _ => none
theorem d_dget2 {o f : Expr} {go gk gd : GE} {apos cpos : Pos} (hu : X.A.units + 1 < cLine) (ho : PE X o (tD X.K CT E go)) (he : PE X e (tD X.K CT E gk)) (hf : PE X f (tD X.K CT E gd)) (m : M2 X o "get" apos e f cpos) :
    PE X (.Call (.Attribute o "get" apos) [e, f] [] cpos) (tD X.K CT E (gDGet go gk gd)) :=
  imp_e (pe_dget2 hu ho he hf m) fun σ H Q ⟨Z, F, α, δ, M, w, ev, k⟩ => by
    refine ⟨Z, F, α, δ, M, w, ev, (KO.of_bind k).imp fun F1 α1 o M1 H1 w1 s1 p1 k1 vo ro => ?_⟩
    split at k1
    · cases ro with
      | dic h1 h2 h3 =>
        rename_i a kvs
        refine ⟨a, rfl, .inl ⟨kvs, .inl (w1.sub _ _ h1)⟩, Z, F1, α1, δ, M1, w1, ev.mono s1 p1, (KO.of_bind k1).imp fun F2 α2 y M2 H2 w2 s2 p2 k2 vy ry => ?_⟩
        refine ⟨Z, F2, α2, δ, M2, w2, (ev.mono s1 p1).mono s2 p2, (KO.of_bind k2).imp fun F3 α3 d M3 H3 w3 s3 p3 k3 vd rd => ?_⟩
        split at k3
        · rename_i j hj
          have ek := keyD_ok ry hj
          subst ek
          have hg := dicGet_ok (K := X.K) (F := F3) (α := α3) (j := j) h2 fun i k x d a b => (h3 i k x d a b).mono (s2.trans s3) (p2.trans p3)
          refine ⟨valV kvs j, .inl ⟨kvs, j, .inl (w3.sub _ _ (s3 _ _ (s2 _ _ h1))), rfl, rfl⟩, ?_⟩
          cases e : dicGet (kvs.map (·.1)) _ j with
          | none =>
            rw [e] at k3
            rw [hg.2 e]
            exact okQ w3 k3 rd
          | some d' =>
            rw [e] at k3
            obtain ⟨v, q1, q2⟩ := hg.1 d' e
            rw [q1]
            exact okQ w3 k3 q2
        · exact k3.elim
    · exact k1.elim
end
/-! ### the built-ins' names -/
theorem bt_len : bootBuiltins "len" = some (.builtin "len") := by decide +kernel
theorem bt_abs : bootBuiltins "abs" = some (.builtin "abs") := by decide +kernel
theorem bt_min : bootBuiltins "min" = some (.builtin "min") := by decide +kernel
theorem bt_max : bootBuiltins "max" = some (.builtin "max") := by decide +kernel
theorem bt_all : bootBuiltins "all" = some (.builtin "all") := by decide +kernel
theorem bt_any : bootBuiltins "any" = some (.builtin "any") := by decide +kernel
theorem bt_sorted : bootBuiltins "sorted" = some (.builtin "sorted") := by decide +kernel
theorem bt_sum : bootBuiltins "sum" = some (.builtin "sum") := by decide +kernel
theorem bt_int : bootBuiltins "int" = some (.type "int") := by decide +kernel
theorem bt_bool : bootBuiltins "bool" = some (.type "bool") := by decide +kernel
theorem bt_str : bootBuiltins "str" = some (.type "str") := by decide +kernel
theorem bt_list : bootBuiltins "list" = some (.type "list") := by decide +kernel
theorem bt_tuple : bootBuiltins "tuple" = some (.type "tuple") := by decide +kernel
theorem bt_dict : bootBuiltins "dict" = some (.type "dict") := by decide +kernel
theorem bt_set : bootBuiltins "set" = some (.type "set") := by decide +kernel
theorem tk_int : tyOk "int" = true := by decide +kernel
theorem tk_bool : tyOk "bool" = true := by decide +kernel
theorem tk_str : tyOk "str" = true := by decide +kernel
theorem tk_list : tyOk "list" = true := by decide +kernel
theorem tk_tuple : tyOk "tuple" = true := by decide +kernel
/-- the promise that asks what can't be -/
theorem fnD_none {P : Program} {w : World} {K : PySem.W.Frag} {mg : Str → Option Value} {base : Heap} {CT : Nat → Addr} {x qual : Str} {st : Stmt} {a : Addr} {fd : FuncData} {ps : List Str} {n k : Nat}
    (F : Fun K x qual st a fd) (hm : mg x = some (.ref a)) (hb : Binds K fd ps []) (hn : ps.length = n) : FnD P w K mg base CT x n k (fun _ _ => none) :=
  ⟨a, fd, ps, hn, hm, F.kp, hb, ⟨fun _ _ _ _ ⟨_, _, _, _, _, _, _, _, k⟩ => k.elim, fun _ _ _ _ _ _ _ _ _ _ _ _ _ ⟨_, _, _, _, _, _, _, _, k⟩ => k.elim⟩⟩
end DL
/-! DL9: sorted of texts; constants of the module -/
namespace DL
open PySem PySem.Spec L2
variable [Pw]
open PyProof.Rows (sortedS risingS)
/-- a list of texts -/
def strsOf : List D → Option (List Str)
  | [] => some []
  | .str b :: r => (strsOf r).map (b :: ·)
  | _ => none
theorem strsOf_ok {K : PySem.W.Frag} {F : Hp} {α : List Addr} : ∀ {xs : List V} {ds : List D} {bs : List Str}, RvL K F α xs ds → strsOf ds = some bs → xs = bs.map V.str
  | xs, [], bs, r, h => by cases h; rw [r.of_nil]; rfl
  | xs, d :: ds, bs, r, h => by
    obtain ⟨v, t, rfl, r1, r2⟩ := r.of_cons
    cases d <;> simp [strsOf] at h
    obtain ⟨cs, h1, rfl⟩ := h
    cases r1
    rw [strsOf_ok r2 h1]
    rfl
theorem strs_rv {K : PySem.W.Frag} {F : Hp} {α : List Addr} : ∀ (bs : List Str), RvL K F α (bs.map V.str) (bs.map D.str)
  | [] => .nil
  | b :: bs => .cons (.str b) (strs_rv bs)
theorem lt_irr : ∀ a : List Nat, ltCps a a = false
  | [] => rfl
  | a :: r => by simp [ltCps, lt_irr r]
theorem lt_trans' : ∀ {a b c : List Nat}, ltCps a b = true → ltCps b c = true → ltCps a c = true
  | [], [], _, h, _ => by simp [ltCps] at h
  | [], _ :: _, [], _, h => by simp [ltCps] at h
  | [], _ :: _, _ :: _, _, _ => rfl
  | _ :: _, [], _, h, _ => by simp [ltCps] at h
  | _ :: _, _ :: _, [], _, h => by simp [ltCps] at h
  | a :: r, b :: s, c :: t, h, k => by
    simp only [ltCps, Bool.or_eq_true, decide_eq_true_eq, Bool.and_eq_true, beq_iff_eq] at h k ⊢
    rcases h with h | ⟨rfl, h⟩
    · rcases k with k | ⟨rfl, k⟩
      · exact .inl (by omega)
      · exact .inl h
    · rcases k with k | ⟨rfl, k⟩
      · exact .inl k
      · exact .inr ⟨rfl, lt_trans' h k⟩
theorem lt_tri : ∀ {a b : List Nat}, ltCps a b = false → ltCps b a = false → a = b
  | [], [], _, _ => rfl
  | [], _ :: _, h, _ => by simp [ltCps] at h
  | _ :: _, [], _, h => by simp [ltCps] at h
  | a :: r, b :: s, h, k => by
    simp only [ltCps, Bool.or_eq_false_iff, decide_eq_false_iff_not, Bool.and_eq_false_iff, beq_eq_false_iff_ne] at h k
    have e : a = b := by omega
    subst e
    have h1 := h.2.resolve_left (by simp)
    have k1 := k.2.resolve_left (by simp)
    rw [lt_tri h1 k1]
/-- not behind -/
def leS (a b : Str) : Bool := !ltCps b.cps.toList a.cps.toList
theorem leS_anti {a b : Str} (h : leS a b = true) (k : leS b a = true) : a = b := by
  simp only [leS, Bool.not_eq_true'] at h k
  have := lt_tri k h
  cases a; cases b
  simpa using this
theorem leS_trans {a b c : Str} (h : leS a b = true) (k : leS b c = true) : leS a c = true := by
  simp only [leS, Bool.not_eq_true'] at h k ⊢
  cases e : ltCps c.cps.toList a.cps.toList with
  | false => rfl
  | true =>
    -- c < a ≤ b ≤ c
    by_cases q : a.cps.toList = b.cps.toList
    · rw [q, k] at e; cases e
    · have h2 : ltCps a.cps.toList b.cps.toList = true := by
        cases z : ltCps a.cps.toList b.cps.toList with
        | true => rfl
        | false => exact absurd (lt_tri z h) q
      rw [lt_trans' e h2] at k; cases k
theorem leS_total (a b : Str) : leS a b = true ∨ leS b a = true := by
  cases e : ltCps b.cps.toList a.cps.toList with
  | false => exact .inl (by simp [leS, e])
  | true =>
    refine .inr ?_
    simp only [leS, Bool.not_eq_true']
    cases z : ltCps a.cps.toList b.cps.toList with
    | false => rfl
    | true => have := lt_trans' e z; rw [lt_irr] at this; cases this
theorem sortedS_pair : ∀ {l : List Str}, sortedS l = true ↔ l.Pairwise fun a b => leS a b = true := by
  have gen : ∀ (l : List Str) (p : Str), risingS p l = true ↔ (p :: l).Pairwise fun a b => leS a b = true := by
    intro l
    induction l with
    | nil => intro p; simp [risingS]
    | cons x r ih =>
      intro p
      rw [show risingS p (x :: r) = (leS p x && risingS x r) from rfl, Bool.and_eq_true, ih x, List.pairwise_cons (a := p)]
      constructor
      · rintro ⟨h1, h2⟩
        refine ⟨fun y hy => ?_, h2⟩
        rcases List.mem_cons.mp hy with rfl | hy
        · exact h1
        · exact leS_trans h1 ((List.pairwise_cons.mp h2).1 y hy)
      · rintro ⟨h1, h2⟩
        exact ⟨h1 x List.mem_cons_self, h2⟩
  intro l
  cases l with
  | nil => simp [sortedS]
  | cons x r => exact gen r x
def insS (x : Str) : List Str → List Str
  | [] => [x]
  | y :: r => if leS x y = true then x :: y :: r else y :: insS x r
def sortS : List Str → List Str
  | [] => []
  | x :: r => insS x (sortS r)
theorem insS_perm (x : Str) : ∀ l, (insS x l).Perm (x :: l)
  | [] => .refl _
  | y :: r => by
    simp only [insS]
    split
    · exact .refl _
    · exact ((insS_perm x r).cons y).trans (.swap _ _ _)
theorem sortS_perm : ∀ l, (sortS l).Perm l
  | [] => .refl _
  | x :: r => (insS_perm x _).trans ((sortS_perm r).cons x)
theorem insS_pair (x : Str) : ∀ {l : List Str}, l.Pairwise (fun a b => leS a b = true) → (insS x l).Pairwise fun a b => leS a b = true
  | [], _ => by simp [insS]
  | y :: r, h => by
    simp only [insS]
    obtain ⟨h1, h2⟩ := List.pairwise_cons.mp h
    split
    · rename_i q
      refine List.pairwise_cons.mpr ⟨fun z hz => ?_, h⟩
      rcases List.mem_cons.mp hz with rfl | hz
      · exact q
      · exact leS_trans q (h1 z hz)
    · rename_i q
      refine List.pairwise_cons.mpr ⟨fun z hz => ?_, insS_pair x h2⟩
      rcases List.mem_cons.mp ((insS_perm x r).subset hz) with rfl | hz
      · exact (leS_total y z).resolve_right q
      · exact h1 z hz
theorem sortS_pair : ∀ l, (sortS l).Pairwise fun a b => leS a b = true
  | [] => .nil
  | x :: r => insS_pair x (sortS_pair r)
theorem perm_one : ∀ {l m : List Str}, l.Perm m → l.Pairwise (fun a b => leS a b = true) → m.Pairwise (fun a b => leS a b = true) → l = m
  | [], m, p, _, _ => p.nil_eq
  | x :: l, [], p, _, _ => by have := p.length_eq; simp at this
  | x :: l, y :: m, p, h, k => by
    obtain ⟨h1, h2⟩ := List.pairwise_cons.mp h
    obtain ⟨k1, k2⟩ := List.pairwise_cons.mp k
    have e : x = y := by
      have hx : x ∈ y :: m := p.subset List.mem_cons_self
      have hy : y ∈ x :: l := p.symm.subset List.mem_cons_self
      rcases List.mem_cons.mp hx with e | hx
      · exact e
      · rcases List.mem_cons.mp hy with e | hy
        · exact e.symm
        · exact leS_anti (h1 y hy) (k1 x hx)
    subst e
    rw [perm_one ((List.perm_cons x).mp p) h2 k2]
theorem sortS_one {xs ys : List Str} (p : ys.Perm xs) (s : sortedS ys = true) : ys = sortS xs := perm_one (p.trans (sortS_perm xs).symm) (sortedS_pair.mp s) (sortS_pair xs)
section
variable {X : Cx} {CT : Nat → Addr} {E : XK} {x : Str} {pos : Pos}
def sortedF : FL := fun ds M => match ds with
  | [d] => match (d.seqV M).bind strsOf with
    | some bs => if bs.length < 64 then okR (.lst ((sortS bs).map D.str)) M else none
    | none => none
  | _ => none
theorem c_sorted : CallR X (.builtin "sorted") (rLD X.K CT E sortedF) := imp_call cr_sortedS fun xs H Q ⟨Z, F, α, M, ds, w, r, k⟩ => by
  unfold sortedF at k
  split at k
  · obtain ⟨v, t, rfl, r1, r2⟩ := r.of_cons
    obtain rfl := r2.of_nil
    split at k
    · rename_i bs hb
      split at k
      · rename_i hl
        obtain ⟨l, hl', hb⟩ := Option.bind_eq_some_iff.mp hb
        obtain ⟨a, xs, rfl, h1, h2⟩ := seqV_ok w r1 hl'
        rw [strsOf_ok h2 hb] at h1
        refine ⟨a, bs, rfl, h1, hl, fun ys p hp hs hn => ?_⟩
        rw [sortS_one hp hs]
        exact newQ w hn k fun s => .lst' upd_same (strs_rv _)
      · exact k.elim
    · exact k.elim
  · exact k.elim
/-- a constant of the module -/
def CstD (K : PySem.W.Frag) (mg : Str → Option Value) (x : Str) (d : D) : Prop := ∃ u v, mg x = some u ∧ RelV v u ∧ ∀ F α, Rv K F α v d
theorem d_cg {d : D} (h : CstD X.K X.mg x d) (hg : Gl X x) (hd : (x == ("__debug__" : Str)) = false := by decide) : PE X (.Name x pos) (tD X.K CT E (gC d)) := by
  obtain ⟨u, v, h1, h2, h3⟩ := h
  exact d_glob hg h1 h2 h3 hd
/-- a tuple of the top -/
theorem cst_tup {K : PySem.W.Frag} {mg : Str → Option Value} {x : Str} {a : Addr} {od : Option Addr} {its : Array Value} {n : Nat} {sl : Array (Option Value)} {vs : List V} {ds : List D} (hm : mg x = some (.ref a)) (hl : K.lookup a = some ⟨.type "tuple", od, .seq its n, sl⟩)
    (hz : its.size ≤ 1000) (hv : Vals vs its.toList) (hr : ∀ F α, RvL K F α vs ds) : CstD K mg x (.tup ds) :=
  ⟨.ref a, .ref a, hm, rfl, fun F α => .tup' (.inr ⟨_, its, n, hl, rfl, rfl, by rw [sizeLine_eq]; omega, hv⟩) (hr F α)⟩
/-- a def that stands -/
def DefD (K : PySem.W.Frag) (mg : Str → Option Value) (x : Str) (st : Stmt) (ps : List Str) : Prop := ∃ a fd, Fun K x x st a fd ∧ mg x = some (.ref a) ∧ Binds K fd ps []
theorem fnD {K : PySem.W.Frag} {base : Heap} {CT : Nat → Addr} {x : Str} {st : Stmt} {N ps : List Str} {k : Nat} {g : GS} (h : DefD K Pw.mg x st ps) (S : FnScope N ps (defScope st))
    (body : ∀ (a : Addr) (cdv : Value) (A : Around) (outer : List Env) (s : Shared) (H : Hp) (E : XK), DX (cxOf (L2.CX Pw.P Pw.w) Pw.P Pw.w K Pw.mg base N x (defScope st) a cdv A outer s H E) E k →
      PSs (cxOf (L2.CX Pw.P Pw.w) Pw.P Pw.w K Pw.mg base N x (defScope st) a cdv A outer s H E) (defBody st) (tDS K CT E g)) :
    FnD Pw.P Pw.w K Pw.mg base CT x ps.length (k + 1) (runD N.length g) := by
  obtain ⟨a, fd, F, hm, hb⟩ := h
  exact fnD_of F hm hb S rfl (body a)
/-- the law's own def -/
theorem fnOkX {K : PySem.W.Frag} {base : Heap} {CT : Nat → Addr} {x : Str} {st : Stmt} {N ps : List Str} {k : Nat} {g : GS} {a : Addr} {fd : FuncData} (F : Fun K x x st a fd) (S : FnScope N ps (defScope st))
    (body : ∀ (cdv : Value) (A : Around) (outer : List Env) (s : Shared) (H : Hp) (E : XK), DX (cxOf (L2.CX Pw.P Pw.w) Pw.P Pw.w K Pw.mg base N x (defScope st) a cdv A outer s H E) E k →
      PSs (cxOf (L2.CX Pw.P Pw.w) Pw.P Pw.w K Pw.mg base N x (defScope st) a cdv A outer s H E) (defBody st) (tDS K CT E g)) :
    FnOk Pw.P Pw.w K Pw.mg base (L2.CX Pw.P Pw.w) (k + 1) a fd ps (spD K CT ps.length (runD N.length g)) := by
  refine F.okX S (fun vs H Q E ⟨_, _, _, _, _, _, h1, h2, _⟩ => h1.len.trans h2) (fun cdv A outer s H vs Q E hr h => ⟨_, body cdv A outer s H E ?_, ?_⟩)
  · exact ⟨rfl, hr, passes_call (takes_of rfl rfl rfl rfl) fun _ _ _ _ z => z, passes_of rfl, S.nd, takes_of rfl rfl rfl rfl, rfl, rfl, rfl⟩
  · obtain ⟨Z, F, α, M, ds, w, rv, hl, k⟩ := h
    refine ⟨Z, F, α, _, M, w, EvR.begin rv, ?_⟩
    unfold runD finS at k
    generalize g (ds.map some ++ List.replicate (N.length - ds.length) none) M = r at k ⊢
    match r, k with
    | some (.nx δ' M'), k => exact fun F' α' H' σ' w s p _ => k F' α' H' w s p _ .non
    | some (.rt d M'), k => exact fun F' α' H' v w s p r => k F' α' H' w s p v r
    | some (.ex e M'), k => exact k
/-- the law's promise: a list of at most 63 ints is handed in, True comes out -/
def spLaw (K : PySem.W.Frag) : Sp := fun vs H Q _ => ∃ (a : Addr) (ns : List Int), vs = [.ref a] ∧ SqL K H a (ns.map V.int) ∧ ns.length ≤ 63 ∧ ∀ H', Q (.bl true) H'
theorem fnLaw_spec {P : Program} {w : World} {K : PySem.W.Frag} {mg : Str → Option Value} {base : Heap} {CT : Nat → Addr} {k : Nat} {a : Addr} {fd : FuncData} {f : FL} {ps : List Str} (F : FnOk P w K mg base (L2.CX P w) k a fd ps (spD K CT 1 f))
    (h : ∀ ns : List Int, ns.length ≤ 63 → ∃ M', f [.ro (ns.map .int)] [] = some (.ok (.bl true) M')) : FnOk P w K mg base (L2.CX P w) k a fd ps (spLaw K) :=
  F.imp fun vs H Q E ⟨b, ns, hv, hS, hl, q⟩ => by
    subst hv
    obtain ⟨M', e⟩ := h ns hl
    refine ⟨[], H, [], [], [.ro (ns.map .int)], ⟨Same.refl _, rfl, List.nodup_nil, fun n a co h => (by simp at h), fun q hq => (by cases hq)⟩, .cons (.ro hS (by simp) ?_) .nil, rfl, ?_⟩
    · intro i x d h1 h2
      rw [List.getElem?_map] at h1 h2
      cases e : ns[i]? with
      | none => rw [e] at h1; cases h1
      | some z =>
        rw [e] at h1 h2
        cases h1; cases h2
        exact .int z
    · rw [e]
      intro F' α' H' w s p v r
      cases r
      exact q _
omit [Pw] in
theorem cx_no {P : Program} {w : World} {H : Hp} {s : Shared} {e : Value} {s' : Shared} (h : L2.CX P w [] H s (fun _ _ _ => False) e s') : False := by
  obtain ⟨_, _, _, _, _, _, _, _, _, _, _, _, h⟩ := h
  exact h
theorem fnN {P : Program} {w : World} {K : PySem.W.Frag} {mg : Str → Option Value} {base : Heap} {CT : Nat → Addr} {x : Str} {st : Stmt} {ps : List Str} {k : Nat} (h : DefD K mg x st ps) : FnD P w K mg base CT x ps.length k (fun _ _ => none) := by
  obtain ⟨a, fd, F, hm, hb⟩ := h
  exact fnD_none F hm hb rfl
theorem DX.mk3 {k : Nat} {X : Cx} {E : XK} (dx : DX X E k) : X.A.units + 64 < cLine := dx.room.units
theorem DX.mk4 {k : Nat} {X : Cx} {E : XK} (dx : DX X E k) : X.A.units + 65 < cLine := by have := dx.room.un; omega
theorem DX.mk5 {k : Nat} {X : Cx} {E : XK} (dx : DX X E k) : X.A.units + 1 < cLine := by have := dx.room.un; omega
end
end DL
/-! DN: dicts whose keys are nested tuples: what is read and written, by values -/
namespace DL
open PySem PySem.Spec L2
variable [Pw]
/-- a value is a key -/
inductive NkV (K : PySem.W.Frag) (H : Hp) : NestedKey → V → Prop
  | non : NkV K H .none .non
  | bl (b : Bool) : NkV K H (.num (if b = true then 1 else 0)) (.bl b)
  | int (i : Int) : NkV K H (.num i) (.int i)
  | str (x : Str) : NkV K H (.text x) (.str x)
  | tup {a : Addr} {xs : List V} {ks : List NestedKey} : SqT K H a xs → ks.length = xs.length → (∀ (i : Nat) k x, ks[i]? = some k → xs[i]? = some x → NkV K H k x) → NkV K H (.tup ks) (.ref a)
section
variable {X : Cx} {pins : List (Addr × Obj)} {σ : L2.St} {H : Hp} {s : Shared} {a : Addr} {y v : V} {u r : Value} {A : Around} {E : Value → Shared → Prop} {k : NestedKey} {es : List EntN}
theorem nk_all {h : Heap} : ∀ {ks : List NestedKey} {xs : List V} {us : List Value}, Vals xs us → ks.length = xs.length → (∀ (i : Nat) k x u, ks[i]? = some k → xs[i]? = some x → RelV x u → us[i]? = some u → NestedIs h k u) → NestedAll h ks us
  | [], _, _, .nil, _, _ => .nil
  | k :: ks, x :: xs, u :: us, .cons r t, hl, q => .cons (q 0 k x u rfl rfl r rfl) (nk_all t (by simpa using hl) fun i k x u a b c d => q (i + 1) k x u (by simpa using a) (by simpa using b) c (by simpa using d))
  | [], x :: xs, _, _, hl, _ => by simp at hl
  | k :: ks, [], _, _, hl, _ => by simp at hl
theorem nk_is (I : Inv X pins σ H s) (h : NkV X.K H k y) : ∀ u, RelV y u → NestedIs s.heap k u := by
  induction h with
  | non => intro u r; cases r; exact .none
  | bl b => intro u r; cases r; exact .bool rfl
  | int i => intro u r; obtain ⟨t, rfl⟩ := r; exact .int i t
  | str x => intro u r; obtain ⟨t, rfl⟩ := r; exact .text x t
  | tup hs hl _ ih =>
    intro u r
    cases r
    obtain ⟨its, hv, ⟨o, h1, h2, n, h3⟩, _⟩ := I.tuple hs
    refine .tup h1 h2 h3 (nk_all (by simpa using hv) hl fun i k x u e1 e2 e3 _ => ih i k x e1 e2 u e3)
theorem dn_rd (I : Inv X pins σ H s) (e : Rd H a (DNo a es)) : es.length ≤ sizeLine ∧ (a == sysModules) = false ∧ ∃ xs, Paired EntR es xs ∧
    ∃ o os ep, s.heap.get? a = some o ∧ o.ExactDict ∧ o.data = .dict os ep ∧ os.toList = xs.map (entryOfKey (nestedKind Pw.P Pw.w)) ∧ (xs.map (·.1)).Nodup := (e.ok I.hok).1
theorem nroom (hu : A.units + 64 < cLine) : (nestedKind X.prog X.w).room A.in1 := by
  show A.units + 1 + 8 < cLine
  omega
theorem nk_key (I : Inv X pins σ H s) {b : Addr} (h : NkV X.K H k (.ref b)) (hk : k.depth ≤ 8) : (nestedKind X.prog X.w).is s.heap k b := ⟨nk_is I h _ rfl, hk⟩
/-- the keys of a dict still are these tuples -/
def KeysAt (K : PySem.W.Frag) (H : Hp) (es : List EntN) : Prop := ∀ e ∈ es, NkV K H e.1 (.ref e.2.1) ∧ e.1.depth ≤ 8
theorem dn_H (hp : X.prog = Pw.P) (hw : X.w = Pw.w) (I : Inv X pins σ H s) (e : Rd H a (DNo a es)) (hk : KeysAt X.K H es) : es.length ≤ sizeLine ∧ (a == sysModules) = false ∧ ∃ xs, Paired EntR es xs ∧ s.heap.DictOfH (nestedKind X.prog X.w) a xs := by
  obtain ⟨h1, h2, xs, r, o, os, ep, g1, g2, g3, g4, g5⟩ := dn_rd I e
  refine ⟨h1, h2, xs, r, o, os, ep, g1, g2, g3, by rw [hp, hw]; exact g4, ?_, g5⟩
  have all : ∀ {es : List EntN} {xs : List (NestedKey × Addr × Value)}, Paired EntR es xs → KeysAt X.K H es → ∀ x ∈ xs, (nestedKind X.prog X.w).is s.heap x.1 x.2.1 := by
    intro es xs r
    induction r with
    | nil => intro _ x hx; exact nomatch hx
    | @cons p q ps qs hq t ih =>
      intro hk x hx
      rcases List.mem_cons.mp hx with e | hx
      · subst e
        obtain ⟨q1, q2⟩ := hk p List.mem_cons_self
        rw [← hq.1, ← hq.2.1]
        exact nk_key I q1 q2
      · exact ih (fun e he => hk e (List.mem_cons_of_mem _ he)) x hx
  exact all r hk
theorem dn_type (I : Inv X pins σ H s) (e : Rd H a (DNo a es)) : s.TypeIs (.ref a) "dict" ∧ ∃ ob, s.heap.get? a = some ob ∧ ob.dict = none := by
  obtain ⟨_, _, xs, r, o, os, ep, g1, g2, g3, g4, g5⟩ := dn_rd I e
  exact ⟨⟨o, g1, g2.1⟩, o, g1, g2.2.1⟩
/-- d[k], there -/
theorem dn_getItem {b : Addr} {p : Addr × V} {Q : Value → Shared → Prop} (hp : X.prog = Pw.P) (hw : X.w = Pw.w) (hu : A.units + 64 < cLine) (I : Inv X pins σ H s) (e : Rd H a (DNo a es)) (hk : KeysAt X.K H es) (hy : NkV X.K H k (.ref b)) (hd : k.depth ≤ 8) (hv : atN es k = some p)
    (h : ∀ w' s', Inv X pins σ H s' → RelV p.2 w' → Q w' s') : wpAny (model X.prog X.w) A (getItem (.ref a) (.ref b)) Q E s := by
  obtain ⟨_, _, xs, r, hm⟩ := dn_H hp hw I e hk
  obtain ⟨q, hq, _, hr⟩ := (atN_rel r).1 p hv
  exact wpAny_getItem_heap (nroom hu) (nk_key I hy hd) hm hq (h _ _ (I.tok _) hr)
theorem dn_in {b : Addr} {Q : Value → Shared → Prop} (hp : X.prog = Pw.P) (hw : X.w = Pw.w) (hu : A.units + 64 < cLine) (I : Inv X pins σ H s) (e : Rd H a (DNo a es)) (hk : KeysAt X.K H es) (hy : NkV X.K H k (.ref b)) (hd : k.depth ≤ 8)
    (h : ∀ s', Inv X pins σ H s' → Q (.bool (atN es k).isSome) s') : wpAny (model X.prog X.w) A (compareOp .In (.ref b) (.ref a)) Q E s := by
  obtain ⟨_, hs, xs, r, hm⟩ := dn_H hp hw I e hk
  refine wpAny_in_heap (nroom hu) (nk_key I hy hd) hs hm ?_
  rw [atN_isSome r]
  exact h _ (I.tok _)
theorem dn_notIn {b : Addr} {Q : Value → Shared → Prop} (hp : X.prog = Pw.P) (hw : X.w = Pw.w) (hu : A.units + 64 < cLine) (I : Inv X pins σ H s) (e : Rd H a (DNo a es)) (hk : KeysAt X.K H es) (hy : NkV X.K H k (.ref b)) (hd : k.depth ≤ 8)
    (h : ∀ s', Inv X pins σ H s' → Q (.bool (!(atN es k).isSome)) s') : wpAny (model X.prog X.w) A (compareOp .NotIn (.ref b) (.ref a)) Q E s := by
  obtain ⟨_, hs, xs, r, hm⟩ := dn_H hp hw I e hk
  show wpAny _ _ (do return .bool (!(← contains (.ref a) (.ref b)))) Q E s
  refine wpAny_bind (wpAny_contains_heap (nroom hu) (nk_key I hy hd) hs hm (wpAny_pure ?_))
  rw [atN_isSome r]
  exact h _ (I.tok _)
/-- d.get(k, x), d.get(k) -/
theorem dn_getOr {b : Addr} {z : V} {Q : Value → Shared → Prop} (hp : X.prog = Pw.P) (hw : X.w = Pw.w) (hu : A.units + 64 < cLine) (I : Inv X pins σ H s) (e : Rd H a (DNo a es)) (hk : KeysAt X.K H es) (hy : NkV X.K H k (.ref b)) (hd : k.depth ≤ 8) (rz : RelV z r)
    (h : ∀ w' s', Inv X pins σ H s' → RelV (((atN es k).map (·.2)).getD z) w' → Q w' s') : wpAny (model X.prog X.w) A (call (.builtin "dict.get") [.ref a, .ref b, r]) Q E s := by
  obtain ⟨_, hs, xs, rr, hm⟩ := dn_H hp hw I e hk
  refine call_meetsIn PySem.F.slot_dict_get hm.typeIs PySem.F.entry_dict_get (PySem.F.args_dict_get_3 _ _ _) (meetsH_dict_get_default (nestedKind X.prog X.w) a b hs r) ⟨nroom hu, k, xs, nk_key I hy hd, hm, h _ _ (I.tok _) ?_⟩
  cases c : atN es k with
  | none => rw [(atN_rel rr).2 c]; exact rz
  | some p =>
    obtain ⟨q, hq, _, hr⟩ := (atN_rel rr).1 p c
    rw [hq]
    exact hr
theorem dn_setItem {b : Addr} {Q : Unit → Shared → Prop} (hp : X.prog = Pw.P) (hw : X.w = Pw.w) (hu : A.units + 64 < cLine) (I : Inv X pins σ H s) (e : H a = some (DNo a es)) (hk : KeysAt X.K H es) (hy : NkV X.K H k (.ref b)) (hd : k.depth ≤ 8) (hl : es.length < sizeLine) (rv : RelV v r)
    (h : ∀ s', Inv X pins σ (upd H a (DNo a (putN es k b v))) s' → Q () s') : wpAny (model X.prog X.w) A (setItem (.ref a) (.ref b) r) Q E s := by
  obtain ⟨hz, hs, xs, rr, hm⟩ := dn_H hp hw I (.inl e) hk
  have hz' : xs.length ≤ sizeLine := by rw [← Paired.length rr]; exact hz
  have hl' : (putN es k b v).length ≤ sizeLine := by have := putN_len es k b v; omega
  refine wpAny_setItem_heap (hsz := hz') (nroom hu) (nk_key I hy hd) hm fun h' dd' hs' => h _ ?_
  obtain ⟨q, os, ep, hq, h2, h3, h4, _, h5⟩ := dd'
  refine d_write I (by rw [e]; exact True.intro) hs' ⟨q, hq⟩ ⟨⟨hl', hs, _, putN_rel rr rv, q, os, ep, hq, h2, h3, by rw [← hp, ← hw]; exact h4, h5⟩, ⟨q, hq⟩, ?_⟩
  rintro h1 h2' ⟨c1, c2, xs', r', o', os', ep', g1, g2⟩ hh
  exact ⟨c1, c2, xs', r', o', os', ep', hh _ g1, g2⟩
/-- a dict's object, new -/
theorem dno_new {H' : Hp} {h' : Heap} {xs : List (NestedKey × Addr × Value)} {o : Obj} {os : Array DictEntry} {ep : Nat} (hl : es.length ≤ sizeLine) (hs : (a == sysModules) = false) (rr : Paired EntR es xs) (h1 : h'.get? a = some o) (h2 : o.ExactDict) (h3 : o.data = .dict os ep)
    (h4 : os.toList = xs.map (entryOfKey (nestedKind Pw.P Pw.w))) (h5 : (xs.map (·.1)).Nodup) : ObjOk X.prog X.w H' h' a (DNo a es) :=
  ⟨⟨hl, hs, xs, rr, o, os, ep, h1, h2, h3, h4, h5⟩, ⟨o, h1⟩, by
    rintro h1 h2' ⟨c1, c2, xs', r', o', os', ep', g1, g2⟩ hh
    exact ⟨c1, c2, xs', r', o', os', ep', hh _ g1, g2⟩⟩
theorem dn_empty (I : Inv X pins σ H s) : ObjOk X.prog X.w H (s.heap.push { cls := .type "dict", data := .dict #[] }) s.heap.objs.size (DNo s.heap.objs.size []) :=
  dno_new (Nat.zero_le _) (beq_eq_false_iff_ne.mpr (Ne.symm (Nat.ne_of_lt I.big))) .nil (Heap.get?_push_size _ rfl) ⟨rfl, rfl, rfl⟩ rfl rfl List.nodup_nil
/-- len(d) -/
theorem dn_len {Q : Value → Shared → Prop} (hp : X.prog = Pw.P) (hw : X.w = Pw.w) (I : Inv X pins σ H s) (e : Rd H a (DNo a es)) (hk : KeysAt X.K H es) (h : ∀ t s', Inv X pins σ H s' → Q (.int es.length t) s') : wpAny (model X.prog X.w) A (call (.builtin "len") [.ref a]) Q E s := by
  obtain ⟨hz, hs, xs, rr, hm⟩ := dn_H hp hw I e hk
  have hl : es.length = xs.length := Paired.length rr
  refine call_len_dictH hs hm (by rw [← hl]; rw [sizeLine_eq] at hz; omega) ?_
  rw [← hl]
  exact h _ _ (I.tok _)
/-- the entries, raw -/
theorem dn_raw (I : Inv X pins σ H s) (e : Rd H a (DNo a es)) : (a == sysModules) = false ∧ ∃ os ep, s.heap.DictRaw a os ep ∧ os.size = es.length ∧
    ∀ (i : Nat) (hi : i < os.size), ∃ p, es[i]? = some p ∧ os[i].key = .ref p.2.1 ∧ RelV p.2.2 os[i].val := by
  obtain ⟨h1, h2, xs, r, o, os, ep, g1, g2, g3, g4, g5⟩ := dn_rd I e
  have l1 : os.size = xs.length := size_of_entries g4
  have l2 : es.length = xs.length := Paired.length r
  refine ⟨h2, os, ep, ⟨o, g1, g2, g3⟩, by omega, fun i hi => ?_⟩
  obtain ⟨p, hp⟩ : ∃ p, es[i]? = some p := ⟨es[i]'(by omega), List.getElem?_eq_getElem _⟩
  obtain ⟨q, hq, _, e2, e3⟩ := paired_get r hp
  have z := entry_at g4 i
  rw [hq] at z
  have z2 : os[i]? = some os[i] := Array.getElem?_eq_getElem hi
  rw [z2] at z
  have z3 : os[i] = entryOfKey (nestedKind Pw.P Pw.w) q := Option.some.inj z
  exact ⟨p, hp, by rw [z3, e2]; rfl, by rw [z3]; exact e3⟩
end

/-! ### walks over a dict that is held still -/
abbrev FrN (H : Hp) (d : Addr) (es : List EntN) : Prop := ∃ o, H d = some (.frz o (DNo d es))
section
variable {P : Program} {w : World} {K : PySem.W.Frag} {tg : Expr} {d : Addr} {o : Obj} {os : Array DictEntry} {ep : Nat} {es : List EntN}
theorem FrN.raw {X : Cx} {pins : List (Addr × Obj)} {σ : L2.St} {H : Hp} {s : Shared} (I : Inv X pins σ H s) (h : FrN H d es) (hd : H d = some (.frz o (DNo d es))) (ho : o.data = .dict os ep) :
    (d == sysModules) = false ∧ s.heap.DictRaw d os ep ∧ os.size = es.length ∧ ∀ (i : Nat) (hi : i < os.size), ∃ p, es[i]? = some p ∧ os[i].key = .ref p.2.1 ∧ RelV p.2.2 os[i].val := by
  obtain ⟨h1, os', ep', h2, h3, h4⟩ := dn_raw I (.inr ⟨o, hd⟩)
  obtain ⟨o2, g1, g2, g3⟩ := id h2
  obtain ⟨q, _⟩ := I.hok d _ hd
  rw [q] at g1; cases g1
  rw [ho] at g3; cases g3
  exact ⟨h1, h2, h3, h4⟩
/-- held as the object o -/
abbrev FrO (H : Hp) (d : Addr) (o : Obj) (es : List EntN) : Prop := H d = some (.frz o (DNo d es))
def ItnK' (d : Addr) (o : Obj) (es : List EntN) : It := ⟨fun i H => FrO H d o es ∧ i < es.length, fun i H x H' => H' = H ∧ ∃ p, es[i]? = some p ∧ x = .ref p.2.1, fun i H => FrO H d o es ∧ es.length ≤ i⟩
def ItnV' (d : Addr) (o : Obj) (es : List EntN) : It := ⟨fun i H => FrO H d o es ∧ i < es.length, fun i H x H' => H' = H ∧ ∃ p, es[i]? = some p ∧ x = p.2.2, fun i H => FrO H d o es ∧ es.length ≤ i⟩
def ItnI' (d : Addr) (o : Obj) (es : List EntN) : It := ⟨fun i H => FrO H d o es ∧ i < es.length, fun i H x H' => ∃ T p, es[i]? = some p ∧ x = .ref T ∧ H T = none ∧ H' = upd H T (.tup [.ref p.2.1, p.2.2]), fun i H => FrO H d o es ∧ es.length ≤ i⟩
theorem turn_nk (it : Addr) (hod : o.data = .dict os ep) : Turn P w K tg (ItnK' d o es) [it] it (fun i h => h.IsKeyIter it d i es.length ep) where
  mem := by simp
  obj := fun i h st b hb => by
    obtain rfl : b = it := by simpa using hb
    obtain ⟨oi, e, c, dd⟩ := st
    exact ⟨oi, e, fun v z => by rw [dd] at z; cases z⟩
  keep := fun i h h' st k => st.at fun oi e => k it (by simp) oi e
  item := by
    intro X hP hw hK hc i pins s σ H E I hf st ⟨hd, hi⟩
    subst hP hw hK
    obtain ⟨f0, f1, f2, f3, f4, f5⟩ := hf it (by simp)
    obtain ⟨hs, hr, hsz, ent⟩ := FrN.raw I ⟨o, hd⟩ hd hod
    rw [← hsz] at st hi
    obtain ⟨p, hp, hkey, _⟩ := ent i hi
    refine wpAny_pyNext_keys_item_raw st hr hi fun h' st' sb => ?_
    have I1 : Inv X pins σ H { s with heap := h' } := I.turned (t' := s.toks) (fun b ob hb e => (sb.2 b hb).trans e) f0 f1 f3 f4 f5
    obtain ⟨oi, e, c, dd⟩ := id st'
    rw [hsz] at st'
    exact ⟨_, rfl, go_of (s := { s with heap := h' }) e c dd (by decide) ⟨.ref p.2.1, H, I1, hkey, ⟨rfl, p, hp, rfl⟩, st', fun b hb => (hf b hb).1⟩⟩
  done := by
    intro X hP hw hK hc i pins s σ H E I hf st ⟨hd, hi⟩
    subst hP hw hK
    obtain ⟨f0, f1, f2, f3, f4, f5⟩ := hf it (by simp)
    obtain ⟨hs, hr, hsz, ent⟩ := FrN.raw I ⟨o, hd⟩ hd hod
    rw [← hsz] at st hi
    exact wpAny_pyNext_keys_end_raw (I.ok.hd hc) st hr hi fun h' eb => ⟨rfl, I.turned (t' := s.toks) (fun b ob hb e => eb b ob hb e) f0 f1 f3 f4 f5⟩
  self := fun A i s Q E st h => wpAny_pyIter_keyiter st h
theorem turn_nv (it : Addr) (hod : o.data = .dict os ep) : Turn P w K tg (ItnV' d o es) [it] it (fun i h => h.IsValIter it d i es.length ep) where
  mem := by simp
  obj := fun i h st b hb => by
    obtain rfl : b = it := by simpa using hb
    obtain ⟨oi, e, c, dd⟩ := st
    exact ⟨oi, e, fun v z => by rw [dd] at z; cases z⟩
  keep := fun i h h' st k => st.at fun oi e => k it (by simp) oi e
  item := by
    intro X hP hw hK hc i pins s σ H E I hf st ⟨hd, hi⟩
    subst hP hw hK
    obtain ⟨f0, f1, f2, f3, f4, f5⟩ := hf it (by simp)
    obtain ⟨hs, hr, hsz, ent⟩ := FrN.raw I ⟨o, hd⟩ hd hod
    rw [← hsz] at st hi
    obtain ⟨p, hp, _, hval⟩ := ent i hi
    refine wpAny_pyNext_values_item_raw st hr hi fun h' st' sb => ?_
    have I1 : Inv X pins σ H { s with heap := h' } := I.turned (t' := s.toks) (fun b ob hb e => (sb.2 b hb).trans e) f0 f1 f3 f4 f5
    obtain ⟨oi, e, c, dd⟩ := id st'
    rw [hsz] at st'
    exact ⟨_, rfl, go_of (s := { s with heap := h' }) e c dd (by decide) ⟨p.2.2, H, I1, hval, ⟨rfl, p, hp, rfl⟩, st', fun b hb => (hf b hb).1⟩⟩
  done := by
    intro X hP hw hK hc i pins s σ H E I hf st ⟨hd, hi⟩
    subst hP hw hK
    obtain ⟨f0, f1, f2, f3, f4, f5⟩ := hf it (by simp)
    obtain ⟨hs, hr, hsz, ent⟩ := FrN.raw I ⟨o, hd⟩ hd hod
    rw [← hsz] at st hi
    exact wpAny_pyNext_values_end_raw (I.ok.hd hc) st hr hi fun h' eb => ⟨rfl, I.turned (t' := s.toks) (fun b ob hb e => eb b ob hb e) f0 f1 f3 f4 f5⟩
  self := fun A i s Q E st h => wpAny_pyIter_valiter st h
theorem turn_ni {elts : List Expr} {kk : Nat} {tpos : Pos} (it : Addr) (hod : o.data = .dict os ep) : Turn P w K (.Tuple elts kk tpos) (ItnI' d o es) [it] it (fun i h => ∃ ok ov, IsItemIter h it d i es.length ep ok ov) where
  mem := by simp
  obj := fun i h st b hb => by
    obtain rfl : b = it := by simpa using hb
    obtain ⟨ok, ov, e⟩ := st
    exact ⟨_, e, fun v z => nomatch z⟩
  keep := fun i h h' st k => let ⟨ok, ov, e⟩ := st; ⟨ok, ov, k it (by simp) _ e⟩
  item := by
    intro X hP hw hK hc i pins s σ H E I hf st ⟨hd, hi⟩
    subst hP hw hK
    obtain ⟨hs, hr, hsz, ent⟩ := FrN.raw I ⟨o, hd⟩ hd hod
    obtain ⟨ok, ov, he⟩ := st
    rw [← hsz] at he hi
    obtain ⟨p, hp, hkey, hval⟩ := ent i hi
    have hlt : it < s.heap.objs.size := Heap.lt_size he
    refine wpAny_pyNext_items_item_raw he hr hi fun h' ho hT hz hk => ?_
    refine ⟨_, rfl, wpAny_letOwnedTupleGo_items (s := { s with heap := h' }) ho fun h'' he' sb => ?_⟩
    have hT2 := (sb.2 _ (Nat.ne_of_gt hlt)).trans hT
    have new : ObjOk X.prog X.w (upd H s.heap.objs.size (.tup [.ref p.2.1, p.2.2])) h'' s.heap.objs.size (.tup [.ref p.2.1, p.2.2]) :=
      ⟨by show 2 ≤ sizeLine; decide, [os[i].key, os[i].val], .cons hkey (.cons hval .nil), ⟨_, hT2, rfl, _, rfl⟩⟩
    have I1 : Inv X pins σ (upd H s.heap.objs.size (.tup [.ref p.2.1, p.2.2])) { s with heap := h'' } :=
      I.turnedNew (t' := s.toks) (ch := [it]) (fun b ob hb e => (sb.2 b (by simpa using hb)).trans (hk b ob (by simpa using hb) e)) hf (Nat.le_refl _) new
    refine ⟨.ref s.heap.objs.size, _, I1, rfl, ⟨_, p, hp, rfl, I.hok.fresh (Nat.le_refl _), rfl⟩, ⟨_, _, by rw [hsz] at he'; exact he'⟩, fun b hb => ?_⟩
    obtain rfl : b = it := by simpa using hb
    rw [upd_ne (Nat.ne_of_lt hlt)]
    exact (hf b (by simp)).1
  done := by
    intro X hP hw hK hc i pins s σ H E I hf st ⟨hd, hi⟩
    subst hP hw hK
    obtain ⟨f0, f1, f2, f3, f4, f5⟩ := hf it (by simp)
    obtain ⟨hs, hr, hsz, ent⟩ := FrN.raw I ⟨o, hd⟩ hd hod
    obtain ⟨ok, ov, he⟩ := st
    rw [← hsz] at he hi
    exact wpAny_pyNext_items_end_raw (I.ok.hd hc) he hr hi fun h' eb => ⟨rfl, I.turned (t' := s.toks) (fun b ob hb e => eb b ob hb e) f0 f1 f3 f4 f5⟩
  self := fun A i s Q E st h => let ⟨_, _, e⟩ := st; wpAny_pyIter_itemiter e h
end
/-- the walked thing is a dict that is held still -/
def iN (J : Addr → Obj → List EntN → It) (td : TE) : TI := fun σ H R => td σ H fun x H1 => ∃ d o es, x = .ref d ∧ FrO H1 d o es ∧ R (J d o es) H1
section
variable {X : Cx} {tg e : Expr} {td : TE} {apos cpos : Pos}
theorem FrO.data {pins : List (Addr × Obj)} {σ : L2.St} {H : Hp} {s : Shared} {d : Addr} {o : Obj} {es : List EntN} (I : Inv X pins σ H s) (h : FrO H d o es) : ∃ os ep, o.data = .dict os ep := by
  obtain ⟨_, _, xs, r, o', os, ep, g1, g2, g3, _⟩ := dn_rd I (.inr ⟨o, h⟩)
  obtain ⟨q, _⟩ := I.hok d _ h
  rw [q] at g1; cases g1
  exact ⟨os, ep, g3⟩
theorem pi_nk (he : PE X e td) : PI X tg e (iN ItnK' td) := by
  refine ⟨fun pins s σ H R I h => ?_⟩
  refine thn (he.run pins s σ H _ I h) fun u s1 ⟨x, H1, I1, rx, d, o, es, ex, hd, q⟩ => ?_
  subst ex
  obtain rfl : u = Value.ref d := rx
  obtain ⟨os, ep, ho⟩ := hd.data I1
  obtain ⟨hs, hr, hsz, _⟩ := FrN.raw I1 ⟨o, hd⟩ hd ho
  refine wpAny_pyIter_dict_raw hs hr (pi_one (tk := s1.toks) I1 _ (turn_nk _ ho) ⟨_, Heap.get?_push_size _ rfl, rfl, ?_⟩ q)
  rw [hsz] <;> rfl
theorem pi_nv (he : PE X e td) (hbase : attributeBase e "values" X.env (eval e X.env) = eval e X.env := by rfl) (hline : (apos.endLine == cpos.line) = true := by rfl) : PI X tg (.Call (.Attribute e "values" apos) [] [] cpos) (iN ItnV' td) := by
  refine ⟨fun pins s σ H R I h => ?_⟩
  refine wpAny_Call_method (T := "dict") (id := "dict.values") hbase rfl hline PySem.F.plainAttrs_dict PySem.F.slot_dict_values PySem.F.type_dict_values (thn (he.run pins s σ H _ I h) fun u s1 ⟨x, H1, I1, rx, d, o, es, ex, hd, q⟩ => ?_)
  subst ex
  obtain rfl : u = Value.ref d := rx
  obtain ⟨os, ep, ho⟩ := hd.data I1
  obtain ⟨hs, hr, hsz, _⟩ := FrN.raw I1 ⟨o, hd⟩ hd ho
  obtain ⟨t1, ob, t2, t3⟩ := dn_type I1 (.inr ⟨o, hd⟩)
  refine ⟨t1, fun b q => by cases q; exact ⟨ob, t2, t3⟩, ?_⟩
  have I2 : Inv X pins σ H1 { s1 with heap := s1.heap.push { cls := .type "dict_values", data := .fields #[.ref d] } } := I1.kept (t' := s1.toks) fun b ob q => Heap.get?_push_of_some _ q
  have fin : wpAny (model X.prog X.w) X.A (pyIter (.ref s1.heap.objs.size)) (PIE X pins σ tg R) X.xe { s1 with heap := s1.heap.push { cls := .type "dict_values", data := .fields #[.ref d] } } := by
    refine wpAny_pyIter_values_raw (d := d) ⟨_, Heap.get?_push_size _ rfl, rfl, rfl⟩ (hr.at fun o e => Heap.get?_push_of_some _ e) (pi_one (tk := s1.toks) I2 _ (turn_nv _ ho) ⟨_, Heap.get?_push_size _ rfl, rfl, ?_⟩ q)
    rw [hsz] <;> rfl
  show wpAny _ _ (callWith cpos (.builtin "dict.values") [.ref d] [] []) _ X.xe s1
  exact method_meetsIn PySem.F.slot_dict_values PySem.F.entry_dict_values rfl (PySem.evalArgs_none ⟨rfl, t1, PySem.F.args_dict_values_1 _, _, meets_dict_values_raw d hs, ⟨os, ep, hr⟩, fin⟩)
theorem pi_ni {elts : List Expr} {kk : Nat} {tpos : Pos} (he : PE X e td) (hbase : attributeBase e "items" X.env (eval e X.env) = eval e X.env := by rfl) (hline : (apos.endLine == cpos.line) = true := by rfl) :
    PI X (.Tuple elts kk tpos) (.Call (.Attribute e "items" apos) [] [] cpos) (iN ItnI' td) := by
  refine ⟨fun pins s σ H R I h => ?_⟩
  refine wpAny_Call_method (T := "dict") (id := "dict.items") hbase rfl hline PySem.F.plainAttrs_dict PySem.F.slot_dict_items PySem.F.type_dict_items (thn (he.run pins s σ H _ I h) fun u s1 ⟨x, H1, I1, rx, d, o, es, ex, hd, q⟩ => ?_)
  subst ex
  obtain rfl : u = Value.ref d := rx
  obtain ⟨os, ep, ho⟩ := hd.data I1
  obtain ⟨hs, hr, hsz, _⟩ := FrN.raw I1 ⟨o, hd⟩ hd ho
  obtain ⟨t1, ob, t2, t3⟩ := dn_type I1 (.inr ⟨o, hd⟩)
  refine ⟨t1, fun b q => by cases q; exact ⟨ob, t2, t3⟩, ?_⟩
  have I2 : Inv X pins σ H1 { s1 with heap := s1.heap.push { cls := .type "dict_items", data := .fields #[.ref d] } } := I1.kept (t' := s1.toks) fun b ob q => Heap.get?_push_of_some _ q
  have fin : wpAny (model X.prog X.w) X.A (pyIter (.ref s1.heap.objs.size)) (PIE X pins σ (.Tuple elts kk tpos) R) X.xe { s1 with heap := s1.heap.push { cls := .type "dict_items", data := .fields #[.ref d] } } := by
    refine wpAny_pyIter_items_raw (d := d) ⟨_, Heap.get?_push_size _ rfl, rfl, rfl⟩ (hr.at fun o e => Heap.get?_push_of_some _ e) (pi_one (tk := s1.toks) I2 _ (turn_ni _ ho) ⟨.none, .none, ?_⟩ q)
    rw [← hsz]
    exact Heap.get?_push_size _ rfl
  show wpAny _ _ (callWith cpos (.builtin "dict.items") [.ref d] [] []) _ X.xe s1
  exact method_meetsIn PySem.F.slot_dict_items PySem.F.entry_dict_items rfl (PySem.evalArgs_none ⟨rfl, t1, PySem.F.args_dict_items_1 _, _, meets_dict_items_raw d hs, ⟨os, ep, hr⟩, fin⟩)
end
end DL
/-! DM: dicts by data -/
namespace DL
open PySem PySem.Spec L2 PyProof.Rows
variable [Pw]
/-! ### tables -/
def lkN (kvs : List (D × D)) (k : NestedKey) : Option D := (kvs.find? fun p => decide (keyN p.1 = some k)).map (·.2)
def ptN (kvs : List (D × D)) (k : NestedKey) (kd vd : D) : List (D × D) := if (lkN kvs k).isSome = true then kvs.map (fun p => if keyN p.1 = some k then (p.1, vd) else p) else kvs ++ [(kd, vd)]
def lkS (kvs : List (Key × D)) (k : Key) : Option D := (kvs.find? fun p => decide (p.1 = k)).map (·.2)
def ptS (kvs : List (Key × D)) (k : Key) (vd : D) : List (Key × D) := if (lkS kvs k).isSome = true then kvs.map (fun p => if p.1 = k then (p.1, vd) else p) else kvs ++ [(k, vd)]
section
variable {K : PySem.W.Frag} {F F' H : Hp} {α : List Addr} {es : List EntN} {kvs : List (D × D)} {k : NestedKey}
theorem EnR.nil : EnR K F α [] [] := ⟨rfl, by simp, by simp, by simp⟩
theorem EnR.cons {e : EntN} {p : D × D} (h1 : keyN p.1 = some e.1) (h2 : Rv K F α (.ref e.2.1) p.1) (h3 : Rv K F α e.2.2 p.2) (h : EnR K F α es kvs) : EnR K F α (e :: es) (p :: kvs) := by
  refine ⟨by simp [h.len], fun i a b e1 e2 => ?_, fun i a b e1 e2 => ?_, fun i a b e1 e2 => ?_⟩ <;> cases i with
  | zero => simp at e1 e2; subst e1; subst e2; assumption
  | succ i => simp at e1 e2; first | exact h.key i a b e1 e2 | exact h.kv i a b e1 e2 | exact h.val i a b e1 e2
theorem EnR.tail {e : EntN} {p : D × D} (h : EnR K F α (e :: es) (p :: kvs)) : EnR K F α es kvs :=
  ⟨by simpa using h.len, fun i a b e1 e2 => h.key (i + 1) a b (by simpa using e1) (by simpa using e2), fun i a b e1 e2 => h.kv (i + 1) a b (by simpa using e1) (by simpa using e2), fun i a b e1 e2 => h.val (i + 1) a b (by simpa using e1) (by simpa using e2)⟩
theorem EnR.ind {P : List EntN → List (D × D) → Prop} (h : EnR K F α es kvs) (h0 : P [] []) (hs : ∀ e p es kvs, keyN p.1 = some e.1 → Rv K F α (.ref e.2.1) p.1 → Rv K F α e.2.2 p.2 → EnR K F α es kvs → P es kvs → P (e :: es) (p :: kvs)) : P es kvs := by
  induction es generalizing kvs with
  | nil =>
    have := h.len
    obtain rfl : kvs = [] := List.length_eq_zero_iff.mp (by simpa using this.symm)
    exact h0
  | cons e es ih =>
    cases kvs with
    | nil => have := h.len; simp at this
    | cons p kvs => exact hs e p es kvs (h.key 0 e p rfl rfl) (h.kv 0 e p rfl rfl) (h.val 0 e p rfl rfl) h.tail (ih h.tail)
theorem EnR.lk (h : EnR K F α es kvs) : (∀ d, lkN kvs k = some d → ∃ p, atN es k = some p ∧ Rv K F α p.2 d) ∧ (lkN kvs k = none → atN es k = none) := by
  refine h.ind (P := fun es kvs => (∀ d, lkN kvs k = some d → ∃ p, atN es k = some p ∧ Rv K F α p.2 d) ∧ (lkN kvs k = none → atN es k = none)) ⟨fun d h => by simp [lkN] at h, fun _ => rfl⟩ fun e p es kvs h1 h2 h3 h ih => ?_
  by_cases c : e.1 = k
  · have c' : keyN p.1 = some k := by rw [h1, c]
    have e1 : atN (e :: es) k = some e.2 := by simp [atN, List.find?_cons, c]
    have e2 : lkN (p :: kvs) k = some p.2 := by simp [lkN, List.find?_cons, c']
    rw [e1, e2]
    exact ⟨fun d hd => by cases hd; exact ⟨_, rfl, h3⟩, fun z => by cases z⟩
  · have c' : ¬ keyN p.1 = some k := by rw [h1]; simpa using c
    have e1 : atN (e :: es) k = atN es k := by simp [atN, List.find?_cons, c]
    have e2 : lkN (p :: kvs) k = lkN kvs k := by simp [lkN, List.find?_cons, c']
    rw [e1, e2]
    exact ih
theorem EnR.some_eq (h : EnR K F α es kvs) : (atN es k).isSome = (lkN kvs k).isSome := by
  cases c : lkN kvs k with
  | none => rw [(h.lk).2 c]; rfl
  | some d => obtain ⟨p, hp, _⟩ := (h.lk).1 d c; rw [hp]; rfl
theorem EnR.put {b : Addr} {v : V} {kd vd : D} (h : EnR K F α es kvs) (hk : keyN kd = some k) (rk : Rv K F α (.ref b) kd) (rv : Rv K F α v vd) : EnR K F α (putN es k b v) (ptN kvs k kd vd) := by
  unfold putN ptN
  rw [h.some_eq]
  split
  · rename_i hc
    clear hc
    refine h.ind (P := fun es kvs => EnR K F α (es.map (putN1 k v)) (kvs.map fun p => if keyN p.1 = some k then (p.1, vd) else p)) .nil fun e p es kvs h1 h2 h3 h ih => ?_
    simp only [List.map_cons]
    by_cases c : e.1 = k
    · have c' : keyN p.1 = some k := by rw [h1, c]
      have e1 : putN1 k v e = (e.1, e.2.1, v) := by simp [putN1, c]
      rw [e1, if_pos c']
      exact .cons h1 h2 rv ih
    · have c' : ¬ keyN p.1 = some k := by rw [h1]; simpa using c
      have e1 : putN1 k v e = e := by simp [putN1, c]
      rw [e1, if_neg c']
      exact .cons h1 h2 h3 ih
  · rename_i hc
    clear hc
    refine h.ind (P := fun es kvs => EnR K F α (es ++ [(k, b, v)]) (kvs ++ [(kd, vd)])) (.cons hk rk rv .nil) fun e p es kvs h1 h2 h3 h ih => .cons h1 h2 h3 ih
theorem ptN_len {kd vd : D} : (ptN kvs k kd vd).length ≤ kvs.length + 1 := by
  unfold ptN; split <;> simp
/-- data that is a key -/
theorem nkD_tup {l : List D} {k : NestedKey} (h : nkD (.tup l) = some k) : ∃ ks, k = .tup ks ∧ nkL l = some ks := by
  simp only [nkD] at h
  split at h
  · cases h; exact ⟨_, rfl, by assumption⟩
  · cases h
theorem nkL_at : ∀ {l : List D} {ks : List NestedKey}, nkL l = some ks → ks.length = l.length ∧ ∀ (i : Nat) k d, ks[i]? = some k → l[i]? = some d → nkD d = some k
  | [], ks, h => by simp [nkL] at h; subst h; simp
  | d :: r, ks, h => by
    simp only [nkL] at h
    split at h
    · rename_i k ks' h1 h2
      cases h
      obtain ⟨q1, q2⟩ := nkL_at h2
      refine ⟨by simp [q1], fun i k' d' a b => ?_⟩
      cases i with
      | zero => simp at a b; subst a; subst b; exact h1
      | succ i => simp at a b; exact q2 i k' d' a b
    · cases h
theorem Rv.nk {v : V} {d : D} {k : NestedKey} (s : Same F H) (r : Rv K F α v d) (h : nkD d = some k) : NkV K H k v := by
  induction r generalizing k with
  | non => simp [nkD] at h; subst h; exact .non
  | bl b => simp [nkD] at h; subst h; exact .bl b
  | int i => simp [nkD] at h; subst h; exact .int i
  | str x => simp [nkD] at h; subst h; exact .str x
  | tup h1 h2 h3 ih =>
    obtain ⟨ks, rfl, hl⟩ := nkD_tup h
    obtain ⟨q1, q2⟩ := nkL_at hl
    refine .tup (SqT.mono s h1) (q1.trans h2.symm) fun i k x e1 e2 => ?_
    rename_i a xs ds
    have hi : i < ds.length := by rw [← h2]; exact (List.getElem?_eq_some_iff.mp e2).1
    exact ih i x ds[i] e2 (List.getElem?_eq_getElem hi) (q2 i k _ e1 (List.getElem?_eq_getElem hi))
  | lst _ _ _ _ => simp [nkD] at h
  | ro _ _ _ _ => simp [nkD] at h
  | cel _ => simp [nkD] at h
  | dic _ _ _ _ => simp [nkD] at h
  | dcn _ _ _ _ _ _ _ _ => simp [nkD] at h
  | glo _ => simp [nkD] at h
theorem keyN_ok {d : D} {k : NestedKey} (h : keyN d = some k) : (∃ l, d = .tup l) ∧ nkD d = some k ∧ k.depth ≤ 8 := by
  cases d <;> simp only [keyN] at h <;> try cases h
  rename_i l
  split at h
  · rename_i k' hk
    split at h
    · cases h; exact ⟨⟨l, rfl⟩, hk, by assumption⟩
    · cases h
  · cases h
theorem Rv.key {v : V} {d : D} {k : NestedKey} (s : Same F H) (r : Rv K F α v d) (h : keyN d = some k) : ∃ b, v = .ref b ∧ NkV K H k (.ref b) ∧ k.depth ≤ 8 := by
  obtain ⟨⟨l, rfl⟩, h2, h3⟩ := keyN_ok h
  obtain ⟨b, xs, rfl, _, _⟩ := r.of_tup
  exact ⟨b, rfl, r.nk s h2, h3⟩
theorem EnR.keys (s : Same F H) (h : EnR K F α es kvs) : KeysAt K H es := by
  intro e he
  obtain ⟨i, hi⟩ := List.mem_iff_getElem?.mp he
  have hl : i < kvs.length := by rw [← h.len]; exact (List.getElem?_eq_some_iff.mp hi).1
  have hp := List.getElem?_eq_getElem hl
  obtain ⟨b, e1, e2, e3⟩ := (h.kv i e _ hi hp).key s (h.key i e _ hi hp)
  cases e1
  exact ⟨e2, e3⟩
end
/-! ### with ints and texts as keys -/
section
variable {K : PySem.W.Frag} {F F' H : Hp} {α : List Addr} {es : List (Key × V)} {kvs : List (Key × D)} {k : Key}
theorem KnR.nil : KnR K F α [] [] := ⟨rfl, by simp, by simp⟩
theorem KnR.cons {e : Key × V} {p : Key × D} (h1 : p.1 = e.1) (h3 : Rv K F α e.2 p.2) (h : KnR K F α es kvs) : KnR K F α (e :: es) (p :: kvs) := by
  refine ⟨by simp [h.len], fun i a b e1 e2 => ?_, fun i a b e1 e2 => ?_⟩ <;> cases i with
  | zero => simp at e1 e2; subst e1; subst e2; assumption
  | succ i => simp at e1 e2; first | exact h.key i a b e1 e2 | exact h.val i a b e1 e2
theorem KnR.tail {e : Key × V} {p : Key × D} (h : KnR K F α (e :: es) (p :: kvs)) : KnR K F α es kvs :=
  ⟨by simpa using h.len, fun i a b e1 e2 => h.key (i + 1) a b (by simpa using e1) (by simpa using e2), fun i a b e1 e2 => h.val (i + 1) a b (by simpa using e1) (by simpa using e2)⟩
theorem KnR.ind {P : List (Key × V) → List (Key × D) → Prop} (h : KnR K F α es kvs) (h0 : P [] []) (hs : ∀ e p es kvs, p.1 = e.1 → Rv K F α e.2 p.2 → KnR K F α es kvs → P es kvs → P (e :: es) (p :: kvs)) : P es kvs := by
  induction es generalizing kvs with
  | nil =>
    have := h.len
    obtain rfl : kvs = [] := List.length_eq_zero_iff.mp (by simpa using this.symm)
    exact h0
  | cons e es ih =>
    cases kvs with
    | nil => have := h.len; simp at this
    | cons p kvs => exact hs e p es kvs (h.key 0 e p rfl rfl) (h.val 0 e p rfl rfl) h.tail (ih h.tail)
theorem KnR.lk (h : KnR K F α es kvs) : (∀ d, lkS kvs k = some d → ∃ v, valV es k = some v ∧ Rv K F α v d) ∧ (lkS kvs k = none → valV es k = none) := by
  refine h.ind (P := fun es kvs => (∀ d, lkS kvs k = some d → ∃ v, valV es k = some v ∧ Rv K F α v d) ∧ (lkS kvs k = none → valV es k = none)) ⟨fun d h => by simp [lkS] at h, fun _ => rfl⟩ fun e p es kvs h1 h3 h ih => ?_
  by_cases c : e.1 = k
  · have c' : p.1 = k := h1.trans c
    have e1 : valV (e :: es) k = some e.2 := valV_pos c
    have e2 : lkS (p :: kvs) k = some p.2 := by simp [lkS, List.find?_cons, c']
    rw [e1, e2]
    exact ⟨fun d hd => by cases hd; exact ⟨_, rfl, h3⟩, fun z => by cases z⟩
  · have c' : ¬ p.1 = k := by rw [h1]; exact c
    have e1 : valV (e :: es) k = valV es k := valV_neg c
    have e2 : lkS (p :: kvs) k = lkS kvs k := by simp [lkS, List.find?_cons, c']
    rw [e1, e2]
    exact ih
theorem KnR.some_eq (h : KnR K F α es kvs) : (valV es k).isSome = (lkS kvs k).isSome := by
  cases c : lkS kvs k with
  | none => rw [(h.lk).2 c]; rfl
  | some d => obtain ⟨p, hp, _⟩ := (h.lk).1 d c; rw [hp]; rfl
theorem KnR.put {v : V} {vd : D} (h : KnR K F α es kvs) (rv : Rv K F α v vd) : KnR K F α (putK es k v) (ptS kvs k vd) := by
  unfold putK ptS
  rw [valV_any, h.some_eq]
  split
  · rename_i hc
    clear hc
    refine h.ind (P := fun es kvs => KnR K F α (es.map fun kv => if kv.1 = k then (kv.1, v) else kv) (kvs.map fun p => if p.1 = k then (p.1, vd) else p)) .nil fun e p es kvs h1 h3 h ih => ?_
    simp only [List.map_cons]
    by_cases c : e.1 = k
    · rw [if_pos c, if_pos (h1.trans c)]
      exact .cons h1 rv ih
    · rw [if_neg c, if_neg (by rw [h1]; exact c)]
      exact .cons h1 h3 ih
  · rename_i hc
    clear hc
    refine h.ind (P := fun es kvs => KnR K F α (es ++ [(k, v)]) (kvs ++ [(k, vd)])) (.cons rfl rv .nil) fun e p es kvs h1 h3 h ih => .cons h1 h3 ih
end
/-! ### views -/
/-- the entries of a dict as it is now -/
def D.dkn (M : Sto) (d : D) : Option (List (D × D)) := match d with
  | .cel n => match M[n]? with
    | some (.dkn kvs) => some kvs
    | _ => none
  | .dcn ks ds => some (ks.zip ds)
  | _ => none
def D.dks (M : Sto) (d : D) : Option (List (Key × D)) := match d with
  | .cel n => match M[n]? with
    | some (.dks kvs) => some kvs
    | _ => none
  | _ => none
section
variable {Z : List (Addr × HO)} {K : PySem.W.Frag} {F H : Hp} {α : List Addr} {M : Sto} {v : V} {d : D}
theorem dcn_ok {ks ds : List D} (r : Rv K F α v (.dcn ks ds)) : ∃ a o es, v = .ref a ∧ F a = some (.frz o (DNo a es)) ∧ EnR K F α es (ks.zip ds) ∧ es.length = ks.length ∧ es.length = ds.length := by
  cases r with
  | dcn h1 h2 h3 h4 h5 h6 =>
    rename_i a o es
    refine ⟨a, o, es, rfl, h1, ⟨by simp [← h2, ← h3], fun i e p e1 e2 => ?_, fun i e p e1 e2 => ?_, fun i e p e1 e2 => ?_⟩, h2, h3⟩
    · exact h4 i e _ e1 (zip_at e2).1
    · exact h5 i e _ e1 (zip_at e2).1
    · exact h6 i e _ e1 (zip_at e2).2
theorem dkn_ok {kvs : List (D × D)} (w : W K Z F H α M) (r : Rv K F α v d) (h : d.dkn M = some kvs) : ∃ a es, v = .ref a ∧ Rd H a (DNo a es) ∧ EnR K F α es kvs := by
  cases d with
  | cel n =>
    simp only [D.dkn] at h
    split at h
    · rename_i kvs' he
      cases h
      obtain ⟨a, rfl, ha⟩ := r.of_cel
      obtain ⟨_, _, es, h1, h2⟩ := w.out n a _ ha he
      exact ⟨a, es, rfl, .inl h1, h2⟩
    · cases h
  | dcn ks ds =>
    cases h
    obtain ⟨a, o, es, rfl, h1, h2, _⟩ := dcn_ok r
    exact ⟨a, es, rfl, .inr ⟨o, w.sub _ _ h1⟩, h2⟩
  | _ => cases h
theorem dks_ok {kvs : List (Key × D)} (w : W K Z F H α M) (r : Rv K F α v d) (h : d.dks M = some kvs) : ∃ a es, v = .ref a ∧ H a = some (.dK es) ∧ KnR K F α es kvs := by
  cases d with
  | cel n =>
    simp only [D.dks] at h
    split at h
    · rename_i kvs' he
      cases h
      obtain ⟨a, rfl, ha⟩ := r.of_cel
      obtain ⟨_, _, es, h1, h2⟩ := w.out n a _ ha he
      exact ⟨a, es, rfl, h1, h2⟩
    · cases h
  | _ => cases h
end
section
variable {Z : List (Addr × HO)} {X : Cx} {CT : Nat → Addr} {E : XK} {k : Nat} {e a b o : Expr} {es : List Expr} {g ga gb go gk gd : GE} {gl : GA} {pos p q apos cpos : Pos} {x : Str}
/-! ### d[k] -/
def subIxD : F2 := fun a b M => match a.dkn M with
  | some kvs => match keyN b with
    | some k => (lkN kvs k).map (.ok · M)
    | none => none
  | none => match a.dks M with
    | some kvs => match keyD b with
      | some k => (lkS kvs k).map (.ok · M)
      | none => none
    | none => subIx a b M
theorem ix_dn (dx : DX X E k) : IxR X (fun x y H Q => ∃ a es b kk p, x = .ref a ∧ Rd H a (DNo a es) ∧ KeysAt X.K H es ∧ y = .ref b ∧ NkV X.K H kk (.ref b) ∧ kk.depth ≤ 8 ∧ atN es kk = some p ∧ Q p.2 H) := by
  intro value slice pins s σ H x y v u Q I rx ry h hs
  obtain ⟨a, es, b, kk, p, rfl, hd, hk, rfl, hy, hz, hv, q⟩ := h
  cases rx; cases ry
  exact tail_any (dn_type I hd).1 PySem.F.slot_dict_getitem.lookup (dn_getItem dx.pw.1 dx.pw.2.1 dx.mk3 I hd hk hy hz hv fun w' s' I' r' => ⟨p.2, H, I', r', q⟩) hs
theorem ix_ds (dx : DX X E k) : IxR X (fun x y H Q => ∃ a v, x = .ref a ∧ DGet H a y (some v) ∧ Q v H) := by
  intro value slice pins s σ H x y v u Q I rx ry h hs
  obtain ⟨a, w, rfl, g, q⟩ := h
  cases rx
  exact tail_any (dict_typeIs I g) PySem.F.slot_dict_getitem.lookup (d_getItem dx.mk5 I g ry fun w' s' I' r' => ⟨w, H, I', r', q⟩) hs
theorem x_dict (dx : DX X E k) : IxR X (r2D X.K CT E subIxD) := by
  refine imp_ix (IxR.or (ix_dn dx) (IxR.or (ix_ds dx) (x_seq (CT := CT) (E := E)))) fun x y H Q ⟨Z, F, α, M, a, b, w, ra, rb, k⟩ => ?_
  unfold subIxD at k
  split at k
  · rename_i kvs hd
    split at k
    · rename_i kk hk
      cases e : lkN kvs kk with
      | none => rw [e] at k; exact k.elim
      | some d =>
        rw [e] at k
        obtain ⟨a, es, rfl, h1, h2⟩ := dkn_ok w ra hd
        obtain ⟨b, rfl, h3, h4⟩ := rb.key w.sub hk
        obtain ⟨p, h5, h6⟩ := h2.lk.1 d e
        exact .inl ⟨a, es, b, kk, p, rfl, h1, h2.keys w.sub, rfl, h3, h4, h5, okQ w k h6⟩
    · exact k.elim
  · split at k
    · rename_i kvs hd
      split at k
      · rename_i kk hk
        cases e : lkS kvs kk with
        | none => rw [e] at k; exact k.elim
        | some d =>
          rw [e] at k
          obtain ⟨a, es, rfl, h1, h2⟩ := dks_ok w ra hd
          obtain rfl := keyD_ok rb hk
          obtain ⟨v, h5, h6⟩ := h2.lk.1 d e
          exact .inr (.inl ⟨a, v, rfl, h5 ▸ DGet.k h1, okQ w k h6⟩)
      · exact k.elim
    · exact .inr (.inr ⟨Z, F, α, M, a, b, w, ra, rb, k⟩)
/-! ### k in d -/
def inRD (a b : D) (M : Sto) : Option Bool := match b.dkn M with
  | some kvs => match keyN a with
    | some k => some (lkN kvs k).isSome
    | none => none
  | none => match b.dks M with
    | some kvs => match keyD a with
      | some k => some (lkS kvs k).isSome
      | none => none
    | none => inR a b M
def inFD : F2 := fun a b M => match inRD a b M with
  | some r => okR (.bl r) M
  | none => none
def notInFD : F2 := fun a b M => match inRD a b M with
  | some r => okR (.bl (!r)) M
  | none => none
theorem or_dn (dx : DX X E k) : OpR X (compareOp .In) (fun x y H Q => ∃ a es b kk, y = .ref a ∧ Rd H a (DNo a es) ∧ KeysAt X.K H es ∧ x = .ref b ∧ NkV X.K H kk (.ref b) ∧ kk.depth ≤ 8 ∧ Q (.bl (atN es kk).isSome) H) := by
  intro pins s σ H x y v u Q I rx ry h
  obtain ⟨a, es, b, kk, rfl, hd, hk, rfl, hy, hz, q⟩ := h
  cases rx; cases ry
  exact dn_in dx.pw.1 dx.pw.2.1 dx.mk3 I hd hk hy hz fun s' I' => ⟨.bl (atN es kk).isSome, H, I', rfl, q⟩
theorem or_dnN (dx : DX X E k) : OpR X (compareOp .NotIn) (fun x y H Q => ∃ a es b kk, y = .ref a ∧ Rd H a (DNo a es) ∧ KeysAt X.K H es ∧ x = .ref b ∧ NkV X.K H kk (.ref b) ∧ kk.depth ≤ 8 ∧ Q (.bl (!(atN es kk).isSome)) H) := by
  intro pins s σ H x y v u Q I rx ry h
  obtain ⟨a, es, b, kk, rfl, hd, hk, rfl, hy, hz, q⟩ := h
  cases rx; cases ry
  exact dn_notIn dx.pw.1 dx.pw.2.1 dx.mk3 I hd hk hy hz fun s' I' => ⟨.bl (!(atN es kk).isSome), H, I', rfl, q⟩
theorem or_ds (dx : DX X E k) : OpR X (compareOp .In) (fun x y H Q => ∃ a o, y = .ref a ∧ DGet H a x o ∧ Q (.bl o.isSome) H) := by
  intro pins s σ H x y v u Q I rx ry h
  obtain ⟨a, o, rfl, g, q⟩ := h
  cases ry
  exact d_in dx.mk5 I g rx fun s' I' => ⟨.bl o.isSome, H, I', rfl, q⟩
theorem or_dsN (dx : DX X E k) : OpR X (compareOp .NotIn) (fun x y H Q => ∃ a o, y = .ref a ∧ DGet H a x o ∧ Q (.bl (!o.isSome)) H) := by
  intro pins s σ H x y v u Q I rx ry h
  obtain ⟨a, o, rfl, g, q⟩ := h
  cases ry
  exact d_notIn dx.mk5 I g rx fun s' I' => ⟨.bl (!o.isSome), H, I', rfl, q⟩
theorem o_inD (dx : DX X E k) : OpR X (compareOp .In) (r2D X.K CT E inFD) := by
  refine imp_op (OpR.or (or_dn dx) (OpR.or (or_ds dx) (o_in (CT := CT) (E := E) dx.mk4))) fun x y H Q ⟨Z, F, α, M, a, b, w, ra, rb, k⟩ => ?_
  unfold inFD inRD at k
  cases hd : b.dkn M with
  | some kvs =>
    rw [hd] at k
    cases hk : keyN a with
    | none => simp only [hk] at k; exact k.elim
    | some kk =>
      simp only [hk] at k
      obtain ⟨a, es, rfl, h1, h2⟩ := dkn_ok w rb hd
      obtain ⟨b, rfl, h3, h4⟩ := ra.key w.sub hk
      exact .inl ⟨a, es, b, kk, rfl, h1, h2.keys w.sub, rfl, h3, h4, by rw [h2.some_eq]; exact okQ w k (.bl _)⟩
  | none =>
    rw [hd] at k
    cases hd2 : b.dks M with
    | some kvs =>
      rw [hd2] at k
      cases hk : keyD a with
      | none => simp only [hk] at k; exact k.elim
      | some kk =>
        simp only [hk] at k
        obtain ⟨a, es, rfl, h1, h2⟩ := dks_ok w rb hd2
        obtain rfl := keyD_ok ra hk
        exact .inr (.inl ⟨a, _, rfl, DGet.k h1, by rw [h2.some_eq]; exact okQ w k (.bl _)⟩)
    | none => rw [hd2] at k; exact .inr (.inr ⟨Z, F, α, M, a, b, w, ra, rb, k⟩)
theorem o_notInD (dx : DX X E k) : OpR X (compareOp .NotIn) (r2D X.K CT E notInFD) := by
  refine imp_op (OpR.or (or_dnN dx) (OpR.or (or_dsN dx) (o_notIn (CT := CT) (E := E) dx.mk4))) fun x y H Q ⟨Z, F, α, M, a, b, w, ra, rb, k⟩ => ?_
  unfold notInFD inRD at k
  cases hd : b.dkn M with
  | some kvs =>
    rw [hd] at k
    cases hk : keyN a with
    | none => simp only [hk] at k; exact k.elim
    | some kk =>
      simp only [hk] at k
      obtain ⟨a, es, rfl, h1, h2⟩ := dkn_ok w rb hd
      obtain ⟨b, rfl, h3, h4⟩ := ra.key w.sub hk
      exact .inl ⟨a, es, b, kk, rfl, h1, h2.keys w.sub, rfl, h3, h4, by rw [h2.some_eq]; exact okQ w k (.bl _)⟩
  | none =>
    rw [hd] at k
    cases hd2 : b.dks M with
    | some kvs =>
      rw [hd2] at k
      cases hk : keyD a with
      | none => simp only [hk] at k; exact k.elim
      | some kk =>
        simp only [hk] at k
        obtain ⟨a, es, rfl, h1, h2⟩ := dks_ok w rb hd2
        obtain rfl := keyD_ok ra hk
        exact .inr (.inl ⟨a, _, rfl, DGet.k h1, by rw [h2.some_eq]; exact okQ w k (.bl _)⟩)
    | none => rw [hd2] at k; exact .inr (.inr ⟨Z, F, α, M, a, b, w, ra, rb, k⟩)
/-! ### d[k] = v -/
def gSubD (go gi : GE) : GG := fun v δ M => bindR (go δ M) fun o M1 => bindR (gi δ M1) fun i M2 => match o with
  | .cel n => match M2[n]? with
    | some (.dkn kvs) => match keyN i with
      | some k => if kvs.length < sizeLine then okR δ (M2.set n (.dkn (ptN kvs k i v))) else none
      | none => none
    | some (.dks kvs) => match keyD i with
      | some k => if kvs.length < sizeLine then okR δ (M2.set n (.dks (ptS kvs k v))) else none
      | none => none
    | _ => none
  | _ => none
def rSetD (K : PySem.W.Frag) : V → V → V → Hp → (Hp → Prop) → Prop := fun o i v H Q => (∃ a es b kk, o = .ref a ∧ H a = some (DNo a es) ∧ KeysAt K H es ∧ i = .ref b ∧ NkV K H kk (.ref b) ∧ kk.depth ≤ 8 ∧ es.length < sizeLine ∧ Q (upd H a (DNo a (putN es kk b v)))) ∨
  ∃ a H', o = .ref a ∧ DPut H a i v H' ∧ Q H'
theorem set_dict (dx : DX X E k) : PSet X (rSetD X.K) := by
  intro pins s σ H o i v ov iv u Q I ro ri rv h
  rcases h with ⟨a, es, b, kk, rfl, h1, h2, rfl, h3, h4, h5, q⟩ | ⟨a, H', rfl, h1, q⟩
  · cases ro; cases ri
    exact dn_setItem dx.pw.1 dx.pw.2.1 dx.mk3 I h1 h2 h3 h4 h5 rv fun s' I' => ⟨_, I', q⟩
  · cases ro
    exact d_setItem dx.mk5 I h1 ri rv fun s' I' => ⟨_, I', q⟩
theorem dg_subD {i : Expr} {gi : GE} (dx : DX X E k) (ho : PE X o (tD X.K CT E go)) (hi : PE X i (tD X.K CT E gi))
    (ha : ∀ v, assign (.Subscript o i pos) X.env v = (do
      let ov ← holding [v] (eval o X.env)
      let iv ← holding [v, ov] (eval i X.env)
      standAt pos
      holding [v, ov, iv] (setItem ov iv v)
      release [v, ov, iv] []) := by intro _; rfl) : PG X (.Subscript o i pos) (gD X.K CT E (gSubD go gi)) :=
  imp_g (pg_sub ho hi (set_dict dx) ha) fun v σ H Q ⟨Z, F, α, δ, M, d, w, ev, rv, k⟩ => by
    refine ⟨Z, F, α, δ, M, w, ev, (KO.of_bind k).imp fun F1 α1 o M1 H1 w1 s1 p1 k1 vo ro => ?_⟩
    refine ⟨Z, F1, α1, δ, M1, w1, ev.mono s1 p1, (KO.of_bind k1).imp fun F2 α2 i M2 H2 w2 s2 p2 k2 vi ri => ?_⟩
    split at k2
    · rename_i n
      obtain ⟨a, rfl, ha⟩ := (ro.mono s2 p2).of_cel
      have rv2 := (rv.mono s1 p1).mono s2 p2
      have ev2 := (ev.mono s1 p1).mono s2 p2
      split at k2
      · rename_i kvs hm
        split at k2
        · rename_i kk hk
          split at k2
          · rename_i hl
            obtain ⟨_, _, es, h1, h2⟩ := w2.out n a _ ha hm
            obtain ⟨b, rfl, h3, h4⟩ := ri.key w2.sub hk
            exact .inl ⟨a, es, b, kk, rfl, h1, h2.keys w2.sub, rfl, h3, h4, h2.len ▸ hl, k2 F2 α2 _ (w2.put ha hm (by intro z; cases z) ⟨_, upd_same, h2.put hk ri rv2⟩) (Same.refl _) (PR _) _ ev2⟩
          · exact k2.elim
        · exact k2.elim
      · rename_i kvs hm
        split at k2
        · rename_i kk hk
          split at k2
          · rename_i hl
            obtain ⟨_, _, es, h1, h2⟩ := w2.out n a _ ha hm
            obtain rfl := keyD_ok ri hk
            exact .inr ⟨a, _, rfl, DPut.k h1 (h2.len ▸ hl), k2 F2 α2 _ (w2.put ha hm (by intro z; cases z) ⟨_, upd_same, h2.put rv2⟩) (Same.refl _) (PR _) _ ev2⟩
          · exact k2.elim
        · exact k2.elim
      · exact k2.elim
    · exact k2.elim
/-! ### len(d) -/
def lenFD : FL := fun ds M => match ds with
  | [d] => match d.dkn M with
    | some kvs => okR (.int kvs.length) M
    | none => lenF ds M
  | _ => none
theorem c_lenD (dx : DX X E k) : CallR X (.builtin "len") (rLD X.K CT E lenFD) := by
  have h1 : CallR X (.builtin "len") (fun xs H Q => ∃ a es, xs = [.ref a] ∧ Rd H a (DNo a es) ∧ KeysAt X.K H es ∧ Q (.int es.length) H) := by
    intro pins s σ H xs us Q I r h
    obtain ⟨a, es, rfl, hd, hk, q⟩ := h
    obtain ⟨u, rfl, rx⟩ := vals1 r
    cases rx
    exact dn_len dx.pw.1 dx.pw.2.1 I hd hk fun t s' I' => ⟨.int es.length, H, I', ⟨t, rfl⟩, q⟩
  refine imp_call (CallR.or h1 (c_len (CT := CT) (E := E))) fun xs H Q ⟨Z, F, α, M, ds, w, r, k⟩ => ?_
  unfold lenFD at k
  split at k
  · split at k
    · rename_i kvs hd
      obtain ⟨v, t, rfl, r1, r2⟩ := r.of_cons
      obtain rfl := r2.of_nil
      obtain ⟨a, es, rfl, h2, h3⟩ := dkn_ok w r1 hd
      exact .inl ⟨a, es, rfl, h2, h3.keys w.sub, by rw [h3.len]; exact okQ w k (.int _)⟩
    · exact .inr ⟨Z, F, α, M, _, w, r, k⟩
  · exact k.elim
/-! ### d.get(k, x) of nested keys; d.get(k) of texts -/
@[simp] def gNGet (go gk gd : GE) : GE := fun δ M => bindR (go δ M) fun o M1 => match o.dkn M1 with
  | some _ => bindR (gk δ M1) fun k M2 => bindR (gd δ M2) fun d M3 => match o.dkn M3, keyN k with
    | some kvs, some j => okR ((lkN kvs j).getD d) M3
    | _, _ => none
  | none => none
theorem mt_nget (dx : DX X E k) : MtR X "dict.get" (fun x xs H Q => ∃ a es b kk z, x = .ref a ∧ Rd H a (DNo a es) ∧ KeysAt X.K H es ∧ xs = [.ref b, z] ∧ NkV X.K H kk (.ref b) ∧ kk.depth ≤ 8 ∧ Q (((atN es kk).map (·.2)).getD z) H) := by
  intro pins s σ H x xs v us Q I rx rs h
  obtain ⟨a, es, b, kk, z, rfl, hd, hk, rfl, hy, hz, q⟩ := h
  cases rx
  obtain ⟨u1, u2, rfl, r1, r2⟩ := vals2 rs
  cases r1
  exact dn_getOr dx.pw.1 dx.pw.2.1 dx.mk3 I hd hk hy hz r2 fun w' s' I' r' => ⟨_, H, I', r', q⟩
theorem d_nget {f : Expr} (dx : DX X E k) (ho : PE X o (tD X.K CT E go)) (he : PE X e (tD X.K CT E gk)) (hf : PE X f (tD X.K CT E gd)) (m : M2 X o "get" apos e f cpos) : PE X (.Call (.Attribute o "get" apos) [e, f] [] cpos) (tD X.K CT E (gNGet go gk gd)) := by
  refine ⟨fun pins s σ H Q I h => ?_⟩
  obtain ⟨Z, F, α, δ, M, w, ev, k⟩ := h
  refine wpAny_Call_method m.base m.few m.line PySem.F.plainAttrs_dict PySem.F.slot_dict_get PySem.F.type_dict_get (thn (ho.run pins s σ H _ I ⟨Z, F, α, δ, M, w, ev, (KO.of_bind k).imp (R' := QD X.K fun x H1 => ∃ Z F1 α1 M1 o, W X.K Z F1 H1 α1 M1 ∧ EvR X.K F1 α1 σ δ ∧ Rv X.K F1 α1 x o ∧ (o.dkn M1).isSome ∧ KO X.K Z CT E F1 α1 (QD X.K Q) (bindR (gk δ M1) fun k M2 => bindR (gd δ M2) fun d M3 => match o.dkn M3, keyN k with
      | some kvs, some j => okR ((lkN kvs j).getD d) M3
      | _, _ => none)) fun F1 α1 o M1 H1 w1 s1 p1 k1 v rv => ?_⟩) fun u s1 ⟨x, H1, I1, rx, Z, F1, α1, M1, o, w1, ev1, ro, hs, k1⟩ => ?_)
  · split at k1
    · rename_i kvs hd
      exact ⟨Z, F1, α1, M1, o, w1, ev.mono s1 p1, rv, by rw [hd]; rfl, k1⟩
    · exact k1.elim
  · obtain ⟨kvs, hd⟩ := Option.isSome_iff_exists.mp hs
    obtain ⟨a, es, rfl, h1, h2⟩ := dkn_ok w1 ro hd
    cases rx
    obtain ⟨t1, ob, t2, t3⟩ := dn_type I1 h1
    refine ⟨t1, fun b q => by cases q; exact ⟨ob, t2, t3⟩, ?_⟩
    rw [m.trees]
    refine Calls.callWith_builtin rfl (Calls.evalArgs_plain (Calls.spliced_cons (thn (he.run pins s1 σ H1 _ I1 ⟨Z, F1, α1, δ, M1, w1, ev1, (KO.of_bind k1).imp (R' := QD X.K fun y H2 => ∃ Z F2 α2 M2 kd, W X.K Z F2 H2 α2 M2 ∧ EvR X.K F2 α2 σ δ ∧ Rv X.K F2 α2 (.ref a) o ∧ Rv X.K F2 α2 y kd ∧ KO X.K Z CT E F2 α2 (QD X.K Q) (bindR (gd δ M2) fun d M3 => match o.dkn M3, keyN kd with
        | some kvs, some j => okR ((lkN kvs j).getD d) M3
        | _, _ => none)) fun F2 α2 kd M2 H2 w2 s2 p2 k2 v rv => ⟨Z, F2, α2, M2, kd, w2, ev1.mono s2 p2, ro.mono s2 p2, rv, k2⟩⟩) fun iv s2 ⟨y, H2, I2, ry, Z, F2, α2, M2, kd, w2, ev2, ro2, rk2, k2⟩ =>
      Calls.spliced_cons (thn (hf.run pins s2 σ H2 _ I2 ⟨Z, F2, α2, δ, M2, w2, ev2, (KO.of_bind k2).imp (R' := QD X.K fun z H3 => ∃ Z F3 α3 M3 d, W X.K Z F3 H3 α3 M3 ∧ Rv X.K F3 α3 (.ref a) o ∧ Rv X.K F3 α3 y kd ∧ Rv X.K F3 α3 z d ∧ KO X.K Z CT E F3 α3 (QD X.K Q) (match o.dkn M3, keyN kd with
        | some kvs, some j => okR ((lkN kvs j).getD d) M3
        | _, _ => none)) fun F3 α3 d M3 H3 w3 s3 p3 k3 v rv => ⟨Z, F3, α3, M3, d, w3, ro2.mono s3 p3, rk2.mono s3 p3, rv, k3⟩⟩) fun fv s3 ⟨z, H3, I3, rz, Z, F3, α3, M3, d, w3, ro3, rk3, rd3, k3⟩ => Calls.spliced_nil ?_))))
    split at k3
    · rename_i kvs3 j hd3 hj
      obtain ⟨a', es3, e3, h3, h4⟩ := dkn_ok w3 ro3 hd3
      cases e3
      obtain ⟨b, rfl, h5, h6⟩ := rk3.key w3.sub hj
      cases ry
      refine dn_getOr dx.pw.1 dx.pw.2.1 dx.mk3 I3 h3 (h4.keys w3.sub) h5 h6 rz fun w' s' I' r' => ⟨_, H3, I', r', ?_⟩
      refine okQ w3 k3 ?_
      cases c : lkN kvs3 j with
      | none => rw [h4.lk.2 c]; exact rd3
      | some d' =>
        obtain ⟨p, q1, q2⟩ := h4.lk.1 d' c
        rw [q1]; exact q2
    · exact k3.elim
@[simp] def gSGet (go gk : GE) : GE := fun δ M => bindR (go δ M) fun o M1 => match o.dks M1 with
  | some _ => bindR (gk δ M1) fun k M2 => match o.dks M2, keyD k with
    | some kvs, some j => okR ((lkS kvs j).getD .non) M2
    | _, _ => none
  | none => none
theorem d_sget (dx : DX X E k) (ho : PE X o (tD X.K CT E go)) (he : PE X e (tD X.K CT E gk)) (m : M1 X o "get" apos e cpos) : PE X (.Call (.Attribute o "get" apos) [e] [] cpos) (tD X.K CT E (gSGet go gk)) :=
  imp_e (pe_dget1 dx.mk5 ho he m) fun σ H Q ⟨Z, F, α, δ, M, w, ev, k⟩ => by
    refine ⟨Z, F, α, δ, M, w, ev, (KO.of_bind k).imp fun F1 α1 o M1 H1 w1 s1 p1 k1 vo ro => ?_⟩
    split at k1
    · rename_i kvs hd
      obtain ⟨a, es, rfl, h1, h2⟩ := dks_ok w1 ro hd
      refine ⟨a, rfl, .inl ⟨es, .inl h1⟩, Z, F1, α1, δ, M1, w1, ev.mono s1 p1, (KO.of_bind k1).imp fun F2 α2 y M2 H2 w2 s2 p2 k2 vy ry => ?_⟩
      split at k2
      · rename_i kvs2 j hd2 hj
        obtain ⟨a', es2, e2, h3, h4⟩ := dks_ok w2 (ro.mono s2 p2) hd2
        cases e2
        obtain rfl := keyD_ok ry hj
        refine ⟨_, DGet.k h3, okQ w2 k2 ?_⟩
        cases c : lkS kvs2 j with
        | none => rw [h4.lk.2 c]; exact .non
        | some d' =>
          obtain ⟨v, q1, q2⟩ := h4.lk.1 d' c
          rw [q1]; exact q2
      · exact k2.elim
    · exact k1.elim
end
end DL
/-! DO: dicts by data: freezing, displays, walks, list(d); defs as values -/
namespace DL
open PySem PySem.Spec L2 PyProof.Rows
variable [Pw]
/-! ### freezing -/
def frzV (d : D) (M : Sto) : Option (D × Sto) := match d with
  | .tup [r, .cel m] => match M[m]? with
    | some (.lst ds) => some (.tup [r, .lst ds], M.set m .dead)
    | _ => none
  | _ => none
def frzL : List (D × D) → Sto → Option (List (D × D) × Sto)
  | [], M => some ([], M)
  | (k, v) :: r, M => match frzV v M with
    | some (v', M') => match frzL r M' with
      | some (r', M'') => some ((k, v') :: r', M'')
      | none => none
    | none => none
@[simp] def gFrz (g : GE) : GE := fun δ M => bindR (g δ M) fun d M1 => match d with
  | .cel n => match M1[n]? with
    | some (.dkn kvs) => okR (.dcn (kvs.map (·.1)) (kvs.map (·.2))) (M1.set n .dead)
    | _ => none
  | _ => none
/-- with the lists in the second places of its values -/
@[simp] def gFrzN (g : GE) : GE := fun δ M => bindR (g δ M) fun d M1 => match d with
  | .cel n => match M1[n]? with
    | some (.dkn kvs) => match frzL kvs M1 with
      | some (kvs', M2) => match M2[n]? with
        | some (.dkn _) => okR (.dcn (kvs'.map (·.1)) (kvs'.map (·.2))) (M2.set n .dead)
        | _ => none
      | none => none
    | _ => none
  | _ => none
section
variable {Z : List (Addr × HO)} {K : PySem.W.Frag} {F H : Hp} {α : List Addr} {M : Sto}
theorem frzV_ok {v : V} {d d' : D} {M' : Sto} (w : W K Z F H α M) (r : Rv K F α v d) (h : frzV d M = some (d', M')) : ∃ F', W K Z F' H α M' ∧ Same F F' ∧ Rv K F' α v d' := by
  unfold frzV at h
  split at h
  · split at h
    · rename_i rr m _ ds hm
      cases h
      obtain ⟨a, xs, rfl, h1, h2⟩ := r.of_tup
      obtain ⟨x, t, rfl, r1, r2⟩ := h2.of_cons
      obtain ⟨y, t', rfl, r3, r4⟩ := r2.of_cons
      obtain rfl := r4.of_nil
      obtain ⟨b, rfl, hb⟩ := r3.of_cel
      obtain ⟨F', w', s', r'⟩ := w.freeze hb hm
      exact ⟨F', w', s', .tup' (SqT.mono s' h1) (.cons (r1.mono s' (PR _)) (.cons r' .nil))⟩
    · cases h
  · cases h
theorem frzL_ok : ∀ {kvs kvs' : List (D × D)} {es : List EntN} {F : Hp} {M M' : Sto}, W K Z F H α M → EnR K F α es kvs → frzL kvs M = some (kvs', M') → ∃ F', W K Z F' H α M' ∧ Same F F' ∧ EnR K F' α es kvs'
  | [], kvs', es, F, M, M', w, r, h => by cases h; exact ⟨F, w, Same.refl _, r⟩
  | (k, v) :: kvs, kvs', [], F, M, M', w, r, h => by have := r.len; simp at this
  | (k, v) :: kvs, kvs', e :: es, F, M, M', w, r, h => by
    simp only [frzL] at h
    split at h
    · rename_i v' M1 h1
      split at h
      · rename_i r' M2 h2
        cases h
        obtain ⟨F1, w1, s1, q1⟩ := frzV_ok w (r.val 0 e (k, v) rfl rfl) h1
        obtain ⟨F2, w2, s2, q2⟩ := frzL_ok w1 (r.tail.mono s1 (PR _)) h2
        exact ⟨F2, w2, s1.trans s2, .cons (r.key 0 e (k, v) rfl rfl) ((r.kv 0 e (k, v) rfl rfl).mono (s1.trans s2) (PR _)) (q1.mono s2 (PR _)) q2⟩
      · cases h
    · cases h
end
def tFrz (t : TE) : TE := fun σ H Q => t σ H fun v H1 => ∃ d u, v = .ref d ∧ H1 d = some u ∧ Mut (some u) ∧ ∀ od, Q v (upd H1 d (.frz od u))
theorem pe_frz {X : Cx} {e : Expr} {t : TE} (h : PE X e t) : PE X e (tFrz t) := by
  refine ⟨fun pins s σ H Q I q => thn (h.run pins s σ H _ I q) fun u s1 ⟨x, H1, I1, rx, d, ob, ex, hd, mu, q⟩ => ?_⟩
  obtain ⟨od, I2⟩ := I1.lock hd mu
  exact ⟨x, _, I2, rx, q od⟩
section
variable {Z : List (Addr × HO)} {X : Cx} {CT : Nat → Addr} {E : XK} {k : Nat} {e a b o tg iter : Expr} {es : List Expr} {g ga gb go gk gv : GE} {gl : GA} {pos p q apos cpos pos' : Pos} {x : Str}
theorem d_frz (h : PE X e (tD X.K CT E g)) : PE X e (tD X.K CT E (gFrz g)) :=
  imp_e (pe_frz h) fun σ H Q ⟨Z, F, α, δ, M, w, ev, k⟩ => by
    refine ⟨Z, F, α, δ, M, w, ev, (KO.of_bind k).imp fun F1 α1 d M1 H1 w1 s1 p1 k1 v rv => ?_⟩
    split at k1
    · split at k1
      · rename_i n _ kvs hm
        obtain ⟨a, rfl, ha⟩ := rv.of_cel
        obtain ⟨_, _, es, h1, h2⟩ := w1.out n a _ ha hm
        refine ⟨a, _, rfl, h1, True.intro, fun od => ?_⟩
        obtain ⟨F2, w2, s2, r2⟩ := w1.freezeD ha hm h2 od
        exact k1 F2 α1 _ w2 s2 (PR _) _ r2
      · exact k1.elim
    · exact k1.elim
theorem d_frzN (h : PE X e (tD X.K CT E g)) : PE X e (tD X.K CT E (gFrzN g)) :=
  imp_e (pe_frz h) fun σ H Q ⟨Z, F, α, δ, M, w, ev, k⟩ => by
    refine ⟨Z, F, α, δ, M, w, ev, (KO.of_bind k).imp fun F1 α1 d M1 H1 w1 s1 p1 k1 v rv => ?_⟩
    split at k1
    · split at k1
      · rename_i n _ kvs hm
        split at k1
        · rename_i kvs' M2 hf
          split at k1
          · rename_i kvs2 hm2
            obtain ⟨a, rfl, ha⟩ := rv.of_cel
            obtain ⟨_, _, es, h1, h2⟩ := w1.out n a _ ha hm
            refine ⟨a, _, rfl, h1, True.intro, fun od => ?_⟩
            obtain ⟨F2, w2, s2, r2⟩ := frzL_ok w1 h2 hf
            obtain ⟨F3, w3, s3, r3⟩ := w2.freezeD ha hm2 r2 od
            exact k1 F3 α1 _ w3 (s2.trans s3) (PR _) _ r3
          · exact k1.elim
        · exact k1.elim
      · exact k1.elim
    · exact k1.elim
/-! ### displays -/
/-- the held object becomes a thing that may change -/
theorem W.cellOf {K : PySem.W.Frag} {F H : Hp} {α : List Addr} {M : Sto} {p : Addr} {o o' : HO} {co : CO} (w : W K ((p, o) :: Z) F H α M) (hz : ∀ q ∈ Z, q.1 ≠ p) (hc : CoAt K F (α ++ [p]) (upd H p o') p co) : W K Z F (upd H p o') (α ++ [p]) (M ++ [co]) := by
  obtain ⟨h1, h2, h3⟩ := w.held (p, o) List.mem_cons_self
  refine ⟨fun b x e => ?_, by simp [w.len], ?_, fun n a co' q1 q2 => ?_, fun q hq => ?_⟩
  · have : b ≠ p := fun z => by subst z; simp only at h2; rw [h2] at e; cases e
    rw [upd_ne this]; exact w.sub _ _ e
  · rw [List.nodup_append]
    exact ⟨w.nd, by simp, fun x hx y hy => by simp at hy; subst hy; exact fun e => h3 (e ▸ hx)⟩
  · by_cases hn : n < α.length
    · rw [List.getElem?_append_left hn] at q1
      rw [List.getElem?_append_left (w.len ▸ hn)] at q2
      have hne : a ≠ p := fun z => h3 (z ▸ List.mem_iff_getElem?.mpr ⟨n, q1⟩)
      obtain ⟨r1, ⟨o2, r2⟩, r3⟩ := w.out n a co' q1 q2
      exact ⟨r1, ⟨o2, by rw [upd_ne hne]; exact r2⟩, r3.mono (Same.refl _) (List.prefix_append _ _) (upd_ne hne)⟩
    · have e : n = α.length := by
        have := (List.getElem?_eq_some_iff.mp q1).1
        simp at this; omega
      subst e
      simp at q1
      rw [w.len] at q2
      simp at q2
      subst q1; subst q2
      exact ⟨.inl h2, ⟨o', upd_same⟩, hc⟩
  · obtain ⟨q1, q2, q3⟩ := w.held q (List.mem_cons_of_mem _ hq)
    exact ⟨by rw [upd_ne (hz q hq)]; exact q1, q2, by simp [q3, hz q hq]⟩
@[simp] def gDict1 (gk gv : GE) : GE := fun δ M => bindR (gk δ M) fun x M1 => bindR (gv δ M1) fun y M2 => match keyN x with
  | some _ => okR (.cel M2.length) (M2 ++ [.dkn [(x, y)]])
  | none => none
def tDisp1 (K : PySem.W.Frag) (tk tv : TE) : TE := fun σ H Q => ∀ p, H p = none → tk σ (upd H p (DNo p [])) fun x H1 => tv σ H1 fun y H2 => H2 p = some (DNo p []) ∧ ∃ b kk, x = .ref b ∧ NkV K H2 kk (.ref b) ∧ kk.depth ≤ 8 ∧ Q (.ref p) (upd H2 p (DNo p [(kk, b, y)]))
theorem pe_disp1 {tk tv : TE} (dx : DX X E k) (hk : PE X a tk) (hv : PE X b tv) : PE X (.Dict [some a] [b] pos) (tDisp1 X.K tk tv) := by
  refine ⟨fun pins s σ H Q I q => ?_⟩
  have hn := I.hok.fresh (Nat.le_refl s.heap.objs.size)
  have I1 := I.laid (a := s.heap.objs.size) (o := DNo s.heap.objs.size []) (h' := s.heap.push { cls := .type "dict", data := .dict #[] }) (t' := s.toks) (fun _ _ q => Heap.get?_push_of_some _ q) (Nat.le_refl _) (dno_new (Nat.zero_le _) (beq_eq_false_iff_ne.mpr (Ne.symm (Nat.ne_of_lt I.big))) .nil (Heap.get?_push_size _ rfl) ⟨rfl, rfl, rfl⟩ rfl rfl List.nodup_nil)
  have hroom : (nestedKind X.prog X.w).room X.A := by
    show X.A.units + 8 < cLine
    have := dx.mk3; omega
  rw [arm_eval_Dict, zip_pairTrees [some a] [b] X.env pos rfl rfl, dictDisplay_pairs _ (by simp [pairTrees]) (by simp [pairTrees])]
  refine wpAny_bind (wpAny_standAt (wpAny_bind (wpAny_subDictH (knd := nestedKind X.prog X.w) (Q := fun d s' => wpAny (model X.prog X.w) X.A (pure (Value.ref d)) (EP X pins σ Q) X.xe s') hroom (by simp [pairTrees])
    (pairTrees_cons_walk (thn (hk.run pins _ σ _ _ I1 (q _ hn)) fun u s1 ⟨x, H1, I2, rx, q1⟩ => thn (hv.run pins s1 σ H1 _ I2 q1) fun u2 s2 ⟨y, H2, I3, ry, hp, bb, kk, ex, nk, hd, q2⟩ => pairTrees_nil_walk ?_)))))
  subst ex
  cases rx
  obtain ⟨_, hs0, xs0, r0, o0, os0, ep0, g1, g2, g3, g4, g5⟩ := dn_rd I3 (.inl hp)
  cases r0
  refine ⟨[(kk, bb, u2)], ⟨rfl, rfl, nk_key I3 nk hd, trivial⟩, ⟨o0, os0, ep0, g1, g2, g3, g4, (by intro x hx; cases hx), g5⟩, fun h' tk hm hsb => wpAny_pure ⟨.ref s.heap.objs.size, _, ?_, rfl, q2⟩⟩
  obtain ⟨q', os, ep, hq, h2, h3, h4, _, h5⟩ := hm
  refine d_write I3 (by rw [hp]; exact True.intro) hsb ⟨q', hq⟩ (dno_new (xs := [(kk, bb, u2)]) (by show 1 ≤ sizeLine; decide) hs0 (.cons ⟨rfl, rfl, ry⟩ .nil) hq h2 h3 (by rw [← dx.pw.1, ← dx.pw.2.1]; exact h4) (by simp))
theorem d_dict1 (dx : DX X E k) (hk : PE X a (tD X.K CT E gk)) (hv : PE X b (tD X.K CT E gv)) : PE X (.Dict [some a] [b] pos) (tD X.K CT E (gDict1 gk gv)) :=
  imp_e (pe_disp1 dx hk hv) fun σ H Q ⟨Z, F, α, δ, M, w, ev, k⟩ => by
    intro p hp
    have hz := w.heldNe hp
    have k' := KO.of_bind k
    refine ⟨(p, DNo p []) :: Z, F, α, δ, M, w.hold hp _, ev, ?_⟩
    revert k'
    generalize gk δ M = r
    intro k'
    match r, k' with
    | some (.ex e M'), k' => exact fun F' α' H' w' s' p' => k' F' α' H' w'.drop s' p'
    | some (.ok x M'), k' =>
      intro F1 α1 H1 w1 s1 p1 v rv
      have k1 := KO.of_bind (k' F1 α1 H1 w1.drop s1 p1)
      refine ⟨(p, DNo p []) :: Z, F1, α1, δ, M', w1, ev.mono s1 p1, ?_⟩
      revert k1
      generalize gv δ M' = r2
      intro k1
      match r2, k1 with
      | some (.ex e M'), k1 => exact fun F' α' H' w' s' p' => k1 F' α' H' w'.drop s' p'
      | some (.ok y M2), k1 =>
        intro F2 α2 H2 w2 s2 p2 u ru
        have k2 := k1 F2 α2 H2 w2.drop s2 p2
        obtain ⟨hD, hF, _⟩ := w2.held (p, DNo p []) List.mem_cons_self
        split at k2
        · rename_i kk hkk
          have rv2 := rv.mono s2 p2
          obtain ⟨b, rfl, h3, h4⟩ := rv2.key w2.sub hkk
          refine ⟨hD, b, kk, rfl, h3, h4, ?_⟩
          refine k2 F2 (α2 ++ [p]) _ (w2.cellOf hz ⟨_, upd_same, .cons hkk (rv2.mono (Same.refl _) (List.prefix_append _ _)) (ru.mono (Same.refl _) (List.prefix_append _ _)) .nil⟩) (Same.refl _) (List.prefix_append _ _) _ (.cel ?_)
          rw [← w2.len]
          simp
        · exact k2.elim
/-- {} -/
@[simp] def gDict0 : GE := fun _ M => okR (.cel M.length) (M ++ [.dkn []])
@[simp] def gDict0S : GE := fun _ M => okR (.cel M.length) (M ++ [.dks []])
theorem d_dict0 : PE X (.Dict [] [] pos) (tD X.K CT E gDict0) :=
  imp_e (t := fun _ H Q => ∀ p, H p = none → Q (.ref p) (upd H p (DNo p []))) ⟨fun pins s σ H Q I h => wpAny_Dict_empty ⟨.ref s.heap.objs.size, _, I.laid (a := s.heap.objs.size) (o := DNo s.heap.objs.size []) (t' := s.toks) (fun _ _ q => Heap.get?_push_of_some _ q) (Nat.le_refl _) (dno_new (Nat.zero_le _) (beq_eq_false_iff_ne.mpr (Ne.symm (Nat.ne_of_lt I.big))) .nil (Heap.get?_push_size _ rfl) ⟨rfl, rfl, rfl⟩ rfl rfl List.nodup_nil), rfl, h _ (I.hok.fresh (Nat.le_refl _))⟩⟩ fun σ H Q ⟨Z, F, α, δ, M, w, ev, k⟩ p hp => by
    refine k F (α ++ [p]) _ (w.alloc hp ⟨[], upd_same, .nil⟩) (Same.refl _) (List.prefix_append _ _) _ (.cel ?_)
    rw [← w.len]
    simp
theorem d_dict0S : PE X (.Dict [] [] pos) (tD X.K CT E gDict0S) :=
  imp_e pe_dnewK fun σ H Q ⟨Z, F, α, δ, M, w, ev, k⟩ p hp => by
    refine k F (α ++ [p]) _ (w.alloc hp ⟨[], upd_same, .nil⟩) (Same.refl _) (List.prefix_append _ _) _ (.cel ?_)
    rw [← w.len]
    simp
/-! ### walks -/
@[simp] def gItNK (g : GE) : GI := fun δ M => bindR (g δ M) fun d M1 => match d with
  | .dcn ks _ => okR ks M1
  | _ => none
@[simp] def gItNV (g : GE) : GI := fun δ M => bindR (g δ M) fun d M1 => match d with
  | .dcn _ ds => okR ds M1
  | _ => none
@[simp] def gItNI (g : GE) : GI := fun δ M => bindR (g δ M) fun d M1 => match d with
  | .dcn ks ds => okR ((ks.zip ds).map fun p => D.tup [p.1, p.2]) M1
  | _ => none
theorem zip_get {β γ : Type} {l : List β} {m : List γ} {i : Nat} {a : β} {b : γ} (h : l[i]? = some a) (h' : m[i]? = some b) : (l.zip m)[i]? = some (a, b) := by
  induction l generalizing m i with
  | nil => simp at h
  | cons x l ih =>
    cases m with
    | nil => simp at h'
    | cons y m =>
      cases i with
      | zero => simp at h h'; subst h; subst h'; rfl
      | succ i => simpa using ih (by simpa using h) (by simpa using h')
section
variable {K : PySem.W.Frag} {F : Hp} {α : List Addr} {a : Addr} {od : Obj} {ens : List EntN} {ks ds : List D}
theorem ItR.nk (h : F a = some (.frz od (DNo a ens))) (r : EnR K F α ens (ks.zip ds)) (h1 : ens.length = ks.length) (h2 : ens.length = ds.length) : ItR K F α (ItnK' a od ens) ks where
  go := fun i Z F' α' H' M' w s p hi => ⟨w.sub _ _ (s _ _ h), by omega⟩
  yld := fun i Z F' α' H' M' x H'' d w s p hy hd => by
    obtain ⟨rfl, en, he, rfl⟩ := hy
    have hi : i < ds.length := by rw [← h2]; exact (List.getElem?_eq_some_iff.mp he).1
    exact ⟨F', w, Same.refl _, (r.kv i en (d, ds[i]) he (zip_get hd (List.getElem?_eq_getElem hi))).mono s p⟩
  stop := fun i Z F' α' H' M' w s p hi => ⟨w.sub _ _ (s _ _ h), by omega⟩
theorem ItR.nv (h : F a = some (.frz od (DNo a ens))) (r : EnR K F α ens (ks.zip ds)) (h1 : ens.length = ks.length) (h2 : ens.length = ds.length) : ItR K F α (ItnV' a od ens) ds where
  go := fun i Z F' α' H' M' w s p hi => ⟨w.sub _ _ (s _ _ h), by omega⟩
  yld := fun i Z F' α' H' M' x H'' d w s p hy hd => by
    obtain ⟨rfl, en, he, rfl⟩ := hy
    have hi : i < ks.length := by rw [← h1]; exact (List.getElem?_eq_some_iff.mp he).1
    exact ⟨F', w, Same.refl _, (r.val i en (ks[i], d) he (zip_get (List.getElem?_eq_getElem hi) hd)).mono s p⟩
  stop := fun i Z F' α' H' M' w s p hi => ⟨w.sub _ _ (s _ _ h), by omega⟩
theorem ItR.ni (h : F a = some (.frz od (DNo a ens))) (r : EnR K F α ens (ks.zip ds)) (h1 : ens.length = ks.length) (h2 : ens.length = ds.length) : ItR K F α (ItnI' a od ens) ((ks.zip ds).map fun p => D.tup [p.1, p.2]) where
  go := fun i Z F' α' H' M' w s p hi => ⟨w.sub _ _ (s _ _ h), by simp at hi; omega⟩
  yld := fun i Z F' α' H' M' x H'' d w s p hy hd => by
    obtain ⟨T, en, he, rfl, hT, rfl⟩ := hy
    rw [List.getElem?_map] at hd
    obtain ⟨pr, hpr, rfl⟩ := Option.map_eq_some_iff.mp hd
    have s2 : Same F' (upd F' T (.tup [.ref en.2.1, en.2.2])) := Same.upd (w.freeF hT)
    exact ⟨_, w.fresh hT _, s2, .tup' (SqT.of upd_same) (.cons (((r.kv i en pr he hpr).mono s p).mono s2 (PR _)) (.cons (((r.val i en pr he hpr).mono s p).mono s2 (PR _)) .nil))⟩
  stop := fun i Z F' α' H' M' w s p hi => ⟨w.sub _ _ (s _ _ h), by simp at hi; omega⟩
end
theorem di_nk (h : PE X e (tD X.K CT E g)) : PI X tg e (tDI X.K CT E (gItNK g)) :=
  imp_i (pi_nk h) fun σ H R ⟨Z, F, α, δ, M, w, ev, k⟩ => by
    refine ⟨Z, F, α, δ, M, w, ev, (KO.of_bind k).imp fun F1 α1 d M1 H1 w1 s1 p1 k1 v rv => ?_⟩
    split at k1
    · obtain ⟨a, o, es, rfl, h1, h2, h3, h4⟩ := dcn_ok rv
      exact ⟨a, o, es, rfl, w1.sub _ _ h1, k1 F1 α1 H1 w1 (Same.refl _) (PR _) _ (.nk h1 h2 h3 h4)⟩
    · exact k1.elim
theorem di_nv (h : PE X e (tD X.K CT E g)) (hbase : attributeBase e "values" X.env (eval e X.env) = eval e X.env := by rfl) (hline : (apos.endLine == cpos.line) = true := by rfl) : PI X tg (.Call (.Attribute e "values" apos) [] [] cpos) (tDI X.K CT E (gItNV g)) :=
  imp_i (pi_nv h hbase hline) fun σ H R ⟨Z, F, α, δ, M, w, ev, k⟩ => by
    refine ⟨Z, F, α, δ, M, w, ev, (KO.of_bind k).imp fun F1 α1 d M1 H1 w1 s1 p1 k1 v rv => ?_⟩
    split at k1
    · obtain ⟨a, o, es, rfl, h1, h2, h3, h4⟩ := dcn_ok rv
      exact ⟨a, o, es, rfl, w1.sub _ _ h1, k1 F1 α1 H1 w1 (Same.refl _) (PR _) _ (.nv h1 h2 h3 h4)⟩
    · exact k1.elim
theorem di_ni {elts : List Expr} {kk : Nat} {tpos : Pos} (h : PE X e (tD X.K CT E g)) (hbase : attributeBase e "items" X.env (eval e X.env) = eval e X.env := by rfl) (hline : (apos.endLine == cpos.line) = true := by rfl) : PI X (.Tuple elts kk tpos) (.Call (.Attribute e "items" apos) [] [] cpos) (tDI X.K CT E (gItNI g)) :=
  imp_i (pi_ni h hbase hline) fun σ H R ⟨Z, F, α, δ, M, w, ev, k⟩ => by
    refine ⟨Z, F, α, δ, M, w, ev, (KO.of_bind k).imp fun F1 α1 d M1 H1 w1 s1 p1 k1 v rv => ?_⟩
    split at k1
    · obtain ⟨a, o, es, rfl, h1, h2, h3, h4⟩ := dcn_ok rv
      exact ⟨a, o, es, rfl, w1.sub _ _ h1, k1 F1 α1 H1 w1 (Same.refl _) (PR _) _ (.ni h1 h2 h3 h4)⟩
    · exact k1.elim
/-! ### list(d) -/
def listND : FL := fun ds M => match ds with
  | [.dcn ks _] => okR (.lst ks) M
  | _ => none
theorem call_list_dn (hc : X.calm = true) : CallR X (.type "list") (fun xs H Q => ∃ a ens, xs = [.ref a] ∧ Rd H a (DNo a ens) ∧ ∀ p, H p = none → Q (.ref p) (upd H p (.lst (ens.map fun e => V.ref e.2.1)))) := by
  intro pins s σ H xs us Q I r h
  obtain ⟨d, ens, rfl, hd, q⟩ := h
  obtain ⟨u, rfl, rx⟩ := r.one
  cases rx
  obtain ⟨z, hs, ks, pr, o, es, ep, ho, hx, hdt, he, hn⟩ := dn_rd I hd
  have l1 : es.size = ks.length := size_of_entries he
  have l2 : ens.length = ks.length := Paired.length pr
  refine PySem.W.kdl_call (kdl_raw hs hx hdt) (I.ok.hd hc) ho (by omega) fun h' tk acc' c' kp e it => ?_
  have hl : acc'.toList.length = ens.length := by rw [Array.length_toList, it.1]; omega
  have rv : Vals (ens.map fun e => V.ref e.2.1) acc'.toList := by
    refine vals_of_at (by simpa using hl.symm) fun j x w e1 e2 => ?_
    rw [List.getElem?_map] at e1
    obtain ⟨en, hen, rfl⟩ := Option.map_eq_some_iff.mp e1
    obtain ⟨b, hb, _, e4, _⟩ := paired_get pr hen
    obtain ⟨ee, hee, rfl⟩ := it.2 j w (by rw [← Array.getElem?_toList]; exact e2)
    have qe := entry_at he j
    rw [hee, hb] at qe
    have e5 : ee = entryOfKey (nestedKind Pw.P Pw.w) b := Option.some.inj qe
    rw [e5]
    show Value.ref b.2.1 = Value.ref en.2.1
    rw [e4]
  refine ⟨.ref s.heap.objs.size, _, I.laid (t' := tk) (o := .lst (ens.map fun e => V.ref e.2.1)) kp (Nat.le_refl _) ?_, rfl, q _ (I.hok.fresh (Nat.le_refl _))⟩
  exact ⟨by simpa using z, acc'.toList, c', rv, by rw [Array.toArray_toList]; exact e⟩
theorem c_listD (hc : X.calm = true) : CallR X (.type "list") (rLD X.K CT E listND) := imp_call (call_list_dn hc) fun xs H Q ⟨Z, F, α, M, ds, w, r, k⟩ => by
  unfold listND at k
  split at k
  · rename_i ks dd
    obtain ⟨v, t, rfl, r1, r2⟩ := r.of_cons
    obtain rfl := r2.of_nil
    obtain ⟨a, o, ens, rfl, h1, h2, h3, h4⟩ := dcn_ok r1
    refine ⟨a, ens, rfl, .inr ⟨o, w.sub _ _ h1⟩, fun p hp => newQ w hp k fun s => .lst' upd_same ⟨by simpa using h3, fun i x d e1 e2 => ?_⟩⟩
    rw [List.getElem?_map] at e1
    obtain ⟨en, hen, rfl⟩ := Option.map_eq_some_iff.mp e1
    have hi : i < dd.length := by rw [← h4]; exact (List.getElem?_eq_some_iff.mp hen).1
    exact (h2.kv i en (d, dd[i]) hen (zip_get e2 (List.getElem?_eq_getElem hi))).mono s (PR _)
  · exact k.elim
/-! ### defs as values -/
theorem d_glo {n : Nat} {f : FL} {kf : Nat} (dx : DX X E k) (G : FnD X.prog X.w X.K X.mg X.base CT x n kf f) (hg : Gl X x) (hd : (x == ("__debug__" : Str)) = false := by decide) : PE X (.Name x pos) (tD X.K CT E (gC (.glo x))) := by
  obtain ⟨a, fd, ps, _, hm, _⟩ := G.ex
  exact d_glob hg hm (show RelV (.ref a) (.ref a) from rfl) (fun F α => .glo (by rw [← dx.pw.2.2]; exact hm)) hd
theorem pe_or {t t' : TE} (h : PE X e t) (h' : PE X e t') : PE X e (fun σ H Q => t σ H Q ∨ t' σ H Q) := ⟨fun pins s σ H Q I q => by
  rcases q with q | q
  · exact h.run pins s σ H Q I q
  · exact h'.run pins s σ H Q I q⟩
/-- one of two defs called by the name i -/
@[simp] def gCallV (i n : Nat) (x1 : Str) (f1 : FL) (x2 : Str) (f2 : FL) (gl : GA) : GE := fun δ M => match δ[i]? with
  | some (some (.glo y)) => if y = x1 then bindR (gl δ M) fun ds M1 => if ds.length = n then f1 ds M1 else none else if y = x2 then bindR (gl δ M) fun ds M1 => if ds.length = n then f2 ds M1 else none else none
  | _ => none
theorem d_callV {i n : Nat} {f1 f2 : FL} {k1 k2 : Nat} {x1 x2 : Str} (dx : DX X E k) (G1 : FnD X.prog X.w X.K X.mg X.base CT x1 n k1 f1) (G2 : FnD X.prog X.w X.K X.mg X.base CT x2 n k2 f2) (hk1 : k1 ≤ k) (hk2 : k2 ≤ k) (ha : PA X (e :: es) (tDA X.K CT E gl)) (hN : X.N[i]? = some x := by rfl)
    (hv : Vis X.env.scope x := by first | exact Or.inl rfl | exact Or.inr (Or.inl rfl) | exact Or.inr (Or.inr rfl)) (hdb : (x == ("__debug__" : Str)) = false := by decide) (hcd : (x == ("__classdict__" : Str)) = false := by decide)
    (he : starEach (e :: es) X.env = (false, eval e X.env) :: starEach es X.env := by rfl) (hpl : (backTo pos (starEach es X.env)).any (·.1) = false := by rfl) : PE X (.Call (.Name x p) (e :: es) [] pos) (tD X.K CT E (gCallV i n x1 f1 x2 f2 gl)) := by
  obtain ⟨a1, fd1, ps1, hn1, hm1, hkp1, hb1, F1⟩ := G1.ex
  obtain ⟨a2, fd2, ps2, hn2, hm2, hkp2, hb2, F2⟩ := G2.ex
  refine imp_e (pe_or (pe_callL (i := i) F1 (dx.room.mono hk1) hN hv hkp1 hb1 .nil dx.pass ha hdb hcd he hpl) (pe_callL (i := i) F2 (dx.room.mono hk2) hN hv hkp2 hb2 .nil dx.pass ha hdb hcd he hpl)) fun σ H Q ⟨Z, F, α, δ, M, w, ev, k⟩ => ?_
  unfold gCallV at k
  split at k
  · rename_i y hy
    obtain ⟨v, hv1, rv⟩ := ev.2 i _ hy
    cases rv with
    | glo hg =>
      rename_i a
      rw [← dx.pw.2.2] at hg
      by_cases c1 : y = x1
      · rw [if_pos c1] at k
        subst c1
        rw [hm1] at hg; cases hg
        refine .inl ⟨hv1, Z, F, α, δ, M, w, ev, (KO.of_bind k).imp fun F1 α1 ds M1 H1 w1 s1 p1 k1 vs rvs => ?_⟩
        show spD X.K CT n f1 (vs ++ []) H1 Q E
        rw [List.append_nil]
        by_cases hl : ds.length = n
        · rw [if_pos hl] at k1
          exact ⟨Z, F1, α1, M1, ds, w1, rvs, hl, k1⟩
        · rw [if_neg hl] at k1; exact k1.elim
      · rw [if_neg c1] at k
        by_cases c2 : y = x2
        · rw [if_pos c2] at k
          subst c2
          rw [hm2] at hg; cases hg
          refine .inr ⟨hv1, Z, F, α, δ, M, w, ev, (KO.of_bind k).imp fun F1 α1 ds M1 H1 w1 s1 p1 k1 vs rvs => ?_⟩
          show spD X.K CT n f2 (vs ++ []) H1 Q E
          rw [List.append_nil]
          by_cases hl : ds.length = n
          · rw [if_pos hl] at k1
            exact ⟨Z, F1, α1, M1, ds, w1, rvs, hl, k1⟩
          · rw [if_neg hl] at k1; exact k1.elim
        · rw [if_neg c2] at k; exact k.elim
  · exact k.elim
end
end DL
/-! DP: sums, least and greatest of a list; statements never reached -/
namespace DL
open PySem PySem.Spec L2 PyProof.Rows
variable [Pw]
/-- a list of ints -/
def intsOf : List D → Option (List Int)
  | [] => some []
  | .int b :: r => (intsOf r).map (b :: ·)
  | _ => none
theorem intsOf_ok {K : PySem.W.Frag} {F : Hp} {α : List Addr} : ∀ {xs : List V} {ds : List D} {bs : List Int}, RvL K F α xs ds → intsOf ds = some bs → xs = bs.map V.int
  | xs, [], bs, r, h => by cases h; rw [r.of_nil]; rfl
  | xs, d :: ds, bs, r, h => by
    obtain ⟨v, t, rfl, r1, r2⟩ := r.of_cons
    cases d <;> simp [intsOf] at h
    obtain ⟨cs, h1, rfl⟩ := h
    cases r1
    rw [intsOf_ok r2 h1]
    rfl
theorem intsOf_map (ns : List Int) : intsOf (ns.map D.int) = some ns := by
  induction ns with
  | nil => rfl
  | cons a r ih => simp [intsOf, ih]
/-- the greatest, the least -/
def maxI : List Int → Int
  | [] => 0
  | [a] => a
  | a :: r => max a (maxI r)
def minI : List Int → Int
  | [] => 0
  | [a] => a
  | a :: r => min a (minI r)
theorem maxI_cons {a b : Int} {r : List Int} : maxI (a :: b :: r) = max a (maxI (b :: r)) := rfl
theorem minI_cons {a b : Int} {r : List Int} : minI (a :: b :: r) = min a (minI (b :: r)) := rfl
theorem maxI_ok : ∀ {l : List Int}, l ≠ [] → maxI l ∈ l ∧ ∀ x ∈ l, x ≤ maxI l
  | [], h => absurd rfl h
  | [a], _ => ⟨by simp [maxI], by simp [maxI]⟩
  | a :: b :: r, _ => by
    obtain ⟨h1, h2⟩ := maxI_ok (l := b :: r) (by simp)
    rw [maxI_cons]
    refine ⟨?_, fun x hx => ?_⟩
    · by_cases c : maxI (b :: r) ≤ a
      · rw [Int.max_eq_left c]; exact List.mem_cons_self
      · rw [Int.max_eq_right (by omega)]; exact List.mem_cons_of_mem _ h1
    · rcases List.mem_cons.mp hx with rfl | hx
      · omega
      · have := h2 x hx; omega
theorem minI_ok : ∀ {l : List Int}, l ≠ [] → minI l ∈ l ∧ ∀ x ∈ l, minI l ≤ x
  | [], h => absurd rfl h
  | [a], _ => ⟨by simp [minI], by simp [minI]⟩
  | a :: b :: r, _ => by
    obtain ⟨h1, h2⟩ := minI_ok (l := b :: r) (by simp)
    rw [minI_cons]
    refine ⟨?_, fun x hx => ?_⟩
    · by_cases c : a ≤ minI (b :: r)
      · rw [Int.min_eq_left c]; exact List.mem_cons_self
      · rw [Int.min_eq_right (by omega)]; exact List.mem_cons_of_mem _ h1
    · rcases List.mem_cons.mp hx with rfl | hx
      · omega
      · have := h2 x hx; omega
section
variable {X : Cx} {CT : Nat → Addr} {E : XK} {st : Stmt}
def sumF : FL := fun ds M => match ds with
  | [d] => match (d.seqV M).bind intsOf with
    | some ns => okR (.int ns.sum) M
    | none => none
  | _ => none
def max1F : FL := fun ds M => match ds with
  | [d] => match (d.seqV M).bind intsOf with
    | some ns => if ns = [] then none else okR (.int (maxI ns)) M
    | none => none
  | _ => none
def min1F : FL := fun ds M => match ds with
  | [d] => match (d.seqV M).bind intsOf with
    | some ns => if ns = [] then none else okR (.int (minI ns)) M
    | none => none
  | _ => none
theorem c_sum (hc : X.calm = true) : CallR X (.builtin "sum") (rLD X.K CT E sumF) := imp_call (cr_sum hc) fun xs H Q ⟨Z, F, α, M, ds, w, r, k⟩ => by
  unfold sumF at k
  split at k
  · obtain ⟨v, t, rfl, r1, r2⟩ := r.of_cons
    obtain rfl := r2.of_nil
    split at k
    · rename_i bs hb
      obtain ⟨l, hl, hb⟩ := Option.bind_eq_some_iff.mp hb
      obtain ⟨a, xs, rfl, h1, h2⟩ := seqV_ok w r1 hl
      rw [intsOf_ok h2 hb] at h1
      exact ⟨a, bs, rfl, h1, okQ w k (.int _)⟩
    · exact k.elim
  · exact k.elim
theorem c_max1 (hc : X.calm = true) : CallR X (.builtin "max") (rLD X.K CT E max1F) := imp_call (cr_max hc) fun xs H Q ⟨Z, F, α, M, ds, w, r, k⟩ => by
  unfold max1F at k
  split at k
  · obtain ⟨v, t, rfl, r1, r2⟩ := r.of_cons
    obtain rfl := r2.of_nil
    split at k
    · rename_i bs hb
      split at k
      · exact k.elim
      · rename_i hne
        obtain ⟨l, hl, hb⟩ := Option.bind_eq_some_iff.mp hb
        obtain ⟨a, xs, rfl, h1, h2⟩ := seqV_ok w r1 hl
        rw [intsOf_ok h2 hb] at h1
        refine ⟨a, bs, rfl, h1, List.length_pos_iff.mpr hne, fun m hm hle => ?_⟩
        have e := maxI_ok hne
        have : m = maxI bs := by have := e.2 m hm; have := hle _ e.1; omega
        subst this
        exact okQ w k (.int _)
    · exact k.elim
  · exact k.elim
theorem c_min1 (hc : X.calm = true) : CallR X (.builtin "min") (rLD X.K CT E min1F) := imp_call (cr_min hc) fun xs H Q ⟨Z, F, α, M, ds, w, r, k⟩ => by
  unfold min1F at k
  split at k
  · obtain ⟨v, t, rfl, r1, r2⟩ := r.of_cons
    obtain rfl := r2.of_nil
    split at k
    · rename_i bs hb
      split at k
      · exact k.elim
      · rename_i hne
        obtain ⟨l, hl, hb⟩ := Option.bind_eq_some_iff.mp hb
        obtain ⟨a, xs, rfl, h1, h2⟩ := seqV_ok w r1 hl
        rw [intsOf_ok h2 hb] at h1
        refine ⟨a, bs, rfl, h1, List.length_pos_iff.mpr hne, fun m hm hle => ?_⟩
        have e := minI_ok hne
        have : m = minI bs := by have := e.2 m hm; have := hle _ e.1; omega
        subst this
        exact okQ w k (.int _)
    · exact k.elim
  · exact k.elim
/-- what is never reached -/
@[simp] def gNoS : GS := fun _ _ => none
theorem ds_never : PS X st (tDS X.K CT E gNoS) := imp_s ps_never fun _ _ _ ⟨_, _, _, _, _, _, _, k⟩ => k
end
end DL
/-! SG: sets of ints and texts, made of lists and tuples, and sorted -/
namespace DL
open PySem PySem.Spec L2 PyProof.Rows
variable [Pw]
section
variable {P : Program} {w : World} {A : Around} {E : Value → Shared → Prop} {s : Shared} {a : Addr}
instance : LawfulBEq Key where
  eq_of_beq {a b} h := by
    cases a <;> cases b <;> first | (cases h; done) | exact congrArg _ (eq_of_beq h)
  rfl {a} := by
    cases a
    · exact beq_self_eq_true (α := Int) _
    · exact beq_self_eq_true (α := Str) _
/-- a member's key -/
def keyM (e : Int × Value) : Key := match e.2 with
  | .int k _ => .inl k
  | .str x _ => .inr x
  | _ => .inl 0
def GoodM (P : Program) (w : World) (e : Int × Value) : Prop := ∃ k, RelV (kV k) e.2 ∧ e.1 = (mixKind P w).hash k
theorem keyM_of {h : Int} {k : Key} {v : Value} (r : RelV (kV k) v) : keyM (h, v) = k := by
  cases k with
  | inl i => obtain ⟨t, rfl⟩ := r; rfl
  | inr x => obtain ⟨t, rfl⟩ := r; rfl
theorem goodM_key {e : Int × Value} (g : GoodM P w e) : RelV (kV (keyM e)) e.2 ∧ e.1 = (mixKind P w).hash (keyM e) := by
  obtain ⟨h, v⟩ := e
  obtain ⟨k, r, q⟩ := g
  rw [keyM_of r]
  exact ⟨r, q⟩
theorem goodM_elems {l : List (Int × Value)} (g : ∀ e ∈ l, GoodM P w e) : ElemsOf (mixKind P w) l := fun e he => by
  obtain ⟨k, r, q⟩ := g e he
  exact ⟨⟨k, kV_is r, q⟩, key_scan r⟩
theorem goodM_is {e : Int × Value} (g : GoodM P w e) (k : Key) : (mixKind P w).is k e.2 = true ↔ keyM e = k :=
  ⟨fun h => (mixKind P w).inj _ _ _ (kV_is (goodM_key g).1) h, fun h => h ▸ kV_is (goodM_key g).1⟩
/-- the set at a: its members L -/
def SetM (P : Program) (w : World) (h : Heap) (a : Addr) (L : List Key) : Prop :=
  ∃ o es ep t, h.get? a = some o ∧ o.ExactSet ∧ o.data = .set es ep t ∧ (∀ e ∈ es.toList, GoodM P w e) ∧ (es.toList.map keyM).Perm L ∧ L.Nodup ∧
    es.size < scanBound ∧ t.fits es.size = true ∧ Ris t.place.toList ∧ (w.params.followText "set-order" = true ∨ t.led = true)
theorem SetM.at {h h' : Heap} {L : List Key} (R : SetM P w h a L) (k : ∀ o, h.get? a = some o → h'.get? a = some o) : SetM P w h' a L := by
  obtain ⟨o, es, ep, t, ho, r⟩ := R
  exact ⟨o, es, ep, t, k o ho, r⟩
def putM (L : List Key) (k : Key) : List Key := if k ∈ L then L else k :: L
theorem putM_len (L : List Key) (k : Key) : (putM L k).length ≤ L.length + 1 := by unfold putM; split <;> simp
theorem setM_tail {g : Bool → Sem Unit} (hg : ∀ (b : Bool) (s₁ : Shared) (Q' : Unit → Shared → Prop), Q' () s₁ → wpAny (model P w) A (g b) Q' E s₁)
    {o : Obj} {es : Array (Int × Value)} {ep : Nat} {t : SetTable} (ho : s.heap.get? a = some o) (hex : o.ExactSet) (hd : o.data = .set es ep t)
    {es1 : Array (Int × Value)} {t2 : SetTable} {L : List Key} (g1 : ∀ e ∈ es1.toList, GoodM P w e) (m1 : (es1.toList.map keyM).Perm L) (nd1 : L.Nodup)
    (hb1 : es1.size < scanBound) (hf2 : t2.fits es1.size = true) (hr : Ris t2.place.toList) (hl : w.params.followText "set-order" = true ∨ t2.led = true) {wasDummy : Bool} {R : Option Bool → Shared → Prop}
    (hR : ∀ h', Heap.SameBut a s.heap h' → SetM P w h' a L → R (some true) { s with heap := h' }) :
    wpAny (model P w) A (do
        storeSet a es1 t2
        if (!wasDummy && t2.tooFull) = true then do
            g (relayAll t2 es1 (SetTable.grown es1.size)).2.2
            storeSet a (relayAll t2 es1 (SetTable.grown es1.size)).1 (relayAll t2 es1 (SetTable.grown es1.size)).2.1
            pure (some true)
          else pure (some true)) R E s := by
  refine wpAny_bind (wpAny_storeSet_of ho hd ?_ (fits_of_scanBound hb1))
  have ho1 := store_at (es' := es1) (t' := t2) ho hd
  have sb1 := Heap.SameBut.update s.heap a (Obj.putSet es1 t2)
  split
  · have pm := relayAll_perm t2 es1 (SetTable.grown es1.size)
    have hf3 := relayAll_fits t2 es1 (SetTable.grown es1.size)
    have hr3 := relayAll_ris t2 es1 (SetTable.grown es1.size)
    have hl3 := relayAll_led t2 es1 (SetTable.grown es1.size)
    generalize relayAll t2 es1 (SetTable.grown es1.size) = Z at pm hf3 hr3 hl3 ⊢
    obtain ⟨es2, t3, gave⟩ := Z
    dsimp only at pm hf3 hr3 hl3 ⊢
    have hsz : es2.size = es1.size := by rw [← Array.length_toList, pm.length_eq, Array.length_toList]
    have hb2 : es2.size < scanBound := by rw [hsz]; exact hb1
    refine wpAny_bind (hg _ _ _ (wpAny_bind (wpAny_storeSet_of ho1 rfl ?_ (fits_of_scanBound hb2))))
    have ho2 := store_at (es' := es2) (t' := t3) ho1 rfl
    exact wpAny_pure (hR _ (sb1.trans (Heap.SameBut.update _ a _)) ⟨_, es2, _, t3, ho2, hex, rfl, fun e he => g1 e (pm.mem_iff.mp he), (pm.map keyM).trans m1, nd1, hb2, hf3, hr3, hl.imp id fun z => by rw [hl3]; exact z⟩)
  · exact wpAny_pure (hR _ sb1 ⟨_, es1, _, t2, ho1, hex, rfl, g1, m1, nd1, hb1, hf2, hr, hl⟩)
theorem setM_hashed {k : Key} {v : Value} {L : List Key} {Q : Bool → Shared → Prop} (rv : RelV (kV k) v) (R : SetM P w s.heap a L) (room : L.length + 1 < scanBound)
    (hQ : ∀ h', Heap.SameBut a s.heap h' → SetM P w h' a (putM L k) → ∀ b, Q b { s with heap := h' }) :
    wpAny (model P w) A (setAddHashed a v ((mixKind P w).hash k)) Q E s := by
  obtain ⟨o, es, ep, t, ho, hex, hd, g, pL, nd, hb, hf, hr, hl⟩ := R
  have hkey : (mixKind P w).is k v = true := kV_is rv
  have hsc : v.scannable = true := key_scan rv
  have hel : ElemsOf (mixKind P w) es.toList := goodM_elems g
  unfold setAddHashed setAddHashedIn
  refine wpAny_holding (wpAny_bind (wpAny_setState_of ho hd hf ?_))
  dsimp only
  rw [byScan_of hsc hb hel]
  simp only [↓reduceIte]
  unfold setAddByScan
  refine wpAny_bind (wpAny_bind (wpAny_rule ?_))
  refine wpAny_bind (wpAny_setScan_of hkey ho hd hf hel ?_)
  cases hfi : List.findIdx? (fun e => (mixKind P w).is k e.2) es.toList with
  | some j =>
    dsimp only
    obtain ⟨hj, pj, _⟩ := List.findIdx?_eq_some_iff_getElem.mp hfi
    have hin : k ∈ L := pL.mem_iff.mp (List.mem_map.mpr ⟨es.toList[j], List.getElem_mem hj, (goodM_is (g _ (List.getElem_mem hj)) k).1 pj⟩)
    exact wpAny_pure (wpAny_pure (hQ s.heap (Heap.SameBut.refl a s.heap) (by unfold putM; rw [if_pos hin]; exact ⟨o, es, ep, t, ho, hex, hd, g, pL, nd, hb, hf, hr, hl⟩) _))
  | none =>
    dsimp only
    have hnk : k ∉ L := fun z => by
      obtain ⟨e, he, q⟩ := List.mem_map.mp (pL.mem_iff.mpr z)
      have c := List.findIdx?_eq_none_iff.mp hfi e he
      rw [(goodM_is (g e he) k).2 q] at c
      cases c
    have hgw : ∀ (b : Bool) {s₁ : Shared} {Q' : Unit → Shared → Prop}, Q' () s₁ → wpAny (model P w) A (match b with | true => rule "set.scan.the-table-gave-way" | false => pure ()) Q' E s₁ :=
      fun b s₁ Q' q => by cases b <;> first | exact wpAny_pure q | exact wpAny_rule q
    have pm := layNew_perm t es ((mixKind P w).hash k) v
    have hf1 := layNew_fits t es ((mixKind P w).hash k) v
    have hr1 := layNew_ris t es ((mixKind P w).hash k) v hr
    have hl1 := layNew_led t es ((mixKind P w).hash k) v
    generalize layNew t es ((mixKind P w).hash k) v = Z at pm hf1 hr1 hl1 ⊢
    obtain ⟨es1, t1, wasDummy, gave⟩ := Z
    dsimp only at pm hf1 hr1 hl1 ⊢
    rw [Array.toList_push] at pm
    have pc : es1.toList.Perm (((mixKind P w).hash k, v) :: es.toList) := pm.trans (List.perm_append_singleton _ _)
    have pk : (es1.toList.map keyM).Perm (k :: L) := by
      refine (pc.map keyM).trans ?_
      rw [List.map_cons, keyM_of rv]
      exact pL.cons k
    have g1 : ∀ e ∈ es1.toList, GoodM P w e := fun e he => by
      rcases List.mem_cons.mp (pc.mem_iff.mp he) with z | z
      · rw [z]; exact ⟨k, rv, rfl⟩
      · exact g e z
    have nd1 : (k :: L).Nodup := List.nodup_cons.mpr ⟨hnk, nd⟩
    have hsz : es1.size = L.length + 1 := by
      have := pk.length_eq
      simpa using this
    have hb1 : es1.size < scanBound := by rw [hsz]; exact room
    have hled : w.params.followText "set-order" = true ∨ t1.led = true := hl.imp id fun z => by rw [hl1]; exact z
    have fin : ∀ h', Heap.SameBut a s.heap h' → SetM P w h' a (k :: L) → ∀ b, Q b { s with heap := h' } := fun h' sb r => hQ h' sb (by unfold putM; rw [if_neg hnk]; exact r)
    refine wpAny_bind (hgw _ ?_)
    split
    · refine wpAny_bind ?_
      rw [hashByValue_scannable 8 hsc]
      refine wpAny_pure ?_
      refine setM_tail ?_ ho hex hd g1 pk nd1 hb1 ?_ ?_ ?_ ?_
      · intro b s₁ Q' q; cases b <;> first | exact wpAny_pure q | exact wpAny_rule q
      · first | (split <;> first | exact hf1 | exact SetTable.fits_plain_off hf1) | exact hf1
      · first | (split <;> exact hr1) | exact hr1
      · first | (split <;> exact hled) | exact hled
      · intro h' sb r; dsimp only; exact wpAny_pure (fin h' sb r _)
    · refine wpAny_bind (wpAny_pure ?_)
      simp only [↓reduceIte]
      refine setM_tail ?_ ho hex hd g1 pk nd1 hb1 hf1 hr1 hled ?_
      · intro b s₁ Q' q; cases b <;> first | exact wpAny_pure q | exact wpAny_rule q
      · intro h' sb r; dsimp only; exact wpAny_pure (fin h' sb r _)
theorem setM_new {h : Heap} (ho : h.get? a = some { cls := .type "set", dict := none, data := .set #[] 0 (.fresh 0 0 (!w.params.followText "set-order")) }) : SetM P w h a [] :=
  ⟨_, #[], 0, _, ho, ⟨rfl, rfl, rfl⟩, rfl, (fun e he => by simp at he), (by simp), (by simp), (by decide), (by rfl), List.Pairwise.nil, by
    show _ ∨ (!w.params.followText "set-order") = true
    cases w.params.followText "set-order"
    · exact .inr rfl
    · exact .inl rfl⟩
/-- the members after some items -/
def setL (ks : List Key) : List Key := ks.foldl putM []
theorem setL_len (ks : List Key) : (setL ks).length ≤ ks.length := by
  have gen : ∀ (ks L : List Key), (ks.foldl putM L).length ≤ L.length + ks.length := by
    intro ks
    induction ks with
    | nil => intro L; simp
    | cons k ks ih =>
      intro L
      have h1 := ih (putM L k)
      have h2 := putM_len L k
      simp only [List.foldl_cons, List.length_cons]
      omega
  exact Nat.le_trans (gen ks []) (by simp)
theorem setM_update {I : Addr} {fp wr : List Addr} {G : Array GenState → Array GenState → Prop} {n : Nat} {Pv : Nat → Value → Prop} {St : Nat → Shared → Prop} {R : Result → Shared → Prop}
    (W : WalksS P w A.in1 I fp wr G n Pv St) (S : Addr) (hSf : S ∉ fp) (ks : List Key) (hn : n = ks.length) (hb : ks.length + 1 < scanBound) (hval : ∀ i v, Pv i v → ∃ k, ks[i]? = some k ∧ RelV (kV k) v) :
    ∀ (k i : Nat) (s : Shared), n - i = k → i ≤ n → St i s → SetM P w s.heap S (setL (ks.take i)) →
      (∀ s', Moved (S :: wr) G s s' → SetM P w s'.heap S (setL ks) → R (.ok (.ret .none)) s') →
      codeAny (model P w) A (.builtin "set.update.loop" ⟨[.ref S, .ref I], []⟩) R s := by
  have hSw : S ∉ wr := fun h => hSf (W.sub _ h)
  have hsub : ∀ b ∈ wr, b ∈ S :: wr := fun b hb => List.mem_cons_of_mem _ hb
  intro k
  induction k with
  | zero =>
    intro i s hk' hi hst hS hR
    obtain rfl : i = n := by omega
    refine codeAny_builtin PyProof.Rows.F.entry_set_update_loop ?_
    rw [Around.under_plainId PyProof.Rows.F.plain_set_update_loop _]
    show wpAny _ A.in1 (pyNext (.ref I) >>= _) _ _ s
    refine wpAny_bind (W.done s _ _ hst fun s' hm => ?_)
    show wpAny _ A.in1 (ret Value.none) _ _ s'
    rw [List.take_of_length_le (by omega)] at hS
    exact wpAny_pure (hR s' (hm.mono hsub) (hS.at fun o e => hm.heap S o hSw e))
  | succ k ih =>
    intro i s hk' hi hst hS hR
    have hlt : i < n := by omega
    refine codeAny_builtin PyProof.Rows.F.entry_set_update_loop ?_
    rw [Around.under_plainId PyProof.Rows.F.plain_set_update_loop _]
    show wpAny _ A.in1 (pyNext (.ref I) >>= _) _ _ s
    refine wpAny_bind (W.item i s _ _ hlt hst fun v s' hP hst' hm => ?_)
    obtain ⟨z, hz, rv⟩ := hval i v hP
    have hS' : SetM P w s'.heap S (setL (ks.take i)) := hS.at fun o e => hm.heap S o hSw e
    show wpAny _ A.in1 (holding [v] (setAdd S v) >>= _) _ _ s'
    refine wpAny_bind (wpAny_holding ?_)
    unfold setAdd
    refine wpAny_holding (wpAny_bind ((mixKind P w).pyHash (k := z) (kV_is rv) ?_))
    have hlen : (setL (ks.take i)).length + 1 < scanBound := by
      have := setL_len (ks.take i)
      simp at this
      omega
    refine setM_hashed (s := { s' with toks := s'.toks + 1 }) rv hS' hlen fun h' hsb hS2 b0 => ?_
    have hS3 : SetM P w h' S (setL (ks.take (i + 1))) := by
      have e : setL (ks.take (i + 1)) = putM (setL (ks.take i)) z := by
        unfold setL
        rw [List.take_add_one, hz, List.foldl_append]
        rfl
      rw [e]
      exact hS2
    refine wpAny_pure ⟨plainId_quiet PyProof.Rows.F.plain_set_update_loop _, ih (i + 1) _ (by omega) hlt (W.frame _ s' _ _ hst' (Nat.le_succ _) fun b hb o e => ?_) hS3 fun s'' hm'' hS'' => ?_⟩
    · rw [hsb.2 b (fun h : b = S => hSf (by rw [← h]; exact hb))]; exact e
    · refine hR s'' (Moved.trans W.gtrans ((hm.mono hsub).then_heap (Nat.le_succ _) fun b o hb e => ?_) hm'') hS''
      rw [hsb.2 b (fun h : b = S => hb (by rw [h]; exact List.mem_cons_self))]; exact e
set_option maxRecDepth 100000 in
set_option maxHeartbeats 3200000 in
theorem call_setM_list {l : Addr} {items : Array Value} (ks : List Key) {Q : Value → Shared → Prop} (hh : A.handled = none) (hl : s.heap.IsList l items) (hit : Vals (ks.map kV) items.toList) (hb : ks.length + 1 < scanBound)
    (h : ∀ (h' : Heap) (tk : Nat), SetM P w h' s.heap.objs.size (setL ks) → (∀ b o, s.heap.get? b = some o → h'.get? b = some o) → Q (.ref s.heap.objs.size) { s with heap := h', toks := tk }) :
    wpAny (model P w) A (call (.type "set") [.ref l]) Q E s := by
  have hisz : items.size = ks.length := by
    have q := hit.length
    simpa using q.symm
  obtain ⟨c, tl, hmro⟩ := PySem.F.called_set.mro
  have hmade := PySem.F.called_set.made
  have hsub := PySem.F.called_set.sub
  refine wpAny_call (codeAny_of_tree ?_)
  show wpAny _ _ (callAny (.type "set") _) _ _ _
  refine wpAny_pure ⟨Code.quiet_builtin _ (by decide +kernel), codeAny_builtin PySem.F.entry_type_call ?_⟩
  rw [Around.under_plain (weight_type_call_type "set" [.ref l] []) rfl]
  have h1 := PySem.F.called_set.notType
  have h2 := PySem.F.called_set.canCreate
  have hct := PySem.F.typeCall_set_1 (.ref l)
  repeat (any_goals (first | assumption | wp_step))
  refine codeAny_mono (code_set_led1 (.ref l) (E := E) (Q₁ := fun obj s₁ => obj = .ref s.heap.objs.size ∧ s₁ = { s with heap := s.heap.push { cls := .type "set", dict := none, data := .set #[] 0 (.fresh 0 0 (!w.params.followText "set-order")) } }) ⟨rfl, rfl⟩) fun r s₁ hr => ?_
  cases r with
  | error e => exact hr
  | ok fl =>
    cases fl with
    | ret obj =>
      obtain ⟨rfl, rfl⟩ := hr
      have hS : (s.heap.push { cls := .type "set", dict := none, data := .set #[] 0 (.fresh 0 0 (!w.params.followText "set-order")) }).get? s.heap.objs.size = some { cls := .type "set", dict := none, data := .set #[] 0 (.fresh 0 0 (!w.params.followText "set-order")) } := Heap.get?_push_size _ rfl
      have hT : Shared.TypeIs { s with heap := s.heap.push { cls := .type "set", dict := none, data := .set #[] 0 (.fresh 0 0 (!w.params.followText "set-order")) } } (.ref s.heap.objs.size) "set" := ⟨_, hS, rfl⟩
      have hli := PySem.F.called_set.init.lookup
      have hbi := PySem.F.called_set.init.bind (.ref s.heap.objs.size)
      repeat (any_goals (first | assumption | wp_step))
      refine codeAny_mono (codeAny_call_builtin (R := wants (fun r s₂ => r = .none ∧ ∃ h' tk, s₂ = { s with heap := h', toks := tk } ∧ SetM P w h' s.heap.objs.size (setL ks) ∧
          (∀ b o, s.heap.get? b = some o → h'.get? b = some o)) E) PySem.F.called_set.init.plain PySem.F.entry_set_init (check_set_init_1 hT ?_)) fun r₂ s₂ hr₂ => ?_
      · obtain ⟨ol, hol, hcl, nl, hdl⟩ := hl
        obtain ⟨ocls, odict, odata, oslots⟩ := ol
        simp only at hcl hdl
        subst hcl; subst hdl
        have hol' : (s.heap.push { cls := .type "set", dict := none, data := .set #[] 0 (.fresh 0 0 (!w.params.followText "set-order")) }).get? l = some { cls := .type "list", dict := odict, data := .seq items nl, slots := oslots } := Heap.get?_push_of_some _ hol
        have hsls := PySem.F.sub_list_set
        have hslf := PySem.F.sub_list_frozenset
        have hne : (Value.type "list" == Value.type "dict") = false := by decide
        have hl1 : (s.heap.push { cls := .type "set", dict := none, data := .set #[] 0 (.fresh 0 0 (!w.params.followText "set-order")) }).IsList l items := ⟨_, hol', rfl, nl, rfl⟩
        unfold Builtin.«set.__init__» noKeywords Builtin.Frozenset.updateFrom
        generalize hPI : pyIter = PI
        wp_walk
        subst hPI
        refine wpAny_pyIter_list hl1 (wpAny_bind (wpAny_runValue ?_))
        have hlS : l < s.heap.objs.size := Heap.lt_size hol
        have hh3 : A.in1.in1.in1.handled = none := by simp [hh]
        have hz1 : (s.heap.push { cls := .type "set", dict := none, data := .set #[] 0 (.fresh 0 0 (!w.params.followText "set-order")) }).objs.size = s.heap.objs.size + 1 := Heap.size_push ..
        have hneI : l ≠ (s.heap.push { cls := .type "set", dict := none, data := .set #[] 0 (.fresh 0 0 (!w.params.followText "set-order")) }).objs.size := by
          rw [hz1]; exact Nat.ne_of_lt (Nat.lt_succ_of_lt hlS)
        have hSf : s.heap.objs.size ∉ [(s.heap.push { cls := .type "set", dict := none, data := .set #[] 0 (.fresh 0 0 (!w.params.followText "set-order")) }).objs.size, l] := by
          rw [hz1]; simp only [List.mem_cons, List.mem_singleton, List.not_mem_nil, or_false, not_or]
          exact ⟨Nat.ne_of_lt (Nat.lt_succ_self _), Nat.ne_of_gt hlS⟩
        have hval : ∀ (i : Nat) (v : Value), items[i]? = some v → ∃ k, ks[i]? = some k ∧ RelV (kV k) v := fun i v hv => by
          have hi : i < ks.length := by rw [← hisz]; exact (Array.getElem?_eq_some_iff.mp hv).1
          obtain ⟨u, eu, ru⟩ := hit.get (i := i) (x := kV ks[i]) (by rw [List.getElem?_map, List.getElem?_eq_getElem hi]; rfl)
          rw [Array.getElem?_toList, hv] at eu
          cases eu
          exact ⟨ks[i], List.getElem?_eq_getElem hi, ru⟩
        refine setM_update ((Walks.list hh3 _ l hneI items).toS) s.heap.objs.size hSf ks hisz hb hval (items.size - 0) 0 _ (by omega) (Nat.zero_le _)
          ⟨⟨_, Heap.get?_push_size _ rfl, rfl, rfl⟩, (hl1.push _)⟩ ?hS0 ?hR
        case hS0 =>
          have hget : ((s.heap.push { cls := .type "set", dict := none, data := .set #[] 0 (.fresh 0 0 (!w.params.followText "set-order")) }).push { cls := .type "list_iterator", data := .fields #[.ref l, .int 0 0] }).get? s.heap.objs.size
              = some { cls := .type "set", dict := none, data := .set #[] 0 (.fresh 0 0 (!w.params.followText "set-order")) } := Heap.get?_push_of_some _ hS
          exact setM_new hget
        case hR =>
          intro s' hm hS'
          obtain ⟨h', g2, d', tk', os'⟩ := s'
          have eg : g2 = s.gens := hm.gens
          have ed : d' = s.drawn := hm.drawn
          have eo : os' = s.os := hm.os
          subst eg; subst ed; subst eo
          show wpAny _ _ _ _ _ _
          refine wpAny_pure ?_
          show wpAny _ _ (ret Value.none) _ _ _
          refine wpAny_pure ⟨rfl, h', tk', rfl, hS', fun b o e => ?_⟩
          have hb0 : b < s.heap.objs.size := Heap.lt_size e
          exact hm.heap b o (by simp only [List.mem_cons, List.mem_singleton, List.not_mem_nil, or_false, not_or, hz1]; exact ⟨Nat.ne_of_lt hb0, Nat.ne_of_lt (Nat.lt_succ_of_lt hb0)⟩) (Heap.get?_push_of_some _ (Heap.get?_push_of_some _ e))
      · cases r₂ with
        | error e => exact hr₂
        | ok fl₂ =>
          cases fl₂ with
          | ret r =>
            obtain ⟨rfl, h', tk, rfl, hS', hk'⟩ := hr₂
            repeat (any_goals (first | assumption | wp_step))
            exact h _ _ hS' hk'
          | _ => exact hr₂.elim
    | _ => exact hr.elim
set_option maxRecDepth 100000 in
set_option maxHeartbeats 3200000 in
theorem call_setM_tuple {l : Addr} {items : Array Value} (ks : List Key) {Q : Value → Shared → Prop} (hh : A.handled = none) (hl : s.heap.IsTuple l items) (hit : Vals (ks.map kV) items.toList) (hb : ks.length + 1 < scanBound)
    (h : ∀ (h' : Heap) (tk : Nat), SetM P w h' s.heap.objs.size (setL ks) → (∀ b o, s.heap.get? b = some o → h'.get? b = some o) → Q (.ref s.heap.objs.size) { s with heap := h', toks := tk }) :
    wpAny (model P w) A (call (.type "set") [.ref l]) Q E s := by
  have hisz : items.size = ks.length := by
    have q := hit.length
    simpa using q.symm
  obtain ⟨c, tl, hmro⟩ := PySem.F.called_set.mro
  have hmade := PySem.F.called_set.made
  have hsub := PySem.F.called_set.sub
  refine wpAny_call (codeAny_of_tree ?_)
  show wpAny _ _ (callAny (.type "set") _) _ _ _
  refine wpAny_pure ⟨Code.quiet_builtin _ (by decide +kernel), codeAny_builtin PySem.F.entry_type_call ?_⟩
  rw [Around.under_plain (weight_type_call_type "set" [.ref l] []) rfl]
  have h1 := PySem.F.called_set.notType
  have h2 := PySem.F.called_set.canCreate
  have hct := PySem.F.typeCall_set_1 (.ref l)
  repeat (any_goals (first | assumption | wp_step))
  refine codeAny_mono (code_set_led1 (.ref l) (E := E) (Q₁ := fun obj s₁ => obj = .ref s.heap.objs.size ∧ s₁ = { s with heap := s.heap.push { cls := .type "set", dict := none, data := .set #[] 0 (.fresh 0 0 (!w.params.followText "set-order")) } }) ⟨rfl, rfl⟩) fun r s₁ hr => ?_
  cases r with
  | error e => exact hr
  | ok fl =>
    cases fl with
    | ret obj =>
      obtain ⟨rfl, rfl⟩ := hr
      have hS : (s.heap.push { cls := .type "set", dict := none, data := .set #[] 0 (.fresh 0 0 (!w.params.followText "set-order")) }).get? s.heap.objs.size = some { cls := .type "set", dict := none, data := .set #[] 0 (.fresh 0 0 (!w.params.followText "set-order")) } := Heap.get?_push_size _ rfl
      have hT : Shared.TypeIs { s with heap := s.heap.push { cls := .type "set", dict := none, data := .set #[] 0 (.fresh 0 0 (!w.params.followText "set-order")) } } (.ref s.heap.objs.size) "set" := ⟨_, hS, rfl⟩
      have hli := PySem.F.called_set.init.lookup
      have hbi := PySem.F.called_set.init.bind (.ref s.heap.objs.size)
      repeat (any_goals (first | assumption | wp_step))
      refine codeAny_mono (codeAny_call_builtin (R := wants (fun r s₂ => r = .none ∧ ∃ h' tk, s₂ = { s with heap := h', toks := tk } ∧ SetM P w h' s.heap.objs.size (setL ks) ∧
          (∀ b o, s.heap.get? b = some o → h'.get? b = some o)) E) PySem.F.called_set.init.plain PySem.F.entry_set_init (check_set_init_1 hT ?_)) fun r₂ s₂ hr₂ => ?_
      · obtain ⟨ol, hol, hcl, nl, hdl⟩ := hl
        obtain ⟨ocls, odict, odata, oslots⟩ := ol
        simp only at hcl hdl
        subst hcl; subst hdl
        have hol' : (s.heap.push { cls := .type "set", dict := none, data := .set #[] 0 (.fresh 0 0 (!w.params.followText "set-order")) }).get? l = some { cls := .type "tuple", dict := odict, data := .seq items nl, slots := oslots } := Heap.get?_push_of_some _ hol
        have hsls := PySem.F.sub_tuple_set
        have hslf := PySem.F.sub_tuple_frozenset
        have hne : (Value.type "tuple" == Value.type "dict") = false := by decide
        have hl1 : (s.heap.push { cls := .type "set", dict := none, data := .set #[] 0 (.fresh 0 0 (!w.params.followText "set-order")) }).IsTuple l items := ⟨_, hol', rfl, nl, rfl⟩
        unfold Builtin.«set.__init__» noKeywords Builtin.Frozenset.updateFrom
        generalize hPI : pyIter = PI
        wp_walk
        subst hPI
        refine wpAny_pyIter_tuple hl1 (wpAny_bind (wpAny_runValue ?_))
        have hlS : l < s.heap.objs.size := Heap.lt_size hol
        have hh3 : A.in1.in1.in1.handled = none := by simp [hh]
        have hz1 : (s.heap.push { cls := .type "set", dict := none, data := .set #[] 0 (.fresh 0 0 (!w.params.followText "set-order")) }).objs.size = s.heap.objs.size + 1 := Heap.size_push ..
        have hneI : l ≠ (s.heap.push { cls := .type "set", dict := none, data := .set #[] 0 (.fresh 0 0 (!w.params.followText "set-order")) }).objs.size := by
          rw [hz1]; exact Nat.ne_of_lt (Nat.lt_succ_of_lt hlS)
        have hSf : s.heap.objs.size ∉ [(s.heap.push { cls := .type "set", dict := none, data := .set #[] 0 (.fresh 0 0 (!w.params.followText "set-order")) }).objs.size, l] := by
          rw [hz1]; simp only [List.mem_cons, List.mem_singleton, List.not_mem_nil, or_false, not_or]
          exact ⟨Nat.ne_of_lt (Nat.lt_succ_self _), Nat.ne_of_gt hlS⟩
        have hval : ∀ (i : Nat) (v : Value), items[i]? = some v → ∃ k, ks[i]? = some k ∧ RelV (kV k) v := fun i v hv => by
          have hi : i < ks.length := by rw [← hisz]; exact (Array.getElem?_eq_some_iff.mp hv).1
          obtain ⟨u, eu, ru⟩ := hit.get (i := i) (x := kV ks[i]) (by rw [List.getElem?_map, List.getElem?_eq_getElem hi]; rfl)
          rw [Array.getElem?_toList, hv] at eu
          cases eu
          exact ⟨ks[i], List.getElem?_eq_getElem hi, ru⟩
        refine setM_update ((Walks.tuple hh3 _ l hneI items).toS) s.heap.objs.size hSf ks hisz hb hval (items.size - 0) 0 _ (by omega) (Nat.zero_le _)
          ⟨⟨_, Heap.get?_push_size _ rfl, rfl, rfl⟩, (hl1.push _)⟩ ?hS0 ?hR
        case hS0 =>
          have hget : ((s.heap.push { cls := .type "set", dict := none, data := .set #[] 0 (.fresh 0 0 (!w.params.followText "set-order")) }).push { cls := .type "tuple_iterator", data := .fields #[.ref l, .int 0 0] }).get? s.heap.objs.size
              = some { cls := .type "set", dict := none, data := .set #[] 0 (.fresh 0 0 (!w.params.followText "set-order")) } := Heap.get?_push_of_some _ hS
          exact setM_new hget
        case hR =>
          intro s' hm hS'
          obtain ⟨h', g2, d', tk', os'⟩ := s'
          have eg : g2 = s.gens := hm.gens
          have ed : d' = s.drawn := hm.drawn
          have eo : os' = s.os := hm.os
          subst eg; subst ed; subst eo
          show wpAny _ _ _ _ _ _
          refine wpAny_pure ?_
          show wpAny _ _ (ret Value.none) _ _ _
          refine wpAny_pure ⟨rfl, h', tk', rfl, hS', fun b o e => ?_⟩
          have hb0 : b < s.heap.objs.size := Heap.lt_size e
          exact hm.heap b o (by simp only [List.mem_cons, List.mem_singleton, List.not_mem_nil, or_false, not_or, hz1]; exact ⟨Nat.ne_of_lt hb0, Nat.ne_of_lt (Nat.lt_succ_of_lt hb0)⟩) (Heap.get?_push_of_some _ (Heap.get?_push_of_some _ e))
      · cases r₂ with
        | error e => exact hr₂
        | ok fl₂ =>
          cases fl₂ with
          | ret r =>
            obtain ⟨rfl, h', tk, rfl, hS', hk'⟩ := hr₂
            repeat (any_goals (first | assumption | wp_step))
            exact h _ _ hS' hk'
          | _ => exact hr₂.elim
    | _ => exact hr.elim
theorem list_sort_strs_tree {a : Addr} {vs : List Value} {ns : List Str} {n : Nat} {Pr : Fin → Shared → Prop} (ho : s.heap.get? a = some (seqObj "list" vs.toArray n))
    (hI : StrsAre vs ns) (h64 : vs.length < 64)
    (h : ∀ (out : Array Value) (ns' : List Str), StrsAre out.toList ns' → ns'.Perm ns → sortedS ns' = true → Pr (.done (.ret .none)) { s with heap := sortedHeap s.heap a vs out }) :
    wpAny (model P w) A (Builtin.«list.sort» ⟨[.ref a], []⟩) Pr E s := by
  refine list_sort_treeK strKind_oneLt ho hI.keysOf (fun v₁ v₂ rest e => keyKind_strs (by rw [← e]; exact hI)) h64 fun st' hp hs => ?_
  obtain ⟨ns', h1, h2, h3⟩ := sorted_out_str hI hp hs
  exact h _ ns' h1 h2 h3
theorem perm_unmap {α β : Type} [DecidableEq α] [DecidableEq β] {f : α → β} (hf : ∀ a b, f a = f b → a = b) {l m : List α} (h : (l.map f).Perm (m.map f)) : l.Perm m := by
  rw [List.perm_iff_count]
  intro a
  have := (List.perm_iff_count.mp h) (f a)
  have cnt : ∀ l : List α, (l.map f).count (f a) = l.count a := by
    intro l
    induction l with
    | nil => rfl
    | cons x r ih =>
      rw [List.map_cons, List.count_cons, List.count_cons, ih]
      by_cases e : x = a
      · subst e; simp
      · have e2 : ¬ f x = f a := fun z => e (hf x a z)
        simp [e, e2]
  rw [cnt, cnt] at this
  exact this
/-- sorted(set), the members all ints (all texts) -/
theorem sorted_setM_int {L : List Key} {ms : List Int} {Q : Value → Shared → Prop} (R : SetM P w s.heap a L) (eL : L = ms.map (Sum.inl : Int → Key)) (hh : A.handled = none) (h64 : L.length < 64)
    (hQ : ∀ s' p (out : Array Value) (c : Nat) (ys : List Int), (∀ b o, s.heap.get? b = some o → s'.heap.get? b = some o) → s'.gens = s.gens → s'.os = s.os → s.heap.objs.size ≤ p →
      s'.heap.get? p = some (seqObj "list" out c) → IntsAre out.toList ys → ys.Pairwise (· ≤ ·) → ys.Perm ms → Q (.ref p) s') :
    wpAny (model P w) A (call (.builtin "sorted") [.ref a]) Q E s := by
  obtain ⟨o, es, ep, t, ho, hex, hd, g, pL, nd, hb, hf, hr, hl⟩ := R
  have hsz : es.size = L.length := by simpa using pL.length_eq
  refine Calls.call_function_entry kind_sorted plain_sorted entry_sorted (args_sorted1 _) ?_
  unfold Builtin.«sorted»
  refine wpAny_bind (m := checkCount "sorted" 1 1 _) (wpAny_pure ?_)
  refine wpAny_bind (collect_set (A := A.in1) hh ⟨o, ho, hex.1, hd⟩ hf hb hr hl fun s1 vs k1 hz g1 o1 pm => ?_)
  have hvl : vs.length = L.length := by rw [pm.length_eq, List.length_map, Array.length_toList]; exact hsz
  obtain ⟨ns, hI, pk⟩ : ∃ ns : List Int, IntsAre vs ns ∧ ns.Perm ms := by
    have gen : ∀ vs : List Value, (∀ v ∈ vs, ∃ k : Int, RelV (kV (Sum.inl k)) v) → ∃ ns : List Int, IntsAre vs ns ∧ ns.map (Sum.inl : Int → Key) = vs.map (fun v => keyM ((0 : Int), v)) := by
      intro vs
      induction vs with
      | nil => intro _; exact ⟨[], .nil, rfl⟩
      | cons v vs ih =>
        intro hv
        obtain ⟨k, r⟩ := hv v List.mem_cons_self
        obtain ⟨ns, h1, h2⟩ := ih fun u hu => hv u (List.mem_cons_of_mem _ hu)
        refine ⟨k :: ns, ?_, by rw [List.map_cons, List.map_cons, h2, keyM_of r]⟩
        obtain ⟨tk, rfl⟩ := r
        exact .cons k tk h1
    obtain ⟨ns, h1, h2⟩ := gen vs fun v hv => by
      obtain ⟨e, he, q⟩ := List.mem_map.mp (pm.mem_iff.mp hv)
      have gk := (goodM_key (g e he)).1
      have hin : keyM e ∈ ms.map (Sum.inl : Int → Key) := by rw [← eL]; exact pL.mem_iff.mp (List.mem_map.mpr ⟨e, he, rfl⟩)
      obtain ⟨k, _, ek⟩ := List.mem_map.mp hin
      rw [← ek, q] at gk
      exact ⟨k, gk⟩
    refine ⟨ns, h1, ?_⟩
    have p1 : (ns.map (Sum.inl : Int → Key)).Perm (ms.map (Sum.inl : Int → Key)) := by
      rw [h2, ← eL]
      refine ((pm.map fun v => keyM ((0 : Int), v)).trans ?_).trans pL
      rw [List.map_map]
      exact .of_eq (List.map_congr_left fun e _ => rfl)
    exact perm_unmap (fun a b h => by cases h; rfl) p1
  refine wpAny_bind (wpAny_newList ?_ (by rw [hvl, sizeLine_eq]; omega))
  have hoL : (s1.heap.push (seqObj "list" vs.toArray 0)).get? s1.heap.objs.size = some (seqObj "list" vs.toArray 0) := Heap.get?_push_size _ rfl
  refine wpAny_bind (wpAny_holding (wpAny_call_entry slot_list_sort ⟨_, hoL, rfl⟩ entry_list_sort (list_sort_tree hoL hI (by rw [hvl]; exact h64) fun out ns' a1 a2 a3 => ⟨_, rfl, ?_⟩) (args_list_sort _)))
  obtain ⟨c, hc⟩ := sortedHeap_at (vs := vs) (out := out) hoL
  refine wpAny_pure ⟨_, rfl, hQ _ s1.heap.objs.size out c ns' (fun b u e => ?_) g1 o1 hz hc a1 a3 (a2.trans pk)⟩
  have q := k1 b u e
  have hlt := Heap.lt_size q
  show (sortedHeap (s1.heap.push (seqObj "list" vs.toArray 0)) s1.heap.objs.size vs out).get? b = some u
  rw [sortedHeap_old (Nat.ne_of_lt hlt) (by rw [size_push']; exact Nat.lt_succ_of_lt hlt)]
  exact Heap.get?_push_of_some _ q
/-- sorted(set), the members all ints (all texts) -/
theorem sorted_setM_str {L : List Key} {ms : List Str} {Q : Value → Shared → Prop} (R : SetM P w s.heap a L) (eL : L = ms.map (Sum.inr : Str → Key)) (hh : A.handled = none) (h64 : L.length < 64)
    (hQ : ∀ s' p (out : Array Value) (c : Nat) (ys : List Str), (∀ b o, s.heap.get? b = some o → s'.heap.get? b = some o) → s'.gens = s.gens → s'.os = s.os → s.heap.objs.size ≤ p →
      s'.heap.get? p = some (seqObj "list" out c) → StrsAre out.toList ys → sortedS ys = true → ys.Perm ms → Q (.ref p) s') :
    wpAny (model P w) A (call (.builtin "sorted") [.ref a]) Q E s := by
  obtain ⟨o, es, ep, t, ho, hex, hd, g, pL, nd, hb, hf, hr, hl⟩ := R
  have hsz : es.size = L.length := by simpa using pL.length_eq
  refine Calls.call_function_entry kind_sorted plain_sorted entry_sorted (args_sorted1 _) ?_
  unfold Builtin.«sorted»
  refine wpAny_bind (m := checkCount "sorted" 1 1 _) (wpAny_pure ?_)
  refine wpAny_bind (collect_set (A := A.in1) hh ⟨o, ho, hex.1, hd⟩ hf hb hr hl fun s1 vs k1 hz g1 o1 pm => ?_)
  have hvl : vs.length = L.length := by rw [pm.length_eq, List.length_map, Array.length_toList]; exact hsz
  obtain ⟨ns, hI, pk⟩ : ∃ ns : List Str, StrsAre vs ns ∧ ns.Perm ms := by
    have gen : ∀ vs : List Value, (∀ v ∈ vs, ∃ k : Str, RelV (kV (Sum.inr k)) v) → ∃ ns : List Str, StrsAre vs ns ∧ ns.map (Sum.inr : Str → Key) = vs.map (fun v => keyM ((0 : Int), v)) := by
      intro vs
      induction vs with
      | nil => intro _; exact ⟨[], .nil, rfl⟩
      | cons v vs ih =>
        intro hv
        obtain ⟨k, r⟩ := hv v List.mem_cons_self
        obtain ⟨ns, h1, h2⟩ := ih fun u hu => hv u (List.mem_cons_of_mem _ hu)
        refine ⟨k :: ns, ?_, by rw [List.map_cons, List.map_cons, h2, keyM_of r]⟩
        obtain ⟨tk, rfl⟩ := r
        exact .cons k tk h1
    obtain ⟨ns, h1, h2⟩ := gen vs fun v hv => by
      obtain ⟨e, he, q⟩ := List.mem_map.mp (pm.mem_iff.mp hv)
      have gk := (goodM_key (g e he)).1
      have hin : keyM e ∈ ms.map (Sum.inr : Str → Key) := by rw [← eL]; exact pL.mem_iff.mp (List.mem_map.mpr ⟨e, he, rfl⟩)
      obtain ⟨k, _, ek⟩ := List.mem_map.mp hin
      rw [← ek, q] at gk
      exact ⟨k, gk⟩
    refine ⟨ns, h1, ?_⟩
    have p1 : (ns.map (Sum.inr : Str → Key)).Perm (ms.map (Sum.inr : Str → Key)) := by
      rw [h2, ← eL]
      refine ((pm.map fun v => keyM ((0 : Int), v)).trans ?_).trans pL
      rw [List.map_map]
      exact .of_eq (List.map_congr_left fun e _ => rfl)
    exact perm_unmap (fun a b h => by cases h; rfl) p1
  refine wpAny_bind (wpAny_newList ?_ (by rw [hvl, sizeLine_eq]; omega))
  have hoL : (s1.heap.push (seqObj "list" vs.toArray 0)).get? s1.heap.objs.size = some (seqObj "list" vs.toArray 0) := Heap.get?_push_size _ rfl
  refine wpAny_bind (wpAny_holding (wpAny_call_entry slot_list_sort ⟨_, hoL, rfl⟩ entry_list_sort (list_sort_strs_tree hoL hI (by rw [hvl]; exact h64) fun out ns' a1 a2 a3 => ⟨_, rfl, ?_⟩) (args_list_sort _)))
  obtain ⟨c, hc⟩ := sortedHeap_at (vs := vs) (out := out) hoL
  refine wpAny_pure ⟨_, rfl, hQ _ s1.heap.objs.size out c ns' (fun b u e => ?_) g1 o1 hz hc a1 a3 (a2.trans pk)⟩
  have q := k1 b u e
  have hlt := Heap.lt_size q
  show (sortedHeap (s1.heap.push (seqObj "list" vs.toArray 0)) s1.heap.objs.size vs out).get? b = some u
  rw [sortedHeap_old (Nat.ne_of_lt hlt) (by rw [size_push']; exact Nat.lt_succ_of_lt hlt)]
  exact Heap.get?_push_of_some _ q
end
/-- a set as an object of the abstract heap -/
def SetMO (P : Program) (w : World) (a : Addr) (L : List Key) : HO := .ext fun h => SetM P w h a L
theorem setMO_new {w : World} {P : Program} {H : Hp} {h : Heap} {a : Addr} {L : List Key} (R : SetM P w h a L) : ObjOk P w H h a (SetMO P w a L) := by
  obtain ⟨o, es, ep, t, ho, r⟩ := id R
  exact ⟨R, ⟨o, ho⟩, fun h1 h2 q k => q.at k⟩
def rSetM (K : PySem.W.Frag) (P : Program) (w : World) : List V → Hp → VK → Prop := fun xs H Q => ∃ (l : Addr) (ks : List Key), xs = [.ref l] ∧ (SqL K H l (ks.map kV) ∨ SqT K H l (ks.map kV)) ∧ ks.length + 1 < scanBound ∧
  ∀ p, H p = none → Q (.ref p) (upd H p (SetMO P w p (setL ks)))
section
variable {X : Cx} {CT : Nat → Addr} {E : XK} {k : Nat} {e : Expr} {g : GE} {p1 p2 q1 q2 : Pos}
theorem cr_setM (hc : X.calm = true) : CallR X (.type "set") (rSetM X.K X.prog X.w) := by
  intro pins s σ H xs us Q I r h
  obtain ⟨l, ks, rfl, hl, hb, q⟩ := h
  obtain ⟨u, rfl, rx⟩ := vals1 r
  cases rx
  have fin : ∀ (h' : Heap) (tk : Nat), SetM X.prog X.w h' s.heap.objs.size (setL ks) → (∀ b o, s.heap.get? b = some o → h'.get? b = some o) → EP X pins σ Q (.ref s.heap.objs.size) { s with heap := h', toks := tk } := fun h' tk R k =>
    ⟨.ref s.heap.objs.size, _, I.laid (t' := tk) k (Nat.le_refl _) (setMO_new R), rfl, q _ (I.hok.fresh (Nat.le_refl _))⟩
  rcases hl with hl | hl
  · obtain ⟨its, rv, pl, hz⟩ := I.list hl
    exact call_setM_list ks (I.ok.hd hc) pl.isList (by simpa using rv) hb fin
  · obtain ⟨its, rv, ht, hz⟩ := I.tuple hl
    exact call_setM_tuple ks (I.ok.hd hc) ht (by simpa using rv) hb fin
def rSortedM (P : Program) (w : World) : List V → Hp → VK → Prop := fun vs H Q => ∃ (a : Addr) (L : List Key), vs = [V.ref a] ∧ H a = some (SetMO P w a L) ∧ L.length < 64 ∧
  ((∃ ms : List Int, L = ms.map (Sum.inl : Int → Key) ∧ ∀ (ys : List Int) p, ys.Perm ms → ys.Pairwise (· ≤ ·) → H p = none → Q (.ref p) (upd H p (.lst (ys.map V.int)))) ∨
   (∃ ms : List Str, L = ms.map Sum.inr ∧ ∀ (ys : List Str) p, ys.Perm ms → sortedS ys = true → H p = none → Q (.ref p) (upd H p (.lst (ys.map V.str)))))
theorem cr_sortedM (hc : X.calm = true) : CallR X (.builtin "sorted") (rSortedM X.prog X.w) := by
  intro pins s σ H vs us Q I r h
  obtain ⟨a, L, rfl, ha, h64, q⟩ := h
  have R : SetM X.prog X.w s.heap a L := (I.hok a _ ha).1
  rw [Vals.ref1 r]
  have fin : ∀ (s' : Shared) (p : Addr) (o : HO), (∀ b o, s.heap.get? b = some o → s'.heap.get? b = some o) → s'.gens = s.gens → s'.os = s.os → s.heap.objs.size ≤ p → ObjOk X.prog X.w (upd H p o) s'.heap p o → Q (.ref p) (upd H p o) → EP X pins σ Q (.ref p) s' := fun s' p o k g os hp ob qq => by
    have hn : H p = none := I.hok.fresh hp
    have J : Inv X pins σ (upd H p o) { s with heap := s'.heap, gens := s'.gens, drawn := s'.drawn, toks := s'.toks } :=
      I.call (ch := []) (Un.laid k hp hn) (I.hok.laid k hp ob) (by rw [g]; exact I.bare) (fun _ z => nomatch z)
    have e : s' = { s with heap := s'.heap, gens := s'.gens, drawn := s'.drawn, toks := s'.toks } := by
      cases s'
      cases s
      cases os
      rfl
    rw [e]
    exact ⟨.ref p, _, J, rfl, qq⟩
  rcases q with ⟨ms, eL, q⟩ | ⟨ms, eL, q⟩
  · refine sorted_setM_int R eL (I.ok.hd hc) h64 fun s' p out c ys k g os hp hg hi hs hm => ?_
    have hlen : (ys.map V.int).length ≤ sizeLine := by rw [List.length_map, hm.length_eq, sizeLine_eq]; rw [eL, List.length_map] at h64; omega
    exact fin s' p (.lst (ys.map V.int)) k g os hp ⟨hlen, out.toList, c, vals_of_ints hi, by simpa using hg⟩ (q ys p hm hs (I.hok.fresh hp))
  · refine sorted_setM_str R eL (I.ok.hd hc) h64 fun s' p out c ys k g os hp hg hi hs hm => ?_
    have hlen : (ys.map V.str).length ≤ sizeLine := by rw [List.length_map, hm.length_eq, sizeLine_eq]; rw [eL, List.length_map] at h64; omega
    exact fin s' p (.lst (ys.map V.str)) k g os hp ⟨hlen, out.toList, c, vals_of_strs hi, by simpa using hg⟩ (q ys p hm hs (I.hok.fresh hp))
/-- a list of keys -/
def keysOf : List D → Option (List Key)
  | [] => some []
  | d :: r => match keyD d, keysOf r with
    | some k, some ks => some (k :: ks)
    | _, _ => none
theorem keysOf_ok {K : PySem.W.Frag} {F : Hp} {α : List Addr} : ∀ {xs : List V} {ds : List D} {ks : List Key}, RvL K F α xs ds → keysOf ds = some ks → xs = ks.map kV
  | xs, [], ks, r, h => by cases h; rw [r.of_nil]; rfl
  | xs, d :: ds, ks, r, h => by
    obtain ⟨v, t, rfl, r1, r2⟩ := r.of_cons
    simp only [keysOf] at h
    split at h
    · rename_i k ks' h1 h2
      cases h
      rw [keyD_ok r1 h1, keysOf_ok r2 h2]
      rfl
    · cases h
def intsK : List Key → Option (List Int)
  | [] => some []
  | .inl i :: r => (intsK r).map (i :: ·)
  | _ => none
def strsK : List Key → Option (List Str)
  | [] => some []
  | .inr i :: r => (strsK r).map (i :: ·)
  | _ => none
theorem intsK_ok : ∀ {ks : List Key} {l : List Int}, intsK ks = some l → ks = l.map Sum.inl
  | [], l, h => by cases h; rfl
  | .inl i :: r, l, h => by
    simp only [intsK] at h
    obtain ⟨m, h1, rfl⟩ := Option.map_eq_some_iff.mp h
    rw [intsK_ok h1]; rfl
  | .inr x :: r, l, h => by simp [intsK] at h
theorem strsK_ok : ∀ {ks : List Key} {l : List Str}, strsK ks = some l → ks = l.map Sum.inr
  | [], l, h => by cases h; rfl
  | .inr i :: r, l, h => by
    simp only [strsK] at h
    obtain ⟨m, h1, rfl⟩ := Option.map_eq_some_iff.mp h
    rw [strsK_ok h1]; rfl
  | .inl x :: r, l, h => by simp [strsK] at h
def insI (x : Int) : List Int → List Int
  | [] => [x]
  | y :: r => if x ≤ y then x :: y :: r else y :: insI x r
def sortI : List Int → List Int
  | [] => []
  | x :: r => insI x (sortI r)
theorem insI_perm (x : Int) : ∀ l, (insI x l).Perm (x :: l)
  | [] => .refl _
  | y :: r => by
    simp only [insI]
    split
    · exact .refl _
    · exact ((insI_perm x r).cons y).trans (.swap _ _ _)
theorem sortI_perm : ∀ l, (sortI l).Perm l
  | [] => .refl _
  | x :: r => (insI_perm x _).trans ((sortI_perm r).cons x)
theorem insI_pair (x : Int) : ∀ {l : List Int}, l.Pairwise (· ≤ ·) → (insI x l).Pairwise (· ≤ ·)
  | [], _ => by simp [insI]
  | y :: r, h => by
    simp only [insI]
    obtain ⟨h1, h2⟩ := List.pairwise_cons.mp h
    split
    · rename_i q
      refine List.pairwise_cons.mpr ⟨fun z hz => ?_, h⟩
      rcases List.mem_cons.mp hz with rfl | hz
      · exact q
      · have := h1 z hz; omega
    · rename_i q
      refine List.pairwise_cons.mpr ⟨fun z hz => ?_, insI_pair x h2⟩
      rcases List.mem_cons.mp ((insI_perm x r).subset hz) with rfl | hz
      · omega
      · exact h1 z hz
theorem sortI_pair : ∀ l, (sortI l).Pairwise (· ≤ ·)
  | [] => .nil
  | x :: r => insI_pair x (sortI_pair r)
theorem permI_one : ∀ {l m : List Int}, l.Perm m → l.Pairwise (· ≤ ·) → m.Pairwise (· ≤ ·) → l = m
  | [], m, p, _, _ => p.nil_eq
  | x :: l, [], p, _, _ => by have := p.length_eq; simp at this
  | x :: l, y :: m, p, h, k => by
    obtain ⟨h1, h2⟩ := List.pairwise_cons.mp h
    obtain ⟨k1, k2⟩ := List.pairwise_cons.mp k
    have e : x = y := by
      have hx : x ∈ y :: m := p.subset List.mem_cons_self
      have hy : y ∈ x :: l := p.symm.subset List.mem_cons_self
      rcases List.mem_cons.mp hx with e | hx
      · exact e
      · rcases List.mem_cons.mp hy with e | hy
        · exact e.symm
        · have := h1 y hy; have := k1 x hx; omega
    subst e
    rw [permI_one ((List.perm_cons x).mp p) h2 k2]
/-- sorted(set(..)) -/
def sortedSetD (d : D) (M : Sto) : Option (List D) := match (d.itsV M).bind keysOf with
  | some ks => if ks.length < 1000 ∧ (setL ks).length < 64 then match intsK (setL ks) with
      | some l => some ((sortI l).map D.int)
      | none => match strsK (setL ks) with
        | some l => some ((sortS l).map D.str)
        | none => none
    else none
  | none => none
@[simp] def gSortedSet (g : GE) : GE := fun δ M => bindR (g δ M) fun d M1 => match sortedSetD d M1 with
  | some l => okR (.lst l) M1
  | none => none
theorem ints_rv {K : PySem.W.Frag} {F : Hp} {α : List Addr} : ∀ (bs : List Int), RvL K F α (bs.map V.int) (bs.map D.int)
  | [] => .nil
  | b :: bs => .cons (.int b) (ints_rv bs)
theorem d_sortedSet (dx : DX X E k) (hg : Gl X "sorted") (hm : X.mg "sorted" = none) (hg2 : Gl X "set") (hm2 : X.mg "set" = none) (he : PE X e (tD X.K CT E g))
    (hs : starEach [e] X.env = (false, eval e X.env) :: starEach [] X.env := by rfl) (hpl : (backTo q1 (starEach [] X.env)).any (·.1) = false := by rfl)
    (hs2 : starEach [.Call (.Name "set" p1) [e] [] q1] X.env = (false, eval (.Call (.Name "set" p1) [e] [] q1) X.env) :: starEach [] X.env := by rfl) (hpl2 : (backTo q2 (starEach [] X.env)).any (·.1) = false := by rfl) :
    PE X (.Call (.Name "sorted" p2) [.Call (.Name "set" p1) [e] [] q1] [] q2) (tD X.K CT E (gSortedSet g)) := by
  refine imp_e (pe_callB (cr_sortedM dx.calm) hg hm bt_sorted (pa_cons (pe_callTy (cr_setM dx.calm) hg2 hm2 bt_set (pa_cons he pa_nil hs) (by decide) (by decide) hs hpl) pa_nil hs2) (by decide) (by decide) hs2 hpl2) fun σ H Q ⟨Z, F, α, δ, M, w, ev, k⟩ => ?_
  refine ⟨Z, F, α, δ, M, w, ev, (KO.of_bind k).imp fun F1 α1 d M1 H1 w1 s1 p1 k1 v rv => ?_⟩
  split at k1
  · rename_i l hl
    unfold sortedSetD at hl
    split at hl
    · rename_i ks hk
      obtain ⟨ds, hd, hk⟩ := Option.bind_eq_some_iff.mp hk
      obtain ⟨a, xs, rfl, h1, h2⟩ := itsV_ok w1 rv hd
      rw [keysOf_ok h2 hk] at h1
      split at hl
      · rename_i hc
        have hsb : ks.length + 1 < scanBound := by unfold scanBound; omega
        refine ⟨a, ks, rfl, h1, hsb, fun p hp => ?_⟩
        have w2 := w1.fresh hp (SetMO X.prog X.w p (setL ks))
        have s2 := Same.upd (o := SetMO X.prog X.w p (setL ks)) (w1.freeF hp)
        have k2 := KO.mono s2 (PR _) k1
        refine ⟨p, setL ks, rfl, upd_same, hc.2, ?_⟩
        split at hl
        · rename_i ms hms
          cases hl
          refine .inl ⟨ms, intsK_ok hms, fun ys q pm ps hq => ?_⟩
          have e : ys = sortI ms := permI_one (pm.trans (sortI_perm ms).symm) ps (sortI_pair ms)
          subst e
          exact newQ w2 hq k2 fun s => .lst' upd_same (ints_rv _)
        · split at hl
          · rename_i ms hms
            cases hl
            refine .inr ⟨ms, strsK_ok hms, fun ys q pm ps hq => ?_⟩
            rw [sortS_one pm ps]
            exact newQ w2 hq k2 fun s => .lst' upd_same (strs_rv _)
          · cases hl
      · cases hl
    · cases hl
  · exact k1.elim
end
end DL
/-! DR: dict comprehensions and dict(pairs), the keys nested tuples -/
namespace DL
open PySem PySem.Spec L2 PyProof.Rows
variable [Pw]
section
variable {X : Cx} {pins : List (Addr × Obj)} {σ : L2.St} {H : Hp} {s : Shared} {a : Addr} {v : V} {r : Value} {A : Around} {E : Value → Shared → Prop} {k : NestedKey} {es : List EntN}
theorem dn_dictSet {b : Addr} {Q : Unit → Shared → Prop} (hp : X.prog = Pw.P) (hw : X.w = Pw.w) (hu : A.units + 64 < cLine) (I : Inv X pins σ H s) (e : H a = some (DNo a es)) (hk : KeysAt X.K H es) (hy : NkV X.K H k (.ref b)) (hd : k.depth ≤ 8) (hl : es.length < sizeLine) (rv : RelV v r)
    (h : ∀ s', Inv X pins σ (upd H a (DNo a (putN es k b v))) s' → Q () s') : wpAny (model X.prog X.w) A (dictSet a (.ref b) r) Q E s := by
  obtain ⟨hz, hs, xs, rr, hm⟩ := dn_H hp hw I (.inl e) hk
  have hz' : xs.length ≤ sizeLine := by rw [← Paired.length rr]; exact hz
  have hl' : (putN es k b v).length ≤ sizeLine := by have := putN_len es k b v; omega
  have hroom : (nestedKind X.prog X.w).room A := by
    show A.units + 8 < cLine
    omega
  refine wpAny_dictSet_heap (hsz := hz') hroom (nk_key I hy hd) hm fun h' dd' hs' => h _ ?_
  obtain ⟨q, os, ep, hq, h2, h3, h4, _, h5⟩ := dd'
  refine d_write I (by rw [e]; exact True.intro) hs' ⟨q, hq⟩ (dno_new hl' hs (putN_rel rr rv) hq h2 h3 (by rw [← hp, ← hw]; exact h4) h5)
end
section
variable {X : Cx}
/-- {k: v for target in iter if ..}, the keys nested tuples: D the new dict -/
def tDcN (K : PySem.W.Frag) (wi : TI) (g : TG) (tt : TT) (tk tv : TE) (vs : List Nat) : TE := fun σ H Q => wi σ H fun J H1 => ∀ D, H1 D = none → ∃ W : Nat → Nat → Hp → Prop, (∃ m, W 0 m (upd H1 D (DNo D []))) ∧ ∀ i m H, W i m H →
  (J.stop i H ∧ Q (.ref D) H) ∨ (J.go i H ∧ ∃ Nx : Hp → Prop, (∀ H', Nx H' → ∃ m', m' < m ∧ W (i + 1) m' H') ∧ ∀ x H', J.yld i H x H' → g x (wipe σ vs) H' fun σ2 H2 => wipe σ2 vs = wipe σ vs ∧ tt σ2 H2 fun b H3 =>
    if b = true then tk σ2 H3 fun y H4 => tv σ2 H4 fun z H5 => ∃ es b kk, y = .ref b ∧ NkV K H5 kk (.ref b) ∧ kk.depth ≤ 8 ∧ H5 D = some (DNo D es) ∧ KeysAt K H5 es ∧ es.length < sizeLine ∧ Nx (upd H5 D (DNo D (putN es kk b z))) else Nx H3)
theorem pe_dcN {kx vx tg iter : Expr} {ifs : List Expr} {scope : Scope} {own : List (Str × Nat)} {pos : Pos} {wi : TI} {g : TG} {tt : TT} {tk tv : TE} (hP : X.prog = Pw.P) (hW : X.w = Pw.w) (hu : X.A.units + 64 < cLine) (hc : X.calm = true) (hN : X.N.Nodup) (hi : PI X tg iter wi) (ok : BlkOk X.N X.env.scope scope own)
    (hg : ∀ (s : Shared) (H : Hp) (C : Addr) (cl : List (Str × Addr)) (fp : List Addr), PG (X.blk s H scope (compEnvC scope cl C X.env) fp) tg g) (ht : ∀ (s : Shared) (H : Hp) (C : Addr) (cl : List (Str × Addr)) (fp : List Addr), PTs (X.blk s H scope (compEnvC scope cl C X.env) fp) ifs tt)
    (hk : ∀ (s : Shared) (H : Hp) (C : Addr) (cl : List (Str × Addr)) (fp : List Addr), PE (X.blk s H scope (compEnvC scope cl C X.env) fp) kx tk)
    (he : ∀ (s : Shared) (H : Hp) (C : Addr) (cl : List (Str × Addr)) (fp : List Addr), PE (X.blk s H scope (compEnvC scope cl C X.env) fp) vx tv) (hs : ∀ x, foldedSetIterable iter X.env x = pure x := by intro _; rfl) :
    PE X (.DictComp kx vx [⟨tg, iter, ifs, 0⟩] scope pos) (tDcN X.K wi g tt tk tv (own.map (·.2))) := by
  refine ⟨fun pins s σ H Q I h => ?_⟩
  rw [arm_eval_DictComp]
  have hfree : ∀ y ∈ scope.names, y.2 = .free → ∃ c, X.env.cells.lookup y.1 = some c := fun y hy e => by
    rcases ok.free y hy e with k | k
    · exact I.ok.has _ (.inl k)
    · exact I.ok.has _ (.inr k)
  refine wpAny_comprehension_free rfl hs (closure_ok hfree) ok.kind (fun y hy e => by rw [ok.uniq y hy, e])
    (thn (hi.run pins s σ H _ I h) fun xv s1 hx => thn hx fun itv s2 h2 => ?_)
  obtain ⟨it, fp, tn, J, H2, e, I2, T, st2, f2, q⟩ := h2
  subst e
  refine wpAny_newObj_type (newEnv_comp ?_)
  generalize hD : s2.heap.objs.size = D
  have hDn : H2 D = none := I2.hok.fresh (Nat.le_of_eq hD)
  obtain ⟨W, ⟨m0, w0⟩, turn⟩ := q D hDn
  -- the new dict
  generalize hs3 : ({ s2 with heap := s2.heap.push { cls := .type "dict", data := .dict #[] } } : Shared) = s3
  have I3 : Inv X pins σ (upd H2 D (DNo D [])) s3 := by
    rw [← hs3]
    refine I2.laid (t' := s2.toks) (fun b o e => Heap.get?_push_of_some _ e) (Nat.le_of_eq hD) ?_
    rw [← hD]
    exact dno_new (Nat.zero_le _) (beq_eq_false_iff_ne.mpr (Ne.symm (Nat.ne_of_lt I2.big))) .nil (Heap.get?_push_size _ rfl) ⟨rfl, rfl, rfl⟩ rfl rfl List.nodup_nil
  have h3 : s3.heap = s2.heap.push { cls := .type "dict", data := .dict #[] } := by rw [← hs3]
  have sz : ∀ b ∈ fp, b < s2.heap.objs.size := fun b hb => by
    obtain ⟨o, e, _⟩ := T.obj _ _ st2 b hb
    exact Heap.lt_size e
  have f3 : ∀ b ∈ fp, FpOk X pins (upd H2 D (DNo D [])) b ∧ b < s3.heap.objs.size := fun b hb => by
    have hlt := sz b hb
    refine ⟨⟨?_, (f2 b hb).2⟩, by rw [h3, Heap.size_push]; exact Nat.lt_succ_of_lt hlt⟩
    rw [upd_ne (by rw [← hD]; exact Nat.ne_of_lt hlt)]
    exact (f2 b hb).1
  have st3 : tn 0 s3.heap := T.keep _ _ _ st2 fun b _ o e => by rw [h3]; exact Heap.get?_push_of_some _ e
  have I4 := block_start I3 ok hN f3
  have pg := hg s3 (upd H2 D (DNo D [])) s3.heap.objs.size (cellsFrom (s3.heap.objs.size + 1) scope.names (cloFrom X.env.cells scope.names [])) fp
  have pt := ht s3 (upd H2 D (DNo D [])) s3.heap.objs.size (cellsFrom (s3.heap.objs.size + 1) scope.names (cloFrom X.env.cells scope.names [])) fp
  have pk := hk s3 (upd H2 D (DNo D [])) s3.heap.objs.size (cellsFrom (s3.heap.objs.size + 1) scope.names (cloFrom X.env.cells scope.names [])) fp
  have pe := he s3 (upd H2 D (DNo D [])) s3.heap.objs.size (cellsFrom (s3.heap.objs.size + 1) scope.names (cloFrom X.env.cells scope.names [])) fp
  show codeAny _ _ (.compStart (.DictComp kx vx [⟨tg, iter, ifs, 0⟩] scope pos) 0 (.ref it) (.ref D) (compEnvC scope (cellsFrom (s3.heap.objs.size + 1) scope.names (cloFrom X.env.cells scope.names [])) s3.heap.objs.size X.env)) (compPost (model X.prog X.w) X.A X.xe none (EP X pins σ Q) (.ref D) s3.heap.objs.size) { s3 with heap := pushCells (s3.heap.push { cls := .type "dict", data := .dict #[] }) scope.names }
  have nfp : ∀ b ∈ fp, (upd H2 D (DNo D [])) b = none := fun b hb => (f3 b hb).1.1
  generalize hce : compEnvC scope (cellsFrom (s3.heap.objs.size + 1) scope.names (cloFrom X.env.cells scope.names [])) s3.heap.objs.size X.env = ce at I4 pg pt pk pe ⊢
  have cL : ce.locals = s3.heap.objs.size := by subst hce; rfl
  generalize hH3 : upd H2 D (DNo D []) = H3 at I3 I4 pg pt pk pe w0 nfp f3
  generalize hs4 : ({ s3 with heap := pushCells (s3.heap.push { cls := .type "dict", data := .dict #[] }) scope.names } : Shared) = s4 at I4 ⊢
  have st4 : tn 0 s4.heap := T.keep _ _ _ st3 fun b _ o e => by rw [← hs4]; exact pushCells_keeps _ _ _ _ (Heap.get?_push_of_some _ e)
  have stat : ∀ {σ' : L2.St} {H' : Hp} {s' : Shared}, Inv (X.blk s3 H3 scope ce fp) [] σ' H' s' → (∀ b ∈ fp, H' b = none) → ∀ b ∈ fp, FpOk (X.blk s3 H3 scope ce fp) [] H' b := fun {σ' H' s'} I' hn b hb =>
    ⟨hn b hb, (I'.ok.exf b hb).1, I'.ok.exfs b hb, .inl hb, fun x c e => (I'.ok.exf b hb).2 x c e, fun p hp => absurd (show p ∈ ([] : List (Addr × Obj)) ++ [] from hp) (by simp)⟩
  have loop : codeAny (model X.prog X.w) X.A (.compLoop (.DictComp kx vx [⟨tg, iter, ifs, 0⟩] scope pos) 0 (.ref it) (.ref D) ce) (compPost (model X.prog X.w) X.A X.xe none (EP X pins σ Q) (.ref D) s3.heap.objs.size) s4 := by
    refine compLoop_anyD (fun n s' => ∃ i H', Inv (X.blk s3 H3 scope ce fp) [] (wipe σ (own.map (·.2))) H' s' ∧ tn i s'.heap ∧ (∀ b ∈ fp, H' b = none) ∧ W i n H') ?_ m0 ⟨0, H3, I4, st4, nfp, w0⟩
    rintro n s5 ⟨i, H5, I5, st5, n5, w5⟩
    rcases turn i n H5 w5 with ⟨stop, qq⟩ | ⟨go, Nx, hNx, step⟩
    · have td := T.done (X.blk s3 H3 scope ce fp) rfl rfl rfl hc i [] s5 _ H5 (fun _ _ => False) I5 (stat I5 n5) st5 stop
      refine thnF td fun r s6 ⟨hr, I6⟩ => ?_
      subst hr
      -- back in the def's context
      have I7 : Inv X pins σ H5 s6 := I3.call' (ch := fp) I6.os I6.base I6.hok I6.bare fun b hb => ⟨(f3 b hb).1.2.2.2.1, (f3 b hb).1.2.1, (f3 b hb).1.2.2.2.2.1, (f3 b hb).1.2.2.2.2.2⟩
      have nC : H5 s3.heap.objs.size = none := by
        have z : H5 ce.locals = none := I6.free
        rw [cL] at z
        exact z
      obtain ⟨m, hn, _⟩ := I6.loc
      have hn : s6.heap.Ns ce.locals m := hn
      rw [cL] at hn
      obtain ⟨f0, f1, f2, f3, f4, f5⟩ := I3.fpOk (Nat.le_refl _) nC
      exact ⟨m, hn, fun h'' sb => ⟨.ref D, H5, I7.turned (t' := s6.toks) (fun b o hb e => (sb.2 b hb).trans e) f0 f1 f3 f4 f5, rfl, qq⟩⟩
    · have ti := T.item (X.blk s3 H3 scope ce fp) rfl rfl rfl hc i [] s5 _ H5 (fun _ _ => False) I5 (stat I5 n5) st5 go
      refine thnF ti fun r s6 ⟨u, hr, h6⟩ => ?_
      subst hr
      refine thnF h6 fun _ s7 ⟨x, H7, I7, r7, y7, st7, n7⟩ => ?_
      have I7' := I7.pinned (stat I7 n7) (T.obj _ _ st7)
      refine thnF (pg.run _ s7 _ H7 x u _ I7' r7 (step x H7 y7)) fun _ s8 ⟨σ8, H8, I8, hw8, q8⟩ => ?_
      refine thnF (pt.run _ s8 σ8 H8 _ I8 q8) fun b s9 ⟨H9, I9, q9⟩ => ?_
      -- the turn's end
      have fin : ∀ {s' : Shared} {H' : Hp}, Inv (X.blk s3 H3 scope ce fp) ([] ++ pinsAt fp s7.heap) σ8 H' s' → Nx H' → ∃ m, m < n ∧ ∃ i H', Inv (X.blk s3 H3 scope ce fp) [] (wipe σ (own.map (·.2))) H' s' ∧ tn i s'.heap ∧ (∀ b ∈ fp, H' b = none) ∧ W i m H' := fun {s' H'} I' nx => by
        obtain ⟨m', hm, w'⟩ := hNx H' nx
        have pin' : ∀ b ∈ fp, ∀ o, s7.heap.get? b = some o → s'.heap.get? b = some o ∧ H' b = none := fun b hb o e =>
          let z := I'.pin (b, o) (List.mem_append_right _ (List.mem_append_right _ (mem_pinsAt hb e)))
          ⟨z.1, z.2.1⟩
        have hl : (wipe σ (own.map (·.2))).length = σ8.length := by rw [← hw8, wipe_length]
        refine ⟨m', hm, i + 1, H', (I'.unpinned (pins := [])).weak hl (fun j v e => ?_), T.keep _ _ _ st7 fun b hb o e => (pin' b hb o e).1, fun b hb => ?_, w'⟩
        · rw [← hw8] at e
          exact (wipe_some e).1
        · obtain ⟨o, e, _⟩ := T.obj _ _ st7 b hb
          exact (pin' b hb o e).2
      cases b with
      | false =>
        simp only [Bool.false_eq_true, if_false] at q9 ⊢
        exact fin I9 q9
      | true =>
        simp only [if_true] at q9 ⊢
        refine thnF (pk.run _ s9 σ8 H9 _ I9 q9) fun z s10 ⟨yk, H10, I10, r10, q10⟩ => ?_
        refine thnF (pe.run _ s10 σ8 H10 _ I10 q10) fun z2 s11 ⟨yv, H11, I11, r11, es, bb, kk, ek, nk, hdep, hD11, hks, hz11, nx⟩ => ?_
        subst ek
        cases r10
        exact dn_dictSet (X := X.blk s3 H3 scope ce fp) hP hW hu I11 hD11 hks nk hdep hz11 r11 fun s12 I12 => fin I12 nx
  exact codeAny_compStart_dict loop (T.self X.A 0 _ _ _ st4 loop)
end
/-! ### as data -/
def dcL (T : TGC) (tt : GT) (tk tv : GE) (δ : Ev) (n : Nat) : List D → Sto → RO D
  | [], M => okR (.cel n) M
  | d :: ds, M => match T.d d δ with
    | none => none
    | some δ1 => bindR (noEx (tt δ1 M)) fun b M1 => if b = true then bindR (noEx (tk δ1 M1)) fun k M2 => bindR (noEx (tv δ1 M2)) fun v M3 => match M3[n]? with
      | some (.dkn kvs) => match keyN k with
        | some j => if kvs.length < sizeLine then dcL T tt tk tv δ n ds (M3.set n (.dkn (ptN kvs j k v))) else none
        | none => none
      | _ => none
      else dcL T tt tk tv δ n ds M1
@[simp] def gDcN (gi : GI) (T : TGC) (tt : GT) (tk tv : GE) (vs : List Nat) : GE := fun δ M => bindR (gi δ M) fun ds M1 => dcL T tt tk tv (wipeD δ vs) M1.length ds (M1 ++ [.dkn []])
section
variable {X : Cx} {CT : Nat → Addr} {E : XK} {k : Nat} {gi : GI} {T : TGC} {tt : GT} {tk tv : GE} {vs : List Nat}
theorem pfx_get {β : Type} {l m : List β} {i : Nat} {x : β} (h : l <+: m) (e : l[i]? = some x) : m[i]? = some x := by
  obtain ⟨t, rfl⟩ := h
  rw [List.getElem?_append_left (List.getElem?_eq_some_iff.mp e).1]
  exact e
theorem KO.toE' {K : PySem.W.Frag} {Z : List (Addr × HO)} {CT : Nat → Addr} {F : Hp} {α : List Addr} {β : Type} {r : RO β} {S S' : Hp → List Addr → β → Sto → Hp → Prop} (h : KO K Z CT E0 F α S r) (hS : ∀ F' α' b M' H', W K Z F' H' α' M' → Same F F' → α <+: α' → S F' α' b M' H' → S' F' α' b M' H') : KO K Z CT E0 F α S' r := by
  match r, h with
  | some (.ok b M'), h => exact fun F' α' H' w s p => hS F' α' b M' H' w s p (h F' α' H' w s p)
  | some (.ex e M'), h => exact fun F' α' H' w s p => h F' α' H' w s p
theorem dc_go {σ : L2.St} {H : Hp} {Q : VK} (hi : ∀ i ∈ T.slots, i ∈ vs) (h : tD X.K CT E (gDcN gi T tt tk tv vs) σ H Q) : tDcN X.K (tDI X.K CT E gi) (T.h X.K) (tDT X.K CT E0 tt) (tD X.K CT E0 tk) (tD X.K CT E0 tv) vs σ H Q := by
  obtain ⟨Z, F, α, δ, M, w, ev, k⟩ := h
  refine ⟨Z, F, α, δ, M, w, ev, (KO.of_bind k).imp fun F0 α0 ds M0 H0 w0 s0 p0 k0 J hJ D hD => ?_⟩
  have ev0 := (ev.mono s0 p0).wipe (vs := vs)
  have wA : W X.K Z F0 (upd H0 D (DNo D [])) (α0 ++ [D]) (M0 ++ [.dkn []]) := w0.alloc hD ⟨[], upd_same, .nil⟩
  have hn : (α0 ++ [D])[M0.length]? = some D := by rw [← w0.len]; simp
  have kA := KO.mono (Same.refl F0) (List.prefix_append α0 [D]) k0
  refine ⟨fun i m H' => ∃ F1 α1 M1, W X.K Z F1 H' α1 M1 ∧ Same F0 F1 ∧ (α0 ++ [D]) <+: α1 ∧ i + m = ds.length ∧ KO X.K Z CT E F1 α1 (QD X.K Q) (dcL T tt tk tv (wipeD δ vs) M0.length (ds.drop i) M1),
    ⟨ds.length, F0, α0 ++ [D], _, wA, Same.refl _, PR _, by omega, by simpa using kA⟩, ?_⟩
  rintro i m H1 ⟨F1, α1, M1, w1, s1, p1, hm, k1⟩
  have p01 : α0 <+: α1 := (List.prefix_append α0 [D]).trans p1
  by_cases hlt : i < ds.length
  · refine .inr ⟨hJ.go i _ F1 α1 H1 M1 w1 s1 p01 hlt, _, fun H' hN => ⟨m - 1, by omega, hN⟩, fun x H2 hy => ?_⟩
    obtain ⟨F2, w2, s2, rx⟩ := hJ.yld i _ F1 α1 H1 M1 x H2 ds[i] w1 s1 p01 hy (List.getElem?_eq_getElem hlt)
    rw [List.drop_eq_getElem_cons hlt] at k1
    simp only [dcL] at k1
    split at k1
    · exact k1.elim
    · rename_i δ1 hd
      have k2 := KO.mono s2 (PR _) k1
      refine tgc_go w2 rx (ev0.mono (s1.trans s2) p01) hd hi fun σ1 ev1 hw => ⟨hw.trans wipe_wipe, ?_⟩
      refine ⟨Z, F2, α1, δ1, M1, w2, ev1, (KO.of_bindN k2).toE' fun F3 α3 b M3 H3 w3 s3 p3 k3 => ?_⟩
      have sA : Same F0 F3 := s1.trans (s2.trans s3)
      have pA := p1.trans p3
      refine ite2 (fun hb => ?_) (fun hb => ?_)
      · rw [if_pos hb] at k3
        refine ⟨Z, F3, α3, δ1, M3, w3, ev1.mono s3 p3, (KO.of_bindN k3).toE' fun F4 α4 y M4 H4 w4 s4 p4 k4 v rv => ?_⟩
        refine ⟨Z, F4, α4, δ1, M4, w4, (ev1.mono s3 p3).mono s4 p4, (KO.of_bindN k4).toE' fun F5 α5 y2 M5 H5 w5 s5 p5 k5 v2 rv2 => ?_⟩
        split at k5
        · rename_i kvs hmm
          split at k5
          · rename_i kk hk
            split at k5
            · rename_i hl
              have hn5 : α5[M0.length]? = some D := pfx_get (pA.trans (p4.trans p5)) hn
              obtain ⟨_, _, es, h1, h2⟩ := w5.out M0.length D _ hn5 hmm
              have rv' := rv.mono s5 p5
              obtain ⟨b, rfl, h3, h4⟩ := rv'.key w5.sub hk
              exact ⟨es, b, kk, rfl, h3, h4, h1, h2.keys w5.sub, h2.len ▸ hl, F5, α5, _, w5.put (co := .dkn _) hn5 hmm (by intro z; cases z) ⟨_, upd_same, h2.put hk rv' rv2⟩, sA.trans (s4.trans s5), pA.trans (p4.trans p5), by omega, k5⟩
            · exact k5.elim
          · exact k5.elim
        · exact k5.elim
      · rw [if_neg hb] at k3
        exact ⟨F3, α3, M3, w3, sA, pA, by omega, k3⟩
  · refine .inl ⟨hJ.stop i _ F1 α1 H1 M1 w1 s1 p01 (by omega), ?_⟩
    rw [List.drop_of_length_le (by omega)] at k1
    exact k1 F1 α1 H1 w1 (Same.refl _) (PR _) _ (.cel (pfx_get p1 hn))
theorem d_dcN {kx vx tg iter : Expr} {ifs : List Expr} {scope : Scope} {own : List (Str × Nat)} {pos : Pos} (dx : DX X E k) (hi : PI X tg iter (tDI X.K CT E gi)) (ok : BlkOk X.N X.env.scope scope own) (hT : ∀ i ∈ T.slots, i ∈ own.map (·.2))
    (hg : ∀ (s : Shared) (H : Hp) (C : Addr) (cl : List (Str × Addr)) (fp : List Addr), PG (X.blk s H scope (compEnvC scope cl C X.env) fp) tg (T.h X.K))
    (ht : ∀ (s : Shared) (H : Hp) (C : Addr) (cl : List (Str × Addr)) (fp : List Addr), PTs (X.blk s H scope (compEnvC scope cl C X.env) fp) ifs (tDT X.K CT E0 tt))
    (hk : ∀ (s : Shared) (H : Hp) (C : Addr) (cl : List (Str × Addr)) (fp : List Addr), DX (X.blk s H scope (compEnvC scope cl C X.env) fp) E0 k → PE (X.blk s H scope (compEnvC scope cl C X.env) fp) kx (tD X.K CT E0 tk))
    (he : ∀ (s : Shared) (H : Hp) (C : Addr) (cl : List (Str × Addr)) (fp : List Addr), DX (X.blk s H scope (compEnvC scope cl C X.env) fp) E0 k → PE (X.blk s H scope (compEnvC scope cl C X.env) fp) vx (tD X.K CT E0 tv)) (hs : ∀ x, foldedSetIterable iter X.env x = pure x := by intro _; rfl) :
    PE X (.DictComp kx vx [⟨tg, iter, ifs, 0⟩] scope pos) (tD X.K CT E (gDcN gi T tt tk tv (own.map (·.2)))) :=
  imp_e (pe_dcN dx.pw.1 dx.pw.2.1 dx.mk3 dx.calm dx.nd hi ok hg ht (fun s H C cl fp => hk s H C cl fp dx.blk) (fun s H C cl fp => he s H C cl fp dx.blk) hs) fun σ H Q h => dc_go hT h
end
/-! ### dict(pairs) -/
def putAllN (acc es : List EntN) : List EntN := es.foldl (fun acc e => putN acc e.1 e.2.1 e.2.2) acc
def ptAll (acc : List (D × D)) (kvs : List (NestedKey × D × D)) : List (D × D) := kvs.foldl (fun acc x => ptN acc x.1 x.2.1 x.2.2) acc
theorem putAllN_rel : ∀ {es acc : List EntN} {xs ps : List (NestedKey × Addr × Value)}, Paired EntR acc xs → Paired EntR es ps → Paired EntR (putAllN acc es) (storedAllH xs ps)
  | _, _, _, _, r, .nil => r
  | _, acc, xs, _, r, .cons (a := e) (b := q) h t => by
    obtain ⟨h1, h2, h3⟩ := h
    have := putN_rel (k := e.1) (a := e.2.1) r h3
    refine putAllN_rel (acc := putN acc e.1 e.2.1 e.2.2) (xs := storedH xs q.1 q.2.1 q.2.2) ?_ t
    rw [h1, h2] at this ⊢
    exact this
section
variable {X : Cx} {pins : List (Addr × Obj)} {σ : L2.St} {H : Hp} {s : Shared}
theorem pairs_ofN (I : Inv X pins σ H s) : ∀ {ps : List Addr} {es : List EntN}, Paired (fun p (e : EntN) => SqT X.K H p [.ref e.2.1, e.2.2]) ps es →
    ∃ prs : List (NestedKey × Addr × Value), Paired EntR es prs ∧ prs.length = ps.length ∧ ∀ (j : Nat) (q : NestedKey × Addr × Value), prs[j]? = some q → ∃ b : Addr, ps[j]? = some b ∧ s.heap.IsTuple b #[.ref q.2.1, q.2.2]
  | _, _, .nil => ⟨[], .nil, rfl, fun j q e => by simp at e⟩
  | _, _, .cons (a := p) (b := e) h t => by
    obtain ⟨prs, r, hl, hp⟩ := pairs_ofN I t
    obtain ⟨its, rv, ht, _⟩ := I.tuple h
    obtain ⟨u, y, ei, ru, ry⟩ := vals2 rv
    subst ei
    cases ru
    refine ⟨(e.1, e.2.1, y) :: prs, .cons ⟨rfl, rfl, ry⟩ r, by rw [List.length_cons, List.length_cons, hl], fun j q eq => ?_⟩
    cases j with
    | zero =>
      have e' : (e.1, e.2.1, y) = q := Option.some.inj eq
      subst e'
      exact ⟨p, rfl, ht⟩
    | succ j =>
      obtain ⟨b, e1, e2⟩ := hp j q (by simpa using eq)
      exact ⟨b, by simpa using e1, e2⟩
theorem cr_dictN (hp : X.prog = Pw.P) (hw : X.w = Pw.w) (hu : X.A.units + 64 < cLine) (hcalm : X.calm = true) : CallR X (.type "dict") (fun xs H Q => ∃ (a : Addr) (ps : List Addr) (es : List EntN), xs = [.ref a] ∧ SqL X.K H a (ps.map V.ref) ∧ Paired (fun p (e : EntN) => SqT X.K H p [.ref e.2.1, e.2.2]) ps es ∧ KeysAt X.K H es ∧
    ∀ p, H p = none → Q (.ref p) (upd H p (DNo p (putAllN [] es)))) := by
  intro pins s σ H xs us Q I r q
  obtain ⟨a, ps, es, ex, hq, hpr, hks, q⟩ := q
  subst ex
  obtain ⟨u, eu, rx⟩ := vals1 r
  subst eu
  cases rx
  obtain ⟨its, rv, pl, hz⟩ := I.list hq
  have ei := refs_at rv
  subst ei
  rw [List.length_map] at hz
  obtain ⟨prs, rel, hl, hpt⟩ := pairs_ofN I hpr
  have hkey : ∀ x ∈ prs, (nestedKind X.prog X.w).is s.heap x.1 x.2.1 := by
    have all : ∀ {es : List EntN} {xs : List (NestedKey × Addr × Value)}, Paired EntR es xs → KeysAt X.K H es → ∀ x ∈ xs, (nestedKind X.prog X.w).is s.heap x.1 x.2.1 := by
      intro es xs r
      induction r with
      | nil => intro _ x hx; exact nomatch hx
      | @cons p q ps qs hq t ih =>
        intro hk x hx
        rcases List.mem_cons.mp hx with e | hx
        · subst e
          obtain ⟨q1, q2⟩ := hk p List.mem_cons_self
          rw [← hq.1, ← hq.2.1]
          exact nk_key I q1 q2
        · exact ih (fun e he => hk e (List.mem_cons_of_mem _ he)) x hx
    exact all rel hks
  have hroom : (nestedKind X.prog X.w).room X.A.in1.in1 := by
    show X.A.units + 1 + 1 + 8 < cLine
    omega
  have P := PairArg.list (prog := X.prog) (w := X.w) a (ps.map Value.ref).toArray (fun j => ps.getD j 0) (prs.map fun q => (Value.ref q.2.1, q.2.2))
  have plenq : (prs.map fun q => (Value.ref q.2.1, q.2.2)).length = ps.length := by rw [List.length_map, hl]
  refine call_dict_pairsH (knd := nestedKind X.prog X.w) (ps := prs) P (I.ok.hd hcalm) hroom ⟨pl, ?_, ?_⟩ ⟨by rw [List.length_map], ?_⟩ ?_ (by rw [plenq]; exact hz) fun h' tk hd' hk => ?_
  · simp [hl]
  · intro j k v hj
    rw [List.getElem?_map] at hj
    obtain ⟨q', hq', e⟩ := Option.map_eq_some_iff.mp hj
    obtain ⟨b, e1, e2⟩ := hpt j q' hq'
    cases e
    refine ⟨?_, .inl ?_⟩
    · simp [List.getD_eq_getElem?_getD, e1]
    · simpa [List.getD_eq_getElem?_getD, e1] using e2
  · intro i key v hr
    have hr' : (prs.map fun q => (Value.ref q.2.1, q.2.2))[i]? = some (key, v) := hr
    rw [List.getElem?_map] at hr'
    obtain ⟨q', hq', e⟩ := Option.map_eq_some_iff.mp hr'
    cases e
    exact ⟨q'.1, q'.2.1, hq', rfl⟩
  · intro h'' hk x hx
    exact nestedKind_stays.all h'' (fun b o _ e => hk b o (Nat.ne_of_lt (Heap.lt_size e)) (fun z => nomatch z) e) _ _ (hkey x hx)
  · obtain ⟨o, os, ep, ho, hc, hd, he, _, hn⟩ := hd'
    have hm : (s.heap.objs.size == sysModules) = false := beq_eq_false_iff_ne.mpr (Nat.ne_of_gt I.big)
    have rr := putAllN_rel .nil rel
    have hlen : (putAllN [] es).length ≤ sizeLine := by
      rw [Paired.length rr]
      have := storedAllH_length prs []
      simp at this
      omega
    exact ⟨.ref s.heap.objs.size, _, I.laid (t' := tk) (fun b o e => hk b o (fun z => nomatch z) e) (Nat.le_refl _) (dno_new hlen hm rr ho hc hd (by rw [← hp, ← hw]; exact he) hn), rfl, q _ (I.hok.fresh (Nat.le_refl _))⟩
end
def pairsD : List D → Option (List (NestedKey × D × D))
  | [] => some []
  | .tup [k, v] :: r => match keyN k, pairsD r with
    | some j, some l => some ((j, k, v) :: l)
    | _, _ => none
  | _ => none
/-- dict(l) of a list of pairs -/
def dictNF : FL := fun ds M => match ds with
  | [.lst l] => match pairsD l with
    | some kvs => okR (.cel M.length) (M ++ [.dkn (ptAll [] kvs)])
    | none => none
  | _ => none
section
variable {X : Cx} {CT : Nat → Addr} {E : XK} {k : Nat} {K : PySem.W.Frag} {Z : List (Addr × HO)} {F H : Hp} {α : List Addr} {M : Sto}
theorem ptAll_ok : ∀ {es acc : List EntN} {kvs : List (NestedKey × D × D)} {kv : List (D × D)}, EnR K F α acc kv → Paired (fun (e : EntN) (x : NestedKey × D × D) => e.1 = x.1 ∧ keyN x.2.1 = some x.1 ∧ Rv K F α (.ref e.2.1) x.2.1 ∧ Rv K F α e.2.2 x.2.2) es kvs → EnR K F α (putAllN acc es) (ptAll kv kvs)
  | _, _, _, _, r, .nil => r
  | _, _, _, _, r, .cons (a := e) (b := x) h t => by
    obtain ⟨h1, h2, h3, h4⟩ := h
    refine ptAll_ok (acc := putN _ e.1 e.2.1 e.2.2) (kv := ptN _ x.1 x.2.1 x.2.2) ?_ t
    rw [h1]
    exact r.put h2 h3 h4
theorem pairsD_ok (w : W K Z F H α M) : ∀ {l : List D} {xs : List V} {kvs : List (NestedKey × D × D)}, RvL K F α xs l → pairsD l = some kvs → ∃ (ps : List Addr) (es : List EntN), xs = ps.map V.ref ∧ Paired (fun p (e : EntN) => SqT K H p [.ref e.2.1, e.2.2]) ps es ∧ KeysAt K H es ∧
    Paired (fun (e : EntN) (x : NestedKey × D × D) => e.1 = x.1 ∧ keyN x.2.1 = some x.1 ∧ Rv K F α (.ref e.2.1) x.2.1 ∧ Rv K F α e.2.2 x.2.2) es kvs
  | [], xs, kvs, r, h => by
    cases h
    exact ⟨[], [], by rw [r.of_nil]; rfl, .nil, (by intro e he; cases he), .nil⟩
  | d :: l, xs, kvs, r, h => by
    obtain ⟨v, t, rfl, r1, r2⟩ := r.of_cons
    unfold pairsD at h
    split at h
    · cases ‹_ :: _ = []›
    · rename_i kd vd l' heq
      cases heq
      split at h
      · rename_i j kvs' hj hl
        cases h
        obtain ⟨ps, es, rfl, h1, h2, h3⟩ := pairsD_ok w r2 hl
        obtain ⟨p, ys, rfl, h4, h5⟩ := r1.of_tup
        obtain ⟨ku, t1, rfl, ru, r3⟩ := h5.of_cons
        obtain ⟨vu, t2, rfl, rvu, r4⟩ := r3.of_cons
        obtain rfl := r4.of_nil
        obtain ⟨b, rfl, h6, h7⟩ := ru.key w.sub hj
        refine ⟨p :: ps, (j, b, vu) :: es, rfl, .cons (SqT.mono w.sub h4) h1, ?_, .cons ⟨rfl, hj, ru, rvu⟩ h3⟩
        intro e he
        rcases List.mem_cons.mp he with rfl | he
        · exact ⟨h6, h7⟩
        · exact h2 e he
      · cases h
    · cases h
theorem c_dictN (dx : DX X E k) : CallR X (.type "dict") (rLD X.K CT E dictNF) := imp_call (cr_dictN dx.pw.1 dx.pw.2.1 dx.mk3 dx.calm) fun xs H Q ⟨Z, F, α, M, ds, w, r, k⟩ => by
  unfold dictNF at k
  split at k
  · split at k
    · rename_i l kvs hk
      obtain ⟨v, t, rfl, r1, r2⟩ := r.of_cons
      obtain rfl := r2.of_nil
      obtain ⟨a, xs, rfl, h1, h2⟩ := r1.of_lst
      obtain ⟨ps, es, rfl, h3, h4, h5⟩ := pairsD_ok w h2 hk
      refine ⟨a, ps, es, rfl, w.sub.seq (SqL.of h1), h3, h4, fun p hp => ?_⟩
      refine k F (α ++ [p]) _ (w.alloc hp ⟨putAllN [] es, upd_same, (ptAll_ok .nil h5).mono (Same.refl _) (List.prefix_append _ _)⟩) (Same.refl _) (List.prefix_append _ _) _ (.cel ?_)
      rw [← w.len]
      simp
    · exact k.elim
  · exact k.elim
end
end DL
namespace EB
open PySem PySem.Spec L2 DL
def g_is_within : GS := (gRet (gAnd (gUn (isiF "int") (gVar 0)) (gAnd (gNot (gUn (isiF "bool") (gVar 0))) (gChain leF leF (gVar 1) (gVar 0) (gVar 2)))))
def f_is_within : FL := runD 3 g_is_within
def g_is_row : GS := (gRet (gAnd (gUn (isiF "tuple") (gVar 0)) (gOp eqF (gCall lenF (gCons (gVar 0) gNil)) (gVar 1))))
def f_is_row : FL := runD 2 g_is_row
def g_is_program : GS := (gRet (gAnd (gCallN 2 f_is_row (gCons (gVar 0) (gCons (gC (.int 2)) gNil))) (gAnd (gCallN 3 f_is_within (gCons (gOp subIx (gVar 0) (gC (.int 0))) (gCons (gC (.int 0)) (gCons (gC (.int 3)) gNil)))) (gCallN 3 f_is_within (gCons (gOp subIx (gVar 0) (gC (.int 1))) (gCons (gC (.int 1)) (gCons (gC (.int 3)) gNil)))))))
def f_is_program : FL := runD 1 g_is_program
def g_is_feed : GS := (gSeq (gIfS (gTOr (gTNot (gTst (gCallN 2 f_is_row (gCons (gVar 0) (gCons (gC (.int 4)) gNil))))) (gTOr (gTNot (gTst (gCallN 3 f_is_within (gCons (gOp subIx (gVar 0) (gC (.int 0))) (gCons (gC (.int 0)) (gCons (gC (.int 2)) gNil)))))) (gTNot (gTst (gCallN 3 f_is_within (gCons (gOp subIx (gVar 0) (gC (.int 3))) (gCons (gC (.int 1)) (gCons (gC (.int 3)) gNil)))))))) (gRet (gC (.bl false))) gNext) (gRet (gAnd (gUn (isiF "bool") (gOp subIx (gVar 0) (gC (.int 1)))) (gUn (isiF "bool") (gOp subIx (gVar 0) (gC (.int 2)))))))
def f_is_feed : FL := runD 1 g_is_feed
def g_is_plan : GS := (gSeq (gIfS (gTOr (gTNot (gTst (gCallN 2 f_is_row (gCons (gVar 0) (gCons (gC (.int 5)) gNil))))) (gTOr (gTNot (gTst (gCallN 3 f_is_within (gCons (gOp subIx (gVar 0) (gC (.int 0))) (gCons (gC (.int 2)) (gCons (gC (.int 6)) gNil)))))) (gTNot (gTst (gCallN 3 f_is_within (gCons (gOp subIx (gVar 0) (gC (.int 2))) (gCons (gC (.int 0)) (gCons (gOp subF (gOp subIx (gVar 0) (gC (.int 0))) (gC (.int 1))) gNil)))))))) (gRet (gC (.bl false))) gNext) (gRet (gAnd (gCallN 3 f_is_within (gCons (gOp subIx (gVar 0) (gC (.int 1))) (gCons (gC (.int 0)) (gCons (gOp subIx (gVar 0) (gC (.int 2))) gNil)))) (gAnd (gCallN 1 f_is_program (gCons (gOp subIx (gVar 0) (gC (.int 3))) gNil)) (gCallN 1 f_is_feed (gCons (gOp subIx (gVar 0) (gC (.int 4))) gNil))))))
def f_is_plan : FL := runD 1 g_is_plan
def g_programs_of : GS := (gRet (gLc2 (gRng1 (gCons (gC (.int 4)) gNil)) (.one 0) gYes (gItT (gTup (gCons (gC (.int 1)) (gCons (gC (.int 2)) (gCons (gC (.int 3)) gNil))))) (.one 1) gYes (gTup (gCons (gVar 0) (gCons (gVar 1) gNil))) [0, 1] [1]))
def f_programs_of : FL := runD 2 g_programs_of
def g_all_programs : GS := (gRet (gCallN 0 f_programs_of gNil))
def f_all_programs : FL := runD 0 g_all_programs
def g_look_at_plan : GS := (gIfS (gTNot (gTst (gCallN 1 f_is_plan (gCons (gVar 0) gNil)))) (gRaise 0) gNext)
def f_look_at_plan : FL := runD 1 g_look_at_plan
def g_begin_of : GS := (gRet (gTup (gCons (gOp mulF (gTup (gCons (gC (.int (-1))) gNil)) (gOp subIx (gVar 0) (gC (.int 0)))) (gCons (gC (.str "runs")) (gCons (gC (.int 0)) (gCons (gOp mulF (gTup (gCons (gC (.bl false)) gNil)) (gOp subIx (gOp subIx (gVar 0) (gC (.int 3))) (gC (.int 0)))) (gCons (gOp subIx (gOp subIx (gVar 0) (gC (.int 4))) (gC (.int 0))) gNil)))))))
def f_begin_of : FL := runD 1 g_begin_of
def g_first_stand : GS := (gSeq (gExpr (gCallN 1 f_look_at_plan (gCons (gVar 0) gNil))) (gRet (gCallN 1 f_begin_of (gCons (gVar 0) gNil))))
def f_first_stand : FL := runD 1 g_first_stand
def g_is_place : GS := (gRet (gCallN 3 f_is_within (gCons (gVar 1) (gCons (gIf (gTst (gOp subIx (gOp subIx (gVar 0) (gC (.int 4))) (gC (.int 1)))) (gC (.int (-2))) (gC (.int (-1)))) (gCons (gOp addF (gOp subIx (gOp subIx (gVar 0) (gC (.int 4))) (gC (.int 3))) (gC (.int 1))) gNil)))))
def f_is_place : FL := runD 2 g_is_place
def g_fits : GS := (gSeq (gIfS (gTOr (gTNot (gTst (gCallN 2 f_is_row (gCons (gVar 1) (gCons (gC (.int 5)) gNil))))) (gTOr (gTNot (gTst (gCallN 2 f_is_row (gCons (gOp subIx (gVar 1) (gC (.int 0))) (gCons (gOp subIx (gVar 0) (gC (.int 0))) gNil))))) (gTNot (gTst (gCallN 2 f_is_row (gCons (gOp subIx (gVar 1) (gC (.int 3))) (gCons (gOp subIx (gOp subIx (gVar 0) (gC (.int 3))) (gC (.int 0))) gNil))))))) (gRet (gC (.bl false))) gNext) (gSeq (gIfS (gTOr (gTNot (gTst (gCall allF (gCons (gLc (gItT (gOp subIx (gVar 1) (gC (.int 0)))) (.one 2) gYes (gCallN 2 f_is_place (gCons (gVar 0) (gCons (gVar 2) gNil))) [2]) gNil)))) (gTNot (gTst (gCall allF (gCons (gLc (gItT (gOp subIx (gVar 1) (gC (.int 3)))) (.one 2) gYes (gUn (isiF "bool") (gVar 2)) [2]) gNil))))) (gRet (gC (.bl false))) gNext) (gSeq (gIfS (gTOr (gTNot (gTst (gUn (isiF "str") (gOp subIx (gVar 1) (gC (.int 1)))))) (gTNot (gTst (gCallN 3 f_is_within (gCons (gOp subIx (gVar 1) (gC (.int 4))) (gCons (gC (.int 0)) (gCons (gOp subIx (gOp subIx (gVar 0) (gC (.int 4))) (gC (.int 0))) gNil))))))) (gRet (gC (.bl false))) gNext) (gSeq (gIfS (gTst (gOp eqF (gOp subIx (gVar 1) (gC (.int 1))) (gC (.str "runs")))) (gRet (gCallN 3 f_is_within (gCons (gOp subIx (gVar 1) (gC (.int 2))) (gCons (gC (.int 0)) (gCons (gC (.int 0)) gNil))))) gNext) (gRet (gAnd (gOp eqF (gOp subIx (gVar 1) (gC (.int 1))) (gC (.str "fills"))) (gCallN 3 f_is_within (gCons (gOp subIx (gVar 1) (gC (.int 2))) (gCons (gC (.int 1)) (gCons (gOp subIx (gOp subIx (gVar 0) (gC (.int 3))) (gC (.int 1))) gNil))))))))))
def f_fits : FL := runD 3 g_fits
def g_is_stand : GS := (gSeq (gExpr (gCallN 1 f_look_at_plan (gCons (gVar 0) gNil))) (gRet (gCallN 2 f_fits (gCons (gVar 0) (gCons (gVar 1) gNil)))))
def f_is_stand : FL := runD 2 g_is_stand
def g__law_spring : GS := (gSeq (gAsg (gC (.int 7)) (DL.gName 2)) (gSeq (gIfS (gTst (gOp ltF (gVar 1) (gCall lenF (gCons (gVar 0) gNil)))) (gAsg (gCall absF (gCons (gOp subIx (gVar 0) (gVar 1)) gNil)) (DL.gName 2)) gNext) (gSeq (gAsg (gOp modF (gCall toIntF (gCons (gOp addF (gOp addF (gOp mulF (gVar 2) (gC (.int 863))) (gOp mulF (gC (.int 524287)) (gVar 1))) (gC (.int 1))) gNil)) (gC (.int 999999999989))) (DL.gName 3)) (gRet (gLstC (gCons (gIf (gTst (gOp geF (gVar 2) (gOp powF (gC (.int 10)) (gC (.int 18))))) (gVar 2) (gC (.int 0))) (gCons (gVar 3) gNil)))))))
def f__law_spring : FL := runD 4 g__law_spring
def g__law_pick : GS := (gSeq (gIfS (gTst (gOp gtF (gOp subIx (gVar 0) (gC (.int 0))) (gC (.int 0)))) (gSeq (gAsg (gOp modF (gCall toIntF (gCons (gOp subIx (gVar 0) (gC (.int 0))) gNil)) (gVar 1)) (DL.gName 2)) (gSeq (gAsg (gOp fdivF (gOp subIx (gVar 0) (gC (.int 0))) (gVar 1)) (gSubT (gVar 0) (gC (.int 0)))) (gRet (gVar 2)))) gNext) (gSeq (gAsg (gOp modF (gCall toIntF (gCons (gOp addF (gOp mulF (gOp subIx (gVar 0) (gC (.int 1))) (gC (.int 393555900739))) (gC (.int 8191))) gNil)) (gC (.int 999999999989))) (gSubT (gVar 0) (gC (.int 1)))) (gRet (gOp modF (gCall toIntF (gCons (gOp fdivF (gOp subIx (gVar 0) (gC (.int 1))) (gC (.int 4093))) gNil)) (gVar 1)))))
def f__law_pick : FL := runD 3 g__law_pick
def g__law_kind : GS := (gSeq (gIfS (gTOr (gTst (gUn isNF (gVar 0))) (gTst (gUn (isiF "bool") (gVar 0)))) (gRet (gIf (gTst (gUn isNF (gVar 0))) (gC (.int 0)) (gC (.int 1)))) gNext) (gSeq (gIfS (gTst (gUn (isi2F "list" "tuple") (gVar 0))) (gRet (gIf (gTst (gUn (isiF "list") (gVar 0))) (gC (.int 2)) (gC (.int 3)))) gNext) (gRet (gIf (gTst (gUn (isiF "int") (gVar 0))) (gC (.int 4)) (gIf (gTst (gUn (isiF "str") (gVar 0))) (gC (.int 5)) (gC (.int 6)))))))
def f__law_kind : FL := runD 1 g__law_kind
def g__law_twins (rec : FL) : GS := (gSeq (gIfS (gTst (gOp neF (gCallN 1 f__law_kind (gCons (gVar 0) gNil)) (gCallN 1 f__law_kind (gCons (gVar 1) gNil)))) (gRet (gC (.bl false))) gNext) (gSeq (gIfS (gTst (gOp inF (gCallN 1 f__law_kind (gCons (gVar 0) gNil)) (gLst (gCons (gC (.int 2)) (gCons (gC (.int 3)) gNil))))) (gRet (gAnd (gOp eqF (gCall lenF (gCons (gVar 0) gNil)) (gCall lenF (gCons (gVar 1) gNil))) (gOp eqF (gLc (gZip (gCons (gVar 0) (gCons (gVar 1) gNil))) (.many [2, 3]) (gTNot (gTst (gCallN 2 rec (gCons (gVar 2) (gCons (gVar 3) gNil))))) (gC (.int 1)) [2, 3]) (gLst gNil)))) gNext) (gRet (gOp eqF (gVar 0) (gVar 1)))))
def f__law_twins : Nat → FL
  | 0 => fun _ _ => none
  | n + 1 => runD 4 (g__law_twins (f__law_twins n))
def g__law_feed : GS := (gSeq (gPar 1 2 (gCons (gOp eqF (gCallN 2 f__law_pick (gCons (gVar 0) (gCons (gC (.int 3)) gNil))) (gC (.int 0))) (gCons (gOp eqF (gCallN 2 f__law_pick (gCons (gVar 0) (gCons (gC (.int 3)) gNil))) (gC (.int 0))) gNil))) (gRet (gTup (gCons (gOp subIx (gLst (gCons (gC (.int 0)) (gCons (gC (.int 0)) (gCons (gC (.int 1)) (gCons (gC (.int 2)) gNil))))) (gCallN 2 f__law_pick (gCons (gVar 0) (gCons (gC (.int 4)) gNil)))) (gCons (gVar 1) (gCons (gVar 2) (gCons (gOp addF (gC (.int 1)) (gCallN 2 f__law_pick (gCons (gVar 0) (gCons (gC (.int 3)) gNil)))) gNil)))))))
def f__law_feed : FL := runD 3 g__law_feed
def g__law_plan : GS := (gSeq (gAsg (gOp addF (gC (.int 2)) (gCallN 2 f__law_pick (gCons (gVar 0) (gCons (gOp subF (gVar 1) (gC (.int 1))) gNil)))) (DL.gName 2)) (gSeq (gAsg (gOp subF (gOp subF (gVar 2) (gC (.int 1))) (gCallN 2 f__law_pick (gCons (gVar 0) (gCons (gCall minF (gCons (gC (.int 3)) (gCons (gVar 2) gNil))) gNil)))) (DL.gName 3)) (gSeq (gPar 4 5 (gCons (gCallN 2 f__law_pick (gCons (gVar 0) (gCons (gOp addF (gVar 3) (gC (.int 1))) gNil))) (gCons (gCallN 1 f__law_feed (gCons (gVar 0) gNil)) gNil))) (gSeq (gPar 6 7 (gCons (gOp subIx (gLst (gCons (gOp subF (gVar 3) (gVar 4)) (gCons (gOp subF (gVar 3) (gVar 4)) (gCons (gCallN 2 f__law_pick (gCons (gVar 0) (gCons (gC (.int 4)) gNil))) gNil)))) (gCallN 2 f__law_pick (gCons (gVar 0) (gCons (gC (.int 3)) gNil)))) (gCons (gOp subIx (gVar 5) (gC (.int 3))) gNil))) (gSeq (gIfS (gTst (gOp eqF (gCallN 2 f__law_pick (gCons (gVar 0) (gCons (gC (.int 3)) gNil))) (gC (.int 0)))) (gAsg (gOp addF (gC (.int 1)) (gCallN 2 f__law_pick (gCons (gVar 0) (gCons (gC (.int 3)) gNil)))) (DL.gName 7)) gNext) (gRet (gTup (gCons (gVar 2) (gCons (gVar 4) (gCons (gVar 3) (gCons (gTup (gCons (gCall minF (gCons (gC (.int 3)) (gCons (gVar 6) gNil))) (gCons (gVar 7) gNil))) (gCons (gVar 5) gNil))))))))))))
def f__law_plan : FL := runD 8 g__law_plan
def g__law_begin : GS := (gRet (gTup (gCons (gOp mulF (gTup (gCons (gUn negF (gC (.int 1))) gNil)) (gOp subIx (gVar 0) (gC (.int 0)))) (gCons (gC (.str "runs")) (gCons (gC (.int 0)) (gCons (gOp mulF (gTup (gCons (gC (.bl false)) gNil)) (gOp subIx (gOp subIx (gVar 0) (gC (.int 3))) (gC (.int 0)))) (gCons (gOp subIx (gOp subIx (gVar 0) (gC (.int 4))) (gC (.int 0))) gNil)))))))
def f__law_begin : FL := runD 1 g__law_begin
def g__law_out : GS := (gSeq (gIfS (gTst (gOp ltF (gVar 1) (gC (.int 1)))) (gRet (gDGet (gDict [((gUn negF (gC (.int 2))), (gLst (gCons (gC (.str "lies")) gNil))), ((gC (.int 0)), (gLst (gCons (gC (.str "empty")) gNil)))]) (gVar 1) (gLst gNil))) gNext) (gSeq (gIfS (gTst (gOp eqF (gVar 1) (gOp subIx (gOp subIx (gVar 0) (gC (.int 4))) (gC (.int 3))))) (gRet (gLst (gCons (gC (.str "good")) gNil))) gNext) (gRet (gLst (gCons (gIf (gTst (gOp ltF (gVar 1) (gOp subIx (gOp subIx (gVar 0) (gC (.int 4))) (gC (.int 3))))) (gC (.str "half")) (gC (.str "over"))) gNil)))))
def f__law_out : FL := runD 2 g__law_out
def g__law_tick : GS := (gSeq (gAsg (gVar 1) (gTupT 5 (gsCons (DL.gName 3) (gsCons (DL.gName 4) (gsCons (DL.gName 5) (gsCons (DL.gName 6) (gsCons (DL.gName 7) gsNil))))))) (gSeq (gAsg (gVar 0) (gTupT 5 (gsCons (DL.gName 8) (gsCons (DL.gName 9) (gsCons (DL.gName 10) (gsCons (gTupT 2 (gsCons (DL.gName 11) (gsCons (DL.gName 12) gsNil))) (gsCons (gTupT 4 (gsCons (DL.gName 13) (gsCons (DL.gName 14) (gsCons (DL.gName 15) (gsCons (DL.gName 16) gsNil))))) gsNil))))))) (gSeq (gPar 17 18 (gCons (gCall listCF (gCons (gVar 3) gNil)) (gCons (gLst gNil) gNil))) (gSeq (gIfS (gTOr (gTst (gOp eqF (gVar 4) (gC (.str "runs")))) (gTst (gOp subIx (gVar 2) (gC (.int 1))))) (gSeq (gAsg (gCallN 2 f__law_out (gCons (gVar 0) (gCons (gOp subIx (gVar 17) (gUn negF (gC (.int 1)))) gNil))) (DL.gName 18)) (gAsg (gOp addCF (gLst (gCons (gOp subIx (gLst (gCons (gUn negF (gC (.int 1))) (gCons (gC (.int 0)) (gCons (gUn negF (gC (.int 2))) gNil)))) (gOp subIx (gVar 2) (gC (.int 0)))) gNil)) (gSlice slF (gVar 17) goNone (goSome (gOp subF (gVar 8) (gC (.int 1)))))) (DL.gName 17))) gNext) (gSeq (gIfS (gTst (gOp eqF (gVar 4) (gC (.str "runs")))) (gSeq (gAsg (gOp addF (gCall listF (gCons (gVar 6) gNil)) (gLst (gCons (gOp gtF (gOp subIx (gVar 17) (gVar 9)) (gUn negF (gC (.int 1)))) gNil))) (DL.gName 19)) (gSeq (gAsg (gIf (gTst (gOp neF (gOp subIx (gVar 2) (gC (.int 0))) (gC (.int 0)))) (gC (.int 0)) (gOp addF (gVar 7) (gCall toIntF (gCons (gOp ltF (gVar 7) (gVar 13)) gNil)))) (DL.gName 7)) (gSeq (gAsg (gIf (gTst (gOp subIx (gVar 19) (gC (.int 0)))) (gTup (gCons (gC (.str "fills")) (gCons (gVar 12) gNil))) (gTup (gCons (gC (.str "runs")) (gCons (gC (.int 0)) gNil)))) (gTupT 2 (gsCons (DL.gName 4) (gsCons (DL.gName 5) gsNil)))) (gRet (gTup (gCons (gTup (gCons (gCall tupleF (gCons (gVar 17) gNil)) (gCons (gVar 4) (gCons (gVar 5) (gCons (gCall tupleF (gCons (gSlice slF (gVar 19) (goSome (gC (.int 1))) goNone) gNil)) (gCons (gVar 7) gNil)))))) (gCons (gVar 18) gNil))))))) gNext) (gSeq (gIfS (gTst (gOp gtF (gOp subIx (gVar 17) (gVar 10)) (gUn negF (gC (.int 1))))) (gAsg (gOp addF (gOp subIx (gVar 17) (gVar 10)) (gCall toIntF (gCons (gOp leF (gOp subIx (gVar 17) (gVar 10)) (gVar 16)) gNil))) (gSubT (gVar 17) (gVar 10))) (gAsg (gCall sortedF (gCons (gOp addF (gVar 18) (gLst (gCons (gC (.str "spills")) gNil))) gNil)) (DL.gName 18))) (gSeq (gAsg (gIf (gTst (gOp eqF (gVar 5) (gC (.int 1)))) (gC (.str "runs")) (gC (.str "fills"))) (DL.gName 4)) (gRet (gTup (gCons (gTup (gCons (gCall tupleF (gCons (gVar 17) gNil)) (gCons (gVar 4) (gCons (gOp subF (gVar 5) (gC (.int 1))) (gCons (gVar 6) (gCons (gVar 7) gNil)))))) (gCons (gVar 18) gNil)))))))))))
def f__law_tick : FL := runD 20 g__law_tick
def g__law_choices : GS := (gSeq (gIfS (gTst (gOp eqF (gOp subIx (gVar 1) (gC (.int 1))) (gC (.str "fills")))) (gSeq (gAsg (gAnd (gOp eqF (gOp subIx (gVar 1) (gC (.int 2))) (gOp subIx (gOp subIx (gVar 0) (gC (.int 3))) (gC (.int 1)))) (gOp subIx (gOp subIx (gVar 0) (gC (.int 4))) (gC (.int 2)))) (DL.gName 2)) (gRet (gIf (gTst (gVar 2)) (gLst (gCons (gTup (gCons (gC (.int 0)) (gCons (gC (.bl false)) gNil))) (gCons (gTup (gCons (gC (.int 0)) (gCons (gC (.bl true)) gNil))) gNil))) (gLst (gCons (gTup (gCons (gC (.int 0)) (gCons (gC (.bl false)) gNil))) gNil))))) gNext) (gSeq (gAsg (gLst (gCons (gTup (gCons (gC (.int 0)) (gCons (gC (.bl false)) gNil))) gNil)) (DL.gName 3)) (gSeq (gIfS (gTst (gOp eqF (gOp subIx (gVar 1) (gC (.int 4))) (gOp subIx (gOp subIx (gVar 0) (gC (.int 4))) (gC (.int 0))))) (gAsg (gOp addF (gOp addF (gVar 3) (gLst (gCons (gTup (gCons (gC (.int 1)) (gCons (gC (.bl false)) gNil))) gNil))) (gOp mulF (gLst (gCons (gTup (gCons (gC (.int 2)) (gCons (gC (.bl false)) gNil))) gNil)) (gCall toIntF (gCons (gOp subIx (gOp subIx (gVar 0) (gC (.int 4))) (gC (.int 1))) gNil)))) (DL.gName 3)) gNext) (gRet (gVar 3)))))
def f__law_choices : FL := runD 4 g__law_choices
def g__law_int : GS := (gRet (gAnd (gUn (isiF "int") (gVar 0)) (gAnd (gNot (gUn (isiF "bool") (gVar 0))) (gChain leF leF (gVar 1) (gVar 0) (gVar 2)))))
def f__law_int : FL := runD 3 g__law_int
def g__law_made : GS := (gRet (gAnd (gUn (isiF "tuple") (gVar 0)) (gOp eqF (gCall lenF (gCons (gVar 0) gNil)) (gVar 1))))
def f__law_made : FL := runD 2 g__law_made
def g__law_good_program : GS := (gRet (gAnd (gCallN 2 f__law_made (gCons (gVar 0) (gCons (gC (.int 2)) gNil))) (gAnd (gCallN 3 f__law_int (gCons (gOp subIx (gVar 0) (gC (.int 0))) (gCons (gC (.int 0)) (gCons (gC (.int 3)) gNil)))) (gCallN 3 f__law_int (gCons (gOp subIx (gVar 0) (gC (.int 1))) (gCons (gC (.int 1)) (gCons (gC (.int 3)) gNil)))))))
def f__law_good_program : FL := runD 1 g__law_good_program
def g__law_good_plan : GS := (gSeq (gIfS (gTOr (gTNot (gTst (gCallN 2 f__law_made (gCons (gVar 0) (gCons (gC (.int 5)) gNil))))) (gTOr (gTNot (gTst (gCallN 3 f__law_int (gCons (gOp subIx (gVar 0) (gC (.int 0))) (gCons (gC (.int 2)) (gCons (gC (.int 6)) gNil)))))) (gTNot (gTst (gCallN 3 f__law_int (gCons (gOp subIx (gVar 0) (gC (.int 1))) (gCons (gC (.int 0)) (gCons (gC (.int 5)) gNil)))))))) (gRet (gC (.bl false))) gNext) (gSeq (gIfS (gTOr (gTNot (gTst (gCallN 3 f__law_int (gCons (gOp subIx (gVar 0) (gC (.int 2))) (gCons (gOp subIx (gVar 0) (gC (.int 1))) (gCons (gOp subF (gOp subIx (gVar 0) (gC (.int 0))) (gC (.int 1))) gNil)))))) (gTNot (gTst (gCallN 1 f__law_good_program (gCons (gOp subIx (gVar 0) (gC (.int 3))) gNil))))) (gRet (gC (.bl false))) gNext) (gSeq (gAsg (gOp subIx (gVar 0) (gC (.int 4))) (DL.gName 1)) (gSeq (gIfS (gTOr (gTNot (gTst (gCallN 2 f__law_made (gCons (gVar 1) (gCons (gC (.int 4)) gNil))))) (gTOr (gTNot (gTst (gUn (isiF "bool") (gOp subIx (gVar 1) (gC (.int 1)))))) (gTNot (gTst (gUn (isiF "bool") (gOp subIx (gVar 1) (gC (.int 2)))))))) (gRet (gC (.bl false))) gNext) (gRet (gAnd (gCallN 3 f__law_int (gCons (gOp subIx (gVar 1) (gC (.int 0))) (gCons (gC (.int 0)) (gCons (gC (.int 2)) gNil)))) (gCallN 3 f__law_int (gCons (gOp subIx (gVar 1) (gC (.int 3))) (gCons (gC (.int 1)) (gCons (gC (.int 3)) gNil))))))))))
def f__law_good_plan : FL := runD 2 g__law_good_plan
def g__law_good_stand : GS := (gSeq (gAsg (gVar 0) (gTupT 5 (gsCons (DL.gName 2) (gsCons (DL.gName 3) (gsCons (DL.gName 4) (gsCons (gTupT 2 (gsCons (DL.gName 5) (gsCons (DL.gName 6) gsNil))) (gsCons (gTupT 4 (gsCons (DL.gName 7) (gsCons (DL.gName 8) (gsCons (DL.gName 9) (gsCons (DL.gName 10) gsNil))))) gsNil))))))) (gSeq (gIfS (gTOr (gTNot (gTst (gCallN 2 f__law_made (gCons (gVar 1) (gCons (gC (.int 5)) gNil))))) (gTOr (gTNot (gTst (gCallN 2 f__law_made (gCons (gOp subIx (gVar 1) (gC (.int 0))) (gCons (gVar 2) gNil))))) (gTNot (gTst (gCallN 2 f__law_made (gCons (gOp subIx (gVar 1) (gC (.int 3))) (gCons (gVar 5) gNil))))))) (gRet (gC (.bl false))) gNext) (gSeq (gFor (gItT (gOp subIx (gVar 1) (gC (.int 0)))) (DL.gName 11) (gIfS (gTOr (gTNot (gTst (gCallN 3 f__law_int (gCons (gVar 11) (gCons (gUn negF (gC (.int 2))) (gCons (gOp addF (gVar 10) (gC (.int 1))) gNil)))))) (gTAnd (gTst (gOp eqF (gVar 11) (gUn negF (gC (.int 2))))) (gTNot (gTst (gVar 8))))) (gRet (gC (.bl false))) gNext)) (gSeq (gIfS (gTOr (gTst (gOp neF (gLc (gItT (gOp subIx (gVar 1) (gC (.int 3)))) (.one 11) (gTNot (gTst (gUn (isiF "bool") (gVar 11)))) (gVar 11) [11]) (gLst gNil))) (gTNot (gTst (gCallN 3 f__law_int (gCons (gOp subIx (gVar 1) (gC (.int 4))) (gCons (gC (.int 0)) (gCons (gVar 7) gNil))))))) (gRet (gC (.bl false))) gNext) (gSeq (gIfS (gTOr (gTNot (gTst (gUn (isiF "str") (gOp subIx (gVar 1) (gC (.int 1)))))) (gTst (gOp notInF (gOp subIx (gVar 1) (gC (.int 1))) (gLst (gCons (gC (.str "runs")) (gCons (gC (.str "fills")) gNil)))))) (gRet (gC (.bl false))) gNext) (gRet (gCallN 3 f__law_int (gCons (gOp subIx (gVar 1) (gC (.int 2))) (gCons (gCall toIntF (gCons (gOp eqF (gOp subIx (gVar 1) (gC (.int 1))) (gC (.str "fills"))) gNil)) (gCons (gIf (gTst (gOp eqF (gOp subIx (gVar 1) (gC (.int 1))) (gC (.str "fills")))) (gVar 6) (gC (.int 0))) gNil))))))))))
def f__law_good_stand : FL := runD 12 g__law_good_stand
def g__law_bent (rec : FL) : GS := (gSeq (gIfS (gTAnd (gTst (gUn (isiF "tuple") (gVar 1))) (gTAnd (gTst (gOp neF (gVar 1) (gTup gNil))) (gTst (gOp gtF (gCallN 2 f__law_pick (gCons (gVar 0) (gCons (gC (.int 6)) gNil))) (gC (.int 0)))))) (gSeq (gPar 2 3 (gCons (gCallN 2 f__law_pick (gCons (gVar 0) (gCons (gCall lenF (gCons (gVar 1) gNil)) gNil))) (gCons (gCallN 2 f__law_pick (gCons (gVar 0) (gCons (gC (.int 8)) gNil))) gNil))) (gSeq (gIfS (gTst (gOp eqF (gVar 3) (gC (.int 0)))) (gRet (gOp addF (gSlice slF (gVar 1) goNone (goSome (gVar 2))) (gSlice slF (gVar 1) (goSome (gOp addF (gVar 2) (gC (.int 1)))) goNone))) gNext) (gSeq (gIfS (gTst (gOp eqF (gVar 3) (gC (.int 1)))) (gRet (gOp addF (gOp addF (gSlice slF (gVar 1) goNone (goSome (gVar 2))) (gSlice slF (gVar 1) (goSome (gVar 2)) (goSome (gOp addF (gVar 2) (gC (.int 1)))))) (gSlice slF (gVar 1) (goSome (gVar 2)) goNone))) gNext) (gSeq (gIfS (gTst (gOp eqF (gVar 3) (gC (.int 2)))) (gRet (gUn revF (gVar 1))) gNext) (gRet (gOp addF (gOp addF (gSlice slF (gVar 1) goNone (goSome (gVar 2))) (gTup (gCons (gCallN 2 rec (gCons (gVar 0) (gCons (gOp subIx (gVar 1) (gVar 2)) gNil))) gNil))) (gSlice slF (gVar 1) (goSome (gOp addF (gVar 2) (gC (.int 1)))) goNone))))))) gNext) (gSeq (gAsg (gLst (gCons (gC .non) (gCons (gC (.bl true)) (gCons (gC (.bl false)) (gCons (gC (.int 0)) (gCons (gC (.int 1)) (gCons (gC (.int 2)) (gCons (gC (.int 3)) (gCons (gC (.int 4)) (gCons (gC (.int 5)) (gCons (gC (.int 6)) (gCons (gC (.int 7)) (gCons (gUn negF (gC (.int 1))) (gCons (gUn negF (gC (.int 2))) (gCons (gUn negF (gC (.int 3))) (gCons (gOp powF (gC (.int 10)) (gC (.int 30))) (gCons (gC (.str "")) (gCons (gC (.str "runs")) (gCons (gC (.str "fills")) gNil))))))))))))))))))) (DL.gName 4)) (gSeq (gAsg (gOp addF (gVar 4) (gLst (gCons (gTup gNil) (gCons (gLst gNil) (gCons (gTup (gCons (gC (.int 0)) (gCons (gC (.int 1)) gNil))) (gCons (gTup (gCons (gC (.int 3)) (gCons (gC (.int 3)) gNil))) (gCons (gTup (gCons (gC (.bl true)) gNil)) (gCons (gTup (gCons (gC (.bl false)) (gCons (gC (.bl false)) gNil))) (gCons (gTup (gCons (gUn negF (gC (.int 1))) (gCons (gUn negF (gC (.int 1))) gNil))) (gCons (gTup (gCons (gC (.int 0)) (gCons (gC (.int 0)) (gCons (gC (.int 0)) gNil)))) (gCons (gTup (gCons (gC (.int 1)) (gCons (gC (.bl false)) (gCons (gC (.bl false)) (gCons (gC (.int 3)) gNil))))) gNil))))))))))) (DL.gName 4)) (gRet (gOp subIx (gVar 4) (gCallN 2 f__law_pick (gCons (gVar 0) (gCons (gCall lenF (gCons (gVar 4) gNil)) gNil))))))))
def f__law_bent : Nat → FL
  | 0 => fun _ _ => none
  | n + 1 => runD 5 (g__law_bent (f__law_bent n))
def g_law_k01 : GS := (gSeq (gFor (gRng1 (gCons (gOp addF (gCall minF (gCons (gCall lenF (gCons (gVar 0) gNil)) (gCons (gC (.int 8)) gNil))) (gC (.int 1))) gNil)) (DL.gName 1) (gSeq (gAsg (gCallN 2 f__law_spring (gCons (gVar 0) (gCons (gVar 1) gNil))) (DL.gName 2)) (gSeq (gAsg (gCallN 2 f__law_plan (gCons (gVar 2) (gCons (gC (.int 6)) gNil))) (DL.gName 3)) (gSeq (gIfS (gTNot (gTst (gCallN 1 f__law_good_plan (gCons (gVar 3) gNil)))) (gRet (gC (.bl false))) gNext) (gSeq (gAsg (gOp addF (gLst (gCons (gVar 3) (gCons (gCall listF (gCons (gVar 3) gNil)) (gCons (gOp subIx (gVar 3) (gC (.int 3))) gNil)))) (gLc (gRng1 (gCons (gC (.int 35)) gNil)) (.one 8) gYes (gCallN 2 (f__law_bent 8) (gCons (gVar 2) (gCons (gVar 3) gNil))) [8])) (DL.gName 4)) (gSeq (gAsg (gOp addF (gVar 4) (gLc (gRng1 (gCons (gC (.int 15)) gNil)) (.one 8) gYes (gCallN 2 (f__law_bent 8) (gCons (gVar 2) (gCons (gOp subIx (gVar 3) (gC (.int 3))) gNil))) [8])) (DL.gName 4)) (gSeq (gFor (gItL (gVar 4)) (DL.gName 5) (gSeq (gAsg (gLst (gCons (gCallN 1 f__law_good_plan (gCons (gVar 5) gNil)) (gCons (gCallN 1 f__law_good_program (gCons (gVar 5) gNil)) gNil))) (DL.gName 6)) (gIfS (gTNot (gTst (gCallN 2 (f__law_twins 8) (gCons (gLst (gCons (gCallN 1 f_is_plan (gCons (gVar 5) gNil)) (gCons (gCallN 1 f_is_program (gCons (gVar 5) gNil)) gNil))) (gCons (gVar 6) gNil))))) (gRet (gC (.bl false))) gNext))) (gSeq (gAsg (gCallN 1 f__law_begin (gCons (gVar 3) gNil)) (DL.gName 7)) (gSeq (gIfS (gTNot (gTst (gCallN 2 (f__law_twins 8) (gCons (gCallN 1 f_first_stand (gCons (gVar 3) gNil)) (gCons (gVar 7) gNil))))) (gRet (gC (.bl false))) gNext) (gSeq (gFor (gRng1 (gCons (gCallN 2 f__law_pick (gCons (gVar 2) (gCons (gC (.int 12)) gNil))) gNil)) (DL.gName 8) (gSeq (gAsg (gCallN 2 f__law_choices (gCons (gVar 3) (gCons (gVar 7) gNil))) (DL.gName 9)) (gAsg (gOp subIx (gCallN 3 f__law_tick (gCons (gVar 3) (gCons (gVar 7) (gCons (gOp subIx (gVar 9) (gCallN 2 f__law_pick (gCons (gVar 2) (gCons (gCall lenF (gCons (gVar 9) gNil)) gNil)))) gNil)))) (gC (.int 0))) (DL.gName 7)))) (gSeq (gAsg (gOp addF (gLst (gCons (gVar 7) (gCons (gCall listF (gCons (gVar 7) gNil)) gNil))) (gLc (gRng1 (gCons (gC (.int 40)) gNil)) (.one 8) gYes (gCallN 2 (f__law_bent 8) (gCons (gVar 2) (gCons (gVar 7) gNil))) [8])) (DL.gName 4)) (gIfS (gTst (gOp neF (gLc (gItL (gVar 4)) (.one 5) (gTNot (gTst (gCallN 2 (f__law_twins 8) (gCons (gCallN 2 f_is_stand (gCons (gVar 3) (gCons (gVar 5) gNil))) (gCons (gCallN 2 f__law_good_stand (gCons (gVar 3) (gCons (gVar 5) gNil))) gNil))))) (gC (.int 1)) [5]) (gLst gNil))) (gRet (gC (.bl false))) gNext)))))))))))) (gSeq (gAsg (gLst gNil) (DL.gName 6)) (gSeq (gFor (gRng1 (gCons (gC (.int 4)) gNil)) (DL.gName 10) (gAsg (gOp addF (gVar 6) (gLst (gCons (gTup (gCons (gVar 10) (gCons (gC (.int 1)) gNil))) (gCons (gTup (gCons (gVar 10) (gCons (gC (.int 2)) gNil))) (gCons (gTup (gCons (gVar 10) (gCons (gC (.int 3)) gNil))) gNil))))) (DL.gName 6))) (gRet (gCallN 2 (f__law_twins 8) (gCons (gCallN 0 f_all_programs gNil) (gCons (gVar 6) gNil)))))))
def f_law_k01 : FL := runD 11 g_law_k01
def g_look_at_stand : GS := (gIfS (gTNot (gTst (gCallN 2 f_fits (gCons (gVar 0) (gCons (gVar 1) gNil))))) (gRaise 2) gNext)
def f_look_at_stand : FL := runD 2 g_look_at_stand
def g_word_of : GS := (gSeq (gAsg (gOp subIx (gOp subIx (gVar 0) (gC (.int 4))) (gC (.int 3))) (DL.gName 2)) (gSeq (gIfS (gTst (gOp eqF (gVar 1) (gC (.int (-1))))) (gRet (gLst gNil)) gNext) (gSeq (gIfS (gTst (gOp eqF (gVar 1) (gC (.int (-2))))) (gRet (gLst (gCons (gC (.str "lies")) gNil))) gNext) (gSeq (gIfS (gTst (gOp eqF (gVar 1) (gC (.int 0)))) (gRet (gLst (gCons (gC (.str "empty")) gNil))) gNext) (gRet (gIf (gTst (gOp ltF (gVar 1) (gVar 2))) (gLst (gCons (gC (.str "half")) gNil)) (gIf (gTst (gOp eqF (gVar 1) (gVar 2))) (gLst (gCons (gC (.str "good")) gNil)) (gLst (gCons (gC (.str "over")) gNil)))))))))
def f_word_of : FL := runD 3 g_word_of
def g_ran : GS := (gSeq (gAsg (gVar 1) (gTupT 5 (gsCons (DL.gName 3) (gsCons (DL.gName 4) (gsCons (DL.gName 5) (gsCons (DL.gName 6) (gsCons (DL.gName 7) gsNil))))))) (gSeq (gAsg (gTup (gCons (gOp subIx (gVar 0) (gC (.int 3))) (gCons (gOp subIx (gOp subIx (gVar 0) (gC (.int 4))) (gC (.int 0))) gNil))) (gTupT 2 (gsCons (gTupT 2 (gsCons (DL.gName 8) (gsCons (DL.gName 9) gsNil))) (gsCons (DL.gName 10) gsNil)))) (gSeq (gAsg (gCallN 2 f_word_of (gCons (gVar 0) (gCons (gOp subIx (gVar 3) (gUn negF (gC (.int 1)))) gNil))) (DL.gName 11)) (gSeq (gAsg (gOp addF (gTup (gCons (gOp subIx (gC (.tup [(.int (-1)), (.int 0), (.int (-2))])) (gVar 2)) gNil)) (gSlice slF (gVar 3) goNone (goSome (gUn negF (gC (.int 1)))))) (DL.gName 3)) (gSeq (gAsg (gIf (gTst (gOp gtF (gVar 2) (gC (.int 0)))) (gC (.int 0)) (gCall minF (gCons (gVar 10) (gCons (gOp addF (gVar 7) (gC (.int 1))) gNil)))) (DL.gName 7)) (gSeq (gAsg (gOp addF (gVar 6) (gTup (gCons (gOp geF (gOp subIx (gVar 3) (gOp subIx (gVar 0) (gC (.int 1)))) (gC (.int 0))) gNil))) (DL.gName 12)) (gSeq (gIfS (gTst (gOp subIx (gVar 12) (gC (.int 0)))) (gRet (gTup (gCons (gTup (gCons (gVar 3) (gCons (gC (.str "fills")) (gCons (gVar 9) (gCons (gSlice slF (gVar 12) (goSome (gC (.int 1))) goNone) (gCons (gVar 7) gNil)))))) (gCons (gVar 11) gNil)))) gNext) (gRet (gTup (gCons (gTup (gCons (gVar 3) (gCons (gC (.str "runs")) (gCons (gC (.int 0)) (gCons (gSlice slF (gVar 12) (goSome (gC (.int 1))) goNone) (gCons (gVar 7) gNil)))))) (gCons (gVar 11) gNil)))))))))))
def f_ran : FL := runD 13 g_ran
def g_filled : GS := (gSeq (gAsg (gVar 1) (gTupT 5 (gsCons (DL.gName 3) (gsCons (DL.gName 4) (gsCons (DL.gName 5) (gsCons (DL.gName 6) (gsCons (DL.gName 7) gsNil))))))) (gSeq (gPar3 8 9 10 (gCons (gOp subIx (gVar 0) (gC (.int 2))) (gCons (gOp subIx (gOp subIx (gVar 0) (gC (.int 4))) (gC (.int 3))) (gCons (gLst gNil) gNil)))) (gSeq (gIfS (gTst (gVar 2)) (gSeq (gAsg (gCallN 2 f_word_of (gCons (gVar 0) (gCons (gOp subIx (gVar 3) (gUn negF (gC (.int 1)))) gNil))) (DL.gName 10)) (gAsg (gOp addF (gTup (gCons (gC (.int (-1))) gNil)) (gSlice slF (gVar 3) goNone (goSome (gUn negF (gC (.int 1)))))) (DL.gName 3))) gNext) (gSeq (gIfS (gTst (gOp geF (gOp subIx (gVar 3) (gVar 8)) (gC (.int 0)))) (gAsg (gOp addF (gOp addF (gSlice slF (gVar 3) goNone (goSome (gVar 8))) (gTup (gCons (gCall minF (gCons (gOp addF (gVar 9) (gC (.int 1))) (gCons (gOp addF (gOp subIx (gVar 3) (gVar 8)) (gC (.int 1))) gNil))) gNil))) (gSlice slF (gVar 3) (goSome (gOp addF (gVar 8) (gC (.int 1)))) goNone)) (DL.gName 3)) (gAsg (gOp addF (gVar 10) (gLst (gCons (gC (.str "spills")) gNil))) (DL.gName 10))) (gRet (gTup (gCons (gTup (gCons (gVar 3) (gCons (gIf (gTst (gOp gtF (gVar 5) (gC (.int 1)))) (gC (.str "fills")) (gC (.str "runs"))) (gCons (gOp subF (gVar 5) (gC (.int 1))) (gCons (gVar 6) (gCons (gVar 7) gNil)))))) (gCons (gVar 10) gNil))))))))
def f_filled : FL := runD 11 g_filled
def g_passed : GS := (gSeq (gAsg (gIf (gTst (gOp eqF (gOp subIx (gVar 1) (gC (.int 1))) (gC (.str "runs")))) (gCallN 3 f_ran (gCons (gVar 0) (gCons (gVar 1) (gCons (gOp subIx (gVar 2) (gC (.int 0))) gNil)))) (gCallN 3 f_filled (gCons (gVar 0) (gCons (gVar 1) (gCons (gOp subIx (gVar 2) (gC (.int 1))) gNil))))) (gTupT 2 (gsCons (DL.gName 3) (gsCons (DL.gName 4) gsNil)))) (gRet (gTup (gCons (gVar 3) (gCons (gCall sortedF (gCons (gVar 4) gNil)) gNil)))))
def f_passed : FL := runD 5 g_passed
def g_choices_of : GS := (gSeq (gAsg (gOp subIx (gVar 0) (gC (.int 4))) (gTupT 4 (gsCons (DL.gName 2) (gsCons (DL.gName 3) (gsCons (DL.gName 4) (gsCons (DL.gName 5) gsNil)))))) (gSeq (gIfS (gTst (gOp eqF (gOp subIx (gVar 1) (gC (.int 1))) (gC (.str "fills")))) (gRet (gOp addF (gLst (gCons (gTup (gCons (gC (.int 0)) (gCons (gC (.bl false)) gNil))) gNil)) (gOp mulF (gLst (gCons (gTup (gCons (gC (.int 0)) (gCons (gC (.bl true)) gNil))) gNil)) (gCall toIntF (gCons (gAnd (gVar 4) (gOp eqF (gOp subIx (gVar 1) (gC (.int 2))) (gOp subIx (gOp subIx (gVar 0) (gC (.int 3))) (gC (.int 1))))) gNil))))) gNext) (gSeq (gIfS (gTst (gOp ltF (gOp subIx (gVar 1) (gC (.int 4))) (gVar 2))) (gRet (gLst (gCons (gTup (gCons (gC (.int 0)) (gCons (gC (.bl false)) gNil))) gNil))) gNext) (gRet (gOp addF (gLst (gCons (gTup (gCons (gC (.int 0)) (gCons (gC (.bl false)) gNil))) (gCons (gTup (gCons (gC (.int 1)) (gCons (gC (.bl false)) gNil))) gNil))) (gOp mulF (gLst (gCons (gTup (gCons (gC (.int 2)) (gCons (gC (.bl false)) gNil))) gNil)) (gCall toIntF (gCons (gVar 3) gNil))))))))
def f_choices_of : FL := runD 6 g_choices_of
def g_is_like : GS := (gSeq (gIfS (gTOr (gTNot (gTst (gUn (isiF "tuple") (gVar 0)))) (gTOr (gTst (gOp neF (gCall lenF (gCons (gVar 0) gNil)) (gC (.int 2)))) (gTNot (gTst (gCallN 3 f_is_within (gCons (gOp subIx (gVar 0) (gC (.int 0))) (gCons (gC (.int 0)) (gCons (gC (.int 2)) gNil)))))))) (gRet (gC (.bl false))) gNext) (gRet (gAnd (gUn (isiF "bool") (gOp subIx (gVar 0) (gC (.int 1)))) (gOp inF (gVar 0) (gVar 1)))))
def f_is_like : FL := runD 2 g_is_like
def g_steps_of : GS := (gSeq (gAsg (gLstC gNil) (DL.gName 3)) (gSeq (gFor (gItT (gVar 2)) (DL.gName 4) (gSeq (gIfS (gTNot (gTst (gCallN 2 f_is_like (gCons (gVar 4) (gCons (gCallN 2 f_choices_of (gCons (gVar 0) (gCons (gVar 1) gNil))) gNil))))) (gRetF (gVar 3)) gNext) (gSeq (gExpr (gApp (gVar 3) (gCallN 3 f_passed (gCons (gVar 0) (gCons (gVar 1) (gCons (gVar 4) gNil)))))) (gAsg (gOp subIx (gOp subIx (gVar 3) (gUn negF (gC (.int 1)))) (gC (.int 0))) (DL.gName 1))))) (gRetF (gVar 3))))
def f_steps_of : FL := runD 5 g_steps_of
def g_fits_run : GS := (gSeq (gIfS (gTOr (gTNot (gTst (gUn (isiF "tuple") (gVar 1)))) (gTst (gOp gtF (gCall lenF (gCons (gVar 1) gNil)) (gC (.int 60))))) (gRet (gC (.bl false))) gNext) (gRet (gOp eqF (gCall lenF (gCons (gCallN 3 f_steps_of (gCons (gVar 0) (gCons (gCallN 1 f_begin_of (gCons (gVar 0) gNil)) (gCons (gVar 1) gNil)))) gNil)) (gCall lenF (gCons (gVar 1) gNil)))))
def f_fits_run : FL := runD 2 g_fits_run
def g_look_at_choice : GS := (gSeq (gExpr (gCallN 1 f_look_at_plan (gCons (gVar 0) gNil))) (gSeq (gExpr (gCallN 2 f_look_at_stand (gCons (gVar 0) (gCons (gVar 1) gNil)))) (gIfS (gTNot (gTst (gCallN 2 f_is_like (gCons (gVar 2) (gCons (gCallN 2 f_choices_of (gCons (gVar 0) (gCons (gVar 1) gNil))) gNil))))) (gRaise 3) gNext)))
def f_look_at_choice : FL := runD 3 g_look_at_choice
def g_look_at_run : GS := (gSeq (gExpr (gCallN 1 f_look_at_plan (gCons (gVar 0) gNil))) (gIfS (gTNot (gTst (gCallN 2 f_fits_run (gCons (gVar 0) (gCons (gVar 1) gNil))))) (gRaise 4) gNext))
def f_look_at_run : FL := runD 2 g_look_at_run
def g_choices_at : GS := (gSeq (gExpr (gCallN 1 f_look_at_plan (gCons (gVar 0) gNil))) (gSeq (gExpr (gCallN 2 f_look_at_stand (gCons (gVar 0) (gCons (gVar 1) gNil)))) (gRet (gCallN 2 f_choices_of (gCons (gVar 0) (gCons (gVar 1) gNil))))))
def f_choices_at : FL := runD 2 g_choices_at
def g_after : GS := (gSeq (gExpr (gCallN 3 f_look_at_choice (gCons (gVar 0) (gCons (gVar 1) (gCons (gVar 2) gNil))))) (gRet (gOp subIx (gCallN 3 f_passed (gCons (gVar 0) (gCons (gVar 1) (gCons (gVar 2) gNil)))) (gC (.int 0)))))
def f_after : FL := runD 3 g_after
def g_told : GS := (gSeq (gExpr (gCallN 3 f_look_at_choice (gCons (gVar 0) (gCons (gVar 1) (gCons (gVar 2) gNil))))) (gRet (gOp subIx (gCallN 3 f_passed (gCons (gVar 0) (gCons (gVar 1) (gCons (gVar 2) gNil)))) (gC (.int 1)))))
def f_told : FL := runD 3 g_told
def g_is_run : GS := (gSeq (gExpr (gCallN 1 f_look_at_plan (gCons (gVar 0) gNil))) (gRet (gCallN 2 f_fits_run (gCons (gVar 0) (gCons (gVar 1) gNil)))))
def f_is_run : FL := runD 2 g_is_run
def g_stand_behind : GS := (gSeq (gExpr (gCallN 2 f_look_at_run (gCons (gVar 0) (gCons (gVar 1) gNil)))) (gRet (gOp subIx (gOp subIx (gOp addF (gLst (gCons (gTup (gCons (gCallN 1 f_begin_of (gCons (gVar 0) gNil)) (gCons (gLst gNil) gNil))) gNil)) (gCallN 3 f_steps_of (gCons (gVar 0) (gCons (gCallN 1 f_begin_of (gCons (gVar 0) gNil)) (gCons (gVar 1) gNil))))) (gUn negF (gC (.int 1)))) (gC (.int 0)))))
def f_stand_behind : FL := runD 2 g_stand_behind
def g_words : GS := (gSeq (gExpr (gCallN 2 f_look_at_run (gCons (gVar 0) (gCons (gVar 1) gNil)))) (gRet (gLc (gItL (gCallN 3 f_steps_of (gCons (gVar 0) (gCons (gCallN 1 f_begin_of (gCons (gVar 0) gNil)) (gCons (gVar 1) gNil))))) (.many [2, 3]) gYes (gVar 3) [2, 3])))
def f_words : FL := runD 4 g_words
def g_law_k02 : GS := (gSeq (gFor (gRng1 (gCons (gOp addF (gCall minF (gCons (gCall lenF (gCons (gVar 0) gNil)) (gCons (gC (.int 8)) gNil))) (gC (.int 1))) gNil)) (DL.gName 1) (gSeq (gAsg (gCallN 2 f__law_spring (gCons (gVar 0) (gCons (gVar 1) gNil))) (DL.gName 2)) (gSeq (gPar3 3 4 5 (gCons (gCallN 2 f__law_plan (gCons (gVar 2) (gCons (gC (.int 6)) gNil))) (gCons (gTup gNil) (gCons (gLst gNil) gNil)))) (gSeq (gPar 6 7 (gCons (gCallN 1 f__law_begin (gCons (gVar 3) gNil)) (gCons (gOp subIx (gLst (gCons (gC (.int 6)) (gCons (gC (.int 25)) (gCons (gC (.int 60)) gNil)))) (gCallN 2 f__law_pick (gCons (gVar 2) (gCons (gC (.int 3)) gNil)))) gNil))) (gSeq (gFor (gRng1 (gCons (gCallN 2 f__law_pick (gCons (gVar 2) (gCons (gOp addF (gVar 7) (gC (.int 1))) gNil))) gNil)) (DL.gName 8) (gSeq (gAsg (gCallN 2 f__law_choices (gCons (gVar 3) (gCons (gVar 6) gNil))) (DL.gName 9)) (gSeq (gAsg (gOp subIx (gVar 9) (gCall maxF (gCons (gCallN 2 f__law_pick (gCons (gVar 2) (gCons (gCall lenF (gCons (gVar 9) gNil)) gNil))) (gCons (gCallN 2 f__law_pick (gCons (gVar 2) (gCons (gCall lenF (gCons (gVar 9) gNil)) gNil))) gNil)))) (DL.gName 10)) (gSeq (gAsg (gCallN 3 f__law_tick (gCons (gVar 3) (gCons (gVar 6) (gCons (gVar 10) gNil)))) (gTupT 2 (gsCons (DL.gName 11) (gsCons (DL.gName 12) gsNil)))) (gSeq (gIfS (gTNot (gTst (gCallN 2 (f__law_twins 8) (gCons (gLst (gCons (gCallN 2 f_choices_at (gCons (gVar 3) (gCons (gVar 6) gNil))) (gCons (gCallN 3 f_after (gCons (gVar 3) (gCons (gVar 6) (gCons (gVar 10) gNil)))) gNil))) (gCons (gLst (gCons (gVar 9) (gCons (gVar 11) gNil))) gNil))))) (gRet (gC (.bl false))) gNext) (gSeq (gIfS (gTNot (gTst (gCallN 2 (f__law_twins 8) (gCons (gCallN 3 f_told (gCons (gVar 3) (gCons (gVar 6) (gCons (gVar 10) gNil)))) (gCons (gVar 12) gNil))))) (gRet (gC (.bl false))) gNext) (gPar3 4 6 5 (gCons (gOp addF (gVar 4) (gTup (gCons (gVar 10) gNil))) (gCons (gVar 11) (gCons (gOp addF (gVar 5) (gLst (gCons (gVar 12) gNil))) gNil)))))))))) (gSeq (gIfS (gTNot (gTst (gCallN 2 (f__law_twins 8) (gCons (gLst (gCons (gCallN 2 f_is_run (gCons (gVar 3) (gCons (gVar 4) gNil))) (gCons (gCallN 2 f_stand_behind (gCons (gVar 3) (gCons (gVar 4) gNil))) gNil))) (gCons (gLst (gCons (gC (.bl true)) (gCons (gVar 6) gNil))) gNil))))) (gRet (gC (.bl false))) gNext) (gSeq (gIfS (gTNot (gTst (gCallN 2 (f__law_twins 8) (gCons (gCallN 2 f_words (gCons (gVar 3) (gCons (gVar 4) gNil))) (gCons (gVar 5) gNil))))) (gRet (gC (.bl false))) gNext) (gSeq (gAsg (gLst (gCons (gTup (gCons (gC (.int 0)) (gCons (gC (.bl false)) gNil))) (gCons (gTup (gCons (gC (.int 1)) (gCons (gC (.bl false)) gNil))) (gCons (gTup (gCons (gC (.int 0)) (gCons (gC (.bl true)) gNil))) (gCons (gTup (gCons (gC (.int 2)) (gCons (gC (.bl false)) gNil))) (gCons (gTup (gCons (gC (.int 1)) (gCons (gC (.bl true)) gNil))) (gCons (gTup (gCons (gC (.int 0)) (gCons (gC (.int 0)) gNil))) (gCons (gTup (gCons (gC (.bl true)) (gCons (gC (.bl false)) gNil))) (gCons (gTup (gCons (gC (.int 3)) (gCons (gC (.bl false)) gNil))) gNil))))))))) (DL.gName 13)) (gFor (gItL (gOp addF (gVar 13) (gLst (gCons (gTup (gCons (gC (.int 0)) gNil)) (gCons (gLst (gCons (gC (.int 0)) (gCons (gC (.bl false)) gNil))) (gCons (gTup (gCons (gC (.int 0)) (gCons (gC .non) gNil))) (gCons (gC .non) (gCons (gTup gNil) gNil)))))))) (DL.gName 14) (gSeq (gAsg (gOp neF (gLc (gItL (gCallN 2 f__law_choices (gCons (gVar 3) (gCons (gVar 6) gNil)))) (.one 16) (gTst (gCallN 2 (f__law_twins 8) (gCons (gVar 16) (gCons (gVar 14) gNil)))) (gVar 16) [16]) (gLst gNil)) (DL.gName 15)) (gIfS (gTNot (gTst (gCallN 2 (f__law_twins 8) (gCons (gCallN 2 f_is_run (gCons (gVar 3) (gCons (gOp addF (gVar 4) (gTup (gCons (gVar 14) gNil))) gNil))) (gCons (gAnd (gVar 15) (gOp ltF (gCall lenF (gCons (gVar 4) gNil)) (gC (.int 60)))) gNil))))) (gRet (gC (.bl false))) gNext))))))))))) (gRet (gC (.bl true))))
def f_law_k02 : FL := runD 17 g_law_k02
def g__law_any_stand : GS := (gSeq (gAsg (gVar 1) (gTupT 5 (gsCons (DL.gName 2) (gsCons (DL.gName 3) (gsCons (DL.gName 4) (gsCons (gTupT 2 (gsCons (DL.gName 5) (gsCons (DL.gName 6) gsNil))) (gsCons (gTupT 4 (gsCons (DL.gName 7) (gsCons (DL.gName 8) (gsCons (DL.gName 9) (gsCons (DL.gName 10) gsNil))))) gsNil))))))) (gSeq (gAsg (gTup gNil) (DL.gName 11)) (gSeq (gFor (gRng1 (gCons (gVar 2) gNil)) (DL.gName 12) (gSeq (gAsg (gOp subF (gCallN 2 f__law_pick (gCons (gVar 0) (gCons (gOp addF (gVar 10) (gC (.int 4))) gNil))) (gC (.int 2))) (DL.gName 13)) (gAsg (gOp addF (gVar 11) (gTup (gCons (gIf (gTOr (gTst (gOp gtF (gVar 13) (gUn negF (gC (.int 2))))) (gTst (gVar 8))) (gVar 13) (gUn negF (gC (.int 1)))) gNil))) (DL.gName 11)))) (gSeq (gAsg (gCall tupleF (gCons (gLc (gRng1 (gCons (gVar 5) gNil)) (.one 16) gYes (gOp eqF (gCallN 2 f__law_pick (gCons (gVar 0) (gCons (gC (.int 2)) gNil))) (gC (.int 0))) [16]) gNil)) (DL.gName 14)) (gSeq (gAsg (gOp subIx (gLst (gCons (gVar 7) (gCons (gCallN 2 f__law_pick (gCons (gVar 0) (gCons (gOp addF (gVar 7) (gC (.int 1))) gNil))) gNil))) (gCallN 2 f__law_pick (gCons (gVar 0) (gCons (gC (.int 2)) gNil)))) (DL.gName 15)) (gSeq (gIfS (gTst (gOp eqF (gCallN 2 f__law_pick (gCons (gVar 0) (gCons (gC (.int 2)) gNil))) (gC (.int 0)))) (gRet (gTup (gCons (gVar 11) (gCons (gC (.str "runs")) (gCons (gC (.int 0)) (gCons (gVar 14) (gCons (gVar 15) gNil))))))) gNext) (gRet (gTup (gCons (gVar 11) (gCons (gC (.str "fills")) (gCons (gOp subIx (gLst (gCons (gVar 6) (gCons (gOp addF (gC (.int 1)) (gCallN 2 f__law_pick (gCons (gVar 0) (gCons (gVar 6) gNil)))) gNil))) (gCallN 2 f__law_pick (gCons (gVar 0) (gCons (gC (.int 2)) gNil)))) (gCons (gVar 14) (gCons (gVar 15) gNil)))))))))))))
def f__law_any_stand : FL := runD 17 g__law_any_stand
def g_law_k03 : GS := (gSeq (gFor (gRng1 (gCons (gOp addF (gCall minF (gCons (gCall lenF (gCons (gVar 0) gNil)) (gCons (gC (.int 6)) gNil))) (gC (.int 1))) gNil)) (DL.gName 1) (gSeq (gAsg (gCallN 2 f__law_spring (gCons (gVar 0) (gCons (gVar 1) gNil))) (DL.gName 2)) (gSeq (gAsg (gCallN 2 f__law_plan (gCons (gVar 2) (gCons (gC (.int 6)) gNil))) (DL.gName 3)) (gFor (gRng1 (gCons (gC (.int 15)) gNil)) (DL.gName 4) (gSeq (gAsg (gCallN 2 f__law_any_stand (gCons (gVar 2) (gCons (gVar 3) gNil))) (DL.gName 5)) (gSeq (gAsg (gCallN 2 f__law_choices (gCons (gVar 3) (gCons (gVar 5) gNil))) (DL.gName 6)) (gSeq (gIfS (gTNot (gTst (gCallN 2 (f__law_twins 8) (gCons (gLst (gCons (gCallN 2 f_is_stand (gCons (gVar 3) (gCons (gVar 5) gNil))) (gCons (gCallN 2 f_choices_at (gCons (gVar 3) (gCons (gVar 5) gNil))) gNil))) (gCons (gLst (gCons (gC (.bl true)) (gCons (gVar 6) gNil))) gNil))))) (gRet (gC (.bl false))) gNext) (gFor (gItL (gVar 6)) (DL.gName 7) (gSeq (gAsg (gTup (gCons (gCallN 3 f_after (gCons (gVar 3) (gCons (gVar 5) (gCons (gVar 7) gNil)))) (gCons (gCallN 3 f_told (gCons (gVar 3) (gCons (gVar 5) (gCons (gVar 7) gNil)))) gNil))) (DL.gName 8)) (gIfS (gTNot (gTst (gCallN 2 (f__law_twins 8) (gCons (gVar 8) (gCons (gCallN 3 f__law_tick (gCons (gVar 3) (gCons (gVar 5) (gCons (gVar 7) gNil)))) gNil))))) (gRet (gC (.bl false))) gNext)))))))))) (gRet (gC (.bl true))))
def f_law_k03 : FL := runD 9 g_law_k03
def g_look_at_harm : GS := (gIfS (gTOr (gTNot (gTst (gUn (isiF "str") (gVar 0)))) (gTst (gOp notInF (gVar 0) (gC (.tup [(.str "empty"), (.str "half"), (.str "over"), (.str "spills")]))))) (gRaise 5) gNext)
def f_look_at_harm : FL := runD 1 g_look_at_harm
noncomputable def g_net_of : GS := (gSeq (gAsg (gCallN 1 f_begin_of (gCons (gVar 0) gNil)) (DL.gName 1)) (gSeq (gPar3 2 3 4 (gCons (gDict1 (gVar 1) (gTup (gCons (gTup gNil) (gCons (gLstC gNil) gNil)))) (gCons (gLstC (gCons (gVar 1) gNil)) (gCons (gC (.int 0)) gNil)))) (gSeq (gWhile (gTst (gOp ltF (gVar 4) (gCall lenF (gCons (gVar 3) gNil)))) (gSeq (gAsg (gOp subIx (gVar 3) (gVar 4)) (DL.gName 5)) (gSeq (gAsg (gOp addF (gVar 4) (gC (.int 1))) (DL.gName 4)) (gSeq (gAsg (gOp subIxD (gVar 2) (gVar 5)) (gTupT 2 (gsCons (DL.gName 6) (gsCons (DL.gName 7) gsNil)))) (gFor (gItL (gCallN 2 f_choices_of (gCons (gVar 0) (gCons (gVar 5) gNil)))) (DL.gName 8) (gSeq (gAsg (gCallN 3 f_passed (gCons (gVar 0) (gCons (gVar 5) (gCons (gVar 8) gNil)))) (gTupT 2 (gsCons (DL.gName 9) (gsCons (DL.gName 10) gsNil)))) (gSeq (gExpr (gApp (gVar 7) (gTup (gCons (gVar 8) (gCons (gVar 9) (gCons (gVar 10) gNil)))))) (gIfS (gTst (gOp notInFD (gVar 9) (gVar 2))) (gSeq (gAsg (gTup (gCons (gOp addF (gVar 6) (gTup (gCons (gVar 8) gNil))) (gCons (gLstC gNil) gNil))) (gSubD (gVar 2) (gVar 9))) (gExpr (gApp (gVar 3) (gVar 9)))) gNext)))))))) (gRet (gFrzN (gVar 2))))))
noncomputable def f_net_of : FL := runD 11 g_net_of
noncomputable def g_firsts_by : GS := (gSeq (gAsg gDict0S (DL.gName 1)) (gSeq (gFor (gItNV (gCallN 1 f_net_of (gCons (gVar 0) gNil))) (gTupT 2 (gsCons (DL.gName 2) (gsCons (DL.gName 3) gsNil))) (gFor (gItL (gVar 3)) (gTupT 3 (gsCons (DL.gName 4) (gsCons (DL.gName 5) (gsCons (DL.gName 6) gsNil)))) (gFor (gItL (gVar 6)) (DL.gName 7) (gIfS (gTst (gOp notInFD (gVar 7) (gVar 1))) (gAsg (gOp addF (gVar 2) (gTup (gCons (gVar 4) gNil))) (gSubD (gVar 1) (gVar 7))) gNext)))) (gRet (gVar 1))))
noncomputable def f_firsts_by : FL := runD 8 g_firsts_by
noncomputable def g_harms_by : GS := (gSeq (gAsg (gCallN 1 f_firsts_by (gCons (gVar 0) gNil)) (DL.gName 1)) (gRet (gLc (gItT (gC (.tup [(.str "empty"), (.str "half"), (.str "over"), (.str "spills")]))) (.one 2) (gTst (gOp inFD (gVar 2) (gVar 1))) (gVar 2) [2])))
noncomputable def f_harms_by : FL := runD 3 g_harms_by
noncomputable def g_count_stands : GS := (gSeq (gExpr (gCallN 1 f_look_at_plan (gCons (gVar 0) gNil))) (gRet (gCall lenFD (gCons (gCallN 1 f_net_of (gCons (gVar 0) gNil)) gNil))))
noncomputable def f_count_stands : FL := runD 1 g_count_stands
noncomputable def g_run_to : GS := (gSeq (gExpr (gCallN 1 f_look_at_plan (gCons (gVar 0) gNil))) (gSeq (gExpr (gCallN 2 f_look_at_stand (gCons (gVar 0) (gCons (gVar 1) gNil)))) (gSeq (gAsg (gCallN 1 f_net_of (gCons (gVar 0) gNil)) (DL.gName 2)) (gRet (gIf (gTst (gOp inFD (gVar 1) (gVar 2))) (gOp subIx (gOp subIxD (gVar 2) (gVar 1)) (gC (.int 0))) (gC .non))))))
noncomputable def f_run_to : FL := runD 3 g_run_to
noncomputable def g_harms : GS := (gSeq (gExpr (gCallN 1 f_look_at_plan (gCons (gVar 0) gNil))) (gRet (gCallN 1 f_harms_by (gCons (gVar 0) gNil))))
noncomputable def f_harms : FL := runD 1 g_harms
noncomputable def g_first_harm : GS := (gSeq (gExpr (gCallN 1 f_look_at_plan (gCons (gVar 0) gNil))) (gSeq (gExpr (gCallN 1 f_look_at_harm (gCons (gVar 1) gNil))) (gRet (gSGet (gCallN 1 f_firsts_by (gCons (gVar 0) gNil)) (gVar 1)))))
noncomputable def f_first_harm : FL := runD 2 g_first_harm
noncomputable def g__law_ways : GS := (gSeq (gAsg (gCallN 1 f__law_begin (gCons (gVar 0) gNil)) (DL.gName 1)) (gSeq (gPar3 2 3 4 (gCons (gDict1 (gVar 1) (gTup (gCons (gTup gNil) (gCons (gLstC gNil) gNil)))) (gCons (gLstC (gCons (gVar 1) gNil)) (gCons (gC (.int 0)) gNil)))) (gSeq (gWhile (gTst (gOp ltF (gVar 4) (gCall lenF (gCons (gVar 3) gNil)))) (gSeq (gAsg (gOp subIx (gVar 3) (gVar 4)) (DL.gName 5)) (gSeq (gAsg (gOp addF (gVar 4) (gC (.int 1))) (DL.gName 4)) (gFor (gItL (gCallN 2 f__law_choices (gCons (gVar 0) (gCons (gVar 5) gNil)))) (DL.gName 6) (gSeq (gAsg (gCallN 3 f__law_tick (gCons (gVar 0) (gCons (gVar 5) (gCons (gVar 6) gNil)))) (gTupT 2 (gsCons (DL.gName 7) (gsCons (DL.gName 8) gsNil)))) (gSeq (gExpr (gApp (gOp subIx (gOp subIxD (gVar 2) (gVar 5)) (gC (.int 1))) (gTup (gCons (gVar 6) (gCons (gVar 7) (gCons (gVar 8) gNil)))))) (gIfS (gTst (gOp notInFD (gVar 7) (gVar 2))) (gSeq (gAsg (gTup (gCons (gOp addF (gOp subIx (gOp subIxD (gVar 2) (gVar 5)) (gC (.int 0))) (gTup (gCons (gVar 6) gNil))) (gCons (gLstC gNil) gNil))) (gSubD (gVar 2) (gVar 7))) (gExpr (gApp (gVar 3) (gVar 7)))) gNext))))))) (gRet (gFrzN (gVar 2))))))
noncomputable def f__law_ways : FL := runD 9 g__law_ways
noncomputable def g__law_firsts : GS := (gSeq (gPar 1 2 (gCons (gCallN 1 f__law_ways (gCons (gVar 0) gNil)) (gCons gDict0S gNil))) (gSeq (gFor (gItNK (gVar 1)) (DL.gName 3) (gFor (gItL (gOp subIx (gOp subIxD (gVar 1) (gVar 3)) (gC (.int 1)))) (gTupT 3 (gsCons (DL.gName 4) (gsCons (DL.gName 5) (gsCons (DL.gName 6) gsNil)))) (gFor (gItL (gVar 6)) (DL.gName 7) (gIfS (gTst (gOp notInFD (gVar 7) (gVar 2))) (gAsg (gOp addF (gOp subIx (gOp subIxD (gVar 1) (gVar 3)) (gC (.int 0))) (gTup (gCons (gVar 4) gNil))) (gSubD (gVar 2) (gVar 7))) gNext)))) (gRet (gVar 2))))
noncomputable def f__law_firsts : FL := runD 8 g__law_firsts
noncomputable def g__law_harms : GS := (gSeq (gAsg (gCallN 1 f__law_firsts (gCons (gVar 0) gNil)) (DL.gName 1)) (gRet (gLc (gItL (gLst (gCons (gC (.str "empty")) (gCons (gC (.str "half")) (gCons (gC (.str "over")) (gCons (gC (.str "spills")) gNil)))))) (.one 2) (gTst (gOp inFD (gVar 2) (gVar 1))) (gVar 2) [2])))
noncomputable def f__law_harms : FL := runD 3 g__law_harms
noncomputable def g_law_k04 : GS := (gSeq (gFor (gRng1 (gCons (gOp addF (gCall minF (gCons (gCall lenF (gCons (gVar 0) gNil)) (gCons (gC (.int 2)) gNil))) (gC (.int 1))) gNil)) (DL.gName 1) (gSeq (gAsg (gCallN 2 f__law_spring (gCons (gVar 0) (gCons (gVar 1) gNil))) (DL.gName 2)) (gSeq (gAsg (gCallN 2 f__law_plan (gCons (gVar 2) (gCons (gC (.int 4)) gNil))) (DL.gName 3)) (gSeq (gPar 4 5 (gCons (gCallN 1 f__law_ways (gCons (gVar 3) gNil)) (gCons (gCallN 1 f__law_firsts (gCons (gVar 3) gNil)) gNil))) (gSeq (gIfS (gTNot (gTst (gCallN 2 (f__law_twins 8) (gCons (gLst (gCons (gCallN 1 f_count_stands (gCons (gVar 3) gNil)) (gCons (gCallN 1 f_harms (gCons (gVar 3) gNil)) gNil))) (gCons (gLst (gCons (gCall lenFD (gCons (gVar 4) gNil)) (gCons (gCallN 1 f__law_harms (gCons (gVar 3) gNil)) gNil))) gNil))))) (gRet (gC (.bl false))) gNext) (gSeq (gFor (gItL (gLst (gCons (gC (.str "empty")) (gCons (gC (.str "half")) (gCons (gC (.str "over")) (gCons (gC (.str "spills")) gNil)))))) (DL.gName 6) (gIfS (gTNot (gTst (gCallN 2 (f__law_twins 8) (gCons (gCallN 2 f_first_harm (gCons (gVar 3) (gCons (gVar 6) gNil))) (gCons (gSGet (gVar 5) (gVar 6)) gNil))))) (gRet (gC (.bl false))) gNext)) (gSeq (gAsg (gCall listND (gCons (gVar 4) gNil)) (DL.gName 7)) (gSeq (gPar 8 9 (gCons (gOp subIx (gVar 7) (gCallN 2 f__law_pick (gCons (gVar 2) (gCons (gCall lenF (gCons (gVar 7) gNil)) gNil)))) (gCons (gOp subIx (gVar 7) (gCallN 2 f__law_pick (gCons (gVar 2) (gCons (gCall lenF (gCons (gVar 7) gNil)) gNil)))) gNil))) (gSeq (gAsg (gOp addF (gTup (gCons (gOp subIx (gVar 8) (gC (.int 0))) gNil)) (gSlice slF (gVar 9) (goSome (gC (.int 1))) goNone)) (DL.gName 10)) (gSeq (gAsg (gIf (gTst (gOp inFD (gVar 10) (gVar 4))) (gOp subIx (gOp subIxD (gVar 4) (gVar 10)) (gC (.int 0))) (gC .non)) (DL.gName 11)) (gIfS (gTNot (gTst (gCallN 2 (f__law_twins 8) (gCons (gLst (gCons (gCallN 2 f_run_to (gCons (gVar 3) (gCons (gVar 8) gNil))) (gCons (gCallN 2 f_run_to (gCons (gVar 3) (gCons (gVar 10) gNil))) gNil))) (gCons (gLst (gCons (gOp subIx (gOp subIxD (gVar 4) (gVar 8)) (gC (.int 0))) (gCons (gVar 11) gNil))) gNil))))) (gRet (gC (.bl false))) gNext))))))))))) (gRet (gC (.bl true))))
noncomputable def f_law_k04 : FL := runD 12 g_law_k04
def g_look_at_ticks : GS := (gIfS (gTNot (gTst (gCallN 3 f_is_within (gCons (gVar 0) (gCons (gC (.int 0)) (gCons (gC (.int 60)) gNil)))))) (gRaise 6) gNext)
def f_look_at_ticks : FL := runD 1 g_look_at_ticks
def g_output : GS := (gSeq (gExpr (gCallN 1 f_look_at_plan (gCons (gVar 0) gNil))) (gSeq (gExpr (gCallN 1 f_look_at_ticks (gCons (gVar 1) gNil))) (gSeq (gAsg (gFrz (gDict1 (gCallN 1 f_begin_of (gCons (gVar 0) gNil)) (gTup (gCons (gC (.int 0)) (gCons (gC (.int 0)) gNil))))) (DL.gName 2)) (gSeq (gFor (gRng1 (gCons (gVar 1) gNil)) (DL.gName 3) (gSeq (gAsg gDict0 (DL.gName 4)) (gSeq (gFor (gItNI (gVar 2)) (gTupT 2 (gsCons (DL.gName 5) (gsCons (gTupT 2 (gsCons (DL.gName 6) (gsCons (DL.gName 7) gsNil))) gsNil))) (gFor (gItL (gCallN 2 f_choices_of (gCons (gVar 0) (gCons (gVar 5) gNil)))) (DL.gName 8) (gSeq (gAsg (gCallN 3 f_passed (gCons (gVar 0) (gCons (gVar 5) (gCons (gVar 8) gNil)))) (gTupT 2 (gsCons (DL.gName 9) (gsCons (DL.gName 10) gsNil)))) (gSeq (gAsg (gCall toIntF (gCons (gOp inF (gC (.str "good")) (gVar 10)) gNil)) (DL.gName 11)) (gSeq (gAsg (gNGet (gVar 4) (gVar 9) (gTup (gCons (gOp addF (gVar 6) (gVar 11)) (gCons (gOp addF (gVar 7) (gVar 11)) gNil)))) (gTupT 2 (gsCons (DL.gName 12) (gsCons (DL.gName 13) gsNil)))) (gAsg (gTup (gCons (gCall minF (gCons (gVar 12) (gCons (gOp addF (gVar 6) (gVar 11)) gNil))) (gCons (gCall maxF (gCons (gVar 13) (gCons (gOp addF (gVar 7) (gVar 11)) gNil))) gNil))) (gSubD (gVar 4) (gVar 9)))))))) (gAsg (gFrz (gVar 4)) (DL.gName 2))))) (gRet (gTup (gCons (gCall min1F (gCons (gLc (gItNV (gVar 2)) (.one 14) gYes (gOp subIx (gVar 14) (gC (.int 0))) [14]) gNil)) (gCons (gCall max1F (gCons (gLc (gItNV (gVar 2)) (.one 14) gYes (gOp subIx (gVar 14) (gC (.int 1))) [14]) gNil)) gNil))))))))
def f_output : FL := runD 15 g_output
def g__law_numbers : GS := (gSeq (gAsg (gFrz (gDict1 (gCallN 1 f__law_begin (gCons (gVar 0) gNil)) (gLst (gCons (gC (.int 0)) gNil)))) (DL.gName 2)) (gSeq (gFor (gRng1 (gCons (gVar 1) gNil)) (DL.gName 3) (gSeq (gAsg gDict0 (DL.gName 4)) (gSeq (gFor (gItNI (gVar 2)) (gTupT 2 (gsCons (DL.gName 5) (gsCons (DL.gName 6) gsNil))) (gFor (gItL (gCallN 2 f__law_choices (gCons (gVar 0) (gCons (gVar 5) gNil)))) (DL.gName 7) (gSeq (gAsg (gCallN 3 f__law_tick (gCons (gVar 0) (gCons (gVar 5) (gCons (gVar 7) gNil)))) (gTupT 2 (gsCons (DL.gName 8) (gsCons (DL.gName 9) gsNil)))) (gSeq (gAsg (gLc (gItL (gVar 6)) (.one 12) gYes (gOp addF (gVar 12) (gCall toIntF (gCons (gOp inF (gC (.str "good")) (gVar 9)) gNil))) [12]) (DL.gName 10)) (gAsg (gSortedSet (gOp addF (gNGet (gVar 4) (gVar 8) (gLst gNil)) (gVar 10))) (gSubD (gVar 4) (gVar 8))))))) (gAsg (gFrz (gVar 4)) (DL.gName 2))))) (gSeq (gAsg (gLst gNil) (DL.gName 11)) (gSeq (gFor (gItNV (gVar 2)) (DL.gName 6) (gAsg (gOp addF (gVar 11) (gVar 6)) (DL.gName 11))) (gRet (gTup (gCons (gCall min1F (gCons (gVar 11) gNil)) (gCons (gCall max1F (gCons (gVar 11) gNil)) gNil))))))))
def f__law_numbers : FL := runD 13 g__law_numbers
def g_law_k05 : GS := (gSeq (gFor (gRng1 (gCons (gOp addF (gCall minF (gCons (gCall lenF (gCons (gVar 0) gNil)) (gCons (gC (.int 2)) gNil))) (gC (.int 1))) gNil)) (DL.gName 1) (gSeq (gAsg (gCallN 2 f__law_spring (gCons (gVar 0) (gCons (gVar 1) gNil))) (DL.gName 2)) (gSeq (gAsg (gCallN 2 f__law_plan (gCons (gVar 2) (gCons (gC (.int 3)) gNil))) (DL.gName 3)) (gFor (gItL (gLst (gCons (gCallN 2 f__law_pick (gCons (gVar 2) (gCons (gC (.int 15)) gNil))) (gCons (gOp subIx (gLst (gCons (gC (.int 0)) (gCons (gC (.int 20)) (gCons (gC (.int 30)) (gCons (gC (.int 60)) gNil))))) (gCallN 2 f__law_pick (gCons (gVar 2) (gCons (gC (.int 4)) gNil)))) gNil)))) (DL.gName 4) (gSeq (gAsg (gCallN 2 f__law_numbers (gCons (gVar 3) (gCons (gVar 4) gNil))) (DL.gName 5)) (gSeq (gIfS (gTNot (gTst (gCallN 2 (f__law_twins 8) (gCons (gCallN 2 f_output (gCons (gVar 3) (gCons (gVar 4) gNil))) (gCons (gVar 5) gNil))))) (gRet (gC (.bl false))) gNext) (gFor (gRng1 (gCons (gC (.int 4)) gNil)) (DL.gName 6) (gSeq (gPar 7 8 (gCons (gCallN 1 f__law_begin (gCons (gVar 3) gNil)) (gCons (gTup gNil) gNil))) (gSeq (gFor (gRng1 (gCons (gVar 4) gNil)) (DL.gName 9) (gSeq (gAsg (gCallN 2 f__law_choices (gCons (gVar 3) (gCons (gVar 7) gNil))) (DL.gName 10)) (gSeq (gAsg (gOp addF (gVar 8) (gTup (gCons (gOp subIx (gVar 10) (gCallN 2 f__law_pick (gCons (gVar 2) (gCons (gCall lenF (gCons (gVar 10) gNil)) gNil)))) gNil))) (DL.gName 8)) (gAsg (gOp subIx (gCallN 3 f__law_tick (gCons (gVar 3) (gCons (gVar 7) (gCons (gOp subIx (gVar 8) (gUn negF (gC (.int 1)))) gNil)))) (gC (.int 0))) (DL.gName 7))))) (gSeq (gAsg (gCall lenF (gCons (gLc (gItL (gCallN 2 f_words (gCons (gVar 3) (gCons (gVar 8) gNil)))) (.one 12) (gTst (gOp inF (gC (.str "good")) (gVar 12))) (gVar 12) [12]) gNil)) (DL.gName 11)) (gIfS (gTOr (gTst (gOp ltF (gVar 11) (gOp subIx (gVar 5) (gC (.int 0))))) (gTst (gOp gtF (gVar 11) (gOp subIx (gVar 5) (gC (.int 1)))))) (gRet (gC (.bl false))) gNext))))))))))) (gRet (gC (.bl true))))
def f_law_k05 : FL := runD 13 g_law_k05
noncomputable def g_reduced : GS := (gSeq (gPar 2 3 (gCons (gVar 0) (gCons (gVar 1) gNil))) (gSeq (gWhile (gTst (gOp gtF (gVar 3) (gC (.int 0)))) (gPar 2 3 (gCons (gVar 3) (gCons (gOp modF (gVar 2) (gVar 3)) gNil)))) (gRet (gTup (gCons (gOp fdivF (gVar 0) (gVar 2)) (gCons (gOp fdivF (gVar 1) (gVar 2)) gNil))))))
noncomputable def f_reduced : FL := runD 4 g_reduced
def g_is_bad : GS := (gRet (gCall anyF (gCons (gLc (gItL (gVar 0)) (.one 1) gYes (gOp inF (gVar 1) (gC (.tup [(.str "empty"), (.str "half"), (.str "over")]))) [1]) gNil)))
def f_is_bad : FL := runD 2 g_is_bad
def g_good_worth : GS := (gRet (gTup (gCons (gCall toIntF (gCons (gOp inF (gC (.str "good")) (gVar 0)) gNil)) (gCons (gC (.int 1)) gNil))))
def f_good_worth : FL := runD 1 g_good_worth
def g_bad_worth : GS := (gRet (gTup (gCons (gCall toIntF (gCons (gCallN 1 f_is_bad (gCons (gVar 0) gNil)) gNil)) (gCons (gCall toIntF (gCons (gOr (gCallN 1 f_is_bad (gCons (gVar 0) gNil)) (gOp inF (gC (.str "good")) (gVar 0))) gNil)) gNil))))
def f_bad_worth : FL := runD 1 g_bad_worth
noncomputable def g_ring_along : GS := (gSeq (gPar 2 3 (gCons (gLstC gNil) (gCons gDict0 gNil))) (gSeq (gWhile (gTAnd (gTst (gOp inFD (gVar 1) (gVar 0))) (gTst (gOp notInFD (gVar 1) (gVar 3)))) (gSeq (gAsg (gCall lenF (gCons (gVar 2) gNil)) (gSubD (gVar 3) (gVar 1))) (gSeq (gExpr (gApp (gVar 2) (gOp subIxD (gVar 0) (gVar 1)))) (gAsg (gOp subIx (gOp subIxD (gVar 0) (gVar 1)) (gC (.int 0))) (DL.gName 1))))) (gRet (gIf (gTst (gOp inFD (gVar 1) (gVar 3))) (gUn revF (gSlice slF (gVar 2) (goSome (gOp subIxD (gVar 3) (gVar 1))) goNone)) (gC .non)))))
noncomputable def f_ring_along : FL := runD 4 g_ring_along
noncomputable def g_better_ring : GS := (gSeq (gPar3 3 4 5 (gCons (gDcN (gItNK (gVar 0)) (.one 6) gYes (gVar 6) (gC (.int 0)) [6]) (gCons gDict0 (gCons (gC (.bl true)) gNil)))) (gSeq (gWhile (gTst (gVar 5)) (gSeq (gAsg (gC (.bl false)) (DL.gName 5)) (gFor (gItNI (gVar 0)) (gTupT 2 (gsCons (DL.gName 6) (gsCons (gTupT 2 (gsCons (DL.gName 7) (gsCons (DL.gName 8) gsNil))) gsNil))) (gFor (gItL (gVar 8)) (gTupT 3 (gsCons (DL.gName 9) (gsCons (DL.gName 10) (gsCons (DL.gName 11) gsNil)))) (gSeq (gAsg (gCallV 1 1 "good_worth" f_good_worth "bad_worth" f_bad_worth (gCons (gVar 11) gNil)) (gTupT 2 (gsCons (DL.gName 12) (gsCons (DL.gName 13) gsNil)))) (gSeq (gAsg (gOp subF (gOp addF (gOp subIxD (gVar 3) (gVar 6)) (gOp mulF (gVar 12) (gOp subIx (gVar 2) (gC (.int 1))))) (gOp mulF (gVar 13) (gOp subIx (gVar 2) (gC (.int 0))))) (DL.gName 14)) (gIfS (gTst (gOp gtF (gVar 14) (gOp subIxD (gVar 3) (gVar 10)))) (gSeq (gAsg (gTup (gCons (gVar 14) (gCons (gTup (gCons (gVar 6) (gCons (gVar 9) (gCons (gTup (gCons (gVar 12) (gCons (gVar 13) gNil))) gNil)))) (gCons (gC (.bl true)) gNil)))) (gTupT 3 (gsCons (gSubD (gVar 3) (gVar 10)) (gsCons (gSubD (gVar 4) (gVar 10)) (gsCons (DL.gName 5) gsNil))))) (gSeq (gAsg (gCallN 2 f_ring_along (gCons (gVar 4) (gCons (gVar 10) gNil))) (DL.gName 15)) (gIfS (gTst (gUn notNF (gVar 15))) (gRet (gVar 15)) gNext))) gNext))))))) (gRet (gC .non))))
noncomputable def f_better_ring : FL := runD 16 g_better_ring
noncomputable def g_best_by : GS := (gSeq (gAsg (gTup (gCons (gTup (gCons (gUn negF (gC (.int 1))) (gCons (gC (.int 1)) gNil))) (gCons (gC .non) gNil))) (gTupT 2 (gsCons (DL.gName 2) (gsCons (DL.gName 3) gsNil)))) (gSeq (gAsg (gCallN 3 f_better_ring (gCons (gVar 0) (gCons (gVar 1) (gCons (gVar 2) gNil)))) (DL.gName 4)) (gSeq (gWhile (gTst (gUn notNF (gVar 4))) (gSeq (gAsg (gCallN 2 f_reduced (gCons (gCall sumF (gCons (gLc (gItL (gVar 4)) (.one 5) gYes (gOp subIx (gOp subIx (gVar 5) (gC (.int 2))) (gC (.int 0))) [5]) gNil)) (gCons (gCall sumF (gCons (gLc (gItL (gVar 4)) (.one 5) gYes (gOp subIx (gOp subIx (gVar 5) (gC (.int 2))) (gC (.int 1))) [5]) gNil)) gNil))) (DL.gName 2)) (gSeq (gAsg (gVar 4) (DL.gName 3)) (gAsg (gCallN 3 f_better_ring (gCons (gVar 0) (gCons (gVar 1) (gCons (gVar 2) gNil)))) (DL.gName 4))))) (gRet (gTup (gCons (gVar 2) (gCons (gVar 3) gNil)))))))
noncomputable def f_best_by : FL := runD 6 g_best_by
def g_shown : GS := (gRet (gTup (gCons (gOp subIx (gOp subIxD (gVar 0) (gOp subIx (gOp subIx (gVar 1) (gC (.int 0))) (gC (.int 0)))) (gC (.int 0))) (gCons (gCall tupleF (gCons (gLc (gItL (gVar 1)) (.one 2) gYes (gOp subIx (gVar 2) (gC (.int 1))) [2]) gNil)) gNil))))
def f_shown : FL := runD 3 g_shown
noncomputable def g_good_share : GS := (gSeq (gExpr (gCallN 1 f_look_at_plan (gCons (gVar 0) gNil))) (gRet (gOp subIx (gCallN 2 f_best_by (gCons (gCallN 1 f_net_of (gCons (gVar 0) gNil)) (gCons (gC (.glo "good_worth")) gNil))) (gC (.int 0)))))
noncomputable def f_good_share : FL := runD 1 g_good_share
noncomputable def g_good_ring : GS := (gSeq (gExpr (gCallN 1 f_look_at_plan (gCons (gVar 0) gNil))) (gSeq (gAsg (gCallN 1 f_net_of (gCons (gVar 0) gNil)) (DL.gName 1)) (gRet (gCallN 2 f_shown (gCons (gVar 1) (gCons (gOp subIx (gCallN 2 f_best_by (gCons (gVar 1) (gCons (gC (.glo "good_worth")) gNil))) (gC (.int 1))) gNil))))))
noncomputable def f_good_ring : FL := runD 2 g_good_ring
noncomputable def g_bad_share : GS := (gSeq (gExpr (gCallN 1 f_look_at_plan (gCons (gVar 0) gNil))) (gRet (gOp subIx (gCallN 2 f_best_by (gCons (gCallN 1 f_net_of (gCons (gVar 0) gNil)) (gCons (gC (.glo "bad_worth")) gNil))) (gC (.int 0)))))
noncomputable def f_bad_share : FL := runD 1 g_bad_share
noncomputable def g_bad_ring : GS := (gSeq (gExpr (gCallN 1 f_look_at_plan (gCons (gVar 0) gNil))) (gSeq (gAsg (gCallN 1 f_net_of (gCons (gVar 0) gNil)) (DL.gName 1)) (gRet (gCallN 2 f_shown (gCons (gVar 1) (gCons (gOp subIx (gCallN 2 f_best_by (gCons (gVar 1) (gCons (gC (.glo "bad_worth")) gNil))) (gC (.int 1))) gNil))))))
noncomputable def f_bad_ring : FL := runD 2 g_bad_ring
def g__law_worth : GS := (gSeq (gAsg (gCall toIntF (gCons (gOp neF (gLc (gItL (gVar 0)) (.one 4) (gTst (gOp inF (gVar 4) (gLst (gCons (gC (.str "empty")) (gCons (gC (.str "half")) (gCons (gC (.str "over")) gNil)))))) (gVar 4) [4]) (gLst gNil)) gNil)) (DL.gName 2)) (gSeq (gAsg (gCall toIntF (gCons (gOp inF (gC (.str "good")) (gVar 0)) gNil)) (DL.gName 3)) (gRet (gIf (gTst (gOp eqF (gVar 1) (gC (.str "good")))) (gTup (gCons (gVar 3) (gCons (gC (.int 1)) gNil))) (gTup (gCons (gVar 2) (gCons (gOp addF (gVar 2) (gVar 3)) gNil)))))))
def f__law_worth : FL := runD 5 g__law_worth
def g__law_is_greatest : GS := (gSeq (gAsg (gCall dictNF (gCons (gLc (gItNK (gVar 0)) (.one 6) gYes (gTup (gCons (gVar 6) (gCons (gC (.int 0)) gNil))) [6]) gNil)) (DL.gName 3)) (gSeq (gFor (gRng1 (gCons (gOp addF (gCall lenFD (gCons (gVar 0) gNil)) (gC (.int 2))) gNil)) (DL.gName 4) (gSeq (gAsg (gC (.bl false)) (DL.gName 5)) (gSeq (gFor (gItNK (gVar 0)) (DL.gName 6) (gFor (gItL (gOp subIx (gOp subIxD (gVar 0) (gVar 6)) (gC (.int 1)))) (gTupT 3 (gsCons (DL.gName 7) (gsCons (DL.gName 8) (gsCons (DL.gName 9) gsNil)))) (gSeq (gAsg (gCallN 2 f__law_worth (gCons (gVar 9) (gCons (gVar 1) gNil))) (gTupT 2 (gsCons (DL.gName 10) (gsCons (DL.gName 11) gsNil)))) (gSeq (gAsg (gOp subF (gOp addF (gOp subIxD (gVar 3) (gVar 6)) (gOp mulF (gVar 10) (gOp subIx (gVar 2) (gC (.int 1))))) (gOp mulF (gVar 11) (gOp subIx (gVar 2) (gC (.int 0))))) (DL.gName 12)) (gIfS (gTst (gOp gtF (gVar 12) (gOp subIxD (gVar 3) (gVar 8)))) (gAsg (gTup (gCons (gVar 12) (gCons (gC (.bl true)) gNil))) (gTupT 2 (gsCons (gSubD (gVar 3) (gVar 8)) (gsCons (DL.gName 5) gsNil)))) gNext))))) (gIfS (gTNot (gTst (gVar 5))) (gRet (gC (.bl true))) gNext)))) (gRet (gC (.bl false)))))
def f__law_is_greatest : FL := runD 13 g__law_is_greatest
def g__law_ring_right : GS := (gSeq (gIfS (gTOr (gTNot (gTst (gUn (isiF "tuple") (gVar 1)))) (gTOr (gTst (gOp neF (gCall lenF (gCons (gVar 1) gNil)) (gC (.int 2)))) (gTNot (gTst (gUn (isiF "tuple") (gOp subIx (gVar 1) (gC (.int 1)))))))) (gRet (gC (.bl false))) gNext) (gSeq (gPar3 4 5 6 (gCons (gCallN 1 f__law_begin (gCons (gVar 0) gNil)) (gCons (gC (.int 0)) (gCons (gC (.int 0)) gNil)))) (gSeq (gFor (gItT (gOp subIx (gVar 1) (gC (.int 0)))) (DL.gName 7) (gSeq (gIfS (gTst (gOp notInF (gVar 7) (gCallN 2 f__law_choices (gCons (gVar 0) (gCons (gVar 4) gNil))))) (gRet (gC (.bl false))) gNext) (gAsg (gOp subIx (gCallN 3 f__law_tick (gCons (gVar 0) (gCons (gVar 4) (gCons (gVar 7) gNil)))) (gC (.int 0))) (DL.gName 4)))) (gSeq (gAsg (gVar 4) (DL.gName 8)) (gSeq (gFor (gItT (gOp subIx (gVar 1) (gC (.int 1)))) (DL.gName 7) (gSeq (gIfS (gTst (gOp notInF (gVar 7) (gCallN 2 f__law_choices (gCons (gVar 0) (gCons (gVar 4) gNil))))) (gRet (gC (.bl false))) gNext) (gSeq (gAsg (gCallN 3 f__law_tick (gCons (gVar 0) (gCons (gVar 4) (gCons (gVar 7) gNil)))) (gTupT 2 (gsCons (DL.gName 4) (gsCons (DL.gName 9) gsNil)))) (gSeq (gAsg (gCallN 2 f__law_worth (gCons (gVar 9) (gCons (gVar 2) gNil))) (DL.gName 10)) (gPar 5 6 (gCons (gOp addF (gVar 5) (gOp subIx (gVar 10) (gC (.int 0)))) (gCons (gOp addF (gVar 6) (gOp subIx (gVar 10) (gC (.int 1)))) gNil))))))) (gRet (gAnd (gOp eqF (gVar 4) (gVar 8)) (gAnd (gOp gtF (gVar 6) (gC (.int 0))) (gOp eqF (gOp mulF (gVar 5) (gOp subIx (gVar 3) (gC (.int 1)))) (gOp mulF (gVar 6) (gOp subIx (gVar 3) (gC (.int 0)))))))))))))
def f__law_ring_right : FL := runD 11 g__law_ring_right
def g__law_is_share : GS := (gSeq (gIfS (gTOr (gTNot (gTst (gUn (isiF "tuple") (gVar 0)))) (gTOr (gTst (gOp neF (gCall lenF (gCons (gVar 0) gNil)) (gC (.int 2)))) (gTNot (gTst (gChain leF leF (gC (.int 0)) (gOp subIx (gVar 0) (gC (.int 0))) (gOp subIx (gVar 0) (gC (.int 1)))))))) (gRet (gC (.bl false))) gNext) (gSeq (gAsg (gLc (gRng2 (gCons (gC (.int 2)) (gCons (gOp addF (gOp subIx (gVar 0) (gC (.int 1))) (gC (.int 1))) gNil))) (.one 2) (gTAnd (gTst (gOp eqF (gOp modF (gOp subIx (gVar 0) (gC (.int 0))) (gVar 2)) (gC (.int 0)))) (gTst (gOp eqF (gOp modF (gOp subIx (gVar 0) (gC (.int 1))) (gVar 2)) (gC (.int 0))))) (gVar 2) [2]) (DL.gName 1)) (gRet (gAnd (gOp gtF (gOp subIx (gVar 0) (gC (.int 1))) (gC (.int 0))) (gOp eqF (gVar 1) (gLst gNil))))))
def f__law_is_share : FL := runD 3 g__law_is_share
noncomputable def g_law_k06 : GS := (gSeq (gFor (gRng1 (gCons (gOp addF (gCall minF (gCons (gCall lenF (gCons (gVar 0) gNil)) (gCons (gC (.int 2)) gNil))) (gC (.int 1))) gNil)) (DL.gName 1) (gSeq (gAsg (gCallN 2 f__law_spring (gCons (gVar 0) (gCons (gVar 1) gNil))) (DL.gName 2)) (gSeq (gAsg (gCallN 2 f__law_plan (gCons (gVar 2) (gCons (gC (.int 3)) gNil))) (DL.gName 3)) (gSeq (gAsg (gCallN 1 f__law_ways (gCons (gVar 3) gNil)) (DL.gName 4)) (gSeq (gAsg (gLst (gCons (gTup (gCons (gC (.str "good")) (gCons (gCallN 1 f_good_share (gCons (gVar 3) gNil)) (gCons (gCallN 1 f_good_ring (gCons (gVar 3) gNil)) gNil)))) gNil)) (DL.gName 5)) (gFor (gItL (gOp addF (gVar 5) (gLst (gCons (gTup (gCons (gC (.str "bad")) (gCons (gCallN 1 f_bad_share (gCons (gVar 3) gNil)) (gCons (gCallN 1 f_bad_ring (gCons (gVar 3) gNil)) gNil)))) gNil)))) (gTupT 3 (gsCons (DL.gName 6) (gsCons (DL.gName 7) (gsCons (DL.gName 8) gsNil)))) (gSeq (gIfS (gTOr (gTNot (gTst (gCallN 1 f__law_is_share (gCons (gVar 7) gNil)))) (gTNot (gTst (gCallN 4 f__law_ring_right (gCons (gVar 3) (gCons (gVar 8) (gCons (gVar 6) (gCons (gVar 7) gNil)))))))) (gRet (gC (.bl false))) gNext) (gIfS (gTNot (gTst (gCallN 3 f__law_is_greatest (gCons (gVar 4) (gCons (gVar 6) (gCons (gVar 7) gNil)))))) (gRet (gC (.bl false))) gNext)))))))) (gRet (gC (.bl true))))
noncomputable def f_law_k06 : FL := runD 9 g_law_k06
def g_look_at_wishes : GS := (gSeq (gIfS (gTNot (gTst (gUn (isiF "tuple") (gVar 0)))) (gRaise 5) gNext) (gSeq (gFor (gItT (gVar 0)) (DL.gName 1) (gExpr (gCallN 1 f_look_at_harm (gCons (gVar 1) gNil)))) (gIfS (gTst (gOp neF (gCall listF (gCons (gVar 0) gNil)) (gSortedSet (gVar 0)))) (gRaise 5) gNext)))
def f_look_at_wishes : FL := runD 2 g_look_at_wishes
noncomputable def g_is_good : GS := (gSeq (gAsg (gCallN 1 f_harms_by (gCons (gVar 0) gNil)) (DL.gName 2)) (gRet (gNot (gCall anyF (gCons (gLc (gItT (gVar 1)) (.one 3) gYes (gOp inF (gVar 3) (gVar 2)) [3]) gNil)))))
noncomputable def f_is_good : FL := runD 4 g_is_good
noncomputable def g_good_programs : GS := (gSeq (gExpr (gCallN 1 f_look_at_plan (gCons (gVar 0) gNil))) (gSeq (gExpr (gCallN 1 f_look_at_wishes (gCons (gVar 1) gNil))) (gRet (gLc (gItL (gCallN 0 f_programs_of gNil)) (.one 2) (gTst (gCallN 2 f_is_good (gCons (gOp addF (gSlice slF (gVar 0) goNone (goSome (gC (.int 3)))) (gTup (gCons (gVar 2) (gCons (gOp subIx (gVar 0) (gC (.int 4))) gNil)))) (gCons (gVar 1) gNil)))) (gVar 2) [2]))))
noncomputable def f_good_programs : FL := runD 3 g_good_programs
noncomputable def g_good_eyes : GS := (gSeq (gExpr (gCallN 1 f_look_at_plan (gCons (gVar 0) gNil))) (gSeq (gExpr (gCallN 1 f_look_at_wishes (gCons (gVar 1) gNil))) (gRet (gLc (gRng1 (gCons (gOp addF (gOp subIx (gVar 0) (gC (.int 2))) (gC (.int 1))) gNil)) (.one 2) (gTst (gCallN 2 f_is_good (gCons (gOp addF (gOp addF (gSlice slF (gVar 0) goNone (goSome (gC (.int 1)))) (gTup (gCons (gVar 2) gNil))) (gSlice slF (gVar 0) (goSome (gC (.int 2))) goNone)) (gCons (gVar 1) gNil)))) (gVar 2) [2]))))
noncomputable def f_good_eyes : FL := runD 3 g_good_eyes
noncomputable def g_law_k07 : GS := (gSeq (gFor (gRng1 (gCons (gC (.int 1)) gNil)) (DL.gName 1) (gSeq (gAsg (gCallN 2 f__law_spring (gCons (gVar 0) (gCons (gVar 1) gNil))) (DL.gName 2)) (gSeq (gAsg (gCallN 2 f__law_plan (gCons (gVar 2) (gCons (gC (.int 3)) gNil))) (DL.gName 3)) (gSeq (gAsg (gLc (gItL (gLst (gCons (gC (.str "empty")) (gCons (gC (.str "half")) (gCons (gC (.str "over")) (gCons (gC (.str "spills")) gNil)))))) (.one 11) (gTst (gOp eqF (gCallN 2 f__law_pick (gCons (gVar 2) (gCons (gC (.int 2)) gNil))) (gC (.int 0)))) (gVar 11) [11]) (DL.gName 4)) (gSeq (gAsg (gLst gNil) (DL.gName 5)) (gSeq (gFor (gRng1 (gCons (gC (.int 4)) gNil)) (DL.gName 6) (gFor (gItL (gLst (gCons (gC (.int 1)) (gCons (gC (.int 2)) (gCons (gC (.int 3)) gNil))))) (DL.gName 7) (gSeq (gAsg (gCallN 1 f__law_harms (gCons (gOp addF (gSlice slF (gVar 3) goNone (goSome (gC (.int 3)))) (gTup (gCons (gTup (gCons (gVar 6) (gCons (gVar 7) gNil))) (gCons (gOp subIx (gVar 3) (gC (.int 4))) gNil)))) gNil)) (DL.gName 8)) (gAsg (gOp addF (gVar 5) (gOp mulF (gLst (gCons (gTup (gCons (gVar 6) (gCons (gVar 7) gNil))) gNil)) (gCall toIntF (gCons (gOp eqF (gLc (gItL (gVar 4)) (.one 11) (gTst (gOp inF (gVar 11) (gVar 8))) (gVar 11) [11]) (gLst gNil)) gNil)))) (DL.gName 5))))) (gSeq (gAsg (gLst gNil) (DL.gName 9)) (gSeq (gFor (gRng1 (gCons (gOp addF (gOp subIx (gVar 3) (gC (.int 2))) (gC (.int 1))) gNil)) (DL.gName 10) (gSeq (gAsg (gCallN 1 f__law_harms (gCons (gOp addF (gTup (gCons (gOp subIx (gVar 3) (gC (.int 0))) (gCons (gVar 10) gNil))) (gSlice slF (gVar 3) (goSome (gC (.int 2))) goNone)) gNil)) (DL.gName 8)) (gAsg (gOp addF (gVar 9) (gOp mulF (gLst (gCons (gVar 10) gNil)) (gCall toIntF (gCons (gOp eqF (gLc (gItL (gVar 4)) (.one 11) (gTst (gOp inF (gVar 11) (gVar 8))) (gVar 11) [11]) (gLst gNil)) gNil)))) (DL.gName 9)))) (gIfS (gTNot (gTst (gCallN 2 (f__law_twins 8) (gCons (gLst (gCons (gCallN 2 f_good_programs (gCons (gVar 3) (gCons (gCall tupleF (gCons (gVar 4) gNil)) gNil))) (gCons (gCallN 2 f_good_eyes (gCons (gVar 3) (gCons (gCall tupleF (gCons (gVar 4) gNil)) gNil))) gNil))) (gCons (gLst (gCons (gVar 5) (gCons (gVar 9) gNil))) gNil))))) (gRet (gC (.bl false))) gNext))))))))) (gRet (gC (.bl true))))
noncomputable def f_law_k07 : FL := runD 12 g_law_k07
def g_look_at_program : GS := (gIfS (gTNot (gTst (gCallN 1 f_is_program (gCons (gVar 0) gNil)))) (gRaise 1) gNext)
def f_look_at_program : FL := runD 1 g_look_at_program
noncomputable def g_parting_by : GS := (gSeq (gAsg (gOp addF (gSlice slF (gVar 0) goNone (goSome (gC (.int 3)))) (gTup (gCons (gVar 1) (gCons (gOp subIx (gVar 0) (gC (.int 4))) gNil)))) (DL.gName 2)) (gSeq (gAsg (gTup (gCons (gCallN 1 f_begin_of (gCons (gVar 0) gNil)) (gCons (gCallN 1 f_begin_of (gCons (gVar 2) gNil)) gNil))) (DL.gName 3)) (gSeq (gPar3 4 5 6 (gCons (gDict1 (gVar 3) (gTup gNil)) (gCons (gLstC (gCons (gVar 3) gNil)) (gCons (gC (.int 0)) gNil)))) (gSeq (gWhile (gTst (gOp ltF (gVar 6) (gCall lenF (gCons (gVar 5) gNil)))) (gSeq (gAsg (gOp subIx (gVar 5) (gVar 6)) (gTupT 2 (gsCons (DL.gName 7) (gsCons (DL.gName 8) gsNil)))) (gSeq (gAsg (gOp subIxD (gVar 4) (gOp subIx (gVar 5) (gVar 6))) (DL.gName 9)) (gSeq (gAsg (gOp addF (gVar 6) (gC (.int 1))) (DL.gName 6)) (gSeq (gPar 10 11 (gCons (gCallN 2 f_choices_of (gCons (gVar 0) (gCons (gVar 7) gNil))) (gCons (gCallN 2 f_choices_of (gCons (gVar 2) (gCons (gVar 8) gNil))) gNil))) (gFor (gItL (gSortedSet (gOp addF (gVar 10) (gVar 11)))) (DL.gName 12) (gSeq (gIfS (gTOr (gTst (gOp notInF (gVar 12) (gVar 10))) (gTst (gOp notInF (gVar 12) (gVar 11)))) (gRet (gOp addF (gVar 9) (gTup (gCons (gVar 12) gNil)))) gNext) (gSeq (gPar 13 14 (gCons (gCallN 3 f_passed (gCons (gVar 0) (gCons (gVar 7) (gCons (gVar 12) gNil)))) (gCons (gCallN 3 f_passed (gCons (gVar 2) (gCons (gVar 8) (gCons (gVar 12) gNil)))) gNil))) (gSeq (gIfS (gTst (gOp neF (gOp subIx (gVar 13) (gC (.int 1))) (gOp subIx (gVar 14) (gC (.int 1))))) (gRet (gOp addF (gVar 9) (gTup (gCons (gVar 12) gNil)))) gNext) (gSeq (gAsg (gTup (gCons (gOp subIx (gVar 13) (gC (.int 0))) (gCons (gOp subIx (gVar 14) (gC (.int 0))) gNil))) (DL.gName 15)) (gIfS (gTst (gOp notInFD (gVar 15) (gVar 4))) (gSeq (gAsg (gOp addF (gVar 9) (gTup (gCons (gVar 12) gNil))) (gSubD (gVar 4) (gVar 15))) (gExpr (gApp (gVar 5) (gVar 15)))) gNext))))))))))) (gRet (gC .non))))))
noncomputable def f_parting_by : FL := runD 16 g_parting_by
noncomputable def g_alike : GS := (gSeq (gExpr (gCallN 1 f_look_at_plan (gCons (gVar 0) gNil))) (gSeq (gExpr (gCallN 1 f_look_at_program (gCons (gVar 1) gNil))) (gRet (gUn isNF (gCallN 2 f_parting_by (gCons (gVar 0) (gCons (gVar 1) gNil)))))))
noncomputable def f_alike : FL := runD 2 g_alike
noncomputable def g_parting : GS := (gSeq (gExpr (gCallN 1 f_look_at_plan (gCons (gVar 0) gNil))) (gSeq (gExpr (gCallN 1 f_look_at_program (gCons (gVar 1) gNil))) (gRet (gCallN 2 f_parting_by (gCons (gVar 0) (gCons (gVar 1) gNil))))))
noncomputable def f_parting : FL := runD 2 g_parting
noncomputable def g__law_parting : GS := (gSeq (gAsg (gOp addF (gSlice slF (gVar 0) goNone (goSome (gC (.int 3)))) (gTup (gCons (gVar 1) (gCons (gOp subIx (gVar 0) (gC (.int 4))) gNil)))) (DL.gName 2)) (gSeq (gAsg (gTup (gCons (gCallN 1 f__law_begin (gCons (gVar 0) gNil)) (gCons (gCallN 1 f__law_begin (gCons (gVar 2) gNil)) gNil))) (DL.gName 3)) (gSeq (gPar3 4 5 6 (gCons (gDict1 (gVar 3) (gTup gNil)) (gCons (gLstC (gCons (gVar 3) gNil)) (gCons (gC (.int 0)) gNil)))) (gSeq (gWhile (gTst (gOp ltF (gVar 6) (gCall lenF (gCons (gVar 5) gNil)))) (gSeq (gAsg (gOp subIx (gVar 5) (gVar 6)) (gTupT 2 (gsCons (DL.gName 7) (gsCons (DL.gName 8) gsNil)))) (gSeq (gPar 9 6 (gCons (gOp subIxD (gVar 4) (gOp subIx (gVar 5) (gVar 6))) (gCons (gOp addF (gVar 6) (gC (.int 1))) gNil))) (gSeq (gPar 10 11 (gCons (gCallN 2 f__law_choices (gCons (gVar 0) (gCons (gVar 7) gNil))) (gCons (gCallN 2 f__law_choices (gCons (gVar 2) (gCons (gVar 8) gNil))) gNil))) (gFor (gItL (gSortedSet (gOp addF (gVar 10) (gVar 11)))) (DL.gName 12) (gSeq (gIfS (gTOr (gTst (gOp notInF (gVar 12) (gVar 10))) (gTst (gOp notInF (gVar 12) (gVar 11)))) (gRet (gOp addF (gVar 9) (gTup (gCons (gVar 12) gNil)))) gNext) (gSeq (gPar 13 14 (gCons (gCallN 3 f__law_tick (gCons (gVar 0) (gCons (gVar 7) (gCons (gVar 12) gNil)))) (gCons (gCallN 3 f__law_tick (gCons (gVar 2) (gCons (gVar 8) (gCons (gVar 12) gNil)))) gNil))) (gSeq (gIfS (gTst (gOp neF (gOp subIx (gVar 13) (gC (.int 1))) (gOp subIx (gVar 14) (gC (.int 1))))) (gRet (gOp addF (gVar 9) (gTup (gCons (gVar 12) gNil)))) gNext) (gIfS (gTst (gOp notInFD (gTup (gCons (gOp subIx (gVar 13) (gC (.int 0))) (gCons (gOp subIx (gVar 14) (gC (.int 0))) gNil))) (gVar 4))) (gSeq (gAsg (gOp addF (gVar 9) (gTup (gCons (gVar 12) gNil))) (gSubD (gVar 4) (gTup (gCons (gOp subIx (gVar 13) (gC (.int 0))) (gCons (gOp subIx (gVar 14) (gC (.int 0))) gNil))))) (gExpr (gApp (gVar 5) (gTup (gCons (gOp subIx (gVar 13) (gC (.int 0))) (gCons (gOp subIx (gVar 14) (gC (.int 0))) gNil)))))) gNext))))))))) (gRet (gC .non))))))
noncomputable def f__law_parting : FL := runD 15 g__law_parting
noncomputable def g_law_k08 : GS := (gSeq (gFor (gRng1 (gCons (gOp addF (gCall minF (gCons (gCall lenF (gCons (gVar 0) gNil)) (gCons (gC (.int 3)) gNil))) (gC (.int 1))) gNil)) (DL.gName 1) (gSeq (gAsg (gCallN 2 f__law_spring (gCons (gVar 0) (gCons (gVar 1) gNil))) (DL.gName 2)) (gSeq (gAsg (gCallN 2 f__law_plan (gCons (gVar 2) (gCons (gC (.int 3)) gNil))) (DL.gName 3)) (gSeq (gAsg (gOp subIx (gVar 3) (gC (.int 3))) (gTupT 2 (gsCons (DL.gName 4) (gsCons (DL.gName 5) gsNil)))) (gSeq (gAsg (gLst (gCons (gTup (gCons (gVar 4) (gCons (gCall minF (gCons (gC (.int 3)) (gCons (gOp addF (gVar 5) (gC (.int 1))) gNil))) gNil))) (gCons (gTup (gCons (gCall minF (gCons (gC (.int 3)) (gCons (gOp addF (gVar 4) (gC (.int 1))) gNil))) (gCons (gVar 5) gNil))) (gCons (gOp subIx (gVar 3) (gC (.int 3))) gNil)))) (DL.gName 6)) (gFor (gItL (gOp addF (gVar 6) (gLst (gCons (gTup (gCons (gCallN 2 f__law_pick (gCons (gVar 2) (gCons (gC (.int 4)) gNil))) (gCons (gOp addF (gC (.int 1)) (gCallN 2 f__law_pick (gCons (gVar 2) (gCons (gC (.int 3)) gNil)))) gNil))) gNil)))) (DL.gName 7) (gSeq (gAsg (gCallN 2 f__law_parting (gCons (gVar 3) (gCons (gVar 7) gNil))) (DL.gName 8)) (gSeq (gIfS (gTNot (gTst (gCallN 2 (f__law_twins 8) (gCons (gLst (gCons (gCallN 2 f_alike (gCons (gVar 3) (gCons (gVar 7) gNil))) (gCons (gCallN 2 f_parting (gCons (gVar 3) (gCons (gVar 7) gNil))) gNil))) (gCons (gLst (gCons (gUn isNF (gVar 8)) (gCons (gVar 8) gNil))) gNil))))) (gRet (gC (.bl false))) gNext) (gIfS (gTst (gUn isNF (gVar 8))) (gSeq (gAsg (gOp addF (gSlice slF (gVar 3) goNone (goSome (gC (.int 3)))) (gTup (gCons (gVar 7) (gCons (gOp subIx (gVar 3) (gC (.int 4))) gNil)))) (DL.gName 9)) (gSeq (gAsg (gLst (gCons (gCallN 1 f_harms (gCons (gVar 3) gNil)) (gCons (gCallN 1 f_good_share (gCons (gVar 3) gNil)) (gCons (gCallN 1 f_bad_share (gCons (gVar 3) gNil)) gNil)))) (DL.gName 10)) (gIfS (gTNot (gTst (gCallN 2 (f__law_twins 8) (gCons (gVar 10) (gCons (gLst (gCons (gCallN 1 f_harms (gCons (gVar 9) gNil)) (gCons (gCallN 1 f_good_share (gCons (gVar 9) gNil)) (gCons (gCallN 1 f_bad_share (gCons (gVar 9) gNil)) gNil)))) gNil))))) (gRet (gC (.bl false))) gNext))) gNext))))))))) (gRet (gC (.bl true))))
noncomputable def f_law_k08 : FL := runD 11 g_law_k08
noncomputable def g__wall : GS := (gWhile (gTst (gC (.bl true))) gNext)
noncomputable def f__wall : FL := runD 1 g__wall
def g_text_of : GS := (gSeq (gAsg (gVar 0) (gTupT 5 (gsCons (DL.gName 1) (gsCons (DL.gName 2) (gsCons (DL.gName 3) (gsCons (DL.gName 4) (gsCons (gTupT 4 (gsCons (DL.gName 5) (gsCons (DL.gName 6) (gsCons (DL.gName 7) (gsCons (DL.gName 8) gsNil))))) gsNil))))))) (gSeq gNoS (gSeq (gAsg (gLst (gCons (gTup (gCons (gC (.str "belt")) (gCons (gVar 1) (gCons (gVar 2) (gCons (gVar 3) gNil))))) (gCons (gOp addF (gTup (gCons (gC (.str "program")) gNil)) (gVar 4)) gNil))) (DL.gName 10)) gNoS)))
def f_text_of : FL := runD 13 g_text_of
def g_plan_text : GS := (gSeq (gExpr (gCallN 1 f_look_at_plan (gCons (gVar 0) gNil))) (gRet (gCallN 1 f_text_of (gCons (gVar 0) gNil))))
def f_plan_text : FL := runD 1 g_plan_text
def g_figure_of : GS := gNoS
def f_figure_of : FL := runD 1 g_figure_of
def g_row_of : GS := (gSeq gNoS (gSeq (gAsg (gDGet (gCall dictNF (gCons (gC (.tup [(.tup [(.str "belt"), (.int 3)]), (.tup [(.str "program"), (.int 2)]), (.tup [(.str "feed"), (.int 2)])])) gNil)) (gOp subIx (gVar 1) (gC (.int 0))) (gC (.int 0))) (DL.gName 2)) (gSeq (gAsg (gCall tupleF (gCons (gLc (gItL (gSlice slF (gVar 1) (goSome (gC (.int 1))) (goSome (gOp addF (gVar 2) (gC (.int 1)))))) (.one 5) gYes (gCallN 1 f_figure_of (gCons (gVar 5) gNil)) [5]) gNil)) (DL.gName 3)) (gSeq (gAsg (gSlice slF (gVar 1) (goSome (gOp addF (gVar 2) (gC (.int 1)))) goNone) (DL.gName 4)) (gSeq (gIfS (gTOr (gTst (gOp eqF (gVar 2) (gC (.int 0)))) (gTOr (gTst (gOp ltF (gCall lenF (gCons (gVar 3) gNil)) (gVar 2))) (gTst (gOp ltF (gCall min1F (gCons (gVar 3) gNil)) (gC (.int 0)))))) (gRet (gC .non)) gNext) (gSeq (gIfS (gTst (gOp neF (gOp subIx (gVar 1) (gC (.int 0))) (gC (.str "feed")))) (gRet (gIf (gTst (gOp eqF (gVar 4) (gLst gNil))) (gTup (gCons (gOp subIx (gVar 1) (gC (.int 0))) (gCons (gVar 3) gNil))) (gC .non))) gNext) (gSeq (gIfS (gTst (gOp notInF (gVar 4) (gTup (gCons (gLst gNil) (gCons (gLst (gCons (gC (.str "lies")) gNil)) (gCons (gLst (gCons (gC (.str "slips")) gNil)) (gCons (gLst (gCons (gC (.str "lies")) (gCons (gC (.str "slips")) gNil))) gNil))))))) (gRet (gC .non)) gNext) (gRet (gTup (gCons (gC (.str "feed")) (gCons (gTup (gCons (gOp subIx (gVar 3) (gC (.int 0))) (gCons (gOp inF (gC (.str "lies")) (gVar 4)) (gCons (gOp inF (gC (.str "slips")) (gVar 4)) (gCons (gOp subIx (gVar 3) (gC (.int 1))) gNil))))) gNil)))))))))))
def f_row_of : FL := runD 6 g_row_of
def g__law_on : GS := (gSeq (gAsg (gCallN 3 f__law_tick (gCons (gVar 0) (gCons (gOp subIx (gVar 1) (gC (.int 0))) (gCons (gVar 2) gNil)))) (gTupT 2 (gsCons (DL.gName 3) (gsCons (DL.gName 4) gsNil)))) (gSeq (gAsg (gLc (gItL (gVar 4)) (.one 6) (gTst (gOp inF (gVar 6) (gLst (gCons (gC (.str "empty")) (gCons (gC (.str "half")) (gCons (gC (.str "over")) gNil)))))) (gVar 6) [6]) (DL.gName 5)) (gRet (gTup (gCons (gVar 3) (gCons (gOp addF (gOp subIx (gVar 1) (gC (.int 1))) (gCall toIntF (gCons (gOp inF (gC (.str "good")) (gVar 4)) gNil))) (gCons (gOp addF (gOp subIx (gVar 1) (gC (.int 2))) (gCall lenF (gCons (gVar 5) gNil))) (gCons (gOp addF (gOp subIx (gVar 1) (gC (.int 3))) (gVar 4)) gNil))))))))
def f__law_on : FL := runD 7 g__law_on
end EB

/-! PA: what the small defs compute -/
namespace EB
open PySem PySem.Spec L2 DL
variable [inst : Pw]
theorem slE : sizeLine = 16777216 := sizeLine_eq
/-! ### the parts of a plan, any values -/
def within (d : D) (lo hi : Int) : Bool := match d with
  | .int i => decide (lo ≤ i) && decide (i ≤ hi)
  | _ => false
theorem isWithin_ok {d : D} {lo hi : Int} {M : Sto} (h : d.flat = true) : f_is_within [d, .int lo, .int hi] M = okR (.bl (within d lo hi)) M := by
  cases d <;> simp [D.flat] at h <;> simp [f_is_within, g_is_within, runD, isiF, D.tyN, subTy, leF, intF, within]
  split <;> simp_all
  omega
theorem lawInt_ok {d : D} {lo hi : Int} {M : Sto} (h : d.flat = true) : f__law_int [d, .int lo, .int hi] M = okR (.bl (within d lo hi)) M := by
  cases d <;> simp [D.flat] at h <;> simp [f__law_int, g__law_int, runD, isiF, D.tyN, subTy, leF, intF, within]
  split <;> simp_all
  omega
def rowD (d : D) (n : Int) : Bool := match d with
  | .tup l => decide ((l.length : Int) = n)
  | _ => false
theorem isRow_ok {d : D} {n : Int} {M : Sto} (h : d.flat = true) : f_is_row [d, .int n] M = okR (.bl (rowD d n)) M := by
  cases d <;> simp [D.flat] at h <;> simp [f_is_row, g_is_row, runD, isiF, D.tyN, subTy, lenF, eqF, eqR, D.scal, rowD]
theorem lawMade_ok {d : D} {n : Int} {M : Sto} (h : d.flat = true) : f__law_made [d, .int n] M = okR (.bl (rowD d n)) M := by
  cases d <;> simp [D.flat] at h <;> simp [f__law_made, g__law_made, runD, isiF, D.tyN, subTy, lenF, eqF, eqR, D.scal, rowD]
theorem row_inv {d : D} {n : Nat} (h : rowD d n = true) : ∃ l, d = .tup l ∧ l.length = n := by
  cases d <;> simp [rowD] at h
  rename_i l
  exact ⟨l, rfl, by omega⟩
theorem len2 {α : Type} {l : List α} (h : l.length = 2) : ∃ a b, l = [a, b] := by
  match l, h with
  | [a, b], _ => exact ⟨a, b, rfl⟩
theorem len4 {α : Type} {l : List α} (h : l.length = 4) : ∃ a b c d, l = [a, b, c, d] := by
  match l, h with
  | [a, b, c, d], _ => exact ⟨a, b, c, d, rfl⟩
theorem len5 {α : Type} {l : List α} (h : l.length = 5) : ∃ a b c d e, l = [a, b, c, d, e] := by
  match l, h with
  | [a, b, c, d, e], _ => exact ⟨a, b, c, d, e, rfl⟩
theorem row2 {d : D} : rowD d 2 = true → ∃ a b, d = .tup [a, b] := fun hh => by
  obtain ⟨l, rfl, h⟩ := row_inv (n := 2) hh
  obtain ⟨a, b, rfl⟩ := len2 h
  exact ⟨a, b, rfl⟩
theorem row4 {d : D} : rowD d 4 = true → ∃ a b c e, d = .tup [a, b, c, e] := fun hh => by
  obtain ⟨l, rfl, h⟩ := row_inv (n := 4) hh
  obtain ⟨a, b, c, e, rfl⟩ := len4 h
  exact ⟨a, b, c, e, rfl⟩
theorem row5 {d : D} : rowD d 5 = true → ∃ a b c e f, d = .tup [a, b, c, e, f] := fun hh => by
  obtain ⟨l, rfl, h⟩ := row_inv (n := 5) hh
  obtain ⟨a, b, c, e, f, rfl⟩ := len5 h
  exact ⟨a, b, c, e, f, rfl⟩
theorem rowF {d : D} {n : Int} (h : rowD d n = false) : ∀ l : List D, d = .tup l → (l.length : Int) ≠ n := by
  rintro l rfl
  simpa [rowD] using h
def isB : D → Bool
  | .bl _ => true
  | _ => false
def isS : D → Bool
  | .str _ => true
  | _ => false
theorem isiB_ok {d : D} {M : Sto} (h : d.flat = true) : isiF "bool" d M = okR (.bl (isB d)) M := by
  cases d <;> simp [D.flat] at h <;> simp [isiF, D.tyN, subTy, isB]
theorem isiS_ok {d : D} {M : Sto} (h : d.flat = true) : isiF "str" d M = okR (.bl (isS d)) M := by
  cases d <;> simp [D.flat] at h <;> simp [isiF, D.tyN, subTy, isS]
theorem within_inv {d : D} {lo hi : Int} (h : within d lo hi = true) : ∃ i, d = .int i ∧ lo ≤ i ∧ i ≤ hi := by
  cases d <;> simp [within] at h
  exact ⟨_, rfl, h.1, h.2⟩
/-! items of a written tuple -/
theorem ix0 {a : D} {l : List D} {M : Sto} : subIx (.tup (a :: l)) (.int 0) M = okR a M := by
  have : atI (a :: l) (0 : Int) = some a := atI_nat (j := 0) rfl
  simp [subIx, this]
theorem ixN {l : List D} {n : Nat} {a : D} {M : Sto} (h : l[n]? = some a) : subIx (.tup l) (.int n) M = okR a M := by
  have : atI l (n : Int) = some a := atI_nat h
  simp [subIx, this]
@[simp] theorem ix_0 {a : D} {l : List D} {M : Sto} : subIx (.tup (a :: l)) (.int 0) M = okR a M := ixN (n := 0) rfl
@[simp] theorem ix_1 {a b : D} {l : List D} {M : Sto} : subIx (.tup (a :: b :: l)) (.int 1) M = okR b M := ixN (n := 1) rfl
@[simp] theorem ix_2 {a b c : D} {l : List D} {M : Sto} : subIx (.tup (a :: b :: c :: l)) (.int 2) M = okR c M := ixN (n := 2) rfl
@[simp] theorem ix_3 {a b c d : D} {l : List D} {M : Sto} : subIx (.tup (a :: b :: c :: d :: l)) (.int 3) M = okR d M := ixN (n := 3) rfl
@[simp] theorem ix_4 {a b c d e : D} {l : List D} {M : Sto} : subIx (.tup (a :: b :: c :: d :: e :: l)) (.int 4) M = okR e M := ixN (n := 4) rfl
def progD : D → Bool
  | .tup [a, b] => within a 0 3 && within b 1 3
  | _ => false
theorem flat2 {a b : D} (h : (D.tup [a, b]).flat = true) : a.flat = true ∧ b.flat = true := by simpa [D.flat, D.flatL] using h
theorem flat4 {a b c d : D} (h : (D.tup [a, b, c, d]).flat = true) : a.flat = true ∧ b.flat = true ∧ c.flat = true ∧ d.flat = true := by simpa [D.flat, D.flatL, and_assoc] using h
theorem flat5 {a b c d e : D} (h : (D.tup [a, b, c, d, e]).flat = true) : a.flat = true ∧ b.flat = true ∧ c.flat = true ∧ d.flat = true ∧ e.flat = true := by simpa [D.flat, D.flatL, and_assoc] using h
theorem progD_row {d : D} (h : rowD d 2 = false) : progD d = false := by
  unfold progD
  split
  · simp [rowD] at h
  · rfl
theorem isProgram_ok {d : D} {M : Sto} (h : d.flat = true) : f_is_program [d] M = okR (.bl (progD d)) M := by
  by_cases c : rowD d 2 = true
  · obtain ⟨a, b, rfl⟩ := row2 c
    obtain ⟨ha, hb⟩ := flat2 h
    simp [f_is_program, g_is_program, runD, isRow_ok h, c, isWithin_ok ha, isWithin_ok hb, progD]
    split <;> simp_all
  · have c' : rowD d 2 = false := by simpa using c
    simp [f_is_program, g_is_program, runD, isRow_ok h, c', progD_row c']
theorem lawGoodProgram_ok {d : D} {M : Sto} (h : d.flat = true) : f__law_good_program [d] M = okR (.bl (progD d)) M := by
  by_cases c : rowD d 2 = true
  · obtain ⟨a, b, rfl⟩ := row2 c
    obtain ⟨ha, hb⟩ := flat2 h
    simp [f__law_good_program, g__law_good_program, runD, lawMade_ok h, c, lawInt_ok ha, lawInt_ok hb, progD]
    split <;> simp_all
  · have c' : rowD d 2 = false := by simpa using c
    simp [f__law_good_program, g__law_good_program, runD, lawMade_ok h, c', progD_row c']
def feedD : D → Bool
  | .tup [a, b, c, d] => within a 0 2 && isB b && isB c && within d 1 3
  | _ => false
theorem feedD_row {d : D} (h : rowD d 4 = false) : feedD d = false := by
  unfold feedD
  split
  · simp [rowD] at h
  · rfl
theorem isFeed_ok {d : D} {M : Sto} (h : d.flat = true) : f_is_feed [d] M = okR (.bl (feedD d)) M := by
  by_cases c : rowD d 4 = true
  · obtain ⟨a, b, e, f, rfl⟩ := row4 c
    obtain ⟨ha, hb, he, hf⟩ := flat4 h
    simp [f_is_feed, g_is_feed, runD, isRow_ok h, c, isWithin_ok ha, isWithin_ok hf, isiB_ok hb, isiB_ok he, feedD]
    cases within a 0 2 <;> cases within f 1 3 <;> cases isB b <;> cases isB e <;> simp
  · have c' : rowD d 4 = false := by simpa using c
    simp [f_is_feed, g_is_feed, runD, isRow_ok h, c', feedD_row c']
def planD : D → Bool
  | .tup [b, e, t, p, f] => within b 2 6 && (match b with | .int i => within t 0 (i - 1) | _ => false) && (match t with | .int k => within e 0 k | _ => false) && progD p && feedD f
  | _ => false
theorem planD_row {d : D} (h : rowD d 5 = false) : planD d = false := by
  unfold planD
  split
  · simp [rowD] at h
  · rfl
theorem isPlan_ok {d : D} {M : Sto} (h : d.flat = true) : f_is_plan [d] M = okR (.bl (planD d)) M := by
  by_cases c : rowD d 5 = true
  · obtain ⟨b, e, t, p, f, rfl⟩ := row5 c
    obtain ⟨hb, he, ht, hp, hf⟩ := flat5 h
    cases w1 : within b 2 6 with
    | false => simp [f_is_plan, g_is_plan, runD, isRow_ok h, c, isWithin_ok hb, planD, w1]
    | true =>
      obtain ⟨i, rfl, _, _⟩ := within_inv w1
      cases w2 : within t 0 (i - 1) with
      | false => simp [f_is_plan, g_is_plan, runD, isRow_ok h, c, isWithin_ok hb, isWithin_ok ht, planD, w1, w2, subF, intF]
      | true =>
        obtain ⟨k, rfl, _, _⟩ := within_inv w2
        simp [f_is_plan, g_is_plan, runD, isRow_ok h, c, isWithin_ok hb, isWithin_ok ht, isWithin_ok he, isProgram_ok hp, isFeed_ok hf, planD, w1, w2, subF, intF]
        cases within e 0 k <;> cases progD p <;> cases feedD f <;> simp
  · have c' : rowD d 5 = false := by simpa using c
    simp [f_is_plan, g_is_plan, runD, isRow_ok h, c', planD_row c']
theorem within_int {i lo hi : Int} : within (.int i) lo hi = true ↔ lo ≤ i ∧ i ≤ hi := by simp [within]
theorem planD_iff {b e t p f : D} : planD (.tup [b, e, t, p, f]) = true ↔ ∃ i j k : Int, b = .int i ∧ e = .int j ∧ t = .int k ∧ 2 ≤ i ∧ i ≤ 6 ∧ 0 ≤ j ∧ j ≤ k ∧ k ≤ i - 1 ∧ progD p = true ∧ feedD f = true := by
  constructor
  · intro h
    simp only [planD, Bool.and_eq_true] at h
    obtain ⟨⟨⟨⟨h1, h2⟩, h3⟩, h4⟩, h5⟩ := h
    obtain ⟨i, rfl, _, _⟩ := within_inv h1
    obtain ⟨k, rfl, _, _⟩ := within_inv h2
    obtain ⟨j, rfl, _, _⟩ := within_inv h3
    exact ⟨i, j, k, rfl, rfl, rfl, by assumption, by assumption, by assumption, by assumption, by assumption, h4, h5⟩
  · rintro ⟨i, j, k, rfl, rfl, rfl, h1, h2, h3, h4, h5, h6, h7⟩
    have a1 : within (.int i) 2 6 = true := within_int.mpr ⟨h1, h2⟩
    have a2 : within (.int k) 0 (i - 1) = true := within_int.mpr ⟨by omega, h5⟩
    have a3 : within (.int j) 0 k = true := within_int.mpr ⟨h3, h4⟩
    simp [planD, a1, a2, a3, h6, h7]
theorem lawGoodPlan_ok {d : D} {M : Sto} (h : d.flat = true) : f__law_good_plan [d] M = okR (.bl (planD d)) M := by
  by_cases c : rowD d 5 = true
  · obtain ⟨b, e, t, p, f, rfl⟩ := row5 c
    obtain ⟨hb, he, ht, hp, hf⟩ := flat5 h
    have no : ∀ {x : Bool}, (x = true → False) → x = false := fun {x} h => by cases x <;> simp_all
    cases w1 : within b 2 6 with
    | false =>
      have z : planD (.tup [b, e, t, p, f]) = false := by simp [planD, w1]
      simp [f__law_good_plan, g__law_good_plan, runD, lawMade_ok h, c, lawInt_ok hb, w1, z]
    | true =>
      obtain ⟨i, rfl, i1, i2⟩ := within_inv w1
      cases w2 : within e 0 5 with
      | false =>
        have z : planD (.tup [.int i, e, t, p, f]) = false := no fun q => by
          obtain ⟨i', j, k, q1, q2, q3, q4, q5, q6, q7, q8, _⟩ := planD_iff.mp q
          cases q1; subst q2
          have := (within_int (i := j) (lo := 0) (hi := 5)).mpr ⟨q6, by omega⟩
          rw [w2] at this; cases this
        simp [f__law_good_plan, g__law_good_plan, runD, lawMade_ok h, c, lawInt_ok hb, lawInt_ok he, w1, w2, z]
      | true =>
        obtain ⟨j, rfl, j1, j2⟩ := within_inv w2
        cases w3 : within t j (i - 1) with
        | false =>
          have z : planD (.tup [.int i, .int j, t, p, f]) = false := no fun q => by
            obtain ⟨i', j', k, q1, q2, q3, q4, q5, q6, q7, q8, _⟩ := planD_iff.mp q
            cases q1; cases q2; subst q3
            have := (within_int (i := k) (lo := j) (hi := i - 1)).mpr ⟨q7, by omega⟩
            rw [w3] at this; cases this
          simp [f__law_good_plan, g__law_good_plan, runD, lawMade_ok h, c, lawInt_ok hb, lawInt_ok he, lawInt_ok ht, w1, w2, w3, z, subF, intF]
        | true =>
          obtain ⟨k, rfl, k1, k2⟩ := within_inv w3
          have a2 : within (.int k) 0 (i - 1) = true := within_int.mpr ⟨by omega, k2⟩
          have a3 : within (.int j) 0 k = true := within_int.mpr ⟨j1, k1⟩
          have z : planD (.tup [.int i, .int j, .int k, p, f]) = (progD p && feedD f) := by simp [planD, w1, a2, a3]
          by_cases c4 : rowD f 4 = true
          · obtain ⟨x1, x2, x3, x4, rfl⟩ := row4 c4
            obtain ⟨hx1, hx2, hx3, hx4⟩ := flat4 hf
            simp [f__law_good_plan, g__law_good_plan, runD, lawMade_ok h, c, lawInt_ok hb, lawInt_ok he, lawInt_ok ht, w1, w2, w3, z, subF, intF, lawGoodProgram_ok hp, lawMade_ok hf, c4, isiB_ok hx2, isiB_ok hx3, lawInt_ok hx1, lawInt_ok hx4, feedD]
            cases progD p <;> cases isB x2 <;> cases isB x3 <;> cases within x1 0 2 <;> cases within x4 1 3 <;> simp
          · have c4' : rowD f 4 = false := by simpa using c4
            simp [f__law_good_plan, g__law_good_plan, runD, lawMade_ok h, c, lawInt_ok hb, lawInt_ok he, lawInt_ok ht, w1, w2, w3, z, subF, intF, lawGoodProgram_ok hp, lawMade_ok hf, c4', feedD_row c4']
  · have c' : rowD d 5 = false := by simpa using c
    simp [f__law_good_plan, g__law_good_plan, runD, lawMade_ok h, c', planD_row c']
end EB
/-! PB: loops in general; plans and stands as they are meant -/
namespace EB
open PySem PySem.Spec L2 DL
variable [inst : Pw]
/-! ### loops in general -/
theorem lcL_pure {T : TGC} {tt : GT} {te : GE} {δ : Ev} (f : D → Option D) : ∀ {ds acc : List D} {M : Sto}, (∀ d ∈ ds, ∃ δ1, T.d d δ = some δ1 ∧ (match f d with | none => tt δ1 M = okR false M | some y => tt δ1 M = okR true M ∧ te δ1 M = okR y M)) →
    acc.length + ds.length ≤ sizeLine → lcL T tt te δ ds acc M = okR (.lst (acc ++ ds.filterMap f)) M
  | [], acc, M, _, _ => by simp [lcL]
  | d :: ds, acc, M, h, hl => by
    obtain ⟨δ1, h1, h2⟩ := h d List.mem_cons_self
    have ih := fun acc' hl' => lcL_pure f (ds := ds) (acc := acc') (M := M) (fun x hx => h x (List.mem_cons_of_mem _ hx)) hl'
    rw [List.length_cons] at hl
    simp only [lcL, h1]
    cases e : f d with
    | none =>
      rw [e] at h2
      simp only [h2, noEx_ok, bindR_ok]
      rw [if_neg Bool.false_ne_true, ih acc (by omega), List.filterMap_cons, e]
    | some y =>
      rw [e] at h2
      simp only [h2.1, h2.2, noEx_ok, bindR_ok, if_true]
      rw [if_pos (by omega), ih (acc ++ [y]) (by simp; omega), List.filterMap_cons, e]
      simp
theorem lcL_inv {T : TGC} {tt : GT} {te : GE} {δ : Ev} (I : Sto → Prop) (Q : D → Prop) : ∀ {ds acc : List D} {M : Sto}, (∀ d ∈ ds, ∀ M, I M → ∃ δ1, T.d d δ = some δ1 ∧ ((∃ M', tt δ1 M = okR false M' ∧ I M') ∨ ∃ M' y M'', tt δ1 M = okR true M' ∧ te δ1 M' = okR y M'' ∧ Q y ∧ I M'')) →
    I M → (∀ y ∈ acc, Q y) → acc.length + ds.length ≤ sizeLine → ∃ l M', lcL T tt te δ ds acc M = okR (.lst l) M' ∧ (∀ y ∈ l, Q y) ∧ I M' ∧ l.length ≤ acc.length + ds.length
  | [], acc, M, _, hI, hQ, _ => ⟨acc, M, rfl, hQ, hI, by simp⟩
  | d :: ds, acc, M, h, hI, hQ, hl => by
    rw [List.length_cons] at hl
    obtain ⟨δ1, h1, h2⟩ := h d List.mem_cons_self M hI
    have hr : ∀ x ∈ ds, ∀ M, I M → _ := fun x hx => h x (List.mem_cons_of_mem _ hx)
    simp only [lcL, h1]
    rcases h2 with ⟨M', h2, hI'⟩ | ⟨M', y, M'', h2, h3, hy, hI'⟩
    · simp only [h2, noEx_ok, bindR_ok]
      rw [if_neg Bool.false_ne_true]
      obtain ⟨l, M3, q1, q2, q3, q4⟩ := lcL_inv I Q hr hI' hQ (by omega)
      exact ⟨l, M3, q1, q2, q3, by simp; omega⟩
    · simp only [h2, h3, noEx_ok, bindR_ok, if_true]
      rw [if_pos (by omega)]
      obtain ⟨l, M3, q1, q2, q3, q4⟩ := lcL_inv I Q hr hI' (acc := acc ++ [y]) (by
        intro z hz
        rcases List.mem_append.mp hz with hz | hz
        · exact hQ z hz
        · obtain rfl : z = y := by simpa using hz
          exact hy) (by simp; omega)
      exact ⟨l, M3, q1, q2, q3, by simp at q4 ⊢; omega⟩
theorem forL_inv {t : GG} {s : GS} (I : Ev → Sto → Prop) : ∀ {ds : List D} {δ : Ev} {M : Sto}, (∀ d ∈ ds, ∀ δ M, I δ M → ∃ δ1 M1 δ2 M2, t d δ M = okR δ1 M1 ∧ (s δ1 M1 = some (.nx δ2 M2) ∨ s δ1 M1 = some (.ct δ2 M2)) ∧ I δ2 M2) →
    I δ M → ∃ δ' M', forL t s ds δ M = some (.nx δ' M') ∧ I δ' M'
  | [], δ, M, _, hI => ⟨δ, M, rfl, hI⟩
  | d :: ds, δ, M, h, hI => by
    obtain ⟨δ1, M1, δ2, M2, h1, h2, h3⟩ := h d List.mem_cons_self δ M hI
    obtain ⟨δ', M', q1, q2⟩ := forL_inv I (fun x hx => h x (List.mem_cons_of_mem _ hx)) h3
    refine ⟨δ', M', ?_, q2⟩
    simp only [forL, h1, bindS_ok]
    rcases h2 with h2 | h2 <;> simp only [h2] <;> exact q1
/-! ### plans and stands -/
structure Pn where
  belt : Nat
  eye : Nat
  tap : Nat
  lag : Nat
  fill : Nat
  apart : Nat
  lies : Bool
  slips : Bool
  need : Nat
  deriving DecidableEq
structure Pn.Ok (p : Pn) : Prop where
  b1 : 2 ≤ p.belt
  b2 : p.belt ≤ 6
  e1 : p.eye ≤ p.tap
  t1 : p.tap < p.belt
  l1 : p.lag ≤ 3
  f1 : 1 ≤ p.fill
  f2 : p.fill ≤ 3
  a1 : p.apart ≤ 2
  n1 : 1 ≤ p.need
  n2 : p.need ≤ 3
structure Sd where
  places : List Int
  fills : Bool
  count : Nat
  mem : List Bool
  since : Nat
  deriving DecidableEq
structure Sd.Ok (p : Pn) (s : Sd) : Prop where
  len : s.places.length = p.belt
  rng : ∀ x ∈ s.places, (if p.lies then -2 else -1) ≤ x ∧ x ≤ p.need + 1
  cnt : if s.fills then 1 ≤ s.count ∧ s.count ≤ p.fill else s.count = 0
  mem : s.mem.length = p.lag
  snc : s.since ≤ p.apart
def encP (p : Pn) : D := .tup [.int p.belt, .int p.eye, .int p.tap, .tup [.int p.lag, .int p.fill], .tup [.int p.apart, .bl p.lies, .bl p.slips, .int p.need]]
def phase (b : Bool) : D := .str (if b then "fills" else "runs")
def encS (s : Sd) : D := .tup [.tup (s.places.map D.int), phase s.fills, .int s.count, .tup (s.mem.map D.bl), .int s.since]
def beginS (p : Pn) : Sd := ⟨List.replicate p.belt (-1), false, 0, List.replicate p.lag false, p.apart⟩
theorem begin_ok {p : Pn} (h : p.Ok) : (beginS p).Ok p where
  len := by simp [beginS]
  rng := fun x hx => by
    have : x = -1 := (List.mem_replicate.mp hx).2
    subst this
    split <;> omega
  cnt := by simp [beginS]
  mem := by simp [beginS]
  snc := Nat.le_refl _
theorem mulRep {a : D} {n : Nat} {M : Sto} (h : n ≤ 1000) : mulF (.tup [a]) (.int n) M = okR (.tup (List.replicate n a)) M := by
  simp [mulF]
  omega
theorem beginOf_ok {p : Pn} {M : Sto} (h : p.Ok) : f_begin_of [encP p] M = okR (encS (beginS p)) M := by
  have := h.b2; have := h.l1
  simp [f_begin_of, g_begin_of, runD, encP, encS, beginS, slE, mulRep (show p.belt ≤ 1000 by omega), mulRep (show p.lag ≤ 1000 by omega), phase]
theorem lawBegin_ok {p : Pn} {M : Sto} (h : p.Ok) : f__law_begin [encP p] M = okR (encS (beginS p)) M := by
  have := h.b2; have := h.l1
  simp [f__law_begin, g__law_begin, runD, encP, encS, beginS, slE, mulRep (show p.belt ≤ 1000 by omega), mulRep (show p.lag ≤ 1000 by omega), phase, negF]
/-! ### choices -/
abbrev Ch := Nat × Bool
def encC (c : Ch) : D := .tup [.int c.1, .bl c.2]
def chs (p : Pn) (s : Sd) : List Ch :=
  if s.fills then (if p.slips = true ∧ s.count = p.fill then [(0, false), (0, true)] else [(0, false)])
  else if s.since = p.apart then (if p.lies then [(0, false), (1, false), (2, false)] else [(0, false), (1, false)]) else [(0, false)]
theorem ph_fills {b : Bool} {M : Sto} : eqF (phase b) (.str "fills") M = okR (.bl b) M := by
  cases b <;> simp [phase, eqF, eqR, D.scal] <;> decide +kernel
theorem ph_runs {b : Bool} {M : Sto} : eqF (phase b) (.str "runs") M = okR (.bl (!b)) M := by
  cases b <;> simp [phase, eqF, eqR, D.scal] <;> decide +kernel
theorem eq_nat {a b : Nat} {M : Sto} : eqF (.int a) (.int b) M = okR (.bl (decide (a = b))) M := by
  have : ((a : Int) = b) ↔ a = b := Int.ofNat_inj
  simp [eqF, eqR, D.scal, this]
@[simp] theorem add_lst {xs ys : List D} {M : Sto} : addF (.lst xs) (.lst ys) M = if xs.length + ys.length ≤ sizeLine then okR (.lst (xs ++ ys)) M else none := by simp [addF, D.lstV]
@[simp] theorem add_tup {xs ys : List D} {M : Sto} : addF (.tup xs) (.tup ys) M = if xs.length + ys.length ≤ sizeLine then okR (.tup (xs ++ ys)) M else none := by simp [addF]
@[simp] theorem add_int {i j : Int} {M : Sto} : addF (.int i) (.int j) M = okR (.int (i + j)) M := by simp [addF]
@[simp] theorem sub_int {i j : Int} {M : Sto} : subF (.int i) (.int j) M = okR (.int (i - j)) M := by simp [subF, intF]
@[simp] theorem lt_int {i j : Int} {M : Sto} : ltF (.int i) (.int j) M = okR (.bl (decide (i < j))) M := by simp [ltF, intF]
@[simp] theorem le_int {i j : Int} {M : Sto} : leF (.int i) (.int j) M = okR (.bl (decide (i ≤ j))) M := by simp [leF, intF]
@[simp] theorem gt_int {i j : Int} {M : Sto} : gtF (.int i) (.int j) M = okR (.bl (decide (j < i))) M := by simp [gtF, intF]
@[simp] theorem ge_int {i j : Int} {M : Sto} : geF (.int i) (.int j) M = okR (.bl (decide (j ≤ i))) M := by simp [geF, intF]
@[simp] theorem neg_int {i : Int} {M : Sto} : negF (.int i) M = okR (.int (-i)) M := rfl
@[simp] theorem mul_lst0 {a : D} {M : Sto} : mulF (.lst [a]) (.int 0) M = okR (.lst []) M := by simp [mulF, D.lstV, slE]
@[simp] theorem mul_lst1 {a : D} {M : Sto} : mulF (.lst [a]) (.int 1) M = okR (.lst [a]) M := by simp [mulF, D.lstV, slE]
@[simp] theorem toInt_bl {c : Bool} {M : Sto} : toIntF [.bl c] M = okR (.int (if c = true then 1 else 0)) M := by cases c <;> rfl
@[simp] theorem toInt_int {i : Int} {M : Sto} : toIntF [.int i] M = okR (.int i) M := rfl
theorem lawChoices_ok {p : Pn} {s : Sd} {M : Sto} : f__law_choices [encP p, encS s] M = okR (.lst ((chs p s).map encC)) M := by
  cases h1 : s.fills
  · by_cases h2 : s.since = p.apart
    · cases h3 : p.lies <;> simp [f__law_choices, g__law_choices, runD, encP, encS, ph_fills, eq_nat, slE, chs, h1, h2, h3, encC]
    · simp [f__law_choices, g__law_choices, runD, encP, encS, ph_fills, eq_nat, slE, chs, h1, h2, encC]
  · by_cases h2 : s.count = p.fill
    · cases h3 : p.slips <;> simp [f__law_choices, g__law_choices, runD, encP, encS, ph_fills, eq_nat, slE, chs, h1, h2, h3, encC]
    · simp [f__law_choices, g__law_choices, runD, encP, encS, ph_fills, eq_nat, slE, chs, h1, h2, encC]
theorem choicesOf_ok {p : Pn} {s : Sd} {M : Sto} (hs : s.Ok p) : f_choices_of [encP p, encS s] M = okR (.lst ((chs p s).map encC)) M := by
  have h0 := hs.snc
  cases h1 : s.fills
  · by_cases h2 : s.since = p.apart
    · cases h3 : p.lies <;> simp [f_choices_of, g_choices_of, runD, encP, encS, ph_fills, eq_nat, slE, chs, h1, h2, h3, encC]
    · have : (s.since : Int) < p.apart := by omega
      simp [f_choices_of, g_choices_of, runD, encP, encS, ph_fills, eq_nat, slE, chs, h1, h2, encC, this]
  · by_cases h2 : s.count = p.fill
    · cases h3 : p.slips <;> simp [f_choices_of, g_choices_of, runD, encP, encS, ph_fills, eq_nat, slE, chs, h1, h2, h3, encC]
    · cases h3 : p.slips <;> simp [f_choices_of, g_choices_of, runD, encP, encS, ph_fills, eq_nat, slE, chs, h1, h2, h3, encC]
end EB
/-! PC: a tick -/
namespace EB
open PySem PySem.Spec L2 DL
variable [inst : Pw]
def outW (p : Pn) (x : Int) : List Str := if x = -1 then [] else if x = -2 then ["lies"] else if x = 0 then ["empty"] else if x < p.need then ["half"] else if x = p.need then ["good"] else ["over"]
def encW (w : List Str) : D := .lst (w.map D.str)
theorem eq_int {i j : Int} {M : Sto} : eqF (.int i) (.int j) M = okR (.bl (decide (i = j))) M := by simp [eqF, eqR, D.scal]
theorem ne_int {i j : Int} {M : Sto} : neF (.int i) (.int j) M = okR (.bl (!decide (i = j))) M := by simp [neF, eqR, D.scal]
theorem wordOf_ok {p : Pn} {x : Int} {M : Sto} (hn : 1 ≤ p.need) : f_word_of [encP p, .int x] M = okR (encW (outW p x)) M := by
  by_cases h1 : x = -1
  · simp [f_word_of, g_word_of, runD, encP, eq_int, slE, outW, encW, h1]
  · by_cases h2 : x = -2
    · simp [f_word_of, g_word_of, runD, encP, eq_int, slE, outW, encW, h2]
    · by_cases h3 : x = 0
      · simp [f_word_of, g_word_of, runD, encP, eq_int, slE, outW, encW, h3]
      · by_cases h4 : x < p.need
        · simp [f_word_of, g_word_of, runD, encP, eq_int, slE, outW, encW, h1, h2, h3, h4]
        · by_cases h5 : x = p.need
          · have : p.need ≠ 0 := by omega
            simp [f_word_of, g_word_of, runD, encP, eq_int, slE, outW, encW, h5, this]
          · simp [f_word_of, g_word_of, runD, encP, eq_int, slE, outW, encW, h1, h2, h3, h4, h5]
theorem lawOut_ok {p : Pn} {x : Int} {M : Sto} (hn : 1 ≤ p.need) (hx : -2 ≤ x) : f__law_out [encP p, .int x] M = okR (encW (outW p x)) M := by
  by_cases h0 : x < 1
  · have : x = -2 ∨ x = -1 ∨ x = 0 := by omega
    rcases this with rfl | rfl | rfl <;> simp [f__law_out, g__law_out, runD, encP, slE, outW, encW, mkDic, keyD, dicGet]
  · have h1 : ¬ x = -1 := by omega
    have h2 : ¬ x = -2 := by omega
    have h3 : ¬ x = 0 := by omega
    by_cases h5 : x = p.need
    · have h4 : ¬ ((p.need : Int) < 1) := by omega
      have : p.need ≠ 0 := by omega
      simp [f__law_out, g__law_out, runD, encP, eq_int, slE, outW, encW, h5, h4, this]
    · by_cases h4 : x < p.need <;> simp [f__law_out, g__law_out, runD, encP, eq_int, slE, outW, encW, h0, h1, h2, h3, h4, h5]
/-- a place of the belt -/
def gt (l : List Int) (n : Nat) : Int := l.getD n (-1)
def cm : Nat → Int
  | 0 => -1
  | 1 => 0
  | _ => -2
/-- a bottle under the tap after a tick -/
def up (p : Pn) (x : Int) : Int := min (p.need + 1) (x + 1)
/-- one tick -/
def tickM (p : Pn) (s : Sd) (c : Ch) : Sd × List Str :=
  if s.fills then
    let pl := if c.2 then -1 :: s.places.dropLast else s.places
    let w := if c.2 then outW p (s.places.getLastD (-1)) else []
    if 0 ≤ gt pl p.tap then (⟨pl.set p.tap (up p (gt pl p.tap)), decide (1 < s.count), s.count - 1, s.mem, s.since⟩, w)
    else (⟨pl, decide (1 < s.count), s.count - 1, s.mem, s.since⟩, sortS (w ++ [("spills" : Str)]))
  else
    let pl := cm c.1 :: s.places.dropLast
    let news := s.mem ++ [decide (0 ≤ gt pl p.eye)]
    let since := if c.1 = 0 then min p.apart (s.since + 1) else 0
    (⟨pl, news.headD false, if news.headD false then p.fill else 0, news.tail, since⟩, outW p (s.places.getLastD (-1)))
/-! ### lists -/
theorem ix_last {l : List D} {x : D} {M : Sto} : subIx (.tup (l ++ [x])) (.int (-1)) M = okR x M := by simp [subIx, atI_last]
theorem ix_nat {l : List Int} {n : Nat} {M : Sto} (h : n < l.length) : subIx (.tup (l.map D.int)) (.int n) M = okR (.int (gt l n)) M := by
  refine ixN ?_
  simp [h, gt]
theorem sIx_n (n d k : Nat) : HT.sIx n d (some (k : Int)) = min k n := HT.sIx_nat n d k
theorem cut_take {l : List D} {n : Nat} (h : n ≤ l.length) : cutD l none (some (n : Int)) = l.take n := by
  unfold cutD
  rw [HT.sIx_none, sIx_n]
  simp [Nat.min_eq_left h]
theorem cut_drop {l : List D} {n : Nat} : cutD l (some (n : Int)) none = l.drop n := by
  unfold cutD
  rw [HT.sIx_none, sIx_n]
  rw [List.take_of_length_le (by simp)]
  by_cases h : n ≤ l.length
  · rw [Nat.min_eq_left h]
  · rw [Nat.min_eq_right (by omega), List.drop_of_length_le (Nat.le_refl _), List.drop_of_length_le (by omega)]
theorem cut_init {l : List D} {x : D} : cutD (l ++ [x]) none (some (-1)) = l := by
  have e : (-1 + ((l.length : Int) + 1)).toNat = l.length := by omega
  unfold cutD HT.sIx
  simp [e]
theorem cut_tail {l : List D} {x : D} : cutD (x :: l) (some 1) none = l := by
  have := cut_drop (l := x :: l) (n := 1)
  simpa using this
@[simp] theorem sl_tup {l : List D} {lo hi : Option Int} {M : Sto} : slF (.tup l) lo hi M = okR (.tup (cutD l lo hi)) M := rfl
@[simp] theorem sl_lst {l : List D} {lo hi : Option Int} {M : Sto} : slF (.lst l) lo hi M = okR (.lst (cutD l lo hi)) M := rfl
theorem strsOf_map : ∀ w : List Str, strsOf (w.map D.str) = some w
  | [] => rfl
  | a :: w => by simp [strsOf, strsOf_map w]
theorem sorted_ok {w : List Str} {M : Sto} (h : w.length < 64) : sortedF [encW w] M = okR (encW (sortS w)) M := by
  simp [sortedF, encW, D.seqV, D.lstV, strsOf_map, h]
theorem outW_sort {p : Pn} {x : Int} : sortS (outW p x) = outW p x := by
  unfold outW
  repeat' split
  all_goals rfl
theorem outW_len {p : Pn} {x : Int} : (outW p x).length ≤ 1 := by
  unfold outW
  repeat' split
  all_goals simp
theorem cm_ix {c : Nat} {M : Sto} (h : c ≤ 2) : subIx (.tup [.int (-1), .int 0, .int (-2)]) (.int c) M = okR (.int (cm c)) M := by
  have : c = 0 ∨ c = 1 ∨ c = 2 := by omega
  rcases this with rfl | rfl | rfl <;> rfl
theorem min_int {i j : Int} {M : Sto} : minF [.int i, .int j] M = okR (.int (min i j)) M := by
  simp [minF]
  split <;> omega
theorem last_split {l : List Int} (h : 0 < l.length) : ∃ ini la, l = ini ++ [la] := by
  have hne : l ≠ [] := by
    intro e
    simp [e] at h
  exact ⟨l.dropLast, l.getLast hne, (List.dropLast_concat_getLast hne).symm⟩
theorem set_cut {l : List D} {n : Nat} {x : D} (h : n < l.length) : l.take n ++ [x] ++ l.drop (n + 1) = l.set n x := by
  rw [List.set_eq_take_append_cons_drop, if_pos h]
  simp
theorem ran_ok {p : Pn} {s : Sd} {c : Ch} {M : Sto} (hp : p.Ok) (hs : s.Ok p) (hf : s.fills = false) (hc : c.1 ≤ 2) :
    f_ran [encP p, encS s, .int c.1] M = okR (.tup [encS (tickM p s c).1, encW (tickM p s c).2]) M := by
  have h1 := hs.len
  have b1 := hp.b1; have b2 := hp.b2; have e1 := hp.e1; have t1 := hp.t1; have l1 := hp.l1; have m1 := hs.mem
  obtain ⟨ini, la, hl⟩ := last_split (l := s.places) (by omega)
  have hil : ini.length + 1 = p.belt := by rw [← h1, hl]; simp
  generalize hpl : cm c.1 :: ini = pl
  have hpll : pl.length = p.belt := by rw [← hpl]; simpa using hil
  obtain ⟨hh, tt, hnew⟩ : ∃ hh tt, s.mem ++ [decide (0 ≤ gt pl p.eye)] = hh :: tt := by
    cases q : s.mem ++ [decide (0 ≤ gt pl p.eye)] with
    | nil => simp at q
    | cons a r => exact ⟨a, r, rfl⟩
  have htl : tt.length = p.lag := by
    have := congrArg List.length hnew
    simp at this
    omega
  have em : s.mem.map D.bl ++ [D.bl (decide (0 ≤ gt pl p.eye))] = D.bl hh :: tt.map D.bl := by
    have := congrArg (List.map D.bl) hnew
    simpa using this
  have epl : D.int (cm c.1) :: ini.map D.int = pl.map D.int := by rw [← hpl]; rfl
  have hix : subIx (.tup (pl.map D.int)) (.int p.eye) M = okR (.int (gt pl p.eye)) M := ix_nat (by omega)
  have htm : tickM p s c = (⟨pl, hh, if hh then p.fill else 0, tt, if c.1 = 0 then min p.apart (s.since + 1) else 0⟩, outW p la) := by
    simp only [tickM, hf, hl]
    simp only [Bool.false_eq_true, if_false, List.dropLast_concat, hpl]
    simp [hnew]
  rw [htm]
  have hpc : (c.1 : Int) > 0 ↔ ¬ c.1 = 0 := by omega
  have hmin : min (p.apart : Int) ((s.since : Int) + 1) = ((min p.apart (s.since + 1) : Nat) : Int) := by omega
  have epl' : D.int (cm c.1) :: ini.map D.int = pl.map D.int := epl
  have hw := wordOf_ok (p := p) (x := la) (M := M) hp.n1
  simp only [encP] at hw
  have hix' : ∀ M, subIx (.tup (pl.map D.int)) (.int p.eye) M = okR (.int (gt pl p.eye)) M := fun M => ix_nat (by omega)
  have hil2 : ini.length + 1 ≤ 16777216 := by omega
  have hml : s.mem.length + 1 ≤ 16777216 := by omega
  have hil3 : 1 + ini.length ≤ 16777216 := by omega
  simp [f_ran, g_ran, runD]
  simp only [encP, encS, hl, List.map_append, List.map_cons, List.map_nil]
  by_cases hz : c.1 = 0
  · have epl0 : D.int (-1) :: ini.map D.int = pl.map D.int := by simpa [hz, cm] using epl
    cases hh <;> simp [slE, ix_last, hw, hz, cut_init, cut_tail, epl0, hix', em, min_int, hmin, hml, hil2, hil3, phase]
  · have q : ∀ M, subIx (.tup [.int (-1), .int 0, .int (-2)]) (.int (c.1 : Int)) M = okR (.int (cm c.1)) M := fun M => cm_ix hc
    have hpos : (0 : Int) < c.1 := by omega
    cases hh <;> simp [slE, ix_last, hw, hz, hpos, q, cut_init, cut_tail, epl, hix', em, min_int, hmin, hml, hil2, hil3, phase]
theorem sort_spill {w : List Str} : sortS (w ++ [("spills" : Str)]) = sortS (w ++ [("spills" : Str)]) := rfl
theorem min_up {p : Pn} {x : Int} {M : Sto} : minF [.int (p.need + 1), .int (x + 1)] M = okR (.int (up p x)) M := min_int
theorem set_ok {l : List Int} {n : Nat} {x : Int} (h : n < l.length) : (l.map D.int).take n ++ D.int x :: (l.map D.int).drop (n + 1) = (l.set n x).map D.int := by
  rw [List.map_set, List.set_eq_take_append_cons_drop, if_pos (by simpa using h)]
theorem filled_ok {p : Pn} {s : Sd} {c : Ch} {M : Sto} (hp : p.Ok) (hs : s.Ok p) (hf : s.fills = true) :
    ∃ w, f_filled [encP p, encS s, .bl c.2] M = okR (.tup [encS (tickM p s c).1, encW w]) M ∧ sortS w = (tickM p s c).2 ∧ w.length ≤ 2 := by
  have h1 := hs.len
  have b1 := hp.b1; have b2 := hp.b2; have e1 := hp.e1; have t1 := hp.t1; have l1 := hp.l1; have m1 := hs.mem
  have hcnt := hs.cnt
  simp only [hf, if_true] at hcnt
  obtain ⟨ini, la, hl⟩ := last_split (l := s.places) (by omega)
  have hil : ini.length + 1 = p.belt := by rw [← h1, hl]; simp
  have hw := wordOf_ok (p := p) (x := la) (M := M) hp.n1
  simp only [encP] at hw
  have hil2 : ini.length + 1 ≤ 16777216 := by omega
  have hil3 : 1 + ini.length ≤ 16777216 := by omega
  have hcnt1 : ((s.count : Int) - 1) = ((s.count - 1 : Nat) : Int) := by omega
  have hph : (if 1 < s.count then (okR (.str "fills")) else (okR (.str "runs"))) = fun M => okR (phase (decide (1 < s.count))) M := by
    by_cases q : 1 < s.count <;> simp [phase, q] <;> rfl
  have hph2 : (1 : Int) < s.count ↔ 1 < s.count := by omega
  have key : ∀ (pl : List Int) (ww : List Str), pl.length = p.belt → ww.length ≤ 1 → sortS ww = ww →
      (∀ M, subIx (.tup (pl.map D.int)) (.int p.tap) M = okR (.int (gt pl p.tap)) M) ∧ cutD (pl.map D.int) none (some (p.tap : Int)) = (pl.map D.int).take p.tap ∧
      cutD (pl.map D.int) (some ((p.tap + 1 : Int))) none = (pl.map D.int).drop (p.tap + 1) ∧
      (((pl.map D.int).take p.tap ++ D.int (up p (gt pl p.tap)) :: (pl.map D.int).drop (p.tap + 1)) = (pl.set p.tap (up p (gt pl p.tap))).map D.int) := by
    intro pl ww h _ _
    refine ⟨fun M => ix_nat (by omega), cut_take (by simp; omega), ?_, set_ok (by omega)⟩
    have := cut_drop (l := pl.map D.int) (n := p.tap + 1)
    simpa using this
  have z1 : min p.tap (ini.length + 1) ≤ 16777215 := by omega
  have z2 : min p.tap (ini.length + 1) + 1 + (ini.length - p.tap) ≤ 16777216 := by omega
  have z3 : min p.tap (ini.length + 1) + 1 + (ini.length + 1 - (p.tap + 1)) ≤ 16777216 := by omega
  cases hc : c.2
  · obtain ⟨k1, k2, k3, k4⟩ := key (ini ++ [la]) [] (by simp; omega) (by simp) rfl
    simp only [List.map_append, List.map_cons, List.map_nil] at k1 k2 k3 k4
    by_cases hg : 0 ≤ gt (ini ++ [la]) p.tap
    · refine ⟨[], ?_, ?_, by simp⟩
      · have e : (tickM p s c).1 = ⟨(ini ++ [la]).set p.tap (up p (gt (ini ++ [la]) p.tap)), decide (1 < s.count), s.count - 1, s.mem, s.since⟩ := by simp [tickM, hf, hc, hl, hg]
        rw [e]
        simp [f_filled, g_filled, runD]
        by_cases q : 1 < s.count <;> simp [encP, encS, slE, hl, k1, k2, k3, k4, hg, min_up, hcnt1, hph2, q, phase, encW, z1, z2, z3]
      · simp [tickM, hf, hc, hl, hg]
        rfl
    · refine ⟨[("spills" : Str)], ?_, ?_, by simp⟩
      · have e : (tickM p s c).1 = ⟨ini ++ [la], decide (1 < s.count), s.count - 1, s.mem, s.since⟩ := by simp [tickM, hf, hc, hl, hg]
        rw [e]
        simp [f_filled, g_filled, runD]
        by_cases q : 1 < s.count <;> simp [encP, encS, slE, hl, k1, k2, k3, k4, hg, min_up, hcnt1, hph2, q, phase, encW, z1, z2, z3]
      · simp [tickM, hf, hc, hl, hg]
  · obtain ⟨k1, k2, k3, k4⟩ := key (-1 :: ini) (outW p la) (by simp; omega) outW_len outW_sort
    simp only [List.map_append, List.map_cons, List.map_nil] at k1 k2 k3 k4
    have k5 : ∀ M, subIx (.tup (D.int (-1) :: (ini.map D.int))) (.int p.tap) M = okR (.int (gt (-1 :: ini) p.tap)) M := k1
    by_cases hg : 0 ≤ gt (-1 :: ini) p.tap
    · refine ⟨outW p la, ?_, ?_, by have := outW_len (p := p) (x := la); omega⟩
      · have e : (tickM p s c).1 = ⟨(-1 :: ini).set p.tap (up p (gt (-1 :: ini) p.tap)), decide (1 < s.count), s.count - 1, s.mem, s.since⟩ := by simp [tickM, hf, hc, hl, hg]
        rw [e]
        simp [f_filled, g_filled, runD]
        by_cases q : 1 < s.count <;> (simp [encP, encS, slE, hl, ix_last, hw, cut_init, hil3, k1, k2, k3, k4, hg, min_up, hcnt1, hph2, q, phase, z1, z2, z3]; simpa using k4)
      · simp [tickM, hf, hc, hl, hg, outW_sort]
    · refine ⟨outW p la ++ [("spills" : Str)], ?_, ?_, ?_⟩
      · have e : (tickM p s c).1 = ⟨-1 :: ini, decide (1 < s.count), s.count - 1, s.mem, s.since⟩ := by simp [tickM, hf, hc, hl, hg]
        have hol : (outW p la).length + 1 ≤ 16777216 := by have := outW_len (p := p) (x := la); omega
        rw [e]
        simp [f_filled, g_filled, runD]
        by_cases q : 1 < s.count <;> simp [encP, encS, slE, hl, ix_last, hw, cut_init, hil3, k1, k2, k3, k4, hg, min_up, hcnt1, hph2, q, phase, z1, z2, z3, encW, hol]
      · simp [tickM, hf, hc, hl, hg]
      · have := outW_len (p := p) (x := la)
        simp
        omega
theorem passed_ok {p : Pn} {s : Sd} {c : Ch} {M : Sto} (hp : p.Ok) (hs : s.Ok p) (hc : c.1 ≤ 2) :
    f_passed [encP p, encS s, encC c] M = okR (.tup [encS (tickM p s c).1, encW (tickM p s c).2]) M := by
  cases hf : s.fills
  · have hr := ran_ok (M := M) hp hs hf hc
    have hl : (tickM p s c).2.length < 64 := by
      have : (tickM p s c).2 = outW p (s.places.getLastD (-1)) := by simp [tickM, hf]
      rw [this]
      exact Nat.lt_of_le_of_lt outW_len (by omega)
    have hso := sorted_ok (M := M) hl
    have hsr : sortS (tickM p s c).2 = (tickM p s c).2 := by simp [tickM, hf, outW_sort]
    rw [hsr] at hso
    simp [f_passed, g_passed, runD]
    generalize tickM p s c = r at hr hso
    have hph : phase s.fills = .str "runs" := by simp [phase, hf]
    have hru : subIx (encS s) (.int 1) M = okR (phase s.fills) M := rfl
    have hc0 : subIx (encC c) (.int 0) M = okR (.int c.1) M := rfl
    simp [hr, hso, hru, ph_runs, hc0, hf, slE]
  · obtain ⟨w, hr, hw, hwl⟩ := filled_ok (M := M) (c := c) hp hs hf
    have hso := sorted_ok (M := M) (w := w) (by omega)
    rw [hw] at hso
    simp [f_passed, g_passed, runD]
    generalize tickM p s c = r at hr hso
    have hph : phase s.fills = .str "fills" := by simp [phase, hf]
    have hru : subIx (encS s) (.int 1) M = okR (phase s.fills) M := rfl
    have hc1 : subIx (encC c) (.int 1) M = okR (.bl c.2) M := rfl
    simp [hr, hso, hru, ph_runs, hc1, hf, slE]
end EB
/-! PD: the law's own tick -/
namespace EB
open PySem PySem.Spec L2 DL
variable [inst : Pw]
theorem sg_at {M G : Sto} {n : Nat} : (M ++ G)[M.length + n]? = G[n]? := by
  rw [List.getElem?_append_right (by omega)]
  congr 1
  omega
theorem sg_at0 {M G : Sto} : (M ++ G)[M.length]? = G[0]? := sg_at (n := 0)
theorem sg_set {M G : Sto} {n : Nat} {x : CO} : (M ++ G).set (M.length + n) x = M ++ G.set n x := by
  rw [List.set_append_right _ _ (by omega)]
  congr 2
  omega
theorem sg_set0 {M G : Sto} {x : CO} : (M ++ G).set M.length x = M ++ G.set 0 x := sg_set (n := 0)
theorem cel_ix {n : Nat} {i : Int} {M : Sto} : subIx (.cel n) (.int i) M = match M[n]? with
    | some (.lst ds) => (atI ds i).map (.ok · M)
    | _ => none := by
  simp only [subIx, D.seqV, D.lstV]
  cases M[n]? with
  | none => rfl
  | some c => cases c <;> rfl
theorem lst_ix {ds : List D} {i : Int} {M : Sto} : subIx (.lst ds) (.int i) M = (atI ds i).map (.ok · M) := rfl
theorem cel_lst {n : Nat} {M : Sto} : (D.cel n).lstV M = match M[n]? with
    | some (.lst ds) => some ds
    | _ => none := rfl
theorem cel_sl {n : Nat} {lo hi : Option Int} {M : Sto} : slF (.cel n) lo hi M = match M[n]? with
    | some (.lst ds) => okR (.lst (cutD ds lo hi)) M
    | _ => none := by
  simp only [slF, D.seqV, D.lstV]
  cases M[n]? with
  | none => rfl
  | some c => cases c <;> rfl
theorem cel_tup {n : Nat} {M : Sto} : tupleF [.cel n] M = match M[n]? with
    | some (.lst ds) => okR (.tup ds) M
    | _ => none := by
  simp only [tupleF, D.seqV, D.lstV]
  cases M[n]? with
  | none => rfl
  | some c => cases c <;> rfl
theorem at_nat {l : List Int} {n : Nat} (h : n < l.length) : atI (l.map D.int) (n : Int) = some (.int (gt l n)) := by
  have := ix_nat (M := []) h
  simp only [subIx] at this
  cases e : atI (l.map D.int) (n : Int) with
  | none => rw [e] at this; cases this
  | some x => rw [e] at this; cases this; rfl
theorem at_ixN {n : Nat} {m : Nat} (h : m < n) : L2.ixN n (m : Int) = some m := by
  unfold L2.ixN
  simp [h]
theorem listC_tup {l : List D} {M : Sto} : listCF [.tup l] M = okR (.cel M.length) (M ++ [.lst l]) := rfl
theorem list_tup {l : List D} {M : Sto} : listF [.tup l] M = okR (.lst l) M := rfl
theorem list_lst {l : List D} {M : Sto} : listF [.lst l] M = okR (.lst l) M := rfl
theorem tuple_lst {l : List D} {M : Sto} : tupleF [.lst l] M = okR (.tup l) M := rfl
theorem eq_str {a b : Str} {M : Sto} : eqF (.str a) (.str b) M = okR (.bl (decide (a = b))) M := by simp [eqF, eqR, D.scal]
theorem st_fr : ¬ ("fills" : Str) = ("runs" : Str) := by decide +kernel
theorem st_rf : ¬ ("runs" : Str) = ("fills" : Str) := by decide +kernel
theorem lst_lst {l : List D} {M : Sto} : (D.lst l).lstV M = some l := rfl
theorem at_last {l : List D} {x : D} : atI (l ++ [x]) (-1) = some x := atI_last _ _
theorem addC_ok {a b : D} {xs ys : List D} {M : Sto} (h : a.lstV M = some xs) (h' : b.lstV M = some ys) (hl : xs.length + ys.length ≤ sizeLine) : addCF a b M = okR (.cel M.length) (M ++ [.lst (xs ++ ys)]) := by
  simp [addCF, h, h', hl]
theorem gt_mem {l : List Int} {n : Nat} (h : n < l.length) : gt l n ∈ l := by
  unfold gt
  rw [List.getD_eq_getElem?_getD, List.getElem?_eq_getElem h]
  exact List.getElem_mem h
theorem up_if {p : Pn} {x : Int} (h : x ≤ p.need + 1) : D.int (x + if x ≤ (p.need : Int) then 1 else 0) = D.int (up p x) := by
  unfold up
  congr 1
  split <;> omega
theorem at_zero {a : D} {l : List D} : atI (a :: l) 0 = some a := by simp [atI, L2.ixN]
theorem lawTick_ok {p : Pn} {s : Sd} {c : Ch} {M : Sto} (hp : p.Ok) (hs : s.Ok p) (hc : c.1 ≤ 2) (hc' : c.2 = true → c.1 = 0) :
    ∃ G, f__law_tick [encP p, encS s, encC c] M = okR (.tup [encS (tickM p s c).1, encW (tickM p s c).2]) (M ++ G) := by
  have h1 := hs.len
  have b1 := hp.b1; have b2 := hp.b2; have e1 := hp.e1; have t1 := hp.t1; have l1 := hp.l1; have m1 := hs.mem
  have hcnt := hs.cnt
  obtain ⟨ini, la, hl⟩ := last_split (l := s.places) (by omega)
  have hil : ini.length + 1 = p.belt := by rw [← h1, hl]; simp
  have hla : -2 ≤ la := by
    have := hs.rng la (by rw [hl]; simp)
    split at this <;> omega
  have hw : ∀ M, f__law_out [encP p, .int la] M = okR (encW (outW p la)) M := fun M => lawOut_ok hp.n1 hla
  simp only [encP] at hw
  have hso : ∀ w : List Str, w.length < 64 → ∀ M, sortedF [D.lst (w.map D.str)] M = okR (encW (sortS w)) M := fun w h M => sorted_ok h
  have hso1 : ∀ M, sortedF [D.lst [D.str (Str.ofString "spills")]] M = okR (encW (sortS ["spills"])) M := fun M => sorted_ok (w := ["spills"]) (by simp)
  have hil3 : 1 + ini.length ≤ 16777216 := by omega
  have hol : (outW p la).length ≤ 1 := outW_len
  have hol2 : (outW p la).length ≤ 16777215 := by omega
  have hso2 : ∀ M, sortedF [D.lst ((outW p la).map D.str ++ [D.str (Str.ofString "spills")])] M = okR (encW (sortS (outW p la ++ [("spills" : Str)]))) M := fun M => by
    have := sorted_ok (w := outW p la ++ [("spills" : Str)]) (M := M) (by simp; omega)
    simpa [encW] using this
  cases hf : s.fills
  · have hb : ((p.belt : Int) - 1) = ((ini.length : Nat) : Int) := by omega
    have hcu : cutD (ini.map D.int ++ [D.int la]) none (some (ini.length : Int)) = ini.map D.int := by
      rw [cut_take (by simp)]
      rw [List.take_left' (by simp)]
    have hcm : atI [D.int (-1), D.int 0, D.int (-2)] (c.1 : Int) = some (.int (cm c.1)) := by
      have : c.1 = 0 ∨ c.1 = 1 ∨ c.1 = 2 := by omega
      rcases this with h | h | h <;> rw [h] <;> rfl
    have k1 : atI (D.int (cm c.1) :: ini.map D.int) (p.eye : Int) = some (.int (gt (cm c.1 :: ini) p.eye)) := at_nat (l := cm c.1 :: ini) (by simp; omega)
    have hgt : (-1 < gt (cm c.1 :: ini) p.eye) ↔ (0 ≤ gt (cm c.1 :: ini) p.eye) := by omega
    obtain ⟨hh, tt, hnew⟩ : ∃ hh tt, s.mem ++ [decide (0 ≤ gt (cm c.1 :: ini) p.eye)] = hh :: tt := by
      cases q : s.mem ++ [decide (0 ≤ gt (cm c.1 :: ini) p.eye)] with
      | nil => simp at q
      | cons a r => exact ⟨a, r, rfl⟩
    have em : s.mem.map D.bl ++ [D.bl (decide (0 ≤ gt (cm c.1 :: ini) p.eye))] = D.bl hh :: tt.map D.bl := by
      have := congrArg (List.map D.bl) hnew
      simpa using this
    have e : tickM p s c = (⟨cm c.1 :: ini, hh, if hh then p.fill else 0, tt, if c.1 = 0 then min p.apart (s.since + 1) else 0⟩, outW p la) := by
      simp [tickM, hf, hl, hnew]
    have hsn : ((s.since : Int) + (if s.since < p.apart then 1 else 0)) = ((min p.apart (s.since + 1) : Nat) : Int) := by
      have := hs.snc
      split <;> omega
    have hml : s.mem.length + 1 ≤ 16777216 := by omega
    have hcz : ((c.1 : Int) = 0) ↔ c.1 = 0 := by omega
    rw [e]
    simp only [f__law_tick, g__law_tick, runD]
    simp only [encS, hl, List.map_append, List.map_cons, List.map_nil]
    simp [encP, encC, encW, hf, phase, slE, listC_tup, list_tup, tuple_lst, eq_str, st_fr, st_rf, cel_ix, sg_at, sg_at0, sg_set, sg_set0, at_last, hw, hb, cel_sl, hcu, addCF, lst_lst, lst_ix, k1, hcm, cel_tup, eq_int, hil, hil3, cel_lst, hgt, em, hml, ne_int, hcz]
    by_cases z : c.1 = 0 <;> cases hh <;> simp [z, hsn, lst_ix, at_zero, cel_sl, slE, sl_lst, cel_tup, sg_at, tuple_lst, cut_tail] <;> exact ⟨_, rfl⟩
  · simp only [hf, if_true] at hcnt
    have hc1 : ((s.count : Int) - 1) = ((s.count - 1 : Nat) : Int) := by omega
    obtain ⟨fl, hfl, hq, hq'⟩ : ∃ fl, decide (1 < s.count) = fl ∧ (((s.count : Int) = 1) ↔ fl = false) ∧ (s.count = 1 ↔ fl = false) := by
      refine ⟨_, rfl, ?_, ?_⟩ <;> simp only [decide_eq_false_iff_not] <;> omega
    cases hc2 : c.2
    · have k1 := at_nat (l := s.places) (n := p.tap) (by omega)
      have k2 : L2.ixN s.places.length (p.tap : Int) = some p.tap := at_ixN (by omega)
      have hgm : gt s.places p.tap ≤ p.need + 1 := (hs.rng _ (gt_mem (by omega))).2
      have hup := up_if hgm
      by_cases hg : 0 ≤ gt s.places p.tap
      · have hg' : -1 < gt s.places p.tap := by omega
        have e : tickM p s c = (⟨s.places.set p.tap (up p (gt s.places p.tap)), fl, s.count - 1, s.mem, s.since⟩, []) := by simp only [tickM, hfl]; simp [hf, hc2, hg]
        rw [e]
        · simp only [f__law_tick, g__law_tick, runD]
          simp [encP, encS, encC, encW, hf, hc2, phase, slE, listC_tup, eq_str, st_fr, st_rf, cel_ix, sg_at, sg_at0, sg_set, sg_set0, k1, hg, hg', gSubT, k2, hup, cel_tup, hc1, eq_int, hq, hq']
          cases fl <;> simp [cel_tup, sg_at0, sg_at, hc1, hil3, hol2] <;> exact ⟨_, rfl⟩
      · have hg' : ¬ -1 < gt s.places p.tap := by omega
        have e : tickM p s c = (⟨s.places, fl, s.count - 1, s.mem, s.since⟩, sortS ["spills"]) := by simp only [tickM, hfl]; simp [hf, hc2, hg]
        rw [e]
        · simp only [f__law_tick, g__law_tick, runD]
          simp [encP, encS, encC, encW, hf, hc2, phase, slE, listC_tup, eq_str, st_fr, st_rf, cel_ix, sg_at, sg_at0, sg_set, sg_set0, k1, hg, hg', gSubT, k2, hup, cel_tup, hc1, eq_int, hq, hq', hso1]
          cases fl <;> simp [cel_tup, sg_at0, sg_at, hc1, hil3, hol2] <;> exact ⟨_, rfl⟩
    · have hcz := hc' hc2
      have hb : ((p.belt : Int) - 1) = ((ini.length : Nat) : Int) := by omega
      have hcu : cutD (ini.map D.int ++ [D.int la]) none (some (ini.length : Int)) = ini.map D.int := by
        rw [cut_take (by simp)]
        rw [List.take_left' (by simp)]
      have k1 : atI (D.int (-1) :: ini.map D.int) (p.tap : Int) = some (.int (gt (-1 :: ini) p.tap)) := at_nat (l := -1 :: ini) (by simp; omega)
      have k2 : L2.ixN (ini.length + 1) (p.tap : Int) = some p.tap := at_ixN (by omega)
      have k3 : ∀ z : D, (D.int (-1) :: ini.map D.int).set p.tap z = (D.int (-1) :: ini.map D.int).set p.tap z := fun _ => rfl
      have hgm : gt (-1 :: ini) p.tap ≤ p.need + 1 := by
        have : gt (-1 :: ini) p.tap ∈ -1 :: ini := gt_mem (by simp; omega)
        rcases List.mem_cons.mp this with h | h
        · rw [h]; omega
        · exact (hs.rng _ (by rw [hl]; simp [h])).2
      have hup := up_if hgm
      by_cases hg : 0 ≤ gt (-1 :: ini) p.tap
      · have hg' : -1 < gt (-1 :: ini) p.tap := by omega
        have e : tickM p s c = (⟨(-1 :: ini).set p.tap (up p (gt (-1 :: ini) p.tap)), fl, s.count - 1, s.mem, s.since⟩, outW p la) := by simp only [tickM, hfl]; simp [hf, hc2, hg, hl]
        rw [e]
        · simp only [f__law_tick, g__law_tick, runD]
          simp only [encS, hl, List.map_append, List.map_cons, List.map_nil]
          simp [encP, encC, encW, hf, hc2, hcz, phase, at_zero, hil3, cel_lst, slE, listC_tup, eq_str, st_fr, st_rf, cel_ix, sg_at, sg_at0, sg_set, sg_set0, at_last, hw, hb, cel_sl, hcu, addCF, lst_lst, lst_ix, k1, hg, hg', gSubT, k2, hup, cel_tup, hc1, eq_int, hq, hq']
          cases fl <;> simp [cel_tup, sg_at0, sg_at, hc1, hil3, hol2] <;> exact ⟨_, rfl⟩
      · have hg' : ¬ -1 < gt (-1 :: ini) p.tap := by omega
        have e : tickM p s c = (⟨-1 :: ini, fl, s.count - 1, s.mem, s.since⟩, sortS (outW p la ++ [("spills" : Str)])) := by simp only [tickM, hfl]; simp [hf, hc2, hg, hl]
        rw [e]
        · simp only [f__law_tick, g__law_tick, runD]
          simp only [encS, hl, List.map_append, List.map_cons, List.map_nil]
          simp [encP, encC, encW, hf, hc2, hcz, phase, at_zero, hil3, cel_lst, slE, listC_tup, eq_str, st_fr, st_rf, cel_ix, sg_at, sg_at0, sg_set, sg_set0, at_last, hw, hb, cel_sl, hcu, addCF, lst_lst, lst_ix, k1, hg, hg', gSubT, k2, hup, cel_tup, hc1, eq_int, hq, hq', hso2]
          cases fl <;> simp [cel_tup, sg_at0, sg_at, hc1, hil3, hol2] <;> exact ⟨_, rfl⟩
theorem tick_ok {p : Pn} {s : Sd} {c : Ch} (hp : p.Ok) (hs : s.Ok p) (hc : c ∈ chs p s) : (tickM p s c).1.Ok p := by
  have h1 := hs.len
  have b1 := hp.b1; have b2 := hp.b2; have e1 := hp.e1; have t1 := hp.t1; have l1 := hp.l1; have m1 := hs.mem; have f1 := hp.f1; have n1 := hp.n1
  have hcnt := hs.cnt
  obtain ⟨ini, la, hl⟩ := last_split (l := s.places) (by omega)
  have hil : ini.length + 1 = p.belt := by rw [← h1, hl]; simp
  have hr : ∀ x ∈ ini, (if p.lies then -2 else -1) ≤ x ∧ x ≤ p.need + 1 := fun x hx => hs.rng x (by rw [hl]; simp [hx])
  have hm1 : (if p.lies then (-2 : Int) else -1) ≤ -1 := by split <;> omega
  cases hf : s.fills
  · obtain ⟨hh, tt, hnew⟩ : ∃ hh tt, s.mem ++ [decide (0 ≤ gt (cm c.1 :: ini) p.eye)] = hh :: tt := by
      cases q : s.mem ++ [decide (0 ≤ gt (cm c.1 :: ini) p.eye)] with
      | nil => simp at q
      | cons a r => exact ⟨a, r, rfl⟩
    have htl : tt.length = p.lag := by
      have := congrArg List.length hnew
      simp at this
      omega
    have e : tickM p s c = (⟨cm c.1 :: ini, hh, if hh then p.fill else 0, tt, if c.1 = 0 then min p.apart (s.since + 1) else 0⟩, outW p la) := by
      simp [tickM, hf, hl, hnew]
    rw [e]
    refine ⟨by simpa using hil, ?_, ?_, htl, ?_⟩
    · intro x hx
      rcases List.mem_cons.mp hx with h | h
      · have : c.1 = 0 ∨ c.1 = 1 ∨ c.1 = 2 ∧ p.lies = true := by
          unfold chs at hc
          simp only [hf, Bool.false_eq_true, if_false] at hc
          split at hc
          · split at hc
            · rename_i q
              simp only [List.mem_cons, List.not_mem_nil, or_false] at hc
              rcases hc with h | h | h <;> rw [h]
              · exact .inl rfl
              · exact .inr (.inl rfl)
              · exact .inr (.inr ⟨rfl, q⟩)
            · simp only [List.mem_cons, List.not_mem_nil, or_false] at hc
              rcases hc with h | h <;> rw [h]
              · exact .inl rfl
              · exact .inr (.inl rfl)
          · simp only [List.mem_cons, List.not_mem_nil, or_false] at hc
            rw [hc]
            exact .inl rfl
        rcases this with h' | h' | ⟨h', h''⟩
        · rw [h, h']
          exact ⟨hm1, by show (-1 : Int) ≤ _; omega⟩
        · rw [h, h']
          exact ⟨by show _ ≤ (0 : Int); omega, by show (0 : Int) ≤ _; omega⟩
        · rw [h, h', if_pos h'']
          exact ⟨by show (-2 : Int) ≤ -2; omega, by show (-2 : Int) ≤ _; omega⟩
      · exact hr x h
    · cases hh <;> simp
      exact f1
    · show (if c.1 = 0 then min p.apart (s.since + 1) else 0) ≤ p.apart
      split <;> omega
  · simp only [hf, if_true] at hcnt
    have hcn : if decide (1 < s.count) = true then 1 ≤ s.count - 1 ∧ s.count - 1 ≤ p.fill else s.count - 1 = 0 := by
      split
      · rename_i q
        have := of_decide_eq_true q
        omega
      · rename_i q
        have : ¬ 1 < s.count := fun h => q (decide_eq_true h)
        omega
    have key : ∀ pl : List Int, pl.length = p.belt → (∀ x ∈ pl, (if p.lies then -2 else -1) ≤ x ∧ x ≤ p.need + 1) →
        (⟨pl, decide (1 < s.count), s.count - 1, s.mem, s.since⟩ : Sd).Ok p ∧ (0 ≤ gt pl p.tap → (⟨pl.set p.tap (up p (gt pl p.tap)), decide (1 < s.count), s.count - 1, s.mem, s.since⟩ : Sd).Ok p) := by
      intro pl hlen hrng
      refine ⟨⟨hlen, hrng, hcn, m1, hs.snc⟩, fun hg => ⟨by simpa using hlen, ?_, hcn, m1, hs.snc⟩⟩
      intro x hx
      rcases List.mem_or_eq_of_mem_set hx with h | h
      · exact hrng x h
      · have := hrng _ (gt_mem (l := pl) (n := p.tap) (by omega))
        rw [h]
        unfold up
        omega
    cases hc2 : c.2
    · obtain ⟨k1, k2⟩ := key s.places h1 hs.rng
      simp only [tickM, hf, hc2, if_true, Bool.false_eq_true, if_false]
      split
      · rename_i q
        exact k2 q
      · exact k1
    · obtain ⟨k1, k2⟩ := key (-1 :: ini) (by simpa using hil) (by
        intro x hx
        rcases List.mem_cons.mp hx with h | h
        · rw [h]; exact ⟨hm1, by omega⟩
        · exact hr x h)
      simp only [tickM, hf, hc2, if_true, hl, List.dropLast_concat]
      split
      · rename_i q
        exact k2 q
      · exact k1
theorem chs_le {p : Pn} {s : Sd} {c : Ch} (hc : c ∈ chs p s) : c.1 ≤ 2 ∧ (c.2 = true → c.1 = 0) := by
  unfold chs at hc
  repeat' split at hc
  all_goals simp at hc
  all_goals (try rcases hc with h | h | h)
  all_goals simp_all
end EB
/-! PE: the law's springs, twins and bent values -/
namespace EB
open PySem PySem.Spec L2 DL
variable [inst : Pw]
/-! ### springs -/
/-- the spring n of a store, and the rest untouched -/
structure Sp (n : Nat) (M M' : Sto) : Prop where
  sp : ∃ a b, M'[n]? = some (.lst [.int a, .int b])
  len : M.length ≤ M'.length
  fr : ∀ k, k < M.length → k ≠ n → M'[k]? = M[k]?
def IsSp (n : Nat) (M : Sto) : Prop := ∃ a b, M[n]? = some (.lst [.int a, .int b])
theorem IsSp.lt {n : Nat} {M : Sto} (h : IsSp n M) : n < M.length := by
  obtain ⟨a, b, h⟩ := h
  exact (List.getElem?_eq_some_iff.mp h).1
theorem Sp.is {n : Nat} {M M' : Sto} (h : Sp n M M') : IsSp n M' := h.sp
theorem Sp.refl {n : Nat} {M : Sto} (h : IsSp n M) : Sp n M M := ⟨h, Nat.le_refl _, fun _ _ _ => rfl⟩
theorem Sp.trans {n : Nat} {M M1 M2 : Sto} (h : Sp n M M1) (h' : Sp n M1 M2) : Sp n M M2 :=
  ⟨h'.sp, Nat.le_trans h.len h'.len, fun k hk hn => (h'.fr k (Nat.lt_of_lt_of_le hk h.len) hn).trans (h.fr k hk hn)⟩
theorem Sp.app {n : Nat} {M G : Sto} (h : IsSp n M) : Sp n M (M ++ G) := by
  have hl := h.lt
  obtain ⟨a, b, h⟩ := h
  refine ⟨⟨a, b, ?_⟩, by simp, fun k hk _ => ?_⟩
  · rw [List.getElem?_append_left hl, h]
  · rw [List.getElem?_append_left hk]
theorem Sp.set {n : Nat} {M : Sto} {a b : Int} (h : IsSp n M) : Sp n M (M.set n (.lst [.int a, .int b])) := by
  have hl := h.lt
  refine ⟨⟨a, b, by rw [List.getElem?_set_self hl]⟩, by simp, fun k hk hn => ?_⟩
  rw [List.getElem?_set_ne (Ne.symm hn)]
theorem mul_int {i j : Int} {M : Sto} (h : (-(2 ^ 64) < i ∧ i < 2 ^ 64) ∨ (-(2 ^ 64) < j ∧ j < 2 ^ 64)) : mulF (.int i) (.int j) M = okR (.int (i * j)) M := by
  simp only [mulF]
  rw [if_pos h]
theorem mod_int {i j : Int} {M : Sto} (h : 0 < j) : modF (.int i) (.int j) M = okR (.int (i % j)) M := by simp [modF, intF, h]
theorem fdiv_int {i j : Int} {M : Sto} (h : 0 < j) (h' : j < 1073741824) : fdivF (.int i) (.int j) M = okR (.int (i / j)) M := by simp [fdivF, intF, h, h']
theorem at2_0 {a b : D} : atI [a, b] 0 = some a := by simp [atI, L2.ixN]
theorem at2_1 {a b : D} : atI [a, b] 1 = some b := by simp [atI, L2.ixN]
theorem pick_ok {n : Nat} {m : Int} {M : Sto} (h : IsSp n M) (h1 : 1 ≤ m) (h2 : m < 1073741824) :
    ∃ r M', f__law_pick [.cel n, .int m] M = okR (.int r) M' ∧ 0 ≤ r ∧ r < m ∧ Sp n M M' := by
  have hl := h.lt
  obtain ⟨a, b, e⟩ := h
  have i0 : L2.ixN 2 0 = some 0 := rfl
  have i1 : L2.ixN 2 1 = some 1 := rfl
  have h0 : 0 < m := by omega
  by_cases ha : 0 < a
  · refine ⟨a % m, M.set n (.lst [.int (a / m), .int b]), ?_, Int.emod_nonneg _ (by omega), Int.emod_lt_of_pos _ h0, .set ⟨a, b, e⟩⟩
    simp [f__law_pick, g__law_pick, runD, cel_ix, e, at2_0, at2_1, ha, mod_int h0, fdiv_int h0 h2, gSubT, i0]
  · refine ⟨((b * 393555900739 + 8191) % 999999999989 / 4093) % m, M.set n (.lst [.int a, .int ((b * 393555900739 + 8191) % 999999999989)]), ?_, Int.emod_nonneg _ (by omega), Int.emod_lt_of_pos _ h0, .set ⟨a, b, e⟩⟩
    have hm : ∀ M, mulF (.int b) (.int 393555900739) M = okR (.int (b * 393555900739)) M := fun M => mul_int (.inr (by decide))
    have hm2 : ∀ (i : Int) M, modF (.int i) (.int 999999999989) M = okR (.int (i % 999999999989)) M := fun i M => mod_int (by decide)
    have hd : ∀ (i : Int) M, fdivF (.int i) (.int 4093) M = okR (.int (i / 4093)) M := fun i M => fdiv_int (by decide) (by decide)
    have hs : ∀ x, (M.set n x)[n]? = some x := fun x => List.getElem?_set_self hl
    simp [f__law_pick, g__law_pick, runD, cel_ix, e, at2_0, at2_1, ha, mod_int h0, fdiv_int h0 h2, gSubT, i0, i1, hm, hm2, hd, hs]
/-- a number picked -/
def PickF (n : Nat) (m : Int) (M : Sto) : Prop := ∃ r M', f__law_pick [.cel n, .int m] M = okR (.int r) M' ∧ 0 ≤ r ∧ r < m ∧ Sp n M M'
theorem spring_ok {ns : List Int} {i : Nat} {M : Sto} (hi : i < 1000) : ∃ a b, f__law_spring [.ro (ns.map .int), .int i] M = okR (.cel M.length) (M ++ [.lst [.int a, .int b]]) := by
  have hm1 : ∀ (j : Int) M, mulF (.int j) (.int 863) M = okR (.int (j * 863)) M := fun j M => mul_int (.inr (by decide))
  have hm2 : ∀ (j : Int) M, mulF (.int 524287) (.int j) M = okR (.int (524287 * j)) M := fun j M => mul_int (.inl (by decide))
  have hm3 : ∀ (i : Int) M, modF (.int i) (.int 999999999989) M = okR (.int (i % 999999999989)) M := fun i M => mod_int (by decide)
  have hp : ∀ M, powF (.int 10) (.int 18) M = okR (.int (10 ^ 18)) M := fun M => by simp [powF, intF]
  have hlen : ∀ M, lenF [.ro (ns.map .int)] M = okR (.int ns.length) M := fun M => by simp [lenF, D.seqV]
  by_cases h : i < ns.length
  · have hix : ∀ M, subIx (.ro (ns.map .int)) (.int i) M = okR (.int (ns.getD i 0)) M := fun M => by
      have : atI (ns.map D.int) (i : Int) = some (.int (ns.getD i 0)) := by
        simp [atI, L2.ixN, h]
      simp [subIx, D.seqV, this]
    simp [f__law_spring, g__law_spring, runD, hlen, h, hix, absF, hm1, hm2, hm3, hp, gLstC, slE]
    generalize ns.getD i 0 = v
    split <;> split <;> exact ⟨_, _, rfl⟩
  · simp [f__law_spring, g__law_spring, runD, hlen, h, absF, hm1, hm2, hm3, hp, gLstC, slE]
theorem feed_ok {n : Nat} {M : Sto} (h : IsSp n M) : ∃ a l s r M', f__law_feed [.cel n] M = okR (.tup [.int ((a : Nat) : Int), .bl l, .bl s, .int ((r : Nat) : Int)]) M' ∧ a ≤ 2 ∧ 1 ≤ r ∧ r ≤ 3 ∧ Sp n M M' := by
  obtain ⟨r1, M1, e1, a1, b1, s1⟩ := pick_ok h (m := 3) (by decide) (by decide)
  obtain ⟨r2, M2, e2, a2, b2, s2⟩ := pick_ok s1.is (m := 3) (by decide) (by decide)
  obtain ⟨r3, M3, e3, a3, b3, s3⟩ := pick_ok s2.is (m := 4) (by decide) (by decide)
  obtain ⟨r4, M4, e4, a4, b4, s4⟩ := pick_ok s3.is (m := 3) (by decide) (by decide)
  obtain ⟨x, hx, hx2⟩ : ∃ x : Nat, atI [D.int 0, .int 0, .int 1, .int 2] r3 = some (.int x) ∧ x ≤ 2 := by
    have : r3 = 0 ∨ r3 = 1 ∨ r3 = 2 ∨ r3 = 3 := by omega
    rcases this with rfl | rfl | rfl | rfl
    · exact ⟨0, rfl, by decide⟩
    · exact ⟨0, rfl, by decide⟩
    · exact ⟨1, rfl, by decide⟩
    · exact ⟨2, rfl, by decide⟩
  refine ⟨x, decide (r1 = 0), decide (r2 = 0), (1 + r4).toNat, M4, ?_, hx2, by omega, by omega, s1.trans (s2.trans (s3.trans s4))⟩
  have hr : (((1 + r4).toNat : Nat) : Int) = 1 + r4 := by omega
  simp only [hr]
  simp [f__law_feed, g__law_feed, runD, e1, e2, e3, e4, eq_int, lst_ix, hx, slE]
theorem plan_ok {n : Nat} {most : Nat} {M : Sto} (h : IsSp n M) (h1 : 2 ≤ most) (h2 : most ≤ 6) : ∃ p M', p.Ok ∧ p.belt ≤ most ∧ f__law_plan [.cel n, .int most] M = okR (encP p) M' ∧ Sp n M M' := by
  obtain ⟨r1, M1, e1, a1, b1, s1⟩ := pick_ok h (m := most - 1) (by omega) (by omega)
  obtain ⟨r2, M2, e2, a2, b2, s2⟩ := pick_ok s1.is (m := min 3 (2 + r1)) (by omega) (by omega)
  obtain ⟨r3, M3, e3, a3, b3, s3⟩ := pick_ok s2.is (m := 2 + r1 - 1 - r2 + 1) (by omega) (by omega)
  obtain ⟨ap, li, sl, ne, M4, e4, f1, f2, f3, s4⟩ := feed_ok s3.is
  obtain ⟨r5, M5, e5, a5, b5, s5⟩ := pick_ok s4.is (m := 4) (by decide) (by decide)
  obtain ⟨r6, M6, e6, a6, b6, s6⟩ := pick_ok s5.is (m := 3) (by decide) (by decide)
  obtain ⟨r7, M7, e7, a7, b7, s7⟩ := pick_ok s6.is (m := 3) (by decide) (by decide)
  obtain ⟨r8, M8, e8, a8, b8, s8⟩ := pick_ok s7.is (m := 3) (by decide) (by decide)
  have hs := s1.trans (s2.trans (s3.trans (s4.trans (s5.trans (s6.trans s7)))))
  have htap : 0 ≤ 2 + r1 - 1 - r2 := by omega
  have hm : ∀ M, minF [.int 3, .int (2 + r1)] M = okR (.int (min 3 (2 + r1))) M := fun M => min_int
  obtain ⟨lag, hlag, hlag2⟩ : ∃ lag : Int, atI [D.int (2 + r1 - 1 - r2 - r3), .int (2 + r1 - 1 - r2 - r3), .int r5] r6 = some (.int lag) ∧ 0 ≤ lag := by
    have : r6 = 0 ∨ r6 = 1 ∨ r6 = 2 := by omega
    rcases this with rfl | rfl | rfl
    · exact ⟨_, rfl, by omega⟩
    · exact ⟨_, rfl, by omega⟩
    · exact ⟨_, rfl, by omega⟩
  have hm2 : ∀ M, minF [.int 3, .int lag] M = okR (.int (min 3 lag)) M := fun M => min_int
  have hb : (((2 + r1).toNat : Nat) : Int) = 2 + r1 := by omega
  have ht : (((2 + r1 - 1 - r2).toNat : Nat) : Int) = 2 + r1 - 1 - r2 := by omega
  have he : ((r3.toNat : Nat) : Int) = r3 := by omega
  have hla : (((min 3 lag).toNat : Nat) : Int) = min 3 lag := by omega
  by_cases hz : r7 = 0
  · have h8 : (((1 + r8).toNat : Nat) : Int) = 1 + r8 := by omega
    refine ⟨⟨(2 + r1).toNat, r3.toNat, (2 + r1 - 1 - r2).toNat, (min 3 lag).toNat, (1 + r8).toNat, ap, li, sl, ne⟩, M8, ?_, ?_, ?_, hs.trans s8⟩
    · refine ⟨?_, ?_, ?_, ?_, ?_, ?_, ?_, f1, f2, f3⟩ <;> simp only <;> omega
    · simp only
      omega
    · simp only [encP, hb, ht, he, hla, h8]
      simp [f__law_plan, g__law_plan, runD, e1, e2, e3, e4, e5, e6, e7, e8, eq_int, lst_ix, hlag, slE, hm, hm2, hz]
  · refine ⟨⟨(2 + r1).toNat, r3.toNat, (2 + r1 - 1 - r2).toNat, (min 3 lag).toNat, ne, ap, li, sl, ne⟩, M7, ?_, ?_, ?_, hs⟩
    · refine ⟨?_, ?_, ?_, ?_, ?_, f2, f3, f1, f2, f3⟩ <;> simp only <;> omega
    · simp only
      omega
    · simp only [encP, hb, ht, he, hla]
      simp [f__law_plan, g__law_plan, runD, e1, e2, e3, e4, e5, e6, e7, e8, eq_int, lst_ix, hlag, slE, hm, hm2, hz]
end EB
/-! PF: twins, bent values -/
namespace EB
open PySem PySem.Spec L2 DL
variable [inst : Pw]
/-- plain data, nested less deep than n, of a small size -/
inductive Nc (B : Nat) : Nat → D → Prop
  | non {n} : Nc B n .non
  | bl {n} (b : Bool) : Nc B n (.bl b)
  | int {n} (i : Int) : Nc B n (.int i)
  | str {n} (x : Str) : PySem.PyData.strOk x = true → Nc B n (.str x)
  | tup {n} {l : List D} : l.length ≤ B → (∀ x ∈ l, Nc B n x) → Nc B (n + 1) (.tup l)
  | lst {n} {l : List D} : l.length ≤ B → (∀ x ∈ l, Nc B n x) → Nc B (n + 1) (.lst l)
theorem flatL_of : ∀ {l : List D}, (∀ x ∈ l, x.flat = true) → D.flatL l = true
  | [], _ => rfl
  | a :: l, h => by
    simp only [D.flatL, h a List.mem_cons_self, Bool.true_and]
    exact flatL_of fun x hx => h x (List.mem_cons_of_mem _ hx)
theorem flatL_mem : ∀ {l : List D}, D.flatL l = true → ∀ x ∈ l, x.flat = true
  | [], _, x, hx => by cases hx
  | a :: l, h, x, hx => by
    simp only [D.flatL, Bool.and_eq_true] at h
    rcases List.mem_cons.mp hx with e | e
    · rw [e]; exact h.1
    · exact flatL_mem h.2 x e
theorem flat_tup {l : List D} : (D.tup l).flat = true ↔ ∀ x ∈ l, x.flat = true := by
  rw [D.flat]
  exact ⟨flatL_mem, flatL_of⟩
theorem flat_lst {l : List D} : (D.lst l).flat = true ↔ ∀ x ∈ l, x.flat = true := by
  rw [D.flat]
  exact ⟨flatL_mem, flatL_of⟩
theorem Nc.flat {B n : Nat} {d : D} (h : Nc B n d) : d.flat = true := by
  induction h with
  | non => rfl
  | bl b => rfl
  | int i => rfl
  | str x h => simpa [D.flat] using h
  | tup hl h ih => exact flat_tup.mpr ih
  | lst hl h ih => exact flat_lst.mpr ih
theorem Nc.up {B n : Nat} {d : D} (h : Nc B n d) : Nc B (n + 1) d := by
  induction h with
  | non => exact .non
  | bl b => exact .bl b
  | int i => exact .int i
  | str x h => exact .str x h
  | tup hl h ih => exact .tup hl ih
  | lst hl h ih => exact .lst hl ih
theorem Nc.mono {B n m : Nat} {d : D} (h : Nc B n d) (hm : n ≤ m) : Nc B m d := by
  induction hm with
  | refl => exact h
  | step _ ih => exact ih.up
theorem Nc.wide {B C n : Nat} {d : D} (h : Nc B n d) (hc : B ≤ C) : Nc C n d := by
  induction h with
  | non => exact .non
  | bl b => exact .bl b
  | int i => exact .int i
  | str x h => exact .str x h
  | tup hl h ih => exact .tup (Nat.le_trans hl hc) ih
  | lst hl h ih => exact .lst (Nat.le_trans hl hc) ih
theorem depL_of : ∀ {l : List D} {n : Nat}, (∀ x ∈ l, x.dep ≤ n) → D.depL l ≤ n
  | [], _, _ => Nat.zero_le _
  | a :: l, n, h => by
    simp only [D.depL]
    have h1 := h a List.mem_cons_self
    have h2 := depL_of (l := l) fun x hx => h x (List.mem_cons_of_mem _ hx)
    omega
theorem Nc.dep {B n : Nat} {d : D} (h : Nc B n d) : d.dep ≤ n := by
  induction h with
  | non => simp [D.dep]
  | bl b => simp [D.dep]
  | int i => simp [D.dep]
  | str x h => simp [D.dep]
  | tup hl h ih =>
    simp only [D.dep]
    have := depL_of ih
    omega
  | lst hl h ih =>
    simp only [D.dep]
    have := depL_of ih
    omega
theorem Nc.okk {B n : Nat} {d : D} (h : Nc B n d) (hn : n ≤ 64) : d.okk = true := by
  have := h.dep
  simp [D.okk, h.flat]
  omega
theorem Nc.len {B n : Nat} {l : List D} (h : Nc B n (.tup l)) : l.length ≤ B := by cases h; assumption
theorem Nc.mem {B n : Nat} {l : List D} (h : Nc B (n + 1) (.tup l)) : ∀ x ∈ l, Nc B n x := by cases h; assumption
theorem isi_ok {T : String} {d : D} {t : String} {M : Sto} (h : d.tyN M = some t) : isiF T d M = okR (.bl (subTy t T)) M := by simp [isiF, h]
theorem isi2_ok {T U : String} {d : D} {t : String} {M : Sto} (h : d.tyN M = some t) : isi2F T U d M = okR (.bl (subTy t T || subTy t U)) M := by simp [isi2F, h]
theorem kind_non {M : Sto} : f__law_kind [.non] M = okR (.int 0) M := by simp [f__law_kind, g__law_kind, runD, isNF, D.isNon]
theorem kind_bl {b : Bool} {M : Sto} : f__law_kind [.bl b] M = okR (.int 1) M := by simp [f__law_kind, g__law_kind, runD, isNF, D.isNon, isiF, D.tyN, subTy]
theorem kind_int {i : Int} {M : Sto} : f__law_kind [.int i] M = okR (.int 4) M := by simp [f__law_kind, g__law_kind, runD, isNF, D.isNon, isiF, isi2F, D.tyN, subTy]
theorem kind_str {x : Str} {M : Sto} : f__law_kind [.str x] M = okR (.int 5) M := by simp [f__law_kind, g__law_kind, runD, isNF, D.isNon, isiF, isi2F, D.tyN, subTy]
theorem kind_tup {l : List D} {M : Sto} : f__law_kind [.tup l] M = okR (.int 3) M := by simp [f__law_kind, g__law_kind, runD, isNF, D.isNon, isiF, isi2F, D.tyN, subTy]
theorem kind_lst {l : List D} {M : Sto} : f__law_kind [.lst l] M = okR (.int 2) M := by simp [f__law_kind, g__law_kind, runD, isNF, D.isNon, isiF, isi2F, D.tyN, subTy]
theorem in23_2 {M : Sto} : inF (.int 2) (.lst [.int 2, .int 3]) M = okR (.bl true) M := by simp [inF, inR, D.itsV, D.seqV, D.lstV, D.isScal, D.eqv]
theorem in23_3 {M : Sto} : inF (.int 3) (.lst [.int 2, .int 3]) M = okR (.bl true) M := by simp [inF, inR, D.itsV, D.seqV, D.lstV, D.isScal, D.eqv]
theorem in23_n {i : Int} {M : Sto} (h : i ≠ 2) (h' : i ≠ 3) : inF (.int i) (.lst [.int 2, .int 3]) M = okR (.bl false) M := by
  simp [inF, inR, D.itsV, D.seqV, D.lstV, D.isScal, D.eqv, Ne.symm h, Ne.symm h']
theorem eq_nils {M : Sto} : eqF (.lst []) (.lst []) M = okR (.bl true) M := by simp [eqF, eqR, D.scal, D.now, D.okk, D.flat, D.flatL, D.dep, D.depL, D.eqv, D.eqvL]
theorem fm_none : ∀ l : List D, l.filterMap (fun _ => (none : Option D)) = []
  | [] => rfl
  | _ :: l => by simpa using fm_none l
theorem mem_zip_self : ∀ {l : List D} {p : D × D}, p ∈ l.zip l → p.1 = p.2 ∧ p.1 ∈ l
  | [], p, h => by simp at h
  | a :: l, p, h => by
    simp only [List.zip_cons_cons, List.mem_cons] at h
    rcases h with rfl | h
    · exact ⟨rfl, List.mem_cons_self⟩
    · have := mem_zip_self h
      exact ⟨this.1, List.mem_cons_of_mem _ this.2⟩
theorem twins_refl {B : Nat} (hB : B ≤ 1000000) : ∀ {f n : Nat} {d : D} {M : Sto}, Nc B n d → n < f → f__law_twins f [d, d] M = okR (.bl true) M
  | 0, n, d, M, _, h => absurd h (by omega)
  | f + 1, n, d, M, hd, h => by
    have hz : ∀ (n : Nat) (l : List D) (δ : Ev) (M : Sto), n < f → l.length ≤ B → (∀ x ∈ l, Nc B n x) → 4 ≤ δ.length → lcL (.many [2, 3]) (gTNot (gTst (gCallN 2 (f__law_twins f) (DL.gCons (gVar 2) (DL.gCons (gVar 3) DL.gNil))))) (gC (.int 1)) δ ((l.zip l).map fun p => D.tup [p.1, p.2]) [] M = okR (.lst []) M := by
      intro n l δ M hn hl hx hδ
      have := lcL_pure (T := .many [2, 3]) (tt := gTNot (gTst (gCallN 2 (f__law_twins f) (DL.gCons (gVar 2) (DL.gCons (gVar 3) DL.gNil))))) (te := gC (.int 1)) (δ := δ) (fun _ => none) (ds := (l.zip l).map fun p => D.tup [p.1, p.2]) (acc := []) (M := M) (by
        intro d hd
        obtain ⟨p, hp, rfl⟩ := List.mem_map.mp hd
        obtain ⟨e1, e2⟩ := mem_zip_self hp
        have ih := twins_refl hB (M := M) (hx p.1 e2) hn
        refine ⟨_, rfl, ?_⟩
        have h2 : ((δ.set 2 (some p.1)).set 3 (some p.2))[2]? = some (some p.1) := by
          rw [List.getElem?_set_ne (by decide), List.getElem?_set_self (by omega)]
        have h3 : ((δ.set 2 (some p.1)).set 3 (some p.2))[3]? = some (some p.2) := by
          rw [List.getElem?_set_self (by simp; omega)]
        rw [← e1] at h2 h3
        simp [setMany, h2, h3, ← e1, ih]) (by simp [slE]; omega)
      rw [fm_none] at this
      simpa using this
    cases hd with
    | non => simp [f__law_twins, g__law_twins, runD, kind_non, ne_int, in23_n, slE, eqF, eqR, D.scal]
    | bl b => simp [f__law_twins, g__law_twins, runD, kind_bl, ne_int, in23_n, slE, eqF, eqR, D.scal]
    | int i => simp [f__law_twins, g__law_twins, runD, kind_int, ne_int, in23_n, slE, eqF, eqR, D.scal]
    | str x hx => simp [f__law_twins, g__law_twins, runD, kind_str, ne_int, in23_n, slE, eqF, eqR, D.scal]
    | tup hl hx =>
      rename_i n l
      simp [f__law_twins, g__law_twins, runD, kind_tup, ne_int, in23_3, slE, lenF, eq_int, wipeD]
      rw [hz n l _ M (by omega) hl hx (by simp)]
      simp [slE, eq_nils]
    | lst hl hx =>
      rename_i n l
      simp [f__law_twins, g__law_twins, runD, kind_lst, ne_int, in23_2, slE, lenF, eq_int, wipeD, D.seqV, D.lstV]
      rw [hz n l _ M (by omega) hl hx (by simp)]
      simp [slE, eq_nils]
def bentL : List D := [.non, .bl true, .bl false, .int 0, .int 1, .int 2, .int 3, .int 4, .int 5, .int 6, .int 7, .int (-1), .int (-2), .int (-3), .int 1000000000000000000000000000000, .str "", .str "runs", .str "fills", .tup [], .lst [], .tup [.int 0, .int 1], .tup [.int 3, .int 3], .tup [.bl true], .tup [.bl false, .bl false], .tup [.int (-1), .int (-1)], .tup [.int 0, .int 0, .int 0], .tup [.int 1, .bl false, .bl false, .int 3]]
theorem bentL_nc {B : Nat} (hB : 10 ≤ B) : ∀ x ∈ bentL, Nc B 1 x := by
  have s1 : PySem.PyData.strOk ("" : Str) = true := by decide +kernel
  have s2 : PySem.PyData.strOk ("runs" : Str) = true := by decide +kernel
  have s3 : PySem.PyData.strOk ("fills" : Str) = true := by decide +kernel
  have ht : ∀ l : List D, l.length ≤ 10 → (∀ x ∈ l, ∃ i, x = .int i ∨ ∃ b, x = .bl b) → Nc B 1 (.tup l) := fun l hl h => .tup (Nat.le_trans hl hB) fun x hx => by
    obtain ⟨i, rfl | ⟨b, rfl⟩⟩ := h x hx
    · exact .int _
    · exact .bl _
  intro x hx
  simp only [bentL, List.mem_cons, List.not_mem_nil, or_false] at hx
  rcases hx with h | h | h | h | h | h | h | h | h | h | h | h | h | h | h | h | h | h | h | h | h | h | h | h | h | h | h <;> rw [h]
  · exact .non
  · exact .bl _
  · exact .bl _
  · exact .int _
  · exact .int _
  · exact .int _
  · exact .int _
  · exact .int _
  · exact .int _
  · exact .int _
  · exact .int _
  · exact .int _
  · exact .int _
  · exact .int _
  · exact .int _
  · exact .str _ s1
  · exact .str _ s2
  · exact .str _ s3
  · exact .tup (by simp) (by simp)
  · exact .lst (by simp) (by simp)
  all_goals refine ht _ (by simp) (by simp)
theorem isi_tup {B n : Nat} {d : D} {M : Sto} (h : Nc B n d) : isiF "tuple" d M = okR (.bl (match d with | .tup _ => true | _ => false)) M := by
  cases h <;> simp [isiF, D.tyN, subTy]
theorem nc_nil {B n : Nat} : Nc B (n + 1) (.tup []) := .tup (Nat.zero_le _) (by simp)
theorem ne_tup {B n : Nat} {l : List D} {M : Sto} (h : Nc B n (.tup l)) (hd : n ≤ 60) : neF (.tup l) (.tup []) M = okR (.bl (!l.isEmpty)) M := by
  have h1 := h.okk (by omega)
  have h2 : (D.tup []).okk = true := by simp [D.okk, D.flat, D.flatL, D.dep, D.depL]
  have h3 : D.eqv (.tup l) (.tup []) = l.isEmpty := by cases l <;> simp [D.eqv, D.eqvL]
  simp [neF, eqR, D.scal, D.now, h1, h2, h3]
theorem pow30 {M : Sto} : powF (.int 10) (.int 30) M = okR (.int 1000000000000000000000000000000) M := by simp [powF, intF]
def bentC : GT := (gTAnd (gTst (gUn (isiF "tuple") (gVar 1))) (gTAnd (gTst (gOp neF (gVar 1) (DL.gTup DL.gNil))) (gTst (gOp gtF (gCallN 2 f__law_pick (DL.gCons (gVar 0) (DL.gCons (gC (.int 6)) DL.gNil))) (gC (.int 0))))))
def bentA (rec : FL) : GS := (gSeq (gPar 2 3 (DL.gCons (gCallN 2 f__law_pick (DL.gCons (gVar 0) (DL.gCons (gCall lenF (DL.gCons (gVar 1) DL.gNil)) DL.gNil))) (DL.gCons (gCallN 2 f__law_pick (DL.gCons (gVar 0) (DL.gCons (gC (.int 8)) DL.gNil))) DL.gNil))) (gSeq (gIfS (gTst (gOp eqF (gVar 3) (gC (.int 0)))) (gRet (gOp addF (gSlice slF (gVar 1) goNone (goSome (gVar 2))) (gSlice slF (gVar 1) (goSome (gOp addF (gVar 2) (gC (.int 1)))) goNone))) gNext) (gSeq (gIfS (gTst (gOp eqF (gVar 3) (gC (.int 1)))) (gRet (gOp addF (gOp addF (gSlice slF (gVar 1) goNone (goSome (gVar 2))) (gSlice slF (gVar 1) (goSome (gVar 2)) (goSome (gOp addF (gVar 2) (gC (.int 1)))))) (gSlice slF (gVar 1) (goSome (gVar 2)) goNone))) gNext) (gSeq (gIfS (gTst (gOp eqF (gVar 3) (gC (.int 2)))) (gRet (gUn revF (gVar 1))) gNext) (gRet (gOp addF (gOp addF (gSlice slF (gVar 1) goNone (goSome (gVar 2))) (DL.gTup (DL.gCons (gCallN 2 rec (DL.gCons (gVar 0) (DL.gCons (gOp subIx (gVar 1) (gVar 2)) DL.gNil))) DL.gNil))) (gSlice slF (gVar 1) (goSome (gOp addF (gVar 2) (gC (.int 1)))) goNone)))))))
def bentE : GS := (gSeq (gAsg (gLst (DL.gCons (gC .non) (DL.gCons (gC (.bl true)) (DL.gCons (gC (.bl false)) (DL.gCons (gC (.int 0)) (DL.gCons (gC (.int 1)) (DL.gCons (gC (.int 2)) (DL.gCons (gC (.int 3)) (DL.gCons (gC (.int 4)) (DL.gCons (gC (.int 5)) (DL.gCons (gC (.int 6)) (DL.gCons (gC (.int 7)) (DL.gCons (gUn negF (gC (.int 1))) (DL.gCons (gUn negF (gC (.int 2))) (DL.gCons (gUn negF (gC (.int 3))) (DL.gCons (gOp powF (gC (.int 10)) (gC (.int 30))) (DL.gCons (gC (.str "")) (DL.gCons (gC (.str "runs")) (DL.gCons (gC (.str "fills")) DL.gNil))))))))))))))))))) (DL.gName 4)) (gSeq (gAsg (gOp addF (gVar 4) (gLst (DL.gCons (DL.gTup DL.gNil) (DL.gCons (gLst DL.gNil) (DL.gCons (DL.gTup (DL.gCons (gC (.int 0)) (DL.gCons (gC (.int 1)) DL.gNil))) (DL.gCons (DL.gTup (DL.gCons (gC (.int 3)) (DL.gCons (gC (.int 3)) DL.gNil))) (DL.gCons (DL.gTup (DL.gCons (gC (.bl true)) DL.gNil)) (DL.gCons (DL.gTup (DL.gCons (gC (.bl false)) (DL.gCons (gC (.bl false)) DL.gNil))) (DL.gCons (DL.gTup (DL.gCons (gUn negF (gC (.int 1))) (DL.gCons (gUn negF (gC (.int 1))) DL.gNil))) (DL.gCons (DL.gTup (DL.gCons (gC (.int 0)) (DL.gCons (gC (.int 0)) (DL.gCons (gC (.int 0)) DL.gNil)))) (DL.gCons (DL.gTup (DL.gCons (gC (.int 1)) (DL.gCons (gC (.bl false)) (DL.gCons (gC (.bl false)) (DL.gCons (gC (.int 3)) DL.gNil))))) DL.gNil))))))))))) (DL.gName 4)) (gRet (gOp subIx (gVar 4) (gCallN 2 f__law_pick (DL.gCons (gVar 0) (DL.gCons (gCall lenF (DL.gCons (gVar 4) DL.gNil)) DL.gNil)))))))
theorem bent_def {rec : FL} : g__law_bent rec = gSeq (gIfS bentC (bentA rec) gNext) bentE := rfl
theorem bentE_ok {B : Nat} {k : Nat} {d : Option D} {M : Sto} (hB : 10 ≤ B) (hs : IsSp k M) : ∃ r M', (∀ x y, bentE [some (.cel k), d, x, y, none] M = some (.rt r M')) ∧ Nc B 1 r ∧ Sp k M M' := by
  obtain ⟨r, M', e1, a1, b1, s1⟩ := pick_ok hs (m := 27) (by decide) (by decide)
  obtain ⟨x, hx, hx2⟩ : ∃ x, atI bentL r = some x ∧ x ∈ bentL := by
    have h1 : r.toNat < bentL.length := by simp [bentL]; omega
    refine ⟨bentL[r.toNat], ?_, List.getElem_mem h1⟩
    have : L2.ixN bentL.length r = some r.toNat := by
      unfold L2.ixN
      have : r < (bentL.length : Int) := by simp [bentL]; omega
      rw [if_pos a1, if_pos this]
    unfold atI
    rw [this]
    simp
  refine ⟨x, M', fun u v => ?_, bentL_nc hB x hx2, s1⟩
  have hix : ∀ M, subIx (.lst bentL) (.int r) M = okR x M := fun M => by rw [lst_ix, hx]; rfl
  have hlen : ∀ M, lenF [.lst bentL] M = okR (.int 27) M := fun M => rfl
  simp only [bentL] at hix hlen
  simp [bentE, pow30, slE, hlen, e1, hix]
theorem bent_ok {B : Nat} (hB : 10 ≤ B) (hB2 : B ≤ 1000000) : ∀ {f n k : Nat} {d : D} {M : Sto}, Nc B n d → n < f → f ≤ 60 → IsSp k M → ∃ r M', f__law_bent f [.cel k, d] M = okR r M' ∧ Nc (B + 1) (n + 1) r ∧ Sp k M M'
  | 0, n, k, d, M, _, h, _, _ => absurd h (by omega)
  | f + 1, n, k, d, M, hd, h, hf, hs => by
    have hrun : ∀ M1 M2 (r : D), bentC [some (.cel k), some d, none, none, none] M = okR false M1 → bentE [some (.cel k), some d, none, none, none] M1 = some (.rt r M2) → f__law_bent (f + 1) [.cel k, d] M = okR r M2 := by
      intro M1 M2 r h1 h2
      simp only [f__law_bent, bent_def, runD]
      simp [h1, h2]
    by_cases ht : ∃ l, d = .tup l ∧ l ≠ []
    · obtain ⟨l, rfl, hl⟩ := ht
      have hie : l.isEmpty = false := by cases l <;> simp_all
      obtain ⟨r1, M1, e1, a1, b1, s1⟩ := pick_ok hs (m := 6) (by decide) (by decide)
      have hne := ne_tup (M := M) hd (by omega)
      rw [hie] at hne
      by_cases hz : 0 < r1
      · have hC : bentC [some (.cel k), some (.tup l), none, none, none] M = okR true M1 := by
          simp [bentC, isi_tup hd, hne, e1, hz]
        have hll := hd.len
        have hpos : 1 ≤ l.length := by
          cases l with
          | nil => exact absurd rfl hl
          | cons a l => simp
        obtain ⟨r2, M2, e2, a2, b2, s2⟩ := pick_ok s1.is (m := l.length) (by omega) (by omega)
        obtain ⟨r3, M3, e3, a3, b3, s3⟩ := pick_ok s2.is (m := 8) (by decide) (by decide)
        obtain ⟨i, rfl⟩ : ∃ i : Nat, r2 = i := ⟨r2.toNat, by omega⟩
        have hi : i < l.length := by omega
        obtain ⟨n, rfl⟩ : ∃ m, n = m + 1 := by cases hd; exact ⟨_, rfl⟩
        have hm := hd.mem
        have hc1 : cutD l none (some (i : Int)) = l.take i := cut_take (by omega)
        have hc2 : cutD l (some (i + 1 : Int)) none = l.drop (i + 1) := by
          have := cut_drop (l := l) (n := i + 1)
          simpa using this
        have hc3 : cutD l (some (i : Int)) none = l.drop i := cut_drop
        have hlen : ∀ M, lenF [.tup l] M = okR (.int l.length) M := fun M => rfl
        have hrun2 : ∀ M1' (r : D), bentA (f__law_bent f) [some (.cel k), some (.tup l), none, none, none] M1 = some (.rt r M1') → f__law_bent (f + 1) [.cel k, .tup l] M = okR r M1' := by
          intro M1' r h1
          simp only [f__law_bent, bent_def, runD]
          simp [hC, h1]
        by_cases z0 : r3 = 0
        · refine ⟨.tup (l.take i ++ l.drop (i + 1)), M3, hrun2 _ _ ?_, .tup (by simp; omega) ?_, s1.trans (s2.trans s3)⟩
          · have : min i l.length + (l.length - (i + 1)) ≤ 16777216 := by omega
            simp [bentA, hlen, e2, e3, z0, eq_int, hc1, hc2, slE, this]
          · intro x hx
            rcases List.mem_append.mp hx with hx | hx
            · exact ((hm x (List.mem_of_mem_take hx)).up.wide (Nat.le_succ _))
            · exact ((hm x (List.mem_of_mem_drop hx)).up.wide (Nat.le_succ _))
        · by_cases z1 : r3 = 1
          · have hc4 : cutD l (some (i : Int)) (some (i + 1 : Int)) = (l.drop i).take 1 := by
              have h1 : HT.sIx l.length 0 (some (i : Int)) = min i l.length := sIx_n _ _ _
              have h2 : HT.sIx l.length l.length (some (i + 1 : Int)) = min (i + 1) l.length := by
                have := sIx_n l.length l.length (i + 1)
                simpa using this
              unfold cutD
              rw [h1, h2, Nat.min_eq_left (by omega), Nat.min_eq_left (by omega)]
              congr 1
              omega
            refine ⟨.tup (l.take i ++ ((l.drop i).take 1 ++ l.drop i)), M3, hrun2 _ _ ?_, .tup (by simp; omega) ?_, s1.trans (s2.trans s3)⟩
            · have t1 : min i l.length + min 1 (l.length - i) ≤ 16777216 := by omega
              have t2 : min i l.length + min 1 (l.length - i) + (l.length - i) ≤ 16777216 := by omega
              have t3 : min i l.length + (min 1 (l.length - i) + (l.length - i)) ≤ 16777216 := by omega
              simp [bentA, hlen, e2, e3, z1, eq_int, hc1, hc3, hc4, slE, t1, t2, t3]
            · intro x hx
              rcases List.mem_append.mp hx with hx | hx
              · exact ((hm x (List.mem_of_mem_take hx)).up.wide (Nat.le_succ _))
              · rcases List.mem_append.mp hx with hx | hx
                · exact ((hm x (List.mem_of_mem_drop (List.mem_of_mem_take hx))).up.wide (Nat.le_succ _))
                · exact ((hm x (List.mem_of_mem_drop hx)).up.wide (Nat.le_succ _))
          · by_cases z2 : r3 = 2
            · refine ⟨.tup l.reverse, M3, hrun2 _ _ ?_, .tup (by simp; omega) ?_, s1.trans (s2.trans s3)⟩
              · simp [bentA, hlen, e2, e3, z2, eq_int, revF]
              · intro x hx
                exact ((hm x (List.mem_reverse.mp hx)).up.wide (Nat.le_succ _))
            · have hix : ∀ M, subIx (.tup l) (.int i) M = okR l[i] M := fun M => ixN (List.getElem?_eq_getElem hi)
              obtain ⟨r, M4, q1, q2, q3⟩ := bent_ok hB hB2 (f := f) (hm l[i] (List.getElem_mem hi)) (by omega) (by omega) s3.is
              refine ⟨.tup (l.take i ++ r :: l.drop (i + 1)), M4, hrun2 _ _ ?_, .tup (by simp; omega) ?_, s1.trans (s2.trans (s3.trans q3))⟩
              · have t1 : min i l.length ≤ 16777215 := by omega
                have t2 : min i l.length + 1 + (l.length - (i + 1)) ≤ 16777216 := by omega
                simp [bentA, hlen, e2, e3, z0, z1, z2, eq_int, hc1, hc2, hix, q1, slE, t1, t2]
              · intro x hx
                rcases List.mem_append.mp hx with hx | hx
                · exact ((hm x (List.mem_of_mem_take hx)).up.wide (Nat.le_succ _))
                · rcases List.mem_cons.mp hx with hx | hx
                  · rw [hx]; exact q2
                  · exact ((hm x (List.mem_of_mem_drop hx)).up.wide (Nat.le_succ _))
      · obtain ⟨r, M', q1, q2, q3⟩ := bentE_ok (d := some (.tup l)) (B := B + 1) (by omega) s1.is
        refine ⟨r, M', hrun M1 _ _ ?_ (q1 _ _), q2.mono (by omega), s1.trans q3⟩
        simp [bentC, isi_tup hd, hne, e1, hz]
    · obtain ⟨r, M', q1, q2, q3⟩ := bentE_ok (d := some d) (B := B + 1) (by omega) hs
      refine ⟨r, M', hrun M _ _ ?_ (q1 _ _), q2.mono (by omega), q3⟩
      cases hd with
      | tup hl hx =>
        rename_i n l
        have : l = [] := Classical.byContradiction fun hc => ht ⟨l, rfl, hc⟩
        subst this
        have h1 := ne_tup (M := M) (.tup hl hx) (by omega)
        simp [bentC, isiF, D.tyN, subTy, h1]
      | _ => simp [bentC, isiF, D.tyN, subTy]
end EB
/-! PG: stands -/
namespace EB
open PySem PySem.Spec L2 DL
variable [inst : Pw]
theorem encP_nc {B : Nat} {p : Pn} (hB : 10 ≤ B) : Nc B 2 (encP p) := by
  refine .tup (by simp; omega) fun x hx => ?_
  simp only [List.mem_cons, List.not_mem_nil, or_false] at hx
  rcases hx with rfl | rfl | rfl | rfl | rfl
  · exact .int _
  · exact .int _
  · exact .int _
  · refine .tup (by simp; omega) fun x hx => ?_
    simp only [List.mem_cons, List.not_mem_nil, or_false] at hx
    rcases hx with rfl | rfl <;> exact .int _
  · refine .tup (by simp; omega) fun x hx => ?_
    simp only [List.mem_cons, List.not_mem_nil, or_false] at hx
    rcases hx with rfl | rfl | rfl | rfl
    · exact .int _
    · exact .bl _
    · exact .bl _
    · exact .int _
theorem phase_nc {B n : Nat} {b : Bool} : Nc B n (phase b) := by
  cases b <;> exact .str _ (by decide +kernel)
theorem encS_nc {B : Nat} {s : Sd} (h : s.places.length ≤ B) (h' : s.mem.length ≤ B) (hB : 10 ≤ B) : Nc B 2 (encS s) := by
  refine .tup (by simp; omega) fun x hx => ?_
  simp only [List.mem_cons, List.not_mem_nil, or_false] at hx
  rcases hx with rfl | rfl | rfl | rfl | rfl
  · refine .tup (by simpa using h) fun x hx => ?_
    obtain ⟨i, _, rfl⟩ := List.mem_map.mp hx
    exact .int _
  · exact phase_nc
  · exact .int _
  · refine .tup (by simpa using h') fun x hx => ?_
    obtain ⟨i, _, rfl⟩ := List.mem_map.mp hx
    exact .bl _
  · exact .int _
theorem planD_enc {p : Pn} (h : p.Ok) : planD (encP p) = true := by
  have := h.b1; have := h.b2; have := h.e1; have := h.t1; have := h.l1; have := h.f1; have := h.f2; have := h.a1; have := h.n1; have := h.n2
  simp only [encP, planD_iff]
  refine ⟨_, _, _, rfl, rfl, rfl, by omega, by omega, by omega, by omega, by omega, ?_, ?_⟩
  · simp only [progD, Bool.and_eq_true, within_int]
    omega
  · simp only [feedD, isB, Bool.and_eq_true, within_int, and_true]
    omega
def placeD (p : Pn) (x : D) : Bool := within x (if p.lies then -2 else -1) (p.need + 1)
def endD (p : Pn) (b c g : D) : Bool := isS b && within g 0 p.apart && (match b with
  | .str x => if x = ("runs" : Str) then within c 0 0 else decide (x = ("fills" : Str)) && within c 1 p.fill
  | _ => false)
/-- a stand of a plan -/
def standD (p : Pn) (d : D) : Bool := match d with
  | .tup [.tup as, b, c, .tup es, g] => decide (as.length = p.belt) && decide (es.length = p.lag) && as.all (placeD p) && es.all isB && endD p b c g
  | _ => false
theorem blsOf_map {α : Type} (q : α → Bool) : ∀ l : List α, blsOf (l.map fun x => D.bl (q x)) = some (l.map q)
  | [] => rfl
  | a :: l => by simp [blsOf, blsOf_map q l]
theorem all_ok {α : Type} (q : α → Bool) {l : List α} {M : Sto} : allF [.lst (l.map fun x => D.bl (q x))] M = okR (.bl (l.all q)) M := by
  simp [allF, D.seqV, D.lstV, blsOf_map]
theorem fm_map {α β : Type} (q : α → β) : ∀ l : List α, l.filterMap (fun x => some (q x)) = l.map q
  | [] => rfl
  | a :: l => by simp
/-- a comprehension over data -/
theorem lc_map {δ : Ev} {i : Nat} {te : GE} {ds : List D} {M : Sto} (q : D → D) (hl : ds.length ≤ 16777216) (h : ∀ d ∈ ds, te (δ.set i (some d)) M = okR (q d) M) : lcL (.one i) gYes te δ ds [] M = okR (.lst (ds.map q)) M := by
  have := lcL_pure (T := .one i) (tt := gYes) (te := te) (δ := δ) (fun d => some (q d)) (ds := ds) (acc := []) (M := M) (fun d hd => ⟨_, rfl, rfl, h d hd⟩) (by rw [slE]; simpa using hl)
  rw [fm_map] at this
  simpa using this
/-- the bad ones of a list -/
theorem lc_bad {δ : Ev} {i : Nat} {tt : GT} {te : GE} {ds : List D} {M : Sto} (q : D → Bool) (y : D → D) (hl : ds.length ≤ 16777216) (h : ∀ d ∈ ds, tt (δ.set i (some d)) M = okR (!q d) M) (h' : ∀ d ∈ ds, te (δ.set i (some d)) M = okR (y d) M) :
    lcL (.one i) tt te δ ds [] M = okR (.lst ((ds.filter fun x => !q x).map y)) M := by
  have := lcL_pure (T := .one i) (tt := tt) (te := te) (δ := δ) (fun d => if q d then none else some (y d)) (ds := ds) (acc := []) (M := M) (fun d hd => ⟨_, rfl, by
    have h1 := h d hd
    have h2 := h' d hd
    cases e : q d <;> simp [e] at h1 ⊢ <;> simp [h1, h2]⟩) (by rw [slE]; simpa using hl)
  rw [this]
  congr 1
  simp only [List.nil_append, D.lst.injEq]
  clear this h h' hl
  induction ds with
  | nil => rfl
  | cons a l ih => cases e : q a <;> simp [e, ih]
theorem pI0 {p : Pn} {M : Sto} : subIx (encP p) (.int 0) M = okR (.int p.belt) M := rfl
theorem pI1 {p : Pn} {M : Sto} : subIx (encP p) (.int 1) M = okR (.int p.eye) M := rfl
theorem pI2 {p : Pn} {M : Sto} : subIx (encP p) (.int 2) M = okR (.int p.tap) M := rfl
theorem pI3 {p : Pn} {M : Sto} : subIx (encP p) (.int 3) M = okR (.tup [.int p.lag, .int p.fill]) M := rfl
theorem pI4 {p : Pn} {M : Sto} : subIx (encP p) (.int 4) M = okR (.tup [.int p.apart, .bl p.lies, .bl p.slips, .int p.need]) M := rfl
theorem isPlace_ok {p : Pn} {x : D} {M : Sto} (h : x.flat = true) : f_is_place [encP p, x] M = okR (.bl (placeD p x)) M := by
  cases hl : p.lies <;> simp [f_is_place, g_is_place, runD, encP, hl, slE, isWithin_ok h, placeD]
theorem endD_nS {p : Pn} {b c g : D} (h : isS b = false) : endD p b c g = false := by simp [endD, h]
theorem row5e (a b c e g : D) : rowD (.tup [a, b, c, e, g]) 5 = true := by simp [rowD]
theorem standD_row {p : Pn} {d : D} (h : rowD d 5 = false) : standD p d = false := by
  unfold standD
  split
  · simp [rowD] at h
  · rfl
theorem standD_a {p : Pn} {a b c e g : D} (h : rowD a p.belt = false) : standD p (.tup [a, b, c, e, g]) = false := by
  unfold standD
  split
  · rename_i as b c es g heq
    cases heq
    have : ¬ as.length = p.belt := fun hc => by simp [rowD, hc] at h
    simp [this]
  · rfl
theorem standD_e {p : Pn} {a b c e g : D} (h : rowD e p.lag = false) : standD p (.tup [a, b, c, e, g]) = false := by
  unfold standD
  split
  · rename_i as b c es g heq
    cases heq
    have : ¬ es.length = p.lag := fun hc => by simp [rowD, hc] at h
    simp [this]
  · rfl
theorem fits_ok {p : Pn} {d : D} {M : Sto} (hp : p.Ok) (h : d.flat = true) : f_fits [encP p, d] M = okR (.bl (standD p d)) M := by
  have b2 := hp.b2; have l1 := hp.l1
  by_cases c5 : rowD d 5 = true
  · obtain ⟨a, b, c, e, g, rfl⟩ := row5 c5
    obtain ⟨ha, hb, hc, he, hg⟩ := flat5 h
    cases ca : rowD a p.belt with
    | false => simp [f_fits, g_fits, runD, encP, isRow_ok h, isRow_ok ha, c5, ca, standD_a]
    | true =>
      obtain ⟨as, rfl, la⟩ := row_inv ca
      cases ce : rowD e p.lag with
      | false => simp [f_fits, g_fits, runD, encP, isRow_ok h, isRow_ok ha, isRow_ok he, c5, ca, ce, standD_e]
      | true =>
        obtain ⟨es, rfl, le⟩ := row_inv ce
        have hA : ∀ (δ : Ev), 3 ≤ δ.length → δ[0]? = some (some (encP p)) → lcL (.one 2) gYes (gCallN 2 f_is_place (DL.gCons (gVar 0) (DL.gCons (gVar 2) DL.gNil))) δ as [] M = okR (.lst (as.map fun x => .bl (placeD p x))) M := by
          intro δ hl h0
          refine lc_map _ (by omega) fun x hx => ?_
          have h1 : (δ.set 2 (some x))[0]? = some (some (encP p)) := by rw [List.getElem?_set_ne (by decide), h0]
          have h2 : (δ.set 2 (some x))[2]? = some (some x) := List.getElem?_set_self (by omega)
          simp [h1, h2, isPlace_ok (flat_tup.mp ha x hx)]
        have hE : ∀ (δ : Ev), 3 ≤ δ.length → lcL (.one 2) gYes (gUn (isiF "bool") (gVar 2)) δ es [] M = okR (.lst (es.map fun x => .bl (isB x))) M := by
          intro δ hl
          refine lc_map _ (by omega) fun x hx => ?_
          have h2 : (δ.set 2 (some x))[2]? = some (some x) := List.getElem?_set_self (by omega)
          simp [h2, isiB_ok (flat_tup.mp he x hx)]
        have e0 := hA (wipeD [some (encP p), some (.tup [.tup as, b, c, .tup es, g]), none] [2]) (by simp [wipeD]) rfl
        have e1 := hE (wipeD [some (encP p), some (.tup [.tup as, b, c, .tup es, g]), none] [2]) (by simp [wipeD])
        have hst : standD p (.tup [.tup as, b, c, .tup es, g]) = (as.all (placeD p) && es.all isB && endD p b c g) := by
          simp [standD, la, le]
        rw [hst]
        simp only [wipeD, List.set] at e0 e1
        simp [f_fits, g_fits, runD, isRow_ok h, c5, wipeD]
        have hge : isB g = isB g := rfl
        cases q1 : as.all (placeD p) <;> cases q2 : es.all isB <;> simp [pI0, pI3, pI4, isRow_ok ha, isRow_ok he, ca, ce, e0, e1, all_ok, q1, q2, isiS_ok hb, wipeD]
        cases qb : isS b with
        | false => simp [endD_nS qb]
        | true =>
          obtain ⟨x, rfl⟩ : ∃ x, b = .str x := by cases b <;> simp_all [isS]
          cases qg : within g 0 p.apart with
          | false => simp [isWithin_ok hg, qg, endD, pI4]
          | true =>
            by_cases q3 : x = ("runs" : Str)
            · simp [isWithin_ok hg, qg, endD, q3, eq_str, isWithin_ok hc, isS, pI3, pI4]
            · by_cases q4 : x = ("fills" : Str)
              · simp [isWithin_ok hg, qg, endD, q3, q4, eq_str, isWithin_ok hc, isS, st_fr, pI3, pI4]
              · simp [isWithin_ok hg, qg, endD, q3, q4, eq_str, isWithin_ok hc, isS, pI3, pI4]
  · have c' : rowD d 5 = false := by simpa using c5
    simp [f_fits, g_fits, runD, isRow_ok h, c', standD_row]
theorem lookPlan_ok {p : Pn} {M : Sto} (hp : p.Ok) : f_look_at_plan [encP p] M = okR .non M := by
  have h := isPlan_ok (M := M) (encP_nc (B := 10) (p := p) (by decide)).flat
  rw [planD_enc hp] at h
  simp [f_look_at_plan, g_look_at_plan, runD, h]
theorem isStand_ok {p : Pn} {d : D} {M : Sto} (hp : p.Ok) (h : d.flat = true) : f_is_stand [encP p, d] M = okR (.bl (standD p d)) M := by
  simp [f_is_stand, g_is_stand, runD, lookPlan_ok hp, fits_ok hp h]
theorem firstStand_ok {p : Pn} {M : Sto} (hp : p.Ok) : f_first_stand [encP p] M = okR (encS (beginS p)) M := by
  simp [f_first_stand, g_first_stand, runD, lookPlan_ok hp, beginOf_ok hp]
/-- a loop that looks for a bad one -/
theorem forL_all {t : GG} {s : GS} (P : D → Bool) (I : Ev → Prop) (r : D) {M : Sto} : ∀ {ds : List D} {δ : Ev}, (∀ d ∈ ds, ∀ δ, I δ → ∃ δ1, t d δ M = okR δ1 M ∧ I δ1 ∧ s δ1 M = if P d then some (.nx δ1 M) else some (.rt r M)) → I δ →
    (ds.all P = true ∧ ∃ δ', forL t s ds δ M = some (.nx δ' M) ∧ I δ') ∨ (ds.all P = false ∧ forL t s ds δ M = some (.rt r M))
  | [], δ, _, hI => .inl ⟨rfl, δ, rfl, hI⟩
  | d :: ds, δ, h, hI => by
    obtain ⟨δ1, h1, h2, h3⟩ := h d List.mem_cons_self δ hI
    cases e : P d with
    | true =>
      rw [e, if_pos rfl] at h3
      rcases forL_all P I r (fun x hx => h x (List.mem_cons_of_mem _ hx)) h2 with ⟨q1, δ', q2, q3⟩ | ⟨q1, q2⟩
      · exact .inl ⟨by simp [e, q1], δ', by simp only [forL, h1, bindS_ok, h3]; exact q2, q3⟩
      · exact .inr ⟨by simp [e, q1], by simp only [forL, h1, bindS_ok, h3]; exact q2⟩
    | false =>
      rw [e, if_neg Bool.false_ne_true] at h3
      exact .inr ⟨by simp [e], by simp only [forL, h1, bindS_ok, h3]⟩
theorem ne_lst {B n : Nat} {l : List D} {M : Sto} (h : Nc B n (.lst l)) (hd : n ≤ 60) : neF (.lst l) (.lst []) M = okR (.bl (!l.isEmpty)) M := by
  have h1 := h.okk (by omega)
  have h2 : (D.lst []).okk = true := by simp [D.okk, D.flat, D.flatL, D.dep, D.depL]
  have h3 : D.eqv (.lst l) (.lst []) = l.isEmpty := by cases l <;> simp [D.eqv, D.eqvL]
  simp [neF, eqR, D.scal, D.now, h1, h2, h3]
theorem filt_all (q : D → Bool) : ∀ l : List D, (l.filter fun x => !q x).isEmpty = l.all q
  | [] => rfl
  | a :: l => by cases e : q a <;> simp [e, filt_all q l]
theorem Nc.five {B n : Nat} {a b c e g : D} (h : Nc B n (.tup [a, b, c, e, g])) : ∃ m, n = m + 1 ∧ Nc B m a ∧ Nc B m b ∧ Nc B m c ∧ Nc B m e ∧ Nc B m g := by
  cases h
  rename_i m hl hx
  exact ⟨m, rfl, hx a (by simp), hx b (by simp), hx c (by simp), hx e (by simp), hx g (by simp)⟩
theorem notIn_rf {x : Str} {M : Sto} : notInF (.str x) (.lst [.str "runs", .str "fills"]) M = okR (.bl (!(decide (x = "runs") || decide (x = "fills")))) M := by
  simp [notInF, inR, D.itsV, D.seqV, D.lstV, D.isScal, D.eqv]
  by_cases h : x = ("runs" : Str)
  · simp [h]
  · by_cases h' : x = ("fills" : Str)
    · simp [h']
    · simp [h, h', Ne.symm h, Ne.symm h']
theorem goodStand_ok {p : Pn} {B n : Nat} {d : D} {M : Sto} (hp : p.Ok) (hn : Nc B n d) (hn2 : n ≤ 50) : f__law_good_stand [encP p, d] M = okR (.bl (standD p d)) M := by
  have h := hn.flat
  have b2 := hp.b2; have l1 := hp.l1
  by_cases c5 : rowD d 5 = true
  · obtain ⟨a, b, c, e, g, rfl⟩ := row5 c5
    obtain ⟨ha, hb, hc, he, hg⟩ := flat5 h
    cases ca : rowD a p.belt with
    | false => simp [f__law_good_stand, g__law_good_stand, runD, encP, lawMade_ok h, lawMade_ok ha, c5, ca, standD_a]
    | true =>
      obtain ⟨as, rfl, la⟩ := row_inv ca
      cases ce : rowD e p.lag with
      | false => simp [f__law_good_stand, g__law_good_stand, runD, encP, lawMade_ok h, lawMade_ok ha, lawMade_ok he, c5, ca, ce, standD_e]
      | true =>
        obtain ⟨es, rfl, le⟩ := row_inv ce
        have hst : standD p (.tup [.tup as, b, c, .tup es, g]) = (as.all (placeD p) && es.all isB && endD p b c g) := by
          simp [standD, la, le]
        rw [hst]
        simp [f__law_good_stand, g__law_good_stand, runD, encP, lawMade_ok h, lawMade_ok ha, lawMade_ok he, c5, ca, ce]
        obtain ⟨m, rfl, na, nb, nc, ne, ng⟩ := hn.five
        generalize hδ : [some (D.tup [D.int ↑p.belt, D.int ↑p.eye, D.int ↑p.tap, D.tup [D.int ↑p.lag, D.int ↑p.fill], D.tup [D.int ↑p.apart, D.bl p.lies, D.bl p.slips, D.int ↑p.need]]),
            some (D.tup [D.tup as, b, c, D.tup es, g]), some (D.int ↑p.belt), some (D.int ↑p.eye), some (D.int ↑p.tap),
            some (D.int ↑p.lag), some (D.int ↑p.fill), some (D.int ↑p.apart), some (D.bl p.lies), some (D.bl p.slips),
            some (D.int ↑p.need), none] = δ0
        have hloop := forL_all (t := DL.gName 11) (s := gIfS
            (gTOr
              (gTNot
                (gTst
                  (gCallN 3 f__law_int
                    (DL.gCons (gVar 11)
                      (DL.gCons (gUn negF (gC (D.int 2))) (DL.gCons (gOp addF (gVar 10) (gC (D.int 1))) DL.gNil))))))
              (gTAnd (gTst (gOp eqF (gVar 11) (gUn negF (gC (D.int 2))))) (gTNot (gTst (gVar 8)))))
            (gRet (gC (D.bl false))) gNext) (placeD p) (fun δ => ∃ x, δ = δ0.set 11 x) (.bl false) (M := M) (ds := as) (δ := δ0) (by
          intro x hx δ ⟨y, hy⟩
          have hxf := flat_tup.mp ha x hx
          subst hδ
          simp only [List.set] at hy
          subst hy
          refine ⟨_, rfl, ⟨some x, rfl⟩, ?_⟩
          cases hw : within x (-2) (p.need + 1) with
          | false =>
            have : placeD p x = false := by
              unfold placeD
              cases x <;> simp [within] at hw ⊢
              rename_i i
              intro hi
              have := hw (by split at hi <;> omega)
              exact this
            simp [lawInt_ok hxf, hw, this]
          | true =>
            obtain ⟨i, rfl, w1, w2⟩ := within_inv hw
            have hpl : placeD p (.int i) = !(decide (i = -2) && !p.lies) := by
              cases hl : p.lies <;> simp [placeD, hl, within]
              · rw [Bool.eq_iff_iff]
                simp
                omega
              · omega
            by_cases hi : i = -2
            · subst hi
              cases hl : p.lies <;> simp [lawInt_ok hxf, hw, hpl, eq_int, hl]
            · cases hl : p.lies <;> simp [lawInt_ok hxf, hw, hpl, eq_int, hi, hl]) ⟨none, by subst hδ; rfl⟩
        rcases hloop with ⟨qa, δ', hr, y, hy⟩ | ⟨qa, hr⟩
        · subst hδ
          simp only [List.set] at hy
          subst hy
          rw [hr, qa]
          have hE : ∀ (δ : Ev), 12 ≤ δ.length → lcL (.one 11) (gTNot (gTst (gUn (isiF "bool") (gVar 11)))) (gVar 11) δ es [] M = okR (.lst (es.filter fun x => !isB x)) M := by
            intro δ hl
            have := lc_bad (δ := δ) (i := 11) (tt := gTNot (gTst (gUn (isiF "bool") (gVar 11)))) (te := gVar 11) (ds := es) (M := M) isB (fun x => x) (by omega) (fun x hx => by
              have h2 : (δ.set 11 (some x))[11]? = some (some x) := List.getElem?_set_self (by omega)
              simp [h2, isiB_ok (flat_tup.mp he x hx)]) (fun x hx => by
              have h2 : (δ.set 11 (some x))[11]? = some (some x) := List.getElem?_set_self (by omega)
              simp [h2])
            simpa using this
          have hbn : Nc B m (.lst (es.filter fun x => !isB x)) := by
            cases ne
            rename_i m hl hx
            exact .lst (Nat.le_trans (List.length_filter_le _ _) hl) fun x hx' => hx x (List.mem_filter.mp hx').1
          have hne := ne_lst (M := M) hbn (by omega)
          rw [filt_all] at hne
          simp [slE]
          rw [hE _ (by simp [wipeD])]
          cases qe : es.all isB <;> simp [slE, hne, qe]
          cases qg : within g 0 p.apart with
          | false => simp [lawInt_ok hg, qg, endD]
          | true =>
            simp [lawInt_ok hg, qg]
            cases qb : isS b with
            | false => simp [isiS_ok hb, qb, endD_nS qb]
            | true =>
              obtain ⟨x, rfl⟩ : ∃ x, b = .str x := by cases b <;> simp_all [isS]
              by_cases q3 : x = ("runs" : Str)
              · subst q3
                simp [isiS_ok hb, qb, notIn_rf, endD, isS, qg, eq_str, st_rf, lawInt_ok hc, slE]
              · by_cases q4 : x = ("fills" : Str)
                · subst q4
                  simp [isiS_ok hb, qb, notIn_rf, endD, isS, qg, eq_str, st_fr, lawInt_ok hc, slE]
                · simp [isiS_ok hb, qb, notIn_rf, endD, isS, qg, eq_str, q3, q4, lawInt_ok hc, slE]
        · rw [hr, qa]
          simp
  · have c' : rowD d 5 = false := by simpa using c5
    simp [f__law_good_stand, g__law_good_stand, runD, encP, lawMade_ok h, c', standD_row]
end EB
/-! PH: loops, walks, choices -/
namespace EB
open PySem PySem.Spec L2 DL
variable [inst : Pw]
theorem rng_len : ∀ {a : Int} {n : Nat}, (rngD a n).length = n := by
  intro a n
  simp [rngD]
theorem bents {B n k m : Nat} {d : D} {δ : Ev} {e : GE} {M : Sto} (hB : 10 ≤ B) (hB2 : B ≤ 100000) (hd : Nc B n d) (hn : n < 8) (hm : m ≤ 1000) (hs : IsSp k M) (h2 : δ[2]? = some (some (.cel k))) (he : ∀ x M, e (δ.set 8 x) M = okR d M) :
    ∃ l M', lcL (.one 8) gYes (gCallN 2 (f__law_bent 8) (DL.gCons (gVar 2) (DL.gCons e DL.gNil))) δ (rngD 0 m) [] M = okR (.lst l) M' ∧ (∀ y ∈ l, Nc (B + 1) (n + 1) y) ∧ IsSp k M' ∧ l.length ≤ m := by
  obtain ⟨l, M', h1, h3, h4, h5⟩ := lcL_inv (T := .one 8) (tt := gYes) (te := gCallN 2 (f__law_bent 8) (DL.gCons (gVar 2) (DL.gCons e DL.gNil))) (δ := δ) (IsSp k) (Nc (B + 1) (n + 1)) (ds := rngD 0 m) (acc := []) (M := M) (by
    intro x _ M hs
    obtain ⟨r, M', q1, q2, q3⟩ := bent_ok hB (by omega) (f := 8) hd hn (by omega) hs
    have h2' : (δ.set 8 (some x))[2]? = some (some (.cel k)) := by rw [List.getElem?_set_ne (by decide), h2]
    exact ⟨_, rfl, .inr ⟨M, r, M', rfl, by simp [h2', he, q1], q2, q3.is⟩⟩) hs (by simp) (by rw [rng_len, slE]; simp; omega)
  exact ⟨l, M', h1, h3, h4, by rw [rng_len] at h5; simpa using h5⟩
theorem goodPlan_enc {p : Pn} {M : Sto} (hp : p.Ok) : f__law_good_plan [encP p] M = okR (.bl true) M := by
  rw [lawGoodPlan_ok (encP_nc (B := 10) (p := p) (by decide)).flat, planD_enc hp]
theorem list_tupF {l : List D} {M : Sto} : listF [.tup l] M = okR (.lst l) M := rfl
theorem nc_list {B n : Nat} {l : List D} (h : Nc B (n + 1) (.tup l)) : Nc B (n + 1) (.lst l) := by
  cases h
  rename_i h1 h2
  exact .lst h1 h2
def prow (p : Pn) : D := .tup [.int p.lag, .int p.fill]
theorem prow_nc {B n : Nat} {p : Pn} (hB : 10 ≤ B) : Nc B (n + 1) (prow p) := .tup (by simp; omega) (by intro x hx; simp at hx; rcases hx with rfl | rfl <;> exact .int _)
theorem pI3r {p : Pn} {M : Sto} : subIx (encP p) (.int 3) M = okR (prow p) M := rfl
theorem list_encP {p : Pn} {M : Sto} : ∃ l, encP p = .tup l ∧ listF [encP p] M = okR (.lst l) M ∧ l.length ≤ 10 := ⟨_, rfl, rfl, by simp⟩
theorem forL_pure {t : GG} {s : GS} (I : Ev → Prop) {M : Sto} {ds : List D} {δ : Ev} (h : ∀ d ∈ ds, ∀ δ, I δ → ∃ δ1 δ2, t d δ M = okR δ1 M ∧ s δ1 M = some (.nx δ2 M) ∧ I δ2) (hI : I δ) : ∃ δ', forL t s ds δ M = some (.nx δ' M) ∧ I δ' := by
  obtain ⟨δ', M', h1, h2, h3⟩ := forL_inv (t := t) (s := s) (fun δ M' => I δ ∧ M' = M) (ds := ds) (δ := δ) (M := M) (by
    rintro d hd δ M' ⟨hI, rfl⟩
    obtain ⟨δ1, δ2, q1, q2, q3⟩ := h d hd δ hI
    exact ⟨δ1, _, δ2, _, q1, .inl q2, q3, rfl⟩) ⟨hI, rfl⟩
  subst h3
  exact ⟨δ', h1, h2⟩
theorem twins_bl2 {a b : Bool} {M : Sto} : f__law_twins 8 [.lst [.bl a, .bl b], .lst [.bl a, .bl b]] M = okR (.bl true) M := by
  refine twins_refl (B := 10) (by decide) (n := 1) (.lst (by simp) ?_) (by decide)
  intro x hx
  simp at hx
  rcases hx with rfl | rfl <;> exact .bl _
theorem twins_bl {a : Bool} {M : Sto} : f__law_twins 8 [.bl a, .bl a] M = okR (.bl true) M := twins_refl (B := 10) (by decide) (n := 1) (.bl _) (by decide)
theorem stand_nc {p : Pn} {s : Sd} (hp : p.Ok) (hs : s.Ok p) : Nc 10 2 (encS s) := by
  have := hp.b2; have := hp.l1; have := hs.len; have := hs.mem
  exact encS_nc (by omega) (by omega) (by decide)
theorem list_encS {s : Sd} {M : Sto} : ∃ l, encS s = .tup l ∧ listF [encS s] M = okR (.lst l) M ∧ l.length ≤ 10 := ⟨_, rfl, rfl, by simp⟩
/-- a choice picked among those of a stand, and the tick -/
theorem walk_ok {p : Pn} {s : Sd} {k : Nat} {M : Sto} (hp : p.Ok) (hs : s.Ok p) (hk : IsSp k M) : ∃ r c M1, c ∈ chs p s ∧ f__law_pick [.cel k, .int (chs p s).length] M = okR (.int r) M1 ∧ subIx (.lst ((chs p s).map encC)) (.int r) M1 = okR (encC c) M1 ∧
    Sp k M M1 := by
  have hne : 1 ≤ (chs p s).length ∧ (chs p s).length ≤ 3 := by
    unfold chs
    repeat' split
    all_goals simp
  obtain ⟨r, M1, e1, a1, b1, s1⟩ := pick_ok hk (m := (chs p s).length) (by omega) (by omega)
  obtain ⟨i, rfl⟩ : ∃ i : Nat, r = i := ⟨r.toNat, by omega⟩
  have hi : i < (chs p s).length := by omega
  refine ⟨i, (chs p s)[i], M1, List.getElem_mem hi, e1, ?_, s1⟩
  rw [lst_ix]
  simp [atI, L2.ixN, hi]
theorem lcIn_map {δ : Ev} {i : Nat} {te : GE} {M : Sto} (q : D → D) : ∀ {ds acc : List D}, acc.length + ds.length ≤ sizeLine → (∀ d ∈ ds, te (δ.set i (some d)) M = okR (q d) M) → lcIn (.one i) gYes te δ ds acc M = okR (acc ++ ds.map q) M
  | [], acc, _, _ => by simp [lcIn]
  | d :: ds, acc, hl, h => by
    rw [List.length_cons] at hl
    have h1 := h d List.mem_cons_self
    have ih := lcIn_map (te := te) q (ds := ds) (acc := acc ++ [q d]) (by simp; omega) fun x hx => h x (List.mem_cons_of_mem _ hx)
    simp only [lcIn, TGC.d, gYes, noEx_ok, bindR_ok, if_true, h1, if_pos (show acc.length < sizeLine by omega), ih]
    simp
theorem lc2_map {δ : Ev} {i j : Nat} {gi : GI} {te : GE} {vs : List Nat} {M : Sto} (es : D → List D) (q : D → D → D) : ∀ {ds acc : List D}, acc.length + (ds.flatMap es).length ≤ sizeLine →
    (∀ d ∈ ds, gi (δ.set i (some d)) M = okR (es d) M ∧ ∀ x ∈ es d, te ((wipeD (δ.set i (some d)) vs).set j (some x)) M = okR (q d x) M) → lc2L (.one i) gYes gi (.one j) gYes te vs δ ds acc M = okR (.lst (acc ++ ds.flatMap fun d => (es d).map (q d))) M
  | [], acc, _, _ => by simp [lc2L]
  | d :: ds, acc, hl, h => by
    simp only [List.flatMap_cons, List.length_append] at hl
    obtain ⟨h1, h2⟩ := h d List.mem_cons_self
    have hi := lcIn_map (te := te) (δ := wipeD (δ.set i (some d)) vs) (i := j) (M := M) (q d) (ds := es d) (acc := acc) (by omega) h2
    have ih := lc2_map (δ := δ) (te := te) (vs := vs) (j := j) es q (ds := ds) (acc := acc ++ (es d).map (q d)) (by simp at hl ⊢; omega) fun x hx => h x (List.mem_cons_of_mem _ hx)
    simp only [lc2L, TGC.d, gYes, noEx_ok, bindR_ok, if_true, h1, hi, ih]
    simp
theorem b62 (n : Int) (h : 0 ≤ n) (hn : n ≤ 1000000) : -(2 ^ 62) ≤ n ∧ n < 2 ^ 62 := by
  have : -4611686018427387904 ≤ n ∧ n < 4611686018427387904 := by omega
  simpa using this
theorem rng1_ok {gl : GA} {δ : Ev} {M M1 : Sto} {j : Int} {n : Nat} (h : gl δ M = okR [.int j] M1) (hj : j = n) (hn : n ≤ 1000000) : gRng1 gl δ M = okR (rngD 0 n) M1 := by
  have hb := b62 j (by omega) (by omega)
  have e : j.toNat = n := by omega
  simp only [gRng1, h, bindR_ok]
  rw [if_pos hb, e]
theorem seq_nx {a b : GS} {δ δ' : Ev} {M M' : Sto} (h : a δ M = some (.nx δ' M')) : gSeq a b δ M = b δ' M' := by
  rw [gSeq, h]
  rfl
theorem forL_ix {t : GG} {s : GS} (I : Nat → Ev → Sto → Prop) (N : Nat) : ∀ {ds : List D} {i : Nat} {δ : Ev} {M : Sto}, (∀ d i δ M, d ∈ ds → i < N → I i δ M → ∃ δ1 M1 δ2 M2, t d δ M = okR δ1 M1 ∧ s δ1 M1 = some (.nx δ2 M2) ∧ I (i + 1) δ2 M2) →
    I i δ M → i + ds.length = N → ∃ δ' M', forL t s ds δ M = some (.nx δ' M') ∧ I N δ' M'
  | [], i, δ, M, _, hI, hN => ⟨δ, M, rfl, by simp at hN; rw [← hN]; exact hI⟩
  | d :: ds, i, δ, M, h, hI, hN => by
    rw [List.length_cons] at hN
    obtain ⟨δ1, M1, δ2, M2, h1, h2, h3⟩ := h d i δ M List.mem_cons_self (by omega) hI
    obtain ⟨δ', M', q1, q2⟩ := forL_ix I N (fun x i δ M hx => h x i δ M (List.mem_cons_of_mem _ hx)) h3 (by omega)
    refine ⟨δ', M', ?_, q2⟩
    simp only [forL, h1, bindS_ok, h2]
    exact q1
theorem for_rng {gl : GA} {t : GG} {s : GS} {δ : Ev} {M M1 : Sto} {j : Int} {n : Nat} (h : gl δ M = okR [.int j] M1) (hj : j = n) (hn : n ≤ 1000000) : gFor (gRng1 gl) t s δ M = forL t s (rngD 0 n) δ M1 := by
  simp only [gFor, rng1_ok h hj hn, bindS_ok]
/-- a law's outer loop: over its cells -/
theorem head_ok {s_b : GS} {N L : Nat} {ns : List Int} (hN : N ≤ 60) (hb : ∀ (i : Nat) (r : Ev) (M : Sto), i < 100 → r.length = L → ∃ r' M', s_b (some (.ro (ns.map .int)) :: some (.int i) :: r) M = some (.nx (some (.ro (ns.map .int)) :: some (.int i) :: r') M') ∧ r'.length = L) :
    ∃ x r M, gFor (gRng1 (DL.gCons (gOp addF (gCall minF (DL.gCons (gCall lenF (DL.gCons (gVar 0) DL.gNil)) (DL.gCons (gC (.int (N : Nat))) DL.gNil))) (gC (.int 1))) DL.gNil)) (DL.gName 1) s_b (some (.ro (ns.map .int)) :: none :: List.replicate L none) [] = some (.nx (some (.ro (ns.map .int)) :: x :: r) M) ∧ r.length = L := by
  have hlen : lenF [.ro (ns.map .int)] [] = okR (.int ns.length) [] := by simp [lenF, D.seqV]
  obtain ⟨δ, M, h1, x, r, rfl, hr⟩ := forL_inv (t := DL.gName 1) (s := s_b) (fun δ M => ∃ x r, δ = some (.ro (ns.map .int)) :: x :: r ∧ r.length = L) (ds := rngD 0 (min ns.length N + 1)) (δ := some (.ro (ns.map .int)) :: none :: List.replicate L none) (M := []) (by
    rintro d hd δ M ⟨x, r, rfl, hr⟩
    obtain ⟨i, hi, rfl⟩ := List.mem_map.mp hd
    have hi : i < min ns.length N + 1 := List.mem_range.mp hi
    obtain ⟨r', M', q, hq⟩ := hb i r M (by omega) hr
    have e : (0 : Int) + (i : Int) = i := by omega
    exact ⟨_, _, _, M', rfl, .inl (by rw [e]; exact q), _, _, rfl, hq⟩) ⟨_, _, rfl, by simp⟩
  refine ⟨x, r, M, ?_, hr⟩
  have hm : min (ns.length : Int) (N : Int) + 1 = ((min ns.length N + 1 : Nat) : Int) := by omega
  rw [← h1, gFor, rng1_ok (n := min ns.length N + 1) (j := min (ns.length : Int) (N : Int) + 1) (M1 := []) (by simp [hlen, min_int]) hm (by omega)]
  rfl
/-! ### choices -/
theorem eqv_encC {a b : Ch} : D.eqv (encC a) (encC b) = decide (a = b) := by
  obtain ⟨i, x⟩ := a
  obtain ⟨j, y⟩ := b
  simp only [encC, D.eqv, D.eqvL, Bool.and_true]
  rw [Bool.eq_iff_iff]
  simp
  intro _
  omega
theorem chs_len {p : Pn} {s : Sd} : (chs p s).length ≤ 3 := by
  unfold chs
  repeat' split
  all_goals simp
theorem encC_nc {B : Nat} (hB : 10 ≤ B) (c : Ch) : Nc B 1 (encC c) := .tup (by simp; omega) (by intro x hx; simp at hx; rcases hx with rfl | rfl; exact .int _; exact .bl _)
theorem chs_nc {B : Nat} {p : Pn} {s : Sd} (hB : 10 ≤ B) : Nc B 2 (.lst ((chs p s).map encC)) := .lst (by have := chs_len (p := p) (s := s); simp; omega) (by
  intro x hx
  obtain ⟨c, _, rfl⟩ := List.mem_map.mp hx
  exact encC_nc hB c)
/-- whether a value is one of some choices -/
def likeD (d : D) (l : List Ch) : Bool := match d with
  | .tup [.int i, .bl b] => decide (0 ≤ i ∧ i ≤ 2) && l.any fun c => decide ((c.1 : Int) = i ∧ c.2 = b)
  | _ => false
theorem likeD_row {d : D} {l : List Ch} (h : rowD d 2 = false) : likeD d l = false := by
  unfold likeD
  split
  · simp [rowD] at h
  · rfl
theorem isLike_ok {d : D} {n : Nat} {p : Pn} {s : Sd} {M : Sto} (hd : Nc 100 n d) (hn : n ≤ 50) : f_is_like [d, .lst ((chs p s).map encC)] M = okR (.bl (likeD d (chs p s))) M := by
  have hf := hd.flat
  by_cases c2 : rowD d 2 = true
  · obtain ⟨a, b, rfl⟩ := row2 c2
    obtain ⟨ha, hb⟩ := flat2 hf
    have hlen : ∀ M, lenF [.tup [a, b]] M = okR (.int 2) M := fun M => rfl
    have ht : isiF "tuple" (.tup [a, b]) M = okR (.bl true) M := by simp [isiF, D.tyN, subTy]
    cases hw : within a 0 2 with
    | false =>
      have : likeD (.tup [a, b]) (chs p s) = false := by
        cases a <;> cases b <;> simp [likeD, within] at hw ⊢
        intro h1 h2
        omega
      simp [f_is_like, g_is_like, runD, ht, hlen, ne_int, isWithin_ok ha, hw, this]
    | true =>
      obtain ⟨i, rfl, h1, h2⟩ := within_inv hw
      cases qb : isB b with
      | false =>
        have : likeD (.tup [.int i, b]) (chs p s) = false := by
          cases b <;> simp [isB] at qb <;> simp [likeD]
        simp [f_is_like, g_is_like, runD, ht, hlen, ne_int, isWithin_ok ha, hw, isiB_ok hb, qb, this]
      | true =>
        obtain ⟨x, rfl⟩ : ∃ x, b = .bl x := by cases b <;> simp_all [isB]
        have hin : inF (.tup [.int i, .bl x]) (.lst ((chs p s).map encC)) M = okR (.bl (likeD (.tup [.int i, .bl x]) (chs p s))) M := by
          have k1 := hd.okk (by omega)
          have k2 := (chs_nc (p := p) (s := s) (B := 10) (by decide)).okk (by decide)
          have k3 : (D.tup [.int i, .bl x]).isScal = false := rfl
          simp only [inF, inR, D.itsV, D.seqV, D.lstV, k3, Bool.false_and, Bool.false_eq_true, if_false, k1, k2, Bool.and_self, if_true]
          congr 2
          rw [List.any_map]
          simp only [likeD]
          rw [decide_eq_true ⟨h1, h2⟩, Bool.true_and]
          congr 1
          funext c
          obtain ⟨j, y⟩ := c
          simp only [Function.comp, encC, D.eqv, D.eqvL, Bool.and_true]
          rw [Bool.eq_iff_iff]
          simp
        simp [f_is_like, g_is_like, runD, ht, hlen, ne_int, isWithin_ok ha, hw, isiB_ok hb, isB, hin]
  · have c' : rowD d 2 = false := by simpa using c2
    rw [likeD_row c']
    cases hd with
    | tup hl hx =>
      rename_i m l
      have : ¬ (l.length : Int) = 2 := by simpa [rowD] using c'
      simp [f_is_like, g_is_like, runD, isiF, D.tyN, subTy, lenF, ne_int, this]
    | _ => simp [f_is_like, g_is_like, runD, isiF, D.tyN, subTy]
theorem likeD_mem {c : Ch} {l : List Ch} (h : c ∈ l) (hc : c.1 ≤ 2) : likeD (encC c) l = true := by
  simp only [likeD, encC, Bool.and_eq_true, decide_eq_true_eq, List.any_eq_true]
  exact ⟨by omega, c, h, by simp⟩
theorem standD_enc {p : Pn} {s : Sd} (hp : p.Ok) (hs : s.Ok p) : standD p (encS s) = true := by
  have h1 := hs.len; have h2 := hs.mem; have h3 := hs.snc; have h4 := hs.cnt; have hr := hs.rng
  simp only [encS, standD, List.length_map, h1, h2, decide_true, Bool.true_and, Bool.and_eq_true, List.all_eq_true]
  refine ⟨⟨?_, ?_⟩, ?_⟩
  · intro x hx
    obtain ⟨i, hi, rfl⟩ := List.mem_map.mp hx
    have := hr i hi
    exact within_int.mpr this
  · intro x hx
    obtain ⟨i, hi, rfl⟩ := List.mem_map.mp hx
    rfl
  · have hg : within (.int s.since) 0 p.apart = true := within_int.mpr (by omega)
    cases hf : s.fills
    · simp only [hf, Bool.false_eq_true, if_false] at h4
      have : within (.int s.count) 0 0 = true := within_int.mpr (by omega)
      simp [endD, phase, isS, hg, this]
    · simp only [hf, if_true] at h4
      have : within (.int s.count) 1 p.fill = true := within_int.mpr (by omega)
      simp [endD, phase, isS, hg, this, st_fr]
theorem lookStand_ok {p : Pn} {s : Sd} {M : Sto} (hp : p.Ok) (hs : s.Ok p) : f_look_at_stand [encP p, encS s] M = okR .non M := by
  have h := fits_ok (M := M) hp (stand_nc hp hs).flat
  rw [standD_enc hp hs] at h
  simp [f_look_at_stand, g_look_at_stand, runD, h]
theorem choicesAt_ok {p : Pn} {s : Sd} {M : Sto} (hp : p.Ok) (hs : s.Ok p) : f_choices_at [encP p, encS s] M = okR (.lst ((chs p s).map encC)) M := by
  simp [f_choices_at, g_choices_at, runD, lookPlan_ok hp, lookStand_ok hp hs, choicesOf_ok hs]
theorem lookChoice_ok {p : Pn} {s : Sd} {c : Ch} {M : Sto} (hp : p.Ok) (hs : s.Ok p) (hc : c ∈ chs p s) : f_look_at_choice [encP p, encS s, encC c] M = okR .non M := by
  have h := isLike_ok (M := M) (p := p) (s := s) (encC_nc (B := 100) (by decide) c) (by decide)
  rw [likeD_mem hc (chs_le hc).1] at h
  simp [f_look_at_choice, g_look_at_choice, runD, lookPlan_ok hp, lookStand_ok hp hs, choicesOf_ok hs, h]
theorem after_ok {p : Pn} {s : Sd} {c : Ch} {M : Sto} (hp : p.Ok) (hs : s.Ok p) (hc : c ∈ chs p s) : f_after [encP p, encS s, encC c] M = okR (encS (tickM p s c).1) M := by
  simp [f_after, g_after, runD, lookChoice_ok hp hs hc, passed_ok hp hs (chs_le hc).1]
theorem told_ok {p : Pn} {s : Sd} {c : Ch} {M : Sto} (hp : p.Ok) (hs : s.Ok p) (hc : c ∈ chs p s) : f_told [encP p, encS s, encC c] M = okR (encW (tickM p s c).2) M := by
  simp [f_told, g_told, runD, lookChoice_ok hp hs hc, passed_ok hp hs (chs_le hc).1]
/-- the words: plain strings -/
theorem outW_ok {p : Pn} {x : Int} : ∀ w ∈ outW p x, PySem.PyData.strOk w = true := by
  intro w hw
  unfold outW at hw
  repeat' split at hw
  all_goals simp at hw
  all_goals (subst hw; decide +kernel)
theorem encW_nc {B n : Nat} {w : List Str} (hl : w.length ≤ B) (h : ∀ x ∈ w, PySem.PyData.strOk x = true) : Nc B (n + 1) (encW w) := .lst (by simpa using hl) (by
  intro x hx
  obtain ⟨y, hy, rfl⟩ := List.mem_map.mp hx
  exact .str _ (h y hy))
theorem tickW_ok {p : Pn} {s : Sd} {c : Ch} : (tickM p s c).2.length ≤ 2 ∧ ∀ x ∈ (tickM p s c).2, PySem.PyData.strOk x = true := by
  have hw : ∀ x, (outW p x).length ≤ 2 ∧ ∀ y ∈ outW p x, PySem.PyData.strOk y = true := fun x => ⟨Nat.le_trans outW_len (by decide), outW_ok⟩
  have kw : ∀ w : List Str, w.length ≤ 1 → (∀ x ∈ w, PySem.PyData.strOk x = true) → (sortS (w ++ [("spills" : Str)])).length ≤ 2 ∧ ∀ x ∈ sortS (w ++ [("spills" : Str)]), PySem.PyData.strOk x = true := by
    intro w hl h
    refine ⟨?_, fun x hx => ?_⟩
    · rw [(sortS_perm _).length_eq]
      simp only [List.length_append, List.length_cons, List.length_nil]
      omega
    · rcases List.mem_append.mp ((sortS_perm _).mem_iff.mp hx) with h' | h'
      · exact h x h'
      · have : x = ("spills" : Str) := by simpa using h'
        subst this
        decide +kernel
  unfold tickM
  cases s.fills
  · exact hw _
  · cases c.2
    · simp only [if_true, Bool.false_eq_true, if_false]
      split
      · simp
      · exact kw [] (by simp) (by simp)
    · simp only [if_true]
      split
      · exact hw _
      · exact kw _ outW_len outW_ok
theorem tickW_nc {p : Pn} {s : Sd} {c : Ch} {B n : Nat} (hB : 10 ≤ B) : Nc B (n + 1) (encW (tickM p s c).2) := encW_nc (by have := (tickW_ok (p := p) (s := s) (c := c)).1; omega) tickW_ok.2
end EB
/-! PI: twins exactly; runs -/
namespace EB
open PySem PySem.Spec L2 DL
variable [inst : Pw]
def kindD : D → Int
  | .non => 0 | .bl _ => 1 | .lst _ => 2 | .tup _ => 3 | .int _ => 4 | .str _ => 5 | _ => 6
mutual
/-- the same data, kinds and all -/
def same : D → D → Bool
  | .non, .non => true
  | .bl a, .bl b => decide (a = b)
  | .int i, .int j => decide (i = j)
  | .str x, .str y => decide (x = y)
  | .tup l, .tup m => sameL l m
  | .lst l, .lst m => sameL l m
  | _, _ => false
def sameL : List D → List D → Bool
  | [], [] => true
  | a :: l, b :: m => same a b && sameL l m
  | _, _ => false
end
theorem kind_ok {B n : Nat} {d : D} {M : Sto} (h : Nc B n d) : f__law_kind [d] M = okR (.int (kindD d)) M := by
  cases h with
  | non => exact kind_non
  | bl b => exact kind_bl
  | int i => exact kind_int
  | str x _ => exact kind_str
  | tup _ _ => exact kind_tup
  | lst _ _ => exact kind_lst
theorem same_kind {B n m : Nat} {a b : D} (h : Nc B n a) (h' : Nc B m b) (e : kindD a ≠ kindD b) : same a b = false := by
  cases h <;> cases h' <;> first | rfl | exact absurd rfl e
theorem sameL_zip : ∀ {l m : List D}, l.length = m.length → sameL l m = ((l.zip m).all fun p => same p.1 p.2)
  | [], [], _ => rfl
  | a :: l, b :: m, h => by
    simp only [sameL, List.zip_cons_cons, List.all_cons]
    rw [sameL_zip (by simpa using h)]
  | [], _ :: _, h => by simp at h
  | _ :: _, [], h => by simp at h
theorem sameL_len : ∀ {l m : List D}, l.length ≠ m.length → sameL l m = false
  | [], [], h => absurd rfl h
  | a :: l, b :: m, h => by
    simp only [sameL, sameL_len (l := l) (m := m) (by simpa using h), Bool.and_false]
  | [], _ :: _, _ => rfl
  | _ :: _, [], _ => rfl
theorem ones_nil {q : D × D → Bool} {M : Sto} : ∀ {l : List (D × D)}, l.length ≤ 1000000 → eqF (.lst (l.filterMap fun p => if q p then none else some (.int 1))) (.lst []) M = okR (.bl (l.all q)) M := by
  intro l hl
  have hn : Nc 1000000 1 (.lst (l.filterMap fun p => if q p then none else some (.int 1))) := by
    refine .lst (Nat.le_trans (List.length_filterMap_le _ _) hl) fun x hx => ?_
    obtain ⟨p, _, hp⟩ := List.mem_filterMap.mp hx
    split at hp
    · cases hp
    · cases hp; exact .int _
  have h1 := hn.okk (by decide)
  have h2 : (D.lst []).okk = true := by simp [D.okk, D.flat, D.flatL, D.dep, D.depL]
  have h3 : ∀ l : List (D × D), (l.filterMap fun p => if q p then none else some (D.int 1)).isEmpty = l.all q := by
    intro l
    induction l with
    | nil => rfl
    | cons a l ih => cases e : q a <;> simp [e, ← ih]
  have h4 : ∀ m : List D, D.eqv (.lst m) (.lst []) = m.isEmpty := by intro m; cases m <;> simp [D.eqv, D.eqvL]
  simp only [eqF, eqR, D.scal, D.now, h1, h2, Bool.and_self, if_true, h4, h3]
theorem twins_ex {B : Nat} (hB : B ≤ 1000000) : ∀ {f n m : Nat} {a b : D} {M : Sto}, Nc B n a → Nc B m b → n < f → f__law_twins f [a, b] M = okR (.bl (same a b)) M
  | 0, n, m, a, b, M, _, _, h => absurd h (by omega)
  | f + 1, n, m, a, b, M, ha, hb, h => by
    have hz : ∀ (n m : Nat) (l k : List D) (δ : Ev) (M : Sto), n < f → l.length ≤ B → (∀ x ∈ l, Nc B n x) → (∀ x ∈ k, Nc B m x) → 4 ≤ δ.length → lcL (.many [2, 3]) (gTNot (gTst (gCallN 2 (f__law_twins f) (DL.gCons (gVar 2) (DL.gCons (gVar 3) DL.gNil))))) (gC (.int 1)) δ ((l.zip k).map fun p => D.tup [p.1, p.2]) [] M = okR (.lst ((l.zip k).filterMap fun p => if same p.1 p.2 then none else some (.int 1))) M := by
      intro n m l k δ M hn hl hx hy hδ
      have := lcL_pure (T := .many [2, 3]) (tt := gTNot (gTst (gCallN 2 (f__law_twins f) (DL.gCons (gVar 2) (DL.gCons (gVar 3) DL.gNil))))) (te := gC (.int 1)) (δ := δ) (fun d => match d with | .tup [x, y] => if same x y then none else some (.int 1) | _ => none) (ds := (l.zip k).map fun p => D.tup [p.1, p.2]) (acc := []) (M := M) (by
        intro d hd
        obtain ⟨p, hp, rfl⟩ := List.mem_map.mp hd
        have ih := twins_ex hB (M := M) (hx p.1 (List.of_mem_zip hp).1) (hy p.2 (List.of_mem_zip hp).2) hn
        refine ⟨_, rfl, ?_⟩
        have h2 : ((δ.set 2 (some p.1)).set 3 (some p.2))[2]? = some (some p.1) := by
          rw [List.getElem?_set_ne (by decide), List.getElem?_set_self (by omega)]
        have h3 : ((δ.set 2 (some p.1)).set 3 (some p.2))[3]? = some (some p.2) := by
          rw [List.getElem?_set_self (by simp; omega)]
        cases e : same p.1 p.2 <;> simp [setMany, h2, h3, ih, e]) (by simp [slE]; omega)
      rw [this]
      simp only [List.nil_append, List.filterMap_map, Function.comp_def]
    by_cases hk : kindD a = kindD b
    · cases ha with
      | non => cases hb <;> first | (simp [kindD] at hk; done) | simp [f__law_twins, g__law_twins, runD, kind_non, ne_int, in23_n, slE, eqF, eqR, D.scal, same]
      | bl x => cases hb <;> first | (simp [kindD] at hk; done) | simp [f__law_twins, g__law_twins, runD, kind_bl, ne_int, in23_n, slE, eqF, eqR, D.scal, same]
      | int i => cases hb <;> first | (simp [kindD] at hk; done) | simp [f__law_twins, g__law_twins, runD, kind_int, ne_int, in23_n, slE, eqF, eqR, D.scal, same]
      | str x hx => cases hb <;> first | (simp [kindD] at hk; done) | simp [f__law_twins, g__law_twins, runD, kind_str, ne_int, in23_n, slE, eqF, eqR, D.scal, same]
      | tup hl hx =>
        cases hb <;> first | (simp [kindD] at hk; done) | skip
        rename_i n l m k hl2 hy
        by_cases hlen : l.length = k.length
        · have e1 := ones_nil (q := fun p => same p.1 p.2) (M := M) (l := l.zip k) (by simp; omega)
          simp [f__law_twins, g__law_twins, runD, kind_tup, ne_int, in23_3, slE, lenF, eq_int, wipeD, hlen]
          rw [hz n m l k _ M (by omega) hl hx hy (by simp)]
          simp [slE, e1, same, sameL_zip hlen]
        · have hlen2 : ¬ (l.length : Int) = k.length := by omega
          simp [f__law_twins, g__law_twins, runD, kind_tup, ne_int, in23_3, slE, lenF, eq_int, wipeD, hlen2, same, sameL_len hlen]
      | lst hl hx =>
        cases hb <;> first | (simp [kindD] at hk; done) | skip
        rename_i n l m k hl2 hy
        by_cases hlen : l.length = k.length
        · have e1 := ones_nil (q := fun p => same p.1 p.2) (M := M) (l := l.zip k) (by simp; omega)
          simp [f__law_twins, g__law_twins, runD, kind_lst, ne_int, in23_2, slE, lenF, eq_int, wipeD, hlen, D.seqV, D.lstV]
          rw [hz n m l k _ M (by omega) hl hx hy (by simp)]
          simp [slE, e1, same, sameL_zip hlen]
        · have hlen2 : ¬ (l.length : Int) = k.length := by omega
          simp [f__law_twins, g__law_twins, runD, kind_lst, ne_int, in23_2, slE, lenF, eq_int, wipeD, hlen2, same, sameL_len hlen, D.seqV, D.lstV]
    · simp [f__law_twins, g__law_twins, runD, kind_ok ha, kind_ok hb, ne_int, hk, same_kind ha hb hk]
/-! ### runs -/
def chOf : D → Ch
  | .tup [.int i, .bl b] => (i.toNat, b)
  | _ => (0, false)
/-- the ticks of some choices, as far as they are choices -/
def stepsD (p : Pn) : Sd → List D → List (Sd × List Str)
  | _, [] => []
  | s, d :: ds => if likeD d (chs p s) = true then tickM p s (chOf d) :: stepsD p (tickM p s (chOf d)).1 ds else []
theorem likeD_is {d : D} {l : List Ch} (h : likeD d l = true) : chOf d ∈ l ∧ d = encC (chOf d) := by
  unfold likeD at h
  split at h
  · rename_i i b
    simp only [Bool.and_eq_true, decide_eq_true_eq, List.any_eq_true] at h
    obtain ⟨⟨h1, h2⟩, c, hc, h3, h4⟩ := h
    have e : chOf (.tup [.int i, .bl b]) = c := by
      obtain ⟨j, y⟩ := c
      simp only [chOf] at h3 h4 ⊢
      subst h4
      rw [← h3]
      simp
    rw [e]
    refine ⟨hc, ?_⟩
    obtain ⟨j, y⟩ := c
    simp only at h3 h4
    rw [← h3, ← h4]
    rfl
  · cases h
theorem chOf_enc {c : Ch} : chOf (encC c) = c := by
  obtain ⟨j, y⟩ := c
  simp [chOf, encC]
def encT (t : Sd × List Str) : D := .tup [encS t.1, encW t.2]
theorem cel_app {n : Nat} {M : Sto} {l : List D} {g : GE} {δ : Ev} {v : D} {i : Nat} (h : δ[i]? = some (some (.cel n))) (hm : M[n]? = some (.lst l)) (hg : g δ M = okR v M) (hl : l.length < sizeLine) : gApp (gVar i) g δ M = okR .non (M.set n (.lst (l ++ [v]))) := by
  simp [gApp, h, hm, hg, hl]
theorem steps_len {p : Pn} : ∀ {ds : List D} {s : Sd}, (stepsD p s ds).length ≤ ds.length
  | [], s => Nat.le_refl _
  | d :: ds, s => by
    unfold stepsD
    split
    · have := steps_len (p := p) (ds := ds) (s := (tickM p s (chOf d)).1)
      simp only [List.length_cons]
      omega
    · simp
end EB
/-! PJ: steps_of, runs -/
namespace EB
open PySem PySem.Spec L2 DL
variable [inst : Pw]
def s_steps_of_0  : GS := (gAsg (gLstC DL.gNil) (DL.gName 3))
def s_steps_of_1_b_0  : GS := (gIfS (gTNot (gTst (gCallN 2 f_is_like (DL.gCons (gVar 4) (DL.gCons (gCallN 2 f_choices_of (DL.gCons (gVar 0) (DL.gCons (gVar 1) DL.gNil))) DL.gNil))))) (gRetF (gVar 3)) gNext)
def s_steps_of_1_b_1  : GS := (gExpr (gApp (gVar 3) (gCallN 3 f_passed (DL.gCons (gVar 0) (DL.gCons (gVar 1) (DL.gCons (gVar 4) DL.gNil))))))
def s_steps_of_1_b_2  : GS := (gAsg (gOp subIx (gOp subIx (gVar 3) (gUn negF (gC (.int 1)))) (gC (.int 0))) (DL.gName 1))
def s_steps_of_1_b  : GS := (gSeq s_steps_of_1_b_0 (gSeq s_steps_of_1_b_1 s_steps_of_1_b_2))
def s_steps_of_1  : GS := (gFor (gItT (gVar 2)) (DL.gName 4) s_steps_of_1_b)
def s_steps_of_2  : GS := (gRetF (gVar 3))
def s_steps_of  : GS := (gSeq s_steps_of_0 (gSeq s_steps_of_1 s_steps_of_2))
theorem s_steps_of_eq  : g_steps_of = s_steps_of := rfl
def s_fits_run_0  : GS := (gIfS (gTOr (gTNot (gTst (gUn (isiF "tuple") (gVar 1)))) (gTst (gOp gtF (gCall lenF (DL.gCons (gVar 1) DL.gNil)) (gC (.int 60))))) (gRet (gC (.bl false))) gNext)
def s_fits_run_1  : GS := (gRet (gOp eqF (gCall lenF (DL.gCons (gCallN 3 f_steps_of (DL.gCons (gVar 0) (DL.gCons (gCallN 1 f_begin_of (DL.gCons (gVar 0) DL.gNil)) (DL.gCons (gVar 1) DL.gNil)))) DL.gNil)) (gCall lenF (DL.gCons (gVar 1) DL.gNil))))
def s_fits_run  : GS := (gSeq s_fits_run_0 s_fits_run_1)
theorem s_fits_run_eq  : g_fits_run = s_fits_run := rfl
theorem steps_loop {p : Pn} {C : D} {n : Nat} (hp : p.Ok) : ∀ {ds : List D} {s : Sd} {acc : List D} {x : Option D} {M : Sto}, s.Ok p → (∀ d ∈ ds, ∃ m, Nc 100 m d ∧ m ≤ 50) → M[n]? = some (.lst acc) → acc.length + ds.length ≤ 1000 →
    (forL (DL.gName 4) s_steps_of_1_b ds [some (encP p), some (encS s), some C, some (.cel n), x] M = some (.rt (.lst (acc ++ (stepsD p s ds).map encT)) (M.set n .dead)) ∨
      ∃ y z, forL (DL.gName 4) s_steps_of_1_b ds [some (encP p), some (encS s), some C, some (.cel n), x] M = some (.nx [some (encP p), y, some C, some (.cel n), z] (M.set n (.lst (acc ++ (stepsD p s ds).map encT)))))
  | [], s, acc, x, M, hs, _, hm, _ => by
    refine .inr ⟨some (encS s), x, ?_⟩
    simp only [forL, stepsD, List.map_nil, List.append_nil]
    have : M.set n (.lst acc) = M := by
      obtain ⟨h1, h2⟩ := List.getElem?_eq_some_iff.mp hm
      rw [← h2]
      exact List.set_getElem_self h1
    rw [this]
  | d :: ds, s, acc, x, M, hs, hd, hm, hl => by
    rw [List.length_cons] at hl
    have hlt : n < M.length := (List.getElem?_eq_some_iff.mp hm).1
    obtain ⟨m, hn, hm50⟩ := hd d List.mem_cons_self
    have hlk := isLike_ok (p := p) (s := s) (M := M) hn hm50
    have hco := choicesOf_ok (M := M) hs
    have hfor : ∀ r, s_steps_of_1_b [some (encP p), some (encS s), some C, some (.cel n), some d] M = r → forL (DL.gName 4) s_steps_of_1_b (d :: ds) [some (encP p), some (encS s), some C, some (.cel n), x] M = (match r with
        | some (.nx δ2 M2) => forL (DL.gName 4) s_steps_of_1_b ds δ2 M2
        | some (.ct δ2 M2) => forL (DL.gName 4) s_steps_of_1_b ds δ2 M2
        | some (.bk δ2 M2) => some (.nx δ2 M2)
        | r => r) := by
      intro r hr
      subst hr
      rfl
    cases q : likeD d (chs p s) with
    | false =>
      refine .inl ?_
      rw [q] at hlk
      have h0 : s_steps_of_1_b [some (encP p), some (encS s), some C, some (.cel n), some d] M = some (.rt (.lst acc) (M.set n .dead)) := by
        simp [s_steps_of_1_b, s_steps_of_1_b_0, hco, hlk, gRetF, hm]
      rw [hfor _ h0]
      simp [stepsD, q]
    | true =>
      rw [q] at hlk
      obtain ⟨hc, hd'⟩ := likeD_is q
      generalize chOf d = c at hc hd'
      have hpa := fun M => passed_ok (M := M) hp hs (chs_le hc).1
      have u0 : s_steps_of_1_b_0 [some (encP p), some (encS s), some C, some (.cel n), some d] M = some (.nx [some (encP p), some (encS s), some C, some (.cel n), some d] M) := by
        simp [s_steps_of_1_b_0, hco, hlk]
      have u1 : s_steps_of_1_b_1 [some (encP p), some (encS s), some C, some (.cel n), some d] M = some (.nx [some (encP p), some (encS s), some C, some (.cel n), some d] (M.set n (.lst (acc ++ [encT (tickM p s c)])))) := by
        have hlt2 : acc.length < 16777216 := by omega
        rw [hd']
        simp [s_steps_of_1_b_1, gApp, hm, hpa, slE, hlt2, encT]
      have hix : ∀ M' : Sto, (M.set n (.lst (acc ++ [encT (tickM p s c)])))[n]? = some (CO.lst (acc ++ [encT (tickM p s c)])) := fun _ => List.getElem?_set_self hlt
      have u2 : s_steps_of_1_b_2 [some (encP p), some (encS s), some C, some (.cel n), some d] (M.set n (.lst (acc ++ [encT (tickM p s c)]))) = some (.nx [some (encP p), some (encS (tickM p s c).1), some C, some (.cel n), some d] (M.set n (.lst (acc ++ [encT (tickM p s c)])))) := by
        have hix := hix M
        generalize M.set n (.lst (acc ++ [encT (tickM p s c)])) = M1 at hix ⊢
        simp [s_steps_of_1_b_2, cel_ix, hix, at_last, encT]
      have h0 : s_steps_of_1_b [some (encP p), some (encS s), some C, some (.cel n), some d] M = some (.nx [some (encP p), some (encS (tickM p s c).1), some C, some (.cel n), some d] (M.set n (.lst (acc ++ [encT (tickM p s c)])))) := by
        rw [s_steps_of_1_b, seq_nx u0, seq_nx u1, u2]
      rw [hfor _ h0]
      have ih := steps_loop (C := C) (n := n) hp (ds := ds) (s := (tickM p s c).1) (acc := acc ++ [encT (tickM p s c)]) (x := some d) (M := M.set n (.lst (acc ++ [encT (tickM p s c)]))) (tick_ok hp hs hc) (fun x hx => hd x (List.mem_cons_of_mem _ hx)) (hix M) (by simp; omega)
      have he : chOf d = c := by rw [hd', chOf_enc]
      have hst : stepsD p s (d :: ds) = tickM p s c :: stepsD p (tickM p s c).1 ds := by
        simp only [stepsD, q, if_true, he]
      rw [hst]
      simp only [List.set_set] at ih
      simpa using ih
theorem stepsOf_ok {p : Pn} {s : Sd} {ds : List D} {M : Sto} (hp : p.Ok) (hs : s.Ok p) (hd : ∀ d ∈ ds, ∃ m, Nc 100 m d ∧ m ≤ 50) (hl : ds.length ≤ 1000) : f_steps_of [encP p, encS s, .tup ds] M = okR (.lst ((stepsD p s ds).map encT)) (M ++ [.dead]) := by
  have hz : 0 ≤ sizeLine := Nat.zero_le _
  have t0 : s_steps_of_0 [some (encP p), some (encS s), some (.tup ds), none, none] M = some (.nx [some (encP p), some (encS s), some (.tup ds), some (.cel M.length), none] (M ++ [.lst []])) := by
    simp [s_steps_of_0, gLstC, hz]
  have hset : ∀ c : CO, (M ++ [CO.lst []]).set M.length c = M ++ [c] := fun c => by rw [sg_set0]; rfl
  have hl0 : ([encP p, encS s, D.tup ds].map some ++ List.replicate (5 - [encP p, encS s, D.tup ds].length) none : Ev) = [some (encP p), some (encS s), some (.tup ds), none, none] := rfl
  have hh := steps_loop (C := .tup ds) (n := M.length) hp (ds := ds) (s := s) (acc := []) (x := none) (M := M ++ [.lst []]) hs hd (by simp) (by simpa using hl)
  have h1 : ∀ r, forL (DL.gName 4) s_steps_of_1_b ds [some (encP p), some (encS s), some (.tup ds), some (.cel M.length), none] (M ++ [.lst []]) = r → s_steps_of_1 [some (encP p), some (encS s), some (.tup ds), some (.cel M.length), none] (M ++ [.lst []]) = r := by
    intro r hr
    rw [← hr]
    simp [s_steps_of_1]
  rw [f_steps_of, s_steps_of_eq, runD, hl0, s_steps_of, seq_nx t0]
  rcases hh with hh | ⟨y, z, hh⟩
  · rw [gSeq, h1 _ hh]
    simp [hset]
  · rw [seq_nx (h1 _ hh)]
    simp [s_steps_of_2, gRetF, hset]
/-! ### runs -/
def isR (p : Pn) : Sd → List Ch → Prop
  | _, [] => True
  | s, c :: cs => c ∈ chs p s ∧ isR p (tickM p s c).1 cs
def endS (p : Pn) : Sd → List Ch → Sd
  | s, [] => s
  | s, c :: cs => endS p (tickM p s c).1 cs
def stepsR (p : Pn) : Sd → List Ch → List (Sd × List Str)
  | _, [] => []
  | s, c :: cs => tickM p s c :: stepsR p (tickM p s c).1 cs
theorem isR_snoc {p : Pn} {c : Ch} : ∀ {cs : List Ch} {s : Sd}, isR p s cs → c ∈ chs p (endS p s cs) → isR p s (cs ++ [c])
  | [], s, _, h => ⟨h, trivial⟩
  | a :: cs, s, h, h' => ⟨h.1, isR_snoc h.2 h'⟩
theorem endS_snoc {p : Pn} {c : Ch} : ∀ {cs : List Ch} {s : Sd}, endS p s (cs ++ [c]) = (tickM p (endS p s cs) c).1
  | [], s => rfl
  | a :: cs, s => endS_snoc (cs := cs)
theorem stepsR_snoc {p : Pn} {c : Ch} : ∀ {cs : List Ch} {s : Sd}, stepsR p s (cs ++ [c]) = stepsR p s cs ++ [tickM p (endS p s cs) c]
  | [], s => rfl
  | a :: cs, s => by
    simp only [List.cons_append, stepsR, endS]
    rw [stepsR_snoc (cs := cs)]
theorem stepsR_len {p : Pn} : ∀ {cs : List Ch} {s : Sd}, (stepsR p s cs).length = cs.length
  | [], s => rfl
  | a :: cs, s => by simp [stepsR, stepsR_len (cs := cs)]
theorem endS_ok {p : Pn} (hp : p.Ok) : ∀ {cs : List Ch} {s : Sd}, s.Ok p → isR p s cs → (endS p s cs).Ok p
  | [], s, hs, _ => hs
  | a :: cs, s, hs, h => by
    show (endS p (tickM p s a).1 cs).Ok p
    exact endS_ok hp (tick_ok hp hs h.1) h.2
theorem stepsD_run {p : Pn} {r : List D} : ∀ {cs : List Ch} {s : Sd}, isR p s cs → stepsD p s (cs.map encC ++ r) = stepsR p s cs ++ stepsD p (endS p s cs) r
  | [], s, _ => rfl
  | a :: cs, s, h => by
    simp only [List.map_cons, List.cons_append, stepsD, likeD_mem h.1 (chs_le h.1).1, if_true, chOf_enc, stepsR, endS]
    rw [stepsD_run h.2]
theorem stepsR_last {p : Pn} : ∀ {cs : List Ch} {s : Sd}, cs ≠ [] → ∃ l t, stepsR p s cs = l ++ [t] ∧ t.1 = endS p s cs
  | [], s, h => absurd rfl h
  | [a], s, _ => ⟨[], tickM p s a, rfl, rfl⟩
  | a :: b :: cs, s, _ => by
    obtain ⟨l, t, h1, h2⟩ := stepsR_last (p := p) (cs := b :: cs) (s := (tickM p s a).1) (by simp)
    exact ⟨tickM p s a :: l, t, by rw [stepsR, h1]; rfl, h2⟩
def runD' (p : Pn) (ds : List D) : Bool := decide (ds.length ≤ 60) && decide ((stepsD p (beginS p) ds).length = ds.length)
theorem fitsRun_ok {p : Pn} {ds : List D} {M : Sto} (hp : p.Ok) (hd : ∀ d ∈ ds, ∃ m, Nc 100 m d ∧ m ≤ 50) (hl : ds.length ≤ 1000) : ∃ G, f_fits_run [encP p, .tup ds] M = okR (.bl (runD' p ds)) (M ++ G) := by
  have hs := stepsOf_ok (M := M) hp (begin_ok hp) hd hl
  by_cases h : ds.length ≤ 60
  · refine ⟨[.dead], ?_⟩
    have h' : ¬ (60 : Int) < ds.length := by omega
    simp [f_fits_run, g_fits_run, runD, isiF, D.tyN, subTy, lenF, h', beginOf_ok hp, hs, D.seqV, D.lstV, eq_int, runD', h]
    constructor <;> intro q <;> omega
  · refine ⟨[], ?_⟩
    have h' : (60 : Int) < ds.length := by omega
    simp [f_fits_run, g_fits_run, runD, isiF, D.tyN, subTy, lenF, h', runD', h]
theorem isRun_ok {p : Pn} {ds : List D} {M : Sto} (hp : p.Ok) (hd : ∀ d ∈ ds, ∃ m, Nc 100 m d ∧ m ≤ 50) (hl : ds.length ≤ 1000) : ∃ G, f_is_run [encP p, .tup ds] M = okR (.bl (runD' p ds)) (M ++ G) := by
  obtain ⟨G, h⟩ := fitsRun_ok (M := M) hp hd hl
  refine ⟨G, ?_⟩
  simp [f_is_run, g_is_run, runD, lookPlan_ok hp]
  generalize f_fits_run = F at h ⊢
  simp [h]
theorem encC_some {cs : List Ch} : ∀ d ∈ cs.map encC, ∃ m, Nc 100 m d ∧ m ≤ 50 := by
  intro d hd
  obtain ⟨c, _, rfl⟩ := List.mem_map.mp hd
  exact ⟨1, encC_nc (by decide) c, by decide⟩
theorem runD_run {p : Pn} {cs : List Ch} (h : isR p (beginS p) cs) (hl : cs.length ≤ 60) : runD' p (cs.map encC) = true := by
  have := stepsD_run (r := []) h
  simp only [List.append_nil, stepsD] at this
  simp [runD', this, stepsR_len, hl]
theorem lookRun_ok {p : Pn} {cs : List Ch} {M : Sto} (hp : p.Ok) (h : isR p (beginS p) cs) (hl : cs.length ≤ 60) : ∃ G, f_look_at_run [encP p, .tup (cs.map encC)] M = okR .non (M ++ G) := by
  obtain ⟨G, e⟩ := fitsRun_ok (M := M) hp (encC_some (cs := cs)) (by simp; omega)
  rw [runD_run h hl] at e
  refine ⟨G, ?_⟩
  simp [f_look_at_run, g_look_at_run, runD, lookPlan_ok hp]
  generalize f_fits_run = F at e ⊢
  simp [e]
theorem standBehind_ok {p : Pn} {cs : List Ch} {M : Sto} (hp : p.Ok) (h : isR p (beginS p) cs) (hl : cs.length ≤ 60) : ∃ G, f_stand_behind [encP p, .tup (cs.map encC)] M = okR (encS (endS p (beginS p) cs)) (M ++ G) := by
  obtain ⟨G, e⟩ := lookRun_ok (M := M) hp h hl
  have hs := stepsOf_ok (M := M ++ G) hp (begin_ok hp) (encC_some (cs := cs)) (by simp; omega)
  have h0 := stepsD_run (r := []) h
  simp only [List.append_nil, stepsD] at h0
  rw [h0] at hs
  refine ⟨G ++ [.dead], ?_⟩
  have hz : (stepsR p (beginS p) cs).length = cs.length := stepsR_len
  have hz2 : 1 + cs.length ≤ 16777216 := by omega
  simp [f_stand_behind, g_stand_behind, runD]
  generalize f_look_at_run = F at e ⊢
  simp [e, beginOf_ok hp]
  generalize f_steps_of = F2 at hs ⊢
  by_cases hc : cs = []
  · subst hc
    simp only [List.map_nil, stepsR] at hs
    simp [hs, slE, lst_ix, endS]
    simp [atI, L2.ixN]
  · obtain ⟨l, t, h1, h2⟩ := stepsR_last (p := p) (s := beginS p) hc
    have h3 : atI (D.tup [encS (beginS p), D.lst []] :: (l ++ [t]).map encT) (-1) = some (encT t) := by
      rw [List.map_append, ← List.cons_append]
      exact at_last
    rw [h1] at hs hz
    simp only [List.length_append, List.length_cons, List.length_nil] at hz
    have hz3 : l.length + 1 + 1 ≤ 16777216 := by omega
    have hz4 : 1 + (l.length + 1) ≤ 16777216 := by omega
    simp only [List.map_append, List.map_cons, List.map_nil] at hs h3
    simp only [encT, h2] at h3 hs
    simp [hs, slE, lst_ix, hz4, h3]
theorem words_ok {p : Pn} {cs : List Ch} {M : Sto} (hp : p.Ok) (h : isR p (beginS p) cs) (hl : cs.length ≤ 60) : ∃ G, f_words [encP p, .tup (cs.map encC)] M = okR (.lst ((stepsR p (beginS p) cs).map fun t => encW t.2)) (M ++ G) := by
  obtain ⟨G, e⟩ := lookRun_ok (M := M) hp h hl
  have hs := stepsOf_ok (M := M ++ G) hp (begin_ok hp) (encC_some (cs := cs)) (by simp; omega)
  have h0 := stepsD_run (r := []) h
  simp only [List.append_nil, stepsD] at h0
  rw [h0] at hs
  refine ⟨G ++ [.dead], ?_⟩
  have hlc := lcL_pure (T := .many [2, 3]) (tt := gYes) (te := gVar 3) (δ := [some (encP p), some (.tup (cs.map encC)), none, none]) (fun d => match d with | .tup [_, w] => some w | _ => none) (ds := (stepsR p (beginS p) cs).map encT) (acc := []) (M := M ++ G ++ [.dead]) (by
    intro d hd
    obtain ⟨t, _, rfl⟩ := List.mem_map.mp hd
    exact ⟨_, rfl, rfl, rfl⟩) (by rw [slE]; simp [stepsR_len]; omega)
  have hfm : (((stepsR p (beginS p) cs).map encT).filterMap fun d => match d with | .tup [_, w] => some w | _ => none) = (stepsR p (beginS p) cs).map fun t => encW t.2 := by
    generalize stepsR p (beginS p) cs = l
    induction l with
    | nil => rfl
    | cons a l ih => simp [encT, ← ih]
  rw [hfm] at hlc
  simp [f_words, g_words, runD]
  generalize f_look_at_run = F at e ⊢
  simp [e, beginOf_ok hp]
  generalize f_steps_of = F2 at hs ⊢
  simp [hs, itemsD, wipeD]
  simp only [List.append_assoc, List.nil_append] at hlc
  rw [hlc]
  simp
end EB
/-! PM: nets, plainly: all stands that come up, in the order of their first shortest runs -/
namespace EB
open PySem PySem.Spec L2 DL
variable [inst : Pw]
/-! ### how many stands there are -/
theorem nd_len {α : Type} [DecidableEq α] : ∀ {l m : List α}, l.Nodup → (∀ x ∈ l, x ∈ m) → l.length ≤ m.length
  | [], _, _, _ => Nat.zero_le _
  | x :: l, m, h, hs => by
    obtain ⟨h1, h2⟩ := List.nodup_cons.mp h
    have hx := hs x List.mem_cons_self
    have := nd_len (l := l) (m := m.erase x) h2 fun y hy => (List.mem_erase_of_ne (fun e => h1 (by rw [← e]; exact hy))).mpr (hs y (List.mem_cons_of_mem _ hy))
    rw [List.length_erase_of_mem hx] at this
    have hp := List.length_pos_of_mem hx
    simp only [List.length_cons]
    omega
def allL {α : Type} (ds : List α) : Nat → List (List α)
  | 0 => [[]]
  | n + 1 => ds.flatMap fun d => (allL ds n).map (d :: ·)
theorem flat_len {α β : Type} {f : α → List β} {k : Nat} : ∀ {l : List α}, (∀ x ∈ l, (f x).length = k) → (l.flatMap f).length = l.length * k
  | [], _ => by simp
  | x :: l, h => by
    have := flat_len (l := l) (f := f) (k := k) fun y hy => h y (List.mem_cons_of_mem _ hy)
    rw [List.flatMap_cons, List.length_append, this, h x List.mem_cons_self, List.length_cons, Nat.add_mul]
    omega
theorem allL_len {α : Type} {ds : List α} : ∀ n, (allL ds n).length = ds.length ^ n
  | 0 => rfl
  | n + 1 => by
    rw [allL, flat_len (k := ds.length ^ n) (fun d _ => by rw [List.length_map, allL_len n]), Nat.pow_succ, Nat.mul_comm]
theorem allL_mem {α : Type} {ds : List α} : ∀ {l : List α} {n : Nat}, l.length = n → (∀ x ∈ l, x ∈ ds) → l ∈ allL ds n
  | [], n, h, _ => by cases h; simp [allL]
  | x :: l, 0, h, _ => by simp at h
  | x :: l, n + 1, h, hs => by
    simp only [allL, List.mem_flatMap, List.mem_map]
    exact ⟨x, hs x List.mem_cons_self, l, allL_mem (by simpa using h) fun y hy => hs y (List.mem_cons_of_mem _ hy), rfl⟩
/-- all stands of a plan, and some more -/
def allS (p : Pn) : List Sd := (allL [(-2 : Int), -1, 0, 1, 2, 3, 4] p.belt).flatMap fun pl => [(false, 0), (true, 1), (true, 2), (true, 3)].flatMap fun fc => (allL [false, true] p.lag).flatMap fun m => [0, 1, 2].map fun s => (⟨pl, fc.1, fc.2, m, s⟩ : Sd)
def bnd (p : Pn) : Nat := (allS p).length
theorem bnd_eq (p : Pn) : bnd p = 7 ^ p.belt * (4 * (2 ^ p.lag * 3)) := by
  unfold bnd allS
  rw [flat_len (k := 4 * (2 ^ p.lag * 3)), allL_len]
  · rfl
  · intro pl _
    rw [flat_len (k := 2 ^ p.lag * 3)]
    · rfl
    · intro fc _
      rw [flat_len (k := 3), allL_len]
      · rfl
      · intro m _; rfl
theorem bnd_lt {p : Pn} (h : p.Ok) : bnd p ≤ 11294304 := by
  rw [bnd_eq]
  have h1 := h.b1; have h2 := h.b2; have h3 := h.l1
  have e1 : p.belt = 2 ∨ p.belt = 3 ∨ p.belt = 4 ∨ p.belt = 5 ∨ p.belt = 6 := by omega
  have e2 : p.lag = 0 ∨ p.lag = 1 ∨ p.lag = 2 ∨ p.lag = 3 := by omega
  rcases e1 with e | e | e | e | e <;> rcases e2 with e' | e' | e' | e' <;> rw [e, e'] <;> decide
theorem bnd_lt4 {p : Pn} (h : p.Ok) (hb : p.belt ≤ 4) : bnd p ≤ 300000 := by
  rw [bnd_eq]
  have h1 := h.b1; have h3 := h.l1
  have e1 : p.belt = 2 ∨ p.belt = 3 ∨ p.belt = 4 := by omega
  have e2 : p.lag = 0 ∨ p.lag = 1 ∨ p.lag = 2 ∨ p.lag = 3 := by omega
  rcases e1 with e | e | e <;> rcases e2 with e' | e' | e' | e' <;> rw [e, e'] <;> decide
theorem allS_mem {p : Pn} {s : Sd} (hp : p.Ok) (h : s.Ok p) : s ∈ allS p := by
  have hn := hp.n2; have ha := hp.a1; have hf := hp.f2
  obtain ⟨pl, f, c, m, sn⟩ := s
  simp only [allS, List.mem_flatMap, List.mem_map]
  refine ⟨pl, allL_mem h.len fun x hx => ?_, (f, c), ?_, m, allL_mem h.mem fun x _ => by cases x <;> simp, sn, ?_, rfl⟩
  · have := h.rng x hx
    have h1 : -2 ≤ x := by split at this <;> omega
    have h2 : x = -2 ∨ x = -1 ∨ x = 0 ∨ x = 1 ∨ x = 2 ∨ x = 3 ∨ x = 4 := by omega
    simp only [List.mem_cons, List.not_mem_nil, or_false]
    exact h2
  · have := h.cnt
    simp only at this
    cases f
    · have e : c = 0 := by simpa using this
      subst e; simp
    · simp only [if_true] at this
      have e : c = 1 ∨ c = 2 ∨ c = 3 := by omega
      rcases e with rfl | rfl | rfl <;> simp
  · have := h.snc
    simp only at this
    have e : sn = 0 ∨ sn = 1 ∨ sn = 2 := by omega
    rcases e with rfl | rfl | rfl <;> simp
theorem stands_len {p : Pn} {l : List Sd} (hp : p.Ok) (hn : l.Nodup) (h : ∀ s ∈ l, s.Ok p) : l.length ≤ bnd p := nd_len hn fun s hs => allS_mem hp (h s hs)
/-! ### runs -/
def follow (p : Pn) : Sd → List Ch → Option Sd
  | s, [] => some s
  | s, c :: cs => if c ∈ chs p s then follow p (tickM p s c).1 cs else none
theorem follow_app {p : Pn} : ∀ {cs ds : List Ch} {s : Sd}, follow p s (cs ++ ds) = (follow p s cs).bind fun t => follow p t ds
  | [], ds, s => rfl
  | c :: cs, ds, s => by
    simp only [List.cons_append, follow]
    split
    · exact follow_app
    · rfl
theorem follow_ok {p : Pn} (hp : p.Ok) : ∀ {cs : List Ch} {s t : Sd}, s.Ok p → follow p s cs = some t → t.Ok p
  | [], s, t, h, e => by cases e; exact h
  | c :: cs, s, t, h, e => by
    simp only [follow] at e
    split at e
    · rename_i hc
      exact follow_ok hp (tick_ok hp h hc) e
    · cases e
/-! ### the walk -/
abbrev Tk := Ch × Sd × List Str
structure PRow where
  s : Sd
  run : List Ch
  ticks : List Tk
def tkOf (p : Pn) (s : Sd) (c : Ch) : Tk := (c, tickM p s c)
def succ (p : Pn) (s : Sd) : List Tk := (chs p s).map (tkOf p s)
def addK (P : List PRow) (s : Sd) (run : List Ch) : List PRow := if s ∈ P.map (·.s) then P else P ++ [⟨s, run, []⟩]
def stepT (p : Pn) (i : Nat) (r : PRow) (c : Ch) (P : List PRow) : List PRow := addK (P.set i ⟨r.s, r.run, r.ticks ++ [tkOf p r.s c]⟩) (tickM p r.s c).1 (r.run ++ [c])
def visitL (p : Pn) (i : Nat) : List Ch → PRow → List PRow → List PRow
  | [], _, P => P
  | c :: cs, r, P => visitL p i cs ⟨r.s, r.run, r.ticks ++ [tkOf p r.s c]⟩ (stepT p i r c P)
def visit (p : Pn) (i : Nat) (P : List PRow) : List PRow := match P[i]? with
  | some r => visitL p i (chs p r.s) r P
  | none => P
def bfs (p : Pn) : Nat → Nat → List PRow → List PRow
  | 0, _, P => P
  | n + 1, i, P => if i < P.length then bfs p n (i + 1) (visit p i P) else P
/-- all stands that come up -/
def netP (p : Pn) : List PRow := bfs p (bnd p + 1) 0 [⟨beginS p, [], []⟩]
/-- what is so while row i is walked; part: its choices so far -/
structure Mid (p : Pn) (i : Nat) (part : List Ch) (P : List PRow) : Prop where
  ok : ∀ r ∈ P, r.s.Ok p
  nd : (P.map (·.s)).Nodup
  rl : ∀ (j : Nat) (r : PRow), P[j]? = some r → r.run.length ≤ j
  fo : ∀ r ∈ P, follow p (beginS p) r.run = some r.s
  done : ∀ (j : Nat) (r : PRow), j < i → P[j]? = some r → r.ticks = succ p r.s ∧ ∀ t ∈ succ p r.s, t.2.1 ∈ P.map (·.s)
  mid : ∀ (r : PRow), P[i]? = some r → r.ticks = part.map (tkOf p r.s) ∧ ∀ c ∈ part, (tickM p r.s c).1 ∈ P.map (·.s)
  rest : ∀ (j : Nat) (r : PRow), i < j → P[j]? = some r → r.ticks = []
  hd : ∃ r : PRow, P[0]? = some r ∧ r.s = beginS p ∧ r.run = []
theorem mid_begin {p : Pn} (hp : p.Ok) : Mid p 0 [] [⟨beginS p, [], []⟩] where
  ok := by simp; exact begin_ok hp
  nd := by simp
  rl := fun j r h => by
    cases j with
    | zero => simp at h; subst h; simp
    | succ j => simp at h
  fo := by simp [follow]
  done := fun j r h => by omega
  mid := fun r h => by simp at h; subst h; simp
  rest := fun j r h e => by
    cases j with
    | zero => omega
    | succ j => simp at e
  hd := ⟨_, rfl, rfl, rfl⟩
theorem map_set_s {P : List PRow} {i : Nat} {r : PRow} {t : List Tk} (h : P[i]? = some r) : (P.set i ⟨r.s, r.run, t⟩).map (·.s) = P.map (·.s) := by
  rw [List.map_set]
  apply List.ext_getElem?
  intro j
  rw [List.getElem?_set]
  split
  · rename_i e
    subst e
    have hi := (List.getElem?_eq_some_iff.mp h).1
    rw [if_pos (by simpa using hi), List.getElem?_map, h]
    rfl
  · rfl
theorem mid_step {p : Pn} {i : Nat} {part : List Ch} {P : List PRow} {r : PRow} {c : Ch} (hp : p.Ok) (h : Mid p i part P) (hr : P[i]? = some r) (hc : c ∈ chs p r.s) :
    Mid p i (part ++ [c]) (stepT p i r c P) ∧ (stepT p i r c P)[i]? = some ⟨r.s, r.run, r.ticks ++ [tkOf p r.s c]⟩ := by
  have hi := (List.getElem?_eq_some_iff.mp hr).1
  have hrm : r ∈ P := List.mem_iff_getElem?.mpr ⟨i, hr⟩
  have hs := h.ok r hrm
  have hst := tick_ok hp hs hc
  have em := map_set_s (t := r.ticks ++ [tkOf p r.s c]) hr
  generalize hP1 : P.set i ⟨r.s, r.run, r.ticks ++ [tkOf p r.s c]⟩ = P1 at em
  have hl1 : P1.length = P.length := by rw [← hP1]; simp
  have g1 : P1[i]? = some ⟨r.s, r.run, r.ticks ++ [tkOf p r.s c]⟩ := by rw [← hP1, List.getElem?_set_self hi]
  have g2 : ∀ j, j ≠ i → P1[j]? = P[j]? := fun j hj => by rw [← hP1, List.getElem?_set_ne (Ne.symm hj)]
  have mem1 : ∀ x ∈ P1, ∃ y ∈ P, x.s = y.s ∧ x.run = y.run := fun x hx => by
    obtain ⟨j, hj⟩ := List.mem_iff_getElem?.mp hx
    by_cases e : j = i
    · subst e; rw [g1] at hj; cases hj; exact ⟨r, hrm, rfl, rfl⟩
    · rw [g2 j e] at hj; exact ⟨x, List.mem_iff_getElem?.mpr ⟨j, hj⟩, rfl, rfl⟩
  have fol : follow p (beginS p) (r.run ++ [c]) = some (tickM p r.s c).1 := by
    rw [follow_app, h.fo r hrm]
    simp [follow, hc]
  have hd1 : ∃ r', P1[0]? = some r' ∧ r'.s = beginS p ∧ r'.run = [] := by
    obtain ⟨r0, a, b, d⟩ := h.hd
    by_cases e : i = 0
    · subst e; rw [hr] at a; cases a; exact ⟨_, g1, b, d⟩
    · exact ⟨r0, by rw [g2 0 (Ne.symm e)]; exact a, b, d⟩
  have rl1 : ∀ (j : Nat) (x : PRow), P1[j]? = some x → x.run.length ≤ j := fun j x hx => by
    by_cases e : j = i
    · subst e; rw [g1] at hx; cases hx; exact h.rl j r hr
    · rw [g2 j e] at hx; exact h.rl j x hx
  have base : Mid p i part P := h
  unfold stepT addK
  rw [hP1]
  split
  · rename_i hin
    refine ⟨⟨fun x hx => ?_, by rw [em]; exact h.nd, rl1, fun x hx => ?_, fun j x hj hx => ?_, fun x hx => ?_, fun j x hj hx => ?_, hd1⟩, g1⟩
    · obtain ⟨y, hy, e, _⟩ := mem1 x hx; rw [e]; exact h.ok y hy
    · obtain ⟨y, hy, e, e'⟩ := mem1 x hx; rw [e, e']; exact h.fo y hy
    · rw [g2 j (by omega)] at hx; rw [em]; exact h.done j x hj hx
    · rw [g1] at hx; cases hx
      obtain ⟨m1, m2⟩ := h.mid r hr
      rw [em] at hin ⊢
      refine ⟨by simp [m1], fun c' hc' => ?_⟩
      rcases List.mem_append.mp hc' with q | q
      · exact m2 c' q
      · obtain rfl : c' = c := by simpa using q
        exact hin
    · rw [g2 j (by omega)] at hx; exact h.rest j x hj hx
  · rename_i hin
    have gx : ∀ (j : Nat) (x : PRow), (P1 ++ [⟨(tickM p r.s c).1, r.run ++ [c], []⟩])[j]? = some x → P1[j]? = some x ∨ (j = P1.length ∧ x = ⟨(tickM p r.s c).1, r.run ++ [c], []⟩) := fun j x hx => by
      by_cases e : j < P1.length
      · rw [List.getElem?_append_left e] at hx; exact .inl hx
      · rw [List.getElem?_append_right (by omega)] at hx
        have e2 : j - P1.length = 0 := by
          have := (List.getElem?_eq_some_iff.mp hx).1
          simp at this; omega
        rw [e2] at hx; simp at hx
        exact .inr ⟨by omega, hx.symm⟩
    have sub : ∀ s, s ∈ P.map (·.s) → s ∈ (P1 ++ [(⟨(tickM p r.s c).1, r.run ++ [c], []⟩ : PRow)]).map (·.s) := fun s hs => by
      rw [List.map_append, em]; exact List.mem_append_left _ hs
    refine ⟨⟨fun x hx => ?_, ?_, fun j x hx => ?_, fun x hx => ?_, fun j x hj hx => ?_, fun x hx => ?_, fun j x hj hx => ?_, ?_⟩, ?_⟩
    · rcases List.mem_append.mp hx with q | q
      · obtain ⟨y, hy, e, _⟩ := mem1 x q; rw [e]; exact h.ok y hy
      · obtain rfl := List.mem_singleton.mp q; exact hst
    · rw [List.map_append, List.nodup_append]
      refine ⟨by rw [em]; exact h.nd, by simp, fun a ha b hb => ?_⟩
      simp at hb
      subst hb
      exact fun e => hin (e ▸ ha)
    · rcases gx j x hx with q | ⟨q1, q2⟩
      · exact rl1 j x q
      · subst q2
        have := h.rl i r hr
        simp; omega
    · rcases List.mem_append.mp hx with q | q
      · obtain ⟨y, hy, e, e'⟩ := mem1 x q; rw [e, e']; exact h.fo y hy
      · obtain rfl := List.mem_singleton.mp q; exact fol
    · rcases gx j x hx with q | ⟨q1, q2⟩
      · rw [g2 j (by omega)] at q
        obtain ⟨a, b⟩ := h.done j x hj q
        exact ⟨a, fun t ht => sub _ (b t ht)⟩
      · omega
    · rcases gx i x hx with q | ⟨q1, q2⟩
      · rw [g1] at q; cases q
        obtain ⟨m1, m2⟩ := h.mid r hr
        refine ⟨by simp [m1], fun c' hc' => ?_⟩
        rcases List.mem_append.mp hc' with q | q
        · exact sub _ (m2 c' q)
        · obtain rfl : c' = c := by simpa using q
          simp
      · omega
    · rcases gx j x hx with q | ⟨q1, q2⟩
      · rw [g2 j (by omega)] at q; exact h.rest j x hj q
      · rw [q2]
    · obtain ⟨r', a, b⟩ := hd1
      exact ⟨r', by rw [List.getElem?_append_left (by omega)]; exact a, b⟩
    · rw [List.getElem?_append_left (by omega)]; exact g1
theorem mid_visitL {p : Pn} {i : Nat} (hp : p.Ok) : ∀ {cs part : List Ch} {P : List PRow} {r : PRow}, Mid p i part P → P[i]? = some r → (∀ c ∈ cs, c ∈ chs p r.s) →
    Mid p i (part ++ cs) (visitL p i cs r P) ∧ ∃ t, (visitL p i cs r P)[i]? = some ⟨r.s, r.run, t⟩
  | [], part, P, r, h, hr, _ => ⟨by simpa [visitL] using h, r.ticks, hr⟩
  | c :: cs, part, P, r, h, hr, hc => by
    obtain ⟨h1, h2⟩ := mid_step hp h hr (hc c List.mem_cons_self)
    obtain ⟨h3, t, h4⟩ := mid_visitL hp (cs := cs) h1 h2 fun c' hc' => hc c' (List.mem_cons_of_mem _ hc')
    refine ⟨?_, t, h4⟩
    simpa [visitL] using h3
theorem mid_next {p : Pn} {i : Nat} {P : List PRow} {r : PRow} (h : Mid p i (chs p r.s) P) (hr : P[i]? = some r) : Mid p (i + 1) [] P where
  ok := h.ok
  nd := h.nd
  rl := h.rl
  fo := h.fo
  done := fun j x hj hx => by
    by_cases e : j = i
    · subst e
      rw [hr] at hx; cases hx
      obtain ⟨a, b⟩ := h.mid r hr
      refine ⟨a, fun t ht => ?_⟩
      obtain ⟨c, hc, rfl⟩ := List.mem_map.mp ht
      exact b c hc
    · exact h.done j x (by omega) hx
  mid := fun x hx => ⟨by rw [h.rest (i + 1) x (by omega) hx]; rfl, by simp⟩
  rest := fun j x hj hx => h.rest j x (by omega) hx
  hd := h.hd
theorem mid_visit {p : Pn} {i : Nat} {P : List PRow} (hp : p.Ok) (h : Mid p i [] P) (hi : i < P.length) : Mid p (i + 1) [] (visit p i P) := by
  have hr := List.getElem?_eq_getElem hi
  unfold visit
  rw [hr]
  obtain ⟨h1, t, h2⟩ := mid_visitL hp (cs := chs p P[i].s) h hr fun c hc => hc
  exact mid_next (r := ⟨P[i].s, P[i].run, t⟩) (by simpa using h1) h2
theorem Mid.len {p : Pn} {i : Nat} {part : List Ch} {P : List PRow} (hp : p.Ok) (h : Mid p i part P) : P.length ≤ bnd p := by
  have := stands_len hp h.nd fun s hs => by
    obtain ⟨r, hr, rfl⟩ := List.mem_map.mp hs
    exact h.ok r hr
  simpa using this
theorem bfs_end {p : Pn} (hp : p.Ok) : ∀ {n i : Nat} {P : List PRow}, Mid p i [] P → i ≤ P.length → bnd p + 1 ≤ n + i → ∃ k, Mid p k [] (bfs p n i P) ∧ (bfs p n i P).length ≤ k
  | 0, i, P, h, hi, hn => by have := h.len hp; omega
  | n + 1, i, P, h, hi, hn => by
    unfold bfs
    split
    · rename_i hlt
      have h2 := mid_visit hp h hlt
      refine bfs_end hp h2 ?_ (by omega)
      have hr := List.getElem?_eq_getElem hlt
      have : i < (visit p i P).length := by
        unfold visit
        rw [hr]
        obtain ⟨_, t, h3⟩ := mid_visitL hp (cs := chs p P[i].s) h hr fun c hc => hc
        exact (List.getElem?_eq_some_iff.mp h3).1
      omega
    · exact ⟨i, h, by omega⟩
/-- the whole net -/
structure Whole (p : Pn) (P : List PRow) : Prop where
  ok : ∀ r ∈ P, r.s.Ok p
  nd : (P.map (·.s)).Nodup
  rl : ∀ r ∈ P, r.run.length ≤ bnd p
  fo : ∀ r ∈ P, follow p (beginS p) r.run = some r.s
  done : ∀ r ∈ P, r.ticks = succ p r.s ∧ ∀ t ∈ succ p r.s, t.2.1 ∈ P.map (·.s)
  hd : beginS p ∈ P.map (·.s)
  len : P.length ≤ bnd p
theorem netP_whole {p : Pn} (hp : p.Ok) : Whole p (netP p) := by
  obtain ⟨k, h, hk⟩ := bfs_end hp (n := bnd p + 1) (mid_begin hp) (by simp) (by omega)
  have hl := h.len hp
  refine ⟨h.ok, h.nd, fun r hr => ?_, h.fo, fun r hr => ?_, ?_, hl⟩
  · obtain ⟨j, hj⟩ := List.mem_iff_getElem?.mp hr
    have h1 := h.rl j r hj
    have h2 := (List.getElem?_eq_some_iff.mp hj).1
    unfold netP at *
    omega
  · obtain ⟨j, hj⟩ := List.mem_iff_getElem?.mp hr
    have h2 := (List.getElem?_eq_some_iff.mp hj).1
    exact h.done j r (by unfold netP at *; omega) hj
  · obtain ⟨r, a, b, _⟩ := h.hd
    exact List.mem_map.mpr ⟨r, List.mem_iff_getElem?.mpr ⟨0, a⟩, b⟩
end EB
/-! PN: net_of and _law_ways compute the net -/
namespace EB
open PySem PySem.Spec L2 DL
variable [inst : Pw]
/-! ### stands as keys -/
def kS (s : Sd) : NestedKey := .tup [.tup (s.places.map .num), .text (if s.fills then "fills" else "runs"), .num s.count, .tup (s.mem.map fun b => .num (if b = true then 1 else 0)), .num s.since]
theorem nkL_map {α : Type} (f : α → D) (g : α → NestedKey) (h : ∀ a, nkD (f a) = some (g a)) : ∀ l : List α, nkL (l.map f) = some (l.map g)
  | [] => rfl
  | a :: l => by simp [nkL, h, nkL_map f g h l]
theorem nkS (s : Sd) : nkD (encS s) = some (kS s) := by
  have h1 := nkL_map (fun x : Int => D.int x) (fun x => NestedKey.num x) (fun a => rfl) s.places
  have h2 := nkL_map (fun x : Bool => D.bl x) (fun b => NestedKey.num (if b = true then 1 else 0)) (fun a => rfl) s.mem
  simp [encS, kS, nkD, nkL, phase, h1, h2]
theorem depthAll_num {α : Type} (f : α → Int) : ∀ l : List α, NestedKey.depthAll (l.map fun x => .num (f x)) = 0
  | [] => rfl
  | a :: l => by simp [NestedKey.depthAll, NestedKey.depth, depthAll_num f l]
theorem kS_depth (s : Sd) : (kS s).depth = 2 := by
  have h1 : NestedKey.depthAll (s.places.map .num) = 0 := depthAll_num (fun x => x) s.places
  have h2 := depthAll_num (fun b : Bool => if b = true then (1 : Int) else 0) s.mem
  simp only [kS, NestedKey.depth, NestedKey.depthAll, h1, h2]
  rfl
@[simp] theorem keyN_S (s : Sd) : keyN (encS s) = some (kS s) := by
  have h := nkS s
  have hd := kS_depth s
  unfold encS at h ⊢
  simp [keyN, h, hd]
theorem map_inj {α β : Type} {f : α → β} (h : ∀ a b, f a = f b → a = b) : ∀ {l m : List α}, l.map f = m.map f → l = m
  | [], [], _ => rfl
  | [], _ :: _, e => by simp at e
  | _ :: _, [], e => by simp at e
  | a :: l, b :: m, e => by
    simp only [List.map_cons, List.cons.injEq] at e
    rw [h a b e.1, map_inj h e.2]
theorem kS_inj {s t : Sd} (h : kS s = kS t) : s = t := by
  obtain ⟨a, b, c, d, e⟩ := s
  obtain ⟨a', b', c', d', e'⟩ := t
  simp only [kS, NestedKey.tup.injEq, List.cons.injEq, NestedKey.text.injEq, NestedKey.num.injEq, and_true] at h
  obtain ⟨h1, h2, h3, h4, h5⟩ := h
  have e1 : a = a' := map_inj (fun x y z => by cases z; rfl) h1
  have e4 : d = d' := map_inj (fun x y z => by cases x <;> cases y <;> simp at z <;> rfl) h4
  have e2 : b = b' := by
    cases b <;> cases b' <;> simp at h2 <;> first | rfl | exact absurd h2 (by decide +kernel)
  have e3 : c = c' := by omega
  have e5 : e = e' := by omega
  rw [e1, e2, e3, e4, e5]
theorem lkN_map {α : Type} (f : α → Sd) (g : α → D) (s : Sd) : ∀ R : List α, lkN (R.map fun r => (encS (f r), g r)) (kS s) = (R.find? fun r => decide (f r = s)).map g
  | [] => rfl
  | r :: R => by
    by_cases h : f r = s
    · simp [lkN, List.find?_cons, h]
    · have : ¬ kS (f r) = kS s := fun e => h (kS_inj e)
      have e : decide (keyN (encS (f r)) = some (kS s)) = false := by simp [this]
      have ih := lkN_map f g s R
      unfold lkN at ih ⊢
      rw [List.map_cons, List.find?_cons, List.find?_cons]
      simp only [e, decide_eq_false h]
      exact ih
theorem find_at {α : Type} {f : α → Sd} : ∀ {R : List α} {i : Nat} {r : α}, (R.map f).Nodup → R[i]? = some r → R.find? (fun x => decide (f x = f r)) = some r
  | [], i, r, _, h => by simp at h
  | a :: R, 0, r, _, h => by simp at h; subst h; simp [List.find?_cons]
  | a :: R, i + 1, r, hn, h => by
    simp only [List.map_cons, List.nodup_cons] at hn
    have h' : R[i]? = some r := by simpa using h
    have hne : ¬ f a = f r := fun e => hn.1 (by rw [e]; exact List.mem_map.mpr ⟨r, List.mem_iff_getElem?.mpr ⟨i, h'⟩, rfl⟩)
    rw [List.find?_cons]
    simp only [hne, decide_false]
    exact find_at hn.2 h'
theorem find_none {α : Type} {f : α → Sd} {s : Sd} {R : List α} (h : s ∉ R.map f) : R.find? (fun x => decide (f x = s)) = none := by
  rw [List.find?_eq_none]
  intro x hx
  simp only [decide_eq_true_eq]
  exact fun e => h (List.mem_map.mpr ⟨x, hx, e⟩)
theorem find_some {α : Type} {f : α → Sd} {s : Sd} {R : List α} (h : s ∈ R.map f) : ∃ x ∈ R, f x = s ∧ R.find? (fun x => decide (f x = s)) = some x := by
  cases e : R.find? (fun x => decide (f x = s)) with
  | none =>
    obtain ⟨x, hx, hs⟩ := List.mem_map.mp h
    have := List.find?_eq_none.mp e x hx
    simp [hs] at this
  | some x =>
    exact ⟨x, List.mem_of_find?_eq_some e, by simpa using List.find?_some e, rfl⟩
/-! ### what the store holds while the net is made -/
def encR (r : List Ch) : D := .tup (r.map encC)
def encK (t : Tk) : D := .tup [encC t.1, encS t.2.1, encW t.2.2]
structure Row where
  r : PRow
  cell : Nat
def kvOf (x : Row) : D × D := (encS x.r.s, .tup [encR x.r.run, .cel x.cell])
structure Rows (M0 : Sto) (nd nq : Nat) (R : List Row) (M : Sto) : Prop where
  len : M0.length ≤ M.length
  fr : ∀ k, k < M0.length → M[k]? = M0[k]?
  d0 : M0.length ≤ nd
  q0 : M0.length ≤ nq
  dq : nd ≠ nq
  dn : M[nd]? = some (.dkn (R.map kvOf))
  qu : M[nq]? = some (.lst (R.map fun x => encS x.r.s))
  cel : ∀ x ∈ R, M0.length ≤ x.cell ∧ x.cell ≠ nd ∧ x.cell ≠ nq ∧ M[x.cell]? = some (.lst (x.r.ticks.map encK))
  ndc : (R.map (·.cell)).Nodup
theorem get_lt {α : Type} {l : List α} {i : Nat} {x : α} (h : l[i]? = some x) : i < l.length := (List.getElem?_eq_some_iff.mp h).1
section
variable {M0 M : Sto} {nd nq : Nat} {R : List Row}
theorem Rows.garb {G : Sto} (h : Rows M0 nd nq R M) : Rows M0 nd nq R (M ++ G) := by
  have up : ∀ {k : Nat} {x : CO}, M[k]? = some x → (M ++ G)[k]? = some x := fun e => by rw [List.getElem?_append_left (get_lt e)]; exact e
  refine ⟨by have := h.len; simp; omega, fun k hk => ?_, h.d0, h.q0, h.dq, up h.dn, up h.qu, fun x hx => ?_, h.ndc⟩
  · rw [List.getElem?_append_left (by have := h.len; omega)]; exact h.fr k hk
  · obtain ⟨a, b, c, d⟩ := h.cel x hx
    exact ⟨a, b, c, up d⟩
theorem map_set_eq {β : Type} {f : Row → β} {i : Nat} {x y : Row} (hx : R[i]? = some x) (e : f y = f x) : (R.set i y).map f = R.map f := by
  rw [List.map_set]
  apply List.ext_getElem?
  intro j
  rw [List.getElem?_set]
  split
  · rename_i q
    subst q
    rw [if_pos (by simpa using get_lt hx), List.getElem?_map, hx, e]
    rfl
  · rfl
theorem Rows.tick {i : Nat} {x : Row} (h : Rows M0 nd nq R M) (hx : R[i]? = some x) (t : Tk) : Rows M0 nd nq (R.set i ⟨⟨x.r.s, x.r.run, x.r.ticks ++ [t]⟩, x.cell⟩) (M.set x.cell (.lst (x.r.ticks.map encK ++ [encK t]))) := by
  have hxm : x ∈ R := List.mem_iff_getElem?.mpr ⟨i, hx⟩
  obtain ⟨c1, c2, c3, c4⟩ := h.cel x hxm
  have hl := get_lt c4
  have hi := get_lt hx
  refine ⟨by simpa using h.len, fun k hk => ?_, h.d0, h.q0, h.dq, ?_, ?_, fun y hy => ?_, ?_⟩
  · rw [List.getElem?_set_ne (by omega)]; exact h.fr k hk
  · rw [List.getElem?_set_ne c2, map_set_eq (f := kvOf) (y := ⟨⟨x.r.s, x.r.run, x.r.ticks ++ [t]⟩, x.cell⟩) hx rfl]; exact h.dn
  · rw [List.getElem?_set_ne c3, map_set_eq (f := fun x => encS x.r.s) (y := ⟨⟨x.r.s, x.r.run, x.r.ticks ++ [t]⟩, x.cell⟩) hx rfl]; exact h.qu
  · obtain ⟨j, hj⟩ := List.mem_iff_getElem?.mp hy
    by_cases q : i = j
    · subst q
      rw [List.getElem?_set_self hi] at hj
      cases hj
      refine ⟨c1, c2, c3, ?_⟩
      rw [List.getElem?_set_self hl]
      simp
    · rw [List.getElem?_set_ne q] at hj
      have hym : y ∈ R := List.mem_iff_getElem?.mpr ⟨j, hj⟩
      obtain ⟨d1, d2, d3, d4⟩ := h.cel y hym
      have hne : x.cell ≠ y.cell := fun e => by
        have e1 : (R.map (·.cell))[i]? = some x.cell := by rw [List.getElem?_map, hx]; rfl
        have e2 : (R.map (·.cell))[j]? = some x.cell := by rw [List.getElem?_map, hj, e]; rfl
        exact q ((List.getElem?_inj (get_lt e1) h.ndc).mp (e1.trans e2.symm))
      exact ⟨d1, d2, d3, by rw [List.getElem?_set_ne hne]; exact d4⟩
  · rw [map_set_eq (f := (·.cell)) (y := ⟨⟨x.r.s, x.r.run, x.r.ticks ++ [t]⟩, x.cell⟩) hx rfl]; exact h.ndc
theorem Rows.new (h : Rows M0 nd nq R M) (s : Sd) (run : List Ch) : Rows M0 nd nq (R ++ [⟨⟨s, run, []⟩, M.length⟩])
    (((M ++ [CO.lst []]).set nd (CO.dkn (R.map kvOf ++ [(encS s, D.tup [encR run, D.cel M.length])]))).set nq (CO.lst (R.map (fun x : Row => encS x.r.s) ++ [encS s]))) := by
  have ld := get_lt h.dn
  have lq := get_lt h.qu
  have hl := h.len
  have hd0 := h.d0; have hq0 := h.q0
  refine ⟨by simp; omega, fun k hk => ?_, h.d0, h.q0, h.dq, ?_, ?_, fun y hy => ?_, ?_⟩
  · rw [List.getElem?_set_ne (by omega), List.getElem?_set_ne (by omega), List.getElem?_append_left (by omega)]
    exact h.fr k hk
  · rw [List.getElem?_set_ne (Ne.symm h.dq), List.getElem?_set_self (by simp; omega)]
    simp [kvOf]
  · rw [List.getElem?_set_self (by simp; omega)]
    simp
  · rcases List.mem_append.mp hy with q | q
    · obtain ⟨d1, d2, d3, d4⟩ := h.cel y q
      refine ⟨d1, d2, d3, ?_⟩
      rw [List.getElem?_set_ne (Ne.symm d3), List.getElem?_set_ne (Ne.symm d2), List.getElem?_append_left (get_lt d4)]
      exact d4
    · obtain rfl := List.mem_singleton.mp q
      refine ⟨hl, by simp only; omega, by simp only; omega, ?_⟩
      simp only
      rw [List.getElem?_set_ne (by omega), List.getElem?_set_ne (by omega)]
      simp
  · rw [List.map_append, List.nodup_append]
    refine ⟨h.ndc, by simp, fun a ha b hb => ?_⟩
    simp at hb
    subst hb
    obtain ⟨y, hy, rfl⟩ := List.mem_map.mp ha
    obtain ⟨_, _, _, d4⟩ := h.cel y hy
    have := get_lt d4
    exact fun e => by omega
theorem lk_kv {s : Sd} : lkN (R.map kvOf) (kS s) = (R.find? fun r => decide (r.r.s = s)).map fun x => .tup [encR x.r.run, .cel x.cell] := lkN_map (fun x : Row => x.r.s) (fun x => .tup [encR x.r.run, .cel x.cell]) s R
end
noncomputable def s_net_of_0  : GS := (gAsg (gCallN 1 f_begin_of (DL.gCons (gVar 0) DL.gNil)) (DL.gName 1))
noncomputable def s_net_of_1  : GS := (gPar3 2 3 4 (DL.gCons (gDict1 (gVar 1) (DL.gTup (DL.gCons (DL.gTup DL.gNil) (DL.gCons (gLstC DL.gNil) DL.gNil)))) (DL.gCons (gLstC (DL.gCons (gVar 1) DL.gNil)) (DL.gCons (gC (.int 0)) DL.gNil))))
noncomputable def s_net_of_2_b_0  : GS := (gAsg (gOp subIx (gVar 3) (gVar 4)) (DL.gName 5))
noncomputable def s_net_of_2_b_1  : GS := (gAsg (gOp addF (gVar 4) (gC (.int 1))) (DL.gName 4))
noncomputable def s_net_of_2_b_2  : GS := (gAsg (gOp subIxD (gVar 2) (gVar 5)) (gTupT 2 (gsCons (DL.gName 6) (gsCons (DL.gName 7) gsNil))))
noncomputable def s_net_of_2_b_3_b_0  : GS := (gAsg (gCallN 3 f_passed (DL.gCons (gVar 0) (DL.gCons (gVar 5) (DL.gCons (gVar 8) DL.gNil)))) (gTupT 2 (gsCons (DL.gName 9) (gsCons (DL.gName 10) gsNil))))
noncomputable def s_net_of_2_b_3_b_1  : GS := (gExpr (gApp (gVar 7) (DL.gTup (DL.gCons (gVar 8) (DL.gCons (gVar 9) (DL.gCons (gVar 10) DL.gNil))))))
noncomputable def s_net_of_2_b_3_b_2  : GS := (gIfS (gTst (gOp notInFD (gVar 9) (gVar 2))) (gSeq (gAsg (DL.gTup (DL.gCons (gOp addF (gVar 6) (DL.gTup (DL.gCons (gVar 8) DL.gNil))) (DL.gCons (gLstC DL.gNil) DL.gNil))) (gSubD (gVar 2) (gVar 9))) (gExpr (gApp (gVar 3) (gVar 9)))) gNext)
noncomputable def s_net_of_2_b_3_b  : GS := (gSeq s_net_of_2_b_3_b_0 (gSeq s_net_of_2_b_3_b_1 s_net_of_2_b_3_b_2))
noncomputable def s_net_of_2_b_3  : GS := (gFor (gItL (gCallN 2 f_choices_of (DL.gCons (gVar 0) (DL.gCons (gVar 5) DL.gNil)))) (DL.gName 8) s_net_of_2_b_3_b)
noncomputable def s_net_of_2_b  : GS := (gSeq s_net_of_2_b_0 (gSeq s_net_of_2_b_1 (gSeq s_net_of_2_b_2 s_net_of_2_b_3)))
noncomputable def s_net_of_2  : GS := (gWhile (gTst (gOp ltF (gVar 4) (gCall lenF (DL.gCons (gVar 3) DL.gNil)))) s_net_of_2_b)
noncomputable def s_net_of_3  : GS := (gRet (gFrzN (gVar 2)))
noncomputable def s_net_of  : GS := (gSeq s_net_of_0 (gSeq s_net_of_1 (gSeq s_net_of_2 s_net_of_3)))
theorem s_net_of_eq  : g_net_of = s_net_of := rfl
noncomputable def s__law_ways_0  : GS := (gAsg (gCallN 1 f__law_begin (DL.gCons (gVar 0) DL.gNil)) (DL.gName 1))
noncomputable def s__law_ways_1  : GS := (gPar3 2 3 4 (DL.gCons (gDict1 (gVar 1) (DL.gTup (DL.gCons (DL.gTup DL.gNil) (DL.gCons (gLstC DL.gNil) DL.gNil)))) (DL.gCons (gLstC (DL.gCons (gVar 1) DL.gNil)) (DL.gCons (gC (.int 0)) DL.gNil))))
noncomputable def s__law_ways_2_b_0  : GS := (gAsg (gOp subIx (gVar 3) (gVar 4)) (DL.gName 5))
noncomputable def s__law_ways_2_b_1  : GS := (gAsg (gOp addF (gVar 4) (gC (.int 1))) (DL.gName 4))
noncomputable def s__law_ways_2_b_2_b_0  : GS := (gAsg (gCallN 3 f__law_tick (DL.gCons (gVar 0) (DL.gCons (gVar 5) (DL.gCons (gVar 6) DL.gNil)))) (gTupT 2 (gsCons (DL.gName 7) (gsCons (DL.gName 8) gsNil))))
noncomputable def s__law_ways_2_b_2_b_1  : GS := (gExpr (gApp (gOp subIx (gOp subIxD (gVar 2) (gVar 5)) (gC (.int 1))) (DL.gTup (DL.gCons (gVar 6) (DL.gCons (gVar 7) (DL.gCons (gVar 8) DL.gNil))))))
noncomputable def s__law_ways_2_b_2_b_2  : GS := (gIfS (gTst (gOp notInFD (gVar 7) (gVar 2))) (gSeq (gAsg (DL.gTup (DL.gCons (gOp addF (gOp subIx (gOp subIxD (gVar 2) (gVar 5)) (gC (.int 0))) (DL.gTup (DL.gCons (gVar 6) DL.gNil))) (DL.gCons (gLstC DL.gNil) DL.gNil))) (gSubD (gVar 2) (gVar 7))) (gExpr (gApp (gVar 3) (gVar 7)))) gNext)
noncomputable def s__law_ways_2_b_2_b  : GS := (gSeq s__law_ways_2_b_2_b_0 (gSeq s__law_ways_2_b_2_b_1 s__law_ways_2_b_2_b_2))
noncomputable def s__law_ways_2_b_2  : GS := (gFor (gItL (gCallN 2 f__law_choices (DL.gCons (gVar 0) (DL.gCons (gVar 5) DL.gNil)))) (DL.gName 6) s__law_ways_2_b_2_b)
noncomputable def s__law_ways_2_b  : GS := (gSeq s__law_ways_2_b_0 (gSeq s__law_ways_2_b_1 s__law_ways_2_b_2))
noncomputable def s__law_ways_2  : GS := (gWhile (gTst (gOp ltF (gVar 4) (gCall lenF (DL.gCons (gVar 3) DL.gNil)))) s__law_ways_2_b)
noncomputable def s__law_ways_3  : GS := (gRet (gFrzN (gVar 2)))
noncomputable def s__law_ways  : GS := (gSeq s__law_ways_0 (gSeq s__law_ways_1 (gSeq s__law_ways_2 s__law_ways_3)))
theorem s__law_ways_eq  : g__law_ways = s__law_ways := rfl
section
variable {M0 M : Sto} {nd nq : Nat} {R : List Row} {p : Pn} {i : Nat} {part : List Ch} {x : Row} {c : Ch}
theorem map_r (R : List Row) : (R.map (·.r)).map (·.s) = R.map fun x => x.r.s := by rw [List.map_map]; rfl
/-- a choice more of the stand that is walked: the rows -/
theorem rows_step (hp : p.Ok) (m : Mid p i part (R.map (·.r))) (hx : R[i]? = some x) (hc : c ∈ chs p x.r.s) : ∃ R1 : List Row, R1 = R.set i ⟨⟨x.r.s, x.r.run, x.r.ticks ++ [tkOf p x.r.s c]⟩, x.cell⟩ ∧ R1.map (fun y => y.r.s) = R.map (fun y => y.r.s) ∧ R1.length = R.length ∧ R1[i]? = some ⟨⟨x.r.s, x.r.run, x.r.ticks ++ [tkOf p x.r.s c]⟩, x.cell⟩ ∧
    ((tickM p x.r.s c).1 ∈ R.map (fun y => y.r.s) → R1.map (·.r) = stepT p i x.r c (R.map (·.r))) ∧ (∀ n, (tickM p x.r.s c).1 ∉ R.map (fun y => y.r.s) → (R1 ++ [(⟨⟨(tickM p x.r.s c).1, x.r.run ++ [c], []⟩, n⟩ : Row)]).map (·.r) = stepT p i x.r c (R.map (·.r)) ∧ R.length + 1 ≤ bnd p) := by
  have hi := get_lt hx
  have hx' : (R.map (·.r))[i]? = some x.r := by rw [List.getElem?_map, hx]; rfl
  refine ⟨_, rfl, map_set_eq (f := fun y => y.r.s) (y := ⟨⟨x.r.s, x.r.run, x.r.ticks ++ [tkOf p x.r.s c]⟩, x.cell⟩) hx rfl, by simp, List.getElem?_set_self hi, fun hin => ?_, fun n hin => ⟨?_, ?_⟩⟩
  · have em := map_set_s (t := x.r.ticks ++ [tkOf p x.r.s c]) hx'
    unfold stepT addK
    rw [if_pos (by rw [em, map_r]; exact hin), List.map_set]
  · have em := map_set_s (t := x.r.ticks ++ [tkOf p x.r.s c]) hx'
    unfold stepT addK
    rw [if_neg (by rw [em, map_r]; exact hin), List.map_append, List.map_set]
    rfl
  · obtain ⟨h1, _⟩ := mid_step hp m hx' hc
    have h2 := h1.len hp
    have em := map_set_s (t := x.r.ticks ++ [tkOf p x.r.s c]) hx'
    unfold stepT addK at h2
    rw [if_neg (by rw [em, map_r]; exact hin)] at h2
    simpa using h2
theorem enc_run (r : List Ch) (c : Ch) : D.tup (r.map encC ++ [encC c]) = encR (r ++ [c]) := by simp [encR]
theorem net_turn {y9 y10 : Option D} (hp : p.Ok) (h : Rows M0 nd nq R M) (m : Mid p i part (R.map (·.r))) (hx : R[i]? = some x) (hc : c ∈ chs p x.r.s) (hpl : part.length ≤ 2) {d4 : D} :
    ∃ M' R' z9 z10, s_net_of_2_b_3_b [some (encP p), some (encS (beginS p)), some (.cel nd), some (.cel nq), some d4, some (encS x.r.s), some (encR x.r.run), some (.cel x.cell), some (encC c), y9, y10] M =
      some (.nx [some (encP p), some (encS (beginS p)), some (.cel nd), some (.cel nq), some d4, some (encS x.r.s), some (encR x.r.run), some (.cel x.cell), some (encC c), z9, z10] M') ∧ Rows M0 nd nq R' M' ∧ R'.map (·.r) = stepT p i x.r c (R.map (·.r)) ∧ R'[i]? = some ⟨⟨x.r.s, x.r.run, x.r.ticks ++ [tkOf p x.r.s c]⟩, x.cell⟩ := by
  have hxm : x ∈ R := List.mem_iff_getElem?.mpr ⟨i, hx⟩
  have hx' : (R.map (·.r))[i]? = some x.r := by rw [List.getElem?_map, hx]; rfl
  have hs : x.r.s.Ok p := m.ok x.r (List.mem_map.mpr ⟨x, hxm, rfl⟩)
  have hcl := chs_le hc
  have hb := bnd_lt hp
  have hRl : R.length ≤ bnd p := by simpa using m.len hp
  have hrl := m.rl i x.r hx'
  have hi := get_lt hx
  have htl : x.r.ticks.length = part.length := by rw [(m.mid x.r hx').1]; simp
  obtain ⟨_, _, _, c4⟩ := h.cel x hxm
  have hpa := fun M => passed_ok (M := M) hp hs hcl.1
  obtain ⟨R1, eR1, hm1, hl1, hg1, hin1, hnew1⟩ := rows_step hp m hx hc
  have hR1 := h.tick hx (tkOf p x.r.s c)
  rw [← eR1] at hR1
  generalize hM1 : M.set x.cell (.lst (x.r.ticks.map encK ++ [encK (tkOf p x.r.s c)])) = M1 at hR1
  have t0 : s_net_of_2_b_3_b_0 [some (encP p), some (encS (beginS p)), some (.cel nd), some (.cel nq), some d4, some (encS x.r.s), some (encR x.r.run), some (.cel x.cell), some (encC c), y9, y10] M =
      some (.nx [some (encP p), some (encS (beginS p)), some (.cel nd), some (.cel nq), some d4, some (encS x.r.s), some (encR x.r.run), some (.cel x.cell), some (encC c), some (encS (tickM p x.r.s c).1), some (encW (tickM p x.r.s c).2)] M) := by
    simp [s_net_of_2_b_3_b_0, hpa]
  have t1 : s_net_of_2_b_3_b_1 [some (encP p), some (encS (beginS p)), some (.cel nd), some (.cel nq), some d4, some (encS x.r.s), some (encR x.r.run), some (.cel x.cell), some (encC c), some (encS (tickM p x.r.s c).1), some (encW (tickM p x.r.s c).2)] M =
      some (.nx [some (encP p), some (encS (beginS p)), some (.cel nd), some (.cel nq), some d4, some (encS x.r.s), some (encR x.r.run), some (.cel x.cell), some (encC c), some (encS (tickM p x.r.s c).1), some (encW (tickM p x.r.s c).2)] M1) := by
    have hlt : (x.r.ticks.map encK).length < sizeLine := by rw [slE]; simp; omega
    rw [← hM1]
    simp [s_net_of_2_b_3_b_1, gApp, c4, slE, encK, tkOf]
    omega
  have ld := get_lt hR1.dn
  have lq := get_lt hR1.qu
  by_cases hin : (tickM p x.r.s c).1 ∈ R.map (fun y => y.r.s)
  · have hlk : (lkN (R1.map kvOf) (kS (tickM p x.r.s c).1)).isSome = true := by
      rw [lk_kv]
      obtain ⟨y, _, _, e⟩ := find_some (f := fun y : Row => y.r.s) (R := R1) (by rw [hm1]; exact hin)
      rw [e]; rfl
    refine ⟨M1, R1, some (encS (tickM p x.r.s c).1), some (encW (tickM p x.r.s c).2), ?_, hR1, hin1 hin, hg1⟩
    rw [s_net_of_2_b_3_b, seq_nx t0, seq_nx t1]
    simp [s_net_of_2_b_3_b_2, notInFD, inRD, D.dkn, hR1.dn, hlk]
  · have hlk : lkN (R1.map kvOf) (kS (tickM p x.r.s c).1) = none := by
      rw [lk_kv, find_none (f := fun y : Row => y.r.s) (by rw [hm1]; exact hin)]
      rfl
    obtain ⟨hst, hbl⟩ := hnew1 M1.length hin
    refine ⟨_, _, some (encS (tickM p x.r.s c).1), some (encW (tickM p x.r.s c).2), ?_, hR1.new (tickM p x.r.s c).1 (x.r.run ++ [c]), hst, by rw [List.getElem?_append_left (by omega)]; exact hg1⟩
    rw [s_net_of_2_b_3_b, seq_nx t0, seq_nx t1]
    have e1 : (M1 ++ [CO.lst []])[nd]? = some (.dkn (R1.map kvOf)) := by rw [List.getElem?_append_left ld]; exact hR1.dn
    have e2 : ((M1 ++ [CO.lst []]).set nd (.dkn (R1.map kvOf ++ [(encS (tickM p x.r.s c).1, .tup [encR (x.r.run ++ [c]), .cel M1.length])])))[nq]? = some (.lst (R1.map fun x => encS x.r.s)) := by
      rw [List.getElem?_set_ne hR1.dq, List.getElem?_append_left lq]; exact hR1.qu
    have hadd : ∀ M, addF (encR x.r.run) (.tup [encC c]) M = okR (encR (x.r.run ++ [c])) M := fun M => by
      simp [encR, slE]; omega
    have b1 : R1.length < 16777216 := by omega
    simp [s_net_of_2_b_3_b_2, notInFD, inRD, D.dkn, hR1.dn, hlk, hadd, slE, gLstC, gSubD, e1, ptN, gApp, b1, e2]
theorem law_turn {y7 y8 : Option D} (hp : p.Ok) (h : Rows M0 nd nq R M) (m : Mid p i part (R.map (·.r))) (hx : R[i]? = some x) (hc : c ∈ chs p x.r.s) (hpl : part.length ≤ 2) {d4 : D} :
    ∃ M' R' z7 z8, s__law_ways_2_b_2_b [some (encP p), some (encS (beginS p)), some (.cel nd), some (.cel nq), some d4, some (encS x.r.s), some (encC c), y7, y8] M =
      some (.nx [some (encP p), some (encS (beginS p)), some (.cel nd), some (.cel nq), some d4, some (encS x.r.s), some (encC c), z7, z8] M') ∧ Rows M0 nd nq R' M' ∧ R'.map (·.r) = stepT p i x.r c (R.map (·.r)) ∧ R'[i]? = some ⟨⟨x.r.s, x.r.run, x.r.ticks ++ [tkOf p x.r.s c]⟩, x.cell⟩ := by
  have hxm : x ∈ R := List.mem_iff_getElem?.mpr ⟨i, hx⟩
  have hx' : (R.map (·.r))[i]? = some x.r := by rw [List.getElem?_map, hx]; rfl
  have hs : x.r.s.Ok p := m.ok x.r (List.mem_map.mpr ⟨x, hxm, rfl⟩)
  have hcl := chs_le hc
  have hb := bnd_lt hp
  have hRl : R.length ≤ bnd p := by simpa using m.len hp
  have hrl := m.rl i x.r hx'
  have hi := get_lt hx
  have htl : x.r.ticks.length = part.length := by rw [(m.mid x.r hx').1]; simp
  obtain ⟨G, hpa⟩ := lawTick_ok (M := M) hp hs hcl.1 hcl.2
  have h := h.garb (G := G)
  generalize hMG : M ++ G = MG at h hpa
  obtain ⟨_, _, _, c4⟩ := h.cel x hxm
  obtain ⟨R1, eR1, hm1, hl1, hg1, hin1, hnew1⟩ := rows_step hp m hx hc
  have hR1 := h.tick hx (tkOf p x.r.s c)
  rw [← eR1] at hR1
  have hnd : (R.map fun y => y.r.s).Nodup := by rw [← map_r]; exact m.nd
  have hlk0 : lkN (R.map kvOf) (kS x.r.s) = some (.tup [encR x.r.run, .cel x.cell]) := by rw [lk_kv, find_at (f := fun y : Row => y.r.s) hnd hx]; rfl
  have hlk1 : lkN (R1.map kvOf) (kS x.r.s) = some (.tup [encR x.r.run, .cel x.cell]) := by
    have := find_at (f := fun y : Row => y.r.s) (by rw [hm1]; exact hnd) hg1
    simp only at this
    rw [lk_kv, this]; rfl
  have ix1 : ∀ M, subIx (.tup [encR x.r.run, .cel x.cell]) (.int 1) M = okR (.cel x.cell) M := fun M => ix_1
  have ix0 : ∀ M, subIx (.tup [encR x.r.run, .cel x.cell]) (.int 0) M = okR (encR x.r.run) M := fun M => ix_0
  generalize hM1 : MG.set x.cell (.lst (x.r.ticks.map encK ++ [encK (tkOf p x.r.s c)])) = M1 at hR1
  have t0 : s__law_ways_2_b_2_b_0 [some (encP p), some (encS (beginS p)), some (.cel nd), some (.cel nq), some d4, some (encS x.r.s), some (encC c), y7, y8] M =
      some (.nx [some (encP p), some (encS (beginS p)), some (.cel nd), some (.cel nq), some d4, some (encS x.r.s), some (encC c), some (encS (tickM p x.r.s c).1), some (encW (tickM p x.r.s c).2)] MG) := by
    simp [s__law_ways_2_b_2_b_0, hpa]
  have t1 : s__law_ways_2_b_2_b_1 [some (encP p), some (encS (beginS p)), some (.cel nd), some (.cel nq), some d4, some (encS x.r.s), some (encC c), some (encS (tickM p x.r.s c).1), some (encW (tickM p x.r.s c).2)] MG =
      some (.nx [some (encP p), some (encS (beginS p)), some (.cel nd), some (.cel nq), some d4, some (encS x.r.s), some (encC c), some (encS (tickM p x.r.s c).1), some (encW (tickM p x.r.s c).2)] M1) := by
    rw [← hM1]
    simp [s__law_ways_2_b_2_b_1, gApp, subIxD, D.dkn, h.dn, hlk0, ix1, c4, slE, encK, tkOf]
    omega
  have ld := get_lt hR1.dn
  have lq := get_lt hR1.qu
  by_cases hin : (tickM p x.r.s c).1 ∈ R.map (fun y => y.r.s)
  · have hlk : (lkN (R1.map kvOf) (kS (tickM p x.r.s c).1)).isSome = true := by
      rw [lk_kv]
      obtain ⟨y, _, _, e⟩ := find_some (f := fun y : Row => y.r.s) (R := R1) (by rw [hm1]; exact hin)
      rw [e]; rfl
    refine ⟨M1, R1, some (encS (tickM p x.r.s c).1), some (encW (tickM p x.r.s c).2), ?_, hR1, hin1 hin, hg1⟩
    rw [s__law_ways_2_b_2_b, seq_nx t0, seq_nx t1]
    simp [s__law_ways_2_b_2_b_2, notInFD, inRD, D.dkn, hR1.dn, hlk]
  · have hlk : lkN (R1.map kvOf) (kS (tickM p x.r.s c).1) = none := by
      rw [lk_kv, find_none (f := fun y : Row => y.r.s) (by rw [hm1]; exact hin)]
      rfl
    obtain ⟨hst, hbl⟩ := hnew1 M1.length hin
    refine ⟨_, _, some (encS (tickM p x.r.s c).1), some (encW (tickM p x.r.s c).2), ?_, hR1.new (tickM p x.r.s c).1 (x.r.run ++ [c]), hst, by rw [List.getElem?_append_left (by omega)]; exact hg1⟩
    rw [s__law_ways_2_b_2_b, seq_nx t0, seq_nx t1]
    have e1 : (M1 ++ [CO.lst []])[nd]? = some (.dkn (R1.map kvOf)) := by rw [List.getElem?_append_left ld]; exact hR1.dn
    have e2 : ((M1 ++ [CO.lst []]).set nd (.dkn (R1.map kvOf ++ [(encS (tickM p x.r.s c).1, .tup [encR (x.r.run ++ [c]), .cel M1.length])])))[nq]? = some (.lst (R1.map fun x => encS x.r.s)) := by
      rw [List.getElem?_set_ne hR1.dq, List.getElem?_append_left lq]; exact hR1.qu
    have hadd : ∀ M, addF (encR x.r.run) (.tup [encC c]) M = okR (encR (x.r.run ++ [c])) M := fun M => by
      simp [encR, slE]; omega
    have b1 : R1.length < 16777216 := by omega
    simp [s__law_ways_2_b_2_b_2, notInFD, inRD, subIxD, D.dkn, hR1.dn, hlk, hlk1, ix0, hadd, slE, gLstC, gSubD, e1, ptN, gApp, b1, e2]
/-! ### the loops -/
theorem net_inner (hp : p.Ok) : ∀ {cs part : List Ch} {R : List Row} {M : Sto} {x : Row} {y8 y9 y10 : Option D} {d4 : D}, Rows M0 nd nq R M → Mid p i part (R.map (·.r)) → R[i]? = some x → (∀ c ∈ cs, c ∈ chs p x.r.s) → part.length + cs.length ≤ 3 →
    ∃ M' R' z8 z9 z10, forL (DL.gName 8) s_net_of_2_b_3_b (cs.map encC) [some (encP p), some (encS (beginS p)), some (.cel nd), some (.cel nq), some d4, some (encS x.r.s), some (encR x.r.run), some (.cel x.cell), y8, y9, y10] M =
      some (.nx [some (encP p), some (encS (beginS p)), some (.cel nd), some (.cel nq), some d4, some (encS x.r.s), some (encR x.r.run), some (.cel x.cell), z8, z9, z10] M') ∧ Rows M0 nd nq R' M' ∧ R'.map (·.r) = visitL p i cs x.r (R.map (·.r))
  | [], part, R, M, x, y8, y9, y10, d4, h, m, hx, hc, hl => ⟨M, R, y8, y9, y10, rfl, h, rfl⟩
  | c :: cs, part, R, M, x, y8, y9, y10, d4, h, m, hx, hc, hl => by
    simp only [List.length_cons] at hl
    have hx' : (R.map (·.r))[i]? = some x.r := by rw [List.getElem?_map, hx]; rfl
    obtain ⟨M1, R1, z9, z10, e1, h1, r1, g1⟩ := net_turn (d4 := d4) (y9 := y9) (y10 := y10) hp h m hx (hc c List.mem_cons_self) (by omega)
    obtain ⟨m1, _⟩ := mid_step hp m hx' (hc c List.mem_cons_self)
    rw [← r1] at m1
    obtain ⟨M2, R2, w8, w9, w10, e2, h2, r2⟩ := net_inner hp (cs := cs) (y8 := some (encC c)) (y9 := z9) (y10 := z10) (d4 := d4) h1 m1 g1 (fun c' hc' => hc c' (List.mem_cons_of_mem _ hc')) (by simp; omega)
    refine ⟨M2, R2, w8, w9, w10, ?_, h2, by rw [r2, r1]; rfl⟩
    simp only [List.map_cons, forL]
    have e0 : DL.gName 8 (encC c) [some (encP p), some (encS (beginS p)), some (.cel nd), some (.cel nq), some d4, some (encS x.r.s), some (encR x.r.run), some (.cel x.cell), y8, y9, y10] M = okR [some (encP p), some (encS (beginS p)), some (.cel nd), some (.cel nq), some d4, some (encS x.r.s), some (encR x.r.run), some (.cel x.cell), some (encC c), y9, y10] M := rfl
    rw [e0]
    simp only [bindS_ok, e1]
    exact e2
theorem law_inner (hp : p.Ok) : ∀ {cs part : List Ch} {R : List Row} {M : Sto} {x : Row} {y6 y7 y8 : Option D} {d4 : D}, Rows M0 nd nq R M → Mid p i part (R.map (·.r)) → R[i]? = some x → (∀ c ∈ cs, c ∈ chs p x.r.s) → part.length + cs.length ≤ 3 →
    ∃ M' R' z6 z7 z8, forL (DL.gName 6) s__law_ways_2_b_2_b (cs.map encC) [some (encP p), some (encS (beginS p)), some (.cel nd), some (.cel nq), some d4, some (encS x.r.s), y6, y7, y8] M =
      some (.nx [some (encP p), some (encS (beginS p)), some (.cel nd), some (.cel nq), some d4, some (encS x.r.s), z6, z7, z8] M') ∧ Rows M0 nd nq R' M' ∧ R'.map (·.r) = visitL p i cs x.r (R.map (·.r))
  | [], part, R, M, x, y6, y7, y8, d4, h, m, hx, hc, hl => ⟨M, R, y6, y7, y8, rfl, h, rfl⟩
  | c :: cs, part, R, M, x, y6, y7, y8, d4, h, m, hx, hc, hl => by
    simp only [List.length_cons] at hl
    have hx' : (R.map (·.r))[i]? = some x.r := by rw [List.getElem?_map, hx]; rfl
    obtain ⟨M1, R1, z7, z8, e1, h1, r1, g1⟩ := law_turn (d4 := d4) (y7 := y7) (y8 := y8) hp h m hx (hc c List.mem_cons_self) (by omega)
    obtain ⟨m1, _⟩ := mid_step hp m hx' (hc c List.mem_cons_self)
    rw [← r1] at m1
    obtain ⟨M2, R2, w6, w7, w8, e2, h2, r2⟩ := law_inner hp (cs := cs) (y6 := some (encC c)) (y7 := z7) (y8 := z8) (d4 := d4) h1 m1 g1 (fun c' hc' => hc c' (List.mem_cons_of_mem _ hc')) (by simp; omega)
    refine ⟨M2, R2, w6, w7, w8, ?_, h2, by rw [r2, r1]; rfl⟩
    simp only [List.map_cons, forL]
    have e0 : DL.gName 6 (encC c) [some (encP p), some (encS (beginS p)), some (.cel nd), some (.cel nq), some d4, some (encS x.r.s), y6, y7, y8] M = okR [some (encP p), some (encS (beginS p)), some (.cel nd), some (.cel nq), some d4, some (encS x.r.s), some (encC c), y7, y8] M := rfl
    rw [e0]
    simp only [bindS_ok, e1]
    exact e2
theorem at_map {α : Type} {f : α → D} {l : List α} {i : Nat} {a : α} (h : l[i]? = some a) : atI (l.map f) (i : Int) = some (f a) := atI_nat (by rw [List.getElem?_map, h]; rfl)
theorem cel_len {n : Nat} {M : Sto} {l : List D} (h : M[n]? = some (.lst l)) : lenF [.cel n] M = okR (.int l.length) M := by simp [lenF, D.seqV, D.lstV, h]
theorem cond_net {δ : Ev} {b : Bool} {L : Nat} {n : Nat} (h3 : δ[3]? = some (some (.cel n))) (h4 : δ[4]? = some (some (.int (i : Nat)))) (hm : ∃ l, M[n]? = some (.lst l) ∧ l.length = L) (hb : b = decide (i < L)) : gTst (gOp ltF (gVar 4) (gCall lenF (DL.gCons (gVar 3) DL.gNil))) δ M = okR b M := by
  obtain ⟨l, hm, rfl⟩ := hm
  have e : ((i : Int) < (l.length : Int)) ↔ i < l.length := by omega
  simp [h3, h4, cel_len hm, e, hb]
theorem net_body (hp : p.Ok) {y5 y6 y7 y8 y9 y10 : Option D} (h : Rows M0 nd nq R M) (m : Mid p i [] (R.map (·.r))) (hi : i < R.length) :
    ∃ M' R' z5 z6 z7 z8 z9 z10, s_net_of_2_b [some (encP p), some (encS (beginS p)), some (.cel nd), some (.cel nq), some (.int (i : Nat)), y5, y6, y7, y8, y9, y10] M =
      some (.nx [some (encP p), some (encS (beginS p)), some (.cel nd), some (.cel nq), some (.int ((i + 1 : Nat) : Int)), z5, z6, z7, z8, z9, z10] M') ∧ Rows M0 nd nq R' M' ∧ R'.map (·.r) = visit p i (R.map (·.r)) := by
  obtain ⟨x, hx⟩ : ∃ x, R[i]? = some x := ⟨R[i], List.getElem?_eq_getElem hi⟩
  have hx' : (R.map (·.r))[i]? = some x.r := by rw [List.getElem?_map, hx]; rfl
  have hxm : x ∈ R := List.mem_iff_getElem?.mpr ⟨i, hx⟩
  have hs : x.r.s.Ok p := m.ok x.r (List.mem_map.mpr ⟨x, hxm, rfl⟩)
  have hnd : (R.map fun y => y.r.s).Nodup := by rw [← map_r]; exact m.nd
  have hlk0 : lkN (R.map kvOf) (kS x.r.s) = some (.tup [encR x.r.run, .cel x.cell]) := by rw [lk_kv, find_at (f := fun y : Row => y.r.s) hnd hx]; rfl
  have hq : atI (R.map fun x => encS x.r.s) (i : Int) = some (encS x.r.s) := at_map hx
  obtain ⟨M', R', z8, z9, z10, e, h1, r1⟩ := net_inner (cs := chs p x.r.s) (y8 := y8) (y9 := y9) (y10 := y10) (d4 := .int ((i + 1 : Nat) : Int)) hp h m hx (fun c hc => hc) (by have := chs_len (p := p) (s := x.r.s); simp; omega)
  have t0 : s_net_of_2_b_0 [some (encP p), some (encS (beginS p)), some (.cel nd), some (.cel nq), some (.int (i : Nat)), y5, y6, y7, y8, y9, y10] M = some (.nx [some (encP p), some (encS (beginS p)), some (.cel nd), some (.cel nq), some (.int (i : Nat)), some (encS x.r.s), y6, y7, y8, y9, y10] M) := by
    simp [s_net_of_2_b_0, cel_ix, h.qu, hq]
  have t1 : s_net_of_2_b_1 [some (encP p), some (encS (beginS p)), some (.cel nd), some (.cel nq), some (.int (i : Nat)), some (encS x.r.s), y6, y7, y8, y9, y10] M = some (.nx [some (encP p), some (encS (beginS p)), some (.cel nd), some (.cel nq), some (.int ((i + 1 : Nat) : Int)), some (encS x.r.s), y6, y7, y8, y9, y10] M) := by
    simp [s_net_of_2_b_1]
  have t2 : s_net_of_2_b_2 [some (encP p), some (encS (beginS p)), some (.cel nd), some (.cel nq), some (.int ((i + 1 : Nat) : Int)), some (encS x.r.s), y6, y7, y8, y9, y10] M = some (.nx [some (encP p), some (encS (beginS p)), some (.cel nd), some (.cel nq), some (.int ((i + 1 : Nat) : Int)), some (encS x.r.s), some (encR x.r.run), some (.cel x.cell), y8, y9, y10] M) := by
    simp [s_net_of_2_b_2, subIxD, D.dkn, h.dn, hlk0]
  refine ⟨M', R', some (encS x.r.s), some (encR x.r.run), some (.cel x.cell), z8, z9, z10, ?_, h1, ?_⟩
  · rw [s_net_of_2_b, seq_nx t0, seq_nx t1, seq_nx t2]
    have hch := choicesOf_ok (M := M) hs
    simp only [s_net_of_2_b_3, gFor, gItL, gCallN, DL.gCons, DL.gNil, gVar]
    simp only [List.getElem?_cons_zero, List.getElem?_cons_succ, bindR_ok, List.length_cons, List.length_nil, if_true, hch, itemsD, bindS_ok]
    exact e
  · rw [r1]; unfold visit; rw [hx']
theorem law_body (hp : p.Ok) {y5 y6 y7 y8 : Option D} (h : Rows M0 nd nq R M) (m : Mid p i [] (R.map (·.r))) (hi : i < R.length) :
    ∃ M' R' z5 z6 z7 z8, s__law_ways_2_b [some (encP p), some (encS (beginS p)), some (.cel nd), some (.cel nq), some (.int (i : Nat)), y5, y6, y7, y8] M =
      some (.nx [some (encP p), some (encS (beginS p)), some (.cel nd), some (.cel nq), some (.int ((i + 1 : Nat) : Int)), z5, z6, z7, z8] M') ∧ Rows M0 nd nq R' M' ∧ R'.map (·.r) = visit p i (R.map (·.r)) := by
  obtain ⟨x, hx⟩ : ∃ x, R[i]? = some x := ⟨R[i], List.getElem?_eq_getElem hi⟩
  have hx' : (R.map (·.r))[i]? = some x.r := by rw [List.getElem?_map, hx]; rfl
  have hq : atI (R.map fun x => encS x.r.s) (i : Int) = some (encS x.r.s) := at_map hx
  obtain ⟨M', R', z6, z7, z8, e, h1, r1⟩ := law_inner (cs := chs p x.r.s) (y6 := y6) (y7 := y7) (y8 := y8) (d4 := .int ((i + 1 : Nat) : Int)) hp h m hx (fun c hc => hc) (by have := chs_len (p := p) (s := x.r.s); simp; omega)
  have t0 : s__law_ways_2_b_0 [some (encP p), some (encS (beginS p)), some (.cel nd), some (.cel nq), some (.int (i : Nat)), y5, y6, y7, y8] M = some (.nx [some (encP p), some (encS (beginS p)), some (.cel nd), some (.cel nq), some (.int (i : Nat)), some (encS x.r.s), y6, y7, y8] M) := by
    simp [s__law_ways_2_b_0, cel_ix, h.qu, hq]
  have t1 : s__law_ways_2_b_1 [some (encP p), some (encS (beginS p)), some (.cel nd), some (.cel nq), some (.int (i : Nat)), some (encS x.r.s), y6, y7, y8] M = some (.nx [some (encP p), some (encS (beginS p)), some (.cel nd), some (.cel nq), some (.int ((i + 1 : Nat) : Int)), some (encS x.r.s), y6, y7, y8] M) := by
    simp [s__law_ways_2_b_1]
  refine ⟨M', R', some (encS x.r.s), z6, z7, z8, ?_, h1, ?_⟩
  · rw [s__law_ways_2_b, seq_nx t0, seq_nx t1]
    have hch := lawChoices_ok (p := p) (s := x.r.s) (M := M)
    simp only [s__law_ways_2_b_2, gFor, gItL, gCallN, DL.gCons, DL.gNil, gVar]
    simp only [List.getElem?_cons_zero, List.getElem?_cons_succ, bindR_ok, List.length_cons, List.length_nil, if_true, hch, itemsD, bindS_ok]
    exact e
  · rw [r1]; unfold visit; rw [hx']
theorem visit_lt {P : List PRow} (hp : p.Ok) (m : Mid p i [] P) (hi : i < P.length) : i < (visit p i P).length := by
  have hr := List.getElem?_eq_getElem hi
  unfold visit
  rw [hr]
  obtain ⟨_, t, h3⟩ := mid_visitL hp (cs := chs p P[i].s) m hr fun c hc => hc
  exact get_lt h3
theorem net_loop (hp : p.Ok) : ∀ {n i : Nat} {R : List Row} {M : Sto} {y5 y6 y7 y8 y9 y10 : Option D}, Rows M0 nd nq R M → Mid p i [] (R.map (·.r)) → i ≤ R.length → bnd p + 1 ≤ n + i →
    ∃ M' R' k z5 z6 z7 z8 z9 z10, whileN (gTst (gOp ltF (gVar 4) (gCall lenF (DL.gCons (gVar 3) DL.gNil)))) s_net_of_2_b (n + 1) [some (encP p), some (encS (beginS p)), some (.cel nd), some (.cel nq), some (.int (i : Nat)), y5, y6, y7, y8, y9, y10] M =
      some (.nx [some (encP p), some (encS (beginS p)), some (.cel nd), some (.cel nq), some (.int (k : Nat)), z5, z6, z7, z8, z9, z10] M') ∧ Rows M0 nd nq R' M' ∧ R'.map (·.r) = bfs p n i (R.map (·.r))
  | 0, i, R, M, y5, y6, y7, y8, y9, y10, h, m, hi, hn => by
    have := m.len hp
    simp only [List.length_map] at this
    omega
  | n + 1, i, R, M, y5, y6, y7, y8, y9, y10, h, m, hi, hn => by
    have hc := cond_net (M := M) (i := i) (δ := [some (encP p), some (encS (beginS p)), some (.cel nd), some (.cel nq), some (.int (i : Nat)), y5, y6, y7, y8, y9, y10]) rfl rfl ⟨_, h.qu, rfl⟩ rfl
    rw [List.length_map] at hc
    by_cases hlt : i < R.length
    · obtain ⟨M1, R1, z5, z6, z7, z8, z9, z10, e1, h1, r1⟩ := net_body (y5 := y5) (y6 := y6) (y7 := y7) (y8 := y8) (y9 := y9) (y10 := y10) hp h m hlt
      have m1 := mid_visit hp m (by simpa using hlt)
      have hv := visit_lt hp m (by simpa using hlt)
      rw [← r1] at m1 hv
      simp only [List.length_map] at hv
      obtain ⟨M2, R2, k, w5, w6, w7, w8, w9, w10, e2, h2, r2⟩ := net_loop hp (n := n) (i := i + 1) h1 m1 (by omega) (by omega)
      refine ⟨M2, R2, k, w5, w6, w7, w8, w9, w10, ?_, h2, ?_⟩
      · rw [whileN, hc]
        simp only [bindS_ok, hlt, decide_true, if_true, e1]
        exact e2
      · rw [r2, r1]
        conv => rhs; unfold bfs
        rw [if_pos (by simpa using hlt)]
    · refine ⟨M, R, i, y5, y6, y7, y8, y9, y10, ?_, h, ?_⟩
      · rw [whileN, hc]
        simp [hlt]
      · unfold bfs; rw [if_neg (by simpa using hlt)]
theorem law_loop (hp : p.Ok) : ∀ {n i : Nat} {R : List Row} {M : Sto} {y5 y6 y7 y8 : Option D}, Rows M0 nd nq R M → Mid p i [] (R.map (·.r)) → i ≤ R.length → bnd p + 1 ≤ n + i →
    ∃ M' R' k z5 z6 z7 z8, whileN (gTst (gOp ltF (gVar 4) (gCall lenF (DL.gCons (gVar 3) DL.gNil)))) s__law_ways_2_b (n + 1) [some (encP p), some (encS (beginS p)), some (.cel nd), some (.cel nq), some (.int (i : Nat)), y5, y6, y7, y8] M =
      some (.nx [some (encP p), some (encS (beginS p)), some (.cel nd), some (.cel nq), some (.int (k : Nat)), z5, z6, z7, z8] M') ∧ Rows M0 nd nq R' M' ∧ R'.map (·.r) = bfs p n i (R.map (·.r))
  | 0, i, R, M, y5, y6, y7, y8, h, m, hi, hn => by
    have := m.len hp
    simp only [List.length_map] at this
    omega
  | n + 1, i, R, M, y5, y6, y7, y8, h, m, hi, hn => by
    have hc := cond_net (M := M) (i := i) (δ := [some (encP p), some (encS (beginS p)), some (.cel nd), some (.cel nq), some (.int (i : Nat)), y5, y6, y7, y8]) rfl rfl ⟨_, h.qu, rfl⟩ rfl
    rw [List.length_map] at hc
    by_cases hlt : i < R.length
    · obtain ⟨M1, R1, z5, z6, z7, z8, e1, h1, r1⟩ := law_body (y5 := y5) (y6 := y6) (y7 := y7) (y8 := y8) hp h m hlt
      have m1 := mid_visit hp m (by simpa using hlt)
      have hv := visit_lt hp m (by simpa using hlt)
      rw [← r1] at m1 hv
      simp only [List.length_map] at hv
      obtain ⟨M2, R2, k, w5, w6, w7, w8, e2, h2, r2⟩ := law_loop hp (n := n) (i := i + 1) h1 m1 (by omega) (by omega)
      refine ⟨M2, R2, k, w5, w6, w7, w8, ?_, h2, ?_⟩
      · rw [whileN, hc]
        simp only [bindS_ok, hlt, decide_true, if_true, e1]
        exact e2
      · rw [r2, r1]
        conv => rhs; unfold bfs
        rw [if_pos (by simpa using hlt)]
    · refine ⟨M, R, i, y5, y6, y7, y8, ?_, h, ?_⟩
      · rw [whileN, hc]
        simp [hlt]
      · unfold bfs; rw [if_neg (by simpa using hlt)]
end
/-! ### the whole -/
def kvF (r : PRow) : D × D := (encS r.s, .tup [encR r.run, .lst (r.ticks.map encK)])
def netD (p : Pn) : D := .dcn ((netP p).map fun r => encS r.s) ((netP p).map fun r => .tup [encR r.run, .lst (r.ticks.map encK)])
theorem frz_rows : ∀ {R : List Row} {M : Sto}, (∀ x ∈ R, M[x.cell]? = some (.lst (x.r.ticks.map encK))) → (R.map (·.cell)).Nodup → ∃ M', frzL (R.map kvOf) M = some (R.map (fun x => kvF x.r), M') ∧ M'.length = M.length ∧ ∀ k, k ∉ R.map (·.cell) → M'[k]? = M[k]?
  | [], M, _, _ => ⟨M, rfl, rfl, fun _ _ => rfl⟩
  | x :: R, M, h, hn => by
    simp only [List.map_cons, List.nodup_cons] at hn
    have hx := h x List.mem_cons_self
    obtain ⟨M', e, hl, hk⟩ := frz_rows (R := R) (M := M.set x.cell .dead) (fun y hy => by
      have hne : x.cell ≠ y.cell := fun e => hn.1 (by rw [e]; exact List.mem_map.mpr ⟨y, hy, rfl⟩)
      rw [List.getElem?_set_ne hne]
      exact h y (List.mem_cons_of_mem _ hy)) hn.2
    refine ⟨M', ?_, by simpa using hl, fun k hk' => ?_⟩
    · simp [frzL, frzV, kvOf, kvF, hx, e]
    · simp only [List.map_cons, List.mem_cons, not_or] at hk'
      rw [hk k hk'.2, List.getElem?_set_ne (Ne.symm hk'.1)]
/-- what was there is there -/
structure Ext (M0 M : Sto) : Prop where
  len : M0.length ≤ M.length
  fr : ∀ k, k < M0.length → M[k]? = M0[k]?
theorem Ext.refl {M : Sto} : Ext M M := ⟨Nat.le_refl _, fun _ _ => rfl⟩
theorem Ext.trans {M M1 M2 : Sto} (h : Ext M M1) (h' : Ext M1 M2) : Ext M M2 := ⟨Nat.le_trans h.len h'.len, fun k hk => (h'.fr k (Nat.lt_of_lt_of_le hk h.len)).trans (h.fr k hk)⟩
theorem Ext.app {M G : Sto} : Ext M (M ++ G) := ⟨by simp, fun k hk => by rw [List.getElem?_append_left hk]⟩
theorem Ext.get {M M1 : Sto} {k : Nat} {c : CO} (h : Ext M M1) (e : M[k]? = some c) : M1[k]? = some c := (h.fr k (get_lt e)).trans e
theorem Rows.frz {M0 M : Sto} {nd nq : Nat} {R : List Row} {δ : Ev} {i : Nat} (h : Rows M0 nd nq R M) (hd : δ[i]? = some (some (.cel nd))) : ∃ M', gRet (gFrzN (gVar i)) δ M = some (.rt (.dcn (R.map fun x => encS x.r.s) (R.map fun x => .tup [encR x.r.run, .lst (x.r.ticks.map encK)])) M') ∧ Ext M0 M' := by
  obtain ⟨M', e, hl, hk⟩ := frz_rows (fun x hx => (h.cel x hx).2.2.2) h.ndc
  have hnd : nd ∉ R.map (·.cell) := fun q => by
    obtain ⟨x, hx, e⟩ := List.mem_map.mp q
    exact (h.cel x hx).2.1 e
  have e2 : M'[nd]? = some (.dkn (R.map kvOf)) := (hk nd hnd).trans h.dn
  refine ⟨M'.set nd .dead, ?_, by simpa [hl] using h.len, fun k hk' => ?_⟩
  · have f1 : (fun x : Row => (kvF x.r).1) = fun x : Row => encS x.r.s := rfl
    have f2 : (fun x : Row => (kvF x.r).2) = fun x : Row => D.tup [encR x.r.run, .lst (x.r.ticks.map encK)] := rfl
    simp [hd, h.dn, e, e2]
    exact ⟨fun _ _ => rfl, fun _ _ => rfl⟩
  · have hd0 := h.d0
    rw [List.getElem?_set_ne (by omega)]
    have : k ∉ R.map (·.cell) := fun q => by
      obtain ⟨x, hx, e⟩ := List.mem_map.mp q
      have := (h.cel x hx).1
      omega
    rw [hk k this]
    exact h.fr k hk'
theorem rows_begin {M0 : Sto} {p : Pn} : Rows M0 (M0.length + 1) (M0.length + 2) [⟨⟨beginS p, [], []⟩, M0.length⟩] (M0 ++ [.lst [], .dkn [(encS (beginS p), .tup [.tup [], .cel M0.length])], .lst [encS (beginS p)]]) where
  len := by simp
  fr := fun k hk => by rw [List.getElem?_append_left hk]
  d0 := by omega
  q0 := by omega
  dq := by omega
  dn := by rw [sg_at]; rfl
  qu := by rw [sg_at]; rfl
  cel := fun x hx => by
    obtain rfl := List.mem_singleton.mp hx
    exact ⟨Nat.le_refl _, by simp only; omega, by simp only; omega, by simp only; rw [sg_at0]; rfl⟩
  ndc := by simp
theorem netOf_ok {p : Pn} {M : Sto} (hp : p.Ok) : ∃ M', f_net_of [encP p] M = okR (netD p) M' ∧ Ext M M' := by
  obtain ⟨M1, R1, k, z5, z6, z7, z8, z9, z10, e1, h1, r1⟩ := net_loop (n := bnd p + 1) (i := 0) (y5 := none) (y6 := none) (y7 := none) (y8 := none) (y9 := none) (y10 := none) hp (rows_begin (M0 := M) (p := p)) (by simpa using mid_begin hp) (by simp) (by omega)
  obtain ⟨M2, e2, x2⟩ := h1.frz (δ := [some (encP p), some (encS (beginS p)), some (.cel (M.length + 1)), some (.cel (M.length + 2)), some (.int (k : Nat)), z5, z6, z7, z8, z9, z10]) (i := 2) rfl
  refine ⟨M2, ?_, x2⟩
  have r2 : R1.map (·.r) = netP p := r1
  have f1 : R1.map (fun x => encS x.r.s) = (netP p).map fun r => encS r.s := by rw [← r2, List.map_map]; rfl
  have f2 : R1.map (fun x => D.tup [encR x.r.run, .lst (x.r.ticks.map encK)]) = (netP p).map fun r => D.tup [encR r.run, .lst (r.ticks.map encK)] := by rw [← r2, List.map_map]; rfl
  rw [f1, f2] at e2
  have t0 : s_net_of_0 [some (encP p), none, none, none, none, none, none, none, none, none, none] M = some (.nx [some (encP p), some (encS (beginS p)), none, none, none, none, none, none, none, none, none] M) := by
    simp [s_net_of_0, beginOf_ok hp]
  have t1 : s_net_of_1 [some (encP p), some (encS (beginS p)), none, none, none, none, none, none, none, none, none] M = some (.nx [some (encP p), some (encS (beginS p)), some (.cel (M.length + 1)), some (.cel (M.length + 2)), some (.int (0 : Nat)), none, none, none, none, none, none] (M ++ [.lst [], .dkn [(encS (beginS p), .tup [.tup [], .cel M.length])], .lst [encS (beginS p)]])) := by
    simp [s_net_of_1, gLstC, slE]
  have t2 : s_net_of_2 [some (encP p), some (encS (beginS p)), some (.cel (M.length + 1)), some (.cel (M.length + 2)), some (.int (0 : Nat)), none, none, none, none, none, none] (M ++ [.lst [], .dkn [(encS (beginS p), .tup [.tup [], .cel M.length])], .lst [encS (beginS p)]]) = some (.nx [some (encP p), some (encS (beginS p)), some (.cel (M.length + 1)), some (.cel (M.length + 2)), some (.int (k : Nat)), z5, z6, z7, z8, z9, z10] M1) := gWhile_eq e1
  show finS (g_net_of [some (encP p), none, none, none, none, none, none, none, none, none, none] M) = _
  rw [s_net_of_eq, s_net_of, seq_nx t0, seq_nx t1, seq_nx t2, s_net_of_3, e2]
  rfl
theorem lawWays_ok {p : Pn} {M : Sto} (hp : p.Ok) : ∃ M', f__law_ways [encP p] M = okR (netD p) M' ∧ Ext M M' := by
  obtain ⟨M1, R1, k, z5, z6, z7, z8, e1, h1, r1⟩ := law_loop (n := bnd p + 1) (i := 0) (y5 := none) (y6 := none) (y7 := none) (y8 := none) hp (rows_begin (M0 := M) (p := p)) (by simpa using mid_begin hp) (by simp) (by omega)
  obtain ⟨M2, e2, x2⟩ := h1.frz (δ := [some (encP p), some (encS (beginS p)), some (.cel (M.length + 1)), some (.cel (M.length + 2)), some (.int (k : Nat)), z5, z6, z7, z8]) (i := 2) rfl
  refine ⟨M2, ?_, x2⟩
  have r2 : R1.map (·.r) = netP p := r1
  have f1 : R1.map (fun x => encS x.r.s) = (netP p).map fun r => encS r.s := by rw [← r2, List.map_map]; rfl
  have f2 : R1.map (fun x => D.tup [encR x.r.run, .lst (x.r.ticks.map encK)]) = (netP p).map fun r => D.tup [encR r.run, .lst (r.ticks.map encK)] := by rw [← r2, List.map_map]; rfl
  rw [f1, f2] at e2
  have t0 : s__law_ways_0 [some (encP p), none, none, none, none, none, none, none, none] M = some (.nx [some (encP p), some (encS (beginS p)), none, none, none, none, none, none, none] M) := by
    simp [s__law_ways_0, lawBegin_ok hp]
  have t1 : s__law_ways_1 [some (encP p), some (encS (beginS p)), none, none, none, none, none, none, none] M = some (.nx [some (encP p), some (encS (beginS p)), some (.cel (M.length + 1)), some (.cel (M.length + 2)), some (.int (0 : Nat)), none, none, none, none] (M ++ [.lst [], .dkn [(encS (beginS p), .tup [.tup [], .cel M.length])], .lst [encS (beginS p)]])) := by
    simp [s__law_ways_1, gLstC, slE]
  have t2 : s__law_ways_2 [some (encP p), some (encS (beginS p)), some (.cel (M.length + 1)), some (.cel (M.length + 2)), some (.int (0 : Nat)), none, none, none, none] (M ++ [.lst [], .dkn [(encS (beginS p), .tup [.tup [], .cel M.length])], .lst [encS (beginS p)]]) = some (.nx [some (encP p), some (encS (beginS p)), some (.cel (M.length + 1)), some (.cel (M.length + 2)), some (.int (k : Nat)), z5, z6, z7, z8] M1) := gWhile_eq e1
  show finS (g__law_ways [some (encP p), none, none, none, none, none, none, none, none] M) = _
  rw [s__law_ways_eq, s__law_ways, seq_nx t0, seq_nx t1, seq_nx t2, s__law_ways_3, e2]
  rfl
end EB
/-! PO: harms of plans -/
namespace EB
open PySem PySem.Spec L2 DL
variable [inst : Pw]
/-! ### the words -/
def W6 : List Str := ["empty", "good", "half", "lies", "over", "spills"]
theorem outW_W6 {p : Pn} {x : Int} : ∀ w ∈ outW p x, w ∈ W6 := by
  intro w hw
  unfold outW at hw
  repeat' split at hw
  all_goals simp at hw
  all_goals (subst hw; decide +kernel)
theorem tick_W6 {p : Pn} {s : Sd} {c : Ch} : ∀ w ∈ (tickM p s c).2, w ∈ W6 := by
  have hs : ∀ l : List Str, (∀ w ∈ l, w ∈ W6) → ∀ w ∈ sortS (l ++ [("spills" : Str)]), w ∈ W6 := fun l hl w hw => by
    have := (sortS_perm (l ++ [("spills" : Str)])).subset hw
    rcases List.mem_append.mp this with q | q
    · exact hl w q
    · obtain rfl := List.mem_singleton.mp q
      decide +kernel
  intro w hw
  unfold tickM at hw
  simp only at hw
  repeat' split at hw
  all_goals first
    | exact outW_W6 w hw
    | exact hs _ (fun w' hw' => outW_W6 w' hw') w hw
    | exact hs _ (fun w' hw' => by simp at hw') w hw
    | (simp at hw; done)
theorem succ_W6 {p : Pn} {s : Sd} : ∀ t ∈ succ p s, ∀ w ∈ t.2.2, w ∈ W6 := by
  intro t ht
  obtain ⟨c, _, rfl⟩ := List.mem_map.mp ht
  exact tick_W6
/-! ### first runs by words -/
abbrev FT := List (Str × List Ch)
def addW (T : FT) (w : Str) (run : List Ch) : FT := if w ∈ T.map (·.1) then T else T ++ [(w, run)]
def addWs (T : FT) (run : List Ch) (ws : List Str) : FT := ws.foldl (fun T w => addW T w run) T
def addTs (T : FT) (run : List Ch) (ts : List Tk) : FT := ts.foldl (fun T t => addWs T (run ++ [t.1]) t.2.2) T
def addPs (T : FT) (P : List PRow) : FT := P.foldl (fun T r => addTs T r.run r.ticks) T
def firstsT (p : Pn) : FT := addPs [] (netP p)
structure TOk (T : FT) : Prop where
  nd : (T.map (·.1)).Nodup
  w6 : ∀ x ∈ T, x.1 ∈ W6
theorem TOk.len {T : FT} (h : TOk T) : T.length ≤ 6 := by
  have := nd_len (m := W6) h.nd fun w hw => by
    obtain ⟨x, hx, rfl⟩ := List.mem_map.mp hw
    exact h.w6 x hx
  simpa [W6] using this
theorem TOk.add {T : FT} {w : Str} {run : List Ch} (h : TOk T) (hw : w ∈ W6) : TOk (addW T w run) := by
  unfold addW
  split
  · exact h
  · rename_i hn
    refine ⟨?_, fun x hx => ?_⟩
    · rw [List.map_append, List.nodup_append]
      refine ⟨h.nd, by simp, fun a ha b hb => ?_⟩
      simp at hb
      subst hb
      exact fun e => hn (e ▸ ha)
    · rcases List.mem_append.mp hx with q | q
      · exact h.w6 x q
      · obtain rfl := List.mem_singleton.mp q
        exact hw
def encF (x : Str × List Ch) : Key × D := (.inr x.1, encR x.2)
theorem lkS_map (w : Str) : ∀ T : FT, lkS (T.map encF) (.inr w) = (T.find? fun x => decide (x.1 = w)).map fun x => encR x.2
  | [] => rfl
  | x :: T => by
    by_cases h : x.1 = w
    · simp [lkS, List.find?_cons, encF, h]
    · have ih := lkS_map w T
      have e : decide ((encF x).1 = .inr w) = false := by simp [encF, h]
      unfold lkS at ih ⊢
      rw [List.map_cons, List.find?_cons, List.find?_cons]
      simp only [e, decide_eq_false h]
      exact ih
theorem lkS_some {w : Str} {T : FT} : (lkS (T.map encF) (.inr w)).isSome = decide (w ∈ T.map (·.1)) := by
  rw [lkS_map, Option.isSome_map, Bool.eq_iff_iff, List.find?_isSome]
  simp
theorem ptS_new {w : Str} {run : List Ch} {T : FT} (h : w ∉ T.map (·.1)) : ptS (T.map encF) (.inr w) (encR run) = (T ++ [(w, run)]).map encF := by
  unfold ptS
  rw [lkS_some, if_neg (by simpa using h)]
  simp [encF]
/-- the table of first runs at n -/
structure Fst (M0 : Sto) (n : Nat) (T : FT) (M : Sto) : Prop where
  ext : Ext M0 M
  n0 : M0.length ≤ n
  at_ : M[n]? = some (.dks (T.map encF))
theorem Fst.put {M0 M : Sto} {n : Nat} {T T' : FT} (h : Fst M0 n T M) : Fst M0 n T' (M.set n (.dks (T'.map encF))) := by
  have hn0 := h.n0
  refine ⟨⟨by simpa using h.ext.len, fun k hk => ?_⟩, h.n0, List.getElem?_set_self (get_lt h.at_)⟩
  rw [List.getElem?_set_ne (by omega)]
  exact h.ext.fr k hk
noncomputable def s_firsts_by_0  : GS := (gAsg gDict0S (DL.gName 1))
noncomputable def s_firsts_by_1_b_0_b_0_b_0  : GS := (gIfS (gTst (gOp notInFD (gVar 7) (gVar 1))) (gAsg (gOp addF (gVar 2) (DL.gTup (DL.gCons (gVar 4) DL.gNil))) (gSubD (gVar 1) (gVar 7))) gNext)
noncomputable def s_firsts_by_1_b_0_b_0_b  : GS := s_firsts_by_1_b_0_b_0_b_0
noncomputable def s_firsts_by_1_b_0_b_0  : GS := (gFor (gItL (gVar 6)) (DL.gName 7) s_firsts_by_1_b_0_b_0_b)
noncomputable def s_firsts_by_1_b_0_b  : GS := s_firsts_by_1_b_0_b_0
noncomputable def s_firsts_by_1_b_0  : GS := (gFor (gItL (gVar 3)) (gTupT 3 (gsCons (DL.gName 4) (gsCons (DL.gName 5) (gsCons (DL.gName 6) gsNil)))) s_firsts_by_1_b_0_b)
noncomputable def s_firsts_by_1_b  : GS := s_firsts_by_1_b_0
noncomputable def s_firsts_by_1  : GS := (gFor (gItNV (gCallN 1 f_net_of (DL.gCons (gVar 0) DL.gNil))) (gTupT 2 (gsCons (DL.gName 2) (gsCons (DL.gName 3) gsNil))) s_firsts_by_1_b)
noncomputable def s_firsts_by_2  : GS := (gRet (gVar 1))
noncomputable def s_firsts_by  : GS := (gSeq s_firsts_by_0 (gSeq s_firsts_by_1 s_firsts_by_2))
theorem s_firsts_by_eq  : g_firsts_by = s_firsts_by := rfl
noncomputable def s__law_firsts_0  : GS := (gPar 1 2 (DL.gCons (gCallN 1 f__law_ways (DL.gCons (gVar 0) DL.gNil)) (DL.gCons gDict0S DL.gNil)))
noncomputable def s__law_firsts_1_b_0_b_0_b_0  : GS := (gIfS (gTst (gOp notInFD (gVar 7) (gVar 2))) (gAsg (gOp addF (gOp subIx (gOp subIxD (gVar 1) (gVar 3)) (gC (.int 0))) (DL.gTup (DL.gCons (gVar 4) DL.gNil))) (gSubD (gVar 2) (gVar 7))) gNext)
noncomputable def s__law_firsts_1_b_0_b_0_b  : GS := s__law_firsts_1_b_0_b_0_b_0
noncomputable def s__law_firsts_1_b_0_b_0  : GS := (gFor (gItL (gVar 6)) (DL.gName 7) s__law_firsts_1_b_0_b_0_b)
noncomputable def s__law_firsts_1_b_0_b  : GS := s__law_firsts_1_b_0_b_0
noncomputable def s__law_firsts_1_b_0  : GS := (gFor (gItL (gOp subIx (gOp subIxD (gVar 1) (gVar 3)) (gC (.int 1)))) (gTupT 3 (gsCons (DL.gName 4) (gsCons (DL.gName 5) (gsCons (DL.gName 6) gsNil)))) s__law_firsts_1_b_0_b)
noncomputable def s__law_firsts_1_b  : GS := s__law_firsts_1_b_0
noncomputable def s__law_firsts_1  : GS := (gFor (gItNK (gVar 1)) (DL.gName 3) s__law_firsts_1_b)
noncomputable def s__law_firsts_2  : GS := (gRet (gVar 2))
noncomputable def s__law_firsts  : GS := (gSeq s__law_firsts_0 (gSeq s__law_firsts_1 s__law_firsts_2))
theorem s__law_firsts_eq  : g__law_firsts = s__law_firsts := rfl
section
variable {M0 M : Sto} {n : Nat} {T : FT} {p : Pn}
theorem net_kv (p : Pn) (M : Sto) : (netD p).dkn M = some ((netP p).map kvF) := by
  simp only [netD, D.dkn]
  congr 1
  induction netP p with
  | nil => rfl
  | cons a r ih => simp [ih, kvF]
theorem lk_net {p : Pn} {r : PRow} (hp : p.Ok) (hr : r ∈ netP p) : lkN ((netP p).map kvF) (kS r.s) = some (.tup [encR r.run, .lst (r.ticks.map encK)]) := by
  obtain ⟨i, hi⟩ := List.mem_iff_getElem?.mp hr
  have := lkN_map (fun x : PRow => x.s) (fun x => .tup [encR x.run, .lst (x.ticks.map encK)]) r.s (netP p)
  rw [show ((netP p).map fun r => (encS r.s, D.tup [encR r.run, .lst (r.ticks.map encK)])) = (netP p).map kvF from rfl] at this
  rw [this, find_at (f := fun x : PRow => x.s) (netP_whole hp).nd hi]
  rfl
theorem lk_netN {p : Pn} {s : Sd} (h : s ∉ (netP p).map (·.s)) : lkN ((netP p).map kvF) (kS s) = none := by
  have := lkN_map (fun x : PRow => x.s) (fun x => .tup [encR x.run, .lst (x.ticks.map encK)]) s (netP p)
  rw [show ((netP p).map fun r => (encS r.s, D.tup [encR r.run, .lst (r.ticks.map encK)])) = (netP p).map kvF from rfl] at this
  rw [this, find_none h]
  rfl
theorem words1 {c : Ch} {run : List Ch} {e : D} (hl : run.length + 1 ≤ 16777216) {x0 x3 x5 : Option D} : ∀ {ws : List Str} {T : FT} {M : Sto} {x7 : Option D}, Fst M0 n T M → TOk T → (∀ w ∈ ws, w ∈ W6) →
    ∃ M' z7, forL (DL.gName 7) s_firsts_by_1_b_0_b_0_b (ws.map D.str) [x0, some (.cel n), some (encR run), x3, some (encC c), x5, some e, x7] M = some (.nx [x0, some (.cel n), some (encR run), x3, some (encC c), x5, some e, z7] M') ∧ Fst M0 n (addWs T (run ++ [c]) ws) M' ∧ TOk (addWs T (run ++ [c]) ws)
  | [], T, M, x7, h, ok, _ => ⟨M, x7, rfl, h, ok⟩
  | w :: ws, T, M, x7, h, ok, hw => by
    have hadd : ∀ M, addF (encR run) (.tup [encC c]) M = okR (encR (run ++ [c])) M := fun M => by
      simp [encR, slE]; omega
    have ok1 := ok.add (run := run ++ [c]) (hw w List.mem_cons_self)
    have hlen := ok.len
    have step : ∃ M1, s_firsts_by_1_b_0_b_0_b [x0, some (.cel n), some (encR run), x3, some (encC c), x5, some e, some (.str w)] M = some (.nx [x0, some (.cel n), some (encR run), x3, some (encC c), x5, some e, some (.str w)] M1) ∧ Fst M0 n (addW T w (run ++ [c])) M1 := by
      by_cases hin : w ∈ T.map (·.1)
      · refine ⟨M, ?_, by unfold addW; rw [if_pos hin]; exact h⟩
        have : (lkS (T.map encF) (.inr w)).isSome = true := by rw [lkS_some]; simpa using hin
        simp [s_firsts_by_1_b_0_b_0_b, s_firsts_by_1_b_0_b_0_b_0, notInFD, inRD, D.dkn, D.dks, h.at_, keyD, this]
      · refine ⟨M.set n (.dks ((T ++ [(w, run ++ [c])]).map encF)), ?_, by unfold addW; rw [if_neg hin]; exact h.put⟩
        have : (lkS (T.map encF) (.inr w)).isSome = false := by rw [lkS_some]; simpa using hin
        have hlt : T.length < 16777216 := by omega
        simp [s_firsts_by_1_b_0_b_0_b, s_firsts_by_1_b_0_b_0_b_0, notInFD, inRD, D.dkn, D.dks, h.at_, keyD, this, hadd, slE, gSubD, ptS_new hin, hlt]
    obtain ⟨M1, e1, h1⟩ := step
    obtain ⟨M2, z7, e2, h2, ok2⟩ := words1 hl (ws := ws) (x0 := x0) (x3 := x3) (x5 := x5) (x7 := some (.str w)) h1 ok1 fun w' hw' => hw w' (List.mem_cons_of_mem _ hw')
    refine ⟨M2, z7, ?_, h2, ok2⟩
    simp only [List.map_cons, forL]
    have e0 : DL.gName 7 (.str w) [x0, some (.cel n), some (encR run), x3, some (encC c), x5, some e, x7] M = okR [x0, some (.cel n), some (encR run), x3, some (encC c), x5, some e, some (.str w)] M := rfl
    rw [e0]
    simp only [bindS_ok, e1]
    exact e2
theorem ticks1 {run : List Ch} (hl : run.length + 1 ≤ 16777216) {x0 x3 : Option D} : ∀ {ts : List Tk} {T : FT} {M : Sto} {x4 x5 x6 x7 : Option D}, Fst M0 n T M → TOk T → (∀ t ∈ ts, ∀ w ∈ t.2.2, w ∈ W6) →
    ∃ M' z4 z5 z6 z7, forL (gTupT 3 (gsCons (DL.gName 4) (gsCons (DL.gName 5) (gsCons (DL.gName 6) gsNil)))) s_firsts_by_1_b_0_b (ts.map encK) [x0, some (.cel n), some (encR run), x3, x4, x5, x6, x7] M = some (.nx [x0, some (.cel n), some (encR run), x3, z4, z5, z6, z7] M') ∧ Fst M0 n (addTs T run ts) M' ∧ TOk (addTs T run ts)
  | [], T, M, x4, x5, x6, x7, h, ok, _ => ⟨M, x4, x5, x6, x7, rfl, h, ok⟩
  | t :: ts, T, M, x4, x5, x6, x7, h, ok, hw => by
    obtain ⟨M1, z7, e1, h1, ok1⟩ := words1 (c := t.1) (e := encW t.2.2) hl (ws := t.2.2) (x0 := x0) (x3 := x3) (x5 := some (encS t.2.1)) (x7 := x7) h ok (hw t List.mem_cons_self)
    obtain ⟨M2, z4, z5, z6, z7', e2, h2, ok2⟩ := ticks1 hl (ts := ts) (x0 := x0) (x3 := x3) (x4 := some (encC t.1)) (x5 := some (encS t.2.1)) (x6 := some (encW t.2.2)) (x7 := z7) h1 ok1 fun t' ht' => hw t' (List.mem_cons_of_mem _ ht')
    refine ⟨M2, z4, z5, z6, z7', ?_, h2, ok2⟩
    simp only [List.map_cons, forL]
    have e0 : gTupT 3 (gsCons (DL.gName 4) (gsCons (DL.gName 5) (gsCons (DL.gName 6) gsNil))) (encK t) [x0, some (.cel n), some (encR run), x3, x4, x5, x6, x7] M = okR [x0, some (.cel n), some (encR run), x3, some (encC t.1), some (encS t.2.1), some (encW t.2.2), x7] M := rfl
    have e3 : s_firsts_by_1_b_0_b [x0, some (.cel n), some (encR run), x3, some (encC t.1), some (encS t.2.1), some (encW t.2.2), x7] M = some (.nx [x0, some (.cel n), some (encR run), x3, some (encC t.1), some (encS t.2.1), some (encW t.2.2), z7] M1) := by
      simp only [s_firsts_by_1_b_0_b, s_firsts_by_1_b_0_b_0, gFor, gItL, gVar, List.getElem?_cons_succ, List.getElem?_cons_zero, bindR_ok, itemsD, encW, bindS_ok]
      exact e1
    rw [e0]
    simp only [bindS_ok, e3]
    exact e2
theorem rows1 {x0 : Option D} : ∀ {P : List PRow} {T : FT} {M : Sto} {x2 x3 x4 x5 x6 x7 : Option D}, Fst M0 n T M → TOk T → (∀ r ∈ P, r.run.length + 1 ≤ 16777216 ∧ ∀ t ∈ r.ticks, ∀ w ∈ t.2.2, w ∈ W6) →
    ∃ M' z2 z3 z4 z5 z6 z7, forL (gTupT 2 (gsCons (DL.gName 2) (gsCons (DL.gName 3) gsNil))) s_firsts_by_1_b (P.map fun r => D.tup [encR r.run, .lst (r.ticks.map encK)]) [x0, some (.cel n), x2, x3, x4, x5, x6, x7] M = some (.nx [x0, some (.cel n), z2, z3, z4, z5, z6, z7] M') ∧ Fst M0 n (addPs T P) M' ∧ TOk (addPs T P)
  | [], T, M, x2, x3, x4, x5, x6, x7, h, ok, _ => ⟨M, x2, x3, x4, x5, x6, x7, rfl, h, ok⟩
  | r :: P, T, M, x2, x3, x4, x5, x6, x7, h, ok, hw => by
    obtain ⟨hr1, hr2⟩ := hw r List.mem_cons_self
    obtain ⟨M1, z4, z5, z6, z7, e1, h1, ok1⟩ := ticks1 hr1 (ts := r.ticks) (x0 := x0) (x3 := some (.lst (r.ticks.map encK))) (x4 := x4) (x5 := x5) (x6 := x6) (x7 := x7) h ok hr2
    obtain ⟨M2, w2, w3, w4, w5, w6, w7, e2, h2, ok2⟩ := rows1 (x0 := x0) (P := P) (x2 := some (encR r.run)) (x3 := some (.lst (r.ticks.map encK))) (x4 := z4) (x5 := z5) (x6 := z6) (x7 := z7) h1 ok1 fun r' hr' => hw r' (List.mem_cons_of_mem _ hr')
    refine ⟨M2, w2, w3, w4, w5, w6, w7, ?_, h2, ok2⟩
    simp only [List.map_cons, forL]
    have e0 : gTupT 2 (gsCons (DL.gName 2) (gsCons (DL.gName 3) gsNil)) (D.tup [encR r.run, .lst (r.ticks.map encK)]) [x0, some (.cel n), x2, x3, x4, x5, x6, x7] M = okR [x0, some (.cel n), some (encR r.run), some (.lst (r.ticks.map encK)), x4, x5, x6, x7] M := rfl
    have e3 : s_firsts_by_1_b [x0, some (.cel n), some (encR r.run), some (.lst (r.ticks.map encK)), x4, x5, x6, x7] M = some (.nx [x0, some (.cel n), some (encR r.run), some (.lst (r.ticks.map encK)), z4, z5, z6, z7] M1) := by
      simp only [s_firsts_by_1_b, s_firsts_by_1_b_0, gFor, gItL, gVar, List.getElem?_cons_succ, List.getElem?_cons_zero, bindR_ok, itemsD, bindS_ok]
      exact e1
    rw [e0]
    simp only [bindS_ok, e3]
    exact e2
theorem net_good {p : Pn} (hp : p.Ok) : ∀ r ∈ netP p, r.run.length + 1 ≤ 16777216 ∧ ∀ t ∈ r.ticks, ∀ w ∈ t.2.2, w ∈ W6 := fun r hr => by
  have hw := netP_whole hp
  have := hw.rl r hr
  have := bnd_lt hp
  refine ⟨by omega, ?_⟩
  rw [(hw.done r hr).1]
  exact succ_W6
theorem tok_nil : TOk [] := ⟨by simp, by simp⟩
theorem firstsBy_ok {p : Pn} {M : Sto} (hp : p.Ok) : ∃ n M', f_firsts_by [encP p] M = okR (.cel n) M' ∧ Fst M n (firstsT p) M' := by
  have f0 : Fst M M.length [] (M ++ [.dks []]) := ⟨Ext.app, Nat.le_refl _, by simp⟩
  obtain ⟨M1, en, xn⟩ := netOf_ok (M := M ++ [.dks []]) hp
  have f1 : Fst M M.length [] M1 := ⟨f0.ext.trans xn, Nat.le_refl _, xn.get f0.at_⟩
  obtain ⟨M2, z2, z3, z4, z5, z6, z7, e1, h1, _⟩ := rows1 (x0 := some (encP p)) (P := netP p) (x2 := none) (x3 := none) (x4 := none) (x5 := none) (x6 := none) (x7 := none) f1 tok_nil (net_good hp)
  refine ⟨M.length, M2, ?_, h1⟩
  have t0 : s_firsts_by_0 [some (encP p), none, none, none, none, none, none, none] M = some (.nx [some (encP p), some (.cel M.length), none, none, none, none, none, none] (M ++ [.dks []])) := by
    simp [s_firsts_by_0]
  have t1 : s_firsts_by_1 [some (encP p), some (.cel M.length), none, none, none, none, none, none] (M ++ [.dks []]) = some (.nx [some (encP p), some (.cel M.length), z2, z3, z4, z5, z6, z7] M2) := by
    simp only [s_firsts_by_1, gFor, gItNV, gCallN, DL.gCons, DL.gNil, gVar, List.getElem?_cons_zero, bindR_ok, List.length_cons, List.length_nil, if_true, en, netD, bindS_ok]
    exact e1
  show finS (g_firsts_by [some (encP p), none, none, none, none, none, none, none] M) = _
  rw [s_firsts_by_eq, s_firsts_by, seq_nx t0, seq_nx t1]
  simp [s_firsts_by_2]
/-! the law's -/
theorem words2 {r : PRow} {c : Ch} {e : D} (hp : p.Ok) (hr : r ∈ netP p) (hl : r.run.length + 1 ≤ 16777216) {x0 x5 : Option D} : ∀ {ws : List Str} {T : FT} {M : Sto} {x7 : Option D}, Fst M0 n T M → TOk T → (∀ w ∈ ws, w ∈ W6) →
    ∃ M' z7, forL (DL.gName 7) s__law_firsts_1_b_0_b_0_b (ws.map D.str) [x0, some (netD p), some (.cel n), some (encS r.s), some (encC c), x5, some e, x7] M = some (.nx [x0, some (netD p), some (.cel n), some (encS r.s), some (encC c), x5, some e, z7] M') ∧ Fst M0 n (addWs T (r.run ++ [c]) ws) M' ∧ TOk (addWs T (r.run ++ [c]) ws)
  | [], T, M, x7, h, ok, _ => ⟨M, x7, rfl, h, ok⟩
  | w :: ws, T, M, x7, h, ok, hw => by
    have hadd : ∀ M, addF (encR r.run) (.tup [encC c]) M = okR (encR (r.run ++ [c])) M := fun M => by
      simp [encR, slE]; omega
    have ok1 := ok.add (run := r.run ++ [c]) (hw w List.mem_cons_self)
    have hlen := ok.len
    have ix0 : ∀ M, subIx (.tup [encR r.run, .lst (r.ticks.map encK)]) (.int 0) M = okR (encR r.run) M := fun M => ix_0
    have step : ∃ M1, s__law_firsts_1_b_0_b_0_b [x0, some (netD p), some (.cel n), some (encS r.s), some (encC c), x5, some e, some (.str w)] M = some (.nx [x0, some (netD p), some (.cel n), some (encS r.s), some (encC c), x5, some e, some (.str w)] M1) ∧ Fst M0 n (addW T w (r.run ++ [c])) M1 := by
      by_cases hin : w ∈ T.map (·.1)
      · refine ⟨M, ?_, by unfold addW; rw [if_pos hin]; exact h⟩
        have : (lkS (T.map encF) (.inr w)).isSome = true := by rw [lkS_some]; simpa using hin
        have d2 : (D.cel n).dkn M = none := by simp [D.dkn, h.at_]
        have d3 : (D.cel n).dks M = some (T.map encF) := by simp [D.dks, h.at_]
        simp [s__law_firsts_1_b_0_b_0_b, s__law_firsts_1_b_0_b_0_b_0, notInFD, inRD, d2, d3, keyD, this]
      · refine ⟨M.set n (.dks ((T ++ [(w, r.run ++ [c])]).map encF)), ?_, by unfold addW; rw [if_neg hin]; exact h.put⟩
        have : (lkS (T.map encF) (.inr w)).isSome = false := by rw [lkS_some]; simpa using hin
        have hlt : T.length < 16777216 := by omega
        have d2 : (D.cel n).dkn M = none := by simp [D.dkn, h.at_]
        have d3 : (D.cel n).dks M = some (T.map encF) := by simp [D.dks, h.at_]
        simp [s__law_firsts_1_b_0_b_0_b, s__law_firsts_1_b_0_b_0_b_0, notInFD, inRD, d2, d3, h.at_, keyD, this, hadd, slE, gSubD, ptS_new hin, hlt, subIxD, net_kv, lk_net hp hr, ix0]
    obtain ⟨M1, e1, h1⟩ := step
    obtain ⟨M2, z7, e2, h2, ok2⟩ := words2 hp hr hl (ws := ws) (x0 := x0) (x5 := x5) (x7 := some (.str w)) h1 ok1 fun w' hw' => hw w' (List.mem_cons_of_mem _ hw')
    refine ⟨M2, z7, ?_, h2, ok2⟩
    simp only [List.map_cons, forL]
    have e0 : DL.gName 7 (.str w) [x0, some (netD p), some (.cel n), some (encS r.s), some (encC c), x5, some e, x7] M = okR [x0, some (netD p), some (.cel n), some (encS r.s), some (encC c), x5, some e, some (.str w)] M := rfl
    rw [e0]
    simp only [bindS_ok, e1]
    exact e2
theorem ticks2 {r : PRow} (hp : p.Ok) (hr : r ∈ netP p) (hl : r.run.length + 1 ≤ 16777216) {x0 : Option D} : ∀ {ts : List Tk} {T : FT} {M : Sto} {x4 x5 x6 x7 : Option D}, Fst M0 n T M → TOk T → (∀ t ∈ ts, ∀ w ∈ t.2.2, w ∈ W6) →
    ∃ M' z4 z5 z6 z7, forL (gTupT 3 (gsCons (DL.gName 4) (gsCons (DL.gName 5) (gsCons (DL.gName 6) gsNil)))) s__law_firsts_1_b_0_b (ts.map encK) [x0, some (netD p), some (.cel n), some (encS r.s), x4, x5, x6, x7] M = some (.nx [x0, some (netD p), some (.cel n), some (encS r.s), z4, z5, z6, z7] M') ∧ Fst M0 n (addTs T r.run ts) M' ∧ TOk (addTs T r.run ts)
  | [], T, M, x4, x5, x6, x7, h, ok, _ => ⟨M, x4, x5, x6, x7, rfl, h, ok⟩
  | t :: ts, T, M, x4, x5, x6, x7, h, ok, hw => by
    obtain ⟨M1, z7, e1, h1, ok1⟩ := words2 (c := t.1) (e := encW t.2.2) hp hr hl (ws := t.2.2) (x0 := x0) (x5 := some (encS t.2.1)) (x7 := x7) h ok (hw t List.mem_cons_self)
    obtain ⟨M2, z4, z5, z6, z7', e2, h2, ok2⟩ := ticks2 hp hr hl (ts := ts) (x0 := x0) (x4 := some (encC t.1)) (x5 := some (encS t.2.1)) (x6 := some (encW t.2.2)) (x7 := z7) h1 ok1 fun t' ht' => hw t' (List.mem_cons_of_mem _ ht')
    refine ⟨M2, z4, z5, z6, z7', ?_, h2, ok2⟩
    simp only [List.map_cons, forL]
    have e0 : gTupT 3 (gsCons (DL.gName 4) (gsCons (DL.gName 5) (gsCons (DL.gName 6) gsNil))) (encK t) [x0, some (netD p), some (.cel n), some (encS r.s), x4, x5, x6, x7] M = okR [x0, some (netD p), some (.cel n), some (encS r.s), some (encC t.1), some (encS t.2.1), some (encW t.2.2), x7] M := rfl
    have e3 : s__law_firsts_1_b_0_b [x0, some (netD p), some (.cel n), some (encS r.s), some (encC t.1), some (encS t.2.1), some (encW t.2.2), x7] M = some (.nx [x0, some (netD p), some (.cel n), some (encS r.s), some (encC t.1), some (encS t.2.1), some (encW t.2.2), z7] M1) := by
      simp only [s__law_firsts_1_b_0_b, s__law_firsts_1_b_0_b_0, gFor, gItL, gVar, List.getElem?_cons_succ, List.getElem?_cons_zero, bindR_ok, itemsD, encW, bindS_ok]
      exact e1
    rw [e0]
    simp only [bindS_ok, e3]
    exact e2
theorem rows2 (hp : p.Ok) {x0 : Option D} : ∀ {P : List PRow} {T : FT} {M : Sto} {x3 x4 x5 x6 x7 : Option D}, Fst M0 n T M → TOk T → (∀ r ∈ P, r ∈ netP p) →
    ∃ M' z3 z4 z5 z6 z7, forL (DL.gName 3) s__law_firsts_1_b (P.map fun r => encS r.s) [x0, some (netD p), some (.cel n), x3, x4, x5, x6, x7] M = some (.nx [x0, some (netD p), some (.cel n), z3, z4, z5, z6, z7] M') ∧ Fst M0 n (addPs T P) M' ∧ TOk (addPs T P)
  | [], T, M, x3, x4, x5, x6, x7, h, ok, _ => ⟨M, x3, x4, x5, x6, x7, rfl, h, ok⟩
  | r :: P, T, M, x3, x4, x5, x6, x7, h, ok, hw => by
    have hr := hw r List.mem_cons_self
    obtain ⟨hr1, hr2⟩ := net_good hp r hr
    obtain ⟨M1, z4, z5, z6, z7, e1, h1, ok1⟩ := ticks2 hp hr hr1 (ts := r.ticks) (x0 := x0) (x4 := x4) (x5 := x5) (x6 := x6) (x7 := x7) h ok hr2
    obtain ⟨M2, w3, w4, w5, w6, w7, e2, h2, ok2⟩ := rows2 hp (x0 := x0) (P := P) (x3 := some (encS r.s)) (x4 := z4) (x5 := z5) (x6 := z6) (x7 := z7) h1 ok1 fun r' hr' => hw r' (List.mem_cons_of_mem _ hr')
    refine ⟨M2, w3, w4, w5, w6, w7, ?_, h2, ok2⟩
    simp only [List.map_cons, forL]
    have e0 : DL.gName 3 (encS r.s) [x0, some (netD p), some (.cel n), x3, x4, x5, x6, x7] M = okR [x0, some (netD p), some (.cel n), some (encS r.s), x4, x5, x6, x7] M := rfl
    have ix1 : ∀ M, subIx (.tup [encR r.run, .lst (r.ticks.map encK)]) (.int 1) M = okR (.lst (r.ticks.map encK)) M := fun M => ix_1
    have e3 : s__law_firsts_1_b [x0, some (netD p), some (.cel n), some (encS r.s), x4, x5, x6, x7] M = some (.nx [x0, some (netD p), some (.cel n), some (encS r.s), z4, z5, z6, z7] M1) := by
      have hsub : subIxD (netD p) (encS r.s) M = okR (.tup [encR r.run, .lst (r.ticks.map encK)]) M := by
        simp only [subIxD, net_kv, keyN_S, lk_net hp hr]
        rfl
      simp only [s__law_firsts_1_b, s__law_firsts_1_b_0, gFor, gItL, gOp, gC, gVar, List.getElem?_cons_succ, List.getElem?_cons_zero, bindR_ok, hsub, ix1, itemsD, bindS_ok]
      exact e1
    rw [e0]
    simp only [bindS_ok, e3]
    exact e2
theorem lawFirsts_ok {p : Pn} {M : Sto} (hp : p.Ok) : ∃ n M', f__law_firsts [encP p] M = okR (.cel n) M' ∧ Fst M n (firstsT p) M' := by
  obtain ⟨M1, en, xn⟩ := lawWays_ok (M := M) hp
  have f1 : Fst M M1.length [] (M1 ++ [.dks []]) := ⟨xn.trans Ext.app, xn.len, by simp⟩
  obtain ⟨M2, z3, z4, z5, z6, z7, e1, h1, _⟩ := rows2 hp (x0 := some (encP p)) (P := netP p) (x3 := none) (x4 := none) (x5 := none) (x6 := none) (x7 := none) f1 tok_nil fun r hr => hr
  refine ⟨M1.length, M2, ?_, h1⟩
  have t0 : s__law_firsts_0 [some (encP p), none, none, none, none, none, none, none] M = some (.nx [some (encP p), some (netD p), some (.cel M1.length), none, none, none, none, none] (M1 ++ [.dks []])) := by
    simp [s__law_firsts_0, en]
  have t1 : s__law_firsts_1 [some (encP p), some (netD p), some (.cel M1.length), none, none, none, none, none] (M1 ++ [.dks []]) = some (.nx [some (encP p), some (netD p), some (.cel M1.length), z3, z4, z5, z6, z7] M2) := by
    simp only [s__law_firsts_1, gFor, gItNK, gVar, List.getElem?_cons_zero, List.getElem?_cons_succ, bindR_ok]
    conv => lhs; arg 1; simp only [netD]
    simp only [bindS_ok]
    exact e1
  show finS (g__law_firsts [some (encP p), none, none, none, none, none, none, none] M) = _
  rw [s__law_firsts_eq, s__law_firsts, seq_nx t0, seq_nx t1]
  simp [s__law_firsts_2]
/-! ### harms -/
def H4 : List Str := ["empty", "half", "over", "spills"]
def harmsP (p : Pn) : List Str := H4.filter fun h => decide (h ∈ (firstsT p).map (·.1))
theorem lc_filter {δ : Ev} {i : Nat} {tt : GT} {te : GE} {M : Sto} {ws : List Str} (q : Str → Bool) (hl : ws.length ≤ 16777216) (h : ∀ w ∈ ws, tt (δ.set i (some (.str w))) M = okR (q w) M) (h' : ∀ w ∈ ws, te (δ.set i (some (.str w))) M = okR (.str w) M) :
    lcL (.one i) tt te δ (ws.map D.str) [] M = okR (encW (ws.filter q)) M := by
  have := lcL_pure (T := .one i) (tt := tt) (te := te) (δ := δ) (fun d => match d with | .str w => if q w then some (.str w) else none | _ => none) (ds := ws.map D.str) (acc := []) (M := M) (fun d hd => by
    obtain ⟨w, hw, rfl⟩ := List.mem_map.mp hd
    refine ⟨_, rfl, ?_⟩
    cases e : q w with
    | true => simp only [e, if_true]; exact ⟨by rw [h w hw, e], h' w hw⟩
    | false => simp only [e]; rw [if_neg Bool.false_ne_true]; simp only; rw [h w hw, e]) (by rw [slE]; simpa using hl)
  rw [this]
  have e : ∀ ws : List Str, (ws.map D.str).filterMap (fun d => match d with | .str w => if q w then some (.str w) else none | _ => none) = (ws.filter q).map D.str := by
    intro ws
    induction ws with
    | nil => rfl
    | cons a r ih =>
      rw [List.map_cons, List.filterMap_cons, List.filter_cons]
      cases e : q a <;> simp [e, ih]
  rw [e]
  rfl
theorem fst_in {M0 M : Sto} {n : Nat} {T : FT} {w : Str} (h : Fst M0 n T M) : inFD (.str w) (.cel n) M = okR (.bl (decide (w ∈ T.map (·.1)))) M := by
  have d2 : (D.cel n).dkn M = none := by simp [D.dkn, h.at_]
  have d3 : (D.cel n).dks M = some (T.map encF) := by simp [D.dks, h.at_]
  simp only [inFD, inRD, d2, d3, keyD, lkS_some]
theorem harmsBy_ok {p : Pn} {M : Sto} (hp : p.Ok) : ∃ M', f_harms_by [encP p] M = okR (encW (harmsP p)) M' ∧ Ext M M' := by
  obtain ⟨n, M1, e1, h1⟩ := firstsBy_ok (M := M) hp
  refine ⟨M1, ?_, h1.ext⟩
  have hlc := lc_filter (δ := wipeD [some (encP p), some (.cel n), none] [2]) (i := 2) (tt := gTst (gOp inFD (gVar 2) (gVar 1))) (te := gVar 2) (M := M1) (ws := H4) (fun h => decide (h ∈ (firstsT p).map (·.1))) (by decide) (fun w _ => by simp [wipeD, fst_in h1]) (fun w _ => by simp [wipeD])
  simp only [f_harms_by, g_harms_by, runD]
  simp [e1]
  have e : ([D.str "empty", .str "half", .str "over", .str "spills"] : List D) = H4.map D.str := rfl
  rw [e, hlc]
  rfl
theorem lawHarms_ok {p : Pn} {M : Sto} (hp : p.Ok) : ∃ M', f__law_harms [encP p] M = okR (encW (harmsP p)) M' ∧ Ext M M' := by
  obtain ⟨n, M1, e1, h1⟩ := lawFirsts_ok (M := M) hp
  refine ⟨M1, ?_, h1.ext⟩
  have hlc := lc_filter (δ := wipeD [some (encP p), some (.cel n), none] [2]) (i := 2) (tt := gTst (gOp inFD (gVar 2) (gVar 1))) (te := gVar 2) (M := M1) (ws := H4) (fun h => decide (h ∈ (firstsT p).map (·.1))) (by decide) (fun w _ => by simp [wipeD, fst_in h1]) (fun w _ => by simp [wipeD])
  simp only [f__law_harms, g__law_harms, runD]
  simp [e1, slE, itemsD]
  have e : ([D.str "empty", .str "half", .str "over", .str "spills"] : List D) = H4.map D.str := rfl
  rw [e, hlc]
  rfl
theorem harms_ok {p : Pn} {M : Sto} (hp : p.Ok) : ∃ M', f_harms [encP p] M = okR (encW (harmsP p)) M' ∧ Ext M M' := by
  obtain ⟨M1, e1, h1⟩ := harmsBy_ok (M := M) hp
  exact ⟨M1, by simp [f_harms, g_harms, runD, lookPlan_ok hp, e1], h1⟩
theorem countStands_ok {p : Pn} {M : Sto} (hp : p.Ok) : ∃ M', f_count_stands [encP p] M = okR (.int (netP p).length) M' ∧ Ext M M' := by
  obtain ⟨M1, e1, h1⟩ := netOf_ok (M := M) hp
  exact ⟨M1, by simp [f_count_stands, g_count_stands, runD, lookPlan_ok hp, e1, lenFD, net_kv], h1⟩
def firstR (p : Pn) (w : Str) : D := match (firstsT p).find? fun x => decide (x.1 = w) with
  | some x => encR x.2
  | none => .non
theorem fst_get {M0 M : Sto} {n : Nat} {w : Str} {p : Pn} (h : Fst M0 n (firstsT p) M) : ((D.cel n).dks M).isSome = true ∧ (match (D.cel n).dks M, keyD (.str w) with
    | some kvs, some j => okR ((lkS kvs j).getD .non) M
    | _, _ => none) = okR (firstR p w) M := by
  have d3 : (D.cel n).dks M = some ((firstsT p).map encF) := by simp [D.dks, h.at_]
  rw [d3]
  refine ⟨rfl, ?_⟩
  simp only [keyD, lkS_map, firstR]
  cases (firstsT p).find? fun x => decide (x.1 = w) <;> rfl
theorem sget_ok {M0 M : Sto} {n : Nat} {w : Str} {p : Pn} {go gk : GE} {δ : Ev} {Mb : Sto} (h : Fst M0 n (firstsT p) M) (ho : go δ Mb = okR (.cel n) M) (hk : gk δ M = okR (.str w) M) : gSGet go gk δ Mb = okR (firstR p w) M := by
  obtain ⟨h1, h2⟩ := fst_get (w := w) h
  obtain ⟨kvs, hk1⟩ := Option.isSome_iff_exists.mp h1
  simp only [gSGet, ho, bindR_ok, hk1, hk]
  rw [hk1] at h2
  exact h2
theorem lookHarm_ok {w : Str} {M : Sto} (h : w ∈ H4) : f_look_at_harm [.str w] M = okR .non M := by
  have hx : ∀ a : Str, a ∈ H4 → f_look_at_harm [.str a] M = okR .non M := by
    intro a ha
    simp only [H4, List.mem_cons, List.not_mem_nil, or_false] at ha
    have hn : inR (.str a) (.tup [.str "empty", .str "half", .str "over", .str "spills"]) M = some true := by
      rcases ha with rfl | rfl | rfl | rfl <;> simp [inR, D.itsV, D.isScal, D.eqv]
    simp [f_look_at_harm, g_look_at_harm, runD, isiF, D.tyN, subTy, notInF, hn]
  exact hx w h
theorem firstHarm_ok {p : Pn} {w : Str} {M : Sto} (hp : p.Ok) (hw : w ∈ H4) : ∃ M', f_first_harm [encP p, .str w] M = okR (firstR p w) M' ∧ Ext M M' := by
  obtain ⟨n, M1, e1, h1⟩ := firstsBy_ok (M := M) hp
  refine ⟨M1, ?_, h1.ext⟩
  have hg := sget_ok (w := w) (go := gCallN 1 f_firsts_by (DL.gCons (gVar 0) DL.gNil)) (gk := gVar 1) (δ := [some (encP p), some (.str w)]) (Mb := M) h1 (by simp [e1]) (by simp)
  show finS (g_first_harm [some (encP p), some (.str w)] M) = _
  have t0 : (gExpr (gCallN 1 f_look_at_plan (DL.gCons (gVar 0) DL.gNil))) [some (encP p), some (.str w)] M = some (.nx [some (encP p), some (.str w)] M) := by simp [lookPlan_ok hp]
  have t1 : (gExpr (gCallN 1 f_look_at_harm (DL.gCons (gVar 1) DL.gNil))) [some (encP p), some (.str w)] M = some (.nx [some (encP p), some (.str w)] M) := by simp [lookHarm_ok hw]
  rw [g_first_harm, seq_nx t0, seq_nx t1, gRet, hg]
  rfl
def runTo (p : Pn) (s : Sd) : D := match (netP p).find? fun r => decide (r.s = s) with
  | some r => encR r.run
  | none => .non
theorem net_in {p : Pn} {s : Sd} {M : Sto} : inFD (encS s) (netD p) M = okR (.bl (decide (s ∈ (netP p).map (·.s)))) M := by
  have e : (lkN ((netP p).map kvF) (kS s)).isSome = decide (s ∈ (netP p).map (·.s)) := by
    have := lkN_map (fun x : PRow => x.s) (fun x => .tup [encR x.run, .lst (x.ticks.map encK)]) s (netP p)
    rw [show ((netP p).map fun r => (encS r.s, D.tup [encR r.run, .lst (r.ticks.map encK)])) = (netP p).map kvF from rfl] at this
    rw [this, Option.isSome_map, Bool.eq_iff_iff, List.find?_isSome]
    simp
  simp only [inFD, inRD, net_kv, keyN_S, e]
theorem net_run {p : Pn} {s : Sd} {M : Sto} {g : GE} {h : GE} {δ : Ev} (hp : p.Ok) (hg : ∀ M, g δ M = okR (netD p) M) (hh : ∀ M, h δ M = okR (encS s) M) : gIf (gTst (gOp inFD h g)) (gOp subIx (gOp subIxD g h) (gC (.int 0))) (gC .non) δ M = okR (runTo p s) M := by
  by_cases c : s ∈ (netP p).map (·.s)
  · obtain ⟨r, hr, rfl, hf⟩ := find_some (f := fun r : PRow => r.s) c
    have hsub : ∀ M, subIxD (netD p) (encS r.s) M = okR (.tup [encR r.run, .lst (r.ticks.map encK)]) M := fun M => by
      simp only [subIxD, net_kv, keyN_S, lk_net hp hr]
      rfl
    have ix0 : ∀ M, subIx (.tup [encR r.run, .lst (r.ticks.map encK)]) (.int 0) M = okR (encR r.run) M := fun M => ix_0
    simp only [gIf, gTst, gOp, gC, hg, hh, bindR_ok, net_in, decide_eq_true c, if_true, hsub, ix0, runTo, hf]
  · simp only [gIf, gTst, gOp, gC, hg, hh, bindR_ok, net_in, decide_eq_false c, runTo, find_none c]
    rfl
theorem runTo_ok {p : Pn} {s : Sd} {M : Sto} (hp : p.Ok) (hs : s.Ok p) : ∃ M', f_run_to [encP p, encS s] M = okR (runTo p s) M' ∧ Ext M M' := by
  obtain ⟨M1, e1, h1⟩ := netOf_ok (M := M) hp
  refine ⟨M1, ?_, h1⟩
  show finS (g_run_to [some (encP p), some (encS s), none] M) = _
  have t0 : (gExpr (gCallN 1 f_look_at_plan (DL.gCons (gVar 0) DL.gNil))) [some (encP p), some (encS s), none] M = some (.nx [some (encP p), some (encS s), none] M) := by simp [lookPlan_ok hp]
  have t1 : (gExpr (gCallN 2 f_look_at_stand (DL.gCons (gVar 0) (DL.gCons (gVar 1) DL.gNil)))) [some (encP p), some (encS s), none] M = some (.nx [some (encP p), some (encS s), none] M) := by simp [lookStand_ok hp hs]
  have t2 : (gAsg (gCallN 1 f_net_of (DL.gCons (gVar 0) DL.gNil)) (DL.gName 2)) [some (encP p), some (encS s), none] M = some (.nx [some (encP p), some (encS s), some (netD p)] M1) := by simp [e1]
  have t3 := net_run (M := M1) (s := s) (g := gVar 2) (h := gVar 1) (δ := [some (encP p), some (encS s), some (netD p)]) hp (fun M => by simp) (fun M => by simp)
  rw [g_run_to, seq_nx t0, seq_nx t1, seq_nx t2, gRet, t3]
  rfl
end
end EB
/-! PR: numbers of good ones, plainly -/
namespace EB
open PySem PySem.Spec L2 DL
variable [inst : Pw]
/-- a loop, what is behind each prefix -/
theorem forL_pfx {α : Type} {t : GG} {s : GS} {f : α → D} (I : List α → Ev → Sto → Prop) (xs : List α) (hs : ∀ pre x post, xs = pre ++ x :: post → ∀ δ M, I pre δ M → ∃ δ1 M1 δ2 M2, t (f x) δ M = okR δ1 M1 ∧ s δ1 M1 = some (.nx δ2 M2) ∧ I (pre ++ [x]) δ2 M2) :
    ∀ {post pre : List α} {δ : Ev} {M : Sto}, xs = pre ++ post → I pre δ M → ∃ δ' M', forL t s (post.map f) δ M = some (.nx δ' M') ∧ I xs δ' M'
  | [], pre, δ, M, e, hI => ⟨δ, M, rfl, by rw [e, List.append_nil]; exact hI⟩
  | x :: post, pre, δ, M, e, hI => by
    obtain ⟨δ1, M1, δ2, M2, h1, h2, h3⟩ := hs pre x post e δ M hI
    obtain ⟨δ', M', q1, q2⟩ := forL_pfx I xs hs (post := post) (pre := pre ++ [x]) (by rw [e]; simp) h3
    refine ⟨δ', M', ?_, q2⟩
    simp only [List.map_cons, forL, h1, bindS_ok, h2]
    exact q1
theorem rngN5 (n : Nat) : rngD 0 n = (List.range n).map fun (i : Nat) => D.int i := by
  unfold rngD
  exact List.map_congr_left fun i _ => by rw [show (0 : Int) + (i : Int) = i by omega]
theorem IsSp.ext5 {k : Nat} {M M' : Sto} (h : IsSp k M) (x : Ext M M') : IsSp k M' := by
  obtain ⟨a, b, e⟩ := h
  exact ⟨a, b, x.get e⟩
theorem max_int5 {i j : Int} {M : Sto} : maxF [.int i, .int j] M = okR (.int (max i j)) M := by
  simp [maxF]
  split <;> omega
theorem inW_ok {w : Str} {ws : List Str} {M : Sto} : inF (.str w) (encW ws) M = okR (.bl (decide (w ∈ ws))) M := by
  have e : (D.str w).isScal = true := rfl
  have ea : (ws.map D.str).all D.isScal = true := List.all_eq_true.mpr fun d hd => by
    obtain ⟨x, _, rfl⟩ := List.mem_map.mp hd
    rfl
  have ey : (ws.map D.str).any (fun z => D.eqv z (.str w)) = decide (w ∈ ws) := by
    rw [Bool.eq_iff_iff, List.any_map, List.any_eq_true]
    simp [D.eqv]
  have ei : inR (.str w) (encW ws) M = some (decide (w ∈ ws)) := by
    unfold inR
    have : (encW ws).itsV M = some (ws.map D.str) := rfl
    rw [this]
    simp only [e, ea, Bool.and_self, if_true, ey]
  unfold inF
  rw [ei]
/-! ### sorted sets of ints -/
def putI (L : List Int) (k : Int) : List Int := if k ∈ L then L else k :: L
def setI (l : List Int) : List Int := l.foldl putI []
def sset (l : List Int) : List Int := sortI (setI l)
theorem mem_putI {L : List Int} {k x : Int} : x ∈ putI L k ↔ x ∈ L ∨ x = k := by
  unfold putI
  split
  · rename_i h
    exact ⟨.inl, fun q => q.elim id fun e => e ▸ h⟩
  · simp only [List.mem_cons]
    exact or_comm
theorem setI_gen : ∀ (l L : List Int), L.Nodup → (∀ x, x ∈ l.foldl putI L ↔ x ∈ L ∨ x ∈ l) ∧ (l.foldl putI L).Nodup
  | [], L, h => by simp [h]
  | k :: l, L, h => by
    obtain ⟨h1, h2⟩ := setI_gen l (putI L k) (by
      unfold putI
      split
      · exact h
      · rename_i q
        exact List.nodup_cons.mpr ⟨q, h⟩)
    refine ⟨fun x => ?_, h2⟩
    rw [List.foldl_cons, h1, mem_putI, List.mem_cons]
    exact ⟨fun q => by rcases q with (q | q) | q <;> simp [q], fun q => by rcases q with q | q | q <;> simp [q]⟩
theorem mem_sset {l : List Int} {x : Int} : x ∈ sset l ↔ x ∈ l := by
  unfold sset
  rw [(sortI_perm _).mem_iff]
  have := (setI_gen l [] (by simp)).1 x
  unfold setI
  simpa using this
theorem nd_setI {l : List Int} : (setI l).Nodup := (setI_gen l [] (by simp)).2
theorem nd_sset {l : List Int} : (sset l).Nodup := (sortI_perm _).nodup_iff.mpr nd_setI
theorem setL_inl (l : List Int) : setL (l.map Sum.inl) = (setI l).map Sum.inl := by
  have gen : ∀ (l L : List Int), (l.map (Sum.inl : Int → Key)).foldl putM (L.map Sum.inl) = (l.foldl putI L).map Sum.inl := by
    intro l
    induction l with
    | nil => intro L; rfl
    | cons k l ih =>
      intro L
      have e : putM (L.map Sum.inl) (.inl k) = (putI L k).map (Sum.inl : Int → Key) := by
        unfold putM putI
        have : ((.inl k : Key) ∈ L.map (Sum.inl : Int → Key)) ↔ k ∈ L := by simp
        by_cases q : k ∈ L
        · rw [if_pos q, if_pos (this.mpr q)]
        · rw [if_neg q, if_neg (fun z => q (this.mp z))]; rfl
      rw [List.map_cons, List.foldl_cons, List.foldl_cons, e, ih]
  exact gen l []
theorem intsK_inl : ∀ l : List Int, intsK (l.map Sum.inl) = some l
  | [] => rfl
  | k :: l => by simp [intsK, intsK_inl l]
theorem keys_ints : ∀ l : List Int, keysOf (l.map D.int) = some (l.map Sum.inl)
  | [] => rfl
  | k :: l => by simp [keysOf, keyD, keys_ints l]
theorem sortedSet_ints {d : D} {l : List Int} {M : Sto} (h : d.itsV M = some (l.map D.int)) (h1 : l.length < 1000) (h2 : (setI l).length < 64) : sortedSetD d M = some ((sset l).map D.int) := by
  unfold sortedSetD
  have e : (d.itsV M).bind keysOf = some (l.map Sum.inl) := by rw [h, Option.bind_some, keys_ints]
  rw [e]
  simp only [setL_inl, intsK_inl]
  rw [if_pos ⟨by simpa using h1, by simpa using h2⟩]
  rfl
theorem len_btw {l : List Int} {b : Nat} (hn : l.Nodup) (h : ∀ x ∈ l, 0 ≤ x ∧ x ≤ b) : l.length ≤ b + 1 := by
  have := nd_len (m := (List.range (b + 1)).map fun (i : Nat) => (i : Int)) hn fun x hx => by
    have := h x hx
    exact List.mem_map.mpr ⟨x.toNat, List.mem_range.mpr (by omega), by omega⟩
  simpa using this
/-! ### least and greatest -/
theorem minI_is {l : List Int} {m : Int} (h : m ∈ l) (h' : ∀ x ∈ l, m ≤ x) : minI l = m := by
  obtain ⟨a, b⟩ := minI_ok (l := l) (fun e => by rw [e] at h; cases h)
  have := b m h
  have := h' _ a
  omega
theorem maxI_is {l : List Int} {m : Int} (h : m ∈ l) (h' : ∀ x ∈ l, x ≤ m) : maxI l = m := by
  obtain ⟨a, b⟩ := maxI_ok (l := l) (fun e => by rw [e] at h; cases h)
  have := b m h
  have := h' _ a
  omega
theorem minI_add {l : List Int} {g : Int} (h : l ≠ []) : minI (l.map (· + g)) = minI l + g := by
  obtain ⟨a, b⟩ := minI_ok h
  refine minI_is (List.mem_map.mpr ⟨_, a, rfl⟩) fun x hx => ?_
  obtain ⟨y, hy, rfl⟩ := List.mem_map.mp hx
  have := b y hy
  omega
theorem maxI_add {l : List Int} {g : Int} (h : l ≠ []) : maxI (l.map (· + g)) = maxI l + g := by
  obtain ⟨a, b⟩ := maxI_ok h
  refine maxI_is (List.mem_map.mpr ⟨_, a, rfl⟩) fun x hx => ?_
  obtain ⟨y, hy, rfl⟩ := List.mem_map.mp hx
  have := b y hy
  omega
theorem minI_sset {l m : List Int} (h : l ≠ []) (h' : m ≠ []) : minI (sset (l ++ m)) = min (minI l) (minI m) := by
  obtain ⟨a, b⟩ := minI_ok h
  obtain ⟨c, d⟩ := minI_ok h'
  refine minI_is (mem_sset.mpr (List.mem_append.mpr ?_)) fun x hx => ?_
  · by_cases q : minI l ≤ minI m
    · rw [Int.min_eq_left q]; exact .inl a
    · rw [Int.min_eq_right (by omega)]; exact .inr c
  · rcases List.mem_append.mp (mem_sset.mp hx) with q | q
    · have := b x q; omega
    · have := d x q; omega
theorem maxI_sset {l m : List Int} (h : l ≠ []) (h' : m ≠ []) : maxI (sset (l ++ m)) = max (maxI l) (maxI m) := by
  obtain ⟨a, b⟩ := maxI_ok h
  obtain ⟨c, d⟩ := maxI_ok h'
  refine maxI_is (mem_sset.mpr (List.mem_append.mpr ?_)) fun x hx => ?_
  · by_cases q : maxI m ≤ maxI l
    · rw [Int.max_eq_left q]; exact .inl a
    · rw [Int.max_eq_right (by omega)]; exact .inr c
  · rcases List.mem_append.mp (mem_sset.mp hx) with q | q
    · have := b x q; omega
    · have := d x q; omega
theorem minI_sset0 {m : List Int} (h' : m ≠ []) : minI (sset m) = minI m := by
  obtain ⟨c, d⟩ := minI_ok h'
  exact minI_is (mem_sset.mpr c) fun x hx => d x (mem_sset.mp hx)
theorem maxI_sset0 {m : List Int} (h' : m ≠ []) : maxI (sset m) = maxI m := by
  obtain ⟨c, d⟩ := maxI_ok h'
  exact maxI_is (mem_sset.mpr c) fun x hx => d x (mem_sset.mp hx)
/-! ### tables of numbers -/
abbrev NT := List (Sd × List Int)
def oldT (T : NT) (s : Sd) : List Int := match T.find? fun r => decide (r.1 = s) with
  | some r => r.2
  | none => []
def putT (T : NT) (s : Sd) (v : List Int) : NT := if s ∈ T.map (·.1) then T.map (fun r => if r.1 = s then (r.1, v) else r) else T ++ [(s, v)]
def updT (T : NT) (s : Sd) (ns : List Int) : NT := putT T s (sset (oldT T s ++ ns))
def gd (ws : List Str) : Int := if ("good" : Str) ∈ ws then 1 else 0
theorem gd_01 (ws : List Str) : 0 ≤ gd ws ∧ gd ws ≤ 1 := by unfold gd; split <;> omega
def stepN (p : Pn) (s : Sd) (ns : List Int) (T : NT) (c : Ch) : NT := updT T (tickM p s c).1 (ns.map (· + gd (tickM p s c).2))
def rowN (p : Pn) (T : NT) (r : Sd × List Int) : NT := (chs p r.1).foldl (stepN p r.1 r.2) T
def turnN (p : Pn) (T : NT) : NT := T.foldl (rowN p) []
def numT (p : Pn) : Nat → NT
  | 0 => [(beginS p, [0])]
  | t + 1 => turnN p (numT p t)
structure TInv (p : Pn) (b : Nat) (T : NT) : Prop where
  nd : (T.map (·.1)).Nodup
  ok : ∀ r ∈ T, r.1.Ok p
  ne : ∀ r ∈ T, r.2 ≠ []
  nn : ∀ r ∈ T, r.2.Nodup
  rg : ∀ r ∈ T, ∀ x ∈ r.2, 0 ≤ x ∧ x ≤ b
theorem put_keys {T : NT} {s : Sd} {v : List Int} : (putT T s v).map (·.1) = if s ∈ T.map (·.1) then T.map (·.1) else T.map (·.1) ++ [s] := by
  unfold putT
  split
  · rw [List.map_map]
    exact List.map_congr_left fun r _ => by simp only [Function.comp]; split <;> rfl
  · rw [List.map_append]; rfl
theorem put_mem {T : NT} {s : Sd} {v : List Int} {r : Sd × List Int} (h : r ∈ putT T s v) : r ∈ T ∨ r = (s, v) := by
  unfold putT at h
  split at h
  · obtain ⟨q, hq, rfl⟩ := List.mem_map.mp h
    split
    · rename_i e; rw [e]; exact .inr rfl
    · exact .inl hq
  · rcases List.mem_append.mp h with q | q
    · exact .inl q
    · exact .inr (List.mem_singleton.mp q)
theorem old_mem {T : NT} {s : Sd} {x : Int} (h : x ∈ oldT T s) : ∃ r ∈ T, r.1 = s ∧ r.2 = oldT T s ∧ x ∈ r.2 := by
  unfold oldT at h ⊢
  cases e : T.find? fun r => decide (r.1 = s) with
  | none => rw [e] at h; cases h
  | some r => rw [e] at h; exact ⟨r, List.mem_of_find?_eq_some e, by simpa using List.find?_some e, rfl, h⟩
theorem TInv.upd {p : Pn} {b : Nat} {T : NT} {s : Sd} {ns : List Int} (h : TInv p b T) (hs : s.Ok p) (hn : ns ≠ []) (hr : ∀ x ∈ ns, 0 ≤ x ∧ x ≤ b) : TInv p b (updT T s ns) where
  nd := by
    unfold updT
    rw [put_keys]
    split
    · exact h.nd
    · rename_i q
      rw [List.nodup_append]
      exact ⟨h.nd, by simp, fun a ha b hb => by simp at hb; subst hb; exact fun e => q (e ▸ ha)⟩
  ok := fun r hr => by
    rcases put_mem hr with q | rfl
    · exact h.ok r q
    · exact hs
  ne := fun r hr => by
    rcases put_mem hr with q | rfl
    · exact h.ne r q
    · obtain ⟨a, l, rfl⟩ := List.exists_cons_of_ne_nil hn
      intro e
      have : a ∈ sset (oldT T s ++ a :: l) := mem_sset.mpr (by simp)
      simp only at e
      rw [e] at this
      cases this
  nn := fun r hr => by
    rcases put_mem hr with q | rfl
    · exact h.nn r q
    · exact nd_sset
  rg := fun r hr' x hx => by
    rcases put_mem hr' with q | rfl
    · exact h.rg r q x hx
    · rcases List.mem_append.mp (mem_sset.mp hx) with q | q
      · obtain ⟨r, hr, _, _, hx⟩ := old_mem q
        exact h.rg r hr x hx
      · exact hr x q
theorem TInv.choices {p : Pn} {b : Nat} {s : Sd} {ns : List Int} (hp : p.Ok) (hs : s.Ok p) (hn : ns ≠ []) (hr : ∀ x ∈ ns, 0 ≤ x ∧ x + 1 ≤ b) : ∀ {cs : List Ch} {T : NT}, TInv p b T → (∀ c ∈ cs, c ∈ chs p s) → TInv p b (cs.foldl (stepN p s ns) T)
  | [], T, h, _ => h
  | c :: cs, T, h, hc => by
    refine TInv.choices hp hs hn hr (cs := cs) (h.upd (tick_ok hp hs (hc c List.mem_cons_self)) (by simpa using hn) fun x hx => ?_) fun c' hc' => hc c' (List.mem_cons_of_mem _ hc')
    obtain ⟨y, hy, rfl⟩ := List.mem_map.mp hx
    have := hr y hy
    have := gd_01 (tickM p s c).2
    omega
theorem TInv.rows {p : Pn} {b : Nat} (hp : p.Ok) : ∀ {R T : NT}, TInv p (b + 1) T → (∀ r ∈ R, r.1.Ok p ∧ r.2 ≠ [] ∧ ∀ x ∈ r.2, 0 ≤ x ∧ x ≤ b) → TInv p (b + 1) (R.foldl (rowN p) T)
  | [], T, h, _ => h
  | r :: R, T, h, hr => by
    obtain ⟨a, b', c⟩ := hr r List.mem_cons_self
    exact TInv.rows hp (R := R) (TInv.choices hp a b' (fun x hx => by have := c x hx; omega) h fun c hc => hc) fun r' hr' => hr r' (List.mem_cons_of_mem _ hr')
theorem tinv_nil {p : Pn} {b : Nat} : TInv p b [] := ⟨by simp, by simp, by simp, by simp, by simp⟩
theorem numT_ok {p : Pn} (hp : p.Ok) : ∀ t, TInv p t (numT p t)
  | 0 => by
    refine ⟨by simp [numT], fun r hr => ?_, fun r hr => ?_, fun r hr => ?_, fun r hr x hx => ?_⟩ <;> (simp only [numT, List.mem_singleton] at hr; subst hr)
    · exact begin_ok hp
    · simp
    · simp
    · simp at hx; subst hx; omega
  | t + 1 => TInv.rows hp tinv_nil fun r hr => ⟨(numT_ok hp t).ok r hr, (numT_ok hp t).ne r hr, (numT_ok hp t).rg r hr⟩
theorem TInv.len {p : Pn} {b : Nat} {T : NT} (hp : p.Ok) (h : TInv p b T) : T.length ≤ bnd p := by
  have := stands_len hp h.nd fun s hs => by
    obtain ⟨r, hr, rfl⟩ := List.mem_map.mp hs
    exact h.ok r hr
  simpa using this
theorem turn_ne {p : Pn} (hp : p.Ok) : ∀ t, numT p t ≠ [] := by
  have put_ne : ∀ {T : NT} {s : Sd} {v : List Int}, putT T s v ≠ [] := fun {T s v} => by
    unfold putT
    split
    · rename_i h
      intro e
      rw [List.map_eq_nil_iff] at e
      rw [e] at h
      cases h
    · simp
  have chs_ne : ∀ s : Sd, chs p s ≠ [] := fun s => by
    unfold chs
    repeat' split
    all_goals simp
  have fold1 : ∀ (cs : List Ch) (s : Sd) (ns : List Int) (T : NT), (T ≠ [] ∨ cs ≠ []) → cs.foldl (stepN p s ns) T ≠ [] := by
    intro cs
    induction cs with
    | nil => intro s ns T h; exact h.elim id fun z => absurd rfl z
    | cons c cs ih => intro s ns T h; exact ih s ns _ (.inl put_ne)
  have fold2 : ∀ (R T : NT), (T ≠ [] ∨ R ≠ []) → R.foldl (rowN p) T ≠ [] := by
    intro R
    induction R with
    | nil => intro T h; exact h.elim id fun z => absurd rfl z
    | cons r R ih => intro T h; exact ih _ (.inl (fold1 _ _ _ _ (.inr (chs_ne _))))
  intro t
  induction t with
  | zero => simp [numT]
  | succ t ih => exact fold2 _ _ (.inr ih)
/-! ### every run's number is there -/
def Has (T : NT) (s : Sd) (x : Int) : Prop := ∃ ns, (s, ns) ∈ T ∧ x ∈ ns
theorem old_of {T : NT} (hn : (T.map (·.1)).Nodup) {s : Sd} {ns : List Int} (h : (s, ns) ∈ T) : oldT T s = ns := by
  obtain ⟨i, hi⟩ := List.mem_iff_getElem?.mp h
  have := find_at (f := fun r : Sd × List Int => r.1) hn hi
  simp only at this
  unfold oldT
  rw [this]
theorem Has.put {T : NT} {s s' : Sd} {x : Int} {ns : List Int} (hn : (T.map (·.1)).Nodup) (h : Has T s x) : Has (updT T s' ns) s x := by
  obtain ⟨m, h1, h2⟩ := h
  unfold updT putT
  by_cases e : s = s'
  · subst e
    have hin : s ∈ T.map (·.1) := List.mem_map.mpr ⟨_, h1, rfl⟩
    rw [if_pos hin]
    refine ⟨sset (oldT T s ++ ns), List.mem_map.mpr ⟨(s, m), h1, by simp⟩, ?_⟩
    rw [old_of hn h1]
    exact mem_sset.mpr (List.mem_append_left _ h2)
  · split
    · exact ⟨m, List.mem_map.mpr ⟨_, h1, by simp [e]⟩, h2⟩
    · exact ⟨m, List.mem_append_left _ h1, h2⟩
theorem Has.new {T : NT} {s : Sd} {x : Int} {ns : List Int} (h : x ∈ ns) : Has (updT T s ns) s x := by
  unfold updT putT
  split
  · rename_i hin
    obtain ⟨r, hr, rfl⟩ := List.mem_map.mp hin
    exact ⟨_, List.mem_map.mpr ⟨r, hr, by simp; rfl⟩, mem_sset.mpr (List.mem_append_right _ h)⟩
  · exact ⟨_, List.mem_append_right _ (List.mem_singleton.mpr rfl), mem_sset.mpr (List.mem_append_right _ h)⟩
theorem nd_upd {T : NT} {s : Sd} {ns : List Int} (h : (T.map (·.1)).Nodup) : ((updT T s ns).map (·.1)).Nodup := by
  unfold updT
  rw [put_keys]
  split
  · exact h
  · rename_i q
    rw [List.nodup_append]
    exact ⟨h, by simp, fun a ha b hb => by simp at hb; subst hb; exact fun e => q (e ▸ ha)⟩
theorem has_choices {p : Pn} {s : Sd} {ns : List Int} : ∀ {cs : List Ch} {T : NT}, (T.map (·.1)).Nodup → ((cs.foldl (stepN p s ns) T).map (·.1)).Nodup ∧ (∀ s' x, Has T s' x → Has (cs.foldl (stepN p s ns) T) s' x) ∧ ∀ c ∈ cs, ∀ x ∈ ns, Has (cs.foldl (stepN p s ns) T) (tickM p s c).1 (x + gd (tickM p s c).2)
  | [], T, h => ⟨h, fun _ _ q => q, by simp⟩
  | c :: cs, T, h => by
    obtain ⟨h1, h2, h3⟩ := has_choices (p := p) (s := s) (ns := ns) (cs := cs) (T := stepN p s ns T c) (nd_upd h)
    refine ⟨h1, fun s' x q => h2 s' x (q.put h), fun c' hc' x hx => ?_⟩
    rcases List.mem_cons.mp hc' with rfl | hc'
    · exact h2 _ _ (Has.new (List.mem_map.mpr ⟨x, hx, rfl⟩))
    · exact h3 c' hc' x hx
theorem has_rows {p : Pn} : ∀ {R T : NT}, (T.map (·.1)).Nodup → ((R.foldl (rowN p) T).map (·.1)).Nodup ∧ (∀ s' x, Has T s' x → Has (R.foldl (rowN p) T) s' x) ∧ ∀ s x, Has R s x → ∀ c ∈ chs p s, Has (R.foldl (rowN p) T) (tickM p s c).1 (x + gd (tickM p s c).2)
  | [], T, h => ⟨h, fun _ _ q => q, fun s x q => by obtain ⟨_, q, _⟩ := q; cases q⟩
  | r :: R, T, h => by
    obtain ⟨a1, a2, a3⟩ := has_choices (p := p) (s := r.1) (ns := r.2) (cs := chs p r.1) (T := T) h
    obtain ⟨h1, h2, h3⟩ := has_rows (p := p) (R := R) (T := rowN p T r) a1
    refine ⟨h1, fun s' x q => h2 s' x (a2 s' x q), fun s x q c hc => ?_⟩
    obtain ⟨ns, q1, q2⟩ := q
    rcases List.mem_cons.mp q1 with e | q1
    · subst e
      exact h2 _ _ (a3 c hc x q2)
    · exact h3 s x ⟨ns, q1, q2⟩ c hc
theorem has_next {p : Pn} {t : Nat} {s : Sd} {x : Int} {c : Ch} (h : Has (numT p t) s x) (hc : c ∈ chs p s) : Has (numT p (t + 1)) (tickM p s c).1 (x + gd (tickM p s c).2) :=
  (has_rows (p := p) (R := numT p t) (T := []) (by simp)).2.2 s x h c hc
/-- all numbers -/
def allN (T : NT) : List Int := T.flatMap (·.2)
def loN (T : NT) : Int := minI (allN T)
def hiN (T : NT) : Int := maxI (allN T)
theorem Has.btw {T : NT} {s : Sd} {x : Int} (h : Has T s x) : loN T ≤ x ∧ x ≤ hiN T := by
  obtain ⟨ns, h1, h2⟩ := h
  have hm : x ∈ allN T := List.mem_flatMap.mpr ⟨_, h1, h2⟩
  have hne : allN T ≠ [] := fun e => by rw [e] at hm; cases hm
  exact ⟨(minI_ok hne).2 x hm, (maxI_ok hne).2 x hm⟩
theorem loN_map {T : NT} (h : T ≠ []) (hn : ∀ r ∈ T, r.2 ≠ []) : minI (T.map fun r => minI r.2) = loN T := by
  symm
  obtain ⟨a, b⟩ := minI_ok (l := T.map fun r => minI r.2) (by simpa using h)
  obtain ⟨r, hr, e⟩ := List.mem_map.mp a
  refine minI_is (List.mem_flatMap.mpr ⟨r, hr, ?_⟩) fun x hx => ?_
  · rw [← e]; exact (minI_ok (hn r hr)).1
  · obtain ⟨q, hq, hx⟩ := List.mem_flatMap.mp hx
    have := b _ (List.mem_map.mpr ⟨q, hq, rfl⟩)
    have := (minI_ok (hn q hq)).2 x hx
    omega
theorem hiN_map {T : NT} (h : T ≠ []) (hn : ∀ r ∈ T, r.2 ≠ []) : maxI (T.map fun r => maxI r.2) = hiN T := by
  symm
  obtain ⟨a, b⟩ := maxI_ok (l := T.map fun r => maxI r.2) (by simpa using h)
  obtain ⟨r, hr, e⟩ := List.mem_map.mp a
  refine maxI_is (List.mem_flatMap.mpr ⟨r, hr, ?_⟩) fun x hx => ?_
  · rw [← e]; exact (maxI_ok (hn r hr)).1
  · obtain ⟨q, hq, hx⟩ := List.mem_flatMap.mp hx
    have := b _ (List.mem_map.mpr ⟨q, hq, rfl⟩)
    have := (maxI_ok (hn q hq)).2 x hx
    omega
/-! ### tables as dicts -/
def kvG (g : List Int → D) (r : Sd × List Int) : D × D := (encS r.1, g r.2)
theorem lkG (g : List Int → D) (s : Sd) (T : NT) : lkN (T.map (kvG g)) (kS s) = (T.find? fun r => decide (r.1 = s)).map fun r => g r.2 :=
  lkN_map (fun r : Sd × List Int => r.1) (fun r => g r.2) s T
theorem ptG (g : List Int → D) (s : Sd) (T : NT) (v : List Int) : ptN (T.map (kvG g)) (kS s) (encS s) (g v) = (putT T s v).map (kvG g) := by
  unfold ptN putT
  rw [lkG, Option.isSome_map]
  have e : (T.find? fun r => decide (r.1 = s)).isSome = true ↔ s ∈ T.map (·.1) := by
    rw [List.find?_isSome]
    simp only [decide_eq_true_eq, List.mem_map]
  by_cases h : s ∈ T.map (·.1)
  · rw [if_pos (e.mpr h), if_pos h, List.map_map, List.map_map]
    refine List.map_congr_left fun r _ => ?_
    simp only [Function.comp, kvG, keyN_S, Option.some.injEq]
    by_cases q : r.1 = s
    · rw [if_pos (by rw [q]), if_pos q]
    · rw [if_neg (fun z => q (kS_inj z)), if_neg q]
  · rw [if_neg (fun z => h (e.mp z)), if_neg h, List.map_append]
    rfl
structure AtG (M0 : Sto) (n : Nat) (kvs : List (D × D)) (M : Sto) : Prop where
  ext : Ext M0 M
  n0 : M0.length ≤ n
  at_ : M[n]? = some (.dkn kvs)
theorem AtG.put {M0 M : Sto} {n : Nat} {kvs kvs' : List (D × D)} (h : AtG M0 n kvs M) : AtG M0 n kvs' (M.set n (.dkn kvs')) := by
  have hn0 := h.n0
  refine ⟨⟨by simpa using h.ext.len, fun k hk => ?_⟩, h.n0, List.getElem?_set_self (get_lt h.at_)⟩
  rw [List.getElem?_set_ne (by omega)]
  exact h.ext.fr k hk
theorem AtG.garb {M0 M G : Sto} {n : Nat} {kvs : List (D × D)} (h : AtG M0 n kvs M) : AtG M0 n kvs (M ++ G) :=
  ⟨h.ext.trans Ext.app, h.n0, by rw [List.getElem?_append_left (get_lt h.at_)]; exact h.at_⟩
theorem AtG.dead {M0 M : Sto} {n : Nat} {kvs : List (D × D)} (h : AtG M0 n kvs M) : Ext M0 (M.set n .dead) := by
  have hn0 := h.n0
  refine ⟨by simpa using h.ext.len, fun k hk => ?_⟩
  rw [List.getElem?_set_ne (by omega)]
  exact h.ext.fr k hk
def dcnG (g : List Int → D) (T : NT) : D := .dcn (T.map fun r => encS r.1) (T.map fun r => g r.2)
theorem dcn_items (g : List Int → D) (T : NT) : ((T.map fun r => encS r.1).zip (T.map fun r => g r.2)).map (fun p => D.tup [p.1, p.2]) = T.map fun r => D.tup [encS r.1, g r.2] := by
  induction T with
  | nil => rfl
  | cons r T ih => simp [ih]
end EB
/-! PU: graphs with weights: levels, turns in place -/
namespace GR
variable {α : Type} [DecidableEq α]
abbrev Ed (α : Type) := α × α × Int
/-- the greatest weight of a walk of at most k edges to v -/
def lev (E : List (Ed α)) : Nat → α → Int
  | 0, _ => 0
  | k + 1, v => E.foldl (fun m e => if e.2.1 = v then max m (lev E k e.1 + e.2.2) else m) (lev E k v)
theorem fold_ge (f : α → Int) (v : α) : ∀ (E : List (Ed α)) (m : Int), m ≤ E.foldl (fun m e => if e.2.1 = v then max m (f e.1 + e.2.2) else m) m ∧ (∀ e ∈ E, e.2.1 = v → f e.1 + e.2.2 ≤ E.foldl (fun m e => if e.2.1 = v then max m (f e.1 + e.2.2) else m) m) ∧
    (E.foldl (fun m e => if e.2.1 = v then max m (f e.1 + e.2.2) else m) m = m ∨ ∃ e ∈ E, e.2.1 = v ∧ E.foldl (fun m e => if e.2.1 = v then max m (f e.1 + e.2.2) else m) m = f e.1 + e.2.2)
  | [], m => ⟨Int.le_refl _, by simp, .inl rfl⟩
  | e :: E, m => by
    rw [List.foldl_cons]
    obtain ⟨h1, h2, h3⟩ := fold_ge f v E (if e.2.1 = v then max m (f e.1 + e.2.2) else m)
    by_cases c : e.2.1 = v
    · rw [if_pos c] at h1 h2 h3 ⊢
      refine ⟨by omega, fun e' he' c' => ?_, ?_⟩
      · rcases List.mem_cons.mp he' with rfl | he'
        · omega
        · exact h2 e' he' c'
      · rcases h3 with q | ⟨e', he', c', q⟩
        · by_cases z : f e.1 + e.2.2 ≤ m
          · exact .inl (by rw [q]; omega)
          · exact .inr ⟨e, List.mem_cons_self, c, by rw [q]; omega⟩
        · exact .inr ⟨e', List.mem_cons_of_mem _ he', c', q⟩
    · rw [if_neg c] at h1 h2 h3 ⊢
      refine ⟨h1, fun e' he' c' => ?_, ?_⟩
      · rcases List.mem_cons.mp he' with rfl | he'
        · exact absurd c' c
        · exact h2 e' he' c'
      · rcases h3 with q | ⟨e', he', c', q⟩
        · exact .inl q
        · exact .inr ⟨e', List.mem_cons_of_mem _ he', c', q⟩
variable {E : List (Ed α)}
theorem lev_mono1 (k : Nat) (v : α) : lev E k v ≤ lev E (k + 1) v := (fold_ge (lev E k) v E _).1
theorem lev_mono {j k : Nat} (h : j ≤ k) (v : α) : lev E j v ≤ lev E k v := by
  induction h with
  | refl => exact Int.le_refl _
  | step _ ih => exact Int.le_trans ih (lev_mono1 _ v)
theorem lev_edge {k : Nat} {e : Ed α} (h : e ∈ E) : lev E k e.1 + e.2.2 ≤ lev E (k + 1) e.2.1 := (fold_ge (lev E k) e.2.1 E _).2.1 e h rfl
theorem lev_by (k : Nat) (v : α) : lev E (k + 1) v = lev E k v ∨ ∃ e ∈ E, e.2.1 = v ∧ lev E (k + 1) v = lev E k e.1 + e.2.2 := (fold_ge (lev E k) v E _).2.2
theorem nd_le : ∀ {l m : List α}, l.Nodup → (∀ x ∈ l, x ∈ m) → l.length ≤ m.length
  | [], _, _, _ => Nat.zero_le _
  | x :: l, m, h, hs => by
    obtain ⟨h1, h2⟩ := List.nodup_cons.mp h
    have hx := hs x List.mem_cons_self
    have := nd_le (l := l) (m := m.erase x) h2 fun y hy => (List.mem_erase_of_ne (fun e => h1 (by rw [← e]; exact hy))).mpr (hs y (List.mem_cons_of_mem _ hy))
    rw [List.length_erase_of_mem hx] at this
    have hp := List.length_pos_of_mem hx
    simp only [List.length_cons]
    omega
/-- a node that improves at step k has k + 1 different nodes along its walk -/
theorem improve {V : List α} {h : α → Int} (hE : ∀ e ∈ E, e.1 ∈ V ∧ e.2.1 ∈ V) (hh : ∀ e ∈ E, h e.1 + e.2.2 ≤ h e.2.1) : ∀ (k : Nat) (v : α), lev E k v < lev E (k + 1) v →
    ∃ l : List α, l.Nodup ∧ l.length = k + 2 ∧ (∀ x ∈ l, x ∈ V) ∧ v ∈ l ∧ ∀ x ∈ l, ∃ a, a ≤ k + 1 ∧ lev E (k + 1) v ≤ lev E a x + (h v - h x)
  | k, v, hi => by
    rcases lev_by (E := E) k v with q | ⟨e, he, rfl, q⟩
    · omega
    · obtain ⟨hv1, hv2⟩ := hE e he
      have hw := hh e he
      have grow : ∀ l : List α, l.Nodup → l.length = k + 1 → (∀ x ∈ l, x ∈ V) → (∀ x ∈ l, ∃ a, a ≤ k ∧ lev E k e.1 ≤ lev E a x + (h e.1 - h x)) →
          ∃ l : List α, l.Nodup ∧ l.length = k + 2 ∧ (∀ x ∈ l, x ∈ V) ∧ e.2.1 ∈ l ∧ ∀ x ∈ l, ∃ a, a ≤ k + 1 ∧ lev E (k + 1) e.2.1 ≤ lev E a x + (h e.2.1 - h x) := by
        intro l a1 a2 a3 a5
        have hn : e.2.1 ∉ l := fun hm => by
          obtain ⟨a, ha, hb⟩ := a5 _ hm
          have := lev_mono (E := E) ha e.2.1
          omega
        refine ⟨e.2.1 :: l, List.nodup_cons.mpr ⟨hn, a1⟩, by simp [a2], fun x hx => ?_, List.mem_cons_self, fun x hx => ?_⟩
        · rcases List.mem_cons.mp hx with rfl | hx
          · exact hv2
          · exact a3 x hx
        · rcases List.mem_cons.mp hx with rfl | hx
          · exact ⟨k + 1, Nat.le_refl _, by omega⟩
          · obtain ⟨a, ha, hb⟩ := a5 x hx
            exact ⟨a, by omega, by omega⟩
      cases k with
      | zero => exact grow [e.1] (by simp) rfl (by simpa using hv1) (by
          intro x hx
          obtain rfl := List.mem_singleton.mp hx
          exact ⟨0, Nat.le_refl _, by omega⟩)
      | succ k =>
        have hi2 : lev E k e.1 < lev E (k + 1) e.1 := by
          have := lev_edge (E := E) (k := k) he
          omega
        obtain ⟨l, a1, a2, a3, _, a5⟩ := improve hE hh k e.1 hi2
        exact grow l a1 a2 a3 a5
theorem lev_end {V : List α} {h : α → Int} (hE : ∀ e ∈ E, e.1 ∈ V ∧ e.2.1 ∈ V) (hh : ∀ e ∈ E, h e.1 + e.2.2 ≤ h e.2.1) {k : Nat} (hk : V.length ≤ k + 1) (v : α) : lev E (k + 1) v = lev E k v := by
  have h1 := lev_mono1 (E := E) k v
  rcases Int.lt_or_eq_of_le h1 with q | q
  · obtain ⟨l, a1, a2, a3, _⟩ := improve hE hh k v q
    have := nd_le a1 a3
    omega
  · exact q.symm
/-- an edge, in place -/
def relax (g : α → Int) (e : Ed α) : α → Int := if g e.1 + e.2.2 > g e.2.1 then fun v => if v = e.2.1 then g e.1 + e.2.2 else g v else g
theorem relax_ge {g : α → Int} {e : Ed α} : ∀ v, g v ≤ relax g e v := by
  intro v
  unfold relax
  split
  · by_cases c : v = e.2.1
    · simp only [c, if_true]; omega
    · simp only [c, if_false]; exact Int.le_refl _
  · exact Int.le_refl _
theorem relax_at {g : α → Int} {e : Ed α} : g e.1 + e.2.2 ≤ relax g e e.2.1 := by
  unfold relax
  split
  · simp
  · omega
theorem relax_le {g f : α → Int} {e : Ed α} (h : ∀ v, g v ≤ f v) (he : f e.1 + e.2.2 ≤ f e.2.1) : ∀ v, relax g e v ≤ f v := by
  intro v
  unfold relax
  split
  · by_cases c : v = e.2.1
    · have := h e.1
      simp only [c, if_true]; omega
    · simp only [c, if_false]; exact h v
  · exact h v
def turn (E : List (Ed α)) (g : α → Int) : α → Int := E.foldl relax g
theorem turn_ge : ∀ {E : List (Ed α)} {g : α → Int}, (∀ v, g v ≤ turn E g v) ∧ ∀ f : α → Int, (∀ v, f v ≤ g v) → ∀ e ∈ E, f e.1 + e.2.2 ≤ turn E g e.2.1
  | [], g => ⟨fun v => Int.le_refl _, by simp⟩
  | e :: E, g => by
    obtain ⟨h1, h2⟩ := turn_ge (E := E) (g := relax g e)
    refine ⟨fun v => Int.le_trans (relax_ge v) (h1 v), fun f hf e' he' => ?_⟩
    rcases List.mem_cons.mp he' with rfl | he'
    · have a := hf e'.1
      have b := relax_at (g := g) (e := e')
      have c := h1 e'.2.1
      show f e'.1 + e'.2.2 ≤ turn E (relax g e') e'.2.1
      omega
    · exact h2 f (fun v => Int.le_trans (hf v) (relax_ge v)) e' he'
theorem turn_le {f : α → Int} : ∀ {E : List (Ed α)} {g : α → Int}, (∀ v, g v ≤ f v) → (∀ e ∈ E, f e.1 + e.2.2 ≤ f e.2.1) → ∀ v, turn E g v ≤ f v
  | [], g, h, _ => h
  | e :: E, g, h, he => turn_le (E := E) (relax_le h (he e List.mem_cons_self)) fun e' he' => he e' (List.mem_cons_of_mem _ he')
def turns (E : List (Ed α)) : Nat → α → Int
  | 0 => fun _ => 0
  | t + 1 => turn E (turns E t)
theorem turns_ge (t : Nat) : ∀ v, lev E t v ≤ turns E t v := by
  induction t with
  | zero => intro v; exact Int.le_refl _
  | succ t ih =>
    intro v
    obtain ⟨h1, h2⟩ := turn_ge (E := E) (g := turns E t)
    rcases lev_by (E := E) t v with q | ⟨e, he, rfl, q⟩
    · rw [q]; exact Int.le_trans (ih v) (h1 v)
    · rw [q]; exact h2 _ ih e he
/-- after as many turns as there are nodes nothing grows -/
theorem turns_end {V : List α} {h : α → Int} (hE : ∀ e ∈ E, e.1 ∈ V ∧ e.2.1 ∈ V) (hh : ∀ e ∈ E, h e.1 + e.2.2 ≤ h e.2.1) : ∀ e ∈ E, turns E V.length e.1 + e.2.2 ≤ turns E V.length e.2.1 := by
  have hf : ∀ e ∈ E, lev E V.length e.1 + e.2.2 ≤ lev E V.length e.2.1 := fun e he => by
    have a := lev_edge (E := E) (k := V.length) he
    have b := lev_end hE hh (k := V.length) (by omega) e.2.1
    omega
  have hle : ∀ t v, turns E t v ≤ lev E V.length v := by
    intro t
    induction t with
    | zero => intro v; exact lev_mono (E := E) (Nat.zero_le _) v
    | succ t ih => exact turn_le ih hf
  have he : ∀ v, turns E V.length v = lev E V.length v := fun v => Int.le_antisymm (hle _ v) (turns_ge _ v)
  intro e hm
  rw [he, he]
  exact hf e hm
end GR
/-! PV: rings along a table of what is ahead -/
namespace EB
open PySem PySem.Spec L2 DL
variable [inst : Pw]
/-! ### tables keyed by stands -/
section
variable {β : Type}
def lkB (T : List (Sd × β)) (s : Sd) : Option β := (T.find? fun r => decide (r.1 = s)).map (·.2)
def putB (T : List (Sd × β)) (s : Sd) (v : β) : List (Sd × β) := if s ∈ T.map (·.1) then T.map (fun r => if r.1 = s then (r.1, v) else r) else T ++ [(s, v)]
def kvB (g : β → D) (r : Sd × β) : D × D := (encS r.1, g r.2)
theorem lkB_D (g : β → D) (s : Sd) (T : List (Sd × β)) : lkN (T.map (kvB g)) (kS s) = (lkB T s).map g := by
  have := lkN_map (fun r : Sd × β => r.1) (fun r => g r.2) s T
  unfold lkB
  rw [Option.map_map]
  exact this
theorem lkB_some {T : List (Sd × β)} {s : Sd} : (lkB T s).isSome = true ↔ s ∈ T.map (·.1) := by
  unfold lkB
  rw [Option.isSome_map, List.find?_isSome]
  simp only [decide_eq_true_eq, List.mem_map]
theorem putB_D (g : β → D) (s : Sd) (T : List (Sd × β)) (v : β) : ptN (T.map (kvB g)) (kS s) (encS s) (g v) = (putB T s v).map (kvB g) := by
  unfold ptN putB
  rw [lkB_D, Option.isSome_map]
  by_cases h : s ∈ T.map (·.1)
  · rw [if_pos (lkB_some.mpr h), if_pos h, List.map_map, List.map_map]
    refine List.map_congr_left fun r _ => ?_
    simp only [Function.comp, kvB, keyN_S, Option.some.injEq]
    by_cases q : r.1 = s
    · rw [if_pos (by rw [q]), if_pos q]
    · rw [if_neg (fun z => q (kS_inj z)), if_neg q]
  · rw [if_neg (fun z => h (lkB_some.mp z)), if_neg h, List.map_append]
    rfl
theorem putB_keys {T : List (Sd × β)} {s : Sd} {v : β} : (putB T s v).map (·.1) = if s ∈ T.map (·.1) then T.map (·.1) else T.map (·.1) ++ [s] := by
  unfold putB
  split
  · rw [List.map_map]
    exact List.map_congr_left fun r _ => by simp only [Function.comp]; split <;> rfl
  · rw [List.map_append]; rfl
theorem putB_nd {T : List (Sd × β)} {s : Sd} {v : β} (h : (T.map (·.1)).Nodup) : ((putB T s v).map (·.1)).Nodup := by
  rw [putB_keys]
  split
  · exact h
  · rename_i q
    rw [List.nodup_append]
    exact ⟨h, by simp, fun a ha b hb => by simp at hb; subst hb; exact fun e => q (e ▸ ha)⟩
theorem lkB_put {T : List (Sd × β)} {s x : Sd} {v : β} : lkB (putB T s v) x = if x = s then some v else lkB T x := by
  induction T with
  | nil =>
    simp only [putB, lkB, List.map_nil, List.not_mem_nil, if_false, List.nil_append, List.find?_cons, List.find?_nil]
    by_cases c : x = s
    · subst c; simp
    · have : ¬ s = x := fun e => c e.symm
      simp [c, this]
  | cons r T ih =>
    unfold putB at ih ⊢
    by_cases h1 : r.1 = s
    · have hin : s ∈ (r :: T).map (·.1) := by simp [h1]
      rw [if_pos hin, List.map_cons, if_pos h1]
      by_cases c : x = s
      · subst c
        rw [if_pos rfl]
        simp [lkB, List.find?_cons, h1]
      · rw [if_neg c]
        have h2 : ¬ r.1 = x := fun e => c (e.symm.trans h1)
        have e1 : ∀ T' : List (Sd × β), lkB (((r.1, v) : Sd × β) :: T') x = lkB T' x := fun T' => by simp [lkB, List.find?_cons, h2]
        have e2 : lkB (r :: T) x = lkB T x := by simp [lkB, List.find?_cons, h2]
        rw [e1, e2]
        clear ih hin e2
        induction T with
        | nil => rfl
        | cons q T ih2 =>
          by_cases q1 : q.1 = s
          · have q2 : ¬ q.1 = x := fun e => c (e.symm.trans q1)
            rw [List.map_cons, if_pos q1]
            have e3 : ∀ T' : List (Sd × β), lkB (((q.1, v) : Sd × β) :: T') x = lkB T' x := fun T' => by simp [lkB, List.find?_cons, q2]
            have e4 : lkB (q :: T) x = lkB T x := by simp [lkB, List.find?_cons, q2]
            rw [e3, e4]
            exact ih2
          · rw [List.map_cons, if_neg q1]
            by_cases q2 : q.1 = x
            · simp [lkB, List.find?_cons, q2]
            · have e3 : ∀ T' : List (Sd × β), lkB (q :: T') x = lkB T' x := fun T' => by simp [lkB, List.find?_cons, q2]
              rw [e3, e3]
              exact ih2
    · have hiff : (s ∈ (r :: T).map (·.1)) ↔ s ∈ T.map (·.1) := by
        rw [List.map_cons, List.mem_cons]
        exact ⟨fun z => z.elim (fun e => absurd e.symm h1) id, .inr⟩
      by_cases hs : s ∈ T.map (·.1)
      · rw [if_pos (hiff.mpr hs), List.map_cons, if_neg h1]
        rw [if_pos hs] at ih
        by_cases q2 : r.1 = x
        · have : ¬ x = s := fun e => h1 (q2.trans e)
          rw [if_neg this]
          simp [lkB, List.find?_cons, q2]
        · have e3 : ∀ T' : List (Sd × β), lkB (r :: T') x = lkB T' x := fun T' => by simp [lkB, List.find?_cons, q2]
          rw [e3, e3]
          exact ih
      · rw [if_neg (fun z => hs (hiff.mp z)), List.cons_append]
        rw [if_neg hs] at ih
        by_cases q2 : r.1 = x
        · have : ¬ x = s := fun e => h1 (q2.trans e)
          rw [if_neg this]
          simp [lkB, List.find?_cons, q2]
        · have e3 : ∀ T' : List (Sd × β), lkB (r :: T') x = lkB T' x := fun T' => by simp [lkB, List.find?_cons, q2]
          rw [e3, e3]
          exact ih
theorem putB_len {T : List (Sd × β)} {s : Sd} {v : β} : (putB T s v).length ≤ T.length + 1 := by
  unfold putB
  split <;> simp
theorem putB_mem {T : List (Sd × β)} {s : Sd} {v : β} {r : Sd × β} (h : r ∈ putB T s v) : (r ∈ T ∧ r.1 ≠ s) ∨ r = (s, v) := by
  unfold putB at h
  split at h
  · obtain ⟨q, hq, rfl⟩ := List.mem_map.mp h
    by_cases e : q.1 = s
    · rw [if_pos e]; exact .inr (by rw [e])
    · rw [if_neg e]; exact .inl ⟨hq, e⟩
  · rename_i hn
    rcases List.mem_append.mp h with q | q
    · exact .inl ⟨q, fun e => hn (e ▸ List.mem_map.mpr ⟨r, q, rfl⟩)⟩
    · exact .inr (List.mem_singleton.mp q)
theorem lkB_mem {T : List (Sd × β)} {s : Sd} {v : β} (h : lkB T s = some v) : (s, v) ∈ T := by
  unfold lkB at h
  obtain ⟨r, hr, rfl⟩ := Option.map_eq_some_iff.mp h
  have h1 := List.find?_some hr
  simp only [decide_eq_true_eq] at h1
  rw [← h1]
  exact List.mem_of_find?_eq_some hr
end
/-! ### ahead -/
structure AR where
  s : Sd
  c : Ch
  t : Int
  b : Int
def encA (a : AR) : D := .tup [encS a.s, encC a.c, .tup [.int a.t, .int a.b]]
abbrev AT := List (Sd × AR)
/-- along the table from s0: the nodes, what is ahead of each, where one stands now -/
inductive Chn (A : AT) (s0 : Sd) : List Sd → List AR → Sd → Prop
  | nil : Chn A s0 [] [] s0
  | snoc {ns : List Sd} {ls : List AR} {s : Sd} {e : AR} : Chn A s0 ns ls s → lkB A s = some e → Chn A s0 (ns ++ [s]) (ls ++ [e]) e.s
theorem Chn.len {A : AT} {s0 s : Sd} {ns : List Sd} {ls : List AR} (h : Chn A s0 ns ls s) : ns.length = ls.length := by
  induction h with
  | nil => rfl
  | snoc _ _ ih => simp [ih]
theorem Chn.of_nil {A : AT} {s0 s : Sd} {ls : List AR} (h : Chn A s0 [] ls s) : s = s0 ∧ ls = [] := by
  generalize hns : ([] : List Sd) = ns at h
  cases h with
  | nil => exact ⟨rfl, rfl⟩
  | snoc _ _ => simp at hns
theorem Chn.keys {A : AT} {s0 s : Sd} {ns : List Sd} {ls : List AR} (h : Chn A s0 ns ls s) : ∀ x ∈ ns, x ∈ A.map (·.1) := by
  induction h with
  | nil => intro x hx; cases hx
  | snoc _ e ih =>
    intro x hx
    rcases List.mem_append.mp hx with q | q
    · exact ih x q
    · obtain rfl := List.mem_singleton.mp q
      exact lkB_some.mp (by rw [e]; rfl)
/-- with an end after k steps -/
inductive EndsN (A : AT) : Sd → Nat → Prop
  | stop {s : Sd} : lkB A s = none → EndsN A s 0
  | step {s : Sd} {e : AR} {k : Nat} : lkB A s = some e → EndsN A e.s k → EndsN A s (k + 1)
theorem EndsN.uniq {A : AT} {s : Sd} {j k : Nat} (h : EndsN A s j) (h' : EndsN A s k) : j = k := by
  induction h generalizing k with
  | stop e =>
    cases h' with
    | stop _ => rfl
    | step e' _ => rw [e] at e'; cases e'
  | step e _ ih =>
    cases h' with
    | stop e' => rw [e] at e'; cases e'
    | step e' h2 => rw [e] at e'; cases e'; rw [ih h2]
theorem Chn.ends {A : AT} {s0 s : Sd} {ns : List Sd} {ls : List AR} {k : Nat} (h : Chn A s0 ns ls s) (he : EndsN A s k) : ∃ k', EndsN A s0 k' := by
  induction h generalizing k with
  | nil => exact ⟨k, he⟩
  | snoc _ e ih => exact ih (.step e he)
theorem EndsN.short {A : AT} {s : Sd} {k : Nat} (h : EndsN A s k) : ∃ l : List Sd, l.Nodup ∧ l.length = k ∧ ∀ x ∈ l, x ∈ A.map (·.1) ∧ ∃ j, j ≤ k ∧ EndsN A x j := by
  induction h with
  | stop _ => exact ⟨[], by simp, rfl, by simp⟩
  | @step s e k h1 h2 ih =>
    obtain ⟨l, a1, a2, a3⟩ := ih
    refine ⟨s :: l, List.nodup_cons.mpr ⟨fun hm => ?_, a1⟩, by simp [a2], fun x hx => ?_⟩
    · obtain ⟨_, j, hj, q⟩ := a3 s hm
      have := q.uniq (.step h1 h2)
      omega
    · rcases List.mem_cons.mp hx with rfl | hx
      · exact ⟨lkB_some.mp (by rw [h1]; rfl), k + 1, Nat.le_refl _, .step h1 h2⟩
      · obtain ⟨q1, j, hj, q⟩ := a3 x hx
        exact ⟨q1, j, by omega, q⟩
theorem EndsN.le {A : AT} {s : Sd} {k : Nat} (h : EndsN A s k) : k ≤ A.length := by
  obtain ⟨l, a1, a2, a3⟩ := h.short
  have := nd_len (m := A.map (·.1)) a1 fun x hx => (a3 x hx).1
  rw [List.length_map] at this
  omega
/-- one more is ahead: no ring, if none at the new one -/
theorem ends_put {A : AT} {v : Sd} {e : AR} {k0 : Nat} (hA : ∀ s, ∃ k, EndsN A s k) (hv : EndsN (putB A v e) v k0) : ∀ s, ∃ k, EndsN (putB A v e) s k := by
  intro s
  obtain ⟨k, h⟩ := hA s
  induction h with
  | @stop s h =>
    by_cases c : s = v
    · subst c; exact ⟨k0, hv⟩
    · exact ⟨0, .stop (by rw [lkB_put, if_neg c]; exact h)⟩
  | @step s e' k h1 _ ih =>
    by_cases c : s = v
    · subst c; exact ⟨k0, hv⟩
    · obtain ⟨k', q⟩ := ih
      exact ⟨k' + 1, .step (by rw [lkB_put, if_neg c]; exact h1) q⟩
/-- the ring that closes when one more is ahead -/
theorem ring_put {A : AT} {v : Sd} {e : AR} {h : Sd → Int} {val : AR → Int} {now : Int} (hA : ∀ s, ∃ k, EndsN A s k) (hh : ∀ s a, lkB A s = some a → h s ≤ h a.s + val a) (hnow : now = h e.s + val e) {ns : List Sd} {ls : List AR} {s : Sd} (hc : Chn (putB A v e) v ns ls s) (hn : ns.Nodup) (hne : ns ≠ []) :
    ns.head? = some v ∧ (∀ x ∈ ns.tail, ∀ j k, EndsN A s j → EndsN A x k → j < k) ∧ now - h s ≤ (ls.map val).sum := by
  induction hc with
  | nil => exact absurd rfl hne
  | @snoc ns ls s a hc ha ih =>
    rw [lkB_put] at ha
    by_cases hns : ns = []
    · subst hns
      obtain ⟨rfl, rfl⟩ := hc.of_nil
      rw [if_pos rfl] at ha
      cases ha
      refine ⟨rfl, by simp, ?_⟩
      simp
      omega
    · obtain ⟨h1, h2, h3⟩ := ih (List.nodup_append.mp hn).1 hns
      obtain ⟨n0, nr, rfl⟩ := List.exists_cons_of_ne_nil hns
      have e0 : n0 = v := by simpa using h1
      subst e0
      have hs : s ≠ n0 := fun q => by
        subst q
        have := (List.nodup_append.mp hn).2.2 s (by simp) s (by simp)
        exact this rfl
      rw [if_neg hs] at ha
      have hv := hh s a ha
      refine ⟨rfl, fun x hx j k hj hk => ?_, ?_⟩
      · obtain ⟨ks, hks⟩ := hA s
        have hk1 : ks = j + 1 := hks.uniq (.step ha hj)
        simp only [List.cons_append, List.tail_cons] at hx
        rcases List.mem_append.mp hx with q | q
        · have := h2 x (by simpa using q) ks k hks hk
          omega
        · obtain rfl := List.mem_singleton.mp q
          have := hks.uniq hk
          omega
      · rw [List.map_append, List.sum_append]
        simp
        omega
end EB
/-! QA: ring_along -/
namespace EB
open PySem PySem.Spec L2 DL
variable [inst : Pw]
noncomputable def s_ring_along_0  : GS := (gPar 2 3 (DL.gCons (gLstC DL.gNil) (DL.gCons gDict0 DL.gNil)))
noncomputable def s_ring_along_1_b_0  : GS := (gAsg (gCall lenF (DL.gCons (gVar 2) DL.gNil)) (gSubD (gVar 3) (gVar 1)))
noncomputable def s_ring_along_1_b_1  : GS := (gExpr (gApp (gVar 2) (gOp subIxD (gVar 0) (gVar 1))))
noncomputable def s_ring_along_1_b_2  : GS := (gAsg (gOp subIx (gOp subIxD (gVar 0) (gVar 1)) (gC (.int 0))) (DL.gName 1))
noncomputable def s_ring_along_1_b  : GS := (gSeq s_ring_along_1_b_0 (gSeq s_ring_along_1_b_1 s_ring_along_1_b_2))
noncomputable def s_ring_along_1  : GS := (gWhile (gTAnd (gTst (gOp inFD (gVar 1) (gVar 0))) (gTst (gOp notInFD (gVar 1) (gVar 3)))) s_ring_along_1_b)
noncomputable def s_ring_along_2  : GS := (gRet (gIf (gTst (gOp inFD (gVar 1) (gVar 3))) (gUn revF (gSlice slF (gVar 2) (goSome (gOp subIxD (gVar 3) (gVar 1))) goNone)) (gC .non)))
noncomputable def s_ring_along  : GS := (gSeq s_ring_along_0 (gSeq s_ring_along_1 s_ring_along_2))
theorem s_ring_along_eq  : g_ring_along = s_ring_along := rfl
def seenT (ns : List Sd) : List (Sd × Nat) := ns.zipIdx
theorem seenT_keys (ns : List Sd) : (seenT ns).map (·.1) = ns := by
  unfold seenT
  apply List.ext_getElem?
  intro i
  rw [List.getElem?_map, List.getElem?_zipIdx]
  cases ns[i]? <;> rfl
theorem seenT_put {ns : List Sd} {s : Sd} (h : s ∉ ns) : putB (seenT ns) s ns.length = seenT (ns ++ [s]) := by
  unfold putB
  rw [if_neg (by rw [seenT_keys]; exact h)]
  unfold seenT
  rw [List.zipIdx_append]
  simp
theorem seenT_at {ns : List Sd} {s : Sd} {j : Nat} (hn : ns.Nodup) (h : ns[j]? = some s) : lkB (seenT ns) s = some j := by
  have h1 : (seenT ns)[j]? = some (s, j) := by
    unfold seenT
    rw [List.getElem?_zipIdx, h]
    simp
  have := find_at (f := fun r : Sd × Nat => r.1) (by rw [seenT_keys]; exact hn) h1
  simp only at this
  unfold lkB
  rw [this]
  rfl
def gI (i : Nat) : D := .int i
structure LI (M0 : Sto) (na nl nk : Nat) (A : AT) (ns : List Sd) (ls : List AR) (M : Sto) : Prop where
  ext : Ext M0 M
  l0 : M0.length ≤ nl
  k0 : M0.length ≤ nk
  lk : nl ≠ nk
  a0 : na < M0.length
  atA : M[na]? = some (.dkn (A.map (kvB encA)))
  atL : M[nl]? = some (.lst (ls.map encA))
  atK : M[nk]? = some (.dkn ((seenT ns).map (kvB gI)))
section
variable {M0 M : Sto} {na nl nk : Nat} {A : AT} {ns : List Sd} {ls : List AR} {s s0 : Sd}
theorem LI.inA (h : LI M0 na nl nk A ns ls M) : inFD (encS s) (.cel na) M = okR (.bl (decide (s ∈ A.map (·.1)))) M := by
  have d : (D.cel na).dkn M = some (A.map (kvB encA)) := by simp [D.dkn, h.atA]
  have e : (lkN (A.map (kvB encA)) (kS s)).isSome = decide (s ∈ A.map (·.1)) := by
    rw [lkB_D, Option.isSome_map, Bool.eq_iff_iff, lkB_some]
    simp
  simp only [inFD, inRD, d, keyN_S, e]
theorem LI.inK (h : LI M0 na nl nk A ns ls M) : inRD (encS s) (.cel nk) M = some (decide (s ∈ ns)) := by
  have d : (D.cel nk).dkn M = some ((seenT ns).map (kvB gI)) := by simp [D.dkn, h.atK]
  have e : (lkN ((seenT ns).map (kvB gI)) (kS s)).isSome = decide (s ∈ ns) := by
    rw [lkB_D, Option.isSome_map, Bool.eq_iff_iff, lkB_some, seenT_keys]
    simp
  simp only [inRD, d, keyN_S, e]
theorem ra_body (h : LI M0 na nl nk A ns ls M) (hb : A.length ≤ 12000000) (hl : ls.length = ns.length) (hle : ns.length ≤ A.length) (hs : s ∉ ns) {a : AR} (ha : lkB A s = some a) :
    ∃ M', s_ring_along_1_b [some (.cel na), some (encS s), some (.cel nl), some (.cel nk)] M = some (.nx [some (.cel na), some (encS a.s), some (.cel nl), some (.cel nk)] M') ∧ LI M0 na nl nk A (ns ++ [s]) (ls ++ [a]) M' := by
  have hn1 := get_lt h.atL
  have hn2 := get_lt h.atK
  have na1 : na ≠ nl := by have := h.l0; have := h.a0; omega
  have na2 : na ≠ nk := by have := h.k0; have := h.a0; omega
  have hlk := h.lk
  have k0 := h.k0
  have l0 := h.l0
  -- the index is noted
  have hpt : ptN ((seenT ns).map (kvB gI)) (kS s) (encS s) (.int (ls.length : Nat)) = (seenT (ns ++ [s])).map (kvB gI) := by
    rw [← seenT_put hs, ← putB_D, hl]
    rfl
  have hsz : (seenT ns).length < 16777216 := by unfold seenT; simp; omega
  have t0 : s_ring_along_1_b_0 [some (.cel na), some (encS s), some (.cel nl), some (.cel nk)] M = some (.nx [some (.cel na), some (encS s), some (.cel nl), some (.cel nk)] (M.set nk (.dkn ((seenT (ns ++ [s])).map (kvB gI))))) := by
    have hlen : lenF [.cel nl] M = okR (.int (ls.length : Nat)) M := by simp [lenF, D.seqV, D.lstV, h.atL]
    simp [s_ring_along_1_b_0, hlen, gSubD, h.atK, hpt, hsz, slE]
  have h1 : LI M0 na nl nk A (ns ++ [s]) ls (M.set nk (.dkn ((seenT (ns ++ [s])).map (kvB gI)))) := by
    refine ⟨⟨by simpa using h.ext.len, fun k hk => ?_⟩, h.l0, h.k0, h.lk, h.a0, ?_, ?_, List.getElem?_set_self hn2⟩
    · rw [List.getElem?_set_ne (by omega)]; exact h.ext.fr k hk
    · rw [List.getElem?_set_ne (Ne.symm na2)]; exact h.atA
    · rw [List.getElem?_set_ne (Ne.symm hlk)]; exact h.atL
  generalize M.set nk (.dkn ((seenT (ns ++ [s])).map (kvB gI))) = M1 at t0 h1
  have hsub : subIxD (.cel na) (encS s) M1 = okR (encA a) M1 := by
    have d : (D.cel na).dkn M1 = some (A.map (kvB encA)) := by simp [D.dkn, h1.atA]
    simp only [subIxD, d, keyN_S, lkB_D, ha]
    rfl
  have hn1' := get_lt h1.atL
  have t1 : s_ring_along_1_b_1 [some (.cel na), some (encS s), some (.cel nl), some (.cel nk)] M1 = some (.nx [some (.cel na), some (encS s), some (.cel nl), some (.cel nk)] (M1.set nl (.lst ((ls ++ [a]).map encA)))) := by
    have hsz2 : ls.length < 16777216 := by omega
    simp [s_ring_along_1_b_1, gApp, h1.atL, hsub, hsz2, slE]
  have h2 : LI M0 na nl nk A (ns ++ [s]) (ls ++ [a]) (M1.set nl (.lst ((ls ++ [a]).map encA))) := by
    refine ⟨⟨by simpa using h1.ext.len, fun k hk => ?_⟩, h.l0, h.k0, h.lk, h.a0, ?_, List.getElem?_set_self hn1', ?_⟩
    · rw [List.getElem?_set_ne (by omega)]; exact h1.ext.fr k hk
    · rw [List.getElem?_set_ne (Ne.symm na1)]; exact h1.atA
    · rw [List.getElem?_set_ne hlk]; exact h1.atK
  generalize M1.set nl (.lst ((ls ++ [a]).map encA)) = M2 at t1 h2
  have hsub2 : subIxD (.cel na) (encS s) M2 = okR (encA a) M2 := by
    have d : (D.cel na).dkn M2 = some (A.map (kvB encA)) := by simp [D.dkn, h2.atA]
    simp only [subIxD, d, keyN_S, lkB_D, ha]
    rfl
  have t2 : s_ring_along_1_b_2 [some (.cel na), some (encS s), some (.cel nl), some (.cel nk)] M2 = some (.nx [some (.cel na), some (encS a.s), some (.cel nl), some (.cel nk)] M2) := by
    have h0 : subIx (encA a) (.int 0) M2 = okR (encS a.s) M2 := rfl
    simp [s_ring_along_1_b_2, hsub2, h0]
  exact ⟨M2, by rw [s_ring_along_1_b, seq_nx t0, seq_nx t1, t2], h2⟩
theorem ra_loop (hb : A.length ≤ 12000000) : ∀ {f : Nat} {ns : List Sd} {ls : List AR} {s : Sd} {M : Sto}, LI M0 na nl nk A ns ls M → Chn A s0 ns ls s → ns.Nodup → A.length + 1 ≤ f + ns.length →
    ∃ ns' ls' s' M', whileN (gTAnd (gTst (gOp inFD (gVar 1) (gVar 0))) (gTst (gOp notInFD (gVar 1) (gVar 3)))) s_ring_along_1_b f [some (.cel na), some (encS s), some (.cel nl), some (.cel nk)] M = some (.nx [some (.cel na), some (encS s'), some (.cel nl), some (.cel nk)] M') ∧
      LI M0 na nl nk A ns' ls' M' ∧ Chn A s0 ns' ls' s' ∧ ns'.Nodup ∧ (lkB A s' = none ∨ s' ∈ ns')
  | 0, ns, ls, s, M, h, hc, hn, hf => by
    have := nd_len (m := A.map (·.1)) hn hc.keys
    rw [List.length_map] at this
    omega
  | f + 1, ns, ls, s, M, h, hc, hn, hf => by
    have hlen := nd_len (m := A.map (·.1)) hn hc.keys
    rw [List.length_map] at hlen
    simp only [whileN]
    by_cases c1 : s ∈ A.map (·.1)
    · by_cases c2 : s ∈ ns
      · refine ⟨ns, ls, s, M, ?_, h, hc, hn, .inr c2⟩
        simp [h.inA, c1, notInFD, h.inK, c2]
      · obtain ⟨a, ha⟩ := Option.isSome_iff_exists.mp (lkB_some.mpr c1)
        obtain ⟨M1, e1, h1⟩ := ra_body h hb hc.len.symm hlen c2 ha
        obtain ⟨ns', ls', s', M', e2, q⟩ := ra_loop hb (f := f) h1 (hc.snoc ha) (List.nodup_append.mpr ⟨hn, by simp, fun x hx y hy => by simp at hy; subst hy; exact fun e => c2 (e ▸ hx)⟩) (by simp; omega)
        refine ⟨ns', ls', s', M', ?_, q⟩
        have hc1 : (gTAnd (gTst (gOp inFD (gVar 1) (gVar 0))) (gTst (gOp notInFD (gVar 1) (gVar 3)))) [some (.cel na), some (encS s), some (.cel nl), some (.cel nk)] M = okR true M := by
          simp [h.inA, c1, notInFD, h.inK, c2]
        rw [hc1]
        simp only [bindS_ok, if_true, e1]
        exact e2
    · refine ⟨ns, ls, s, M, ?_, h, hc, hn, .inl ?_⟩
      · simp [h.inA, c1]
      · cases e : lkB A s with
        | none => rfl
        | some a => exact absurd (lkB_some.mp (by rw [e]; rfl)) c1
/-- what ring_along gives -/
inductive RA (A : AT) (s0 : Sd) : D → Prop
  | none {ns : List Sd} {ls : List AR} {s : Sd} : Chn A s0 ns ls s → lkB A s = none → RA A s0 .non
  | ring {ns : List Sd} {ls : List AR} {s : Sd} {j : Nat} : Chn A s0 ns ls s → ns.Nodup → ns[j]? = some s → RA A s0 (.lst ((ls.drop j).reverse.map encA))
theorem ringAlong_ok (hb : A.length ≤ 12000000) (ha : M[na]? = some (.dkn (A.map (kvB encA)))) : ∃ r M', f_ring_along [.cel na, encS s0] M = okR r M' ∧ Ext M M' ∧ RA A s0 r := by
  have hlt := get_lt ha
  have h0 : LI M na M.length (M.length + 1) A [] [] (M ++ [CO.lst [], CO.dkn []]) := by
    refine ⟨Ext.app, Nat.le_refl _, by omega, by omega, hlt, ?_, by simp, ?_⟩
    · rw [List.getElem?_append_left hlt]; exact ha
    · rw [List.getElem?_append_right (by omega)]; simp [seenT]
  obtain ⟨ns, ls, s, M1, e1, h1, hc, hn, hor⟩ := ra_loop hb (f := A.length + 1) h0 .nil (by simp) (by simp)
  have t0 : s_ring_along_0 [some (.cel na), some (encS s0), none, none] M = some (.nx [some (.cel na), some (encS s0), some (.cel M.length), some (.cel (M.length + 1))] (M ++ [CO.lst [], CO.dkn []])) := by
    simp [s_ring_along_0, gLstC, slE]
  have t1 : s_ring_along_1 [some (.cel na), some (encS s0), some (.cel M.length), some (.cel (M.length + 1))] (M ++ [CO.lst [], CO.dkn []]) = some (.nx [some (.cel na), some (encS s), some (.cel M.length), some (.cel (M.length + 1))] M1) := gWhile_eq e1
  have run : f_ring_along [.cel na, encS s0] M = finS (s_ring_along_2 [some (.cel na), some (encS s), some (.cel M.length), some (.cel (M.length + 1))] M1) := by
    show finS (g_ring_along [some (.cel na), some (encS s0), none, none] M) = _
    rw [s_ring_along_eq, s_ring_along, seq_nx t0, seq_nx t1]
  by_cases c : s ∈ ns
  · obtain ⟨j, hj⟩ := List.mem_iff_getElem?.mp c
    refine ⟨_, M1, ?_, h1.ext, .ring hc hn hj⟩
    rw [run]
    have hsub : subIxD (.cel (M.length + 1)) (encS s) M1 = okR (.int (j : Nat)) M1 := by
      have d : (D.cel (M.length + 1)).dkn M1 = some ((seenT ns).map (kvB gI)) := by simp [D.dkn, h1.atK]
      simp only [subIxD, d, keyN_S, lkB_D, seenT_at hn hj]
      rfl
    have hsl : slF (.cel M.length) (some (j : Int)) none M1 = okR (.lst ((ls.drop j).map encA)) M1 := by
      have : (D.cel M.length).seqV M1 = some (ls.map encA) := by simp [D.seqV, D.lstV, h1.atL]
      simp only [slF, this, cut_drop, List.map_drop]
    have hrev : revF (.lst ((ls.drop j).map encA)) M1 = okR (.lst ((ls.drop j).reverse.map encA)) M1 := by
      simp [revF, D.seqV, D.lstV, List.map_reverse]
    simp [s_ring_along_2, inFD, h1.inK, c, hsub, hsl, hrev, -List.map_drop, -List.map_reverse]
  · have hnone : lkB A s = none := hor.resolve_right c
    refine ⟨.non, M1, ?_, h1.ext, .none hc hnone⟩
    rw [run]
    simp [s_ring_along_2, inFD, h1.inK, c]
end
end EB
/-! QB: worth; better_ring: what is so in its loops -/
namespace EB
open PySem PySem.Spec L2 DL
variable [inst : Pw]
/-! ### worth -/
def BADW : List Str := ["empty", "half", "over"]
def isb (ws : List Str) : Bool := ws.any fun w => decide (w ∈ BADW)
def b1 (b : Bool) : Int := if b then 1 else 0
theorem b1_01 (b : Bool) : 0 ≤ b1 b ∧ b1 b ≤ 1 := by cases b <;> decide
def isg (ws : List Str) : Bool := decide (("good" : Str) ∈ ws)
def woI (g : Bool) (ws : List Str) : Int × Int := if g then (b1 (isg ws), 1) else (b1 (isb ws), b1 (isb ws || isg ws))
theorem woI_01 (g : Bool) (ws : List Str) : 0 ≤ (woI g ws).1 ∧ (woI g ws).1 ≤ (woI g ws).2 ∧ (woI g ws).2 ≤ 1 := by
  unfold woI
  cases g <;> cases isb ws <;> cases isg ws <;> decide
theorem inT_ok {w : Str} {ws : List Str} {M : Sto} : inF (.str w) (.tup (ws.map D.str)) M = okR (.bl (decide (w ∈ ws))) M := by
  have e : (D.str w).isScal = true := rfl
  have ea : (ws.map D.str).all D.isScal = true := List.all_eq_true.mpr fun d hd => by
    obtain ⟨x, _, rfl⟩ := List.mem_map.mp hd
    rfl
  have ey : (ws.map D.str).any (fun z => D.eqv z (.str w)) = decide (w ∈ ws) := by
    rw [Bool.eq_iff_iff, List.any_map, List.any_eq_true]
    simp [D.eqv]
  have ei : inR (.str w) (.tup (ws.map D.str)) M = some (decide (w ∈ ws)) := by
    unfold inR
    have : (D.tup (ws.map D.str)).itsV M = some (ws.map D.str) := rfl
    rw [this]
    simp only [e, ea, Bool.and_self, if_true, ey]
  unfold inF
  rw [ei]
theorem bls_of {α : Type} (f : α → Bool) : ∀ l : List α, blsOf (l.map fun x => D.bl (f x)) = some (l.map f)
  | [] => rfl
  | x :: l => by simp [blsOf, bls_of f l]
theorem isBad_ok {ws : List Str} {M : Sto} (hl : ws.length ≤ 100) : f_is_bad [encW ws] M = okR (.bl (isb ws)) M := by
  have hlc := lcL_pure (T := .one 1) (tt := gYes) (te := gOp inF (gVar 1) (gC (.tup [.str "empty", .str "half", .str "over"]))) (δ := wipeD [some (encW ws), none] [1]) (fun d => match d with | .str w => some (.bl (decide (w ∈ BADW))) | _ => none) (ds := ws.map D.str) (acc := []) (M := M) (fun d hd => by
    obtain ⟨w, _, rfl⟩ := List.mem_map.mp hd
    refine ⟨_, rfl, rfl, ?_⟩
    have hv : gVar 1 ((wipeD [some (encW ws), none] [1]).set 1 (some (.str w))) M = okR (.str w) M := rfl
    have hc : ([D.str "empty", .str "half", .str "over"] : List D) = BADW.map D.str := rfl
    rw [gOp, hv, bindR_ok, gC, bindR_ok, hc, inT_ok]) (by rw [slE]; simp; omega)
  have ef : ∀ ws : List Str, (ws.map D.str).filterMap (fun d => match d with | .str w => some (D.bl (decide (w ∈ BADW))) | _ => none) = ws.map fun w => D.bl (decide (w ∈ BADW)) := by
    intro ws
    induction ws with
    | nil => rfl
    | cons a r ih => simp [ih]
  rw [ef, List.nil_append] at hlc
  show finS (g_is_bad [some (encW ws), none] M) = _
  have hi : gItL (gVar 0) [some (encW ws), none] M = okR (ws.map D.str) M := rfl
  have ha : anyF [.lst (ws.map fun w => D.bl (decide (w ∈ BADW)))] M = okR (.bl (isb ws)) M := by
    have e2 : (D.lst (ws.map fun w => D.bl (decide (w ∈ BADW)))).seqV M = some (ws.map fun w => D.bl (decide (w ∈ BADW))) := rfl
    have e3 : (ws.map fun w => decide (w ∈ BADW)).any id = isb ws := by
      rw [List.any_map]
      rfl
    simp only [anyF, e2, Option.bind_some, bls_of, e3]
  rw [g_is_bad, gRet, gCall, DL.gCons, gLc, hi, bindR_ok, hlc, bindR_ok, DL.gNil, bindR_ok, bindR_ok, ha]
  rfl
theorem goodWorth_ok {ws : List Str} {M : Sto} : f_good_worth [encW ws] M = okR (.tup [.int (woI true ws).1, .int (woI true ws).2]) M := by
  show finS (g_good_worth [some (encW ws)] M) = _
  have hv : ∀ M, gVar 0 [some (encW ws)] M = okR (encW ws) M := fun M => rfl
  have hg : gCall toIntF (DL.gCons (gOp inF (gC (.str "good")) (gVar 0)) DL.gNil) [some (encW ws)] M = okR (.int (b1 (isg ws))) M := by
    simp only [gCall, DL.gCons, DL.gNil, gOp, gC, hv, bindR_ok, inW_ok]
    unfold isg
    by_cases q : ("good" : Str) ∈ ws <;> simp [q, toIntF, b1]
  rw [g_good_worth, gRet, DL.gTup, DL.gCons, hg]
  simp [slE, woI]
theorem badWorth_ok {ws : List Str} {M : Sto} (hl : ws.length ≤ 100) : f_bad_worth [encW ws] M = okR (.tup [.int (woI false ws).1, .int (woI false ws).2]) M := by
  show finS (g_bad_worth [some (encW ws)] M) = _
  have e1 : ∀ M, toIntF [.bl (isb ws)] M = okR (.int (b1 (isb ws))) M := fun M => by simp [toIntF, b1]
  have e2 : ∀ (b : Bool) M, toIntF [.bl b] M = okR (.int (b1 b)) M := fun b M => by simp [toIntF, b1]
  have hin : ∀ M, inF (.str "good") (encW ws) M = okR (.bl (isg ws)) M := fun M => inW_ok
  have hb : ∀ M, f_is_bad [encW ws] M = okR (.bl (isb ws)) M := fun M => isBad_ok hl
  unfold g_bad_worth
  cases h : isb ws <;> rw [h] at hb <;> simp [hb, hin, e2, slE, woI, h]
def wnm (g : Bool) : Str := if g then "good_worth" else "bad_worth"
theorem worth_ok {g : Bool} {ws : List Str} {i : Nat} {δ : Ev} {M : Sto} (hl : ws.length ≤ 100) (h1 : δ[1]? = some (some (.glo (wnm g)))) (hi : gVar i δ M = okR (encW ws) M) : gCallV 1 1 "good_worth" f_good_worth "bad_worth" f_bad_worth (DL.gCons (gVar i) DL.gNil) δ M = okR (.tup [.int (woI g ws).1, .int (woI g ws).2]) M := by
  have hne : ¬ ("bad_worth" : Str) = "good_worth" := by decide +kernel
  cases g
  · have h1' : δ[1]? = some (some (.glo "bad_worth")) := h1
    simp only [gCallV, h1', if_neg hne, if_true, DL.gCons, DL.gNil, hi, bindR_ok]
    exact badWorth_ok hl
  · have h1' : δ[1]? = some (some (.glo "good_worth")) := h1
    simp only [gCallV, h1', if_true, DL.gCons, DL.gNil, hi, bindR_ok]
    exact goodWorth_ok
/-! ### edges, walks -/
def stands (p : Pn) : List Sd := (netP p).map (·.s)
structure EdgeOk (p : Pn) (g : Bool) (v : Sd) (a : AR) : Prop where
  s : a.s ∈ stands p
  c : a.c ∈ chs p a.s
  v : (tickM p a.s a.c).1 = v
  w : woI g (tickM p a.s a.c).2 = (a.t, a.b)
inductive Wlk (p : Pn) (g : Bool) : Sd → List AR → Sd → Prop
  | nil {s : Sd} : Wlk p g s [] s
  | cons {v u : Sd} {a : AR} {l : List AR} : EdgeOk p g v a → Wlk p g v l u → Wlk p g a.s (a :: l) u
def vl (P Q : Int) (a : AR) : Int := a.t * Q - a.b * P
theorem Chn.walk {p : Pn} {g : Bool} {A : AT} {v s : Sd} {ns : List Sd} {ls : List AR} (h : Chn A v ns ls s) (hA : ∀ x a, lkB A x = some a → EdgeOk p g x a) : Wlk p g s ls.reverse v := by
  induction h with
  | nil => exact .nil
  | snoc _ e ih =>
    rw [List.reverse_append]
    exact .cons (hA _ _ e) ih
theorem sum_rev (l : List Int) : l.reverse.sum = l.sum := by
  induction l with
  | nil => rfl
  | cons a l ih => rw [List.reverse_cons, List.sum_append, ih]; simp; omega
structure RingOk (p : Pn) (g : Bool) (P Q : Int) (r : List AR) : Prop where
  walk : ∃ u, u ∈ stands p ∧ Wlk p g u r u
  ne : r ≠ []
  pos : 0 < (r.map (vl P Q)).sum
  len : r.length ≤ (netP p).length
/-! ### what is so in better_ring's loops -/
def updH (h : Sd → Int) (v : Sd) (x : Int) : Sd → Int := fun w => if w = v then x else h w
structure BI (p : Pn) (g : Bool) (P Q : Int) (h : Sd → Int) (A : AT) : Prop where
  nd : (A.map (·.1)).Nodup
  ed : ∀ v a, lkB A v = some a → EdgeOk p g v a
  le : ∀ v a, lkB A v = some a → h v ≤ h a.s + vl P Q a
  en : ∀ s, ∃ k, EndsN A s k
  z : ∀ v, lkB A v = none → h v = 0
theorem lk_of_mem {β : Type} {T : List (Sd × β)} {s : Sd} (h : s ∈ T.map (·.1)) : ∃ v, lkB T s = some v := Option.isSome_iff_exists.mp (lkB_some.mpr h)
section
variable {p : Pn} {g : Bool} {P Q : Int} {h : Sd → Int} {A : AT}
theorem edge_in (hp : p.Ok) {v : Sd} {a : AR} (e : EdgeOk p g v a) : v ∈ stands p := by
  obtain ⟨r, hr, hs⟩ := List.mem_map.mp e.s
  have := ((netP_whole hp).done r hr).2 (tkOf p r.s a.c) (List.mem_map.mpr ⟨a.c, by rw [hs]; exact e.c, rfl⟩)
  have e2 : (tkOf p r.s a.c).2.1 = v := by
    show (tickM p r.s a.c).1 = v
    rw [hs]; exact e.v
  rw [e2] at this
  exact this
theorem BI.len (hp : p.Ok) (b : BI p g P Q h A) : A.length ≤ (netP p).length := by
  have := nd_len (m := stands p) b.nd fun x hx => by
    obtain ⟨a, ha⟩ := lk_of_mem hx
    exact edge_in hp (b.ed x a ha)
  simpa [stands] using this
theorem vl_le {W : Int} (hQ : 0 ≤ Q) (hW : Q + P.natAbs ≤ W) {v : Sd} {a : AR} (e : EdgeOk p g v a) : vl P Q a ≤ W := by
  have h1 := woI_01 g (tickM p a.s a.c).2
  rw [e.w] at h1
  simp only at h1
  have ht : a.t = 0 ∨ a.t = 1 := by omega
  have hb : a.b = 0 ∨ a.b = 1 := by omega
  unfold vl
  rcases ht with ht | ht <;> rcases hb with hb | hb <;> rw [ht, hb] <;> simp <;> omega
theorem BI.bnd {W : Int} (hp : p.Ok) (b : BI p g P Q h A) (hQ : 0 ≤ Q) (hW : Q + P.natAbs ≤ W) (v : Sd) : h v ≤ ((netP p).length : Nat) * W := by
  obtain ⟨k, hk⟩ := b.en v
  have hW0 : 0 ≤ W := by omega
  have gen : ∀ {v : Sd} {k : Nat}, EndsN A v k → h v ≤ (k : Nat) * W := by
    intro v k hk
    induction hk with
    | stop e => rw [b.z _ e]; simp
    | @step s a k e _ ih =>
      have h1 := b.le _ _ e
      have h2 := vl_le hQ hW (b.ed _ _ e)
      have : ((k + 1 : Nat) : Int) * W = (k : Int) * W + W := by rw [Int.natCast_add, Int.add_mul]; simp
      omega
  have h1 := gen hk
  have h2 := hk.le
  have h3 := b.len hp
  have h4 : (k : Int) * W ≤ ((netP p).length : Nat) * W := Int.mul_le_mul_of_nonneg_right (by omega) hW0
  omega
theorem BI.put (hp : p.Ok) (b : BI p g P Q h A) {v : Sd} {a : AR} {k0 : Nat} (e : EdgeOk p g v a) (hn : h v < h a.s + vl P Q a) (he : EndsN (putB A v a) v k0) : BI p g P Q (updH h v (h a.s + vl P Q a)) (putB A v a) where
  nd := putB_nd b.nd
  ed := fun x a' hx => by
    rw [lkB_put] at hx
    split at hx
    · rename_i q; cases hx; rw [q]; exact e
    · exact b.ed x a' hx
  le := fun x a' hx => by
    have up : ∀ y, h y ≤ updH h v (h a.s + vl P Q a) y := fun y => by
      unfold updH
      split
      · rename_i q; rw [q]; omega
      · exact Int.le_refl _
    rw [lkB_put] at hx
    split at hx
    · rename_i q
      cases hx
      have := up a.s
      rw [q]
      have e2 : updH h v (h a.s + vl P Q a) v = h a.s + vl P Q a := by simp [updH]
      rw [e2]
      omega
    · rename_i q
      have h1 := b.le x a' hx
      have h2 := up a'.s
      have e2 : updH h v (h a.s + vl P Q a) x = h x := by simp [updH, q]
      rw [e2]
      omega
  en := ends_put b.en he
  z := fun x hx => by
    rw [lkB_put] at hx
    split at hx
    · cases hx
    · rename_i q
      have e2 : updH h v (h a.s + vl P Q a) x = h x := by simp [updH, q]
      rw [e2]
      exact b.z x hx
theorem BI.ring (hp : p.Ok) (b : BI p g P Q h A) {v : Sd} {a : AR} (e : EdgeOk p g v a) (hn : h v < h a.s + vl P Q a) {ns : List Sd} {ls : List AR} {s : Sd} {j : Nat} (hc : Chn (putB A v a) v ns ls s) (hd : ns.Nodup) (hj : ns[j]? = some s) : RingOk p g P Q (ls.drop j).reverse := by
  have hed : ∀ x a', lkB (putB A v a) x = some a' → EdgeOk p g x a' := fun x a' hx => by
    rw [lkB_put] at hx
    split at hx
    · rename_i q; cases hx; rw [q]; exact e
    · exact b.ed x a' hx
  have hne : ns ≠ [] := fun q => by rw [q] at hj; simp at hj
  obtain ⟨h1, h2, h3⟩ := ring_put (val := vl P Q) (now := h a.s + vl P Q a) b.en b.le rfl hc hd hne
  obtain ⟨n0, nr, rfl⟩ := List.exists_cons_of_ne_nil hne
  have e0 : n0 = v := by simpa using h1
  subst e0
  cases j with
  | succ j =>
    have hm : s ∈ nr := List.mem_iff_getElem?.mpr ⟨j, by simpa using hj⟩
    obtain ⟨k, hk⟩ := b.en s
    have := h2 s (by simpa using hm) k k hk hk
    omega
  | zero =>
    have es : n0 = s := by simpa using hj
    subst es
    have hl := hc.len
    rw [List.drop_zero]
    refine ⟨⟨n0, edge_in hp e, hc.walk hed⟩, fun q => ?_, ?_, ?_⟩
    · rw [List.reverse_eq_nil_iff] at q
      rw [q] at hl
      simp at hl
    · rw [List.map_reverse, sum_rev]
      omega
    · rw [List.length_reverse, ← hl]
      have := nd_len (m := stands p) hd fun x hx => by
        obtain ⟨a', ha'⟩ := lk_of_mem (hc.keys x hx)
        exact edge_in hp (hed x a' ha')
      simpa [stands] using this
end
end EB
/-! QC: better_ring -/
namespace EB
open PySem PySem.Spec L2 DL
variable [inst : Pw]
noncomputable def s_better_ring_0  : GS := (gPar3 3 4 5 (DL.gCons (gDcN (gItNK (gVar 0)) (.one 6) gYes (gVar 6) (gC (.int 0)) [6]) (DL.gCons gDict0 (DL.gCons (gC (.bl true)) DL.gNil))))
noncomputable def s_better_ring_1_b_0  : GS := (gAsg (gC (.bl false)) (DL.gName 5))
noncomputable def s_better_ring_1_b_1_b_0_b_0  : GS := (gAsg (gCallV 1 1 "good_worth" f_good_worth "bad_worth" f_bad_worth (DL.gCons (gVar 11) DL.gNil)) (gTupT 2 (gsCons (DL.gName 12) (gsCons (DL.gName 13) gsNil))))
noncomputable def s_better_ring_1_b_1_b_0_b_1  : GS := (gAsg (gOp subF (gOp addF (gOp subIxD (gVar 3) (gVar 6)) (gOp mulF (gVar 12) (gOp subIx (gVar 2) (gC (.int 1))))) (gOp mulF (gVar 13) (gOp subIx (gVar 2) (gC (.int 0))))) (DL.gName 14))
noncomputable def s_better_ring_1_b_1_b_0_b_2  : GS := (gIfS (gTst (gOp gtF (gVar 14) (gOp subIxD (gVar 3) (gVar 10)))) (gSeq (gAsg (DL.gTup (DL.gCons (gVar 14) (DL.gCons (DL.gTup (DL.gCons (gVar 6) (DL.gCons (gVar 9) (DL.gCons (DL.gTup (DL.gCons (gVar 12) (DL.gCons (gVar 13) DL.gNil))) DL.gNil)))) (DL.gCons (gC (.bl true)) DL.gNil)))) (gTupT 3 (gsCons (gSubD (gVar 3) (gVar 10)) (gsCons (gSubD (gVar 4) (gVar 10)) (gsCons (DL.gName 5) gsNil))))) (gSeq (gAsg (gCallN 2 f_ring_along (DL.gCons (gVar 4) (DL.gCons (gVar 10) DL.gNil))) (DL.gName 15)) (gIfS (gTst (gUn notNF (gVar 15))) (gRet (gVar 15)) gNext))) gNext)
noncomputable def s_better_ring_1_b_1_b_0_b  : GS := (gSeq s_better_ring_1_b_1_b_0_b_0 (gSeq s_better_ring_1_b_1_b_0_b_1 s_better_ring_1_b_1_b_0_b_2))
noncomputable def s_better_ring_1_b_1_b_0  : GS := (gFor (gItL (gVar 8)) (gTupT 3 (gsCons (DL.gName 9) (gsCons (DL.gName 10) (gsCons (DL.gName 11) gsNil)))) s_better_ring_1_b_1_b_0_b)
noncomputable def s_better_ring_1_b_1_b  : GS := s_better_ring_1_b_1_b_0
noncomputable def s_better_ring_1_b_1  : GS := (gFor (gItNI (gVar 0)) (gTupT 2 (gsCons (DL.gName 6) (gsCons (gTupT 2 (gsCons (DL.gName 7) (gsCons (DL.gName 8) gsNil))) gsNil))) s_better_ring_1_b_1_b)
noncomputable def s_better_ring_1_b  : GS := (gSeq s_better_ring_1_b_0 s_better_ring_1_b_1)
noncomputable def s_better_ring_1  : GS := (gWhile (gTst (gVar 5)) s_better_ring_1_b)
noncomputable def s_better_ring_2  : GS := (gRet (gC .non))
noncomputable def s_better_ring  : GS := (gSeq s_better_ring_0 (gSeq s_better_ring_1 s_better_ring_2))
theorem s_better_ring_eq  : g_better_ring = s_better_ring := rfl
theorem forL_or {α : Type} {t : GG} {s : GS} {f : α → D} (I : List α → Ev → Sto → Prop) (R : D → Sto → Prop) (xs : List α) (hs : ∀ pre x post, xs = pre ++ x :: post → ∀ δ M, I pre δ M → ∃ δ1 M1, t (f x) δ M = okR δ1 M1 ∧ ((∃ δ2 M2, s δ1 M1 = some (.nx δ2 M2) ∧ I (pre ++ [x]) δ2 M2) ∨ ∃ v M2, s δ1 M1 = some (.rt v M2) ∧ R v M2)) :
    ∀ {post pre : List α} {δ : Ev} {M : Sto}, xs = pre ++ post → I pre δ M → (∃ δ' M', forL t s (post.map f) δ M = some (.nx δ' M') ∧ I xs δ' M') ∨ ∃ v M', forL t s (post.map f) δ M = some (.rt v M') ∧ R v M'
  | [], pre, δ, M, e, hI => .inl ⟨δ, M, rfl, by rw [e, List.append_nil]; exact hI⟩
  | x :: post, pre, δ, M, e, hI => by
    obtain ⟨δ1, M1, h1, h2⟩ := hs pre x post e δ M hI
    rcases h2 with ⟨δ2, M2, h2, h3⟩ | ⟨v, M2, h2, h3⟩
    · rcases forL_or I R xs hs (post := post) (pre := pre ++ [x]) (by rw [e]; simp) h3 with ⟨δ', M', q1, q2⟩ | ⟨v, M', q1, q2⟩
      · refine .inl ⟨δ', M', ?_, q2⟩
        simp only [List.map_cons, forL, h1, bindS_ok, h2]
        exact q1
      · refine .inr ⟨v, M', ?_, q2⟩
        simp only [List.map_cons, forL, h1, bindS_ok, h2]
        exact q1
    · refine .inr ⟨v, M2, ?_, h3⟩
      simp only [List.map_cons, forL, h1, bindS_ok, h2]
/-! ### the store -/
def hiT (p : Pn) (h : Sd → Int) : List (Sd × Int) := (netP p).map fun r => (r.s, h r.s)
theorem hiT_keys {p : Pn} {h : Sd → Int} : (hiT p h).map (·.1) = stands p := by unfold hiT stands; rw [List.map_map]; rfl
theorem hiT_lk {p : Pn} {h : Sd → Int} {s : Sd} (hs : s ∈ stands p) : lkB (hiT p h) s = some (h s) := by
  obtain ⟨r, hr, rfl⟩ := List.mem_map.mp hs
  obtain ⟨v, hv⟩ := lk_of_mem (T := hiT p h) (s := r.s) (by rw [hiT_keys]; exact hs)
  rw [hv]
  obtain ⟨q, hq, e⟩ := List.mem_map.mp (lkB_mem hv)
  obtain ⟨e1, e2⟩ := Prod.mk.inj e
  rw [← e2, e1]
theorem hiT_put {p : Pn} {h : Sd → Int} {s : Sd} {x : Int} (hs : s ∈ stands p) : putB (hiT p h) s x = hiT p (updH h s x) := by
  unfold putB
  rw [if_pos (by rw [hiT_keys]; exact hs)]
  unfold hiT
  rw [List.map_map]
  refine List.map_congr_left fun r _ => ?_
  simp only [Function.comp, updH]
  by_cases c : r.s = s
  · rw [if_pos c, if_pos c]
  · rw [if_neg c, if_neg c]
structure BS (p : Pn) (M0 : Sto) (nh na : Nat) (h : Sd → Int) (A : AT) (M : Sto) : Prop where
  ext : Ext M0 M
  h0 : M0.length ≤ nh
  a0 : M0.length ≤ na
  ne : nh ≠ na
  atH : M[nh]? = some (.dkn ((hiT p h).map (kvB D.int)))
  atA : M[na]? = some (.dkn (A.map (kvB encA)))
section
variable {p : Pn} {g : Bool} {P Q : Int} {h : Sd → Int} {A : AT} {M0 M : Sto} {nh na : Nat}
theorem BS.on {M' : Sto} (b : BS p M0 nh na h A M) (x : Ext M M') : BS p M0 nh na h A M' := ⟨b.ext.trans x, b.h0, b.a0, b.ne, x.get b.atH, x.get b.atA⟩
theorem BS.sub (b : BS p M0 nh na h A M) {s : Sd} (hs : s ∈ stands p) : subIxD (.cel nh) (encS s) M = okR (.int (h s)) M := by
  have d : (D.cel nh).dkn M = some ((hiT p h).map (kvB D.int)) := by simp [D.dkn, b.atH]
  simp only [subIxD, d, keyN_S, lkB_D, hiT_lk hs]
  rfl
theorem BS.putH (b : BS p M0 nh na h A M) {s : Sd} {x : Int} (hs : s ∈ stands p) : BS p M0 nh na (updH h s x) A (M.set nh (.dkn (ptN ((hiT p h).map (kvB D.int)) (kS s) (encS s) (.int x)))) := by
  have e : ptN ((hiT p h).map (kvB D.int)) (kS s) (encS s) (.int x) = (hiT p (updH h s x)).map (kvB D.int) := by rw [putB_D D.int, hiT_put hs]
  rw [e]
  have h0 := b.h0
  refine ⟨⟨by simpa using b.ext.len, fun k hk => ?_⟩, b.h0, b.a0, b.ne, List.getElem?_set_self (get_lt b.atH), ?_⟩
  · rw [List.getElem?_set_ne (by omega)]; exact b.ext.fr k hk
  · rw [List.getElem?_set_ne b.ne]; exact b.atA
theorem BS.putA (b : BS p M0 nh na h A M) {s : Sd} {a : AR} : BS p M0 nh na h (putB A s a) (M.set na (.dkn (ptN (A.map (kvB encA)) (kS s) (encS s) (encA a)))) := by
  rw [putB_D encA]
  have a0 := b.a0
  refine ⟨⟨by simpa using b.ext.len, fun k hk => ?_⟩, b.h0, b.a0, b.ne, ?_, List.getElem?_set_self (get_lt b.atA)⟩
  · rw [List.getElem?_set_ne (by omega)]; exact b.ext.fr k hk
  · rw [List.getElem?_set_ne (Ne.symm b.ne)]; exact b.atH
def gloW (g : Bool) : D := .glo (wnm g)
def encQ (P Q : Int) : D := .tup [.int P, .int Q]
/-- a tick of a row, tried -/
theorem br_tick {ch : Bool} {u : Sd} {c : Ch} {x7 x8 x12 x13 x14 x15 : Option D} (hp : p.Ok) (hu : u ∈ stands p) (hc : c ∈ chs p u) (b : BI p g P Q h A) (bs : BS p M0 nh na h A M) :
    (∃ z12 z13 z14 z15 h' A' ch' M', s_better_ring_1_b_1_b_0_b [some (netD p), some (gloW g), some (encQ P Q), some (.cel nh), some (.cel na), some (.bl ch), some (encS u), x7, x8, some (encC c), some (encS (tickM p u c).1), some (encW (tickM p u c).2), x12, x13, x14, x15] M
        = some (.nx [some (netD p), some (gloW g), some (encQ P Q), some (.cel nh), some (.cel na), some (.bl ch'), some (encS u), x7, x8, some (encC c), some (encS (tickM p u c).1), some (encW (tickM p u c).2), z12, z13, z14, z15] M') ∧
        BI p g P Q h' A' ∧ BS p M0 nh na h' A' M' ∧
        ((h' = h ∧ A' = A ∧ ch' = ch ∧ h u + vl P Q ⟨u, c, (woI g (tickM p u c).2).1, (woI g (tickM p u c).2).2⟩ ≤ h (tickM p u c).1) ∨
         (ch' = true ∧ h' = updH h (tickM p u c).1 (h u + vl P Q ⟨u, c, (woI g (tickM p u c).2).1, (woI g (tickM p u c).2).2⟩) ∧ h (tickM p u c).1 < h u + vl P Q ⟨u, c, (woI g (tickM p u c).2).1, (woI g (tickM p u c).2).2⟩))) ∨
    ∃ r M', s_better_ring_1_b_1_b_0_b [some (netD p), some (gloW g), some (encQ P Q), some (.cel nh), some (.cel na), some (.bl ch), some (encS u), x7, x8, some (encC c), some (encS (tickM p u c).1), some (encW (tickM p u c).2), x12, x13, x14, x15] M
        = some (.rt (.lst (r.map encA)) M') ∧ RingOk p g P Q r ∧ Ext M0 M' := by
  have hlenA := b.len hp
  have hN := (netP_whole hp).len
  have hbd := bnd_lt hp
  generalize hts : (tickM p u c).1 = v
  generalize htw : (tickM p u c).2 = ws
  have hwl : ws.length ≤ 100 := by
    have := (tickW_ok (p := p) (s := u) (c := c)).1
    rw [htw] at this
    omega
  generalize ha : (⟨u, c, (woI g ws).1, (woI g ws).2⟩ : AR) = a
  have eo : EdgeOk p g v a := by
    subst ha
    exact ⟨hu, hc, hts, by rw [htw]⟩
  have hv := edge_in hp eo
  have as : a.s = u := by subst ha; rfl
  have hvl : vl P Q a = (woI g ws).1 * Q - (woI g ws).2 * P := by subst ha; rfl
  have w01 := woI_01 g ws
  have t0 : s_better_ring_1_b_1_b_0_b_0 [some (netD p), some (gloW g), some (encQ P Q), some (.cel nh), some (.cel na), some (.bl ch), some (encS u), x7, x8, some (encC c), some (encS v), some (encW ws), x12, x13, x14, x15] M = some (.nx [some (netD p), some (gloW g), some (encQ P Q), some (.cel nh), some (.cel na), some (.bl ch), some (encS u), x7, x8, some (encC c), some (encS v), some (encW ws), some (.int (woI g ws).1), some (.int (woI g ws).2), x14, x15] M) := by
    have := worth_ok (g := g) (ws := ws) (i := 11) (δ := [some (netD p), some (gloW g), some (encQ P Q), some (.cel nh), some (.cel na), some (.bl ch), some (encS u), x7, x8, some (encC c), some (encS v), some (encW ws), x12, x13, x14, x15]) (M := M) hwl rfl rfl
    rw [s_better_ring_1_b_1_b_0_b_0, gAsg, this]
    rfl
  have t1 : s_better_ring_1_b_1_b_0_b_1 [some (netD p), some (gloW g), some (encQ P Q), some (.cel nh), some (.cel na), some (.bl ch), some (encS u), x7, x8, some (encC c), some (encS v), some (encW ws), some (.int (woI g ws).1), some (.int (woI g ws).2), x14, x15] M = some (.nx [some (netD p), some (gloW g), some (encQ P Q), some (.cel nh), some (.cel na), some (.bl ch), some (encS u), x7, x8, some (encC c), some (encS v), some (encW ws), some (.int (woI g ws).1), some (.int (woI g ws).2), some (.int (h u + vl P Q a)), x15] M) := by
    have hsub := bs.sub hu
    have q0 : ∀ M, subIx (encQ P Q) (.int 0) M = okR (.int P) M := fun M => rfl
    have q1 : ∀ M, subIx (encQ P Q) (.int 1) M = okR (.int Q) M := fun M => rfl
    have m1 : ∀ M, mulF (.int (woI g ws).1) (.int Q) M = okR (.int ((woI g ws).1 * Q)) M := fun M => mul_int (.inl (by constructor <;> omega))
    have m2 : ∀ M, mulF (.int (woI g ws).2) (.int P) M = okR (.int ((woI g ws).2 * P)) M := fun M => mul_int (.inl (by constructor <;> omega))
    have e : h u + (woI g ws).1 * Q - (woI g ws).2 * P = h u + vl P Q a := by rw [hvl]; omega
    simp [s_better_ring_1_b_1_b_0_b_1, hsub, q0, q1, m1, m2, subF, intF, e]
  have hcond : gTst (gOp gtF (gVar 14) (gOp subIxD (gVar 3) (gVar 10))) [some (netD p), some (gloW g), some (encQ P Q), some (.cel nh), some (.cel na), some (.bl ch), some (encS u), x7, x8, some (encC c), some (encS v), some (encW ws), some (.int (woI g ws).1), some (.int (woI g ws).2), some (.int (h u + vl P Q a)), x15] M = okR (decide (h v < h u + vl P Q a)) M := by
    simp [bs.sub hv, gtF, intF]
  by_cases hlt : h v < h u + vl P Q a
  · have hn : h v < h a.s + vl P Q a := by rw [as]; exact hlt
    have bs1 := bs.putH (x := h u + vl P Q a) hv
    have hM1 : (M.set nh (.dkn (ptN ((hiT p h).map (kvB D.int)) (kS v) (encS v) (.int (h u + vl P Q a)))))[na]? = some (.dkn (A.map (kvB encA))) := bs1.atA
    generalize hM1' : M.set nh (.dkn (ptN ((hiT p h).map (kvB D.int)) (kS v) (encS v) (.int (h u + vl P Q a)))) = M1 at bs1 hM1
    have bs2 := bs1.putA (s := v) (a := a)
    generalize hM2' : M1.set na (.dkn (ptN (A.map (kvB encA)) (kS v) (encS v) (encA a))) = M2 at bs2
    have u0 : (gAsg (DL.gTup (DL.gCons (gVar 14) (DL.gCons (DL.gTup (DL.gCons (gVar 6) (DL.gCons (gVar 9) (DL.gCons (DL.gTup (DL.gCons (gVar 12) (DL.gCons (gVar 13) DL.gNil))) DL.gNil)))) (DL.gCons (gC (.bl true)) DL.gNil)))) (gTupT 3 (gsCons (gSubD (gVar 3) (gVar 10)) (gsCons (gSubD (gVar 4) (gVar 10)) (gsCons (DL.gName 5) gsNil))))) [some (netD p), some (gloW g), some (encQ P Q), some (.cel nh), some (.cel na), some (.bl ch), some (encS u), x7, x8, some (encC c), some (encS v), some (encW ws), some (.int (woI g ws).1), some (.int (woI g ws).2), some (.int (h u + vl P Q a)), x15] M
        = some (.nx [some (netD p), some (gloW g), some (encQ P Q), some (.cel nh), some (.cel na), some (.bl true), some (encS u), x7, x8, some (encC c), some (encS v), some (encW ws), some (.int (woI g ws).1), some (.int (woI g ws).2), some (.int (h u + vl P Q a)), x15] M2) := by
      have ea : D.tup [encS u, encC c, .tup [.int (woI g ws).1, .int (woI g ws).2]] = encA a := by subst ha; rfl
      have hl1 : (hiT p h).length < 16777216 := by unfold hiT; simp; omega
      have hl2 : A.length < 16777216 := by omega
      subst hM2'
      subst hM1'
      simp [slE, ea, gSubD, bs.atH, hM1, hl1, hl2]
    obtain ⟨d, M3, e3, x3, hra⟩ := ringAlong_ok (A := putB A v a) (s0 := v) (by
      have h1 := putB_len (T := A) (s := v) (v := a)
      omega) bs2.atA
    have u1 : (gAsg (gCallN 2 f_ring_along (DL.gCons (gVar 4) (DL.gCons (gVar 10) DL.gNil))) (DL.gName 15)) [some (netD p), some (gloW g), some (encQ P Q), some (.cel nh), some (.cel na), some (.bl true), some (encS u), x7, x8, some (encC c), some (encS v), some (encW ws), some (.int (woI g ws).1), some (.int (woI g ws).2), some (.int (h u + vl P Q a)), x15] M2
        = some (.nx [some (netD p), some (gloW g), some (encQ P Q), some (.cel nh), some (.cel na), some (.bl true), some (encS u), x7, x8, some (encC c), some (encS v), some (encW ws), some (.int (woI g ws).1), some (.int (woI g ws).2), some (.int (h u + vl P Q a)), some d] M3) := by
      simp [e3]
    have run : s_better_ring_1_b_1_b_0_b [some (netD p), some (gloW g), some (encQ P Q), some (.cel nh), some (.cel na), some (.bl ch), some (encS u), x7, x8, some (encC c), some (encS v), some (encW ws), x12, x13, x14, x15] M = gIfS (gTst (gUn notNF (gVar 15))) (gRet (gVar 15)) gNext [some (netD p), some (gloW g), some (encQ P Q), some (.cel nh), some (.cel na), some (.bl true), some (encS u), x7, x8, some (encC c), some (encS v), some (encW ws), some (.int (woI g ws).1), some (.int (woI g ws).2), some (.int (h u + vl P Q a)), some d] M3 := by
      rw [s_better_ring_1_b_1_b_0_b, seq_nx t0, seq_nx t1, s_better_ring_1_b_1_b_0_b_2, gIfS, hcond, decide_eq_true hlt]
      simp only [bindS_ok, if_true]
      rw [seq_nx u0, seq_nx u1]
    cases hra with
    | none hc0 hs0 =>
      obtain ⟨k0, hk0⟩ := hc0.ends (.stop hs0)
      have b' := b.put hp eo hn hk0
      rw [as] at b'
      refine .inl ⟨some (.int (woI g ws).1), some (.int (woI g ws).2), some (.int (h u + vl P Q a)), some .non, updH h v (h u + vl P Q a), putB A v a, true, M3, ?_, b', bs2.on x3, .inr ⟨rfl, rfl, hlt⟩⟩
      rw [run]
      simp [notNF, D.isNon]
    | @ring ns ls s j hc0 hd0 hj0 =>
      refine .inr ⟨(ls.drop j).reverse, M3, ?_, b.ring hp eo hn hc0 hd0 hj0, (bs2.on x3).ext⟩
      rw [run]
      simp [notNF, D.isNon, -List.map_drop, -List.map_reverse]
  · refine .inl ⟨some (.int (woI g ws).1), some (.int (woI g ws).2), some (.int (h u + vl P Q a)), x15, h, A, ch, M, ?_, b, bs, .inl ⟨rfl, rfl, rfl, by omega⟩⟩
    rw [s_better_ring_1_b_1_b_0_b, seq_nx t0, seq_nx t1, s_better_ring_1_b_1_b_0_b_2, gIfS, hcond, decide_eq_false hlt]
    rfl
end
end EB
/-! QD: better_ring gives a ring, or there is a potential -/
namespace EB
open PySem PySem.Spec L2 DL
variable [inst : Pw]
def vlc (p : Pn) (g : Bool) (P Q : Int) (u : Sd) (c : Ch) : Int := vl P Q ⟨u, c, (woI g (tickM p u c).2).1, (woI g (tickM p u c).2).2⟩
/-- what is left to grow -/
def muL (B : Int) (h : Sd → Int) (l : List PRow) : Nat := (l.map fun r => (B - h r.s).toNat).sum
theorem muL_le {B : Int} {h h' : Sd → Int} (hh : ∀ v, h v ≤ h' v) : ∀ l : List PRow, muL B h' l ≤ muL B h l
  | [] => Nat.le_refl _
  | r :: l => by
    have := muL_le (B := B) hh l
    have := hh r.s
    simp only [muL, List.map_cons, List.sum_cons] at *
    omega
theorem muL_lt {B : Int} {h h' : Sd → Int} (hh : ∀ v, h v ≤ h' v) {v : Sd} (hv : h v < h' v) (hB : h' v ≤ B) : ∀ {l : List PRow}, v ∈ l.map (·.s) → muL B h' l < muL B h l
  | r :: l, hm => by
    have h1 := muL_le (B := B) hh l
    have h2 := hh r.s
    by_cases e : r.s = v
    · subst e
      simp only [muL, List.map_cons, List.sum_cons] at *
      omega
    · have hm' : v ∈ l.map (·.s) := by
        rcases List.mem_cons.mp hm with q | q
        · exact absurd q.symm e
        · exact q
      have := muL_lt hh hv hB hm'
      simp only [muL, List.map_cons, List.sum_cons] at *
      omega
section
variable {p : Pn} {g : Bool} {P Q : Int} {M0 M : Sto} {nh na : Nat}
/-- the state in a turn: done, what has been tried; m0: what was left at its begin -/
structure BT (p : Pn) (g : Bool) (P Q : Int) (M0 : Sto) (nh na : Nat) (B : Int) (m0 : Nat) (dn : Sd → Ch → Prop) (h : Sd → Int) (A : AT) (ch : Bool) (M : Sto) : Prop where
  bi : BI p g P Q h A
  bs : BS p M0 nh na h A M
  dn : ch = false → ∀ u c, dn u c → h u + vlc p g P Q u c ≤ h (tickM p u c).1
  m1 : muL B h (netP p) ≤ m0
  m2 : ch = true → muL B h (netP p) < m0
theorem br_row {B : Int} {m0 : Nat} {dn : Sd → Ch → Prop} {r : PRow} {h : Sd → Int} {A : AT} {ch : Bool} {x9 x10 x11 x12 x13 x14 x15 : Option D} (hp : p.Ok) (hQ : 0 ≤ Q) (hB : B = ((netP p).length : Nat) * (Q + P.natAbs)) (hr : r ∈ netP p) (t : BT p g P Q M0 nh na B m0 dn h A ch M) :
    (∃ h' A' ch' z9 z10 z11 z12 z13 z14 z15 M', s_better_ring_1_b_1_b [some (netD p), some (gloW g), some (encQ P Q), some (.cel nh), some (.cel na), some (.bl ch), some (encS r.s), some (encR r.run), some (.lst (r.ticks.map encK)), x9, x10, x11, x12, x13, x14, x15] M
      = some (.nx [some (netD p), some (gloW g), some (encQ P Q), some (.cel nh), some (.cel na), some (.bl ch'), some (encS r.s), some (encR r.run), some (.lst (r.ticks.map encK)), z9, z10, z11, z12, z13, z14, z15] M') ∧
      BT p g P Q M0 nh na B m0 (fun u c => dn u c ∨ (u = r.s ∧ c ∈ chs p u)) h' A' ch' M') ∨
    ∃ v M', s_better_ring_1_b_1_b [some (netD p), some (gloW g), some (encQ P Q), some (.cel nh), some (.cel na), some (.bl ch), some (encS r.s), some (encR r.run), some (.lst (r.ticks.map encK)), x9, x10, x11, x12, x13, x14, x15] M
      = some (.rt v M') ∧ ∃ rg, v = .lst (rg.map encA) ∧ RingOk p g P Q rg ∧ Ext M0 M' := by
  have hsu : r.s ∈ stands p := List.mem_map.mpr ⟨r, hr, rfl⟩
  have htk := ((netP_whole hp).done r hr).1
  have hi : gItL (gVar 8) [some (netD p), some (gloW g), some (encQ P Q), some (.cel nh), some (.cel na), some (.bl ch), some (encS r.s), some (encR r.run), some (.lst (r.ticks.map encK)), x9, x10, x11, x12, x13, x14, x15] M = okR ((succ p r.s).map encK) M := by
    rw [← htk]
    rfl
  have main := forL_or (t := gTupT 3 (gsCons (DL.gName 9) (gsCons (DL.gName 10) (gsCons (DL.gName 11) gsNil)))) (s := s_better_ring_1_b_1_b_0_b) (f := encK) (fun pre δ M' => ∃ h' A' ch' z9 z10 z11 z12 z13 z14 z15, δ = [some (netD p), some (gloW g), some (encQ P Q), some (.cel nh), some (.cel na), some (.bl ch'), some (encS r.s), some (encR r.run), some (.lst (r.ticks.map encK)), z9, z10, z11, z12, z13, z14, z15] ∧
      BT p g P Q M0 nh na B m0 (fun u c => dn u c ∨ (u = r.s ∧ ∃ k ∈ pre, k.1 = c)) h' A' ch' M') (fun v M' => ∃ rg, v = .lst (rg.map encA) ∧ RingOk p g P Q rg ∧ Ext M0 M') (succ p r.s) (by
    rintro pre k post hx δ M' ⟨h', A', ch', z9, z10, z11, z12, z13, z14, z15, rfl, t'⟩
    have hk : k ∈ succ p r.s := by rw [hx]; simp
    obtain ⟨c, hc, rfl⟩ := List.mem_map.mp hk
    refine ⟨[some (netD p), some (gloW g), some (encQ P Q), some (.cel nh), some (.cel na), some (.bl ch'), some (encS r.s), some (encR r.run), some (.lst (r.ticks.map encK)), some (encC c), some (encS (tickM p r.s c).1), some (encW (tickM p r.s c).2), z12, z13, z14, z15], M', rfl, ?_⟩
    rcases br_tick (x7 := some (encR r.run)) (x8 := some (.lst (r.ticks.map encK))) (x12 := z12) (x13 := z13) (x14 := z14) (x15 := z15) (ch := ch') hp hsu hc t'.bi t'.bs with ⟨w12, w13, w14, w15, h2, A2, ch2, M2, e2, b2, bs2, hor⟩ | ⟨rg, M2, e2, hrg, x2⟩
    · refine .inl ⟨_, M2, e2, h2, A2, ch2, some (encC c), some (encS (tickM p r.s c).1), some (encW (tickM p r.s c).2), w12, w13, w14, w15, rfl, ?_⟩
      rcases hor with ⟨rfl, rfl, rfl, hle⟩ | ⟨rfl, rfl, hlt⟩
      · refine ⟨b2, bs2, fun hch u c' hd => ?_, t'.m1, t'.m2⟩
        rcases hd with q | ⟨rfl, k', hk', rfl⟩
        · exact t'.dn hch u c' (.inl q)
        · rcases List.mem_append.mp hk' with q | q
          · exact t'.dn hch r.s k'.1 (.inr ⟨rfl, k', q, rfl⟩)
          · obtain rfl := List.mem_singleton.mp q
            exact hle
      · have hb := b2.bnd hp hQ (W := Q + P.natAbs) (Int.le_refl _) (tickM p r.s c).1
        rw [← hB] at hb
        have ev : updH h' (tickM p r.s c).1 (h' r.s + vl P Q ⟨r.s, c, (woI g (tickM p r.s c).2).1, (woI g (tickM p r.s c).2).2⟩) (tickM p r.s c).1 = h' r.s + vl P Q ⟨r.s, c, (woI g (tickM p r.s c).2).1, (woI g (tickM p r.s c).2).2⟩ := by simp [updH]
        have hup : ∀ v, h' v ≤ updH h' (tickM p r.s c).1 (h' r.s + vl P Q ⟨r.s, c, (woI g (tickM p r.s c).2).1, (woI g (tickM p r.s c).2).2⟩) v := fun v => by
          unfold updH
          split
          · rename_i q; rw [q]; omega
          · exact Int.le_refl _
        have hin := ((netP_whole hp).done r hr).2 (tkOf p r.s c) (List.mem_map.mpr ⟨c, hc, rfl⟩)
        have hlt2 := muL_lt (B := B) hup (v := (tickM p r.s c).1) (by rw [ev]; exact hlt) hb (l := netP p) hin
        have := t'.m1
        exact ⟨b2, bs2, (fun q => by cases q), by omega, fun _ => by omega⟩
    · exact .inr ⟨_, M2, e2, rg, rfl, hrg, x2⟩) (post := succ p r.s) (pre := []) (δ := [some (netD p), some (gloW g), some (encQ P Q), some (.cel nh), some (.cel na), some (.bl ch), some (encS r.s), some (encR r.run), some (.lst (r.ticks.map encK)), x9, x10, x11, x12, x13, x14, x15]) (M := M) rfl
    ⟨h, A, ch, x9, x10, x11, x12, x13, x14, x15, rfl, t.bi, t.bs, (fun hch u c hd => by
      rcases hd with q | ⟨_, k, hk, _⟩
      · exact t.dn hch u c q
      · cases hk), t.m1, t.m2⟩
  have run : s_better_ring_1_b_1_b [some (netD p), some (gloW g), some (encQ P Q), some (.cel nh), some (.cel na), some (.bl ch), some (encS r.s), some (encR r.run), some (.lst (r.ticks.map encK)), x9, x10, x11, x12, x13, x14, x15] M = forL (gTupT 3 (gsCons (DL.gName 9) (gsCons (DL.gName 10) (gsCons (DL.gName 11) gsNil)))) s_better_ring_1_b_1_b_0_b ((succ p r.s).map encK) [some (netD p), some (gloW g), some (encQ P Q), some (.cel nh), some (.cel na), some (.bl ch), some (encS r.s), some (encR r.run), some (.lst (r.ticks.map encK)), x9, x10, x11, x12, x13, x14, x15] M := by
    rw [s_better_ring_1_b_1_b, s_better_ring_1_b_1_b_0, gFor, hi, bindS_ok]
  rw [run]
  rcases main with ⟨δ', M', e, h', A', ch', z9, z10, z11, z12, z13, z14, z15, rfl, t'⟩ | ⟨v, M', e, hv⟩
  · refine .inl ⟨h', A', ch', z9, z10, z11, z12, z13, z14, z15, M', e, t'.bi, t'.bs, fun hch u c hd => ?_, t'.m1, t'.m2⟩
    rcases hd with q | ⟨rfl, hc⟩
    · exact t'.dn hch u c (.inl q)
    · exact t'.dn hch r.s c (.inr ⟨rfl, tkOf p r.s c, List.mem_map.mpr ⟨c, hc, rfl⟩, rfl⟩)
  · exact .inr ⟨v, M', e, hv⟩
/-- a turn over all rows -/
theorem br_rows {B : Int} {m0 : Nat} {h : Sd → Int} {A : AT} {x6 x7 x8 x9 x10 x11 x12 x13 x14 x15 : Option D} (hp : p.Ok) (hQ : 0 ≤ Q) (hB : B = ((netP p).length : Nat) * (Q + P.natAbs)) (bi : BI p g P Q h A) (bs : BS p M0 nh na h A M) (hm : muL B h (netP p) = m0) (ch0 : Bool) :
    (∃ h' A' ch' z6 z7 z8 z9 z10 z11 z12 z13 z14 z15 M', s_better_ring_1_b [some (netD p), some (gloW g), some (encQ P Q), some (.cel nh), some (.cel na), some (.bl ch0), x6, x7, x8, x9, x10, x11, x12, x13, x14, x15] M
      = some (.nx [some (netD p), some (gloW g), some (encQ P Q), some (.cel nh), some (.cel na), some (.bl ch'), z6, z7, z8, z9, z10, z11, z12, z13, z14, z15] M') ∧
      BT p g P Q M0 nh na B m0 (fun u c => u ∈ stands p ∧ c ∈ chs p u) h' A' ch' M') ∨
    ∃ v M', s_better_ring_1_b [some (netD p), some (gloW g), some (encQ P Q), some (.cel nh), some (.cel na), some (.bl ch0), x6, x7, x8, x9, x10, x11, x12, x13, x14, x15] M
      = some (.rt v M') ∧ ∃ rg, v = .lst (rg.map encA) ∧ RingOk p g P Q rg ∧ Ext M0 M' := by
  have hi : gItNI (gVar 0) [some (netD p), some (gloW g), some (encQ P Q), some (.cel nh), some (.cel na), some (.bl false), x6, x7, x8, x9, x10, x11, x12, x13, x14, x15] M = okR ((netP p).map fun r => D.tup [encS r.s, .tup [encR r.run, .lst (r.ticks.map encK)]]) M := by
    have e : ∀ l : List PRow, ((l.map fun r => encS r.s).zip (l.map fun r => D.tup [encR r.run, .lst (r.ticks.map encK)])).map (fun p => D.tup [p.1, p.2]) = l.map fun r => D.tup [encS r.s, .tup [encR r.run, .lst (r.ticks.map encK)]] := by
      intro l
      induction l with
      | nil => rfl
      | cons a r ih => simp [ih]
    rw [← e]
    rfl
  have main := forL_or (t := gTupT 2 (gsCons (DL.gName 6) (gsCons (gTupT 2 (gsCons (DL.gName 7) (gsCons (DL.gName 8) gsNil))) gsNil))) (s := s_better_ring_1_b_1_b) (f := fun r : PRow => D.tup [encS r.s, .tup [encR r.run, .lst (r.ticks.map encK)]]) (fun pre δ M' => ∃ h' A' ch' z6 z7 z8 z9 z10 z11 z12 z13 z14 z15, δ = [some (netD p), some (gloW g), some (encQ P Q), some (.cel nh), some (.cel na), some (.bl ch'), z6, z7, z8, z9, z10, z11, z12, z13, z14, z15] ∧
      BT p g P Q M0 nh na B m0 (fun u c => ∃ r ∈ pre, u = r.s ∧ c ∈ chs p u) h' A' ch' M') (fun v M' => ∃ rg, v = .lst (rg.map encA) ∧ RingOk p g P Q rg ∧ Ext M0 M') (netP p) (by
    rintro pre r post hx δ M' ⟨h', A', ch', z6, z7, z8, z9, z10, z11, z12, z13, z14, z15, rfl, t'⟩
    have hr : r ∈ netP p := by rw [hx]; simp
    refine ⟨[some (netD p), some (gloW g), some (encQ P Q), some (.cel nh), some (.cel na), some (.bl ch'), some (encS r.s), some (encR r.run), some (.lst (r.ticks.map encK)), z9, z10, z11, z12, z13, z14, z15], M', rfl, ?_⟩
    rcases br_row (x9 := z9) (x10 := z10) (x11 := z11) (x12 := z12) (x13 := z13) (x14 := z14) (x15 := z15) hp hQ hB hr t' with ⟨h2, A2, ch2, w9, w10, w11, w12, w13, w14, w15, M2, e2, t2⟩ | ⟨v, M2, e2, q⟩
    · refine .inl ⟨_, M2, e2, h2, A2, ch2, _, _, _, w9, w10, w11, w12, w13, w14, w15, rfl, t2.bi, t2.bs, fun hch u c hd => ?_, t2.m1, t2.m2⟩
      obtain ⟨r', hr', rfl, hc⟩ := hd
      rcases List.mem_append.mp hr' with q | q
      · exact t2.dn hch _ c (.inl ⟨r', q, rfl, hc⟩)
      · obtain rfl := List.mem_singleton.mp q
        exact t2.dn hch _ c (.inr ⟨rfl, hc⟩)
    · exact .inr ⟨v, M2, e2, q⟩) (post := netP p) (pre := []) (δ := [some (netD p), some (gloW g), some (encQ P Q), some (.cel nh), some (.cel na), some (.bl false), x6, x7, x8, x9, x10, x11, x12, x13, x14, x15]) (M := M) rfl
    ⟨h, A, false, x6, x7, x8, x9, x10, x11, x12, x13, x14, x15, rfl, bi, bs, (fun _ u c hd => by
      obtain ⟨r, hr, _⟩ := hd
      cases hr), (by omega), (fun q => by cases q)⟩
  have t0 : s_better_ring_1_b_0 [some (netD p), some (gloW g), some (encQ P Q), some (.cel nh), some (.cel na), some (.bl ch0), x6, x7, x8, x9, x10, x11, x12, x13, x14, x15] M = some (.nx [some (netD p), some (gloW g), some (encQ P Q), some (.cel nh), some (.cel na), some (.bl false), x6, x7, x8, x9, x10, x11, x12, x13, x14, x15] M) := by
    simp [s_better_ring_1_b_0]
  have run : s_better_ring_1_b [some (netD p), some (gloW g), some (encQ P Q), some (.cel nh), some (.cel na), some (.bl ch0), x6, x7, x8, x9, x10, x11, x12, x13, x14, x15] M = forL (gTupT 2 (gsCons (DL.gName 6) (gsCons (gTupT 2 (gsCons (DL.gName 7) (gsCons (DL.gName 8) gsNil))) gsNil))) s_better_ring_1_b_1_b ((netP p).map fun r => D.tup [encS r.s, .tup [encR r.run, .lst (r.ticks.map encK)]]) [some (netD p), some (gloW g), some (encQ P Q), some (.cel nh), some (.cel na), some (.bl false), x6, x7, x8, x9, x10, x11, x12, x13, x14, x15] M := by
    rw [s_better_ring_1_b, seq_nx t0, s_better_ring_1_b_1, gFor, hi, bindS_ok]
  rw [run]
  rcases main with ⟨δ', M', e, h', A', ch', z6, z7, z8, z9, z10, z11, z12, z13, z14, z15, rfl, t'⟩ | ⟨v, M', e, hv⟩
  · refine .inl ⟨h', A', ch', z6, z7, z8, z9, z10, z11, z12, z13, z14, z15, M', e, t'.bi, t'.bs, fun hch u c hd => ?_, t'.m1, t'.m2⟩
    obtain ⟨hu, hc⟩ := hd
    obtain ⟨r, hr, rfl⟩ := List.mem_map.mp hu
    exact t'.dn hch _ c ⟨r, hr, rfl, hc⟩
  · exact .inr ⟨v, M', e, hv⟩
def Pot (p : Pn) (g : Bool) (P Q : Int) : Prop := ∃ h : Sd → Int, ∀ u ∈ stands p, ∀ c ∈ chs p u, h u + vlc p g P Q u c ≤ h (tickM p u c).1
theorem br_while {B : Int} (hp : p.Ok) (hQ : 0 ≤ Q) (hB : B = ((netP p).length : Nat) * (Q + P.natAbs)) : ∀ {f : Nat} {h : Sd → Int} {A : AT} {M : Sto} {x6 x7 x8 x9 x10 x11 x12 x13 x14 x15 : Option D}, BI p g P Q h A → BS p M0 nh na h A M → muL B h (netP p) + 2 ≤ f →
    (∃ δ' M', whileN (gTst (gVar 5)) s_better_ring_1_b f [some (netD p), some (gloW g), some (encQ P Q), some (.cel nh), some (.cel na), some (.bl true), x6, x7, x8, x9, x10, x11, x12, x13, x14, x15] M = some (.nx δ' M') ∧ Pot p g P Q ∧ Ext M0 M') ∨
    ∃ v M', whileN (gTst (gVar 5)) s_better_ring_1_b f [some (netD p), some (gloW g), some (encQ P Q), some (.cel nh), some (.cel na), some (.bl true), x6, x7, x8, x9, x10, x11, x12, x13, x14, x15] M = some (.rt v M') ∧ ∃ rg, v = .lst (rg.map encA) ∧ RingOk p g P Q rg ∧ Ext M0 M'
  | 0, h, A, M, _, _, _, _, _, _, _, _, _, _, bi, bs, hf => by omega
  | f + 1, h, A, M, x6, x7, x8, x9, x10, x11, x12, x13, x14, x15, bi, bs, hf => by
    have hc : gTst (gVar 5) [some (netD p), some (gloW g), some (encQ P Q), some (.cel nh), some (.cel na), some (.bl true), x6, x7, x8, x9, x10, x11, x12, x13, x14, x15] M = okR true M := rfl
    simp only [whileN, hc, bindS_ok, if_true]
    rcases br_rows (x6 := x6) (x7 := x7) (x8 := x8) (x9 := x9) (x10 := x10) (x11 := x11) (x12 := x12) (x13 := x13) (x14 := x14) (x15 := x15) hp hQ hB bi bs rfl true with ⟨h', A', ch', z6, z7, z8, z9, z10, z11, z12, z13, z14, z15, M', e, t'⟩ | ⟨v, M', e, q⟩
    · simp only [e]
      cases ch' with
      | true =>
        have := t'.m2 rfl
        exact br_while hp hQ hB t'.bi t'.bs (by omega)
      | false =>
        obtain ⟨f, rfl⟩ : ∃ k, f = k + 1 := ⟨f - 1, by omega⟩
        have hc2 : gTst (gVar 5) [some (netD p), some (gloW g), some (encQ P Q), some (.cel nh), some (.cel na), some (.bl false), z6, z7, z8, z9, z10, z11, z12, z13, z14, z15] M' = okR false M' := rfl
        refine .inl ⟨[some (netD p), some (gloW g), some (encQ P Q), some (.cel nh), some (.cel na), some (.bl false), z6, z7, z8, z9, z10, z11, z12, z13, z14, z15], M', ?_, ⟨h', fun u hu c hc => t'.dn rfl u c ⟨hu, hc⟩⟩, t'.bs.ext⟩
        simp only [whileN, hc2, bindS_ok]
        rfl
    · refine .inr ⟨v, M', ?_, q⟩
      simp only [e]
/-- all at nought -/
theorem dc_zero {δ : Ev} {n : Nat} (h6 : ∀ x : Option D, (δ.set 6 x)[6]? = some x) : ∀ {post pre : List PRow} {M : Sto}, ((pre ++ post).map (·.s)).Nodup → (pre ++ post).length ≤ 12000000 → M[n]? = some (.dkn ((pre.map fun r => (r.s, (0 : Int))).map (kvB D.int))) →
    dcL (.one 6) gYes (gVar 6) (gC (.int 0)) δ n (post.map fun r => encS r.s) M = okR (.cel n) (M.set n (.dkn (((pre ++ post).map fun r => (r.s, (0 : Int))).map (kvB D.int))))
  | [], pre, M, _, _, hM => by
    rw [List.append_nil]
    simp only [List.map_nil, dcL]
    congr 1
    apply List.ext_getElem?
    intro j
    by_cases e : n = j
    · subst e; rw [List.getElem?_set_self (get_lt hM)]; exact hM
    · rw [List.getElem?_set_ne e]
  | r :: post, pre, M, hn, hl, hM => by
    have hnk : r.s ∉ (pre.map fun r => (r.s, (0 : Int))).map (·.1) := fun hm => by
      rw [List.map_map] at hm
      rw [List.map_append, List.nodup_append] at hn
      exact hn.2.2 r.s hm r.s (by simp) rfl
    have hpt : ptN ((pre.map fun r => (r.s, (0 : Int))).map (kvB D.int)) (kS r.s) (encS r.s) (.int 0) = ((pre ++ [r]).map fun r => (r.s, (0 : Int))).map (kvB D.int) := by
      rw [putB_D D.int]
      unfold putB
      rw [if_neg hnk, List.map_append]
      simp
    have hlt : pre.length < 16777216 := by simp at hl; omega
    have ih := dc_zero (n := n) h6 (post := post) (pre := pre ++ [r]) (M := M.set n (.dkn (((pre ++ [r]).map fun r => (r.s, (0 : Int))).map (kvB D.int)))) (by simpa using hn) (by simpa using hl) (List.getElem?_set_self (get_lt hM))
    simp only [List.map_cons, dcL, TGC.d, gYes, noEx_ok, bindR_ok, if_true, gVar, h6, gC, hM, keyN_S, hpt]
    rw [if_pos (by rw [slE]; simpa using hlt), ih, List.set_set]
    simp
theorem betterRing_ok (hp : p.Ok) (hQ : 0 ≤ Q) : ∃ M', Ext M M' ∧ ((f_better_ring [netD p, gloW g, encQ P Q] M = okR .non M' ∧ Pot p g P Q) ∨ ∃ rg, f_better_ring [netD p, gloW g, encQ P Q] M = okR (.lst (rg.map encA)) M' ∧ RingOk p g P Q rg) := by
  have hlen := (netP_whole hp).len
  have hbd := bnd_lt hp
  have hnd := (netP_whole hp).nd
  have hdc := dc_zero (δ := wipeD [some (netD p), some (gloW g), some (encQ P Q), none, none, none, none, none, none, none, none, none, none, none, none, none] [6]) (n := M.length) (fun x => rfl) (post := netP p) (pre := []) (M := M ++ [CO.dkn []]) (by simpa using hnd) (by simp; omega) (by simp)
  generalize hM1 : ((M ++ [CO.dkn []]).set M.length (.dkn ((([] ++ netP p).map fun r : PRow => (r.s, (0 : Int))).map (kvB D.int)))) = M1 at hdc
  have hM1l : M1.length = M.length + 1 := by subst hM1; simp
  have b0 : BI p g P Q (fun _ => 0) [] := ⟨by simp, fun v a h => by simp [lkB] at h, fun v a h => by simp [lkB] at h, fun s => ⟨0, .stop rfl⟩, fun _ _ => rfl⟩
  have s0 : BS p M M.length (M.length + 1) (fun _ => 0) [] (M1 ++ [CO.dkn []]) := by
    refine ⟨⟨by simp; omega, fun k hk => ?_⟩, Nat.le_refl _, by omega, by omega, ?_, ?_⟩
    · rw [List.getElem?_append_left (by omega)]
      subst hM1
      rw [List.getElem?_set_ne (by omega), List.getElem?_append_left hk]
    · rw [List.getElem?_append_left (by omega)]
      subst hM1
      rw [List.getElem?_set_self (by simp)]
      rfl
    · rw [List.getElem?_append_right (by omega)]
      simp [hM1l]
  have t0 : s_better_ring_0 [some (netD p), some (gloW g), some (encQ P Q), none, none, none, none, none, none, none, none, none, none, none, none, none] M = some (.nx [some (netD p), some (gloW g), some (encQ P Q), some (.cel M.length), some (.cel (M.length + 1)), some (.bl true), none, none, none, none, none, none, none, none, none, none] (M1 ++ [CO.dkn []])) := by
    have hd : gDcN (gItNK (gVar 0)) (.one 6) gYes (gVar 6) (gC (.int 0)) [6] [some (netD p), some (gloW g), some (encQ P Q), none, none, none, none, none, none, none, none, none, none, none, none, none] M = okR (.cel M.length) M1 := hdc
    rw [s_better_ring_0, gPar3, DL.gCons, hd]
    simp [hM1l]
  have run : f_better_ring [netD p, gloW g, encQ P Q] M = finS (gSeq s_better_ring_1 s_better_ring_2 [some (netD p), some (gloW g), some (encQ P Q), some (.cel M.length), some (.cel (M.length + 1)), some (.bl true), none, none, none, none, none, none, none, none, none, none] (M1 ++ [CO.dkn []])) := by
    show finS (g_better_ring [some (netD p), some (gloW g), some (encQ P Q), none, none, none, none, none, none, none, none, none, none, none, none, none] M) = _
    rw [s_better_ring_eq, s_better_ring, seq_nx t0]
  rcases br_while (x6 := none) (x7 := none) (x8 := none) (x9 := none) (x10 := none) (x11 := none) (x12 := none) (x13 := none) (x14 := none) (x15 := none) hp hQ rfl b0 s0 (Nat.le_refl _) with ⟨δ', M', e, pot, x⟩ | ⟨v, M', e, rg, rfl, hr, x⟩
  · refine ⟨M', x, .inl ⟨?_, pot⟩⟩
    have e' : s_better_ring_1 [some (netD p), some (gloW g), some (encQ P Q), some (.cel M.length), some (.cel (M.length + 1)), some (.bl true), none, none, none, none, none, none, none, none, none, none] (M1 ++ [CO.dkn []]) = some (.nx δ' M') := gWhile_eq e
    rw [run, seq_nx e']
    rfl
  · refine ⟨M', x, .inr ⟨rg, ?_, hr⟩⟩
    rw [run, gSeq, s_better_ring_1, gWhile_eq e]
    rfl
end
end EB
/-! QE: reduced, best_by -/
namespace EB
open PySem PySem.Spec L2 DL
variable [inst : Pw]
noncomputable def s_reduced_0  : GS := (gPar 2 3 (DL.gCons (gVar 0) (DL.gCons (gVar 1) DL.gNil)))
noncomputable def s_reduced_1_b_0  : GS := (gPar 2 3 (DL.gCons (gVar 3) (DL.gCons (gOp modF (gVar 2) (gVar 3)) DL.gNil)))
noncomputable def s_reduced_1_b  : GS := s_reduced_1_b_0
noncomputable def s_reduced_1  : GS := (gWhile (gTst (gOp gtF (gVar 3) (gC (.int 0)))) s_reduced_1_b)
noncomputable def s_reduced_2  : GS := (gRet (DL.gTup (DL.gCons (gOp fdivF (gVar 0) (gVar 2)) (DL.gCons (gOp fdivF (gVar 1) (gVar 2)) DL.gNil))))
noncomputable def s_reduced  : GS := (gSeq s_reduced_0 (gSeq s_reduced_1 s_reduced_2))
theorem s_reduced_eq  : g_reduced = s_reduced := rfl
noncomputable def s_best_by_0  : GS := (gAsg (DL.gTup (DL.gCons (DL.gTup (DL.gCons (gUn negF (gC (.int 1))) (DL.gCons (gC (.int 1)) DL.gNil))) (DL.gCons (gC .non) DL.gNil))) (gTupT 2 (gsCons (DL.gName 2) (gsCons (DL.gName 3) gsNil))))
noncomputable def s_best_by_1  : GS := (gAsg (gCallN 3 f_better_ring (DL.gCons (gVar 0) (DL.gCons (gVar 1) (DL.gCons (gVar 2) DL.gNil)))) (DL.gName 4))
noncomputable def s_best_by_2_b_0  : GS := (gAsg (gCallN 2 f_reduced (DL.gCons (gCall sumF (DL.gCons (gLc (gItL (gVar 4)) (.one 5) gYes (gOp subIx (gOp subIx (gVar 5) (gC (.int 2))) (gC (.int 0))) [5]) DL.gNil)) (DL.gCons (gCall sumF (DL.gCons (gLc (gItL (gVar 4)) (.one 5) gYes (gOp subIx (gOp subIx (gVar 5) (gC (.int 2))) (gC (.int 1))) [5]) DL.gNil)) DL.gNil))) (DL.gName 2))
noncomputable def s_best_by_2_b_1  : GS := (gAsg (gVar 4) (DL.gName 3))
noncomputable def s_best_by_2_b_2  : GS := (gAsg (gCallN 3 f_better_ring (DL.gCons (gVar 0) (DL.gCons (gVar 1) (DL.gCons (gVar 2) DL.gNil)))) (DL.gName 4))
noncomputable def s_best_by_2_b  : GS := (gSeq s_best_by_2_b_0 (gSeq s_best_by_2_b_1 s_best_by_2_b_2))
noncomputable def s_best_by_2  : GS := (gWhile (gTst (gUn notNF (gVar 4))) s_best_by_2_b)
noncomputable def s_best_by_3  : GS := (gRet (DL.gTup (DL.gCons (gVar 2) (DL.gCons (gVar 3) DL.gNil))))
noncomputable def s_best_by  : GS := (gSeq s_best_by_0 (gSeq s_best_by_1 (gSeq s_best_by_2 s_best_by_3)))
theorem s_best_by_eq  : g_best_by = s_best_by := rfl
theorem red_loop {x0 x1 : Option D} {M : Sto} : ∀ {f a b : Nat}, b < f → b < 1073741824 → whileN (gTst (gOp gtF (gVar 3) (gC (.int 0)))) s_reduced_1_b f [x0, x1, some (.int a), some (.int b)] M = some (.nx [x0, x1, some (.int (Nat.gcd a b)), some (.int 0)] M)
  | 0, a, b, h, _ => by omega
  | f + 1, a, b, h, h2 => by
    by_cases c : b = 0
    · subst c
      have hc : gTst (gOp gtF (gVar 3) (gC (.int 0))) [x0, x1, some (.int a), some (.int (0 : Nat))] M = okR false M := by
        simp [gtF, intF]
      rw [whileN, hc]
      simp
    · have hc : gTst (gOp gtF (gVar 3) (gC (.int 0))) [x0, x1, some (.int a), some (.int b)] M = okR true M := by
        simp [gtF, intF]
        omega
      have hmod : modF (.int a) (.int b) M = okR (.int ((a % b : Nat) : Int)) M := by
        rw [mod_int (by omega)]
        simp
      have hb : s_reduced_1_b [x0, x1, some (.int a), some (.int b)] M = some (.nx [x0, x1, some (.int b), some (.int ((a % b : Nat) : Int))] M) := by
        simp only [s_reduced_1_b, s_reduced_1_b_0, gPar, DL.gCons, DL.gNil, gOp, gVar, List.getElem?_cons_succ, List.getElem?_cons_zero, bindR_ok, hmod, bindS_ok]
        rfl
      have hlt : a % b < b := Nat.mod_lt _ (by omega)
      have ih := red_loop (x0 := x0) (x1 := x1) (M := M) (f := f) (a := b) (b := a % b) (by omega) (by omega)
      rw [whileN, hc]
      simp only [bindS_ok, if_true, hb]
      rw [ih]
      have e : Nat.gcd a b = Nat.gcd b (a % b) := by
        rw [Nat.gcd_comm a b, Nat.gcd_rec b a, Nat.gcd_comm]
      rw [e]
theorem reduced_ok {a b : Nat} {M : Sto} (hb : 0 < b) (hl : b < 1073741824) : f_reduced [.int a, .int b] M = okR (encQ ((a / Nat.gcd a b : Nat) : Int) ((b / Nat.gcd a b : Nat) : Int)) M := by
  have hg : 0 < Nat.gcd a b := Nat.gcd_pos_of_pos_right _ hb
  have hgl : Nat.gcd a b ≤ b := Nat.gcd_le_right _ hb
  have t0 : s_reduced_0 [some (.int a), some (.int b), none, none] M = some (.nx [some (.int a), some (.int b), some (.int a), some (.int b)] M) := by
    simp [s_reduced_0]
  have t1 : s_reduced_1 [some (.int a), some (.int b), some (.int a), some (.int b)] M = some (.nx [some (.int a), some (.int b), some (.int (Nat.gcd a b)), some (.int 0)] M) := gWhile_eq (red_loop (f := b + 1) (by omega) hl)
  show finS (g_reduced [some (.int a), some (.int b), none, none] M) = _
  have f1 : fdivF (.int a) (.int (Nat.gcd a b)) M = okR (.int ((a / Nat.gcd a b : Nat) : Int)) M := by
    rw [fdiv_int (by omega) (by omega)]
    simp
  have f2 : fdivF (.int b) (.int (Nat.gcd a b)) M = okR (.int ((b / Nat.gcd a b : Nat) : Int)) M := by
    rw [fdiv_int (by omega) (by omega)]
    simp
  rw [s_reduced_eq, s_reduced, seq_nx t0, seq_nx t1]
  simp only [s_reduced_2, gRet, DL.gTup, DL.gCons, DL.gNil, gOp, gVar, List.getElem?_cons_succ, List.getElem?_cons_zero, bindR_ok, f1, f2]
  simp [slE, encQ]
/-! ### what is left: the pairs with a greater share -/
def pairsN (n : Nat) : List (Nat × Nat) := (List.range (n + 1)).flatMap fun a => (List.range (n + 1)).map fun b => (a, b)
theorem pairsN_mem {n a b : Nat} (h : a ≤ n) (h' : b ≤ n) : (a, b) ∈ pairsN n := by
  unfold pairsN
  exact List.mem_flatMap.mpr ⟨a, List.mem_range.mpr (by omega), List.mem_map.mpr ⟨b, List.mem_range.mpr (by omega), rfl⟩⟩
def gr (P Q : Int) (x : Nat × Nat) : Bool := decide (0 < x.2 ∧ (x.2 : Int) * P < (x.1 : Int) * Q)
def cntF (n : Nat) (P Q : Int) : Nat := ((pairsN n).filter (gr P Q)).length
theorem filter_lt {α : Type} {q q' : α → Bool} (hq : ∀ x, q' x = true → q x = true) : ∀ {l : List α} {x : α}, x ∈ l → q x = true → q' x = false → (l.filter q').length < (l.filter q).length := by
  have le : ∀ l : List α, (l.filter q').length ≤ (l.filter q).length := by
    intro l
    induction l with
    | nil => exact Nat.le_refl _
    | cons a l ih =>
      rw [List.filter_cons, List.filter_cons]
      cases h' : q' a with
      | false => cases q a <;> simp <;> omega
      | true => rw [hq a h']; simp; omega
  intro l
  induction l with
  | nil => intro x hx; cases hx
  | cons a l ih =>
    intro x hx h1 h2
    rw [List.filter_cons, List.filter_cons]
    rcases List.mem_cons.mp hx with rfl | hx
    · rw [h1, h2]
      have := le l
      simp
      omega
    · have := ih hx h1 h2
      cases h' : q' a with
      | false => cases q a <;> simp <;> omega
      | true => rw [hq a h']; simp; omega
theorem cntF_lt {n a b d : Nat} {P Q P' Q' : Int} (hQ : 0 < Q) (hQ' : 0 < Q') (ha : a ≤ n) (hb : b ≤ n) (hb0 : 0 < b) (hd : 0 < d) (e1 : (a : Int) = P' * d) (e2 : (b : Int) = Q' * d) (hlt : (b : Int) * P < a * Q) : cntF n P' Q' < cntF n P Q := by
  refine filter_lt (fun x hx => ?_) (pairsN_mem ha hb) ?_ ?_
  · unfold gr at hx ⊢
    simp only [decide_eq_true_eq] at hx ⊢
    obtain ⟨h1, h2⟩ := hx
    refine ⟨h1, ?_⟩
    -- P' Q > Q' P
    have h3 : Q' * P < P' * Q := by
      rw [e1, e2] at hlt
      have h4 : (d : Int) * (Q' * P) < d * (P' * Q) := by
        have l1 : Q' * (d : Int) * P = d * (Q' * P) := by ac_rfl
        have l2 : P' * (d : Int) * Q = d * (P' * Q) := by ac_rfl
        rw [l1, l2] at hlt
        exact hlt
      exact Int.lt_of_mul_lt_mul_left h4 (by omega)
    -- chain
    have h5 : (x.2 : Int) * (Q' * P) ≤ x.2 * (P' * Q) := Int.mul_le_mul_of_nonneg_left (by omega) (by omega)
    have h6 : ((x.2 : Int) * P') * Q < (x.1 * Q') * Q := Int.mul_lt_mul_of_pos_right h2 hQ
    have l3 : (x.2 : Int) * (P' * Q) = x.2 * P' * Q := by ac_rfl
    have l4 : (x.2 : Int) * (Q' * P) = Q' * (x.2 * P) := by ac_rfl
    have l5 : (x.1 : Int) * Q' * Q = Q' * (x.1 * Q) := by ac_rfl
    have h7 : Q' * ((x.2 : Int) * P) < Q' * (x.1 * Q) := by
      rw [← l4, ← l5]
      rw [l3] at h5
      omega
    exact Int.lt_of_mul_lt_mul_left h7 (by omega)
  · unfold gr
    simp only [decide_eq_true_eq]
    exact ⟨hb0, hlt⟩
  · unfold gr
    simp only [decide_eq_false_iff_not]
    rintro ⟨_, h⟩
    have l : (b : Int) * P' = a * Q' := by
      rw [e1, e2]
      ac_rfl
    omega
end EB
/-! QF: from each stand a bottle can be led out; so a first ring exists -/
namespace EB
open PySem PySem.Spec L2 DL
variable [inst : Pw]
def sg (l : List Int) : List Bool := l.map fun x => decide (0 ≤ x)
/-- how far the last bottle is from the end -/
def fd : List Bool → Nat
  | [] => 0
  | b :: l => if b then 0 else 1 + fd l
theorem fd_lt : ∀ {l : List Bool}, l.any id = true → fd l < l.length
  | [], h => by simp at h
  | true :: l, _ => by simp [fd]
  | false :: l, h => by
    have := fd_lt (l := l) (by simpa using h)
    simp only [fd, List.length_cons, Bool.false_eq_true, if_false]
    omega
theorem fd_app : ∀ {l : List Bool} {b : Bool}, l.any id = true → fd (l ++ [b]) = fd l
  | [], b, h => by simp at h
  | true :: l, b, _ => by simp [fd]
  | false :: l, b, h => by
    have := fd_app (l := l) (b := b) (by simpa using h)
    simp only [List.cons_append, fd, Bool.false_eq_true, if_false, this]
def dist (p : Pn) (s : Sd) : Nat := if (sg s.places).any id then fd (sg s.places).reverse else s.places.length + 1 + (p.apart - s.since)
def mus (p : Pn) (s : Sd) : Nat := 4 * dist p s + s.count
theorem chs0 {p : Pn} {s : Sd} : ((0, false) : Ch) ∈ chs p s := by
  unfold chs
  repeat' split
  all_goals simp
theorem chs1 {p : Pn} {s : Sd} (hf : s.fills = false) (hs : s.since = p.apart) : ((1, false) : Ch) ∈ chs p s := by
  unfold chs
  rw [hf]
  simp only [hs, if_true, Bool.false_eq_true, if_false]
  split <;> simp
theorem sgn_set {l : List Int} {i : Nat} {y : Int} (h : 0 ≤ gt l i) (hy : 0 ≤ y) : sg (l.set i y) = sg l := by
  unfold sg
  apply List.ext_getElem?
  intro j
  rw [List.getElem?_map, List.getElem?_map, List.getElem?_set]
  split
  · rename_i e
    subst e
    unfold gt at h
    rw [List.getD_eq_getElem?_getD] at h
    cases q : l[i]? with
    | none =>
      have : ¬ i < l.length := by
        intro z
        rw [List.getElem?_eq_getElem z] at q
        cases q
      rw [if_neg this]
    | some x =>
      rw [q] at h
      rw [if_pos (List.getElem?_eq_some_iff.mp q).1]
      simp at h
      simp [h, hy]
  · rfl
theorem led {p : Pn} {s : Sd} (hp : p.Ok) (hs : s.Ok p) : ∃ c ∈ chs p s, (isb (tickM p s c).2 || isg (tickM p s c).2) = true ∨ mus p (tickM p s c).1 < mus p s := by
  obtain ⟨pl, f, cn, m, sn⟩ := s
  cases f with
  | true =>
    refine ⟨(0, false), chs0, .inr ?_⟩
    have hc := hs.cnt
    simp only [if_true] at hc
    unfold tickM
    simp only [if_true, Bool.false_eq_true, if_false]
    by_cases h : 0 ≤ gt pl p.tap
    · rw [if_pos h]
      have hu : 0 ≤ up p (gt pl p.tap) := by unfold up; have := hp.n1; omega
      simp only [mus, dist, sgn_set h hu, List.length_set]
      omega
    · rw [if_neg h]
      simp only [mus, dist]
      omega
  | false =>
    have hlen := hs.len
    simp only at hlen
    have hb1 := hp.b1
    have hn1 := hp.n1
    have hf2 := hp.f2
    obtain ⟨ini, la, rfl⟩ := last_split (l := pl) (by omega)
    have hdl : (ini ++ [la]).dropLast = ini := by simp
    have hla : (ini ++ [la]).getLastD (-1) = la := by simp
    by_cases h : 0 ≤ la
    · refine ⟨(0, false), chs0, .inl ?_⟩
      unfold tickM
      simp only [Bool.false_eq_true, if_false, hla]
      unfold outW
      have h1 : ¬ la = -1 := by omega
      have h2 : ¬ la = -2 := by omega
      rw [if_neg h1, if_neg h2]
      repeat' split
      all_goals decide +kernel
    · have hsgl : sg (ini ++ [la]) = sg ini ++ [false] := by simp [sg]; omega
      have hrev : (sg (ini ++ [la])).reverse = false :: (sg ini).reverse := by rw [hsgl]; simp
      have hany : (sg (ini ++ [la])).any id = (sg ini).any id := by rw [hsgl]; simp
      have hcount : ∀ b : Bool, (if b = true then p.fill else 0) ≤ 3 := fun b => by cases b <;> simp <;> omega
      by_cases ha : (sg ini).any id = true
      · refine ⟨(0, false), chs0, .inr ?_⟩
        unfold tickM
        simp only [Bool.false_eq_true, if_false, hdl, mus, dist, hany, hrev]
        have e1 : (sg (cm 0 :: ini)).any id = true := by
          have : sg (cm 0 :: ini) = false :: sg ini := rfl
          rw [this]
          simpa using ha
        have e2 : fd (sg (cm 0 :: ini)).reverse = fd (sg ini).reverse := by
          have : sg (cm 0 :: ini) = false :: sg ini := rfl
          rw [this, List.reverse_cons]
          exact fd_app (by rw [List.any_reverse]; exact ha)
        rw [if_pos e1, if_pos ha, e2]
        have := hcount ((m ++ [decide (0 ≤ gt (cm 0 :: ini) p.eye)]).headD false)
        simp only [fd, Bool.false_eq_true, if_false]
        omega
      · have ha' : (sg ini).any id = false := by simpa using ha
        by_cases hsn : sn = p.apart
        · refine ⟨(1, false), chs1 rfl hsn, .inr ?_⟩
          unfold tickM
          simp only [Bool.false_eq_true, if_false, hdl, mus, dist, hany]
          have e0 : sg (cm 1 :: ini) = true :: sg ini := rfl
          have e1 : (sg (cm 1 :: ini)).any id = true := by rw [e0]; simp
          have e2 : fd (sg (cm 1 :: ini)).reverse < (sg (cm 1 :: ini)).reverse.length := fd_lt (by rw [List.any_reverse]; exact e1)
          rw [if_pos e1, ha']
          have e3 : (sg (cm 1 :: ini)).reverse.length = ini.length + 1 := by simp [sg]
          have := hcount ((m ++ [decide (0 ≤ gt (cm 1 :: ini) p.eye)]).headD false)
          simp only [Bool.false_eq_true, if_false, List.length_append, List.length_cons, List.length_nil]
          omega
        · refine ⟨(0, false), chs0, .inr ?_⟩
          have hsl := hs.snc
          simp only at hsl
          unfold tickM
          simp only [Bool.false_eq_true, if_false, hdl, mus, dist, hany, if_true]
          have e0 : sg (cm 0 :: ini) = false :: sg ini := rfl
          have e1 : (sg (cm 0 :: ini)).any id = false := by rw [e0]; simpa using ha'
          rw [e1, ha']
          have := hcount ((m ++ [decide (0 ≤ gt (cm 0 :: ini) p.eye)]).headD false)
          simp only [Bool.false_eq_true, if_false, List.length_append, List.length_cons, List.length_nil]
          omega
theorem max_ex {h : Sd → Int} : ∀ {l : List Sd}, l ≠ [] → ∃ u ∈ l, ∀ v ∈ l, h v ≤ h u
  | [], h => absurd rfl h
  | [a], _ => ⟨a, by simp, by simp⟩
  | a :: b :: l, _ => by
    obtain ⟨u, hu, hm⟩ := max_ex (h := h) (l := b :: l) (by simp)
    by_cases c : h u ≤ h a
    · refine ⟨a, by simp, fun v hv => ?_⟩
      rcases List.mem_cons.mp hv with rfl | hv
      · exact Int.le_refl _
      · have := hm v hv; omega
    · refine ⟨u, List.mem_cons_of_mem _ hu, fun v hv => ?_⟩
      rcases List.mem_cons.mp hv with rfl | hv
      · omega
      · exact hm v hv
theorem stand_ok {p : Pn} {s : Sd} (hp : p.Ok) (h : s ∈ stands p) : s.Ok p := by
  obtain ⟨r, hr, rfl⟩ := List.mem_map.mp h
  exact (netP_whole hp).ok r hr
theorem stand_next {p : Pn} {s : Sd} {c : Ch} (hp : p.Ok) (h : s ∈ stands p) (hc : c ∈ chs p s) : (tickM p s c).1 ∈ stands p := by
  obtain ⟨r, hr, rfl⟩ := List.mem_map.mp h
  exact ((netP_whole hp).done r hr).2 (tkOf p r.s c) (List.mem_map.mpr ⟨c, hc, rfl⟩)
/-- at first there is a ring -/
theorem no_pot {p : Pn} {g : Bool} (hp : p.Ok) : ¬ Pot p g (-1) 1 := by
  rintro ⟨h, hh⟩
  have hne : stands p ≠ [] := fun e => by
    have := (netP_whole hp).hd
    unfold stands at e
    rw [e] at this
    cases this
  obtain ⟨u0, hu0, hm⟩ := max_ex (h := h) hne
  have key : ∀ (n : Nat) (u : Sd), u ∈ stands p → h u = h u0 → mus p u < n → False := by
    intro n
    induction n with
    | zero => intro u _ _ h; omega
    | succ n ih =>
      intro u hu he hn
      obtain ⟨c, hc, hor⟩ := led hp (stand_ok hp hu)
      have h1 := hh u hu c hc
      have hv := stand_next hp hu hc
      have h2 := hm _ hv
      have hw := woI_01 g (tickM p u c).2
      have e1 : vlc p g (-1) 1 u c = (woI g (tickM p u c).2).1 + (woI g (tickM p u c).2).2 := by unfold vlc vl; simp only; omega
      rw [e1] at h1
      rcases hor with q | q
      · have : (woI g (tickM p u c).2).2 = 1 := by
          unfold woI
          cases g
          · simp [q, b1]
          · rfl
        omega
      · exact ih _ hv (by omega) (by omega)
  exact key (mus p u0 + 1) u0 hu0 rfl (Nat.lt_succ_self _)
end EB
/-! QG: best_by -/
namespace EB
open PySem PySem.Spec L2 DL
variable [inst : Pw]
def sT (r : List AR) : Int := (r.map (·.t)).sum
def sB (r : List AR) : Int := (r.map (·.b)).sum
structure Best (p : Pn) (g : Bool) (P Q : Int) (r : List AR) : Prop where
  walk : ∃ u, u ∈ stands p ∧ Wlk p g u r u
  ne : r ≠ []
  len : r.length ≤ (netP p).length
  pos : 0 < sB r
  eq : sT r * Q = sB r * P
  rg : 0 ≤ P ∧ P ≤ Q ∧ 0 < Q ∧ Q ≤ (netP p).length
  cop : Nat.gcd P.toNat Q.toNat = 1
  pot : Pot p g P Q
theorem Wlk.tb {p : Pn} {g : Bool} {s u : Sd} {r : List AR} (h : Wlk p g s r u) : ∀ a ∈ r, 0 ≤ a.t ∧ a.t ≤ a.b ∧ a.b ≤ 1 := by
  induction h with
  | nil => intro a ha; cases ha
  | @cons v u a l e _ ih =>
    intro x hx
    rcases List.mem_cons.mp hx with rfl | hx
    · have := woI_01 g (tickM p x.s x.c).2
      rw [e.w] at this
      exact this
    · exact ih x hx
theorem sums_ok : ∀ {r : List AR}, (∀ a ∈ r, 0 ≤ a.t ∧ a.t ≤ a.b ∧ a.b ≤ 1) → 0 ≤ sT r ∧ sT r ≤ sB r ∧ sB r ≤ r.length
  | [], _ => by simp [sT, sB]
  | a :: r, h => by
    have h1 := h a List.mem_cons_self
    have h2 := sums_ok (r := r) fun x hx => h x (List.mem_cons_of_mem _ hx)
    simp only [sT, sB, List.map_cons, List.sum_cons, List.length_cons] at h2 ⊢
    omega
theorem vl_sum {P Q : Int} : ∀ r : List AR, (r.map (vl P Q)).sum = sT r * Q - sB r * P
  | [] => by simp [sT, sB]
  | a :: r => by
    have ih := vl_sum (P := P) (Q := Q) r
    simp only [sT, sB, List.map_cons, List.sum_cons, vl, Int.add_mul] at ih ⊢
    omega
theorem sum_lc {i : Int} {F : AR → Int} {δ : Ev} {rg : List AR} {M : Sto} (hl : rg.length ≤ 12000000) (hd : δ.length = 6) (hF : ∀ a M, bindR (subIx (encA a) (.int 2) M) (fun d M1 => subIx d (.int i) M1) = okR (.int (F a)) M) (h4 : δ[4]? = some (some (.lst (rg.map encA)))) :
    gCall sumF (DL.gCons (gLc (gItL (gVar 4)) (.one 5) gYes (gOp subIx (gOp subIx (gVar 5) (gC (.int 2))) (gC (.int i))) [5]) DL.gNil) δ M = okR (.int (rg.map F).sum) M := by
  have hi : gItL (gVar 4) δ M = okR (rg.map encA) M := by simp only [gItL, gVar, h4, bindR_ok, itemsD]
  have g5 : ∀ x, ((wipeD δ [5]).set 5 (some x))[5]? = some (some x) := fun x => by simp [wipeD, hd]
  have hlc := lcL_pure (T := .one 5) (tt := gYes) (te := gOp subIx (gOp subIx (gVar 5) (gC (.int 2))) (gC (.int i))) (δ := wipeD δ [5]) (fun d => match bindR (subIx d (.int 2) []) (fun d M1 => subIx d (.int i) M1) with | some (.ok v _) => some v | _ => none) (ds := rg.map encA) (acc := []) (M := M) (fun d hd => by
    obtain ⟨a, _, rfl⟩ := List.mem_map.mp hd
    refine ⟨_, rfl, ?_⟩
    rw [hF a []]
    refine ⟨rfl, ?_⟩
    have := hF a M
    simp only [gOp, gC, gVar, g5, bindR_ok]
    exact this) (by rw [slE]; simp; omega)
  have ef : ∀ rg : List AR, ((rg.map encA).filterMap fun d => match bindR (subIx d (.int 2) []) (fun d M1 => subIx d (.int i) M1) with | some (.ok v _) => some v | _ => none) = (rg.map F).map D.int := by
    intro rg
    induction rg with
    | nil => rfl
    | cons a r ih =>
      rw [List.map_cons, List.filterMap_cons, hF a []]
      simp only [okR]
      rw [ih]
      rfl
  rw [ef, List.nil_append] at hlc
  have hs : sumF [.lst ((rg.map F).map D.int)] M = okR (.int (rg.map F).sum) M := by
    have e2 : (D.lst ((rg.map F).map D.int)).seqV M = some ((rg.map F).map D.int) := rfl
    simp only [sumF, e2, Option.bind_some, intsOf_map]
  rw [gCall, DL.gCons, gLc, hi, bindR_ok, hlc, bindR_ok, DL.gNil, bindR_ok, bindR_ok, hs]
section
variable {p : Pn} {g : Bool} {M : Sto}
/-- a turn: the share of the ring, the next ring -/
theorem bb_body {P Q : Int} {rg : List AR} {x3 : Option D} (hp : p.Ok) (hQ : 0 < Q) (hr : RingOk p g P Q rg) :
    ∃ P' Q' M', 0 < Q' ∧ Ext M M' ∧ cntF (netP p).length P' Q' < cntF (netP p).length P Q ∧ (Pot p g P' Q' → Best p g P' Q' rg) ∧
      ∃ d, s_best_by_2_b [some (netD p), some (gloW g), some (encQ P Q), x3, some (.lst (rg.map encA)), none] M = some (.nx [some (netD p), some (gloW g), some (encQ P' Q'), some (.lst (rg.map encA)), some d, none] M') ∧
        ((d = .non ∧ Pot p g P' Q') ∨ ∃ rg', d = .lst (rg'.map encA) ∧ RingOk p g P' Q' rg') := by
  have hN := (netP_whole hp).len
  have hbd := bnd_lt hp
  obtain ⟨u, hu, hw⟩ := hr.walk
  obtain ⟨s1, s2, s3⟩ := sums_ok hw.tb
  have hpos := hr.pos
  rw [vl_sum] at hpos
  have hlen := hr.len
  have hB : 0 < sB rg := by
    rcases Int.lt_or_eq_of_le (Int.le_trans s1 s2) with q | q
    · exact q
    · have e1 : sB rg = 0 := q.symm
      have e2 : sT rg = 0 := by omega
      rw [e1, e2] at hpos
      simp at hpos
  obtain ⟨a, ha⟩ : ∃ a : Nat, sT rg = a := ⟨(sT rg).toNat, by omega⟩
  obtain ⟨b, hb⟩ : ∃ b : Nat, sB rg = b := ⟨(sB rg).toNat, by omega⟩
  have hb0 : 0 < b := by omega
  have hred := reduced_ok (a := a) (b := b) (M := M) hb0 (by omega)
  have hg : 0 < Nat.gcd a b := Nat.gcd_pos_of_pos_right _ hb0
  have da : a / Nat.gcd a b * Nat.gcd a b = a := Nat.div_mul_cancel (Nat.gcd_dvd_left a b)
  have db : b / Nat.gcd a b * Nat.gcd a b = b := Nat.div_mul_cancel (Nat.gcd_dvd_right a b)
  have hcop : Nat.gcd (a / Nat.gcd a b) (b / Nat.gcd a b) = 1 := by
    rw [Nat.gcd_div (Nat.gcd_dvd_left a b) (Nat.gcd_dvd_right a b)]
    exact Nat.div_self hg
  have hle : a / Nat.gcd a b ≤ b / Nat.gcd a b := Nat.div_le_div_right (by omega)
  have hbn : b / Nat.gcd a b ≤ b := Nat.div_le_self _ _
  generalize hA : a / Nat.gcd a b = P' at hred da hcop hle
  generalize hBq : b / Nat.gcd a b = Q' at hred db hcop hle hbn
  generalize Nat.gcd a b = dd at da db hg
  have hQ0 : 0 < Q' := by
    rcases Nat.eq_zero_or_pos Q' with q | q
    · rw [q] at db; simp at db; omega
    · exact q
  obtain ⟨M1, x1, hor⟩ := betterRing_ok (p := p) (g := g) (P := (P' : Int)) (Q := (Q' : Int)) (M := M) hp (by omega)
  have eT : (rg.map (·.t)).sum = (a : Int) := ha
  have eB : (rg.map (·.b)).sum = (b : Int) := hb
  have t0 : s_best_by_2_b_0 [some (netD p), some (gloW g), some (encQ P Q), x3, some (.lst (rg.map encA)), none] M = some (.nx [some (netD p), some (gloW g), some (encQ (P' : Int) (Q' : Int)), x3, some (.lst (rg.map encA)), none] M) := by
    have h1 := sum_lc (i := 0) (F := (·.t)) (δ := [some (netD p), some (gloW g), some (encQ P Q), x3, some (.lst (rg.map encA)), none]) (rg := rg) (M := M) (by omega) rfl (fun a M => rfl) rfl
    have h2 := sum_lc (i := 1) (F := (·.b)) (δ := [some (netD p), some (gloW g), some (encQ P Q), x3, some (.lst (rg.map encA)), none]) (rg := rg) (M := M) (by omega) rfl (fun a M => rfl) rfl
    rw [eT] at h1
    rw [eB] at h2
    rw [s_best_by_2_b_0, gAsg, gCallN, DL.gCons, h1, bindR_ok, DL.gCons, h2, bindR_ok, DL.gNil, bindR_ok, bindR_ok, bindR_ok]
    simp only [List.length_cons, List.length_nil, if_true]
    rw [hred]
    rfl
  have t1 : s_best_by_2_b_1 [some (netD p), some (gloW g), some (encQ (P' : Int) (Q' : Int)), x3, some (.lst (rg.map encA)), none] M = some (.nx [some (netD p), some (gloW g), some (encQ (P' : Int) (Q' : Int)), some (.lst (rg.map encA)), some (.lst (rg.map encA)), none] M) := by
    simp [s_best_by_2_b_1]
  refine ⟨P', Q', M1, by omega, x1, cntF_lt (a := a) (b := b) (d := dd) hQ (by omega) (by omega) (by omega) hb0 hg (by rw [← da]; simp) (by rw [← db]; simp) (by rw [← ha, ← hb]; omega), fun pot => ?_, ?_⟩
  · refine ⟨hr.walk, hr.ne, hr.len, hB, ?_, ⟨by omega, by omega, by omega, by omega⟩, by simpa using hcop, pot⟩
    rw [ha, hb, ← da, ← db]
    simp only [Int.natCast_mul]
    ac_rfl
  · have run : ∀ d, f_better_ring [netD p, gloW g, encQ (P' : Int) (Q' : Int)] M = okR d M1 → s_best_by_2_b [some (netD p), some (gloW g), some (encQ P Q), x3, some (.lst (rg.map encA)), none] M = some (.nx [some (netD p), some (gloW g), some (encQ (P' : Int) (Q' : Int)), some (.lst (rg.map encA)), some d, none] M1) := fun d e => by
      rw [s_best_by_2_b, seq_nx t0, seq_nx t1]
      simp [s_best_by_2_b_2, e]
    rcases hor with ⟨e, pot⟩ | ⟨rg', e, hr'⟩
    · exact ⟨.non, run _ e, .inl ⟨rfl, pot⟩⟩
    · exact ⟨_, run _ e, .inr ⟨rg', rfl, hr'⟩⟩
theorem bb_loop (hp : p.Ok) : ∀ {f : Nat} {P Q : Int} {rg : List AR} {x3 : Option D} {M : Sto}, 0 < Q → RingOk p g P Q rg → cntF (netP p).length P Q + 2 ≤ f →
    ∃ P' Q' rg' M', whileN (gTst (gUn notNF (gVar 4))) s_best_by_2_b f [some (netD p), some (gloW g), some (encQ P Q), x3, some (.lst (rg.map encA)), none] M = some (.nx [some (netD p), some (gloW g), some (encQ P' Q'), some (.lst (rg'.map encA)), some .non, none] M') ∧ Best p g P' Q' rg' ∧ Ext M M'
  | 0, P, Q, rg, x3, M, _, _, hf => by omega
  | f + 1, P, Q, rg, x3, M, hQ, hr, hf => by
    obtain ⟨P', Q', M1, hQ', x1, hlt, hbest, d, e, hor⟩ := bb_body (x3 := x3) (M := M) hp hQ hr
    have hc : gTst (gUn notNF (gVar 4)) [some (netD p), some (gloW g), some (encQ P Q), x3, some (.lst (rg.map encA)), none] M = okR true M := rfl
    simp only [whileN, hc, bindS_ok, if_true, e]
    rcases hor with ⟨rfl, pot⟩ | ⟨rg', rfl, hr'⟩
    · obtain ⟨f, rfl⟩ : ∃ k, f = k + 1 := ⟨f - 1, by omega⟩
      refine ⟨P', Q', rg, M1, ?_, hbest pot, x1⟩
      have hc2 : gTst (gUn notNF (gVar 4)) [some (netD p), some (gloW g), some (encQ P' Q'), some (.lst (rg.map encA)), some .non, none] M1 = okR false M1 := rfl
      simp only [whileN, hc2, bindS_ok]
      rfl
    · obtain ⟨P2, Q2, rg2, M2, e2, b2, x2⟩ := bb_loop hp (f := f) (x3 := some (.lst (rg.map encA))) (M := M1) hQ' hr' (by omega)
      exact ⟨P2, Q2, rg2, M2, e2, b2, x1.trans x2⟩
theorem bestBy_ok (hp : p.Ok) : ∃ P Q rg M', f_best_by [netD p, gloW g] M = okR (.tup [encQ P Q, .lst (rg.map encA)]) M' ∧ Best p g P Q rg ∧ Ext M M' := by
  obtain ⟨M1, x1, hor⟩ := betterRing_ok (p := p) (g := g) (P := -1) (Q := 1) (M := M) hp (by decide)
  rcases hor with ⟨_, pot⟩ | ⟨rg, e, hr⟩
  · exact absurd pot (no_pot hp)
  · obtain ⟨P, Q, rg', M2, e2, b2, x2⟩ := bb_loop (f := cntF (netP p).length (-1) 1 + 2) (x3 := some .non) (M := M1) hp (by decide) hr (Nat.le_refl _)
    refine ⟨P, Q, rg', M2, ?_, b2, x1.trans x2⟩
    have t0 : s_best_by_0 [some (netD p), some (gloW g), none, none, none, none] M = some (.nx [some (netD p), some (gloW g), some (encQ (-1) 1), some .non, none, none] M) := by
      simp [s_best_by_0, slE]
      rfl
    have t1 : s_best_by_1 [some (netD p), some (gloW g), some (encQ (-1) 1), some .non, none, none] M = some (.nx [some (netD p), some (gloW g), some (encQ (-1) 1), some .non, some (.lst (rg.map encA)), none] M1) := by
      simp [s_best_by_1, e]
    have t2 : s_best_by_2 [some (netD p), some (gloW g), some (encQ (-1) 1), some .non, some (.lst (rg.map encA)), none] M1 = some (.nx [some (netD p), some (gloW g), some (encQ P Q), some (.lst (rg'.map encA)), some .non, none] M2) := gWhile_eq e2
    show finS (g_best_by [some (netD p), some (gloW g), none, none, none, none] M) = _
    rw [s_best_by_eq, s_best_by, seq_nx t0, seq_nx t1, seq_nx t2]
    simp [s_best_by_3, slE]
end
end EB
/-! QH: shares and rings, as they are told -/
namespace EB
open PySem PySem.Spec L2 DL
variable [inst : Pw]
theorem pot_walk {p : Pn} {g : Bool} {P Q : Int} {h : Sd → Int} (hh : ∀ u ∈ stands p, ∀ c ∈ chs p u, h u + vlc p g P Q u c ≤ h (tickM p u c).1) {s u : Sd} {r : List AR} (w : Wlk p g s r u) : h s + (r.map (vl P Q)).sum ≤ h u := by
  induction w with
  | nil => simp
  | @cons v u a l e _ ih =>
    have h1 := hh a.s e.s a.c e.c
    rw [e.v] at h1
    have ev : vlc p g P Q a.s a.c = vl P Q a := by
      have := e.w
      unfold vlc vl
      rw [this]
    rw [ev] at h1
    rw [List.map_cons, List.sum_cons]
    omega
theorem pot_ring {p : Pn} {g : Bool} {P Q : Int} (pot : Pot p g P Q) {u : Sd} {r : List AR} (w : Wlk p g u r u) : sT r * Q ≤ sB r * P := by
  obtain ⟨h, hh⟩ := pot
  have := pot_walk hh w
  rw [vl_sum] at this
  omega
theorem best_le {p : Pn} {g : Bool} {P Q P' Q' : Int} {r r' : List AR} (h : Best p g P Q r) (h' : Best p g P' Q' r') : P' * Q ≤ P * Q' := by
  obtain ⟨u, _, w⟩ := h'.walk
  have h1 := pot_ring h.pot w
  have e := h'.eq
  have hb := h'.pos
  obtain ⟨_, _, q1, _⟩ := h.rg
  obtain ⟨_, _, q2, _⟩ := h'.rg
  have h2 : sT r' * Q * Q' ≤ sB r' * P * Q' := Int.mul_le_mul_of_nonneg_right h1 (by omega)
  have l1 : sT r' * Q * Q' = sB r' * (P' * Q) := by
    have : sT r' * Q * Q' = sT r' * Q' * Q := by ac_rfl
    rw [this, e]
    ac_rfl
  have l2 : sB r' * P * Q' = sB r' * (P * Q') := by ac_rfl
  rw [l1, l2] at h2
  exact Int.le_of_mul_le_mul_left h2 hb
theorem best_uniq {p : Pn} {g : Bool} {P Q P' Q' : Int} {r r' : List AR} (h : Best p g P Q r) (h' : Best p g P' Q' r') : P = P' ∧ Q = Q' := by
  have h1 := best_le h h'
  have h2 := best_le h' h
  obtain ⟨a0, a1, a2, _⟩ := h.rg
  obtain ⟨b0, b1, b2, _⟩ := h'.rg
  have c1 := h.cop
  have c2 := h'.cop
  obtain ⟨m, rfl⟩ : ∃ m : Nat, P = m := ⟨P.toNat, by omega⟩
  obtain ⟨n, rfl⟩ : ∃ m : Nat, Q = m := ⟨Q.toNat, by omega⟩
  obtain ⟨m', rfl⟩ : ∃ m : Nat, P' = m := ⟨P'.toNat, by omega⟩
  obtain ⟨n', rfl⟩ : ∃ m : Nat, Q' = m := ⟨Q'.toNat, by omega⟩
  simp only [Int.toNat_natCast] at c1 c2
  have e : m * n' = m' * n := by
    have : (m : Int) * n' = m' * n := by omega
    exact_mod_cast this
  have d1 : n ∣ n' := by
    have : n ∣ m * n' := ⟨m', by rw [e, Nat.mul_comm]⟩
    exact Nat.Coprime.dvd_of_dvd_mul_left (show Nat.Coprime n m by unfold Nat.Coprime; rw [Nat.gcd_comm]; exact c1) this
  have d2 : n' ∣ n := by
    have : n' ∣ m' * n := ⟨m, by rw [← e, Nat.mul_comm]⟩
    exact Nat.Coprime.dvd_of_dvd_mul_left (show Nat.Coprime n' m' by unfold Nat.Coprime; rw [Nat.gcd_comm]; exact c2) this
  have en : n = n' := Nat.dvd_antisymm d1 d2
  subst en
  have em : m = m' := Nat.eq_of_mul_eq_mul_right (by omega) e
  subst em
  exact ⟨rfl, rfl⟩
theorem Wlk.head {p : Pn} {g : Bool} {u v : Sd} {a : AR} {l : List AR} (w : Wlk p g u (a :: l) v) : a.s = u := by
  generalize hr : a :: l = r at w
  cases w with
  | nil => cases hr
  | cons _ _ => cases hr; rfl
def seenD (run : List Ch) (rg : List AR) : D := .tup [encR run, .tup (rg.map fun a => encC a.c)]
theorem shown_ok {p : Pn} {g : Bool} {P Q : Int} {rg : List AR} {M : Sto} (hp : p.Ok) (b : Best p g P Q rg) : ∃ r u, r ∈ netP p ∧ r.s = u ∧ Wlk p g u rg u ∧ f_shown [netD p, .lst (rg.map encA)] M = okR (seenD r.run rg) M := by
  have hN := (netP_whole hp).len
  have hbd := bnd_lt hp
  have hlen := b.len
  obtain ⟨u, hu, w⟩ := b.walk
  obtain ⟨r, hr, rfl⟩ := List.mem_map.mp hu
  refine ⟨r, r.s, hr, rfl, w, ?_⟩
  obtain ⟨a, l, rfl⟩ := List.exists_cons_of_ne_nil b.ne
  have has : a.s = r.s := w.head
  have h0 : ∀ M, subIx (.lst ((a :: l).map encA)) (.int 0) M = okR (encA a) M := fun M => by rw [lst_ix]; simp [atI, L2.ixN]
  have h00 : ∀ M, subIx (encA a) (.int 0) M = okR (encS r.s) M := fun M => by rw [← has]; rfl
  have hsub : ∀ M, subIxD (netD p) (encS r.s) M = okR (.tup [encR r.run, .lst (r.ticks.map encK)]) M := fun M => by
    simp only [subIxD, net_kv, keyN_S, lk_net hp hr]
    rfl
  have ix0 : ∀ M, subIx (.tup [encR r.run, .lst (r.ticks.map encK)]) (.int 0) M = okR (encR r.run) M := fun M => rfl
  have hlc := lcL_pure (T := .one 2) (tt := gYes) (te := gOp subIx (gVar 2) (gC (.int 1))) (δ := wipeD [some (netD p), some (.lst ((a :: l).map encA)), none] [2]) (fun d => match subIx d (.int 1) [] with | some (.ok v _) => some v | _ => none) (ds := (a :: l).map encA) (acc := []) (M := M) (fun d hd => by
    obtain ⟨x, _, rfl⟩ := List.mem_map.mp hd
    exact ⟨_, rfl, rfl, rfl⟩) (by rw [slE]; simp at hlen ⊢; omega)
  have ef : ∀ rg : List AR, ((rg.map encA).filterMap fun d => match subIx d (.int 1) [] with | some (.ok v _) => some v | _ => none) = rg.map fun a => encC a.c := by
    intro rg
    induction rg with
    | nil => rfl
    | cons a r ih =>
      rw [List.map_cons, List.filterMap_cons, show subIx (encA a) (.int 1) [] = okR (encC a.c) [] from rfl]
      simp only [okR]
      rw [ih]
      rfl
  rw [ef, List.nil_append] at hlc
  have hi : gItL (gVar 1) [some (netD p), some (.lst ((a :: l).map encA)), none] M = okR ((a :: l).map encA) M := rfl
  have hv0 : ∀ M, gVar 0 [some (netD p), some (.lst ((a :: l).map encA)), none] M = okR (netD p) M := fun M => rfl
  have hv1 : ∀ M, gVar 1 [some (netD p), some (.lst ((a :: l).map encA)), none] M = okR (.lst ((a :: l).map encA)) M := fun M => rfl
  have e1 : gOp subIx (gOp subIxD (gVar 0) (gOp subIx (gOp subIx (gVar 1) (gC (.int 0))) (gC (.int 0)))) (gC (.int 0)) [some (netD p), some (.lst ((a :: l).map encA)), none] M = okR (encR r.run) M := by
    simp only [gOp, gC, hv0, hv1, bindR_ok, h0, h00, hsub, ix0]
  have htp : ∀ (l : List D) M, tupleF [.lst l] M = okR (.tup l) M := fun l M => rfl
  have e2 : gCall tupleF (DL.gCons (gLc (gItL (gVar 1)) (.one 2) gYes (gOp subIx (gVar 2) (gC (.int 1))) [2]) DL.gNil) [some (netD p), some (.lst ((a :: l).map encA)), none] M = okR (.tup ((a :: l).map fun a => encC a.c)) M := by
    rw [gCall, DL.gCons, gLc, hi, bindR_ok, hlc, bindR_ok, DL.gNil, bindR_ok, bindR_ok, htp]
  show finS (g_shown [some (netD p), some (.lst ((a :: l).map encA)), none] M) = _
  rw [g_shown, gRet, DL.gTup, DL.gCons, e1, bindR_ok, DL.gCons, e2, bindR_ok, DL.gNil, bindR_ok, bindR_ok, bindR_ok]
  simp [slE, seenD]
/-- what a ring that is told must be -/
structure Told (p : Pn) (g : Bool) (P Q : Int) (run : List Ch) (rg : List AR) : Prop where
  best : Best p g P Q rg
  way : ∃ u, follow p (beginS p) run = some u ∧ Wlk p g u rg u
  len : run.length ≤ bnd p
theorem told_of {p : Pn} {g : Bool} {P Q : Int} {rg : List AR} {M : Sto} (hp : p.Ok) (b : Best p g P Q rg) : ∃ run, Told p g P Q run rg ∧ f_shown [netD p, .lst (rg.map encA)] M = okR (seenD run rg) M := by
  obtain ⟨r, u, hr, hs, w, e⟩ := shown_ok (M := M) hp b
  have hw := netP_whole hp
  exact ⟨r.run, ⟨b, ⟨u, by rw [hw.fo r hr, hs], w⟩, hw.rl r hr⟩, e⟩
section
variable {p : Pn} {M : Sto}
theorem goodShare_ok (hp : p.Ok) : ∃ P Q rg M', f_good_share [encP p] M = okR (encQ P Q) M' ∧ Best p true P Q rg ∧ Ext M M' := by
  obtain ⟨M1, en, xn⟩ := netOf_ok (M := M) hp
  obtain ⟨P, Q, rg, M2, eb, b, xb⟩ := bestBy_ok (g := true) (M := M1) hp
  refine ⟨P, Q, rg, M2, ?_, b, xn.trans xb⟩
  have eb' : f_best_by [netD p, .glo "good_worth"] M1 = okR (.tup [encQ P Q, .lst (rg.map encA)]) M2 := eb
  have h0 : ∀ M, subIx (.tup [encQ P Q, .lst (rg.map encA)]) (.int 0) M = okR (encQ P Q) M := fun M => rfl
  simp [f_good_share, g_good_share, runD, lookPlan_ok hp, en, eb', h0]
theorem badShare_ok (hp : p.Ok) : ∃ P Q rg M', f_bad_share [encP p] M = okR (encQ P Q) M' ∧ Best p false P Q rg ∧ Ext M M' := by
  obtain ⟨M1, en, xn⟩ := netOf_ok (M := M) hp
  obtain ⟨P, Q, rg, M2, eb, b, xb⟩ := bestBy_ok (g := false) (M := M1) hp
  refine ⟨P, Q, rg, M2, ?_, b, xn.trans xb⟩
  have eb' : f_best_by [netD p, .glo "bad_worth"] M1 = okR (.tup [encQ P Q, .lst (rg.map encA)]) M2 := eb
  have h0 : ∀ M, subIx (.tup [encQ P Q, .lst (rg.map encA)]) (.int 0) M = okR (encQ P Q) M := fun M => rfl
  simp [f_bad_share, g_bad_share, runD, lookPlan_ok hp, en, eb', h0]
theorem goodRing_ok (hp : p.Ok) : ∃ P Q run rg M', f_good_ring [encP p] M = okR (seenD run rg) M' ∧ Told p true P Q run rg ∧ Ext M M' := by
  obtain ⟨M1, en, xn⟩ := netOf_ok (M := M) hp
  obtain ⟨P, Q, rg, M2, eb, b, xb⟩ := bestBy_ok (g := true) (M := M1) hp
  obtain ⟨run, t, e⟩ := told_of (M := M2) hp b
  refine ⟨P, Q, run, rg, M2, ?_, t, xn.trans xb⟩
  have eb' : f_best_by [netD p, .glo "good_worth"] M1 = okR (.tup [encQ P Q, .lst (rg.map encA)]) M2 := eb
  have h1 : ∀ M, subIx (.tup [encQ P Q, .lst (rg.map encA)]) (.int 1) M = okR (.lst (rg.map encA)) M := fun M => rfl
  simp [f_good_ring, g_good_ring, runD, lookPlan_ok hp, en, eb', h1, e]
theorem badRing_ok (hp : p.Ok) : ∃ P Q run rg M', f_bad_ring [encP p] M = okR (seenD run rg) M' ∧ Told p false P Q run rg ∧ Ext M M' := by
  obtain ⟨M1, en, xn⟩ := netOf_ok (M := M) hp
  obtain ⟨P, Q, rg, M2, eb, b, xb⟩ := bestBy_ok (g := false) (M := M1) hp
  obtain ⟨run, t, e⟩ := told_of (M := M2) hp b
  refine ⟨P, Q, run, rg, M2, ?_, t, xn.trans xb⟩
  have eb' : f_best_by [netD p, .glo "bad_worth"] M1 = okR (.tup [encQ P Q, .lst (rg.map encA)]) M2 := eb
  have h1 : ∀ M, subIx (.tup [encQ P Q, .lst (rg.map encA)]) (.int 1) M = okR (.lst (rg.map encA)) M := fun M => rfl
  simp [f_bad_ring, g_bad_ring, runD, lookPlan_ok hp, en, eb', h1, e]
end
end EB
/-! QI: the law's worth, rings, shares -/
namespace EB
open PySem PySem.Spec L2 DL
variable [inst : Pw]
noncomputable def s__law_worth_0  : GS := (gAsg (gCall toIntF (DL.gCons (gOp neF (gLc (gItL (gVar 0)) (.one 4) (gTst (gOp inF (gVar 4) (gLst (DL.gCons (gC (.str "empty")) (DL.gCons (gC (.str "half")) (DL.gCons (gC (.str "over")) DL.gNil)))))) (gVar 4) [4]) (gLst DL.gNil)) DL.gNil)) (DL.gName 2))
noncomputable def s__law_worth_1  : GS := (gAsg (gCall toIntF (DL.gCons (gOp inF (gC (.str "good")) (gVar 0)) DL.gNil)) (DL.gName 3))
noncomputable def s__law_worth_2  : GS := (gRet (gIf (gTst (gOp eqF (gVar 1) (gC (.str "good")))) (DL.gTup (DL.gCons (gVar 3) (DL.gCons (gC (.int 1)) DL.gNil))) (DL.gTup (DL.gCons (gVar 2) (DL.gCons (gOp addF (gVar 2) (gVar 3)) DL.gNil)))))
noncomputable def s__law_worth  : GS := (gSeq s__law_worth_0 (gSeq s__law_worth_1 s__law_worth_2))
theorem s__law_worth_eq  : g__law_worth = s__law_worth := rfl
noncomputable def s__law_ring_right_0  : GS := (gIfS (gTOr (gTNot (gTst (gUn (isiF "tuple") (gVar 1)))) (gTOr (gTst (gOp neF (gCall lenF (DL.gCons (gVar 1) DL.gNil)) (gC (.int 2)))) (gTNot (gTst (gUn (isiF "tuple") (gOp subIx (gVar 1) (gC (.int 1)))))))) (gRet (gC (.bl false))) gNext)
noncomputable def s__law_ring_right_1  : GS := (gPar3 4 5 6 (DL.gCons (gCallN 1 f__law_begin (DL.gCons (gVar 0) DL.gNil)) (DL.gCons (gC (.int 0)) (DL.gCons (gC (.int 0)) DL.gNil))))
noncomputable def s__law_ring_right_2_b_0  : GS := (gIfS (gTst (gOp notInF (gVar 7) (gCallN 2 f__law_choices (DL.gCons (gVar 0) (DL.gCons (gVar 4) DL.gNil))))) (gRet (gC (.bl false))) gNext)
noncomputable def s__law_ring_right_2_b_1  : GS := (gAsg (gOp subIx (gCallN 3 f__law_tick (DL.gCons (gVar 0) (DL.gCons (gVar 4) (DL.gCons (gVar 7) DL.gNil)))) (gC (.int 0))) (DL.gName 4))
noncomputable def s__law_ring_right_2_b  : GS := (gSeq s__law_ring_right_2_b_0 s__law_ring_right_2_b_1)
noncomputable def s__law_ring_right_2  : GS := (gFor (gItT (gOp subIx (gVar 1) (gC (.int 0)))) (DL.gName 7) s__law_ring_right_2_b)
noncomputable def s__law_ring_right_3  : GS := (gAsg (gVar 4) (DL.gName 8))
noncomputable def s__law_ring_right_4_b_0  : GS := (gIfS (gTst (gOp notInF (gVar 7) (gCallN 2 f__law_choices (DL.gCons (gVar 0) (DL.gCons (gVar 4) DL.gNil))))) (gRet (gC (.bl false))) gNext)
noncomputable def s__law_ring_right_4_b_1  : GS := (gAsg (gCallN 3 f__law_tick (DL.gCons (gVar 0) (DL.gCons (gVar 4) (DL.gCons (gVar 7) DL.gNil)))) (gTupT 2 (gsCons (DL.gName 4) (gsCons (DL.gName 9) gsNil))))
noncomputable def s__law_ring_right_4_b_2  : GS := (gAsg (gCallN 2 f__law_worth (DL.gCons (gVar 9) (DL.gCons (gVar 2) DL.gNil))) (DL.gName 10))
noncomputable def s__law_ring_right_4_b_3  : GS := (gPar 5 6 (DL.gCons (gOp addF (gVar 5) (gOp subIx (gVar 10) (gC (.int 0)))) (DL.gCons (gOp addF (gVar 6) (gOp subIx (gVar 10) (gC (.int 1)))) DL.gNil)))
noncomputable def s__law_ring_right_4_b  : GS := (gSeq s__law_ring_right_4_b_0 (gSeq s__law_ring_right_4_b_1 (gSeq s__law_ring_right_4_b_2 s__law_ring_right_4_b_3)))
noncomputable def s__law_ring_right_4  : GS := (gFor (gItT (gOp subIx (gVar 1) (gC (.int 1)))) (DL.gName 7) s__law_ring_right_4_b)
noncomputable def s__law_ring_right_5  : GS := (gRet (gAnd (gOp eqF (gVar 4) (gVar 8)) (gAnd (gOp gtF (gVar 6) (gC (.int 0))) (gOp eqF (gOp mulF (gVar 5) (gOp subIx (gVar 3) (gC (.int 1)))) (gOp mulF (gVar 6) (gOp subIx (gVar 3) (gC (.int 0))))))))
noncomputable def s__law_ring_right  : GS := (gSeq s__law_ring_right_0 (gSeq s__law_ring_right_1 (gSeq s__law_ring_right_2 (gSeq s__law_ring_right_3 (gSeq s__law_ring_right_4 s__law_ring_right_5)))))
theorem s__law_ring_right_eq  : g__law_ring_right = s__law_ring_right := rfl
noncomputable def s__law_is_share_0  : GS := (gIfS (gTOr (gTNot (gTst (gUn (isiF "tuple") (gVar 0)))) (gTOr (gTst (gOp neF (gCall lenF (DL.gCons (gVar 0) DL.gNil)) (gC (.int 2)))) (gTNot (gTst (gChain leF leF (gC (.int 0)) (gOp subIx (gVar 0) (gC (.int 0))) (gOp subIx (gVar 0) (gC (.int 1)))))))) (gRet (gC (.bl false))) gNext)
noncomputable def s__law_is_share_1  : GS := (gAsg (gLc (gRng2 (DL.gCons (gC (.int 2)) (DL.gCons (gOp addF (gOp subIx (gVar 0) (gC (.int 1))) (gC (.int 1))) DL.gNil))) (.one 2) (gTAnd (gTst (gOp eqF (gOp modF (gOp subIx (gVar 0) (gC (.int 0))) (gVar 2)) (gC (.int 0)))) (gTst (gOp eqF (gOp modF (gOp subIx (gVar 0) (gC (.int 1))) (gVar 2)) (gC (.int 0))))) (gVar 2) [2]) (DL.gName 1))
noncomputable def s__law_is_share_2  : GS := (gRet (gAnd (gOp gtF (gOp subIx (gVar 0) (gC (.int 1))) (gC (.int 0))) (gOp eqF (gVar 1) (gLst DL.gNil))))
noncomputable def s__law_is_share  : GS := (gSeq s__law_is_share_0 (gSeq s__law_is_share_1 s__law_is_share_2))
theorem s__law_is_share_eq  : g__law_is_share = s__law_is_share := rfl
def wyD (g : Bool) : D := .str (if g then "good" else "bad")
theorem tick_nb {p : Pn} {s : Sd} {c : Ch} : (isb (tickM p s c).2 && isg (tickM p s c).2) = false := by
  have ho : ∀ x : Int, (isb (outW p x) && isg (outW p x)) = false ∧ (isb (sortS (outW p x ++ [("spills" : Str)])) && isg (sortS (outW p x ++ [("spills" : Str)]))) = false := by
    intro x
    unfold outW
    repeat' split
    all_goals decide +kernel
  have hs : (isb (sortS (([] : List Str) ++ [("spills" : Str)])) && isg (sortS (([] : List Str) ++ [("spills" : Str)]))) = false := by decide +kernel
  have hn : (isb ([] : List Str) && isg []) = false := by decide +kernel
  unfold tickM
  simp only
  repeat' split
  all_goals first
    | exact (ho _).1
    | exact (ho _).2
    | exact hs
    | exact hn
theorem nil_eq {ws : List Str} {M : Sto} (h : ∀ x ∈ ws, PySem.PyData.strOk x = true) (hl : ws.length ≤ 10) : neF (encW ws) (.lst []) M = okR (.bl (!decide (ws = []))) M := by
  have hk := (encW_nc (n := 0) (B := 10) hl h).okk (by decide)
  have e2 : eqR (encW ws) (.lst []) M = some (decide (ws = [])) := by
    unfold eqR
    have e3 : D.scal (encW ws) (.lst []) = none := rfl
    have e4 : (encW ws).now M = encW ws := rfl
    have e5 : (D.lst []).now M = .lst [] := rfl
    have e6 : (D.lst []).okk = true := rfl
    rw [e3]
    simp only [e4, e5, e6, hk, Bool.and_self, if_true]
    cases ws <;> simp [encW, D.eqv, D.eqvL]
  unfold neF
  rw [e2]
theorem lawWorth_ok {g : Bool} {ws : List Str} {M : Sto} (h : ∀ x ∈ ws, PySem.PyData.strOk x = true) (hl : ws.length ≤ 10) (hb : (isb ws && isg ws) = false) : f__law_worth [encW ws, wyD g] M = okR (.tup [.int (woI g ws).1, .int (woI g ws).2]) M := by
  have hlc := lc_filter (δ := wipeD [some (encW ws), some (wyD g), none, none, none] [4]) (i := 4) (tt := gTst (gOp inF (gVar 4) (gLst (DL.gCons (gC (.str "empty")) (DL.gCons (gC (.str "half")) (DL.gCons (gC (.str "over")) DL.gNil)))))) (te := gVar 4) (M := M) (ws := ws) (fun w => decide (w ∈ BADW)) (by omega) (fun w _ => by
    have hv : gVar 4 ((wipeD [some (encW ws), some (wyD g), none, none, none] [4]).set 4 (some (.str w))) M = okR (.str w) M := rfl
    have hL : gLst (DL.gCons (gC (.str "empty")) (DL.gCons (gC (.str "half")) (DL.gCons (gC (.str "over")) DL.gNil))) ((wipeD [some (encW ws), some (wyD g), none, none, none] [4]).set 4 (some (.str w))) M = okR (encW BADW) M := by
      simp [slE]
      rfl
    simp only [gTst, gOp, hv, bindR_ok, hL, inW_ok]) (fun w _ => rfl)
  have hf : ws.filter (fun w => decide (w ∈ BADW)) = [] ↔ isb ws = false := by
    rw [List.filter_eq_nil_iff]
    unfold isb
    rw [List.any_eq_false]
  have hne := nil_eq (ws := ws.filter (fun w => decide (w ∈ BADW))) (M := M) (fun x hx => h x (List.mem_filter.mp hx).1) (Nat.le_trans (List.length_filter_le _ _) hl)
  have hbb : (!decide (ws.filter (fun w => decide (w ∈ BADW)) = [])) = isb ws := by
    cases q : isb ws with
    | false => simp [hf.mpr q]
    | true =>
      have : ¬ ws.filter (fun w => decide (w ∈ BADW)) = [] := fun z => by rw [hf.mp z] at q; cases q
      simp [this]
  rw [hbb] at hne
  have hi : gItL (gVar 0) [some (encW ws), some (wyD g), none, none, none] M = okR (ws.map D.str) M := rfl
  have ti : ∀ (b : Bool) M, toIntF [.bl b] M = okR (.int (b1 b)) M := fun b M => by simp [toIntF, b1]
  have hnil : ∀ δ M, gLst DL.gNil δ M = okR (.lst []) M := fun δ M => by simp [slE]
  have t0 : s__law_worth_0 [some (encW ws), some (wyD g), none, none, none] M = some (.nx [some (encW ws), some (wyD g), some (.int (b1 (isb ws))), none, none] M) := by
    rw [s__law_worth_0, gAsg, gCall, DL.gCons, gOp, gLc, hi, bindR_ok, hlc, bindR_ok, hnil, bindR_ok, hne, bindR_ok, DL.gNil, bindR_ok, bindR_ok, ti]
    rfl
  have hg : gCall toIntF (DL.gCons (gOp inF (gC (.str "good")) (gVar 0)) DL.gNil) [some (encW ws), some (wyD g), some (.int (b1 (isb ws))), none, none] M = okR (.int (b1 (isg ws))) M := by
    have hv : gVar 0 [some (encW ws), some (wyD g), some (.int (b1 (isb ws))), none, none] M = okR (encW ws) M := rfl
    simp only [gCall, DL.gCons, DL.gNil, gOp, gC, hv, bindR_ok, inW_ok, ti]
    rfl
  have t1 : s__law_worth_1 [some (encW ws), some (wyD g), some (.int (b1 (isb ws))), none, none] M = some (.nx [some (encW ws), some (wyD g), some (.int (b1 (isb ws))), some (.int (b1 (isg ws))), none] M) := by
    rw [s__law_worth_1, gAsg, hg]
    rfl
  show finS (g__law_worth [some (encW ws), some (wyD g), none, none, none] M) = _
  rw [s__law_worth_eq, s__law_worth, seq_nx t0, seq_nx t1]
  have hq : ∀ M, eqF (wyD g) (.str "good") M = okR (.bl g) M := fun M => by
    have : eqR (wyD g) (.str "good") M = some g := by
      unfold eqR wyD
      have e : D.scal (.str (if g = true then "good" else "bad")) (.str "good") = some (decide ((if g = true then "good" else "bad" : Str) = "good")) := rfl
      have ed : decide ((if g = true then "good" else "bad" : Str) = "good") = g := by cases g <;> decide +kernel
      rw [e, ed]
    unfold eqF
    rw [this]
  cases g
  · have hsum : b1 (isb ws) + b1 (isg ws) = b1 (isb ws || isg ws) := by
      cases q1 : isb ws <;> cases q2 : isg ws <;> simp [b1] <;> simp [q1, q2] at hb
    simp [s__law_worth_2, hq, slE, woI, hsum]
  · simp [s__law_worth_2, hq, slE, woI]
theorem inC_ok {c : Ch} {p : Pn} {s : Sd} {M : Sto} (hc : c ∈ chs p s) : notInF (encC c) (.lst ((chs p s).map encC)) M = okR (.bl false) M := by
  have hk1 : (encC c).okk = true := (encC_nc (B := 10) (by decide) c).okk (by decide)
  have hk2 : (D.lst ((chs p s).map encC)).okk = true := (chs_nc (B := 10) (p := p) (s := s) (by decide)).okk (by decide)
  have ha : ((chs p s).map encC).any (fun z => D.eqv z (encC c)) = true := by
    rw [List.any_eq_true]
    exact ⟨encC c, List.mem_map.mpr ⟨c, hc, rfl⟩, by rw [eqv_encC]; simp⟩
  have ei : inR (encC c) (.lst ((chs p s).map encC)) M = some true := by
    unfold inR
    have h1 : (D.lst ((chs p s).map encC)).itsV M = some ((chs p s).map encC) := rfl
    have h2 : (encC c).isScal = false := rfl
    rw [h1]
    simp only [h2, Bool.false_and, Bool.false_eq_true, if_false, hk1, hk2, Bool.and_self, if_true, ha]
  unfold notInF
  rw [ei]
  rfl
theorem nc_eqv {B n : Nat} {d : D} (h : Nc B n d) : D.eqv d d = true := by
  have all : ∀ l : List D, (∀ x ∈ l, D.eqv x x = true) → D.eqvL l l = true := by
    intro l
    induction l with
    | nil => intro _; rfl
    | cons a l ih => intro h; simp [D.eqvL, h a List.mem_cons_self, ih fun x hx => h x (List.mem_cons_of_mem _ hx)]
  induction h with
  | non => rfl
  | bl b => simp [D.eqv]
  | int i => simp [D.eqv]
  | str x _ => simp [D.eqv]
  | tup _ _ ih => exact all _ ih
  | lst _ _ ih => exact all _ ih
theorem eq_stand {p : Pn} {s : Sd} {M : Sto} (hp : p.Ok) (hs : s.Ok p) : eqF (encS s) (encS s) M = okR (.bl true) M := by
  have hn := stand_nc hp hs
  have hk := hn.okk (by decide)
  have : eqR (encS s) (encS s) M = some true := by
    unfold eqR
    have e : D.scal (encS s) (encS s) = none := rfl
    have en : (encS s).now M = encS s := rfl
    rw [e]
    simp only [en, hk, Bool.and_self, if_true, nc_eqv hn]
  unfold eqF
  rw [this]
section
variable {p : Pn} {g : Bool} {M : Sto}
theorem rr_run (hp : p.Ok) {x1 x2 x3 x5 x6 x8 x9 x10 : Option D} : ∀ {cs : List Ch} {s u : Sd} {x7 : Option D} {M : Sto}, s.Ok p → follow p s cs = some u →
    ∃ z7 M', forL (DL.gName 7) s__law_ring_right_2_b (cs.map encC) [some (encP p), x1, x2, x3, some (encS s), x5, x6, x7, x8, x9, x10] M = some (.nx [some (encP p), x1, x2, x3, some (encS u), x5, x6, z7, x8, x9, x10] M') ∧ Ext M M'
  | [], s, u, x7, M, _, h => by
    cases h
    exact ⟨x7, M, rfl, Ext.refl⟩
  | c :: cs, s, u, x7, M, hs, h => by
    simp only [follow] at h
    split at h
    · rename_i hc
      obtain ⟨G, e1⟩ := lawTick_ok (M := M) hp hs (chs_le hc).1 (chs_le hc).2
      obtain ⟨z7, M', e2, x2'⟩ := rr_run hp (x1 := x1) (x2 := x2) (x3 := x3) (x5 := x5) (x6 := x6) (x8 := x8) (x9 := x9) (x10 := x10) (x7 := some (encC c)) (M := M ++ G) (tick_ok hp hs hc) h
      refine ⟨z7, M', ?_, Ext.app.trans x2'⟩
      have t0 : s__law_ring_right_2_b_0 [some (encP p), x1, x2, x3, some (encS s), x5, x6, some (encC c), x8, x9, x10] M = some (.nx [some (encP p), x1, x2, x3, some (encS s), x5, x6, some (encC c), x8, x9, x10] M) := by
        simp [s__law_ring_right_2_b_0, lawChoices_ok, inC_ok hc]
      have t1 : s__law_ring_right_2_b_1 [some (encP p), x1, x2, x3, some (encS s), x5, x6, some (encC c), x8, x9, x10] M = some (.nx [some (encP p), x1, x2, x3, some (encS (tickM p s c).1), x5, x6, some (encC c), x8, x9, x10] (M ++ G)) := by
        have h0 : ∀ M, subIx (.tup [encS (tickM p s c).1, encW (tickM p s c).2]) (.int 0) M = okR (encS (tickM p s c).1) M := fun M => rfl
        simp [s__law_ring_right_2_b_1, e1, h0]
      have e0 : DL.gName 7 (encC c) [some (encP p), x1, x2, x3, some (encS s), x5, x6, x7, x8, x9, x10] M = okR [some (encP p), x1, x2, x3, some (encS s), x5, x6, some (encC c), x8, x9, x10] M := rfl
      have eb : s__law_ring_right_2_b [some (encP p), x1, x2, x3, some (encS s), x5, x6, some (encC c), x8, x9, x10] M = some (.nx [some (encP p), x1, x2, x3, some (encS (tickM p s c).1), x5, x6, some (encC c), x8, x9, x10] (M ++ G)) := by
        rw [s__law_ring_right_2_b, seq_nx t0, t1]
      simp only [List.map_cons, forL, e0, bindS_ok, eb]
      exact e2
    · cases h
theorem rr_ring (hp : p.Ok) {x1 x3 x8 : Option D} : ∀ {l : List AR} {s u : Sd} {T B : Int} {x7 x9 x10 : Option D} {M : Sto}, s.Ok p → Wlk p g s l u →
    ∃ z7 z9 z10 M', forL (DL.gName 7) s__law_ring_right_4_b (l.map fun a => encC a.c) [some (encP p), x1, some (wyD g), x3, some (encS s), some (.int T), some (.int B), x7, x8, x9, x10] M = some (.nx [some (encP p), x1, some (wyD g), x3, some (encS u), some (.int (T + sT l)), some (.int (B + sB l)), z7, x8, z9, z10] M') ∧ Ext M M'
  | [], s, u, T, B, x7, x9, x10, M, _, h => by
    cases h
    exact ⟨x7, x9, x10, M, by simp [forL, sT, sB], Ext.refl⟩
  | a :: l, s, u, T, B, x7, x9, x10, M, hs, h => by
    have has := h.head
    subst has
    obtain ⟨v, eo, w⟩ : ∃ v, EdgeOk p g v a ∧ Wlk p g v l u := by
      generalize hr : a :: l = r at h
      generalize hs' : a.s = s' at h
      cases h with
      | nil => cases hr
      | cons e w => cases hr; exact ⟨_, e, w⟩
    have hc := eo.c
    obtain ⟨G, e1⟩ := lawTick_ok (M := M) hp hs (chs_le hc).1 (chs_le hc).2
    have ew := lawWorth_ok (g := g) (ws := (tickM p a.s a.c).2) (M := M ++ G) tickW_ok.2 (by have := (tickW_ok (p := p) (s := a.s) (c := a.c)).1; omega) tick_nb
    rw [eo.w] at ew
    rw [eo.v] at e1
    generalize (tickM p a.s a.c).2 = ws at e1 ew
    obtain ⟨z7, z9, z10, M', e2, x2'⟩ := rr_ring hp (x1 := x1) (x3 := x3) (x8 := x8) (T := T + a.t) (B := B + a.b) (x7 := some (encC a.c)) (x9 := some (encW ws)) (x10 := some (.tup [.int a.t, .int a.b])) (M := M ++ G) (by rw [← eo.v]; exact tick_ok hp hs hc) w
    refine ⟨z7, z9, z10, M', ?_, Ext.app.trans x2'⟩
    have t0 : s__law_ring_right_4_b_0 [some (encP p), x1, some (wyD g), x3, some (encS a.s), some (.int T), some (.int B), some (encC a.c), x8, x9, x10] M = some (.nx [some (encP p), x1, some (wyD g), x3, some (encS a.s), some (.int T), some (.int B), some (encC a.c), x8, x9, x10] M) := by
      simp [s__law_ring_right_4_b_0, lawChoices_ok, inC_ok hc]
    have t1 : s__law_ring_right_4_b_1 [some (encP p), x1, some (wyD g), x3, some (encS a.s), some (.int T), some (.int B), some (encC a.c), x8, x9, x10] M = some (.nx [some (encP p), x1, some (wyD g), x3, some (encS v), some (.int T), some (.int B), some (encC a.c), x8, some (encW ws), x10] (M ++ G)) := by
      simp [s__law_ring_right_4_b_1, e1]
    have t2 : s__law_ring_right_4_b_2 [some (encP p), x1, some (wyD g), x3, some (encS v), some (.int T), some (.int B), some (encC a.c), x8, some (encW ws), x10] (M ++ G) = some (.nx [some (encP p), x1, some (wyD g), x3, some (encS v), some (.int T), some (.int B), some (encC a.c), x8, some (encW ws), some (.tup [.int a.t, .int a.b])] (M ++ G)) := by
      simp [s__law_ring_right_4_b_2, ew]
    have t3 : s__law_ring_right_4_b_3 [some (encP p), x1, some (wyD g), x3, some (encS v), some (.int T), some (.int B), some (encC a.c), x8, some (encW ws), some (.tup [.int a.t, .int a.b])] (M ++ G) = some (.nx [some (encP p), x1, some (wyD g), x3, some (encS v), some (.int (T + a.t)), some (.int (B + a.b)), some (encC a.c), x8, some (encW ws), some (.tup [.int a.t, .int a.b])] (M ++ G)) := by
      have h0 : ∀ M, subIx (.tup [.int a.t, .int a.b]) (.int 0) M = okR (.int a.t) M := fun M => rfl
      have h1 : ∀ M, subIx (.tup [.int a.t, .int a.b]) (.int 1) M = okR (.int a.b) M := fun M => rfl
      simp [s__law_ring_right_4_b_3, h0, h1]
    have e0 : DL.gName 7 (encC a.c) [some (encP p), x1, some (wyD g), x3, some (encS a.s), some (.int T), some (.int B), x7, x8, x9, x10] M = okR [some (encP p), x1, some (wyD g), x3, some (encS a.s), some (.int T), some (.int B), some (encC a.c), x8, x9, x10] M := rfl
    have eb : s__law_ring_right_4_b [some (encP p), x1, some (wyD g), x3, some (encS a.s), some (.int T), some (.int B), some (encC a.c), x8, x9, x10] M = some (.nx [some (encP p), x1, some (wyD g), x3, some (encS v), some (.int (T + a.t)), some (.int (B + a.b)), some (encC a.c), x8, some (encW ws), some (.tup [.int a.t, .int a.b])] (M ++ G)) := by
      rw [s__law_ring_right_4_b, seq_nx t0, seq_nx t1, seq_nx t2, t3]
    simp only [List.map_cons, forL, e0, bindS_ok, eb]
    have eT : T + sT (a :: l) = T + a.t + sT l := by simp only [sT, List.map_cons, List.sum_cons]; omega
    have eB : B + sB (a :: l) = B + a.b + sB l := by simp only [sB, List.map_cons, List.sum_cons]; omega
    rw [eT, eB]
    exact e2
theorem mul_small {i j : Int} {M : Sto} (h : 0 ≤ i ∧ i ≤ 100000000) : mulF (.int i) (.int j) M = okR (.int (i * j)) M := mul_int (.inl (by constructor <;> omega))
theorem ringRight_ok {P Q P' Q' : Int} {run : List Ch} {rg : List AR} (hp : p.Ok) (t : Told p g P' Q' run rg) (eq : sT rg * Q = sB rg * P) : ∃ M', f__law_ring_right [encP p, seenD run rg, wyD g, encQ P Q] M = okR (.bl true) M' ∧ Ext M M' := by
  obtain ⟨u, hf, w⟩ := t.way
  have hbd := bnd_lt hp
  have hN := (netP_whole hp).len
  have hlen := t.best.len
  obtain ⟨s1, s2, s3⟩ := sums_ok w.tb
  have hpos := t.best.pos
  have hbo := begin_ok hp
  obtain ⟨z7, M1, e1, xt1⟩ := rr_run hp (x1 := some (seenD run rg)) (x2 := some (wyD g)) (x3 := some (encQ P Q)) (x5 := some (.int 0)) (x6 := some (.int 0)) (x8 := none) (x9 := none) (x10 := none) (x7 := none) (M := M) hbo hf
  have hu := follow_ok hp hbo hf
  obtain ⟨y7, y9, y10, M2, e2, xt2⟩ := rr_ring hp (x1 := some (seenD run rg)) (x3 := some (encQ P Q)) (x8 := some (encS u)) (T := 0) (B := 0) (x7 := z7) (x9 := none) (x10 := none) (M := M1) hu w
  rw [Int.zero_add, Int.zero_add] at e2
  refine ⟨M2, ?_, xt1.trans xt2⟩
  have t0 : s__law_ring_right_0 [some (encP p), some (seenD run rg), some (wyD g), some (encQ P Q), none, none, none, none, none, none, none] M = some (.nx [some (encP p), some (seenD run rg), some (wyD g), some (encQ P Q), none, none, none, none, none, none, none] M) := by
    have i1 : ∀ M, isiF "tuple" (seenD run rg) M = okR (.bl true) M := fun M => rfl
    have i2 : ∀ M, lenF [seenD run rg] M = okR (.int 2) M := fun M => rfl
    have i3 : ∀ M, subIx (seenD run rg) (.int 1) M = okR (.tup (rg.map fun a => encC a.c)) M := fun M => rfl
    have i4 : ∀ M, isiF "tuple" (.tup (rg.map fun a => encC a.c)) M = okR (.bl true) M := fun M => rfl
    simp [s__law_ring_right_0, i1, i2, i3, i4, ne_int]
  have t1 : s__law_ring_right_1 [some (encP p), some (seenD run rg), some (wyD g), some (encQ P Q), none, none, none, none, none, none, none] M = some (.nx [some (encP p), some (seenD run rg), some (wyD g), some (encQ P Q), some (encS (beginS p)), some (.int 0), some (.int 0), none, none, none, none] M) := by
    simp [s__law_ring_right_1, lawBegin_ok hp]
  have t2 : s__law_ring_right_2 [some (encP p), some (seenD run rg), some (wyD g), some (encQ P Q), some (encS (beginS p)), some (.int 0), some (.int 0), none, none, none, none] M = some (.nx [some (encP p), some (seenD run rg), some (wyD g), some (encQ P Q), some (encS u), some (.int 0), some (.int 0), z7, none, none, none] M1) := by
    have hi : gItT (gOp subIx (gVar 1) (gC (.int 0))) [some (encP p), some (seenD run rg), some (wyD g), some (encQ P Q), some (encS (beginS p)), some (.int 0), some (.int 0), none, none, none, none] M = okR (run.map encC) M := rfl
    rw [s__law_ring_right_2, gFor, hi, bindS_ok, e1]
  have t3 : s__law_ring_right_3 [some (encP p), some (seenD run rg), some (wyD g), some (encQ P Q), some (encS u), some (.int 0), some (.int 0), z7, none, none, none] M1 = some (.nx [some (encP p), some (seenD run rg), some (wyD g), some (encQ P Q), some (encS u), some (.int 0), some (.int 0), z7, some (encS u), none, none] M1) := by
    simp [s__law_ring_right_3]
  have t4 : s__law_ring_right_4 [some (encP p), some (seenD run rg), some (wyD g), some (encQ P Q), some (encS u), some (.int 0), some (.int 0), z7, some (encS u), none, none] M1 = some (.nx [some (encP p), some (seenD run rg), some (wyD g), some (encQ P Q), some (encS u), some (.int (sT rg)), some (.int (sB rg)), y7, some (encS u), y9, y10] M2) := by
    have hi : gItT (gOp subIx (gVar 1) (gC (.int 1))) [some (encP p), some (seenD run rg), some (wyD g), some (encQ P Q), some (encS u), some (.int 0), some (.int 0), z7, some (encS u), none, none] M1 = okR (rg.map fun a => encC a.c) M1 := rfl
    rw [s__law_ring_right_4, gFor, hi, bindS_ok, e2]
  show finS (g__law_ring_right [some (encP p), some (seenD run rg), some (wyD g), some (encQ P Q), none, none, none, none, none, none, none] M) = _
  rw [s__law_ring_right_eq, s__law_ring_right, seq_nx t0, seq_nx t1, seq_nx t2, seq_nx t3, seq_nx t4]
  have q0 : ∀ M, subIx (encQ P Q) (.int 0) M = okR (.int P) M := fun M => rfl
  have q1 : ∀ M, subIx (encQ P Q) (.int 1) M = okR (.int Q) M := fun M => rfl
  have m1 : ∀ M, mulF (.int (sT rg)) (.int Q) M = okR (.int (sT rg * Q)) M := fun M => mul_small (by omega)
  have m2 : ∀ M, mulF (.int (sB rg)) (.int P) M = okR (.int (sB rg * P)) M := fun M => mul_small (by omega)
  have hes : ∀ M, eqF (encS u) (encS u) M = okR (.bl true) M := fun M => eq_stand hp hu
  simp [s__law_ring_right_5, hes, q0, q1, m1, m2, gtF, intF, hpos, eq_int, eq]
theorem isShare_ok {P Q : Int} {rg : List AR} (hp : p.Ok) (b : Best p g P Q rg) : f__law_is_share [encQ P Q] M = okR (.bl true) M := by
  obtain ⟨a0, a1, a2, a3⟩ := b.rg
  have hN := (netP_whole hp).len
  have hbd := bnd_lt hp
  have hc := b.cop
  have q0 : ∀ M, subIx (encQ P Q) (.int 0) M = okR (.int P) M := fun M => rfl
  have q1 : ∀ M, subIx (encQ P Q) (.int 1) M = okR (.int Q) M := fun M => rfl
  have i1 : ∀ M, isiF "tuple" (encQ P Q) M = okR (.bl true) M := fun M => rfl
  have i2 : ∀ M, lenF [encQ P Q] M = okR (.int 2) M := fun M => rfl
  have t0 : s__law_is_share_0 [some (encQ P Q), none, none] M = some (.nx [some (encQ P Q), none, none] M) := by
    simp [s__law_is_share_0, i1, i2, ne_int, q0, q1, leF, intF, a0, a1]
  have hr : gRng2 (DL.gCons (gC (.int 2)) (DL.gCons (gOp addF (gOp subIx (gVar 0) (gC (.int 1))) (gC (.int 1))) DL.gNil)) [some (encQ P Q), none, none] M = okR (rngD 2 (Q + 1 - 2).toNat) M := by
    have : -4611686018427387904 ≤ Q + 1 ∧ Q + 1 < 4611686018427387904 := by omega
    simp [q1]
    exact this
  have hlc := lcL_pure (T := .one 2) (tt := (gTAnd (gTst (gOp eqF (gOp modF (gOp subIx (gVar 0) (gC (.int 0))) (gVar 2)) (gC (.int 0)))) (gTst (gOp eqF (gOp modF (gOp subIx (gVar 0) (gC (.int 1))) (gVar 2)) (gC (.int 0)))))) (te := gVar 2) (δ := wipeD [some (encQ P Q), none, none] [2]) (fun _ => none) (ds := rngD 2 (Q + 1 - 2).toNat) (acc := []) (M := M) (fun d hd => by
    obtain ⟨i, hi, rfl⟩ := List.mem_map.mp hd
    have hi := List.mem_range.mp hi
    refine ⟨_, rfl, ?_⟩
    have m1 : ∀ M, modF (.int P) (.int (2 + (i : Int))) M = okR (.int (P % (2 + (i : Int)))) M := fun M => mod_int (by omega)
    have m2 : ∀ M, modF (.int Q) (.int (2 + (i : Int))) M = okR (.int (Q % (2 + (i : Int)))) M := fun M => mod_int (by omega)
    have hno : ¬ (P % (2 + (i : Int)) = 0 ∧ Q % (2 + (i : Int)) = 0) := fun ⟨z1, z2⟩ => by
      have d1 : (2 + i) ∣ P.toNat := by
        have : ((2 + i : Nat) : Int) ∣ P := Int.dvd_of_emod_eq_zero (by simpa using z1)
        rw [show P = (P.toNat : Int) by omega] at this
        exact Int.natCast_dvd_natCast.mp this
      have d2 : (2 + i) ∣ Q.toNat := by
        have : ((2 + i : Nat) : Int) ∣ Q := Int.dvd_of_emod_eq_zero (by simpa using z2)
        rw [show Q = (Q.toNat : Int) by omega] at this
        exact Int.natCast_dvd_natCast.mp this
      have := Nat.dvd_gcd d1 d2
      rw [hc] at this
      have := Nat.le_of_dvd (by decide) this
      omega
    by_cases z1 : P % (2 + (i : Int)) = 0
    · have z2 : ¬ Q % (2 + (i : Int)) = 0 := fun z => hno ⟨z1, z⟩
      simp [wipeD, q0, q1, m1, m2, eq_int, z1, z2]
    · simp [wipeD, q0, q1, m1, m2, eq_int, z1]) (by rw [slE, rng_len]; simp; omega)
  have t1 : s__law_is_share_1 [some (encQ P Q), none, none] M = some (.nx [some (encQ P Q), some (.lst []), none] M) := by
    rw [s__law_is_share_1, gAsg, gLc, hr, bindR_ok, hlc, fm_none]
    rfl
  show finS (g__law_is_share [some (encQ P Q), none, none] M) = _
  rw [s__law_is_share_eq, s__law_is_share, seq_nx t0, seq_nx t1]
  simp [s__law_is_share_2, q1, gtF, intF, a2, slE, eq_nils]
end
end EB
/-! QJ: _law_is_greatest -/
namespace EB
open PySem PySem.Spec L2 DL
variable [inst : Pw]
noncomputable def s__law_is_greatest_0  : GS := (gAsg (gCall dictNF (DL.gCons (gLc (gItNK (gVar 0)) (.one 6) gYes (DL.gTup (DL.gCons (gVar 6) (DL.gCons (gC (.int 0)) DL.gNil))) [6]) DL.gNil)) (DL.gName 3))
noncomputable def s__law_is_greatest_1_b_0  : GS := (gAsg (gC (.bl false)) (DL.gName 5))
noncomputable def s__law_is_greatest_1_b_1_b_0_b_0  : GS := (gAsg (gCallN 2 f__law_worth (DL.gCons (gVar 9) (DL.gCons (gVar 1) DL.gNil))) (gTupT 2 (gsCons (DL.gName 10) (gsCons (DL.gName 11) gsNil))))
noncomputable def s__law_is_greatest_1_b_1_b_0_b_1  : GS := (gAsg (gOp subF (gOp addF (gOp subIxD (gVar 3) (gVar 6)) (gOp mulF (gVar 10) (gOp subIx (gVar 2) (gC (.int 1))))) (gOp mulF (gVar 11) (gOp subIx (gVar 2) (gC (.int 0))))) (DL.gName 12))
noncomputable def s__law_is_greatest_1_b_1_b_0_b_2  : GS := (gIfS (gTst (gOp gtF (gVar 12) (gOp subIxD (gVar 3) (gVar 8)))) (gAsg (DL.gTup (DL.gCons (gVar 12) (DL.gCons (gC (.bl true)) DL.gNil))) (gTupT 2 (gsCons (gSubD (gVar 3) (gVar 8)) (gsCons (DL.gName 5) gsNil)))) gNext)
noncomputable def s__law_is_greatest_1_b_1_b_0_b  : GS := (gSeq s__law_is_greatest_1_b_1_b_0_b_0 (gSeq s__law_is_greatest_1_b_1_b_0_b_1 s__law_is_greatest_1_b_1_b_0_b_2))
noncomputable def s__law_is_greatest_1_b_1_b_0  : GS := (gFor (gItL (gOp subIx (gOp subIxD (gVar 0) (gVar 6)) (gC (.int 1)))) (gTupT 3 (gsCons (DL.gName 7) (gsCons (DL.gName 8) (gsCons (DL.gName 9) gsNil)))) s__law_is_greatest_1_b_1_b_0_b)
noncomputable def s__law_is_greatest_1_b_1_b  : GS := s__law_is_greatest_1_b_1_b_0
noncomputable def s__law_is_greatest_1_b_1  : GS := (gFor (gItNK (gVar 0)) (DL.gName 6) s__law_is_greatest_1_b_1_b)
noncomputable def s__law_is_greatest_1_b_2  : GS := (gIfS (gTNot (gTst (gVar 5))) (gRet (gC (.bl true))) gNext)
noncomputable def s__law_is_greatest_1_b  : GS := (gSeq s__law_is_greatest_1_b_0 (gSeq s__law_is_greatest_1_b_1 s__law_is_greatest_1_b_2))
noncomputable def s__law_is_greatest_1  : GS := (gFor (gRng1 (DL.gCons (gOp addF (gCall lenFD (DL.gCons (gVar 0) DL.gNil)) (gC (.int 2))) DL.gNil)) (DL.gName 4) s__law_is_greatest_1_b)
noncomputable def s__law_is_greatest_2  : GS := (gRet (gC (.bl false)))
noncomputable def s__law_is_greatest  : GS := (gSeq s__law_is_greatest_0 (gSeq s__law_is_greatest_1 s__law_is_greatest_2))
theorem s__law_is_greatest_eq  : g__law_is_greatest = s__law_is_greatest := rfl
def edOf (p : Pn) (g : Bool) (P Q : Int) (u : Sd) (c : Ch) : GR.Ed Sd := (u, (tickM p u c).1, vlc p g P Q u c)
def edR (p : Pn) (g : Bool) (P Q : Int) (r : PRow) : List (GR.Ed Sd) := (chs p r.s).map (edOf p g P Q r.s)
def edN (p : Pn) (g : Bool) (P Q : Int) : List (GR.Ed Sd) := (netP p).flatMap (edR p g P Q)
structure BH (p : Pn) (M0 : Sto) (nh : Nat) (h : Sd → Int) (M : Sto) : Prop where
  ext : Ext M0 M
  h0 : M0.length ≤ nh
  atH : M[nh]? = some (.dkn ((hiT p h).map (kvB D.int)))
section
variable {p : Pn} {g : Bool} {P Q : Int} {h : Sd → Int} {M0 M : Sto} {nh : Nat}
theorem BH.sub (b : BH p M0 nh h M) {s : Sd} (hs : s ∈ stands p) : subIxD (.cel nh) (encS s) M = okR (.int (h s)) M := by
  have d : (D.cel nh).dkn M = some ((hiT p h).map (kvB D.int)) := by simp [D.dkn, b.atH]
  simp only [subIxD, d, keyN_S, lkB_D, hiT_lk hs]
  rfl
theorem BH.put (b : BH p M0 nh h M) {s : Sd} {x : Int} (hs : s ∈ stands p) : BH p M0 nh (updH h s x) (M.set nh (.dkn (ptN ((hiT p h).map (kvB D.int)) (kS s) (encS s) (.int x)))) := by
  have e : ptN ((hiT p h).map (kvB D.int)) (kS s) (encS s) (.int x) = (hiT p (updH h s x)).map (kvB D.int) := by rw [putB_D D.int, hiT_put hs]
  rw [e]
  have h0 := b.h0
  refine ⟨⟨by simpa using b.ext.len, fun k hk => ?_⟩, b.h0, List.getElem?_set_self (get_lt b.atH)⟩
  rw [List.getElem?_set_ne (by omega)]
  exact b.ext.fr k hk
theorem lg_tick {gr : Bool} {u : Sd} {c : Ch} {x4 x10 x11 x12 : Option D} (hp : p.Ok) (hu : u ∈ stands p) (hc : c ∈ chs p u) (b : BH p M0 nh h M) :
    ∃ z10 z11 z12 gr' M', s__law_is_greatest_1_b_1_b_0_b [some (netD p), some (wyD g), some (encQ P Q), some (.cel nh), x4, some (.bl gr), some (encS u), some (encC c), some (encS (tickM p u c).1), some (encW (tickM p u c).2), x10, x11, x12] M
      = some (.nx [some (netD p), some (wyD g), some (encQ P Q), some (.cel nh), x4, some (.bl gr'), some (encS u), some (encC c), some (encS (tickM p u c).1), some (encW (tickM p u c).2), z10, z11, z12] M') ∧ BH p M0 nh (GR.relax h (edOf p g P Q u c)) M' ∧
      (h u + vlc p g P Q u c ≤ h (tickM p u c).1 → gr' = gr ∧ GR.relax h (edOf p g P Q u c) = h) := by
  have hN := (netP_whole hp).len
  have hbd := bnd_lt hp
  have hv := stand_next hp hu hc
  have ew := lawWorth_ok (g := g) (ws := (tickM p u c).2) (M := M) tickW_ok.2 (by have := (tickW_ok (p := p) (s := u) (c := c)).1; omega) tick_nb
  have w01 := woI_01 g (tickM p u c).2
  have hvl : vlc p g P Q u c = (woI g (tickM p u c).2).1 * Q - (woI g (tickM p u c).2).2 * P := rfl
  have hrx : GR.relax h (edOf p g P Q u c) = if h (tickM p u c).1 < h u + vlc p g P Q u c then updH h (tickM p u c).1 (h u + vlc p g P Q u c) else h := rfl
  rw [hrx]
  generalize (tickM p u c).1 = v at hv
  generalize (tickM p u c).2 = ws at ew w01 hvl
  generalize vlc p g P Q u c = x at hvl
  have t0 : s__law_is_greatest_1_b_1_b_0_b_0 [some (netD p), some (wyD g), some (encQ P Q), some (.cel nh), x4, some (.bl gr), some (encS u), some (encC c), some (encS v), some (encW ws), x10, x11, x12] M = some (.nx [some (netD p), some (wyD g), some (encQ P Q), some (.cel nh), x4, some (.bl gr), some (encS u), some (encC c), some (encS v), some (encW ws), some (.int (woI g ws).1), some (.int (woI g ws).2), x12] M) := by
    simp [s__law_is_greatest_1_b_1_b_0_b_0, ew]
  have t1 : s__law_is_greatest_1_b_1_b_0_b_1 [some (netD p), some (wyD g), some (encQ P Q), some (.cel nh), x4, some (.bl gr), some (encS u), some (encC c), some (encS v), some (encW ws), some (.int (woI g ws).1), some (.int (woI g ws).2), x12] M = some (.nx [some (netD p), some (wyD g), some (encQ P Q), some (.cel nh), x4, some (.bl gr), some (encS u), some (encC c), some (encS v), some (encW ws), some (.int (woI g ws).1), some (.int (woI g ws).2), some (.int (h u + x))] M) := by
    have hsub := b.sub hu
    have q0 : ∀ M, subIx (encQ P Q) (.int 0) M = okR (.int P) M := fun M => rfl
    have q1 : ∀ M, subIx (encQ P Q) (.int 1) M = okR (.int Q) M := fun M => rfl
    have m1 : ∀ M, mulF (.int (woI g ws).1) (.int Q) M = okR (.int ((woI g ws).1 * Q)) M := fun M => mul_small (by omega)
    have m2 : ∀ M, mulF (.int (woI g ws).2) (.int P) M = okR (.int ((woI g ws).2 * P)) M := fun M => mul_small (by omega)
    have e : h u + (woI g ws).1 * Q - (woI g ws).2 * P = h u + x := by rw [hvl]; omega
    simp [s__law_is_greatest_1_b_1_b_0_b_1, hsub, q0, q1, m1, m2, subF, intF, e]
  have hcond : gTst (gOp gtF (gVar 12) (gOp subIxD (gVar 3) (gVar 8))) [some (netD p), some (wyD g), some (encQ P Q), some (.cel nh), x4, some (.bl gr), some (encS u), some (encC c), some (encS v), some (encW ws), some (.int (woI g ws).1), some (.int (woI g ws).2), some (.int (h u + x))] M = okR (decide (h v < h u + x)) M := by
    simp [b.sub hv, gtF, intF]
  by_cases hlt : h v < h u + x
  · rw [if_pos hlt]
    have b1 := b.put (x := h u + x) hv
    refine ⟨some (.int (woI g ws).1), some (.int (woI g ws).2), some (.int (h u + x)), true, _, ?_, b1, fun q => by omega⟩
    have hl1 : (hiT p h).length < 16777216 := by unfold hiT; simp; omega
    rw [s__law_is_greatest_1_b_1_b_0_b, seq_nx t0, seq_nx t1, s__law_is_greatest_1_b_1_b_0_b_2, gIfS, hcond, decide_eq_true hlt]
    simp [slE, gSubD, b.atH, hl1]
  · rw [if_neg hlt]
    refine ⟨some (.int (woI g ws).1), some (.int (woI g ws).2), some (.int (h u + x)), gr, M, ?_, b, fun _ => ⟨rfl, rfl⟩⟩
    rw [s__law_is_greatest_1_b_1_b_0_b, seq_nx t0, seq_nx t1, s__law_is_greatest_1_b_1_b_0_b_2, gIfS, hcond, decide_eq_false hlt]
    rfl
theorem lg_row {gr : Bool} {r : PRow} {x4 x7 x8 x9 x10 x11 x12 : Option D} (hp : p.Ok) (hr : r ∈ netP p) (b : BH p M0 nh h M) :
    ∃ z7 z8 z9 z10 z11 z12 gr' M', s__law_is_greatest_1_b_1_b [some (netD p), some (wyD g), some (encQ P Q), some (.cel nh), x4, some (.bl gr), some (encS r.s), x7, x8, x9, x10, x11, x12] M
      = some (.nx [some (netD p), some (wyD g), some (encQ P Q), some (.cel nh), x4, some (.bl gr'), some (encS r.s), z7, z8, z9, z10, z11, z12] M') ∧ BH p M0 nh ((edR p g P Q r).foldl GR.relax h) M' ∧
      ((∀ c ∈ chs p r.s, h r.s + vlc p g P Q r.s c ≤ h (tickM p r.s c).1) → gr' = gr ∧ (edR p g P Q r).foldl GR.relax h = h) := by
  have hsu : r.s ∈ stands p := List.mem_map.mpr ⟨r, hr, rfl⟩
  have htk := ((netP_whole hp).done r hr).1
  obtain ⟨δ', M', e, ⟨z7, z8, z9, z10, z11, z12, gr', rfl, h'⟩, b'⟩ := forL_pfx (t := gTupT 3 (gsCons (DL.gName 7) (gsCons (DL.gName 8) (gsCons (DL.gName 9) gsNil)))) (s := s__law_is_greatest_1_b_1_b_0_b) (f := fun c : Ch => encK (tkOf p r.s c)) (fun pre δ M' => (∃ z7 z8 z9 z10 z11 z12 gr', δ = [some (netD p), some (wyD g), some (encQ P Q), some (.cel nh), x4, some (.bl gr'), some (encS r.s), z7, z8, z9, z10, z11, z12] ∧
      ((∀ c ∈ chs p r.s, h r.s + vlc p g P Q r.s c ≤ h (tickM p r.s c).1) → gr' = gr ∧ (pre.map (edOf p g P Q r.s)).foldl GR.relax h = h)) ∧ BH p M0 nh ((pre.map (edOf p g P Q r.s)).foldl GR.relax h) M') (chs p r.s) (by
    rintro pre c post hx δ M' ⟨⟨z7, z8, z9, z10, z11, z12, gr', rfl, h'⟩, b'⟩
    have hc : c ∈ chs p r.s := by rw [hx]; simp
    obtain ⟨w10, w11, w12, gr2, M2, e2, b2, h2⟩ := lg_tick (g := g) (P := P) (Q := Q) (gr := gr') (x4 := x4) (x10 := z10) (x11 := z11) (x12 := z12) hp hsu hc b'
    have ef : ((pre ++ [c]).map (edOf p g P Q r.s)).foldl GR.relax h = GR.relax ((pre.map (edOf p g P Q r.s)).foldl GR.relax h) (edOf p g P Q r.s c) := by simp
    refine ⟨[some (netD p), some (wyD g), some (encQ P Q), some (.cel nh), x4, some (.bl gr'), some (encS r.s), some (encC c), some (encS (tickM p r.s c).1), some (encW (tickM p r.s c).2), z10, z11, z12], M', _, M2, rfl, e2, ⟨some (encC c), some (encS (tickM p r.s c).1), some (encW (tickM p r.s c).2), w10, w11, w12, gr2, rfl, fun q => ?_⟩, by rw [ef]; exact b2⟩
    obtain ⟨q1, q2⟩ := h' q
    rw [ef]
    rw [q2] at h2 ⊢
    obtain ⟨q3, q4⟩ := h2 (q c hc)
    exact ⟨q3.trans q1, q4⟩) (post := chs p r.s) (pre := []) (δ := [some (netD p), some (wyD g), some (encQ P Q), some (.cel nh), x4, some (.bl gr), some (encS r.s), x7, x8, x9, x10, x11, x12]) (M := M) rfl ⟨⟨x7, x8, x9, x10, x11, x12, gr, rfl, fun _ => ⟨rfl, rfl⟩⟩, b⟩
  refine ⟨z7, z8, z9, z10, z11, z12, gr', M', ?_, b', h'⟩
  have hi : gItL (gOp subIx (gOp subIxD (gVar 0) (gVar 6)) (gC (.int 1))) [some (netD p), some (wyD g), some (encQ P Q), some (.cel nh), x4, some (.bl gr), some (encS r.s), x7, x8, x9, x10, x11, x12] M = okR ((chs p r.s).map fun c => encK (tkOf p r.s c)) M := by
    have hsub : ∀ M, subIxD (netD p) (encS r.s) M = okR (.tup [encR r.run, .lst (r.ticks.map encK)]) M := fun M => by
      simp only [subIxD, net_kv, keyN_S, lk_net hp hr]
      rfl
    have ix1 : ∀ M, subIx (.tup [encR r.run, .lst (r.ticks.map encK)]) (.int 1) M = okR (.lst (r.ticks.map encK)) M := fun M => rfl
    have em : r.ticks.map encK = (chs p r.s).map fun c => encK (tkOf p r.s c) := by
      rw [htk]
      unfold succ
      rw [List.map_map]
      rfl
    simp only [gItL, gOp, gC, gVar, List.getElem?_cons_succ, List.getElem?_cons_zero, bindR_ok, hsub, ix1]
    simp only [itemsD, em]
  rw [s__law_is_greatest_1_b_1_b, s__law_is_greatest_1_b_1_b_0, gFor, hi, bindS_ok, e]
theorem lg_turn {x4 x5 x6 x7 x8 x9 x10 x11 x12 : Option D} (hp : p.Ok) (b : BH p M0 nh h M) :
    ∃ gr M', (gr = true → ¬ ∀ e ∈ edN p g P Q, h e.1 + e.2.2 ≤ h e.2.1) ∧ BH p M0 nh (GR.turn (edN p g P Q) h) M' ∧
      if gr = true then ∃ z6 z7 z8 z9 z10 z11 z12, s__law_is_greatest_1_b [some (netD p), some (wyD g), some (encQ P Q), some (.cel nh), x4, x5, x6, x7, x8, x9, x10, x11, x12] M = some (.nx [some (netD p), some (wyD g), some (encQ P Q), some (.cel nh), x4, some (.bl true), z6, z7, z8, z9, z10, z11, z12] M')
      else s__law_is_greatest_1_b [some (netD p), some (wyD g), some (encQ P Q), some (.cel nh), x4, x5, x6, x7, x8, x9, x10, x11, x12] M = some (.rt (.bl true) M') := by
  obtain ⟨δ', M', e, ⟨z6, z7, z8, z9, z10, z11, z12, gr', rfl, h'⟩, b'⟩ := forL_pfx (t := DL.gName 6) (s := s__law_is_greatest_1_b_1_b) (f := fun r : PRow => encS r.s) (fun pre δ M' => (∃ z6 z7 z8 z9 z10 z11 z12 gr', δ = [some (netD p), some (wyD g), some (encQ P Q), some (.cel nh), x4, some (.bl gr'), z6, z7, z8, z9, z10, z11, z12] ∧
      ((∀ e ∈ edN p g P Q, h e.1 + e.2.2 ≤ h e.2.1) → gr' = false ∧ (pre.flatMap (edR p g P Q)).foldl GR.relax h = h)) ∧ BH p M0 nh ((pre.flatMap (edR p g P Q)).foldl GR.relax h) M') (netP p) (by
    rintro pre r post hx δ M' ⟨⟨z6, z7, z8, z9, z10, z11, z12, gr', rfl, h'⟩, b'⟩
    have hr : r ∈ netP p := by rw [hx]; simp
    obtain ⟨w7, w8, w9, w10, w11, w12, gr2, M2, e2, b2, h2⟩ := lg_row (g := g) (P := P) (Q := Q) (gr := gr') (x4 := x4) (x7 := z7) (x8 := z8) (x9 := z9) (x10 := z10) (x11 := z11) (x12 := z12) hp hr b'
    have ef : ((pre ++ [r]).flatMap (edR p g P Q)).foldl GR.relax h = (edR p g P Q r).foldl GR.relax ((pre.flatMap (edR p g P Q)).foldl GR.relax h) := by simp [List.foldl_append]
    refine ⟨_, M', _, M2, rfl, e2, ⟨some (encS r.s), w7, w8, w9, w10, w11, w12, gr2, rfl, fun q => ?_⟩, by rw [ef]; exact b2⟩
    obtain ⟨q1, q2⟩ := h' q
    rw [ef]
    rw [q2] at h2 ⊢
    obtain ⟨q3, q4⟩ := h2 fun c hc => q (edOf p g P Q r.s c) (List.mem_flatMap.mpr ⟨r, hr, List.mem_map.mpr ⟨c, hc, rfl⟩⟩)
    exact ⟨q3.trans q1, q4⟩) (post := netP p) (pre := []) (δ := [some (netD p), some (wyD g), some (encQ P Q), some (.cel nh), x4, some (.bl false), x6, x7, x8, x9, x10, x11, x12]) (M := M) rfl ⟨⟨x6, x7, x8, x9, x10, x11, x12, false, rfl, fun _ => ⟨rfl, rfl⟩⟩, b⟩
  have t0 : s__law_is_greatest_1_b_0 [some (netD p), some (wyD g), some (encQ P Q), some (.cel nh), x4, x5, x6, x7, x8, x9, x10, x11, x12] M = some (.nx [some (netD p), some (wyD g), some (encQ P Q), some (.cel nh), x4, some (.bl false), x6, x7, x8, x9, x10, x11, x12] M) := by
    simp [s__law_is_greatest_1_b_0]
  have t1 : s__law_is_greatest_1_b_1 [some (netD p), some (wyD g), some (encQ P Q), some (.cel nh), x4, some (.bl false), x6, x7, x8, x9, x10, x11, x12] M = some (.nx [some (netD p), some (wyD g), some (encQ P Q), some (.cel nh), x4, some (.bl gr'), z6, z7, z8, z9, z10, z11, z12] M') := by
    have hi : gItNK (gVar 0) [some (netD p), some (wyD g), some (encQ P Q), some (.cel nh), x4, some (.bl false), x6, x7, x8, x9, x10, x11, x12] M = okR ((netP p).map fun r => encS r.s) M := rfl
    rw [s__law_is_greatest_1_b_1, gFor, hi, bindS_ok, e]
  refine ⟨gr', M', fun q z => ?_, b', ?_⟩
  · rw [(h' z).1] at q
    cases q
  · rw [s__law_is_greatest_1_b, seq_nx t0, seq_nx t1]
    cases gr' with
    | true =>
      rw [if_pos rfl]
      exact ⟨z6, z7, z8, z9, z10, z11, z12, by simp [s__law_is_greatest_1_b_2]⟩
    | false =>
      rw [if_neg Bool.false_ne_true]
      simp [s__law_is_greatest_1_b_2]
theorem pairs_zero : ∀ l : List PRow, pairsD (l.map fun r => D.tup [encS r.s, .int 0]) = some (l.map fun r => (kS r.s, encS r.s, D.int 0))
  | [] => rfl
  | r :: l => by simp [pairsD, pairs_zero l]
theorem ptAll_zero : ∀ {post pre : List PRow}, ((pre ++ post).map (·.s)).Nodup → ptAll ((pre.map fun r => (r.s, (0 : Int))).map (kvB D.int)) (post.map fun r => (kS r.s, encS r.s, D.int 0)) = ((pre ++ post).map fun r => (r.s, (0 : Int))).map (kvB D.int)
  | [], pre, _ => by simp [ptAll]
  | r :: post, pre, hn => by
    have hnk : r.s ∉ (pre.map fun r => (r.s, (0 : Int))).map (·.1) := fun hm => by
      rw [List.map_map] at hm
      rw [List.map_append, List.nodup_append] at hn
      exact hn.2.2 r.s hm r.s (by simp) rfl
    have hpt : ptN ((pre.map fun r => (r.s, (0 : Int))).map (kvB D.int)) (kS r.s) (encS r.s) (.int 0) = ((pre ++ [r]).map fun r => (r.s, (0 : Int))).map (kvB D.int) := by
      rw [putB_D D.int]
      unfold putB
      rw [if_neg hnk, List.map_append]
      simp
    have ih := ptAll_zero (post := post) (pre := pre ++ [r]) (by simpa using hn)
    unfold ptAll at ih ⊢
    rw [List.map_cons, List.foldl_cons, hpt, ih]
    simp
theorem greatest_ok (hp : p.Ok) (hb4 : p.belt ≤ 4) (pot : Pot p g P Q) : ∃ M', f__law_is_greatest [netD p, wyD g, encQ P Q] M = okR (.bl true) M' ∧ Ext M M' := by
  have hN := (netP_whole hp).len
  have hbd := bnd_lt4 hp hb4
  have hnd := (netP_whole hp).nd
  obtain ⟨hh, hpot⟩ := pot
  have hE : ∀ e ∈ edN p g P Q, e.1 ∈ stands p ∧ e.2.1 ∈ stands p := fun e he => by
    obtain ⟨r, hr, he⟩ := List.mem_flatMap.mp he
    obtain ⟨c, hc, rfl⟩ := List.mem_map.mp he
    have hs : r.s ∈ stands p := List.mem_map.mpr ⟨r, hr, rfl⟩
    exact ⟨hs, stand_next hp hs hc⟩
  have hP : ∀ e ∈ edN p g P Q, hh e.1 + e.2.2 ≤ hh e.2.1 := fun e he => by
    obtain ⟨r, hr, he⟩ := List.mem_flatMap.mp he
    obtain ⟨c, hc, rfl⟩ := List.mem_map.mp he
    exact hpot r.s (List.mem_map.mpr ⟨r, hr, rfl⟩) c hc
  have hend := GR.turns_end hE hP
  have hsl : (stands p).length = (netP p).length := by unfold stands; simp
  rw [hsl] at hend
  -- the table at nought
  have hlc := lcL_pure (T := .one 6) (tt := gYes) (te := DL.gTup (DL.gCons (gVar 6) (DL.gCons (gC (.int 0)) DL.gNil))) (δ := wipeD [some (netD p), some (wyD g), some (encQ P Q), none, none, none, none, none, none, none, none, none, none] [6]) (fun d => some (.tup [d, .int 0])) (ds := (netP p).map fun r => encS r.s) (acc := []) (M := M) (fun d hd => by
    refine ⟨_, rfl, rfl, ?_⟩
    simp [wipeD, slE]) (by rw [slE]; simp; omega)
  have ef : ((netP p).map fun r => encS r.s).filterMap (fun d => some (D.tup [d, .int 0])) = (netP p).map fun r => D.tup [encS r.s, .int 0] := by
    rw [List.filterMap_eq_map']
    rw [List.map_map]
    rfl
  rw [ef, List.nil_append] at hlc
  have hd : dictNF [.lst ((netP p).map fun r => D.tup [encS r.s, .int 0])] M = okR (.cel M.length) (M ++ [.dkn ((hiT p (fun _ => 0)).map (kvB D.int))]) := by
    have := ptAll_zero (post := netP p) (pre := []) (by simpa using hnd)
    simp only [dictNF, pairs_zero]
    simp only [List.map_nil, List.nil_append] at this
    rw [this]
    rfl
  have b0 : BH p M M.length (GR.turns (edN p g P Q) 0) (M ++ [.dkn ((hiT p (fun _ => 0)).map (kvB D.int))]) := ⟨Ext.app, Nat.le_refl _, by simp; rfl⟩
  have t0 : s__law_is_greatest_0 [some (netD p), some (wyD g), some (encQ P Q), none, none, none, none, none, none, none, none, none, none] M = some (.nx [some (netD p), some (wyD g), some (encQ P Q), some (.cel M.length), none, none, none, none, none, none, none, none, none] (M ++ [.dkn ((hiT p (fun _ => 0)).map (kvB D.int))])) := by
    have hi : gItNK (gVar 0) [some (netD p), some (wyD g), some (encQ P Q), none, none, none, none, none, none, none, none, none, none] M = okR ((netP p).map fun r => encS r.s) M := rfl
    rw [s__law_is_greatest_0, gAsg, gCall, DL.gCons, gLc, hi, bindR_ok, hlc, bindR_ok, DL.gNil, bindR_ok, bindR_ok, hd]
    rfl
  generalize hM1 : M ++ [CO.dkn ((hiT p (fun _ => 0)).map (kvB D.int))] = M1 at b0 t0
  have main := forL_or (t := DL.gName 4) (s := s__law_is_greatest_1_b) (f := fun (i : Nat) => D.int i) (fun pre δ M' => pre.length ≤ (netP p).length ∧ (∃ z4 z5 z6 z7 z8 z9 z10 z11 z12, δ = [some (netD p), some (wyD g), some (encQ P Q), some (.cel M.length), z4, z5, z6, z7, z8, z9, z10, z11, z12]) ∧ BH p M M.length (GR.turns (edN p g P Q) pre.length) M')
    (fun v M' => v = .bl true ∧ Ext M M') (List.range ((netP p).length + 2)) (by
    rintro pre i post hx δ M' ⟨hl, ⟨z4, z5, z6, z7, z8, z9, z10, z11, z12, rfl⟩, b⟩
    refine ⟨[some (netD p), some (wyD g), some (encQ P Q), some (.cel M.length), some (.int i), z5, z6, z7, z8, z9, z10, z11, z12], M', rfl, ?_⟩
    obtain ⟨gr, M2, h1, b2, h2⟩ := lg_turn (g := g) (P := P) (Q := Q) (x4 := some (.int i)) (x5 := z5) (x6 := z6) (x7 := z7) (x8 := z8) (x9 := z9) (x10 := z10) (x11 := z11) (x12 := z12) hp b
    cases gr with
    | true =>
      rw [if_pos rfl] at h2
      obtain ⟨w6, w7, w8, w9, w10, w11, w12, e2⟩ := h2
      have hne : pre.length ≠ (netP p).length := fun q => h1 rfl (by rw [q]; exact hend)
      exact .inl ⟨_, M2, e2, by simp; omega, ⟨_, _, _, _, _, _, _, _, _, rfl⟩, by simpa [GR.turns] using b2⟩
    | false =>
      rw [if_neg Bool.false_ne_true] at h2
      exact .inr ⟨_, M2, h2, rfl, b2.ext⟩) (post := List.range ((netP p).length + 2)) (pre := []) (δ := [some (netD p), some (wyD g), some (encQ P Q), some (.cel M.length), none, none, none, none, none, none, none, none, none]) (M := M1) rfl ⟨by simp, ⟨none, none, none, none, none, none, none, none, none, rfl⟩, b0⟩
  rcases main with ⟨δ', M', e, hl, _⟩ | ⟨v, M', e, rfl, x⟩
  · simp at hl
    omega
  · refine ⟨M', ?_, x⟩
    have hlen : lenFD [netD p] M1 = okR (.int (netP p).length) M1 := by simp [lenFD, net_kv]
    show finS (g__law_is_greatest [some (netD p), some (wyD g), some (encQ P Q), none, none, none, none, none, none, none, none, none, none] M) = _
    rw [s__law_is_greatest_eq, s__law_is_greatest, seq_nx t0, gSeq, s__law_is_greatest_1, for_rng (n := (netP p).length + 2) (j := (netP p).length + 2) (M1 := M1) (by simp [hlen]) (by omega) (by omega), rngN5, e]
    rfl
end
end EB
/-! PK06: the law of k06, plainly -/
namespace EB
open PySem PySem.Spec L2 DL
variable [inst : Pw]
noncomputable def s_law_k06_0_b_0  : GS := (gAsg (gCallN 2 f__law_spring (DL.gCons (gVar 0) (DL.gCons (gVar 1) DL.gNil))) (DL.gName 2))
noncomputable def s_law_k06_0_b_1  : GS := (gAsg (gCallN 2 f__law_plan (DL.gCons (gVar 2) (DL.gCons (gC (.int 3)) DL.gNil))) (DL.gName 3))
noncomputable def s_law_k06_0_b_2  : GS := (gAsg (gCallN 1 f__law_ways (DL.gCons (gVar 3) DL.gNil)) (DL.gName 4))
noncomputable def s_law_k06_0_b_3  : GS := (gAsg (gLst (DL.gCons (DL.gTup (DL.gCons (gC (.str "good")) (DL.gCons (gCallN 1 f_good_share (DL.gCons (gVar 3) DL.gNil)) (DL.gCons (gCallN 1 f_good_ring (DL.gCons (gVar 3) DL.gNil)) DL.gNil)))) DL.gNil)) (DL.gName 5))
noncomputable def s_law_k06_0_b_4_b_0  : GS := (gIfS (gTOr (gTNot (gTst (gCallN 1 f__law_is_share (DL.gCons (gVar 7) DL.gNil)))) (gTNot (gTst (gCallN 4 f__law_ring_right (DL.gCons (gVar 3) (DL.gCons (gVar 8) (DL.gCons (gVar 6) (DL.gCons (gVar 7) DL.gNil)))))))) (gRet (gC (.bl false))) gNext)
noncomputable def s_law_k06_0_b_4_b_1  : GS := (gIfS (gTNot (gTst (gCallN 3 f__law_is_greatest (DL.gCons (gVar 4) (DL.gCons (gVar 6) (DL.gCons (gVar 7) DL.gNil)))))) (gRet (gC (.bl false))) gNext)
noncomputable def s_law_k06_0_b_4_b  : GS := (gSeq s_law_k06_0_b_4_b_0 s_law_k06_0_b_4_b_1)
noncomputable def s_law_k06_0_b_4  : GS := (gFor (gItL (gOp addF (gVar 5) (gLst (DL.gCons (DL.gTup (DL.gCons (gC (.str "bad")) (DL.gCons (gCallN 1 f_bad_share (DL.gCons (gVar 3) DL.gNil)) (DL.gCons (gCallN 1 f_bad_ring (DL.gCons (gVar 3) DL.gNil)) DL.gNil)))) DL.gNil)))) (gTupT 3 (gsCons (DL.gName 6) (gsCons (DL.gName 7) (gsCons (DL.gName 8) gsNil)))) s_law_k06_0_b_4_b)
noncomputable def s_law_k06_0_b  : GS := (gSeq s_law_k06_0_b_0 (gSeq s_law_k06_0_b_1 (gSeq s_law_k06_0_b_2 (gSeq s_law_k06_0_b_3 s_law_k06_0_b_4))))
noncomputable def s_law_k06_0  : GS := (gFor (gRng1 (DL.gCons (gOp addF (gCall minF (DL.gCons (gCall lenF (DL.gCons (gVar 0) DL.gNil)) (DL.gCons (gC (.int 2)) DL.gNil))) (gC (.int 1))) DL.gNil)) (DL.gName 1) s_law_k06_0_b)
noncomputable def s_law_k06_1  : GS := (gRet (gC (.bl true)))
noncomputable def s_law_k06  : GS := (gSeq s_law_k06_0 s_law_k06_1)
theorem s_law_k06_eq  : g_law_k06 = s_law_k06 := rfl
theorem len7 {α : Type} {l : List α} (h : l.length = 7) : ∃ a b c d e f g, l = [a, b, c, d, e, f, g] := by
  match l, h with
  | [a, b, c, d, e, f, g], _ => exact ⟨a, b, c, d, e, f, g, rfl⟩
section
variable {p : Pn} {M : Sto} {x0 x1 x2 : Option D}
theorem k06_way {g : Bool} {P Q : Int} {run : List Ch} {rg rg' : List AR} {P' Q' : Int} {x5 x6 x7 x8 : Option D} (hp : p.Ok) (hb4 : p.belt ≤ 4) (b : Best p g P Q rg) (t : Told p g P' Q' run rg') :
    ∃ M', s_law_k06_0_b_4_b [x0, x1, x2, some (encP p), some (netD p), x5, some (wyD g), some (encQ P Q), some (seenD run rg')] M = some (.nx [x0, x1, x2, some (encP p), some (netD p), x5, some (wyD g), some (encQ P Q), some (seenD run rg')] M') ∧ Ext M M' := by
  have eq := t.best.eq
  obtain ⟨e1, e2⟩ := best_uniq b t.best
  subst e1; subst e2
  have hs := isShare_ok (M := M) hp b
  obtain ⟨M1, hr, xt1⟩ := ringRight_ok (M := M) (P := P) (Q := Q) hp t eq
  obtain ⟨M2, hg, xt2⟩ := greatest_ok (M := M1) (g := g) (P := P) (Q := Q) hp hb4 b.pot
  refine ⟨M2, ?_, xt1.trans xt2⟩
  have t0 : s_law_k06_0_b_4_b_0 [x0, x1, x2, some (encP p), some (netD p), x5, some (wyD g), some (encQ P Q), some (seenD run rg')] M = some (.nx [x0, x1, x2, some (encP p), some (netD p), x5, some (wyD g), some (encQ P Q), some (seenD run rg')] M1) := by
    simp [s_law_k06_0_b_4_b_0, hs, hr]
  have t1 : s_law_k06_0_b_4_b_1 [x0, x1, x2, some (encP p), some (netD p), x5, some (wyD g), some (encQ P Q), some (seenD run rg')] M1 = some (.nx [x0, x1, x2, some (encP p), some (netD p), x5, some (wyD g), some (encQ P Q), some (seenD run rg')] M2) := by
    simp [s_law_k06_0_b_4_b_1, hg]
  rw [s_law_k06_0_b_4_b, seq_nx t0, t1]
end
theorem k06_body {ns : List Int} {at_ : Nat} {r : Ev} {M : Sto} (ha : at_ < 100) (hr : r.length = 7) :
    ∃ r' M', s_law_k06_0_b (some (.ro (ns.map .int)) :: some (.int at_) :: r) M = some (.nx (some (.ro (ns.map .int)) :: some (.int at_) :: r') M') ∧ r'.length = 7 := by
  obtain ⟨x2, x3, x4, x5, x6, x7, x8, rfl⟩ := len7 hr
  obtain ⟨sa, sb, hs0⟩ := spring_ok (ns := ns) (i := at_) (M := M) (by omega)
  generalize hM1 : M ++ [CO.lst [D.int sa, D.int sb]] = M1 at hs0
  generalize hk : M.length = k at hs0
  have hs1 : IsSp k M1 := by
    subst hk; subst hM1
    exact ⟨sa, sb, by simp⟩
  obtain ⟨p, M2, hp, hpb, hpl, hs2⟩ := plan_ok (most := 3) hs1 (by decide) (by decide)
  obtain ⟨M3, ew, xw⟩ := lawWays_ok (M := M2) hp
  obtain ⟨P, Q, rg, M4, e4, b4, _⟩ := goodShare_ok (M := M3) hp
  obtain ⟨P5, Q5, run5, rg5, M5, e5, t5, _⟩ := goodRing_ok (M := M4) hp
  obtain ⟨P6, Q6, rg6, M6, e6, b6, _⟩ := badShare_ok (M := M5) hp
  obtain ⟨P7, Q7, run7, rg7, M7, e7, t7, _⟩ := badRing_ok (M := M6) hp
  obtain ⟨M8, e8, _⟩ := k06_way (x0 := some (.ro (ns.map .int))) (x1 := some (.int at_)) (x2 := some (.cel k)) (x5 := some (.lst [.tup [wyD true, encQ P Q, seenD run5 rg5]])) (x6 := none) (x7 := none) (x8 := none) (M := M7) hp (by omega) b4 t5
  obtain ⟨M9, e9, _⟩ := k06_way (x0 := some (.ro (ns.map .int))) (x1 := some (.int at_)) (x2 := some (.cel k)) (x5 := some (.lst [.tup [wyD true, encQ P Q, seenD run5 rg5]])) (x6 := none) (x7 := none) (x8 := none) (M := M8) hp (by omega) b6 t7
  have u0 : s_law_k06_0_b_0 [some (.ro (ns.map .int)), some (.int at_), x2, x3, x4, x5, x6, x7, x8] M = some (.nx [some (.ro (ns.map .int)), some (.int at_), some (.cel k), x3, x4, x5, x6, x7, x8] M1) := by
    simp [s_law_k06_0_b_0, hs0]
  have u1 : s_law_k06_0_b_1 [some (.ro (ns.map .int)), some (.int at_), some (.cel k), x3, x4, x5, x6, x7, x8] M1 = some (.nx [some (.ro (ns.map .int)), some (.int at_), some (.cel k), some (encP p), x4, x5, x6, x7, x8] M2) := by
    have : f__law_plan [.cel k, .int 3] M1 = okR (encP p) M2 := hpl
    simp [s_law_k06_0_b_1, this]
  have u2 : s_law_k06_0_b_2 [some (.ro (ns.map .int)), some (.int at_), some (.cel k), some (encP p), x4, x5, x6, x7, x8] M2 = some (.nx [some (.ro (ns.map .int)), some (.int at_), some (.cel k), some (encP p), some (netD p), x5, x6, x7, x8] M3) := by
    simp [s_law_k06_0_b_2, ew]
  have u3 : s_law_k06_0_b_3 [some (.ro (ns.map .int)), some (.int at_), some (.cel k), some (encP p), some (netD p), x5, x6, x7, x8] M3 = some (.nx [some (.ro (ns.map .int)), some (.int at_), some (.cel k), some (encP p), some (netD p), some (.lst [.tup [wyD true, encQ P Q, seenD run5 rg5]]), x6, x7, x8] M5) := by
    have ey : wyD true = .str "good" := rfl
    simp [s_law_k06_0_b_3, e4, e5, slE, ey]
  have u4 : s_law_k06_0_b_4 [some (.ro (ns.map .int)), some (.int at_), some (.cel k), some (encP p), some (netD p), some (.lst [.tup [wyD true, encQ P Q, seenD run5 rg5]]), x6, x7, x8] M5 = some (.nx [some (.ro (ns.map .int)), some (.int at_), some (.cel k), some (encP p), some (netD p), some (.lst [.tup [wyD true, encQ P Q, seenD run5 rg5]]), some (wyD false), some (encQ P6 Q6), some (seenD run7 rg7)] M9) := by
    have ey : wyD false = .str "bad" := rfl
    have hi : gItL (gOp addF (gVar 5) (gLst (DL.gCons (DL.gTup (DL.gCons (gC (.str "bad")) (DL.gCons (gCallN 1 f_bad_share (DL.gCons (gVar 3) DL.gNil)) (DL.gCons (gCallN 1 f_bad_ring (DL.gCons (gVar 3) DL.gNil)) DL.gNil)))) DL.gNil))) [some (.ro (ns.map .int)), some (.int at_), some (.cel k), some (encP p), some (netD p), some (.lst [.tup [wyD true, encQ P Q, seenD run5 rg5]]), x6, x7, x8] M5 = okR [.tup [wyD true, encQ P Q, seenD run5 rg5], .tup [wyD false, encQ P6 Q6, seenD run7 rg7]] M7 := by
      simp [e6, e7, slE, addF, D.lstV, itemsD, ey]
    have n1 : ∀ (a b c : D) (y6 y7 y8 : Option D) (M : Sto), gTupT 3 (gsCons (DL.gName 6) (gsCons (DL.gName 7) (gsCons (DL.gName 8) gsNil))) (.tup [a, b, c]) [some (.ro (ns.map .int)), some (.int at_), some (.cel k), some (encP p), some (netD p), some (.lst [.tup [wyD true, encQ P Q, seenD run5 rg5]]), y6, y7, y8] M = okR [some (.ro (ns.map .int)), some (.int at_), some (.cel k), some (encP p), some (netD p), some (.lst [.tup [wyD true, encQ P Q, seenD run5 rg5]]), some a, some b, some c] M := fun _ _ _ _ _ _ _ => rfl
    rw [s_law_k06_0_b_4, gFor, hi, bindS_ok, forL, n1, bindS_ok, e8]
    simp only []
    rw [forL, n1, bindS_ok, e9]
    rfl
  refine ⟨[some (.cel k), some (encP p), some (netD p), some (.lst [.tup [wyD true, encQ P Q, seenD run5 rg5]]), some (wyD false), some (encQ P6 Q6), some (seenD run7 rg7)], M9, ?_, rfl⟩
  rw [s_law_k06_0_b, seq_nx u0, seq_nx u1, seq_nx u2, seq_nx u3, u4]
theorem law06_ok {ns : List Int} (hn : ns.length ≤ 63) : ∃ M', f_law_k06 [.ro (ns.map .int)] [] = some (.ok (.bl true) M') := by
  obtain ⟨x, r, M, e, _⟩ := head_ok (s_b := s_law_k06_0_b) (N := 2) (L := 7) (ns := ns) (by decide) fun i r M hi hr => k06_body hi hr
  refine ⟨M, ?_⟩
  show finS (g_law_k06 (some (.ro (ns.map .int)) :: none :: List.replicate 7 none) []) = _
  have e' : s_law_k06_0 (some (.ro (ns.map .int)) :: none :: List.replicate 7 none) [] = _ := e
  rw [s_law_k06_eq, s_law_k06, seq_nx e']
  rfl
end EB
namespace K06
open PySem PySem.Spec L2 DL EB
def top (i : Nat) : Stmt := PySem.Challenge.pw_eyedbelt_k06_whole_shares_in_the_long_ru.main.body.getD i (.Pass ⟨0, 0, 0, 0⟩)
abbrev s_is_within : Stmt := top 8
abbrev N_is_within : List Str := ["value", "low", "high"]
theorem sc_is_within : FnScope N_is_within ["value", "low", "high"] (defScope s_is_within) := ⟨rfl, rfl, rfl, by decide +kernel, rfl, by decide +kernel, by decide +kernel⟩
abbrev s_is_row : Stmt := top 9
abbrev N_is_row : List Str := ["value", "many"]
theorem sc_is_row : FnScope N_is_row ["value", "many"] (defScope s_is_row) := ⟨rfl, rfl, rfl, by decide +kernel, rfl, by decide +kernel, by decide +kernel⟩
abbrev s_is_program : Stmt := top 10
abbrev N_is_program : List Str := ["value"]
theorem sc_is_program : FnScope N_is_program ["value"] (defScope s_is_program) := ⟨rfl, rfl, rfl, by decide +kernel, rfl, by decide +kernel, by decide +kernel⟩
abbrev s_is_feed : Stmt := top 11
abbrev N_is_feed : List Str := ["value"]
theorem sc_is_feed : FnScope N_is_feed ["value"] (defScope s_is_feed) := ⟨rfl, rfl, rfl, by decide +kernel, rfl, by decide +kernel, by decide +kernel⟩
abbrev s_is_plan : Stmt := top 12
abbrev N_is_plan : List Str := ["value"]
theorem sc_is_plan : FnScope N_is_plan ["value"] (defScope s_is_plan) := ⟨rfl, rfl, rfl, by decide +kernel, rfl, by decide +kernel, by decide +kernel⟩
abbrev s_look_at_plan : Stmt := top 13
abbrev N_look_at_plan : List Str := ["plan"]
theorem sc_look_at_plan : FnScope N_look_at_plan ["plan"] (defScope s_look_at_plan) := ⟨rfl, rfl, rfl, by decide +kernel, rfl, by decide +kernel, by decide +kernel⟩
abbrev s_begin_of : Stmt := top 14
abbrev N_begin_of : List Str := ["plan"]
theorem sc_begin_of : FnScope N_begin_of ["plan"] (defScope s_begin_of) := ⟨rfl, rfl, rfl, by decide +kernel, rfl, by decide +kernel, by decide +kernel⟩
abbrev s_word_of : Stmt := top 17
abbrev N_word_of : List Str := ["plan", "one", "need"]
theorem sc_word_of : FnScope N_word_of ["plan", "one"] (defScope s_word_of) := ⟨rfl, rfl, rfl, by decide +kernel, rfl, by decide +kernel, by decide +kernel⟩
abbrev s_ran : Stmt := top 18
abbrev N_ran : List Str := ["plan", "stand", "comes", "places", "phase", "count", "noted", "since", "lag", "fill", "apart", "words", "news"]
theorem sc_ran : FnScope N_ran ["plan", "stand", "comes"] (defScope s_ran) := ⟨rfl, rfl, rfl, by decide +kernel, rfl, by decide +kernel, by decide +kernel⟩
abbrev s_filled : Stmt := top 19
abbrev N_filled : List Str := ["plan", "stand", "slips", "places", "phase", "count", "noted", "since", "tap", "need", "words"]
theorem sc_filled : FnScope N_filled ["plan", "stand", "slips"] (defScope s_filled) := ⟨rfl, rfl, rfl, by decide +kernel, rfl, by decide +kernel, by decide +kernel⟩
abbrev s_passed : Stmt := top 20
abbrev N_passed : List Str := ["plan", "stand", "choice", "there", "words"]
theorem sc_passed : FnScope N_passed ["plan", "stand", "choice"] (defScope s_passed) := ⟨rfl, rfl, rfl, by decide +kernel, rfl, by decide +kernel, by decide +kernel⟩
abbrev s_choices_of : Stmt := top 21
abbrev N_choices_of : List Str := ["plan", "stand", "apart", "lies", "slips", "need"]
theorem sc_choices_of : FnScope N_choices_of ["plan", "stand"] (defScope s_choices_of) := ⟨rfl, rfl, rfl, by decide +kernel, rfl, by decide +kernel, by decide +kernel⟩
abbrev s_net_of : Stmt := top 23
abbrev N_net_of : List Str := ["plan", "first", "found", "waiting", "at", "stand", "run", "ticks", "choice", "there", "words"]
theorem sc_net_of : FnScope N_net_of ["plan"] (defScope s_net_of) := ⟨rfl, rfl, rfl, by decide +kernel, rfl, by decide +kernel, by decide +kernel⟩
abbrev s_reduced : Stmt := top 26
abbrev N_reduced : List Str := ["top", "below", "one", "other"]
theorem sc_reduced : FnScope N_reduced ["top", "below"] (defScope s_reduced) := ⟨rfl, rfl, rfl, by decide +kernel, rfl, by decide +kernel, by decide +kernel⟩
abbrev s_is_bad : Stmt := top 27
abbrev N_is_bad : List Str := ["words", "word"]
theorem sc_is_bad : FnScope N_is_bad ["words"] (defScope s_is_bad) := ⟨rfl, rfl, rfl, by decide +kernel, rfl, by decide +kernel, by decide +kernel⟩
abbrev s_good_worth : Stmt := top 28
abbrev N_good_worth : List Str := ["words"]
theorem sc_good_worth : FnScope N_good_worth ["words"] (defScope s_good_worth) := ⟨rfl, rfl, rfl, by decide +kernel, rfl, by decide +kernel, by decide +kernel⟩
abbrev s_bad_worth : Stmt := top 29
abbrev N_bad_worth : List Str := ["words"]
theorem sc_bad_worth : FnScope N_bad_worth ["words"] (defScope s_bad_worth) := ⟨rfl, rfl, rfl, by decide +kernel, rfl, by decide +kernel, by decide +kernel⟩
abbrev s_ring_along : Stmt := top 30
abbrev N_ring_along : List Str := ["ahead", "stand", "line", "seen"]
theorem sc_ring_along : FnScope N_ring_along ["ahead", "stand"] (defScope s_ring_along) := ⟨rfl, rfl, rfl, by decide +kernel, rfl, by decide +kernel, by decide +kernel⟩
abbrev s_better_ring : Stmt := top 31
abbrev N_better_ring : List Str := ["net", "worth", "share", "high", "ahead", "changed", "stand", "run", "ticks", "choice", "there", "words", "top", "below", "now", "ring"]
theorem sc_better_ring : FnScope N_better_ring ["net", "worth", "share"] (defScope s_better_ring) := ⟨rfl, rfl, rfl, by decide +kernel, rfl, by decide +kernel, by decide +kernel⟩
abbrev s_best_by : Stmt := top 32
abbrev N_best_by : List Str := ["net", "worth", "share", "found", "ring", "row"]
theorem sc_best_by : FnScope N_best_by ["net", "worth"] (defScope s_best_by) := ⟨rfl, rfl, rfl, by decide +kernel, rfl, by decide +kernel, by decide +kernel⟩
abbrev s_shown : Stmt := top 33
abbrev N_shown : List Str := ["net", "ring", "row"]
theorem sc_shown : FnScope N_shown ["net", "ring"] (defScope s_shown) := ⟨rfl, rfl, rfl, by decide +kernel, rfl, by decide +kernel, by decide +kernel⟩
abbrev s_good_share : Stmt := top 34
abbrev N_good_share : List Str := ["plan"]
theorem sc_good_share : FnScope N_good_share ["plan"] (defScope s_good_share) := ⟨rfl, rfl, rfl, by decide +kernel, rfl, by decide +kernel, by decide +kernel⟩
abbrev s_good_ring : Stmt := top 35
abbrev N_good_ring : List Str := ["plan", "net"]
theorem sc_good_ring : FnScope N_good_ring ["plan"] (defScope s_good_ring) := ⟨rfl, rfl, rfl, by decide +kernel, rfl, by decide +kernel, by decide +kernel⟩
abbrev s_bad_share : Stmt := top 36
abbrev N_bad_share : List Str := ["plan"]
theorem sc_bad_share : FnScope N_bad_share ["plan"] (defScope s_bad_share) := ⟨rfl, rfl, rfl, by decide +kernel, rfl, by decide +kernel, by decide +kernel⟩
abbrev s_bad_ring : Stmt := top 37
abbrev N_bad_ring : List Str := ["plan", "net"]
theorem sc_bad_ring : FnScope N_bad_ring ["plan"] (defScope s_bad_ring) := ⟨rfl, rfl, rfl, by decide +kernel, rfl, by decide +kernel, by decide +kernel⟩
abbrev s__law_spring : Stmt := top 39
abbrev N__law_spring : List Str := ["script", "at", "cell", "mixed"]
theorem sc__law_spring : FnScope N__law_spring ["script", "at"] (defScope s__law_spring) := ⟨rfl, rfl, rfl, by decide +kernel, rfl, by decide +kernel, by decide +kernel⟩
abbrev s__law_pick : Stmt := top 40
abbrev N__law_pick : List Str := ["spring", "many", "digit"]
theorem sc__law_pick : FnScope N__law_pick ["spring", "many"] (defScope s__law_pick) := ⟨rfl, rfl, rfl, by decide +kernel, rfl, by decide +kernel, by decide +kernel⟩
abbrev s__law_feed : Stmt := top 43
abbrev N__law_feed : List Str := ["spring", "lies", "slips"]
theorem sc__law_feed : FnScope N__law_feed ["spring"] (defScope s__law_feed) := ⟨rfl, rfl, rfl, by decide +kernel, rfl, by decide +kernel, by decide +kernel⟩
abbrev s__law_plan : Stmt := top 44
abbrev N__law_plan : List Str := ["spring", "most", "belt", "tap", "eye", "feed", "lag", "fill"]
theorem sc__law_plan : FnScope N__law_plan ["spring", "most"] (defScope s__law_plan) := ⟨rfl, rfl, rfl, by decide +kernel, rfl, by decide +kernel, by decide +kernel⟩
abbrev s__law_begin : Stmt := top 45
abbrev N__law_begin : List Str := ["plan"]
theorem sc__law_begin : FnScope N__law_begin ["plan"] (defScope s__law_begin) := ⟨rfl, rfl, rfl, by decide +kernel, rfl, by decide +kernel, by decide +kernel⟩
abbrev s__law_out : Stmt := top 46
abbrev N__law_out : List Str := ["plan", "one"]
theorem sc__law_out : FnScope N__law_out ["plan", "one"] (defScope s__law_out) := ⟨rfl, rfl, rfl, by decide +kernel, rfl, by decide +kernel, by decide +kernel⟩
abbrev s__law_tick : Stmt := top 47
abbrev N__law_tick : List Str := ["plan", "stand", "choice", "places", "phase", "count", "memory", "since", "belt", "eye", "tap", "lag", "fill", "apart", "lies", "slips", "need", "row", "words_so", "line"]
theorem sc__law_tick : FnScope N__law_tick ["plan", "stand", "choice"] (defScope s__law_tick) := ⟨rfl, rfl, rfl, by decide +kernel, rfl, by decide +kernel, by decide +kernel⟩
abbrev s__law_choices : Stmt := top 48
abbrev N__law_choices : List Str := ["plan", "stand", "first", "found"]
theorem sc__law_choices : FnScope N__law_choices ["plan", "stand"] (defScope s__law_choices) := ⟨rfl, rfl, rfl, by decide +kernel, rfl, by decide +kernel, by decide +kernel⟩
abbrev s__law_ways : Stmt := top 49
abbrev N__law_ways : List Str := ["plan", "begin", "found", "queue", "at", "stand", "choice", "there", "words_so"]
theorem sc__law_ways : FnScope N__law_ways ["plan"] (defScope s__law_ways) := ⟨rfl, rfl, rfl, by decide +kernel, rfl, by decide +kernel, by decide +kernel⟩
abbrev s__law_worth : Stmt := top 52
abbrev N__law_worth : List Str := ["words_so", "way", "bad", "good", "word"]
theorem sc__law_worth : FnScope N__law_worth ["words_so", "way"] (defScope s__law_worth) := ⟨rfl, rfl, rfl, by decide +kernel, rfl, by decide +kernel, by decide +kernel⟩
abbrev s__law_is_greatest : Stmt := top 53
abbrev N__law_is_greatest : List Str := ["ways", "way", "share", "high", "turn", "grown", "stand", "choice", "there", "words_so", "top", "below", "now"]
theorem sc__law_is_greatest : FnScope N__law_is_greatest ["ways", "way", "share"] (defScope s__law_is_greatest) := ⟨rfl, rfl, rfl, by decide +kernel, rfl, by decide +kernel, by decide +kernel⟩
abbrev s__law_ring_right : Stmt := top 54
abbrev N__law_ring_right : List Str := ["plan", "seen", "way", "share", "stand", "top", "below", "choice", "begin", "words_so", "more"]
theorem sc__law_ring_right : FnScope N__law_ring_right ["plan", "seen", "way", "share"] (defScope s__law_ring_right) := ⟨rfl, rfl, rfl, by decide +kernel, rfl, by decide +kernel, by decide +kernel⟩
abbrev s__law_is_share : Stmt := top 55
abbrev N__law_is_share : List Str := ["value", "common", "one"]
theorem sc__law_is_share : FnScope N__law_is_share ["value"] (defScope s__law_is_share) := ⟨rfl, rfl, rfl, by decide +kernel, rfl, by decide +kernel, by decide +kernel⟩
abbrev s_law : Stmt := top 56
abbrev N_law : List Str := ["script", "at", "spring", "plan", "ways", "rows", "way", "share", "seen"]
theorem sc_law : FnScope N_law ["script"] (defScope s_law) := ⟨rfl, rfl, rfl, by decide +kernel, rfl, by decide +kernel, by decide +kernel⟩
/-- what the top has left -/
structure Top [Pw] (K : PySem.W.Frag) (mg : Str → Option Value) (CT : Nat → Addr) : Prop where
  F_is_within : DefD K mg "is_within" s_is_within ["value", "low", "high"]
  F_is_row : DefD K mg "is_row" s_is_row ["value", "many"]
  F_is_program : DefD K mg "is_program" s_is_program ["value"]
  F_is_feed : DefD K mg "is_feed" s_is_feed ["value"]
  F_is_plan : DefD K mg "is_plan" s_is_plan ["value"]
  F_look_at_plan : DefD K mg "look_at_plan" s_look_at_plan ["plan"]
  F_begin_of : DefD K mg "begin_of" s_begin_of ["plan"]
  F_word_of : DefD K mg "word_of" s_word_of ["plan", "one"]
  F_ran : DefD K mg "ran" s_ran ["plan", "stand", "comes"]
  F_filled : DefD K mg "filled" s_filled ["plan", "stand", "slips"]
  F_passed : DefD K mg "passed" s_passed ["plan", "stand", "choice"]
  F_choices_of : DefD K mg "choices_of" s_choices_of ["plan", "stand"]
  F_net_of : DefD K mg "net_of" s_net_of ["plan"]
  F_reduced : DefD K mg "reduced" s_reduced ["top", "below"]
  F_is_bad : DefD K mg "is_bad" s_is_bad ["words"]
  F_good_worth : DefD K mg "good_worth" s_good_worth ["words"]
  F_bad_worth : DefD K mg "bad_worth" s_bad_worth ["words"]
  F_ring_along : DefD K mg "ring_along" s_ring_along ["ahead", "stand"]
  F_better_ring : DefD K mg "better_ring" s_better_ring ["net", "worth", "share"]
  F_best_by : DefD K mg "best_by" s_best_by ["net", "worth"]
  F_shown : DefD K mg "shown" s_shown ["net", "ring"]
  F_good_share : DefD K mg "good_share" s_good_share ["plan"]
  F_good_ring : DefD K mg "good_ring" s_good_ring ["plan"]
  F_bad_share : DefD K mg "bad_share" s_bad_share ["plan"]
  F_bad_ring : DefD K mg "bad_ring" s_bad_ring ["plan"]
  F__law_spring : DefD K mg "_law_spring" s__law_spring ["script", "at"]
  F__law_pick : DefD K mg "_law_pick" s__law_pick ["spring", "many"]
  F__law_feed : DefD K mg "_law_feed" s__law_feed ["spring"]
  F__law_plan : DefD K mg "_law_plan" s__law_plan ["spring", "most"]
  F__law_begin : DefD K mg "_law_begin" s__law_begin ["plan"]
  F__law_out : DefD K mg "_law_out" s__law_out ["plan", "one"]
  F__law_tick : DefD K mg "_law_tick" s__law_tick ["plan", "stand", "choice"]
  F__law_choices : DefD K mg "_law_choices" s__law_choices ["plan", "stand"]
  F__law_ways : DefD K mg "_law_ways" s__law_ways ["plan"]
  F__law_worth : DefD K mg "_law_worth" s__law_worth ["words_so", "way"]
  F__law_is_greatest : DefD K mg "_law_is_greatest" s__law_is_greatest ["ways", "way", "share"]
  F__law_ring_right : DefD K mg "_law_ring_right" s__law_ring_right ["plan", "seen", "way", "share"]
  F__law_is_share : DefD K mg "_law_is_share" s__law_is_share ["value"]
  F_law : DefD K mg "law" s_law ["script"]
  n_abs : mg "abs" = none
  n_any : mg "any" = none
  n_bool : mg "bool" = none
  n_dict : mg "dict" = none
  n_int : mg "int" = none
  n_isinstance : mg "isinstance" = none
  n_len : mg "len" = none
  n_list : mg "list" = none
  n_min : mg "min" = none
  n_range : mg "range" = none
  n_sorted : mg "sorted" = none
  n_sum : mg "sum" = none
  n_tuple : mg "tuple" = none
  c_RUNS : CstD K mg "RUNS" (.str "runs")
  c_FILLS : CstD K mg "FILLS" (.str "fills")
  c_FREE : CstD K mg "FREE" (.int (-1))
  c_LYING : CstD K mg "LYING" (.int (-2))
  c_COMINGS : CstD K mg "COMINGS" (.tup [(.int (-1)), (.int 0), (.int (-2))])
  c_BAD : CstD K mg "BAD" (.tup [(.str "empty"), (.str "half"), (.str "over")])
  e_InvalidPlan : ExcF K mg "InvalidPlan" (CT 0)
section
variable [Pw] {K : PySem.W.Frag} {base : Heap} {CT : Nat → Addr}
theorem fd_is_within (T : Top K Pw.mg CT) : FnD Pw.P Pw.w K Pw.mg base CT "is_within" 3 1 f_is_within := fnD T.F_is_within sc_is_within fun a cdv A outer s H E dx => (dss_one (ds_ret (d_and (d_isi (by rfl) T.n_isinstance (by rfl) T.n_int bt_int tk_int (d_var 0)) (d_and (d_not (d_isi (by rfl) T.n_isinstance (by rfl) T.n_bool bt_bool tk_bool (d_var 0))) (d_one (d_chain o_le o_le (d_var 1) (d_var 0) (d_var 2)))))))
theorem fd_is_row (T : Top K Pw.mg CT) : FnD Pw.P Pw.w K Pw.mg base CT "is_row" 2 1 f_is_row := fnD T.F_is_row sc_is_row fun a cdv A outer s H E dx => (dss_one (ds_ret (d_and (d_isi (by rfl) T.n_isinstance (by rfl) T.n_tuple bt_tuple tk_tuple (d_var 0)) (d_one (d_cmp (o_eq dx.mk3) (d_callB c_len (by rfl) T.n_len bt_len (da_cons (d_var 0) da_nil)) (d_var 1) (nomark _))))))
theorem fd_is_program (T : Top K Pw.mg CT) : FnD Pw.P Pw.w K Pw.mg base CT "is_program" 1 2 f_is_program := fnD T.F_is_program sc_is_program fun a cdv A outer s H E dx => (dss_one (ds_ret (d_and (d_call (fd_is_row T) dx (by omega) (by rfl) (da_cons (d_var 0) (da_cons d_int da_nil))) (d_and (d_call (fd_is_within T) dx (by omega) (by rfl) (da_cons (d_ix x_seq (d_var 0) d_int (fun _ _ => rfl)) (da_cons d_int (da_cons d_int da_nil)))) (d_one (d_call (fd_is_within T) dx (by omega) (by rfl) (da_cons (d_ix x_seq (d_var 0) d_int (fun _ _ => rfl)) (da_cons d_int (da_cons d_int da_nil)))))))))
theorem fd_is_feed (T : Top K Pw.mg CT) : FnD Pw.P Pw.w K Pw.mg base CT "is_feed" 1 2 f_is_feed := fnD T.F_is_feed sc_is_feed fun a cdv A outer s H E dx => (dss_cons (ds_if (PW.pt (dw_or (dt_not (dt_val (d_call (fd_is_row T) dx (by omega) (by rfl) (da_cons (d_var 0) (da_cons d_int da_nil))))) (dw_or (dt_not (dt_val (d_call (fd_is_within T) dx (by omega) (by rfl) (da_cons (d_ix x_seq (d_var 0) d_int (fun _ _ => rfl)) (da_cons d_int (da_cons d_int da_nil)))))) (dw_or1 (dt_not (dt_val (d_call (fd_is_within T) dx (by omega) (by rfl) (da_cons (d_ix x_seq (d_var 0) d_int (fun _ _ => rfl)) (da_cons d_int (da_cons d_int da_nil)))))))))) (dss_one (ds_ret d_bl)) dss_nil) (dss_one (ds_ret (d_and (d_isi (by rfl) T.n_isinstance (by rfl) T.n_bool bt_bool tk_bool (d_ix x_seq (d_var 0) d_int (fun _ _ => rfl))) (d_one (d_isi (by rfl) T.n_isinstance (by rfl) T.n_bool bt_bool tk_bool (d_ix x_seq (d_var 0) d_int (fun _ _ => rfl))))))))
theorem fd_is_plan (T : Top K Pw.mg CT) : FnD Pw.P Pw.w K Pw.mg base CT "is_plan" 1 3 f_is_plan := fnD T.F_is_plan sc_is_plan fun a cdv A outer s H E dx => (dss_cons (ds_if (PW.pt (dw_or (dt_not (dt_val (d_call (fd_is_row T) dx (by omega) (by rfl) (da_cons (d_var 0) (da_cons d_int da_nil))))) (dw_or (dt_not (dt_val (d_call (fd_is_within T) dx (by omega) (by rfl) (da_cons (d_ix x_seq (d_var 0) d_int (fun _ _ => rfl)) (da_cons d_int (da_cons d_int da_nil)))))) (dw_or1 (dt_not (dt_val (d_call (fd_is_within T) dx (by omega) (by rfl) (da_cons (d_ix x_seq (d_var 0) d_int (fun _ _ => rfl)) (da_cons d_int (da_cons (d_bin o_sub (d_ix x_seq (d_var 0) d_int (fun _ _ => rfl)) d_int) da_nil)))))))))) (dss_one (ds_ret d_bl)) dss_nil) (dss_one (ds_ret (d_and (d_call (fd_is_within T) dx (by omega) (by rfl) (da_cons (d_ix x_seq (d_var 0) d_int (fun _ _ => rfl)) (da_cons d_int (da_cons (d_ix x_seq (d_var 0) d_int (fun _ _ => rfl)) da_nil)))) (d_and (d_call (fd_is_program T) dx (by omega) (by rfl) (da_cons (d_ix x_seq (d_var 0) d_int (fun _ _ => rfl)) da_nil)) (d_one (d_call (fd_is_feed T) dx (by omega) (by rfl) (da_cons (d_ix x_seq (d_var 0) d_int (fun _ _ => rfl)) da_nil))))))))
theorem fd_look_at_plan (T : Top K Pw.mg CT) : FnD Pw.P Pw.w K Pw.mg base CT "look_at_plan" 1 4 f_look_at_plan := fnD T.F_look_at_plan sc_look_at_plan fun a cdv A outer s H E dx => (dss_one (ds_if (dt_not (dt_val (d_call (fd_is_plan T) dx (by omega) (by rfl) (da_cons (d_var 0) da_nil)))) (dss_one (ds_raise dx T.e_InvalidPlan (by rfl))) dss_nil))
theorem fd_begin_of (T : Top K Pw.mg CT) : FnD Pw.P Pw.w K Pw.mg base CT "begin_of" 1 1 f_begin_of := fnD T.F_begin_of sc_begin_of fun a cdv A outer s H E dx => (dss_one (ds_ret (d_tup (da_cons (d_bin o_mul (d_tup (da_cons (d_cg T.c_FREE (by rfl)) da_nil)) (d_ix x_seq (d_var 0) d_int (fun _ _ => rfl))) (da_cons (d_cg T.c_RUNS (by rfl)) (da_cons d_int (da_cons (d_bin o_mul (d_tup (da_cons d_bl da_nil)) (d_ix x_seq (d_ix x_seq (d_var 0) d_int (fun _ _ => rfl)) d_int (fun _ _ => rfl))) (da_cons (d_ix x_seq (d_ix x_seq (d_var 0) d_int (fun _ _ => rfl)) d_int (fun _ _ => rfl)) da_nil))))))))
theorem fd_word_of (T : Top K Pw.mg CT) : FnD Pw.P Pw.w K Pw.mg base CT "word_of" 2 1 f_word_of := fnD T.F_word_of sc_word_of fun a cdv A outer s H E dx => (dss_cons (ds_set (i := 2) dx.nd rfl (Or.inl rfl) (d_ix x_seq (d_ix x_seq (d_var 0) d_int (fun _ _ => rfl)) d_int (fun _ _ => rfl))) (dss_cons (ds_if (dt_cmp (o_eq dx.mk3) (d_var 1) (d_cg T.c_FREE (by rfl)) (nomark _)) (dss_one (ds_ret (d_lst da_nil))) dss_nil) (dss_cons (ds_if (dt_cmp (o_eq dx.mk3) (d_var 1) (d_cg T.c_LYING (by rfl)) (nomark _)) (dss_one (ds_ret (d_lst (da_cons d_str da_nil)))) dss_nil) (dss_cons (ds_if (dt_cmp (o_eq dx.mk3) (d_var 1) d_int (nomark _)) (dss_one (ds_ret (d_lst (da_cons d_str da_nil)))) dss_nil) (dss_one (ds_ret (d_ifE (dt_cmp o_lt (d_var 1) (d_var 2) (nomark _)) (d_lst (da_cons d_str da_nil)) (d_ifE (dt_cmp (o_eq dx.mk3) (d_var 1) (d_var 2) (nomark _)) (d_lst (da_cons d_str da_nil)) (d_lst (da_cons d_str da_nil))))))))))
theorem fd_ran (T : Top K Pw.mg CT) : FnD Pw.P Pw.w K Pw.mg base CT "ran" 3 2 f_ran := fnD T.F_ran sc_ran fun a cdv A outer s H E dx => (dss_cons (ds_asg (d_var 1) (dg_tup dx.calm (dgs_cons (dg_name dx.nd rfl (Or.inl rfl)) (dgs_cons (dg_name dx.nd rfl (Or.inl rfl)) (dgs_cons (dg_name dx.nd rfl (Or.inl rfl)) (dgs_cons (dg_name dx.nd rfl (Or.inl rfl)) (dgs_cons (dg_name dx.nd rfl (Or.inl rfl)) dgs_nil))))))) (dss_cons (ds_asg (d_tup (da_cons (d_ix x_seq (d_var 0) d_int (fun _ _ => rfl)) (da_cons (d_ix x_seq (d_ix x_seq (d_var 0) d_int (fun _ _ => rfl)) d_int (fun _ _ => rfl)) da_nil))) (dg_tup dx.calm (dgs_cons (dg_tup dx.calm (dgs_cons (dg_name dx.nd rfl (Or.inl rfl)) (dgs_cons (dg_name dx.nd rfl (Or.inl rfl)) dgs_nil))) (dgs_cons (dg_name dx.nd rfl (Or.inl rfl)) dgs_nil)))) (dss_cons (ds_set (i := 11) dx.nd rfl (Or.inl rfl) (d_call (fd_word_of T) dx (by omega) (by rfl) (da_cons (d_var 0) (da_cons (d_ix x_seq (d_var 3) (d_neg d_int) (fun _ _ => rfl)) da_nil)))) (dss_cons (ds_set (i := 3) dx.nd rfl (Or.inl rfl) (d_bin o_add (d_tup (da_cons (d_ix x_seq (d_cg T.c_COMINGS (by rfl)) (d_var 2) (fun _ _ => rfl)) da_nil)) (d_slice s_seq (d_var 3) do_none (do_some (d_neg d_int))))) (dss_cons (ds_set (i := 7) dx.nd rfl (Or.inl rfl) (d_ifE (dt_cmp o_gt (d_var 2) d_int (nomark _)) d_int (d_callB (c_min dx.calm) (by rfl) T.n_min bt_min (da_cons (d_var 10) (da_cons (d_bin o_add (d_var 7) d_int) da_nil))))) (dss_cons (ds_set (i := 12) dx.nd rfl (Or.inl rfl) (d_bin o_add (d_var 6) (d_tup (da_cons (d_cmp o_ge (d_ix x_seq (d_var 3) (d_ix x_seq (d_var 0) d_int (fun _ _ => rfl)) (fun _ _ => rfl)) d_int (nomark _)) da_nil)))) (dss_cons (ds_if (dt_val (d_ix x_seq (d_var 12) d_int (fun _ _ => rfl))) (dss_one (ds_ret (d_tup (da_cons (d_tup (da_cons (d_var 3) (da_cons (d_cg T.c_FILLS (by rfl)) (da_cons (d_var 9) (da_cons (d_slice s_seq (d_var 12) (do_some d_int) do_none) (da_cons (d_var 7) da_nil)))))) (da_cons (d_var 11) da_nil))))) dss_nil) (dss_one (ds_ret (d_tup (da_cons (d_tup (da_cons (d_var 3) (da_cons (d_cg T.c_RUNS (by rfl)) (da_cons d_int (da_cons (d_slice s_seq (d_var 12) (do_some d_int) do_none) (da_cons (d_var 7) da_nil)))))) (da_cons (d_var 11) da_nil))))))))))))
theorem fd_filled (T : Top K Pw.mg CT) : FnD Pw.P Pw.w K Pw.mg base CT "filled" 3 2 f_filled := fnD T.F_filled sc_filled fun a cdv A outer s H E dx => (dss_cons (ds_asg (d_var 1) (dg_tup dx.calm (dgs_cons (dg_name dx.nd rfl (Or.inl rfl)) (dgs_cons (dg_name dx.nd rfl (Or.inl rfl)) (dgs_cons (dg_name dx.nd rfl (Or.inl rfl)) (dgs_cons (dg_name dx.nd rfl (Or.inl rfl)) (dgs_cons (dg_name dx.nd rfl (Or.inl rfl)) dgs_nil))))))) (dss_cons (ds_par3 (i := 8) (j := 9) (l := 10) dx.calm dx.nd rfl rfl rfl (by decide) (by decide) (by decide) rfl rfl rfl (da_cons (d_ix x_seq (d_var 0) d_int (fun _ _ => rfl)) (da_cons (d_ix x_seq (d_ix x_seq (d_var 0) d_int (fun _ _ => rfl)) d_int (fun _ _ => rfl)) (da_cons (d_lst da_nil) da_nil)))) (dss_cons (ds_if (dt_val (d_var 2)) (dss_cons (ds_set (i := 10) dx.nd rfl (Or.inl rfl) (d_call (fd_word_of T) dx (by omega) (by rfl) (da_cons (d_var 0) (da_cons (d_ix x_seq (d_var 3) (d_neg d_int) (fun _ _ => rfl)) da_nil)))) (dss_one (ds_set (i := 3) dx.nd rfl (Or.inl rfl) (d_bin o_add (d_tup (da_cons (d_cg T.c_FREE (by rfl)) da_nil)) (d_slice s_seq (d_var 3) do_none (do_some (d_neg d_int))))))) dss_nil) (dss_cons (ds_if (dt_cmp o_ge (d_ix x_seq (d_var 3) (d_var 8) (fun _ _ => rfl)) d_int (nomark _)) (dss_one (ds_set (i := 3) dx.nd rfl (Or.inl rfl) (d_bin o_add (d_bin o_add (d_slice s_seq (d_var 3) do_none (do_some (d_var 8))) (d_tup (da_cons (d_callB (c_min dx.calm) (by rfl) T.n_min bt_min (da_cons (d_bin o_add (d_var 9) d_int) (da_cons (d_bin o_add (d_ix x_seq (d_var 3) (d_var 8) (fun _ _ => rfl)) d_int) da_nil))) da_nil))) (d_slice s_seq (d_var 3) (do_some (d_bin o_add (d_var 8) d_int)) do_none)))) (dss_one (ds_set (i := 10) dx.nd rfl (Or.inl rfl) (d_bin o_add (d_var 10) (d_lst (da_cons d_str da_nil)))))) (dss_one (ds_ret (d_tup (da_cons (d_tup (da_cons (d_var 3) (da_cons (d_ifE (dt_cmp o_gt (d_var 5) d_int (nomark _)) (d_cg T.c_FILLS (by rfl)) (d_cg T.c_RUNS (by rfl))) (da_cons (d_bin o_sub (d_var 5) d_int) (da_cons (d_var 6) (da_cons (d_var 7) da_nil)))))) (da_cons (d_var 10) da_nil)))))))))
theorem fd_passed (T : Top K Pw.mg CT) : FnD Pw.P Pw.w K Pw.mg base CT "passed" 3 3 f_passed := fnD T.F_passed sc_passed fun a cdv A outer s H E dx => (dss_cons (ds_asg (d_ifE (dt_cmp (o_eq dx.mk3) (d_ix x_seq (d_var 1) d_int (fun _ _ => rfl)) (d_cg T.c_RUNS (by rfl)) (nomark _)) (d_call (fd_ran T) dx (by omega) (by rfl) (da_cons (d_var 0) (da_cons (d_var 1) (da_cons (d_ix x_seq (d_var 2) d_int (fun _ _ => rfl)) da_nil)))) (d_call (fd_filled T) dx (by omega) (by rfl) (da_cons (d_var 0) (da_cons (d_var 1) (da_cons (d_ix x_seq (d_var 2) d_int (fun _ _ => rfl)) da_nil))))) (dg_tup dx.calm (dgs_cons (dg_name dx.nd rfl (Or.inl rfl)) (dgs_cons (dg_name dx.nd rfl (Or.inl rfl)) dgs_nil)))) (dss_one (ds_ret (d_tup (da_cons (d_var 3) (da_cons (d_callB c_sorted (by rfl) T.n_sorted bt_sorted (da_cons (d_var 4) da_nil)) da_nil))))))
theorem fd_choices_of (T : Top K Pw.mg CT) : FnD Pw.P Pw.w K Pw.mg base CT "choices_of" 2 1 f_choices_of := fnD T.F_choices_of sc_choices_of fun a cdv A outer s H E dx => (dss_cons (ds_asg (d_ix x_seq (d_var 0) d_int (fun _ _ => rfl)) (dg_tup dx.calm (dgs_cons (dg_name dx.nd rfl (Or.inl rfl)) (dgs_cons (dg_name dx.nd rfl (Or.inl rfl)) (dgs_cons (dg_name dx.nd rfl (Or.inl rfl)) (dgs_cons (dg_name dx.nd rfl (Or.inl rfl)) dgs_nil)))))) (dss_cons (ds_if (dt_cmp (o_eq dx.mk3) (d_ix x_seq (d_var 1) d_int (fun _ _ => rfl)) (d_cg T.c_FILLS (by rfl)) (nomark _)) (dss_one (ds_ret (d_bin o_add (d_lst (da_cons (d_tup (da_cons d_int (da_cons d_bl da_nil))) da_nil)) (d_bin o_mul (d_lst (da_cons (d_tup (da_cons d_int (da_cons d_bl da_nil))) da_nil)) (d_callTy c_int (by rfl) T.n_int bt_int (da_cons (d_and (d_var 4) (d_one (d_cmp (o_eq dx.mk3) (d_ix x_seq (d_var 1) d_int (fun _ _ => rfl)) (d_ix x_seq (d_ix x_seq (d_var 0) d_int (fun _ _ => rfl)) d_int (fun _ _ => rfl)) (nomark _)))) da_nil)))))) dss_nil) (dss_cons (ds_if (dt_cmp o_lt (d_ix x_seq (d_var 1) d_int (fun _ _ => rfl)) (d_var 2) (nomark _)) (dss_one (ds_ret (d_lst (da_cons (d_tup (da_cons d_int (da_cons d_bl da_nil))) da_nil)))) dss_nil) (dss_one (ds_ret (d_bin o_add (d_lst (da_cons (d_tup (da_cons d_int (da_cons d_bl da_nil))) (da_cons (d_tup (da_cons d_int (da_cons d_bl da_nil))) da_nil))) (d_bin o_mul (d_lst (da_cons (d_tup (da_cons d_int (da_cons d_bl da_nil))) da_nil)) (d_callTy c_int (by rfl) T.n_int bt_int (da_cons (d_var 3) da_nil)))))))))
theorem fd_net_of (T : Top K Pw.mg CT) : FnD Pw.P Pw.w K Pw.mg base CT "net_of" 1 4 f_net_of := fnD T.F_net_of sc_net_of fun a cdv A outer s H E dx => (dss_cons (ds_set (i := 1) dx.nd rfl (Or.inl rfl) (d_call (fd_begin_of T) dx (by omega) (by rfl) (da_cons (d_var 0) da_nil))) (dss_cons (ds_par3 (i := 2) (j := 3) (l := 4) dx.calm dx.nd rfl rfl rfl (by decide) (by decide) (by decide) rfl rfl rfl (da_cons (d_dict1 dx (d_var 1) (d_tup (da_cons (d_tup da_nil) (da_cons (d_lstC da_nil) da_nil)))) (da_cons (d_lstC (da_cons (d_var 1) da_nil)) (da_cons d_int da_nil)))) (dss_cons (ds_while dx.own (dt_cmp o_lt (d_var 4) (d_callB c_len (by rfl) T.n_len bt_len (da_cons (d_var 3) da_nil)) (nomark _)) (dss_cons (ds_set (i := 5) dx.nd rfl (Or.inl rfl) (d_ix x_seq (d_var 3) (d_var 4) (fun _ _ => rfl))) (dss_cons (ds_set (i := 4) dx.nd rfl (Or.inl rfl) (d_bin o_add (d_var 4) d_int)) (dss_cons (ds_asg (d_ix (x_dict dx) (d_var 2) (d_var 5) (fun _ _ => rfl)) (dg_tup dx.calm (dgs_cons (dg_name dx.nd rfl (Or.inl rfl)) (dgs_cons (dg_name dx.nd rfl (Or.inl rfl)) dgs_nil)))) (dss_one (ds_for dx.own dx.calm (di_list (d_call (fd_choices_of T) dx (by omega) (by rfl) (da_cons (d_var 0) (da_cons (d_var 5) da_nil)))) (dg_name dx.nd rfl (Or.inl rfl)) (dss_cons (ds_asg (d_call (fd_passed T) dx (by omega) (by rfl) (da_cons (d_var 0) (da_cons (d_var 5) (da_cons (d_var 8) da_nil)))) (dg_tup dx.calm (dgs_cons (dg_name dx.nd rfl (Or.inl rfl)) (dgs_cons (dg_name dx.nd rfl (Or.inl rfl)) dgs_nil)))) (dss_cons (ds_expr (d_app (d_var 7) (d_tup (da_cons (d_var 8) (da_cons (d_var 9) (da_cons (d_var 10) da_nil)))))) (dss_one (ds_if (dt_cmp (o_notInD dx) (d_var 9) (d_var 2) (by rfl)) (dss_cons (ds_asg (d_tup (da_cons (d_bin o_add (d_var 6) (d_tup (da_cons (d_var 8) da_nil))) (da_cons (d_lstC da_nil) da_nil))) (dg_subD dx (d_var 2) (d_var 9))) (dss_one (ds_expr (d_app (d_var 3) (d_var 9))))) dss_nil)))))))))) (dss_one (ds_ret (d_frzN (d_var 2)))))))
theorem fd_reduced (T : Top K Pw.mg CT) : FnD Pw.P Pw.w K Pw.mg base CT "reduced" 2 1 f_reduced := fnD T.F_reduced sc_reduced fun a cdv A outer s H E dx => (dss_cons (ds_par (i := 2) (j := 3) dx.calm dx.nd rfl rfl (by decide) rfl rfl (da_cons (d_var 0) (da_cons (d_var 1) da_nil))) (dss_cons (ds_while dx.own (dt_cmp o_gt (d_var 3) d_int (nomark _)) (dss_one (ds_par (i := 2) (j := 3) dx.calm dx.nd rfl rfl (by decide) rfl rfl (da_cons (d_var 3) (da_cons (d_bin o_mod (d_var 2) (d_var 3)) da_nil))))) (dss_one (ds_ret (d_tup (da_cons (d_bin o_fdiv (d_var 0) (d_var 2)) (da_cons (d_bin o_fdiv (d_var 1) (d_var 2)) da_nil)))))))
theorem fd_is_bad (T : Top K Pw.mg CT) : FnD Pw.P Pw.w K Pw.mg base CT "is_bad" 1 1 f_is_bad := fnD T.F_is_bad sc_is_bad fun a cdv A outer s H E dx => (dss_one (ds_ret (d_callB (c_any dx.calm) (by rfl) T.n_any bt_any (da_cons (d_lc (T := .one 1) dx (di_list (d_var 0)) (blkOk_by (own := [("word", 1)]) (N := N_is_bad) (sc := defScope s_is_bad) (by decide +kernel)) (by decide) (fun _ _ _ _ _ => (pg_name (i := 1) dx.nd rfl (Or.inl rfl))) (fun _ _ _ _ _ => dts_nil) (fun _ _ _ _ _ dx' => (d_cmp (o_in dx'.mk4) (d_var 1) (d_cg T.c_BAD (by rfl)) (by rfl)))) da_nil))))
theorem fd_good_worth (T : Top K Pw.mg CT) : FnD Pw.P Pw.w K Pw.mg base CT "good_worth" 1 1 f_good_worth := fnD T.F_good_worth sc_good_worth fun a cdv A outer s H E dx => (dss_one (ds_ret (d_tup (da_cons (d_callTy c_int (by rfl) T.n_int bt_int (da_cons (d_cmp (o_in dx.mk4) d_str (d_var 0) (by rfl)) da_nil)) (da_cons d_int da_nil)))))
theorem fd_bad_worth (T : Top K Pw.mg CT) : FnD Pw.P Pw.w K Pw.mg base CT "bad_worth" 1 2 f_bad_worth := fnD T.F_bad_worth sc_bad_worth fun a cdv A outer s H E dx => (dss_one (ds_ret (d_tup (da_cons (d_callTy c_int (by rfl) T.n_int bt_int (da_cons (d_call (fd_is_bad T) dx (by omega) (by rfl) (da_cons (d_var 0) da_nil)) da_nil)) (da_cons (d_callTy c_int (by rfl) T.n_int bt_int (da_cons (d_or (d_call (fd_is_bad T) dx (by omega) (by rfl) (da_cons (d_var 0) da_nil)) (d_one (d_cmp (o_in dx.mk4) d_str (d_var 0) (by rfl)))) da_nil)) da_nil)))))
theorem fd_ring_along (T : Top K Pw.mg CT) : FnD Pw.P Pw.w K Pw.mg base CT "ring_along" 2 1 f_ring_along := fnD T.F_ring_along sc_ring_along fun a cdv A outer s H E dx => (dss_cons (ds_par (i := 2) (j := 3) dx.calm dx.nd rfl rfl (by decide) rfl rfl (da_cons (d_lstC da_nil) (da_cons d_dict0 da_nil))) (dss_cons (ds_while dx.own (PW.pt (dw_and (dt_cmp (o_inD dx) (d_var 1) (d_var 0) (by rfl)) (dw_and1 (dt_cmp (o_notInD dx) (d_var 1) (d_var 3) (by rfl))))) (dss_cons (ds_asg (d_callB c_len (by rfl) T.n_len bt_len (da_cons (d_var 2) da_nil)) (dg_subD dx (d_var 3) (d_var 1))) (dss_cons (ds_expr (d_app (d_var 2) (d_ix (x_dict dx) (d_var 0) (d_var 1) (fun _ _ => rfl)))) (dss_one (ds_set (i := 1) dx.nd rfl (Or.inl rfl) (d_ix x_seq (d_ix (x_dict dx) (d_var 0) (d_var 1) (fun _ _ => rfl)) d_int (fun _ _ => rfl))))))) (dss_one (ds_ret (d_ifE (dt_cmp (o_inD dx) (d_var 1) (d_var 3) (by rfl)) (d_rev (d_slice s_seq (d_var 2) (do_some (d_ix (x_dict dx) (d_var 3) (d_var 1) (fun _ _ => rfl))) do_none)) d_non)))))
theorem fd_better_ring (T : Top K Pw.mg CT) : FnD Pw.P Pw.w K Pw.mg base CT "better_ring" 3 3 f_better_ring := fnD T.F_better_ring sc_better_ring fun a cdv A outer s H E dx => (dss_cons (ds_par3 (i := 3) (j := 4) (l := 5) dx.calm dx.nd rfl rfl rfl (by decide) (by decide) (by decide) rfl rfl rfl (da_cons (d_dcN (T := .one 6) dx (di_nk (d_var 0)) (blkOk_by (own := [("stand", 6)]) (N := N_better_ring) (sc := defScope s_better_ring) (by decide +kernel)) (by decide) (fun _ _ _ _ _ => (pg_name (i := 6) dx.nd rfl (Or.inl rfl))) (fun _ _ _ _ _ => dts_nil) (fun _ _ _ _ _ dx' => (d_var 6)) (fun _ _ _ _ _ dx' => d_int)) (da_cons d_dict0 (da_cons d_bl da_nil)))) (dss_cons (ds_while dx.own (dt_val (d_var 5)) (dss_cons (ds_set (i := 5) dx.nd rfl (Or.inl rfl) d_bl) (dss_one (ds_for dx.own dx.calm (di_ni (d_var 0)) (dg_tup dx.calm (dgs_cons (dg_name dx.nd rfl (Or.inl rfl)) (dgs_cons (dg_tup dx.calm (dgs_cons (dg_name dx.nd rfl (Or.inl rfl)) (dgs_cons (dg_name dx.nd rfl (Or.inl rfl)) dgs_nil))) dgs_nil))) (dss_one (ds_for dx.own dx.calm (di_list (d_var 8)) (dg_tup dx.calm (dgs_cons (dg_name dx.nd rfl (Or.inl rfl)) (dgs_cons (dg_name dx.nd rfl (Or.inl rfl)) (dgs_cons (dg_name dx.nd rfl (Or.inl rfl)) dgs_nil)))) (dss_cons (ds_asg (d_callV (i := 1) dx (fd_good_worth T) (fd_bad_worth T) (by omega) (by omega) (da_cons (d_var 11) da_nil)) (dg_tup dx.calm (dgs_cons (dg_name dx.nd rfl (Or.inl rfl)) (dgs_cons (dg_name dx.nd rfl (Or.inl rfl)) dgs_nil)))) (dss_cons (ds_set (i := 14) dx.nd rfl (Or.inl rfl) (d_bin o_sub (d_bin o_add (d_ix (x_dict dx) (d_var 3) (d_var 6) (fun _ _ => rfl)) (d_bin o_mul (d_var 12) (d_ix x_seq (d_var 2) d_int (fun _ _ => rfl)))) (d_bin o_mul (d_var 13) (d_ix x_seq (d_var 2) d_int (fun _ _ => rfl))))) (dss_one (ds_if (dt_cmp o_gt (d_var 14) (d_ix (x_dict dx) (d_var 3) (d_var 10) (fun _ _ => rfl)) (nomark _)) (dss_cons (ds_asg (d_tup (da_cons (d_var 14) (da_cons (d_tup (da_cons (d_var 6) (da_cons (d_var 9) (da_cons (d_tup (da_cons (d_var 12) (da_cons (d_var 13) da_nil))) da_nil)))) (da_cons d_bl da_nil)))) (dg_tup dx.calm (dgs_cons (dg_subD dx (d_var 3) (d_var 10)) (dgs_cons (dg_subD dx (d_var 4) (d_var 10)) (dgs_cons (dg_name dx.nd rfl (Or.inl rfl)) dgs_nil))))) (dss_cons (ds_set (i := 15) dx.nd rfl (Or.inl rfl) (d_call (fd_ring_along T) dx (by omega) (by rfl) (da_cons (d_var 4) (da_cons (d_var 10) da_nil)))) (dss_one (ds_if (dt_notN (d_var 15)) (dss_one (ds_ret (d_var 15))) dss_nil)))) dss_nil)))))))))) (dss_one (ds_ret d_non))))
theorem fd_best_by (T : Top K Pw.mg CT) : FnD Pw.P Pw.w K Pw.mg base CT "best_by" 2 4 f_best_by := fnD T.F_best_by sc_best_by fun a cdv A outer s H E dx => (dss_cons (ds_asg (d_tup (da_cons (d_tup (da_cons (d_neg d_int) (da_cons d_int da_nil))) (da_cons d_non da_nil))) (dg_tup dx.calm (dgs_cons (dg_name dx.nd rfl (Or.inl rfl)) (dgs_cons (dg_name dx.nd rfl (Or.inl rfl)) dgs_nil)))) (dss_cons (ds_set (i := 4) dx.nd rfl (Or.inl rfl) (d_call (fd_better_ring T) dx (by omega) (by rfl) (da_cons (d_var 0) (da_cons (d_var 1) (da_cons (d_var 2) da_nil))))) (dss_cons (ds_while dx.own (dt_notN (d_var 4)) (dss_cons (ds_set (i := 2) dx.nd rfl (Or.inl rfl) (d_call (fd_reduced T) dx (by omega) (by rfl) (da_cons (d_callB (c_sum dx.calm) (by rfl) T.n_sum bt_sum (da_cons (d_lc (T := .one 5) dx (di_list (d_var 4)) (blkOk_by (own := [("row", 5)]) (N := N_best_by) (sc := defScope s_best_by) (by decide +kernel)) (by decide) (fun _ _ _ _ _ => (pg_name (i := 5) dx.nd rfl (Or.inl rfl))) (fun _ _ _ _ _ => dts_nil) (fun _ _ _ _ _ dx' => (d_ix x_seq (d_ix x_seq (d_var 5) d_int (fun _ _ => rfl)) d_int (fun _ _ => rfl)))) da_nil)) (da_cons (d_callB (c_sum dx.calm) (by rfl) T.n_sum bt_sum (da_cons (d_lc (T := .one 5) dx (di_list (d_var 4)) (blkOk_by (own := [("row", 5)]) (N := N_best_by) (sc := defScope s_best_by) (by decide +kernel)) (by decide) (fun _ _ _ _ _ => (pg_name (i := 5) dx.nd rfl (Or.inl rfl))) (fun _ _ _ _ _ => dts_nil) (fun _ _ _ _ _ dx' => (d_ix x_seq (d_ix x_seq (d_var 5) d_int (fun _ _ => rfl)) d_int (fun _ _ => rfl)))) da_nil)) da_nil)))) (dss_cons (ds_set (i := 3) dx.nd rfl (Or.inl rfl) (d_var 4)) (dss_one (ds_set (i := 4) dx.nd rfl (Or.inl rfl) (d_call (fd_better_ring T) dx (by omega) (by rfl) (da_cons (d_var 0) (da_cons (d_var 1) (da_cons (d_var 2) da_nil))))))))) (dss_one (ds_ret (d_tup (da_cons (d_var 2) (da_cons (d_var 3) da_nil))))))))
theorem fd_shown (T : Top K Pw.mg CT) : FnD Pw.P Pw.w K Pw.mg base CT "shown" 2 1 f_shown := fnD T.F_shown sc_shown fun a cdv A outer s H E dx => (dss_one (ds_ret (d_tup (da_cons (d_ix x_seq (d_ix (x_dict dx) (d_var 0) (d_ix x_seq (d_ix x_seq (d_var 1) d_int (fun _ _ => rfl)) d_int (fun _ _ => rfl)) (fun _ _ => rfl)) d_int (fun _ _ => rfl)) (da_cons (d_callTy c_tuple (by rfl) T.n_tuple bt_tuple (da_cons (d_lc (T := .one 2) dx (di_list (d_var 1)) (blkOk_by (own := [("row", 2)]) (N := N_shown) (sc := defScope s_shown) (by decide +kernel)) (by decide) (fun _ _ _ _ _ => (pg_name (i := 2) dx.nd rfl (Or.inl rfl))) (fun _ _ _ _ _ => dts_nil) (fun _ _ _ _ _ dx' => (d_ix x_seq (d_var 2) d_int (fun _ _ => rfl)))) da_nil)) da_nil)))))
theorem fd_good_share (T : Top K Pw.mg CT) : FnD Pw.P Pw.w K Pw.mg base CT "good_share" 1 5 f_good_share := fnD T.F_good_share sc_good_share fun a cdv A outer s H E dx => (dss_cons (ds_expr (d_call (fd_look_at_plan T) dx (by omega) (by rfl) (da_cons (d_var 0) da_nil))) (dss_one (ds_ret (d_ix x_seq (d_call (fd_best_by T) dx (by omega) (by rfl) (da_cons (d_call (fd_net_of T) dx (by omega) (by rfl) (da_cons (d_var 0) da_nil)) (da_cons (d_glo dx (fd_good_worth T) (by rfl)) da_nil))) d_int (fun _ _ => rfl)))))
theorem fd_good_ring (T : Top K Pw.mg CT) : FnD Pw.P Pw.w K Pw.mg base CT "good_ring" 1 5 f_good_ring := fnD T.F_good_ring sc_good_ring fun a cdv A outer s H E dx => (dss_cons (ds_expr (d_call (fd_look_at_plan T) dx (by omega) (by rfl) (da_cons (d_var 0) da_nil))) (dss_cons (ds_set (i := 1) dx.nd rfl (Or.inl rfl) (d_call (fd_net_of T) dx (by omega) (by rfl) (da_cons (d_var 0) da_nil))) (dss_one (ds_ret (d_call (fd_shown T) dx (by omega) (by rfl) (da_cons (d_var 1) (da_cons (d_ix x_seq (d_call (fd_best_by T) dx (by omega) (by rfl) (da_cons (d_var 1) (da_cons (d_glo dx (fd_good_worth T) (by rfl)) da_nil))) d_int (fun _ _ => rfl)) da_nil)))))))
theorem fd_bad_share (T : Top K Pw.mg CT) : FnD Pw.P Pw.w K Pw.mg base CT "bad_share" 1 5 f_bad_share := fnD T.F_bad_share sc_bad_share fun a cdv A outer s H E dx => (dss_cons (ds_expr (d_call (fd_look_at_plan T) dx (by omega) (by rfl) (da_cons (d_var 0) da_nil))) (dss_one (ds_ret (d_ix x_seq (d_call (fd_best_by T) dx (by omega) (by rfl) (da_cons (d_call (fd_net_of T) dx (by omega) (by rfl) (da_cons (d_var 0) da_nil)) (da_cons (d_glo dx (fd_bad_worth T) (by rfl)) da_nil))) d_int (fun _ _ => rfl)))))
theorem fd_bad_ring (T : Top K Pw.mg CT) : FnD Pw.P Pw.w K Pw.mg base CT "bad_ring" 1 5 f_bad_ring := fnD T.F_bad_ring sc_bad_ring fun a cdv A outer s H E dx => (dss_cons (ds_expr (d_call (fd_look_at_plan T) dx (by omega) (by rfl) (da_cons (d_var 0) da_nil))) (dss_cons (ds_set (i := 1) dx.nd rfl (Or.inl rfl) (d_call (fd_net_of T) dx (by omega) (by rfl) (da_cons (d_var 0) da_nil))) (dss_one (ds_ret (d_call (fd_shown T) dx (by omega) (by rfl) (da_cons (d_var 1) (da_cons (d_ix x_seq (d_call (fd_best_by T) dx (by omega) (by rfl) (da_cons (d_var 1) (da_cons (d_glo dx (fd_bad_worth T) (by rfl)) da_nil))) d_int (fun _ _ => rfl)) da_nil)))))))
theorem fd__law_spring (T : Top K Pw.mg CT) : FnD Pw.P Pw.w K Pw.mg base CT "_law_spring" 2 1 f__law_spring := fnD T.F__law_spring sc__law_spring fun a cdv A outer s H E dx => (dss_cons (ds_set (i := 2) dx.nd rfl (Or.inl rfl) d_int) (dss_cons (ds_if (dt_cmp o_lt (d_var 1) (d_callB c_len (by rfl) T.n_len bt_len (da_cons (d_var 0) da_nil)) (nomark _)) (dss_one (ds_set (i := 2) dx.nd rfl (Or.inl rfl) (d_callB c_abs (by rfl) T.n_abs bt_abs (da_cons (d_ix x_seq (d_var 0) (d_var 1) (fun _ _ => rfl)) da_nil)))) dss_nil) (dss_cons (ds_set (i := 3) dx.nd rfl (Or.inl rfl) (d_bin o_mod (d_callTy c_int (by rfl) T.n_int bt_int (da_cons (d_bin o_add (d_bin o_add (d_bin o_mul (d_var 2) d_int) (d_bin o_mul d_int (d_var 1))) d_int) da_nil)) d_int)) (dss_one (ds_ret (d_lstC (da_cons (d_ifE (dt_cmp o_ge (d_var 2) (d_bin o_pow d_int d_int) (nomark _)) (d_var 2) d_int) (da_cons (d_var 3) da_nil))))))))
theorem fd__law_pick (T : Top K Pw.mg CT) : FnD Pw.P Pw.w K Pw.mg base CT "_law_pick" 2 1 f__law_pick := fnD T.F__law_pick sc__law_pick fun a cdv A outer s H E dx => (dss_cons (ds_if (dt_cmp o_gt (d_ix x_seq (d_var 0) d_int (fun _ _ => rfl)) d_int (nomark _)) (dss_cons (ds_set (i := 2) dx.nd rfl (Or.inl rfl) (d_bin o_mod (d_callTy c_int (by rfl) T.n_int bt_int (da_cons (d_ix x_seq (d_var 0) d_int (fun _ _ => rfl)) da_nil)) (d_var 1))) (dss_cons (ds_asg (d_bin o_fdiv (d_ix x_seq (d_var 0) d_int (fun _ _ => rfl)) (d_var 1)) (dg_sub (d_var 0) d_int)) (dss_one (ds_ret (d_var 2))))) dss_nil) (dss_cons (ds_asg (d_bin o_mod (d_callTy c_int (by rfl) T.n_int bt_int (da_cons (d_bin o_add (d_bin o_mul (d_ix x_seq (d_var 0) d_int (fun _ _ => rfl)) d_int) d_int) da_nil)) d_int) (dg_sub (d_var 0) d_int)) (dss_one (ds_ret (d_bin o_mod (d_callTy c_int (by rfl) T.n_int bt_int (da_cons (d_bin o_fdiv (d_ix x_seq (d_var 0) d_int (fun _ _ => rfl)) d_int) da_nil)) (d_var 1))))))
theorem fd__law_feed (T : Top K Pw.mg CT) : FnD Pw.P Pw.w K Pw.mg base CT "_law_feed" 1 2 f__law_feed := fnD T.F__law_feed sc__law_feed fun a cdv A outer s H E dx => (dss_cons (ds_par (i := 1) (j := 2) dx.calm dx.nd rfl rfl (by decide) rfl rfl (da_cons (d_cmp (o_eq dx.mk3) (d_call (fd__law_pick T) dx (by omega) (by rfl) (da_cons (d_var 0) (da_cons d_int da_nil))) d_int (nomark _)) (da_cons (d_cmp (o_eq dx.mk3) (d_call (fd__law_pick T) dx (by omega) (by rfl) (da_cons (d_var 0) (da_cons d_int da_nil))) d_int (nomark _)) da_nil))) (dss_one (ds_ret (d_tup (da_cons (d_ix x_seq (d_lst (da_cons d_int (da_cons d_int (da_cons d_int (da_cons d_int da_nil))))) (d_call (fd__law_pick T) dx (by omega) (by rfl) (da_cons (d_var 0) (da_cons d_int da_nil))) (fun _ _ => rfl)) (da_cons (d_var 1) (da_cons (d_var 2) (da_cons (d_bin o_add d_int (d_call (fd__law_pick T) dx (by omega) (by rfl) (da_cons (d_var 0) (da_cons d_int da_nil)))) da_nil))))))))
theorem fd__law_plan (T : Top K Pw.mg CT) : FnD Pw.P Pw.w K Pw.mg base CT "_law_plan" 2 3 f__law_plan := fnD T.F__law_plan sc__law_plan fun a cdv A outer s H E dx => (dss_cons (ds_set (i := 2) dx.nd rfl (Or.inl rfl) (d_bin o_add d_int (d_call (fd__law_pick T) dx (by omega) (by rfl) (da_cons (d_var 0) (da_cons (d_bin o_sub (d_var 1) d_int) da_nil))))) (dss_cons (ds_set (i := 3) dx.nd rfl (Or.inl rfl) (d_bin o_sub (d_bin o_sub (d_var 2) d_int) (d_call (fd__law_pick T) dx (by omega) (by rfl) (da_cons (d_var 0) (da_cons (d_callB (c_min dx.calm) (by rfl) T.n_min bt_min (da_cons d_int (da_cons (d_var 2) da_nil))) da_nil))))) (dss_cons (ds_par (i := 4) (j := 5) dx.calm dx.nd rfl rfl (by decide) rfl rfl (da_cons (d_call (fd__law_pick T) dx (by omega) (by rfl) (da_cons (d_var 0) (da_cons (d_bin o_add (d_var 3) d_int) da_nil))) (da_cons (d_call (fd__law_feed T) dx (by omega) (by rfl) (da_cons (d_var 0) da_nil)) da_nil))) (dss_cons (ds_par (i := 6) (j := 7) dx.calm dx.nd rfl rfl (by decide) rfl rfl (da_cons (d_ix x_seq (d_lst (da_cons (d_bin o_sub (d_var 3) (d_var 4)) (da_cons (d_bin o_sub (d_var 3) (d_var 4)) (da_cons (d_call (fd__law_pick T) dx (by omega) (by rfl) (da_cons (d_var 0) (da_cons d_int da_nil))) da_nil)))) (d_call (fd__law_pick T) dx (by omega) (by rfl) (da_cons (d_var 0) (da_cons d_int da_nil))) (fun _ _ => rfl)) (da_cons (d_ix x_seq (d_var 5) d_int (fun _ _ => rfl)) da_nil))) (dss_cons (ds_if (dt_cmp (o_eq dx.mk3) (d_call (fd__law_pick T) dx (by omega) (by rfl) (da_cons (d_var 0) (da_cons d_int da_nil))) d_int (nomark _)) (dss_one (ds_set (i := 7) dx.nd rfl (Or.inl rfl) (d_bin o_add d_int (d_call (fd__law_pick T) dx (by omega) (by rfl) (da_cons (d_var 0) (da_cons d_int da_nil)))))) dss_nil) (dss_one (ds_ret (d_tup (da_cons (d_var 2) (da_cons (d_var 4) (da_cons (d_var 3) (da_cons (d_tup (da_cons (d_callB (c_min dx.calm) (by rfl) T.n_min bt_min (da_cons d_int (da_cons (d_var 6) da_nil))) (da_cons (d_var 7) da_nil))) (da_cons (d_var 5) da_nil)))))))))))))
theorem fd__law_begin (T : Top K Pw.mg CT) : FnD Pw.P Pw.w K Pw.mg base CT "_law_begin" 1 1 f__law_begin := fnD T.F__law_begin sc__law_begin fun a cdv A outer s H E dx => (dss_one (ds_ret (d_tup (da_cons (d_bin o_mul (d_tup (da_cons (d_neg d_int) da_nil)) (d_ix x_seq (d_var 0) d_int (fun _ _ => rfl))) (da_cons d_str (da_cons d_int (da_cons (d_bin o_mul (d_tup (da_cons d_bl da_nil)) (d_ix x_seq (d_ix x_seq (d_var 0) d_int (fun _ _ => rfl)) d_int (fun _ _ => rfl))) (da_cons (d_ix x_seq (d_ix x_seq (d_var 0) d_int (fun _ _ => rfl)) d_int (fun _ _ => rfl)) da_nil))))))))
theorem fd__law_out (T : Top K Pw.mg CT) : FnD Pw.P Pw.w K Pw.mg base CT "_law_out" 2 1 f__law_out := fnD T.F__law_out sc__law_out fun a cdv A outer s H E dx => (dss_cons (ds_if (dt_cmp o_lt (d_var 1) d_int (nomark _)) (dss_one (ds_ret (d_dget2 dx.mk5 (d_dict (gs := [((gUn negF (gC (.int 2))), (gLst (gCons (gC (.str "lies")) gNil))), ((gC (.int 0)), (gLst (gCons (gC (.str "empty")) gNil)))]) (pps_cons (d_neg d_int) (d_lst (da_cons d_str da_nil)) (pps_cons d_int (d_lst (da_cons d_str da_nil)) pps_nil)) (by rfl) (by rfl) (fun z => by cases z) (by decide)) (d_var 1) (d_lst da_nil) ⟨by rfl, by rfl, by rfl, by rfl⟩))) dss_nil) (dss_cons (ds_if (dt_cmp (o_eq dx.mk3) (d_var 1) (d_ix x_seq (d_ix x_seq (d_var 0) d_int (fun _ _ => rfl)) d_int (fun _ _ => rfl)) (nomark _)) (dss_one (ds_ret (d_lst (da_cons d_str da_nil)))) dss_nil) (dss_one (ds_ret (d_lst (da_cons (d_ifE (dt_cmp o_lt (d_var 1) (d_ix x_seq (d_ix x_seq (d_var 0) d_int (fun _ _ => rfl)) d_int (fun _ _ => rfl)) (nomark _)) d_str d_str) da_nil))))))
theorem fd__law_tick (T : Top K Pw.mg CT) : FnD Pw.P Pw.w K Pw.mg base CT "_law_tick" 3 2 f__law_tick := fnD T.F__law_tick sc__law_tick fun a cdv A outer s H E dx => (dss_cons (ds_asg (d_var 1) (dg_tup dx.calm (dgs_cons (dg_name dx.nd rfl (Or.inl rfl)) (dgs_cons (dg_name dx.nd rfl (Or.inl rfl)) (dgs_cons (dg_name dx.nd rfl (Or.inl rfl)) (dgs_cons (dg_name dx.nd rfl (Or.inl rfl)) (dgs_cons (dg_name dx.nd rfl (Or.inl rfl)) dgs_nil))))))) (dss_cons (ds_asg (d_var 0) (dg_tup dx.calm (dgs_cons (dg_name dx.nd rfl (Or.inl rfl)) (dgs_cons (dg_name dx.nd rfl (Or.inl rfl)) (dgs_cons (dg_name dx.nd rfl (Or.inl rfl)) (dgs_cons (dg_tup dx.calm (dgs_cons (dg_name dx.nd rfl (Or.inl rfl)) (dgs_cons (dg_name dx.nd rfl (Or.inl rfl)) dgs_nil))) (dgs_cons (dg_tup dx.calm (dgs_cons (dg_name dx.nd rfl (Or.inl rfl)) (dgs_cons (dg_name dx.nd rfl (Or.inl rfl)) (dgs_cons (dg_name dx.nd rfl (Or.inl rfl)) (dgs_cons (dg_name dx.nd rfl (Or.inl rfl)) dgs_nil))))) dgs_nil))))))) (dss_cons (ds_par (i := 17) (j := 18) dx.calm dx.nd rfl rfl (by decide) rfl rfl (da_cons (d_callTy c_listC (by rfl) T.n_list bt_list (da_cons (d_var 3) da_nil)) (da_cons (d_lst da_nil) da_nil))) (dss_cons (ds_if (PW.pt (dw_or (dt_cmp (o_eq dx.mk3) (d_var 4) d_str (nomark _)) (dw_or1 (dt_val (d_ix x_seq (d_var 2) d_int (fun _ _ => rfl)))))) (dss_cons (ds_set (i := 18) dx.nd rfl (Or.inl rfl) (d_call (fd__law_out T) dx (by omega) (by rfl) (da_cons (d_var 0) (da_cons (d_ix x_seq (d_var 17) (d_neg d_int) (fun _ _ => rfl)) da_nil)))) (dss_one (ds_set (i := 17) dx.nd rfl (Or.inl rfl) (d_bin o_addC (d_lst (da_cons (d_ix x_seq (d_lst (da_cons (d_neg d_int) (da_cons d_int (da_cons (d_neg d_int) da_nil)))) (d_ix x_seq (d_var 2) d_int (fun _ _ => rfl)) (fun _ _ => rfl)) da_nil)) (d_slice s_seq (d_var 17) do_none (do_some (d_bin o_sub (d_var 8) d_int))))))) dss_nil) (dss_cons (ds_if (dt_cmp (o_eq dx.mk3) (d_var 4) d_str (nomark _)) (dss_cons (ds_set (i := 19) dx.nd rfl (Or.inl rfl) (d_bin o_add (d_callTy c_list (by rfl) T.n_list bt_list (da_cons (d_var 6) da_nil)) (d_lst (da_cons (d_cmp o_gt (d_ix x_seq (d_var 17) (d_var 9) (fun _ _ => rfl)) (d_neg d_int) (nomark _)) da_nil)))) (dss_cons (ds_set (i := 7) dx.nd rfl (Or.inl rfl) (d_ifE (dt_cmp (o_ne dx.mk3) (d_ix x_seq (d_var 2) d_int (fun _ _ => rfl)) d_int (nomark _)) d_int (d_bin o_add (d_var 7) (d_callTy c_int (by rfl) T.n_int bt_int (da_cons (d_cmp o_lt (d_var 7) (d_var 13) (nomark _)) da_nil))))) (dss_cons (ds_asg (d_ifE (dt_val (d_ix x_seq (d_var 19) d_int (fun _ _ => rfl))) (d_tup (da_cons d_str (da_cons (d_var 12) da_nil))) (d_tup (da_cons d_str (da_cons d_int da_nil)))) (dg_tup dx.calm (dgs_cons (dg_name dx.nd rfl (Or.inl rfl)) (dgs_cons (dg_name dx.nd rfl (Or.inl rfl)) dgs_nil)))) (dss_one (ds_ret (d_tup (da_cons (d_tup (da_cons (d_callTy c_tuple (by rfl) T.n_tuple bt_tuple (da_cons (d_var 17) da_nil)) (da_cons (d_var 4) (da_cons (d_var 5) (da_cons (d_callTy c_tuple (by rfl) T.n_tuple bt_tuple (da_cons (d_slice s_seq (d_var 19) (do_some d_int) do_none) da_nil)) (da_cons (d_var 7) da_nil)))))) (da_cons (d_var 18) da_nil)))))))) dss_nil) (dss_cons (ds_if (dt_cmp o_gt (d_ix x_seq (d_var 17) (d_var 10) (fun _ _ => rfl)) (d_neg d_int) (nomark _)) (dss_one (ds_asg (d_bin o_add (d_ix x_seq (d_var 17) (d_var 10) (fun _ _ => rfl)) (d_callTy c_int (by rfl) T.n_int bt_int (da_cons (d_cmp o_le (d_ix x_seq (d_var 17) (d_var 10) (fun _ _ => rfl)) (d_var 16) (nomark _)) da_nil))) (dg_sub (d_var 17) (d_var 10)))) (dss_one (ds_set (i := 18) dx.nd rfl (Or.inl rfl) (d_callB c_sorted (by rfl) T.n_sorted bt_sorted (da_cons (d_bin o_add (d_var 18) (d_lst (da_cons d_str da_nil))) da_nil))))) (dss_cons (ds_set (i := 4) dx.nd rfl (Or.inl rfl) (d_ifE (dt_cmp (o_eq dx.mk3) (d_var 5) d_int (nomark _)) d_str d_str)) (dss_one (ds_ret (d_tup (da_cons (d_tup (da_cons (d_callTy c_tuple (by rfl) T.n_tuple bt_tuple (da_cons (d_var 17) da_nil)) (da_cons (d_var 4) (da_cons (d_bin o_sub (d_var 5) d_int) (da_cons (d_var 6) (da_cons (d_var 7) da_nil)))))) (da_cons (d_var 18) da_nil))))))))))))
theorem fd__law_choices (T : Top K Pw.mg CT) : FnD Pw.P Pw.w K Pw.mg base CT "_law_choices" 2 1 f__law_choices := fnD T.F__law_choices sc__law_choices fun a cdv A outer s H E dx => (dss_cons (ds_if (dt_cmp (o_eq dx.mk3) (d_ix x_seq (d_var 1) d_int (fun _ _ => rfl)) d_str (nomark _)) (dss_cons (ds_set (i := 2) dx.nd rfl (Or.inl rfl) (d_and (d_cmp (o_eq dx.mk3) (d_ix x_seq (d_var 1) d_int (fun _ _ => rfl)) (d_ix x_seq (d_ix x_seq (d_var 0) d_int (fun _ _ => rfl)) d_int (fun _ _ => rfl)) (nomark _)) (d_one (d_ix x_seq (d_ix x_seq (d_var 0) d_int (fun _ _ => rfl)) d_int (fun _ _ => rfl))))) (dss_one (ds_ret (d_ifE (dt_val (d_var 2)) (d_lst (da_cons (d_tup (da_cons d_int (da_cons d_bl da_nil))) (da_cons (d_tup (da_cons d_int (da_cons d_bl da_nil))) da_nil))) (d_lst (da_cons (d_tup (da_cons d_int (da_cons d_bl da_nil))) da_nil)))))) dss_nil) (dss_cons (ds_set (i := 3) dx.nd rfl (Or.inl rfl) (d_lst (da_cons (d_tup (da_cons d_int (da_cons d_bl da_nil))) da_nil))) (dss_cons (ds_if (dt_cmp (o_eq dx.mk3) (d_ix x_seq (d_var 1) d_int (fun _ _ => rfl)) (d_ix x_seq (d_ix x_seq (d_var 0) d_int (fun _ _ => rfl)) d_int (fun _ _ => rfl)) (nomark _)) (dss_one (ds_set (i := 3) dx.nd rfl (Or.inl rfl) (d_bin o_add (d_bin o_add (d_var 3) (d_lst (da_cons (d_tup (da_cons d_int (da_cons d_bl da_nil))) da_nil))) (d_bin o_mul (d_lst (da_cons (d_tup (da_cons d_int (da_cons d_bl da_nil))) da_nil)) (d_callTy c_int (by rfl) T.n_int bt_int (da_cons (d_ix x_seq (d_ix x_seq (d_var 0) d_int (fun _ _ => rfl)) d_int (fun _ _ => rfl)) da_nil)))))) dss_nil) (dss_one (ds_ret (d_var 3))))))
theorem fd__law_ways (T : Top K Pw.mg CT) : FnD Pw.P Pw.w K Pw.mg base CT "_law_ways" 1 3 f__law_ways := fnD T.F__law_ways sc__law_ways fun a cdv A outer s H E dx => (dss_cons (ds_set (i := 1) dx.nd rfl (Or.inl rfl) (d_call (fd__law_begin T) dx (by omega) (by rfl) (da_cons (d_var 0) da_nil))) (dss_cons (ds_par3 (i := 2) (j := 3) (l := 4) dx.calm dx.nd rfl rfl rfl (by decide) (by decide) (by decide) rfl rfl rfl (da_cons (d_dict1 dx (d_var 1) (d_tup (da_cons (d_tup da_nil) (da_cons (d_lstC da_nil) da_nil)))) (da_cons (d_lstC (da_cons (d_var 1) da_nil)) (da_cons d_int da_nil)))) (dss_cons (ds_while dx.own (dt_cmp o_lt (d_var 4) (d_callB c_len (by rfl) T.n_len bt_len (da_cons (d_var 3) da_nil)) (nomark _)) (dss_cons (ds_set (i := 5) dx.nd rfl (Or.inl rfl) (d_ix x_seq (d_var 3) (d_var 4) (fun _ _ => rfl))) (dss_cons (ds_set (i := 4) dx.nd rfl (Or.inl rfl) (d_bin o_add (d_var 4) d_int)) (dss_one (ds_for dx.own dx.calm (di_list (d_call (fd__law_choices T) dx (by omega) (by rfl) (da_cons (d_var 0) (da_cons (d_var 5) da_nil)))) (dg_name dx.nd rfl (Or.inl rfl)) (dss_cons (ds_asg (d_call (fd__law_tick T) dx (by omega) (by rfl) (da_cons (d_var 0) (da_cons (d_var 5) (da_cons (d_var 6) da_nil)))) (dg_tup dx.calm (dgs_cons (dg_name dx.nd rfl (Or.inl rfl)) (dgs_cons (dg_name dx.nd rfl (Or.inl rfl)) dgs_nil)))) (dss_cons (ds_expr (d_app (d_ix x_seq (d_ix (x_dict dx) (d_var 2) (d_var 5) (fun _ _ => rfl)) d_int (fun _ _ => rfl)) (d_tup (da_cons (d_var 6) (da_cons (d_var 7) (da_cons (d_var 8) da_nil)))))) (dss_one (ds_if (dt_cmp (o_notInD dx) (d_var 7) (d_var 2) (by rfl)) (dss_cons (ds_asg (d_tup (da_cons (d_bin o_add (d_ix x_seq (d_ix (x_dict dx) (d_var 2) (d_var 5) (fun _ _ => rfl)) d_int (fun _ _ => rfl)) (d_tup (da_cons (d_var 6) da_nil))) (da_cons (d_lstC da_nil) da_nil))) (dg_subD dx (d_var 2) (d_var 7))) (dss_one (ds_expr (d_app (d_var 3) (d_var 7))))) dss_nil))))))))) (dss_one (ds_ret (d_frzN (d_var 2)))))))
theorem fd__law_worth (T : Top K Pw.mg CT) : FnD Pw.P Pw.w K Pw.mg base CT "_law_worth" 2 1 f__law_worth := fnD T.F__law_worth sc__law_worth fun a cdv A outer s H E dx => (dss_cons (ds_set (i := 2) dx.nd rfl (Or.inl rfl) (d_callTy c_int (by rfl) T.n_int bt_int (da_cons (d_cmp (o_ne dx.mk3) (d_lc (T := .one 4) dx (di_list (d_var 0)) (blkOk_by (own := [("word", 4)]) (N := N__law_worth) (sc := defScope s__law_worth) (by decide +kernel)) (by decide) (fun _ _ _ _ _ => (pg_name (i := 4) dx.nd rfl (Or.inl rfl))) (fun _ _ _ _ _ => dts_one (dt_cmp (o_in dx.blk.mk4) (d_var 4) (d_lst (da_cons d_str (da_cons d_str (da_cons d_str da_nil)))) (by rfl))) (fun _ _ _ _ _ dx' => (d_var 4))) (d_lst da_nil) (nomark _)) da_nil))) (dss_cons (ds_set (i := 3) dx.nd rfl (Or.inl rfl) (d_callTy c_int (by rfl) T.n_int bt_int (da_cons (d_cmp (o_in dx.mk4) d_str (d_var 0) (by rfl)) da_nil))) (dss_one (ds_ret (d_ifE (dt_cmp (o_eq dx.mk3) (d_var 1) d_str (nomark _)) (d_tup (da_cons (d_var 3) (da_cons d_int da_nil))) (d_tup (da_cons (d_var 2) (da_cons (d_bin o_add (d_var 2) (d_var 3)) da_nil))))))))
theorem fd__law_is_greatest (T : Top K Pw.mg CT) : FnD Pw.P Pw.w K Pw.mg base CT "_law_is_greatest" 3 2 f__law_is_greatest := fnD T.F__law_is_greatest sc__law_is_greatest fun a cdv A outer s H E dx => (dss_cons (ds_set (i := 3) dx.nd rfl (Or.inl rfl) (d_callTy (c_dictN dx) (by rfl) T.n_dict bt_dict (da_cons (d_lc (T := .one 6) dx (di_nk (d_var 0)) (blkOk_by (own := [("stand", 6)]) (N := N__law_is_greatest) (sc := defScope s__law_is_greatest) (by decide +kernel)) (by decide) (fun _ _ _ _ _ => (pg_name (i := 6) dx.nd rfl (Or.inl rfl))) (fun _ _ _ _ _ => dts_nil) (fun _ _ _ _ _ dx' => (d_tup (da_cons (d_var 6) (da_cons d_int da_nil))))) da_nil))) (dss_cons (ds_for dx.own dx.calm (di_rng1 (by rfl) T.n_range (da_cons (d_bin o_add (d_callB (c_lenD dx) (by rfl) T.n_len bt_len (da_cons (d_var 0) da_nil)) d_int) da_nil)) (dg_name dx.nd rfl (Or.inl rfl)) (dss_cons (ds_set (i := 5) dx.nd rfl (Or.inl rfl) d_bl) (dss_cons (ds_for dx.own dx.calm (di_nk (d_var 0)) (dg_name dx.nd rfl (Or.inl rfl)) (dss_one (ds_for dx.own dx.calm (di_list (d_ix x_seq (d_ix (x_dict dx) (d_var 0) (d_var 6) (fun _ _ => rfl)) d_int (fun _ _ => rfl))) (dg_tup dx.calm (dgs_cons (dg_name dx.nd rfl (Or.inl rfl)) (dgs_cons (dg_name dx.nd rfl (Or.inl rfl)) (dgs_cons (dg_name dx.nd rfl (Or.inl rfl)) dgs_nil)))) (dss_cons (ds_asg (d_call (fd__law_worth T) dx (by omega) (by rfl) (da_cons (d_var 9) (da_cons (d_var 1) da_nil))) (dg_tup dx.calm (dgs_cons (dg_name dx.nd rfl (Or.inl rfl)) (dgs_cons (dg_name dx.nd rfl (Or.inl rfl)) dgs_nil)))) (dss_cons (ds_set (i := 12) dx.nd rfl (Or.inl rfl) (d_bin o_sub (d_bin o_add (d_ix (x_dict dx) (d_var 3) (d_var 6) (fun _ _ => rfl)) (d_bin o_mul (d_var 10) (d_ix x_seq (d_var 2) d_int (fun _ _ => rfl)))) (d_bin o_mul (d_var 11) (d_ix x_seq (d_var 2) d_int (fun _ _ => rfl))))) (dss_one (ds_if (dt_cmp o_gt (d_var 12) (d_ix (x_dict dx) (d_var 3) (d_var 8) (fun _ _ => rfl)) (nomark _)) (dss_one (ds_asg (d_tup (da_cons (d_var 12) (da_cons d_bl da_nil))) (dg_tup dx.calm (dgs_cons (dg_subD dx (d_var 3) (d_var 8)) (dgs_cons (dg_name dx.nd rfl (Or.inl rfl)) dgs_nil))))) dss_nil))))))) (dss_one (ds_if (dt_not (dt_val (d_var 5))) (dss_one (ds_ret d_bl)) dss_nil))))) (dss_one (ds_ret d_bl))))
theorem fd__law_ring_right (T : Top K Pw.mg CT) : FnD Pw.P Pw.w K Pw.mg base CT "_law_ring_right" 4 3 f__law_ring_right := fnD T.F__law_ring_right sc__law_ring_right fun a cdv A outer s H E dx => (dss_cons (ds_if (PW.pt (dw_or (dt_not (dt_val (d_isi (by rfl) T.n_isinstance (by rfl) T.n_tuple bt_tuple tk_tuple (d_var 1)))) (dw_or (dt_cmp (o_ne dx.mk3) (d_callB c_len (by rfl) T.n_len bt_len (da_cons (d_var 1) da_nil)) d_int (nomark _)) (dw_or1 (dt_not (dt_val (d_isi (by rfl) T.n_isinstance (by rfl) T.n_tuple bt_tuple tk_tuple (d_ix x_seq (d_var 1) d_int (fun _ _ => rfl))))))))) (dss_one (ds_ret d_bl)) dss_nil) (dss_cons (ds_par3 (i := 4) (j := 5) (l := 6) dx.calm dx.nd rfl rfl rfl (by decide) (by decide) (by decide) rfl rfl rfl (da_cons (d_call (fd__law_begin T) dx (by omega) (by rfl) (da_cons (d_var 0) da_nil)) (da_cons d_int (da_cons d_int da_nil)))) (dss_cons (ds_for dx.own dx.calm (di_tup (d_ix x_seq (d_var 1) d_int (fun _ _ => rfl))) (dg_name dx.nd rfl (Or.inl rfl)) (dss_cons (ds_if (dt_cmp (o_notIn dx.mk4) (d_var 7) (d_call (fd__law_choices T) dx (by omega) (by rfl) (da_cons (d_var 0) (da_cons (d_var 4) da_nil))) (by rfl)) (dss_one (ds_ret d_bl)) dss_nil) (dss_one (ds_set (i := 4) dx.nd rfl (Or.inl rfl) (d_ix x_seq (d_call (fd__law_tick T) dx (by omega) (by rfl) (da_cons (d_var 0) (da_cons (d_var 4) (da_cons (d_var 7) da_nil)))) d_int (fun _ _ => rfl)))))) (dss_cons (ds_set (i := 8) dx.nd rfl (Or.inl rfl) (d_var 4)) (dss_cons (ds_for dx.own dx.calm (di_tup (d_ix x_seq (d_var 1) d_int (fun _ _ => rfl))) (dg_name dx.nd rfl (Or.inl rfl)) (dss_cons (ds_if (dt_cmp (o_notIn dx.mk4) (d_var 7) (d_call (fd__law_choices T) dx (by omega) (by rfl) (da_cons (d_var 0) (da_cons (d_var 4) da_nil))) (by rfl)) (dss_one (ds_ret d_bl)) dss_nil) (dss_cons (ds_asg (d_call (fd__law_tick T) dx (by omega) (by rfl) (da_cons (d_var 0) (da_cons (d_var 4) (da_cons (d_var 7) da_nil)))) (dg_tup dx.calm (dgs_cons (dg_name dx.nd rfl (Or.inl rfl)) (dgs_cons (dg_name dx.nd rfl (Or.inl rfl)) dgs_nil)))) (dss_cons (ds_set (i := 10) dx.nd rfl (Or.inl rfl) (d_call (fd__law_worth T) dx (by omega) (by rfl) (da_cons (d_var 9) (da_cons (d_var 2) da_nil)))) (dss_one (ds_par (i := 5) (j := 6) dx.calm dx.nd rfl rfl (by decide) rfl rfl (da_cons (d_bin o_add (d_var 5) (d_ix x_seq (d_var 10) d_int (fun _ _ => rfl))) (da_cons (d_bin o_add (d_var 6) (d_ix x_seq (d_var 10) d_int (fun _ _ => rfl))) da_nil)))))))) (dss_one (ds_ret (d_and (d_cmp (o_eq dx.mk3) (d_var 4) (d_var 8) (nomark _)) (d_and (d_cmp o_gt (d_var 6) d_int (nomark _)) (d_one (d_cmp (o_eq dx.mk3) (d_bin o_mul (d_var 5) (d_ix x_seq (d_var 3) d_int (fun _ _ => rfl))) (d_bin o_mul (d_var 6) (d_ix x_seq (d_var 3) d_int (fun _ _ => rfl))) (nomark _))))))))))))
theorem fd__law_is_share (T : Top K Pw.mg CT) : FnD Pw.P Pw.w K Pw.mg base CT "_law_is_share" 1 1 f__law_is_share := fnD T.F__law_is_share sc__law_is_share fun a cdv A outer s H E dx => (dss_cons (ds_if (PW.pt (dw_or (dt_not (dt_val (d_isi (by rfl) T.n_isinstance (by rfl) T.n_tuple bt_tuple tk_tuple (d_var 0)))) (dw_or (dt_cmp (o_ne dx.mk3) (d_callB c_len (by rfl) T.n_len bt_len (da_cons (d_var 0) da_nil)) d_int (nomark _)) (dw_or1 (dt_not (dt_chain o_le o_le d_int (d_ix x_seq (d_var 0) d_int (fun _ _ => rfl)) (d_ix x_seq (d_var 0) d_int (fun _ _ => rfl)))))))) (dss_one (ds_ret d_bl)) dss_nil) (dss_cons (ds_setLc (i := 1) dx rfl rfl (sw_true rfl rfl rfl (by decide +kernel)) (di_rng2 (by rfl) T.n_range (da_cons d_int (da_cons (d_bin o_add (d_ix x_seq (d_var 0) d_int (fun _ _ => rfl)) d_int) da_nil))) (blkOk_by (own := [("one", 2)]) (N := N__law_is_share) (sc := defScope s__law_is_share) (by decide +kernel)) (by decide) (fun _ _ _ _ _ => (pg_name (i := 2) dx.nd rfl (Or.inl rfl))) (fun _ _ _ _ _ => dts_one (PW.pt (dw_and (dt_cmp (o_eq dx.blk.mk3) (d_bin o_mod (d_ix x_seq (d_var 0) d_int (fun _ _ => rfl)) (d_var 2)) d_int (nomark _)) (dw_and1 (dt_cmp (o_eq dx.blk.mk3) (d_bin o_mod (d_ix x_seq (d_var 0) d_int (fun _ _ => rfl)) (d_var 2)) d_int (nomark _)))))) (fun _ _ _ _ _ dx' => (d_var 2))) (dss_one (ds_ret (d_and (d_cmp o_gt (d_ix x_seq (d_var 0) d_int (fun _ _ => rfl)) d_int (nomark _)) (d_one (d_cmp (o_eq dx.mk3) (d_var 1) (d_lst da_nil) (nomark _))))))))
theorem ok_law (T : Top K Pw.mg CT) {a : Addr} {fd : FuncData} (F : Fun K "law" "law" s_law a fd) : FnOk Pw.P Pw.w K Pw.mg base (L2.CX Pw.P Pw.w) 6 a fd ["script"] (spD K CT 1 f_law_k06) := fnOkX F sc_law fun cdv A outer s H E dx => (dss_cons (ds_for dx.own dx.calm (di_rng1 (by rfl) T.n_range (da_cons (d_bin o_add (d_callB (c_min dx.calm) (by rfl) T.n_min bt_min (da_cons (d_callB c_len (by rfl) T.n_len bt_len (da_cons (d_var 0) da_nil)) (da_cons d_int da_nil))) d_int) da_nil)) (dg_name dx.nd rfl (Or.inl rfl)) (dss_cons (ds_set (i := 2) dx.nd rfl (Or.inl rfl) (d_call (fd__law_spring T) dx (by omega) (by rfl) (da_cons (d_var 0) (da_cons (d_var 1) da_nil)))) (dss_cons (ds_set (i := 3) dx.nd rfl (Or.inl rfl) (d_call (fd__law_plan T) dx (by omega) (by rfl) (da_cons (d_var 2) (da_cons d_int da_nil)))) (dss_cons (ds_set (i := 4) dx.nd rfl (Or.inl rfl) (d_call (fd__law_ways T) dx (by omega) (by rfl) (da_cons (d_var 3) da_nil))) (dss_cons (ds_set (i := 5) dx.nd rfl (Or.inl rfl) (d_lst (da_cons (d_tup (da_cons d_str (da_cons (d_call (fd_good_share T) dx (by omega) (by rfl) (da_cons (d_var 3) da_nil)) (da_cons (d_call (fd_good_ring T) dx (by omega) (by rfl) (da_cons (d_var 3) da_nil)) da_nil)))) da_nil))) (dss_one (ds_for dx.own dx.calm (di_list (d_bin o_add (d_var 5) (d_lst (da_cons (d_tup (da_cons d_str (da_cons (d_call (fd_bad_share T) dx (by omega) (by rfl) (da_cons (d_var 3) da_nil)) (da_cons (d_call (fd_bad_ring T) dx (by omega) (by rfl) (da_cons (d_var 3) da_nil)) da_nil)))) da_nil)))) (dg_tup dx.calm (dgs_cons (dg_name dx.nd rfl (Or.inl rfl)) (dgs_cons (dg_name dx.nd rfl (Or.inl rfl)) (dgs_cons (dg_name dx.nd rfl (Or.inl rfl)) dgs_nil)))) (dss_cons (ds_if (PW.pt (dw_or (dt_not (dt_val (d_call (fd__law_is_share T) dx (by omega) (by rfl) (da_cons (d_var 7) da_nil)))) (dw_or1 (dt_not (dt_val (d_call (fd__law_ring_right T) dx (by omega) (by rfl) (da_cons (d_var 3) (da_cons (d_var 8) (da_cons (d_var 6) (da_cons (d_var 7) da_nil)))))))))) (dss_one (ds_ret d_bl)) dss_nil) (dss_one (ds_if (dt_not (dt_val (d_call (fd__law_is_greatest T) dx (by omega) (by rfl) (da_cons (d_var 4) (da_cons (d_var 6) (da_cons (d_var 7) da_nil)))))) (dss_one (ds_ret d_bl)) dss_nil)))))))))) (dss_one (ds_ret d_bl)))
end
end K06

namespace K06
open PySem PySem.Spec L2 DL EB
theorem all_mk {P : Program} {w : World} {K : PySem.W.Frag} {h : Heap} {mg : Str → Option Value} {fa : Addr} (X : K.In h) (G : h.Ns mainGlobals mg) (hfa : mg "law" = some (.ref fa))
    {p_is_within : Addr} {od_is_within an_is_within : Option Addr} {sl_is_within : Array (Option Value)} {oc_is_within kV_is_within dc_is_within pm_is_within cd_is_within ct_is_within : Value}
    {p_is_row : Addr} {od_is_row an_is_row : Option Addr} {sl_is_row : Array (Option Value)} {oc_is_row kV_is_row dc_is_row pm_is_row cd_is_row ct_is_row : Value}
    {p_is_program : Addr} {od_is_program an_is_program : Option Addr} {sl_is_program : Array (Option Value)} {oc_is_program kV_is_program dc_is_program pm_is_program cd_is_program ct_is_program : Value}
    {p_is_feed : Addr} {od_is_feed an_is_feed : Option Addr} {sl_is_feed : Array (Option Value)} {oc_is_feed kV_is_feed dc_is_feed pm_is_feed cd_is_feed ct_is_feed : Value}
    {p_is_plan : Addr} {od_is_plan an_is_plan : Option Addr} {sl_is_plan : Array (Option Value)} {oc_is_plan kV_is_plan dc_is_plan pm_is_plan cd_is_plan ct_is_plan : Value}
    {p_look_at_plan : Addr} {od_look_at_plan an_look_at_plan : Option Addr} {sl_look_at_plan : Array (Option Value)} {oc_look_at_plan kV_look_at_plan dc_look_at_plan pm_look_at_plan cd_look_at_plan ct_look_at_plan : Value}
    {p_begin_of : Addr} {od_begin_of an_begin_of : Option Addr} {sl_begin_of : Array (Option Value)} {oc_begin_of kV_begin_of dc_begin_of pm_begin_of cd_begin_of ct_begin_of : Value}
    {p_word_of : Addr} {od_word_of an_word_of : Option Addr} {sl_word_of : Array (Option Value)} {oc_word_of kV_word_of dc_word_of pm_word_of cd_word_of ct_word_of : Value}
    {p_ran : Addr} {od_ran an_ran : Option Addr} {sl_ran : Array (Option Value)} {oc_ran kV_ran dc_ran pm_ran cd_ran ct_ran : Value}
    {p_filled : Addr} {od_filled an_filled : Option Addr} {sl_filled : Array (Option Value)} {oc_filled kV_filled dc_filled pm_filled cd_filled ct_filled : Value}
    {p_passed : Addr} {od_passed an_passed : Option Addr} {sl_passed : Array (Option Value)} {oc_passed kV_passed dc_passed pm_passed cd_passed ct_passed : Value}
    {p_choices_of : Addr} {od_choices_of an_choices_of : Option Addr} {sl_choices_of : Array (Option Value)} {oc_choices_of kV_choices_of dc_choices_of pm_choices_of cd_choices_of ct_choices_of : Value}
    {p_net_of : Addr} {od_net_of an_net_of : Option Addr} {sl_net_of : Array (Option Value)} {oc_net_of kV_net_of dc_net_of pm_net_of cd_net_of ct_net_of : Value}
    {p_reduced : Addr} {od_reduced an_reduced : Option Addr} {sl_reduced : Array (Option Value)} {oc_reduced kV_reduced dc_reduced pm_reduced cd_reduced ct_reduced : Value}
    {p_is_bad : Addr} {od_is_bad an_is_bad : Option Addr} {sl_is_bad : Array (Option Value)} {oc_is_bad kV_is_bad dc_is_bad pm_is_bad cd_is_bad ct_is_bad : Value}
    {p_good_worth : Addr} {od_good_worth an_good_worth : Option Addr} {sl_good_worth : Array (Option Value)} {oc_good_worth kV_good_worth dc_good_worth pm_good_worth cd_good_worth ct_good_worth : Value}
    {p_bad_worth : Addr} {od_bad_worth an_bad_worth : Option Addr} {sl_bad_worth : Array (Option Value)} {oc_bad_worth kV_bad_worth dc_bad_worth pm_bad_worth cd_bad_worth ct_bad_worth : Value}
    {p_ring_along : Addr} {od_ring_along an_ring_along : Option Addr} {sl_ring_along : Array (Option Value)} {oc_ring_along kV_ring_along dc_ring_along pm_ring_along cd_ring_along ct_ring_along : Value}
    {p_better_ring : Addr} {od_better_ring an_better_ring : Option Addr} {sl_better_ring : Array (Option Value)} {oc_better_ring kV_better_ring dc_better_ring pm_better_ring cd_better_ring ct_better_ring : Value}
    {p_best_by : Addr} {od_best_by an_best_by : Option Addr} {sl_best_by : Array (Option Value)} {oc_best_by kV_best_by dc_best_by pm_best_by cd_best_by ct_best_by : Value}
    {p_shown : Addr} {od_shown an_shown : Option Addr} {sl_shown : Array (Option Value)} {oc_shown kV_shown dc_shown pm_shown cd_shown ct_shown : Value}
    {p_good_share : Addr} {od_good_share an_good_share : Option Addr} {sl_good_share : Array (Option Value)} {oc_good_share kV_good_share dc_good_share pm_good_share cd_good_share ct_good_share : Value}
    {p_good_ring : Addr} {od_good_ring an_good_ring : Option Addr} {sl_good_ring : Array (Option Value)} {oc_good_ring kV_good_ring dc_good_ring pm_good_ring cd_good_ring ct_good_ring : Value}
    {p_bad_share : Addr} {od_bad_share an_bad_share : Option Addr} {sl_bad_share : Array (Option Value)} {oc_bad_share kV_bad_share dc_bad_share pm_bad_share cd_bad_share ct_bad_share : Value}
    {p_bad_ring : Addr} {od_bad_ring an_bad_ring : Option Addr} {sl_bad_ring : Array (Option Value)} {oc_bad_ring kV_bad_ring dc_bad_ring pm_bad_ring cd_bad_ring ct_bad_ring : Value}
    {p__law_spring : Addr} {od__law_spring an__law_spring : Option Addr} {sl__law_spring : Array (Option Value)} {oc__law_spring kV__law_spring dc__law_spring pm__law_spring cd__law_spring ct__law_spring : Value}
    {p__law_pick : Addr} {od__law_pick an__law_pick : Option Addr} {sl__law_pick : Array (Option Value)} {oc__law_pick kV__law_pick dc__law_pick pm__law_pick cd__law_pick ct__law_pick : Value}
    {p__law_feed : Addr} {od__law_feed an__law_feed : Option Addr} {sl__law_feed : Array (Option Value)} {oc__law_feed kV__law_feed dc__law_feed pm__law_feed cd__law_feed ct__law_feed : Value}
    {p__law_plan : Addr} {od__law_plan an__law_plan : Option Addr} {sl__law_plan : Array (Option Value)} {oc__law_plan kV__law_plan dc__law_plan pm__law_plan cd__law_plan ct__law_plan : Value}
    {p__law_begin : Addr} {od__law_begin an__law_begin : Option Addr} {sl__law_begin : Array (Option Value)} {oc__law_begin kV__law_begin dc__law_begin pm__law_begin cd__law_begin ct__law_begin : Value}
    {p__law_out : Addr} {od__law_out an__law_out : Option Addr} {sl__law_out : Array (Option Value)} {oc__law_out kV__law_out dc__law_out pm__law_out cd__law_out ct__law_out : Value}
    {p__law_tick : Addr} {od__law_tick an__law_tick : Option Addr} {sl__law_tick : Array (Option Value)} {oc__law_tick kV__law_tick dc__law_tick pm__law_tick cd__law_tick ct__law_tick : Value}
    {p__law_choices : Addr} {od__law_choices an__law_choices : Option Addr} {sl__law_choices : Array (Option Value)} {oc__law_choices kV__law_choices dc__law_choices pm__law_choices cd__law_choices ct__law_choices : Value}
    {p__law_ways : Addr} {od__law_ways an__law_ways : Option Addr} {sl__law_ways : Array (Option Value)} {oc__law_ways kV__law_ways dc__law_ways pm__law_ways cd__law_ways ct__law_ways : Value}
    {p__law_worth : Addr} {od__law_worth an__law_worth : Option Addr} {sl__law_worth : Array (Option Value)} {oc__law_worth kV__law_worth dc__law_worth pm__law_worth cd__law_worth ct__law_worth : Value}
    {p__law_is_greatest : Addr} {od__law_is_greatest an__law_is_greatest : Option Addr} {sl__law_is_greatest : Array (Option Value)} {oc__law_is_greatest kV__law_is_greatest dc__law_is_greatest pm__law_is_greatest cd__law_is_greatest ct__law_is_greatest : Value}
    {p__law_ring_right : Addr} {od__law_ring_right an__law_ring_right : Option Addr} {sl__law_ring_right : Array (Option Value)} {oc__law_ring_right kV__law_ring_right dc__law_ring_right pm__law_ring_right cd__law_ring_right ct__law_ring_right : Value}
    {p__law_is_share : Addr} {od__law_is_share an__law_is_share : Option Addr} {sl__law_is_share : Array (Option Value)} {oc__law_is_share kV__law_is_share dc__law_is_share pm__law_is_share cd__law_is_share ct__law_is_share : Value}
    {p_law : Addr} {od_law an_law : Option Addr} {sl_law : Array (Option Value)} {oc_law kV_law dc_law pm_law cd_law ct_law : Value}
    {t_RUNS : Tok}
    {t_FILLS : Tok}
    {t_FREE : Tok}
    {t_LYING : Tok}
    {t_COMINGS_0 : Tok}
    {t_COMINGS_1 : Tok}
    {t_COMINGS_2 : Tok}
    {p_COMINGS : Addr} {od_COMINGS : Option Addr} {m_COMINGS : Nat} {sl_COMINGS : Array (Option Value)}
    {t_BAD_0 : Tok}
    {t_BAD_1 : Tok}
    {t_BAD_2 : Tok}
    {p_BAD : Addr} {od_BAD : Option Addr} {m_BAD : Nat} {sl_BAD : Array (Option Value)}
    {x_InvalidPlan : Addr}
    (a_is_within : PySem.W.nsIn K mainGlobals "is_within" = some (some (.ref p_is_within))) (l_is_within : K.lookup p_is_within = some ⟨oc_is_within, od_is_within, .func (PySem.W.fnOf "is_within" "is_within" (defArgs s_is_within) (defBody s_is_within) (defScope s_is_within) .none kV_is_within dc_is_within pm_is_within an_is_within cd_is_within ct_is_within), sl_is_within⟩) (c_is_within : PySem.W.codeIn K cd_is_within "is_within" = true) (k_is_within : PySem.W.keepIn K (.ref p_is_within) = true)
    (a_is_row : PySem.W.nsIn K mainGlobals "is_row" = some (some (.ref p_is_row))) (l_is_row : K.lookup p_is_row = some ⟨oc_is_row, od_is_row, .func (PySem.W.fnOf "is_row" "is_row" (defArgs s_is_row) (defBody s_is_row) (defScope s_is_row) .none kV_is_row dc_is_row pm_is_row an_is_row cd_is_row ct_is_row), sl_is_row⟩) (c_is_row : PySem.W.codeIn K cd_is_row "is_row" = true) (k_is_row : PySem.W.keepIn K (.ref p_is_row) = true)
    (a_is_program : PySem.W.nsIn K mainGlobals "is_program" = some (some (.ref p_is_program))) (l_is_program : K.lookup p_is_program = some ⟨oc_is_program, od_is_program, .func (PySem.W.fnOf "is_program" "is_program" (defArgs s_is_program) (defBody s_is_program) (defScope s_is_program) .none kV_is_program dc_is_program pm_is_program an_is_program cd_is_program ct_is_program), sl_is_program⟩) (c_is_program : PySem.W.codeIn K cd_is_program "is_program" = true) (k_is_program : PySem.W.keepIn K (.ref p_is_program) = true)
    (a_is_feed : PySem.W.nsIn K mainGlobals "is_feed" = some (some (.ref p_is_feed))) (l_is_feed : K.lookup p_is_feed = some ⟨oc_is_feed, od_is_feed, .func (PySem.W.fnOf "is_feed" "is_feed" (defArgs s_is_feed) (defBody s_is_feed) (defScope s_is_feed) .none kV_is_feed dc_is_feed pm_is_feed an_is_feed cd_is_feed ct_is_feed), sl_is_feed⟩) (c_is_feed : PySem.W.codeIn K cd_is_feed "is_feed" = true) (k_is_feed : PySem.W.keepIn K (.ref p_is_feed) = true)
    (a_is_plan : PySem.W.nsIn K mainGlobals "is_plan" = some (some (.ref p_is_plan))) (l_is_plan : K.lookup p_is_plan = some ⟨oc_is_plan, od_is_plan, .func (PySem.W.fnOf "is_plan" "is_plan" (defArgs s_is_plan) (defBody s_is_plan) (defScope s_is_plan) .none kV_is_plan dc_is_plan pm_is_plan an_is_plan cd_is_plan ct_is_plan), sl_is_plan⟩) (c_is_plan : PySem.W.codeIn K cd_is_plan "is_plan" = true) (k_is_plan : PySem.W.keepIn K (.ref p_is_plan) = true)
    (a_look_at_plan : PySem.W.nsIn K mainGlobals "look_at_plan" = some (some (.ref p_look_at_plan))) (l_look_at_plan : K.lookup p_look_at_plan = some ⟨oc_look_at_plan, od_look_at_plan, .func (PySem.W.fnOf "look_at_plan" "look_at_plan" (defArgs s_look_at_plan) (defBody s_look_at_plan) (defScope s_look_at_plan) .none kV_look_at_plan dc_look_at_plan pm_look_at_plan an_look_at_plan cd_look_at_plan ct_look_at_plan), sl_look_at_plan⟩) (c_look_at_plan : PySem.W.codeIn K cd_look_at_plan "look_at_plan" = true) (k_look_at_plan : PySem.W.keepIn K (.ref p_look_at_plan) = true)
    (a_begin_of : PySem.W.nsIn K mainGlobals "begin_of" = some (some (.ref p_begin_of))) (l_begin_of : K.lookup p_begin_of = some ⟨oc_begin_of, od_begin_of, .func (PySem.W.fnOf "begin_of" "begin_of" (defArgs s_begin_of) (defBody s_begin_of) (defScope s_begin_of) .none kV_begin_of dc_begin_of pm_begin_of an_begin_of cd_begin_of ct_begin_of), sl_begin_of⟩) (c_begin_of : PySem.W.codeIn K cd_begin_of "begin_of" = true) (k_begin_of : PySem.W.keepIn K (.ref p_begin_of) = true)
    (a_word_of : PySem.W.nsIn K mainGlobals "word_of" = some (some (.ref p_word_of))) (l_word_of : K.lookup p_word_of = some ⟨oc_word_of, od_word_of, .func (PySem.W.fnOf "word_of" "word_of" (defArgs s_word_of) (defBody s_word_of) (defScope s_word_of) .none kV_word_of dc_word_of pm_word_of an_word_of cd_word_of ct_word_of), sl_word_of⟩) (c_word_of : PySem.W.codeIn K cd_word_of "word_of" = true) (k_word_of : PySem.W.keepIn K (.ref p_word_of) = true)
    (a_ran : PySem.W.nsIn K mainGlobals "ran" = some (some (.ref p_ran))) (l_ran : K.lookup p_ran = some ⟨oc_ran, od_ran, .func (PySem.W.fnOf "ran" "ran" (defArgs s_ran) (defBody s_ran) (defScope s_ran) .none kV_ran dc_ran pm_ran an_ran cd_ran ct_ran), sl_ran⟩) (c_ran : PySem.W.codeIn K cd_ran "ran" = true) (k_ran : PySem.W.keepIn K (.ref p_ran) = true)
    (a_filled : PySem.W.nsIn K mainGlobals "filled" = some (some (.ref p_filled))) (l_filled : K.lookup p_filled = some ⟨oc_filled, od_filled, .func (PySem.W.fnOf "filled" "filled" (defArgs s_filled) (defBody s_filled) (defScope s_filled) .none kV_filled dc_filled pm_filled an_filled cd_filled ct_filled), sl_filled⟩) (c_filled : PySem.W.codeIn K cd_filled "filled" = true) (k_filled : PySem.W.keepIn K (.ref p_filled) = true)
    (a_passed : PySem.W.nsIn K mainGlobals "passed" = some (some (.ref p_passed))) (l_passed : K.lookup p_passed = some ⟨oc_passed, od_passed, .func (PySem.W.fnOf "passed" "passed" (defArgs s_passed) (defBody s_passed) (defScope s_passed) .none kV_passed dc_passed pm_passed an_passed cd_passed ct_passed), sl_passed⟩) (c_passed : PySem.W.codeIn K cd_passed "passed" = true) (k_passed : PySem.W.keepIn K (.ref p_passed) = true)
    (a_choices_of : PySem.W.nsIn K mainGlobals "choices_of" = some (some (.ref p_choices_of))) (l_choices_of : K.lookup p_choices_of = some ⟨oc_choices_of, od_choices_of, .func (PySem.W.fnOf "choices_of" "choices_of" (defArgs s_choices_of) (defBody s_choices_of) (defScope s_choices_of) .none kV_choices_of dc_choices_of pm_choices_of an_choices_of cd_choices_of ct_choices_of), sl_choices_of⟩) (c_choices_of : PySem.W.codeIn K cd_choices_of "choices_of" = true) (k_choices_of : PySem.W.keepIn K (.ref p_choices_of) = true)
    (a_net_of : PySem.W.nsIn K mainGlobals "net_of" = some (some (.ref p_net_of))) (l_net_of : K.lookup p_net_of = some ⟨oc_net_of, od_net_of, .func (PySem.W.fnOf "net_of" "net_of" (defArgs s_net_of) (defBody s_net_of) (defScope s_net_of) .none kV_net_of dc_net_of pm_net_of an_net_of cd_net_of ct_net_of), sl_net_of⟩) (c_net_of : PySem.W.codeIn K cd_net_of "net_of" = true) (k_net_of : PySem.W.keepIn K (.ref p_net_of) = true)
    (a_reduced : PySem.W.nsIn K mainGlobals "reduced" = some (some (.ref p_reduced))) (l_reduced : K.lookup p_reduced = some ⟨oc_reduced, od_reduced, .func (PySem.W.fnOf "reduced" "reduced" (defArgs s_reduced) (defBody s_reduced) (defScope s_reduced) .none kV_reduced dc_reduced pm_reduced an_reduced cd_reduced ct_reduced), sl_reduced⟩) (c_reduced : PySem.W.codeIn K cd_reduced "reduced" = true) (k_reduced : PySem.W.keepIn K (.ref p_reduced) = true)
    (a_is_bad : PySem.W.nsIn K mainGlobals "is_bad" = some (some (.ref p_is_bad))) (l_is_bad : K.lookup p_is_bad = some ⟨oc_is_bad, od_is_bad, .func (PySem.W.fnOf "is_bad" "is_bad" (defArgs s_is_bad) (defBody s_is_bad) (defScope s_is_bad) .none kV_is_bad dc_is_bad pm_is_bad an_is_bad cd_is_bad ct_is_bad), sl_is_bad⟩) (c_is_bad : PySem.W.codeIn K cd_is_bad "is_bad" = true) (k_is_bad : PySem.W.keepIn K (.ref p_is_bad) = true)
    (a_good_worth : PySem.W.nsIn K mainGlobals "good_worth" = some (some (.ref p_good_worth))) (l_good_worth : K.lookup p_good_worth = some ⟨oc_good_worth, od_good_worth, .func (PySem.W.fnOf "good_worth" "good_worth" (defArgs s_good_worth) (defBody s_good_worth) (defScope s_good_worth) .none kV_good_worth dc_good_worth pm_good_worth an_good_worth cd_good_worth ct_good_worth), sl_good_worth⟩) (c_good_worth : PySem.W.codeIn K cd_good_worth "good_worth" = true) (k_good_worth : PySem.W.keepIn K (.ref p_good_worth) = true)
    (a_bad_worth : PySem.W.nsIn K mainGlobals "bad_worth" = some (some (.ref p_bad_worth))) (l_bad_worth : K.lookup p_bad_worth = some ⟨oc_bad_worth, od_bad_worth, .func (PySem.W.fnOf "bad_worth" "bad_worth" (defArgs s_bad_worth) (defBody s_bad_worth) (defScope s_bad_worth) .none kV_bad_worth dc_bad_worth pm_bad_worth an_bad_worth cd_bad_worth ct_bad_worth), sl_bad_worth⟩) (c_bad_worth : PySem.W.codeIn K cd_bad_worth "bad_worth" = true) (k_bad_worth : PySem.W.keepIn K (.ref p_bad_worth) = true)
    (a_ring_along : PySem.W.nsIn K mainGlobals "ring_along" = some (some (.ref p_ring_along))) (l_ring_along : K.lookup p_ring_along = some ⟨oc_ring_along, od_ring_along, .func (PySem.W.fnOf "ring_along" "ring_along" (defArgs s_ring_along) (defBody s_ring_along) (defScope s_ring_along) .none kV_ring_along dc_ring_along pm_ring_along an_ring_along cd_ring_along ct_ring_along), sl_ring_along⟩) (c_ring_along : PySem.W.codeIn K cd_ring_along "ring_along" = true) (k_ring_along : PySem.W.keepIn K (.ref p_ring_along) = true)
    (a_better_ring : PySem.W.nsIn K mainGlobals "better_ring" = some (some (.ref p_better_ring))) (l_better_ring : K.lookup p_better_ring = some ⟨oc_better_ring, od_better_ring, .func (PySem.W.fnOf "better_ring" "better_ring" (defArgs s_better_ring) (defBody s_better_ring) (defScope s_better_ring) .none kV_better_ring dc_better_ring pm_better_ring an_better_ring cd_better_ring ct_better_ring), sl_better_ring⟩) (c_better_ring : PySem.W.codeIn K cd_better_ring "better_ring" = true) (k_better_ring : PySem.W.keepIn K (.ref p_better_ring) = true)
    (a_best_by : PySem.W.nsIn K mainGlobals "best_by" = some (some (.ref p_best_by))) (l_best_by : K.lookup p_best_by = some ⟨oc_best_by, od_best_by, .func (PySem.W.fnOf "best_by" "best_by" (defArgs s_best_by) (defBody s_best_by) (defScope s_best_by) .none kV_best_by dc_best_by pm_best_by an_best_by cd_best_by ct_best_by), sl_best_by⟩) (c_best_by : PySem.W.codeIn K cd_best_by "best_by" = true) (k_best_by : PySem.W.keepIn K (.ref p_best_by) = true)
    (a_shown : PySem.W.nsIn K mainGlobals "shown" = some (some (.ref p_shown))) (l_shown : K.lookup p_shown = some ⟨oc_shown, od_shown, .func (PySem.W.fnOf "shown" "shown" (defArgs s_shown) (defBody s_shown) (defScope s_shown) .none kV_shown dc_shown pm_shown an_shown cd_shown ct_shown), sl_shown⟩) (c_shown : PySem.W.codeIn K cd_shown "shown" = true) (k_shown : PySem.W.keepIn K (.ref p_shown) = true)
    (a_good_share : PySem.W.nsIn K mainGlobals "good_share" = some (some (.ref p_good_share))) (l_good_share : K.lookup p_good_share = some ⟨oc_good_share, od_good_share, .func (PySem.W.fnOf "good_share" "good_share" (defArgs s_good_share) (defBody s_good_share) (defScope s_good_share) .none kV_good_share dc_good_share pm_good_share an_good_share cd_good_share ct_good_share), sl_good_share⟩) (c_good_share : PySem.W.codeIn K cd_good_share "good_share" = true) (k_good_share : PySem.W.keepIn K (.ref p_good_share) = true)
    (a_good_ring : PySem.W.nsIn K mainGlobals "good_ring" = some (some (.ref p_good_ring))) (l_good_ring : K.lookup p_good_ring = some ⟨oc_good_ring, od_good_ring, .func (PySem.W.fnOf "good_ring" "good_ring" (defArgs s_good_ring) (defBody s_good_ring) (defScope s_good_ring) .none kV_good_ring dc_good_ring pm_good_ring an_good_ring cd_good_ring ct_good_ring), sl_good_ring⟩) (c_good_ring : PySem.W.codeIn K cd_good_ring "good_ring" = true) (k_good_ring : PySem.W.keepIn K (.ref p_good_ring) = true)
    (a_bad_share : PySem.W.nsIn K mainGlobals "bad_share" = some (some (.ref p_bad_share))) (l_bad_share : K.lookup p_bad_share = some ⟨oc_bad_share, od_bad_share, .func (PySem.W.fnOf "bad_share" "bad_share" (defArgs s_bad_share) (defBody s_bad_share) (defScope s_bad_share) .none kV_bad_share dc_bad_share pm_bad_share an_bad_share cd_bad_share ct_bad_share), sl_bad_share⟩) (c_bad_share : PySem.W.codeIn K cd_bad_share "bad_share" = true) (k_bad_share : PySem.W.keepIn K (.ref p_bad_share) = true)
    (a_bad_ring : PySem.W.nsIn K mainGlobals "bad_ring" = some (some (.ref p_bad_ring))) (l_bad_ring : K.lookup p_bad_ring = some ⟨oc_bad_ring, od_bad_ring, .func (PySem.W.fnOf "bad_ring" "bad_ring" (defArgs s_bad_ring) (defBody s_bad_ring) (defScope s_bad_ring) .none kV_bad_ring dc_bad_ring pm_bad_ring an_bad_ring cd_bad_ring ct_bad_ring), sl_bad_ring⟩) (c_bad_ring : PySem.W.codeIn K cd_bad_ring "bad_ring" = true) (k_bad_ring : PySem.W.keepIn K (.ref p_bad_ring) = true)
    (a__law_spring : PySem.W.nsIn K mainGlobals "_law_spring" = some (some (.ref p__law_spring))) (l__law_spring : K.lookup p__law_spring = some ⟨oc__law_spring, od__law_spring, .func (PySem.W.fnOf "_law_spring" "_law_spring" (defArgs s__law_spring) (defBody s__law_spring) (defScope s__law_spring) .none kV__law_spring dc__law_spring pm__law_spring an__law_spring cd__law_spring ct__law_spring), sl__law_spring⟩) (c__law_spring : PySem.W.codeIn K cd__law_spring "_law_spring" = true) (k__law_spring : PySem.W.keepIn K (.ref p__law_spring) = true)
    (a__law_pick : PySem.W.nsIn K mainGlobals "_law_pick" = some (some (.ref p__law_pick))) (l__law_pick : K.lookup p__law_pick = some ⟨oc__law_pick, od__law_pick, .func (PySem.W.fnOf "_law_pick" "_law_pick" (defArgs s__law_pick) (defBody s__law_pick) (defScope s__law_pick) .none kV__law_pick dc__law_pick pm__law_pick an__law_pick cd__law_pick ct__law_pick), sl__law_pick⟩) (c__law_pick : PySem.W.codeIn K cd__law_pick "_law_pick" = true) (k__law_pick : PySem.W.keepIn K (.ref p__law_pick) = true)
    (a__law_feed : PySem.W.nsIn K mainGlobals "_law_feed" = some (some (.ref p__law_feed))) (l__law_feed : K.lookup p__law_feed = some ⟨oc__law_feed, od__law_feed, .func (PySem.W.fnOf "_law_feed" "_law_feed" (defArgs s__law_feed) (defBody s__law_feed) (defScope s__law_feed) .none kV__law_feed dc__law_feed pm__law_feed an__law_feed cd__law_feed ct__law_feed), sl__law_feed⟩) (c__law_feed : PySem.W.codeIn K cd__law_feed "_law_feed" = true) (k__law_feed : PySem.W.keepIn K (.ref p__law_feed) = true)
    (a__law_plan : PySem.W.nsIn K mainGlobals "_law_plan" = some (some (.ref p__law_plan))) (l__law_plan : K.lookup p__law_plan = some ⟨oc__law_plan, od__law_plan, .func (PySem.W.fnOf "_law_plan" "_law_plan" (defArgs s__law_plan) (defBody s__law_plan) (defScope s__law_plan) .none kV__law_plan dc__law_plan pm__law_plan an__law_plan cd__law_plan ct__law_plan), sl__law_plan⟩) (c__law_plan : PySem.W.codeIn K cd__law_plan "_law_plan" = true) (k__law_plan : PySem.W.keepIn K (.ref p__law_plan) = true)
    (a__law_begin : PySem.W.nsIn K mainGlobals "_law_begin" = some (some (.ref p__law_begin))) (l__law_begin : K.lookup p__law_begin = some ⟨oc__law_begin, od__law_begin, .func (PySem.W.fnOf "_law_begin" "_law_begin" (defArgs s__law_begin) (defBody s__law_begin) (defScope s__law_begin) .none kV__law_begin dc__law_begin pm__law_begin an__law_begin cd__law_begin ct__law_begin), sl__law_begin⟩) (c__law_begin : PySem.W.codeIn K cd__law_begin "_law_begin" = true) (k__law_begin : PySem.W.keepIn K (.ref p__law_begin) = true)
    (a__law_out : PySem.W.nsIn K mainGlobals "_law_out" = some (some (.ref p__law_out))) (l__law_out : K.lookup p__law_out = some ⟨oc__law_out, od__law_out, .func (PySem.W.fnOf "_law_out" "_law_out" (defArgs s__law_out) (defBody s__law_out) (defScope s__law_out) .none kV__law_out dc__law_out pm__law_out an__law_out cd__law_out ct__law_out), sl__law_out⟩) (c__law_out : PySem.W.codeIn K cd__law_out "_law_out" = true) (k__law_out : PySem.W.keepIn K (.ref p__law_out) = true)
    (a__law_tick : PySem.W.nsIn K mainGlobals "_law_tick" = some (some (.ref p__law_tick))) (l__law_tick : K.lookup p__law_tick = some ⟨oc__law_tick, od__law_tick, .func (PySem.W.fnOf "_law_tick" "_law_tick" (defArgs s__law_tick) (defBody s__law_tick) (defScope s__law_tick) .none kV__law_tick dc__law_tick pm__law_tick an__law_tick cd__law_tick ct__law_tick), sl__law_tick⟩) (c__law_tick : PySem.W.codeIn K cd__law_tick "_law_tick" = true) (k__law_tick : PySem.W.keepIn K (.ref p__law_tick) = true)
    (a__law_choices : PySem.W.nsIn K mainGlobals "_law_choices" = some (some (.ref p__law_choices))) (l__law_choices : K.lookup p__law_choices = some ⟨oc__law_choices, od__law_choices, .func (PySem.W.fnOf "_law_choices" "_law_choices" (defArgs s__law_choices) (defBody s__law_choices) (defScope s__law_choices) .none kV__law_choices dc__law_choices pm__law_choices an__law_choices cd__law_choices ct__law_choices), sl__law_choices⟩) (c__law_choices : PySem.W.codeIn K cd__law_choices "_law_choices" = true) (k__law_choices : PySem.W.keepIn K (.ref p__law_choices) = true)
    (a__law_ways : PySem.W.nsIn K mainGlobals "_law_ways" = some (some (.ref p__law_ways))) (l__law_ways : K.lookup p__law_ways = some ⟨oc__law_ways, od__law_ways, .func (PySem.W.fnOf "_law_ways" "_law_ways" (defArgs s__law_ways) (defBody s__law_ways) (defScope s__law_ways) .none kV__law_ways dc__law_ways pm__law_ways an__law_ways cd__law_ways ct__law_ways), sl__law_ways⟩) (c__law_ways : PySem.W.codeIn K cd__law_ways "_law_ways" = true) (k__law_ways : PySem.W.keepIn K (.ref p__law_ways) = true)
    (a__law_worth : PySem.W.nsIn K mainGlobals "_law_worth" = some (some (.ref p__law_worth))) (l__law_worth : K.lookup p__law_worth = some ⟨oc__law_worth, od__law_worth, .func (PySem.W.fnOf "_law_worth" "_law_worth" (defArgs s__law_worth) (defBody s__law_worth) (defScope s__law_worth) .none kV__law_worth dc__law_worth pm__law_worth an__law_worth cd__law_worth ct__law_worth), sl__law_worth⟩) (c__law_worth : PySem.W.codeIn K cd__law_worth "_law_worth" = true) (k__law_worth : PySem.W.keepIn K (.ref p__law_worth) = true)
    (a__law_is_greatest : PySem.W.nsIn K mainGlobals "_law_is_greatest" = some (some (.ref p__law_is_greatest))) (l__law_is_greatest : K.lookup p__law_is_greatest = some ⟨oc__law_is_greatest, od__law_is_greatest, .func (PySem.W.fnOf "_law_is_greatest" "_law_is_greatest" (defArgs s__law_is_greatest) (defBody s__law_is_greatest) (defScope s__law_is_greatest) .none kV__law_is_greatest dc__law_is_greatest pm__law_is_greatest an__law_is_greatest cd__law_is_greatest ct__law_is_greatest), sl__law_is_greatest⟩) (c__law_is_greatest : PySem.W.codeIn K cd__law_is_greatest "_law_is_greatest" = true) (k__law_is_greatest : PySem.W.keepIn K (.ref p__law_is_greatest) = true)
    (a__law_ring_right : PySem.W.nsIn K mainGlobals "_law_ring_right" = some (some (.ref p__law_ring_right))) (l__law_ring_right : K.lookup p__law_ring_right = some ⟨oc__law_ring_right, od__law_ring_right, .func (PySem.W.fnOf "_law_ring_right" "_law_ring_right" (defArgs s__law_ring_right) (defBody s__law_ring_right) (defScope s__law_ring_right) .none kV__law_ring_right dc__law_ring_right pm__law_ring_right an__law_ring_right cd__law_ring_right ct__law_ring_right), sl__law_ring_right⟩) (c__law_ring_right : PySem.W.codeIn K cd__law_ring_right "_law_ring_right" = true) (k__law_ring_right : PySem.W.keepIn K (.ref p__law_ring_right) = true)
    (a__law_is_share : PySem.W.nsIn K mainGlobals "_law_is_share" = some (some (.ref p__law_is_share))) (l__law_is_share : K.lookup p__law_is_share = some ⟨oc__law_is_share, od__law_is_share, .func (PySem.W.fnOf "_law_is_share" "_law_is_share" (defArgs s__law_is_share) (defBody s__law_is_share) (defScope s__law_is_share) .none kV__law_is_share dc__law_is_share pm__law_is_share an__law_is_share cd__law_is_share ct__law_is_share), sl__law_is_share⟩) (c__law_is_share : PySem.W.codeIn K cd__law_is_share "_law_is_share" = true) (k__law_is_share : PySem.W.keepIn K (.ref p__law_is_share) = true)
    (a_law : PySem.W.nsIn K mainGlobals "law" = some (some (.ref p_law))) (l_law : K.lookup p_law = some ⟨oc_law, od_law, .func (PySem.W.fnOf "law" "law" (defArgs s_law) (defBody s_law) (defScope s_law) .none kV_law dc_law pm_law an_law cd_law ct_law), sl_law⟩) (c_law : PySem.W.codeIn K cd_law "law" = true) (k_law : PySem.W.keepIn K (.ref p_law) = true)
    (n_abs : PySem.W.nsIn K mainGlobals "abs" = some none)
    (n_any : PySem.W.nsIn K mainGlobals "any" = some none)
    (n_bool : PySem.W.nsIn K mainGlobals "bool" = some none)
    (n_dict : PySem.W.nsIn K mainGlobals "dict" = some none)
    (n_int : PySem.W.nsIn K mainGlobals "int" = some none)
    (n_isinstance : PySem.W.nsIn K mainGlobals "isinstance" = some none)
    (n_len : PySem.W.nsIn K mainGlobals "len" = some none)
    (n_list : PySem.W.nsIn K mainGlobals "list" = some none)
    (n_min : PySem.W.nsIn K mainGlobals "min" = some none)
    (n_range : PySem.W.nsIn K mainGlobals "range" = some none)
    (n_sorted : PySem.W.nsIn K mainGlobals "sorted" = some none)
    (n_sum : PySem.W.nsIn K mainGlobals "sum" = some none)
    (n_tuple : PySem.W.nsIn K mainGlobals "tuple" = some none)
    (c_RUNS : PySem.W.nsIn K mainGlobals "RUNS" = some (some (Value.str "runs" t_RUNS)))
    (c_FILLS : PySem.W.nsIn K mainGlobals "FILLS" = some (some (Value.str "fills" t_FILLS)))
    (c_FREE : PySem.W.nsIn K mainGlobals "FREE" = some (some (Value.int (-1) t_FREE)))
    (c_LYING : PySem.W.nsIn K mainGlobals "LYING" = some (some (Value.int (-2) t_LYING)))
    (c_COMINGS : PySem.W.nsIn K mainGlobals "COMINGS" = some (some (.ref p_COMINGS))) (lc_COMINGS : K.lookup p_COMINGS = some ⟨.type "tuple", od_COMINGS, .seq #[Value.int (-1) t_COMINGS_0, Value.int (0) t_COMINGS_1, Value.int (-2) t_COMINGS_2] m_COMINGS, sl_COMINGS⟩)
    (c_BAD : PySem.W.nsIn K mainGlobals "BAD" = some (some (.ref p_BAD))) (lc_BAD : K.lookup p_BAD = some ⟨.type "tuple", od_BAD, .seq #[Value.str "empty" t_BAD_0, Value.str "half" t_BAD_1, Value.str "over" t_BAD_2] m_BAD, sl_BAD⟩)
    (e_InvalidPlan : PySem.W.nsIn K mainGlobals "InvalidPlan" = some (some (.ref x_InvalidPlan))) (eq_InvalidPlan : PySem.W.excIn K x_InvalidPlan [.type "ValueError", .type "Exception", .type "BaseException", .type "object"] "ValueError.__new__" = true) (ek_InvalidPlan : PySem.W.keepIn K (.ref x_InvalidPlan) = true) (eb_InvalidPlan : PySem.W.subIn K (.ref x_InvalidPlan) (.type "BaseException") = some true) (et_InvalidPlan : PySem.W.typeIn K (.ref x_InvalidPlan) = some (.type "type"))
    (hlaw : ∀ ns : List Int, ns.length ≤ 63 → ∃ M', f_law_k06 [.ro (ns.map .int)] [] = some (.ok (.bl true) M')) :
    ∃ fd : FuncData, (∀ (s : Shared) (v : Value), BindsTo s fd ⟨[v], []⟩ [("script", v)]) ∧ ∀ base : Heap, K.In base → base.Ns mainGlobals mg → FnOk P w K mg base (L2.CX P w) 6 fa fd ["script"] (spLaw K) := by
  letI : Pw := ⟨P, w, mg⟩
  have e := hfa.symm.trans (PySem.W.mg_of X G a_law)
  cases e
  have F_is_within := fun_mk (st := s_is_within) l_is_within c_is_within k_is_within
  have F_is_row := fun_mk (st := s_is_row) l_is_row c_is_row k_is_row
  have F_is_program := fun_mk (st := s_is_program) l_is_program c_is_program k_is_program
  have F_is_feed := fun_mk (st := s_is_feed) l_is_feed c_is_feed k_is_feed
  have F_is_plan := fun_mk (st := s_is_plan) l_is_plan c_is_plan k_is_plan
  have F_look_at_plan := fun_mk (st := s_look_at_plan) l_look_at_plan c_look_at_plan k_look_at_plan
  have F_begin_of := fun_mk (st := s_begin_of) l_begin_of c_begin_of k_begin_of
  have F_word_of := fun_mk (st := s_word_of) l_word_of c_word_of k_word_of
  have F_ran := fun_mk (st := s_ran) l_ran c_ran k_ran
  have F_filled := fun_mk (st := s_filled) l_filled c_filled k_filled
  have F_passed := fun_mk (st := s_passed) l_passed c_passed k_passed
  have F_choices_of := fun_mk (st := s_choices_of) l_choices_of c_choices_of k_choices_of
  have F_net_of := fun_mk (st := s_net_of) l_net_of c_net_of k_net_of
  have F_reduced := fun_mk (st := s_reduced) l_reduced c_reduced k_reduced
  have F_is_bad := fun_mk (st := s_is_bad) l_is_bad c_is_bad k_is_bad
  have F_good_worth := fun_mk (st := s_good_worth) l_good_worth c_good_worth k_good_worth
  have F_bad_worth := fun_mk (st := s_bad_worth) l_bad_worth c_bad_worth k_bad_worth
  have F_ring_along := fun_mk (st := s_ring_along) l_ring_along c_ring_along k_ring_along
  have F_better_ring := fun_mk (st := s_better_ring) l_better_ring c_better_ring k_better_ring
  have F_best_by := fun_mk (st := s_best_by) l_best_by c_best_by k_best_by
  have F_shown := fun_mk (st := s_shown) l_shown c_shown k_shown
  have F_good_share := fun_mk (st := s_good_share) l_good_share c_good_share k_good_share
  have F_good_ring := fun_mk (st := s_good_ring) l_good_ring c_good_ring k_good_ring
  have F_bad_share := fun_mk (st := s_bad_share) l_bad_share c_bad_share k_bad_share
  have F_bad_ring := fun_mk (st := s_bad_ring) l_bad_ring c_bad_ring k_bad_ring
  have F__law_spring := fun_mk (st := s__law_spring) l__law_spring c__law_spring k__law_spring
  have F__law_pick := fun_mk (st := s__law_pick) l__law_pick c__law_pick k__law_pick
  have F__law_feed := fun_mk (st := s__law_feed) l__law_feed c__law_feed k__law_feed
  have F__law_plan := fun_mk (st := s__law_plan) l__law_plan c__law_plan k__law_plan
  have F__law_begin := fun_mk (st := s__law_begin) l__law_begin c__law_begin k__law_begin
  have F__law_out := fun_mk (st := s__law_out) l__law_out c__law_out k__law_out
  have F__law_tick := fun_mk (st := s__law_tick) l__law_tick c__law_tick k__law_tick
  have F__law_choices := fun_mk (st := s__law_choices) l__law_choices c__law_choices k__law_choices
  have F__law_ways := fun_mk (st := s__law_ways) l__law_ways c__law_ways k__law_ways
  have F__law_worth := fun_mk (st := s__law_worth) l__law_worth c__law_worth k__law_worth
  have F__law_is_greatest := fun_mk (st := s__law_is_greatest) l__law_is_greatest c__law_is_greatest k__law_is_greatest
  have F__law_ring_right := fun_mk (st := s__law_ring_right) l__law_ring_right c__law_ring_right k__law_ring_right
  have F__law_is_share := fun_mk (st := s__law_is_share) l__law_is_share c__law_is_share k__law_is_share
  have F_law := fun_mk (st := s_law) l_law c_law k_law
  have T : Top K mg (fun n => if n = 0 then x_InvalidPlan else x_InvalidPlan) := {
    F_is_within := ⟨_, _, F_is_within, PySem.W.mg_of X G a_is_within, F_is_within.binds (ps := ["value", "low", "high"]) fun _ _ _ _ _ _ us hl => match us, hl with | [_, _, _], _ => rfl⟩,
    F_is_row := ⟨_, _, F_is_row, PySem.W.mg_of X G a_is_row, F_is_row.binds (ps := ["value", "many"]) fun _ _ _ _ _ _ us hl => match us, hl with | [_, _], _ => rfl⟩,
    F_is_program := ⟨_, _, F_is_program, PySem.W.mg_of X G a_is_program, F_is_program.binds (ps := ["value"]) fun _ _ _ _ _ _ us hl => match us, hl with | [_], _ => rfl⟩,
    F_is_feed := ⟨_, _, F_is_feed, PySem.W.mg_of X G a_is_feed, F_is_feed.binds (ps := ["value"]) fun _ _ _ _ _ _ us hl => match us, hl with | [_], _ => rfl⟩,
    F_is_plan := ⟨_, _, F_is_plan, PySem.W.mg_of X G a_is_plan, F_is_plan.binds (ps := ["value"]) fun _ _ _ _ _ _ us hl => match us, hl with | [_], _ => rfl⟩,
    F_look_at_plan := ⟨_, _, F_look_at_plan, PySem.W.mg_of X G a_look_at_plan, F_look_at_plan.binds (ps := ["plan"]) fun _ _ _ _ _ _ us hl => match us, hl with | [_], _ => rfl⟩,
    F_begin_of := ⟨_, _, F_begin_of, PySem.W.mg_of X G a_begin_of, F_begin_of.binds (ps := ["plan"]) fun _ _ _ _ _ _ us hl => match us, hl with | [_], _ => rfl⟩,
    F_word_of := ⟨_, _, F_word_of, PySem.W.mg_of X G a_word_of, F_word_of.binds (ps := ["plan", "one"]) fun _ _ _ _ _ _ us hl => match us, hl with | [_, _], _ => rfl⟩,
    F_ran := ⟨_, _, F_ran, PySem.W.mg_of X G a_ran, F_ran.binds (ps := ["plan", "stand", "comes"]) fun _ _ _ _ _ _ us hl => match us, hl with | [_, _, _], _ => rfl⟩,
    F_filled := ⟨_, _, F_filled, PySem.W.mg_of X G a_filled, F_filled.binds (ps := ["plan", "stand", "slips"]) fun _ _ _ _ _ _ us hl => match us, hl with | [_, _, _], _ => rfl⟩,
    F_passed := ⟨_, _, F_passed, PySem.W.mg_of X G a_passed, F_passed.binds (ps := ["plan", "stand", "choice"]) fun _ _ _ _ _ _ us hl => match us, hl with | [_, _, _], _ => rfl⟩,
    F_choices_of := ⟨_, _, F_choices_of, PySem.W.mg_of X G a_choices_of, F_choices_of.binds (ps := ["plan", "stand"]) fun _ _ _ _ _ _ us hl => match us, hl with | [_, _], _ => rfl⟩,
    F_net_of := ⟨_, _, F_net_of, PySem.W.mg_of X G a_net_of, F_net_of.binds (ps := ["plan"]) fun _ _ _ _ _ _ us hl => match us, hl with | [_], _ => rfl⟩,
    F_reduced := ⟨_, _, F_reduced, PySem.W.mg_of X G a_reduced, F_reduced.binds (ps := ["top", "below"]) fun _ _ _ _ _ _ us hl => match us, hl with | [_, _], _ => rfl⟩,
    F_is_bad := ⟨_, _, F_is_bad, PySem.W.mg_of X G a_is_bad, F_is_bad.binds (ps := ["words"]) fun _ _ _ _ _ _ us hl => match us, hl with | [_], _ => rfl⟩,
    F_good_worth := ⟨_, _, F_good_worth, PySem.W.mg_of X G a_good_worth, F_good_worth.binds (ps := ["words"]) fun _ _ _ _ _ _ us hl => match us, hl with | [_], _ => rfl⟩,
    F_bad_worth := ⟨_, _, F_bad_worth, PySem.W.mg_of X G a_bad_worth, F_bad_worth.binds (ps := ["words"]) fun _ _ _ _ _ _ us hl => match us, hl with | [_], _ => rfl⟩,
    F_ring_along := ⟨_, _, F_ring_along, PySem.W.mg_of X G a_ring_along, F_ring_along.binds (ps := ["ahead", "stand"]) fun _ _ _ _ _ _ us hl => match us, hl with | [_, _], _ => rfl⟩,
    F_better_ring := ⟨_, _, F_better_ring, PySem.W.mg_of X G a_better_ring, F_better_ring.binds (ps := ["net", "worth", "share"]) fun _ _ _ _ _ _ us hl => match us, hl with | [_, _, _], _ => rfl⟩,
    F_best_by := ⟨_, _, F_best_by, PySem.W.mg_of X G a_best_by, F_best_by.binds (ps := ["net", "worth"]) fun _ _ _ _ _ _ us hl => match us, hl with | [_, _], _ => rfl⟩,
    F_shown := ⟨_, _, F_shown, PySem.W.mg_of X G a_shown, F_shown.binds (ps := ["net", "ring"]) fun _ _ _ _ _ _ us hl => match us, hl with | [_, _], _ => rfl⟩,
    F_good_share := ⟨_, _, F_good_share, PySem.W.mg_of X G a_good_share, F_good_share.binds (ps := ["plan"]) fun _ _ _ _ _ _ us hl => match us, hl with | [_], _ => rfl⟩,
    F_good_ring := ⟨_, _, F_good_ring, PySem.W.mg_of X G a_good_ring, F_good_ring.binds (ps := ["plan"]) fun _ _ _ _ _ _ us hl => match us, hl with | [_], _ => rfl⟩,
    F_bad_share := ⟨_, _, F_bad_share, PySem.W.mg_of X G a_bad_share, F_bad_share.binds (ps := ["plan"]) fun _ _ _ _ _ _ us hl => match us, hl with | [_], _ => rfl⟩,
    F_bad_ring := ⟨_, _, F_bad_ring, PySem.W.mg_of X G a_bad_ring, F_bad_ring.binds (ps := ["plan"]) fun _ _ _ _ _ _ us hl => match us, hl with | [_], _ => rfl⟩,
    F__law_spring := ⟨_, _, F__law_spring, PySem.W.mg_of X G a__law_spring, F__law_spring.binds (ps := ["script", "at"]) fun _ _ _ _ _ _ us hl => match us, hl with | [_, _], _ => rfl⟩,
    F__law_pick := ⟨_, _, F__law_pick, PySem.W.mg_of X G a__law_pick, F__law_pick.binds (ps := ["spring", "many"]) fun _ _ _ _ _ _ us hl => match us, hl with | [_, _], _ => rfl⟩,
    F__law_feed := ⟨_, _, F__law_feed, PySem.W.mg_of X G a__law_feed, F__law_feed.binds (ps := ["spring"]) fun _ _ _ _ _ _ us hl => match us, hl with | [_], _ => rfl⟩,
    F__law_plan := ⟨_, _, F__law_plan, PySem.W.mg_of X G a__law_plan, F__law_plan.binds (ps := ["spring", "most"]) fun _ _ _ _ _ _ us hl => match us, hl with | [_, _], _ => rfl⟩,
    F__law_begin := ⟨_, _, F__law_begin, PySem.W.mg_of X G a__law_begin, F__law_begin.binds (ps := ["plan"]) fun _ _ _ _ _ _ us hl => match us, hl with | [_], _ => rfl⟩,
    F__law_out := ⟨_, _, F__law_out, PySem.W.mg_of X G a__law_out, F__law_out.binds (ps := ["plan", "one"]) fun _ _ _ _ _ _ us hl => match us, hl with | [_, _], _ => rfl⟩,
    F__law_tick := ⟨_, _, F__law_tick, PySem.W.mg_of X G a__law_tick, F__law_tick.binds (ps := ["plan", "stand", "choice"]) fun _ _ _ _ _ _ us hl => match us, hl with | [_, _, _], _ => rfl⟩,
    F__law_choices := ⟨_, _, F__law_choices, PySem.W.mg_of X G a__law_choices, F__law_choices.binds (ps := ["plan", "stand"]) fun _ _ _ _ _ _ us hl => match us, hl with | [_, _], _ => rfl⟩,
    F__law_ways := ⟨_, _, F__law_ways, PySem.W.mg_of X G a__law_ways, F__law_ways.binds (ps := ["plan"]) fun _ _ _ _ _ _ us hl => match us, hl with | [_], _ => rfl⟩,
    F__law_worth := ⟨_, _, F__law_worth, PySem.W.mg_of X G a__law_worth, F__law_worth.binds (ps := ["words_so", "way"]) fun _ _ _ _ _ _ us hl => match us, hl with | [_, _], _ => rfl⟩,
    F__law_is_greatest := ⟨_, _, F__law_is_greatest, PySem.W.mg_of X G a__law_is_greatest, F__law_is_greatest.binds (ps := ["ways", "way", "share"]) fun _ _ _ _ _ _ us hl => match us, hl with | [_, _, _], _ => rfl⟩,
    F__law_ring_right := ⟨_, _, F__law_ring_right, PySem.W.mg_of X G a__law_ring_right, F__law_ring_right.binds (ps := ["plan", "seen", "way", "share"]) fun _ _ _ _ _ _ us hl => match us, hl with | [_, _, _, _], _ => rfl⟩,
    F__law_is_share := ⟨_, _, F__law_is_share, PySem.W.mg_of X G a__law_is_share, F__law_is_share.binds (ps := ["value"]) fun _ _ _ _ _ _ us hl => match us, hl with | [_], _ => rfl⟩,
    F_law := ⟨_, _, F_law, PySem.W.mg_of X G a_law, F_law.binds (ps := ["script"]) fun _ _ _ _ _ _ us hl => match us, hl with | [_], _ => rfl⟩,
    n_abs := PySem.W.mg_none_of X G n_abs,
    n_any := PySem.W.mg_none_of X G n_any,
    n_bool := PySem.W.mg_none_of X G n_bool,
    n_dict := PySem.W.mg_none_of X G n_dict,
    n_int := PySem.W.mg_none_of X G n_int,
    n_isinstance := PySem.W.mg_none_of X G n_isinstance,
    n_len := PySem.W.mg_none_of X G n_len,
    n_list := PySem.W.mg_none_of X G n_list,
    n_min := PySem.W.mg_none_of X G n_min,
    n_range := PySem.W.mg_none_of X G n_range,
    n_sorted := PySem.W.mg_none_of X G n_sorted,
    n_sum := PySem.W.mg_none_of X G n_sum,
    n_tuple := PySem.W.mg_none_of X G n_tuple,
    c_RUNS := ⟨_, (.str "runs"), PySem.W.mg_of X G c_RUNS, ⟨_, rfl⟩, fun _ _ => .str _⟩,
    c_FILLS := ⟨_, (.str "fills"), PySem.W.mg_of X G c_FILLS, ⟨_, rfl⟩, fun _ _ => .str _⟩,
    c_FREE := ⟨_, (.int (-1)), PySem.W.mg_of X G c_FREE, ⟨_, rfl⟩, fun _ _ => .int _⟩,
    c_LYING := ⟨_, (.int (-2)), PySem.W.mg_of X G c_LYING, ⟨_, rfl⟩, fun _ _ => .int _⟩,
    c_COMINGS := cst_tup (vs := [.int (-1), .int (0), .int (-2)]) (PySem.W.mg_of X G c_COMINGS) lc_COMINGS (by simp) (.cons ⟨_, rfl⟩ (.cons ⟨_, rfl⟩ (.cons ⟨_, rfl⟩ .nil))) fun _ _ => (.cons (.int _) (.cons (.int _) (.cons (.int _) .nil))),
    c_BAD := cst_tup (vs := [.str "empty", .str "half", .str "over"]) (PySem.W.mg_of X G c_BAD) lc_BAD (by simp) (.cons ⟨_, rfl⟩ (.cons ⟨_, rfl⟩ (.cons ⟨_, rfl⟩ .nil))) fun _ _ => (.cons (.str _) (.cons (.str _) (.cons (.str _) .nil))),
    e_InvalidPlan := ⟨PySem.W.mg_of X G e_InvalidPlan, eq_InvalidPlan, ek_InvalidPlan, eb_InvalidPlan, et_InvalidPlan⟩ }
  exact ⟨_, fun s v => .of_eq rfl, fun base _ _ => fnLaw_spec (ok_law T F_law) hlaw⟩
end K06
open PySem PySem.W PyProof.Rows
set_option maxHeartbeats 0 in
theorem PySem.Challenge.cw_eyedbelt_k06_whole_shares_in_the_long_ru_holds : PySem.Challenge.rw_eyedbelt_k06_whole_shares_in_the_long_ru.Holds := by
  w_on; o_law; k_head; (case hw => w_witness2)
  k_fill
  refine L2.walk_of (l := PySem.Challenge.rw_eyedbelt_k06_whole_shares_in_the_long_ru) (n := 63) (k := 6) (x := "script") (CX := fun w => L2.CX PySem.Challenge.pw_eyedbelt_k06_whole_shares_in_the_long_ru w) (sp := fun w => DL.spLaw _) rfl (by decide) rfl ⟨rfl, by decide, by decide⟩ (fun w h Y => PySem.W.kIn_of Y) ?F (fun _ _ a ns hl _ hS => ⟨a, ns, rfl, hS, hl, fun _ => rfl⟩) (fun _ _ _ _ _ h => DL.cx_no h)
  case F =>
    intro w mg fa h KX G hmg
    refine' K06.all_mk KX G hmg ?a_is_within ?l_is_within ?c_is_within ?k_is_within ?a_is_row ?l_is_row ?c_is_row ?k_is_row ?a_is_program ?l_is_program ?c_is_program ?k_is_program ?a_is_feed ?l_is_feed ?c_is_feed ?k_is_feed ?a_is_plan ?l_is_plan ?c_is_plan ?k_is_plan ?a_look_at_plan ?l_look_at_plan ?c_look_at_plan ?k_look_at_plan ?a_begin_of ?l_begin_of ?c_begin_of ?k_begin_of ?a_word_of ?l_word_of ?c_word_of ?k_word_of ?a_ran ?l_ran ?c_ran ?k_ran ?a_filled ?l_filled ?c_filled ?k_filled ?a_passed ?l_passed ?c_passed ?k_passed ?a_choices_of ?l_choices_of ?c_choices_of ?k_choices_of ?a_net_of ?l_net_of ?c_net_of ?k_net_of ?a_reduced ?l_reduced ?c_reduced ?k_reduced ?a_is_bad ?l_is_bad ?c_is_bad ?k_is_bad ?a_good_worth ?l_good_worth ?c_good_worth ?k_good_worth ?a_bad_worth ?l_bad_worth ?c_bad_worth ?k_bad_worth ?a_ring_along ?l_ring_along ?c_ring_along ?k_ring_along ?a_better_ring ?l_better_ring ?c_better_ring ?k_better_ring ?a_best_by ?l_best_by ?c_best_by ?k_best_by ?a_shown ?l_shown ?c_shown ?k_shown ?a_good_share ?l_good_share ?c_good_share ?k_good_share ?a_good_ring ?l_good_ring ?c_good_ring ?k_good_ring ?a_bad_share ?l_bad_share ?c_bad_share ?k_bad_share ?a_bad_ring ?l_bad_ring ?c_bad_ring ?k_bad_ring ?a__law_spring ?l__law_spring ?c__law_spring ?k__law_spring ?a__law_pick ?l__law_pick ?c__law_pick ?k__law_pick ?a__law_feed ?l__law_feed ?c__law_feed ?k__law_feed ?a__law_plan ?l__law_plan ?c__law_plan ?k__law_plan ?a__law_begin ?l__law_begin ?c__law_begin ?k__law_begin ?a__law_out ?l__law_out ?c__law_out ?k__law_out ?a__law_tick ?l__law_tick ?c__law_tick ?k__law_tick ?a__law_choices ?l__law_choices ?c__law_choices ?k__law_choices ?a__law_ways ?l__law_ways ?c__law_ways ?k__law_ways ?a__law_worth ?l__law_worth ?c__law_worth ?k__law_worth ?a__law_is_greatest ?l__law_is_greatest ?c__law_is_greatest ?k__law_is_greatest ?a__law_ring_right ?l__law_ring_right ?c__law_ring_right ?k__law_ring_right ?a__law_is_share ?l__law_is_share ?c__law_is_share ?k__law_is_share ?a_law ?l_law ?c_law ?k_law ?n_abs ?n_any ?n_bool ?n_dict ?n_int ?n_isinstance ?n_len ?n_list ?n_min ?n_range ?n_sorted ?n_sum ?n_tuple ?c_RUNS ?c_FILLS ?c_FREE ?c_LYING ?c_COMINGS ?lc_COMINGS ?c_BAD ?lc_BAD ?e_InvalidPlan ?eq_InvalidPlan ?ek_InvalidPlan ?eb_InvalidPlan ?et_InvalidPlan (fun ns h => EB.law06_ok (inst := ⟨PySem.Challenge.pw_eyedbelt_k06_whole_shares_in_the_long_ru, w, mg⟩) h)
    (case a_is_within => k_is)
    (case l_is_within => k_is)
    (case c_is_within => k_is)
    (case k_is_within => k_is)
    (case a_is_row => k_is)
    (case l_is_row => k_is)
    (case c_is_row => k_is)
    (case k_is_row => k_is)
    (case a_is_program => k_is)
    (case l_is_program => k_is)
    (case c_is_program => k_is)
    (case k_is_program => k_is)
    (case a_is_feed => k_is)
    (case l_is_feed => k_is)
    (case c_is_feed => k_is)
    (case k_is_feed => k_is)
    (case a_is_plan => k_is)
    (case l_is_plan => k_is)
    (case c_is_plan => k_is)
    (case k_is_plan => k_is)
    (case a_look_at_plan => k_is)
    (case l_look_at_plan => k_is)
    (case c_look_at_plan => k_is)
    (case k_look_at_plan => k_is)
    (case a_begin_of => k_is)
    (case l_begin_of => k_is)
    (case c_begin_of => k_is)
    (case k_begin_of => k_is)
    (case a_word_of => k_is)
    (case l_word_of => k_is)
    (case c_word_of => k_is)
    (case k_word_of => k_is)
    (case a_ran => k_is)
    (case l_ran => k_is)
    (case c_ran => k_is)
    (case k_ran => k_is)
    (case a_filled => k_is)
    (case l_filled => k_is)
    (case c_filled => k_is)
    (case k_filled => k_is)
    (case a_passed => k_is)
    (case l_passed => k_is)
    (case c_passed => k_is)
    (case k_passed => k_is)
    (case a_choices_of => k_is)
    (case l_choices_of => k_is)
    (case c_choices_of => k_is)
    (case k_choices_of => k_is)
    (case a_net_of => k_is)
    (case l_net_of => k_is)
    (case c_net_of => k_is)
    (case k_net_of => k_is)
    (case a_reduced => k_is)
    (case l_reduced => k_is)
    (case c_reduced => k_is)
    (case k_reduced => k_is)
    (case a_is_bad => k_is)
    (case l_is_bad => k_is)
    (case c_is_bad => k_is)
    (case k_is_bad => k_is)
    (case a_good_worth => k_is)
    (case l_good_worth => k_is)
    (case c_good_worth => k_is)
    (case k_good_worth => k_is)
    (case a_bad_worth => k_is)
    (case l_bad_worth => k_is)
    (case c_bad_worth => k_is)
    (case k_bad_worth => k_is)
    (case a_ring_along => k_is)
    (case l_ring_along => k_is)
    (case c_ring_along => k_is)
    (case k_ring_along => k_is)
    (case a_better_ring => k_is)
    (case l_better_ring => k_is)
    (case c_better_ring => k_is)
    (case k_better_ring => k_is)
    (case a_best_by => k_is)
    (case l_best_by => k_is)
    (case c_best_by => k_is)
    (case k_best_by => k_is)
    (case a_shown => k_is)
    (case l_shown => k_is)
    (case c_shown => k_is)
    (case k_shown => k_is)
    (case a_good_share => k_is)
    (case l_good_share => k_is)
    (case c_good_share => k_is)
    (case k_good_share => k_is)
    (case a_good_ring => k_is)
    (case l_good_ring => k_is)
    (case c_good_ring => k_is)
    (case k_good_ring => k_is)
    (case a_bad_share => k_is)
    (case l_bad_share => k_is)
    (case c_bad_share => k_is)
    (case k_bad_share => k_is)
    (case a_bad_ring => k_is)
    (case l_bad_ring => k_is)
    (case c_bad_ring => k_is)
    (case k_bad_ring => k_is)
    (case a__law_spring => k_is)
    (case l__law_spring => k_is)
    (case c__law_spring => k_is)
    (case k__law_spring => k_is)
    (case a__law_pick => k_is)
    (case l__law_pick => k_is)
    (case c__law_pick => k_is)
    (case k__law_pick => k_is)
    (case a__law_feed => k_is)
    (case l__law_feed => k_is)
    (case c__law_feed => k_is)
    (case k__law_feed => k_is)
    (case a__law_plan => k_is)
    (case l__law_plan => k_is)
    (case c__law_plan => k_is)
    (case k__law_plan => k_is)
    (case a__law_begin => k_is)
    (case l__law_begin => k_is)
    (case c__law_begin => k_is)
    (case k__law_begin => k_is)
    (case a__law_out => k_is)
    (case l__law_out => k_is)
    (case c__law_out => k_is)
    (case k__law_out => k_is)
    (case a__law_tick => k_is)
    (case l__law_tick => k_is)
    (case c__law_tick => k_is)
    (case k__law_tick => k_is)
    (case a__law_choices => k_is)
    (case l__law_choices => k_is)
    (case c__law_choices => k_is)
    (case k__law_choices => k_is)
    (case a__law_ways => k_is)
    (case l__law_ways => k_is)
    (case c__law_ways => k_is)
    (case k__law_ways => k_is)
    (case a__law_worth => k_is)
    (case l__law_worth => k_is)
    (case c__law_worth => k_is)
    (case k__law_worth => k_is)
    (case a__law_is_greatest => k_is)
    (case l__law_is_greatest => k_is)
    (case c__law_is_greatest => k_is)
    (case k__law_is_greatest => k_is)
    (case a__law_ring_right => k_is)
    (case l__law_ring_right => k_is)
    (case c__law_ring_right => k_is)
    (case k__law_ring_right => k_is)
    (case a__law_is_share => k_is)
    (case l__law_is_share => k_is)
    (case c__law_is_share => k_is)
    (case k__law_is_share => k_is)
    (case a_law => k_is)
    (case l_law => k_is)
    (case c_law => k_is)
    (case k_law => k_is)
    (case n_abs => k_is)
    (case n_any => k_is)
    (case n_bool => k_is)
    (case n_dict => k_is)
    (case n_int => k_is)
    (case n_isinstance => k_is)
    (case n_len => k_is)
    (case n_list => k_is)
    (case n_min => k_is)
    (case n_range => k_is)
    (case n_sorted => k_is)
    (case n_sum => k_is)
    (case n_tuple => k_is)
    (case c_RUNS => k_is)
    (case c_FILLS => k_is)
    (case c_FREE => k_is)
    (case c_LYING => k_is)
    (case c_COMINGS => k_is)
    (case lc_COMINGS => k_is)
    (case c_BAD => k_is)
    (case lc_BAD => k_is)
    (case e_InvalidPlan => k_is)
    (case eq_InvalidPlan => k_exc)
    (case ek_InvalidPlan => k_is)
    (case eb_InvalidPlan => k_is)
    (case et_InvalidPlan => k_is)
