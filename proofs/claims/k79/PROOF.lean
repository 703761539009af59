import PyProof.Rows.All
import Wide.All
import OpenK.AllK
import Wide.FinOn
import HandS.ForMost
import HandS.Exc
import HandS.Defaults
import HandS.Style
import HandS.DictComp
import HandS.SetKeys
import HandS.TupAny
import HandS.Iter
import PyProof.AssignAttr
import PyProof.DictUpdate
import KE.KDictList
import HandS.IterVal
import KE.KOwnIter
import HandS.OwnEq
import OpenK.KOps
import PyProof.EqAt
import PyProof.EqKinds
import PyProof.TupleCall
import HandS.DictTup
import HandS.SortOrd
import HandS.SortRule
import PyProof.Rows.SetFrom
import HandS.Set
import HandS.More
import PyProof.AttrMiss
import PyProof.InstLoad
import KE.KDictPairs
import HandS.Keys
import KE.GoesMore
import KE.GoesEnum
import HandS.IsInst
import KE.KStateDown
import Lean
import HandS.Head0
import HandS.Head1
import HandS.Head2
import HandS.HeadEnd
import HandS.HeadHook1
import HandS.HeadHook2
import PySem.Challenge.RW_missedmarks_k79_whole_the_first_reads_al
set_option Elab.async false
set_option linter.all false
set_option maxRecDepth 100000
section
set_option maxHeartbeats 2000000
/-! Dl1: values as data trees over the hand layer; what is known (F), what may be changed (M). -/
namespace Dl
open PySem PySem.Spec PyProof.Rows L2

/-- data: an exact value, or a list, tuple, dict, instance that is not changed any more -/
inductive D where
  | v (x : V)
  | lst (ds : List D)
  | tup (ds : List D)
  | dct (kvs : List (Key × D))
  | obj (C : Addr) (ns : List Str) (ds : List D)

mutual
inductive Rp (H : Hp) : V → D → Prop
  | v (x : V) : Rp H x (.v x)
  | lst {a : Addr} {xs : List V} {ds : List D} : H a = some (.lst xs) → RpA H xs ds → Rp H (.ref a) (.lst ds)
  | tup {a : Addr} {xs : List V} {ds : List D} : H a = some (.tup xs) → RpA H xs ds → Rp H (.ref a) (.tup ds)
  | dct {a : Addr} {od : Obj} {kvs : List (Key × V)} {kds : List (Key × D)} : H a = some (.frz od (.dK kvs)) → RpK H kvs kds → Rp H (.ref a) (.dct kds)
  | obj {a C dx : Addr} {ns : List Str} {xs : List V} {ds : List D} : H a = some (.ins C dx (ns.zip xs)) → RpA H xs ds → Rp H (.ref a) (.obj C ns ds)
inductive RpA (H : Hp) : List V → List D → Prop
  | nil : RpA H [] []
  | cons {x : V} {d : D} {xs : List V} {ds : List D} : Rp H x d → RpA H xs ds → RpA H (x :: xs) (d :: ds)
inductive RpK (H : Hp) : List (Key × V) → List (Key × D) → Prop
  | nil : RpK H [] []
  | cons {k : Key} {x : V} {d : D} {xs : List (Key × V)} {ds : List (Key × D)} : Rp H x d → RpK H xs ds → RpK H ((k, x) :: xs) ((k, d) :: ds)
end

/-- F is known of H -/
def Ex (H H' : Hp) : Prop := ∀ a o, H a = some o → H' a = some o
abbrev Le (F H : Hp) : Prop := Ex F H
theorem Ex.refl (H : Hp) : Ex H H := fun _ _ h => h
theorem Ex.trans {H H1 H2 : Hp} (a : Ex H H1) (b : Ex H1 H2) : Ex H H2 := fun x o h => b x o (a x o h)
theorem Ex.le {F H : Hp} (h : Ex F H) : Le F H := h
theorem Ex.new {H : Hp} {p : Addr} {o : HO} (h : H p = none) : Ex H (upd H p o) := fun a u e => by
  rw [upd_ne (ne_of_none e h)]
  exact e
theorem Ex.lst {F H : Hp} (h : Le F H) {a : Addr} {xs : List V} (e : F a = some (.lst xs)) : H a = some (.lst xs) := h _ _ e
theorem Ex.tup {F H : Hp} (h : Le F H) {a : Addr} {xs : List V} (e : F a = some (.tup xs)) : H a = some (.tup xs) := h _ _ e
theorem Ex.ins {F H : Hp} (h : Le F H) {a C dx : Addr} {fs : List (Str × V)} (e : F a = some (.ins C dx fs)) : H a = some (.ins C dx fs) := h _ _ e
theorem Ex.rdK {F H : Hp} (h : Le F H) {a : Addr} {od : Obj} {kvs : List (Key × V)} (e : F a = some (.frz od (.dK kvs))) : H a = some (.frz od (.dK kvs)) := h _ _ e
theorem Rp.mono {F H : Hp} (h : Le F H) {x : V} {d : D} (r : Rp F x d) : Rp H x d := by
  refine Rp.rec (H := F) (motive_1 := fun x d _ => Rp H x d) (motive_2 := fun xs ds _ => RpA H xs ds) (motive_3 := fun xs ds _ => RpK H xs ds) ?_ ?_ ?_ ?_ ?_ ?_ ?_ ?_ ?_ r
  · exact fun x => .v x
  · exact fun e _ q => .lst (h.lst e) q
  · exact fun e _ q => .tup (h.tup e) q
  · exact fun e _ q => .dct (h.rdK e) q
  · exact fun e _ q => .obj (h.ins e) q
  · exact .nil
  · exact fun _ _ p q => .cons p q
  · exact .nil
  · exact fun _ _ p q => .cons p q
theorem RpA.mono {F H : Hp} (h : Le F H) {xs : List V} {ds : List D} (r : RpA F xs ds) : RpA H xs ds := by
  refine RpA.rec (H := F) (motive_1 := fun x d _ => Rp H x d) (motive_2 := fun xs ds _ => RpA H xs ds) (motive_3 := fun xs ds _ => RpK H xs ds) ?_ ?_ ?_ ?_ ?_ ?_ ?_ ?_ ?_ r
  · exact fun x => .v x
  · exact fun e _ q => .lst (h.lst e) q
  · exact fun e _ q => .tup (h.tup e) q
  · exact fun e _ q => .dct (h.rdK e) q
  · exact fun e _ q => .obj (h.ins e) q
  · exact .nil
  · exact fun _ _ p q => .cons p q
  · exact .nil
  · exact fun _ _ p q => .cons p q
theorem RpK.mono {F H : Hp} (h : Le F H) {xs : List (Key × V)} {ds : List (Key × D)} (r : RpK F xs ds) : RpK H xs ds := by
  induction xs generalizing ds with
  | nil => cases r; exact .nil
  | cons x xs ih => cases r with | cons p q => exact .cons (p.mono h) (ih q)
theorem RpA.length {H : Hp} : ∀ {xs : List V} {ds : List D}, RpA H xs ds → xs.length = ds.length
  | [], _, r => by cases r; rfl
  | _ :: xs, _, r => by cases r with | cons _ q => exact congrArg (· + 1) q.length
theorem RpA.get {H : Hp} : ∀ {xs : List V} {ds : List D} {i : Nat} {d : D}, RpA H xs ds → ds[i]? = some d → ∃ x, xs[i]? = some x ∧ Rp H x d
  | _, _, i, d, .nil, e => by simp at e
  | _, _, 0, d, .cons p _, e => by simp at e; subst e; exact ⟨_, rfl, p⟩
  | _, _, i + 1, d, .cons _ q, e => by
    obtain ⟨x, h1, h2⟩ := q.get (i := i) (d := d) (by simpa using e)
    exact ⟨x, by simpa using h1, h2⟩
theorem RpA.get' {H : Hp} : ∀ {xs : List V} {ds : List D} {i : Nat} {x : V}, RpA H xs ds → xs[i]? = some x → ∃ d, ds[i]? = some d ∧ Rp H x d
  | _, _, i, x, .nil, e => by simp at e
  | _, _, 0, x, .cons p _, e => by simp at e; subst e; exact ⟨_, rfl, p⟩
  | _, _, i + 1, x, .cons _ q, e => by
    obtain ⟨d, h1, h2⟩ := q.get' (i := i) (x := x) (by simpa using e)
    exact ⟨d, by simpa using h1, h2⟩
theorem RpA.append {H : Hp} : ∀ {xs ys : List V} {ds es : List D}, RpA H xs ds → RpA H ys es → RpA H (xs ++ ys) (ds ++ es)
  | _, _, _, _, .nil, s => s
  | _, _, _, _, .cons r t, s => .cons r (RpA.append t s)
theorem RpA.one {H : Hp} {x : V} {d : D} (r : Rp H x d) : RpA H [x] [d] := .cons r .nil
theorem RpA.set {H : Hp} {x : V} {d : D} (r : Rp H x d) : ∀ {xs : List V} {ds : List D} (i : Nat), RpA H xs ds → RpA H (xs.set i x) (ds.set i d)
  | _, _, _, .nil => .nil
  | _, _, 0, .cons _ t => .cons r t
  | _, _, i + 1, .cons q t => .cons q (RpA.set r i t)
theorem RpA.take {H : Hp} : ∀ {xs : List V} {ds : List D} (n : Nat), RpA H xs ds → RpA H (xs.take n) (ds.take n)
  | _, _, 0, _ => .nil
  | _, _, _ + 1, .nil => .nil
  | _, _, n + 1, .cons r t => .cons r (RpA.take n t)
theorem RpA.drop {H : Hp} : ∀ {xs : List V} {ds : List D} (n : Nat), RpA H xs ds → RpA H (xs.drop n) (ds.drop n)
  | _, _, 0, r => r
  | _, _, _ + 1, .nil => .nil
  | _, _, n + 1, .cons _ t => RpA.drop n t
theorem RpA.reverse {H : Hp} : ∀ {xs : List V} {ds : List D}, RpA H xs ds → RpA H xs.reverse ds.reverse
  | _, _, .nil => .nil
  | _, _, .cons r t => by
    rw [List.reverse_cons, List.reverse_cons]
    exact (RpA.reverse t).append (.one r)
theorem RpA.of_map {H : Hp} : ∀ (xs : List V), RpA H xs (xs.map D.v)
  | [] => .nil
  | x :: xs => .cons (.v x) (RpA.of_map xs)
theorem RpA.vs {H : Hp} : ∀ {xs ys : List V}, RpA H xs (ys.map D.v) → xs = ys
  | _, [], r => by cases r; rfl
  | _, y :: ys, r => by
    cases r with
    | cons p q =>
      cases p
      rw [RpA.vs q]
theorem RpK.length {H : Hp} : ∀ {xs : List (Key × V)} {ds : List (Key × D)}, RpK H xs ds → xs.length = ds.length
  | [], _, r => by cases r; rfl
  | _ :: xs, _, r => by cases r with | cons _ q => exact congrArg (· + 1) q.length
theorem RpK.keys {H : Hp} : ∀ {xs : List (Key × V)} {ds : List (Key × D)}, RpK H xs ds → xs.map (·.1) = ds.map (·.1)
  | [], _, r => by cases r; rfl
  | _ :: xs, _, r => by cases r with | cons _ q => exact congrArg (_ :: ·) q.keys

/-! ### tables of data -/
def valD (kds : List (Key × D)) (k : Key) : Option D := (kds.find? fun kv => decide (kv.1 = k)).map (·.2)
def putD (kds : List (Key × D)) (k : Key) (d : D) : List (Key × D) :=
  if (kds.any fun kv => decide (kv.1 = k)) = true then kds.map (fun kv => if kv.1 = k then (kv.1, d) else kv) else kds ++ [(k, d)]
def dropD (kds : List (Key × D)) (k : Key) : List (Key × D) := kds.filter fun kv => decide (kv.1 ≠ k)
theorem valD_nil {k : Key} : valD [] k = none := rfl
theorem valD_cons (j : Key) (d : D) (r : List (Key × D)) (k : Key) : valD ((j, d) :: r) k = if j = k then some d else valD r k := by
  unfold valD
  rw [List.find?_cons]
  by_cases h : j = k
  · rw [if_pos h]; simp [h]
  · rw [if_neg h]; simp [h]
theorem valV_cons (j : Key) (d : V) (r : List (Key × V)) (k : Key) : valV ((j, d) :: r) k = if j = k then some d else valV r k := by
  by_cases h : j = k
  · rw [if_pos h]; exact valV_pos h
  · rw [if_neg h]; exact valV_neg h
def RpO (H : Hp) : Option V → Option D → Prop
  | some x, some d => Rp H x d
  | none, none => True
  | _, _ => False
theorem RpK.val {H : Hp} (k : Key) : ∀ {xs : List (Key × V)} {ds : List (Key × D)}, RpK H xs ds → RpO H (valV xs k) (valD ds k)
  | _, _, .nil => trivial
  | _, _, .cons (k := j) p q => by
    rw [valV_cons, valD_cons]
    by_cases h : j = k
    · rw [if_pos h, if_pos h]; exact p
    · rw [if_neg h, if_neg h]; exact q.val k
theorem RpK.some {H : Hp} {k : Key} {xs : List (Key × V)} {ds : List (Key × D)} {d : D} (r : RpK H xs ds) (e : valD ds k = some d) : ∃ x, valV xs k = some x ∧ Rp H x d := by
  have h := r.val k
  rw [e] at h
  cases q : valV xs k with
  | none => rw [q] at h; exact h.elim
  | some x => rw [q] at h; exact ⟨x, rfl, h⟩
theorem RpK.none {H : Hp} {k : Key} {xs : List (Key × V)} {ds : List (Key × D)} (r : RpK H xs ds) (e : valD ds k = none) : valV xs k = none := by
  have h := r.val k
  rw [e] at h
  cases q : valV xs k with
  | none => rfl
  | some x => rw [q] at h; exact h.elim
theorem RpK.isSome {H : Hp} {k : Key} {xs : List (Key × V)} {ds : List (Key × D)} (r : RpK H xs ds) : (valV xs k).isSome = (valD ds k).isSome := by
  cases e : valD ds k with
  | none => rw [r.none e]; rfl
  | some d =>
    obtain ⟨x, h, _⟩ := r.some e
    rw [h]; rfl
theorem RpK.any {H : Hp} (k : Key) : ∀ {xs : List (Key × V)} {ds : List (Key × D)}, RpK H xs ds → (xs.any fun kv => decide (kv.1 = k)) = ds.any fun kv => decide (kv.1 = k)
  | _, _, .nil => rfl
  | _, _, .cons _ q => by simp only [List.any_cons]; rw [q.any k]
theorem RpK.append {H : Hp} : ∀ {xs ys : List (Key × V)} {ds es : List (Key × D)}, RpK H xs ds → RpK H ys es → RpK H (xs ++ ys) (ds ++ es)
  | _, _, _, _, .nil, s => s
  | _, _, _, _, .cons r t, s => .cons r (RpK.append t s)
theorem RpK.repl {H : Hp} (k : Key) {x : V} {d : D} (r : Rp H x d) : ∀ {xs : List (Key × V)} {ds : List (Key × D)}, RpK H xs ds → RpK H (xs.map fun kv => if kv.1 = k then (kv.1, x) else kv) (ds.map fun kv => if kv.1 = k then (kv.1, d) else kv)
  | _, _, .nil => .nil
  | _, _, .cons (k := j) p q => by
    simp only [List.map_cons]
    by_cases h : j = k
    · rw [if_pos h, if_pos h]; exact .cons r (q.repl k r)
    · rw [if_neg h, if_neg h]; exact .cons p (q.repl k r)
theorem RpK.put {H : Hp} (k : Key) {x : V} {d : D} (r : Rp H x d) {xs : List (Key × V)} {ds : List (Key × D)} (q : RpK H xs ds) : RpK H (putK xs k x) (putD ds k d) := by
  unfold putK putD
  rw [q.any k]
  split
  · exact q.repl k r
  · exact q.append (.cons r .nil)
theorem RpK.drop {H : Hp} (k : Key) : ∀ {xs : List (Key × V)} {ds : List (Key × D)}, RpK H xs ds → RpK H (dropK xs k) (dropD ds k)
  | _, _, .nil => .nil
  | _, _, .cons (k := j) p q => by
    unfold dropK dropD
    rw [List.filter_cons, List.filter_cons]
    by_cases h : j = k
    · simp only [h, ne_eq, not_true_eq_false, decide_false, Bool.false_eq_true, if_false]; exact q.drop k
    · simp only [h, ne_eq, not_false_eq_true, decide_true, if_true]; exact .cons p (q.drop k)
theorem length_putD (kds : List (Key × D)) (k : Key) (d : D) : (putD kds k d).length ≤ kds.length + 1 := by
  unfold putD
  split
  · rw [List.length_map]; exact Nat.le_succ _
  · rw [List.length_append]; exact Nat.le_refl _
theorem length_dropD (kds : List (Key × D)) (k : Key) : (dropD kds k).length ≤ kds.length := List.length_filter_le _ _
theorem valD_put (kds : List (Key × D)) (k j : Key) (d : D) : valD (putD kds k d) j = if j = k then some d else valD kds j := by
  unfold putD
  split
  · rename_i h
    induction kds with
    | nil => simp at h
    | cons p r ih =>
      obtain ⟨q, x⟩ := p
      rw [List.map_cons]
      by_cases hq : q = k
      · subst hq
        simp only [if_true]
        rw [valD_cons, valD_cons]
        by_cases hj : q = j
        · subst hj; simp
        · rw [if_neg hj, if_neg (Ne.symm hj), if_neg hj]
          have : ∀ l : List (Key × D), valD (l.map fun kv => if kv.1 = q then (kv.1, d) else kv) j = valD l j := by
            intro l
            induction l with
            | nil => rfl
            | cons p l ih =>
              obtain ⟨b, y⟩ := p
              rw [List.map_cons]
              by_cases hb : b = q
              · subst hb
                simp only [if_true]
                rw [valD_cons, valD_cons, if_neg hj, if_neg hj]; exact ih
              · simp only [hb, if_false]
                rw [valD_cons, valD_cons, ih]
          exact this r
      · simp only [hq, if_false]
        rw [valD_cons, valD_cons]
        have h' : (r.any fun kv => decide (kv.1 = k)) = true := by simpa [hq] using h
        rw [ih h']
        by_cases hj : q = j
        · subst hj; rw [if_pos rfl, if_pos rfl, if_neg hq]
        · rw [if_neg hj, if_neg hj]
  · rename_i h
    have h' : (kds.any fun kv => decide (kv.1 = k)) = false := Bool.eq_false_iff.mpr h
    clear h
    induction kds with
    | nil =>
      rw [List.nil_append, valD_cons]
      by_cases hj : k = j
      · rw [if_pos hj, if_pos hj.symm]
      · rw [if_neg hj, if_neg (Ne.symm hj)]
    | cons p r ih =>
      obtain ⟨q, x⟩ := p
      rw [List.cons_append, valD_cons, valD_cons]
      have hq : ¬ q = k := by intro e; subst e; simp at h'
      have h2 : (r.any fun kv => decide (kv.1 = k)) = false := by simpa [hq] using h'
      rw [ih h2]
      by_cases hj : q = j
      · subst hj; rw [if_pos rfl, if_pos rfl, if_neg hq]
      · rw [if_neg hj, if_neg hj]
theorem valD_drop (kds : List (Key × D)) (k j : Key) : valD (dropD kds k) j = if j = k then none else valD kds j := by
  induction kds with
  | nil => simp [dropD, valD]
  | cons p r ih =>
    obtain ⟨q, x⟩ := p
    have e : dropD ((q, x) :: r) k = if q = k then dropD r k else (q, x) :: dropD r k := by
      unfold dropD
      rw [List.filter_cons]
      by_cases h : q = k <;> simp [h]
    rw [e, valD_cons]
    by_cases h : q = k
    · subst h
      rw [if_pos rfl, ih]
      by_cases hj : j = q
      · rw [if_pos hj, if_pos hj]
      · rw [if_neg hj, if_neg hj, if_neg (Ne.symm hj)]
    · rw [if_neg h, valD_cons, ih]
      by_cases hj : q = j
      · subst hj; rw [if_pos rfl, if_pos rfl, if_neg h]
      · rw [if_neg hj, if_neg hj]
/-- the table's place j -/
theorem valD_at {kds : List (Key × D)} (nd : (kds.map (·.1)).Nodup) {j : Nat} {k : Key} {d : D} (e : kds[j]? = some (k, d)) : valD kds k = some d := by
  induction kds generalizing j with
  | nil => simp at e
  | cons p r ih =>
    obtain ⟨q, x⟩ := p
    rw [valD_cons]
    cases j with
    | zero => simp at e; rw [if_pos e.1, e.2]
    | succ j =>
      have e2 : r[j]? = some (k, d) := by simpa using e
      rw [List.map_cons, List.nodup_cons] at nd
      have hq : ¬ q = k := by
        intro h
        apply nd.1
        rw [h]
        exact List.mem_map.mpr ⟨(k, d), List.mem_of_getElem? e2, rfl⟩
      rw [if_neg hq]
      exact ih nd.2 e2

/-! ### what may be changed -/
inductive MO where
  | lst (ds : List D)
  | dct (kds : List (Key × D))
  | ins (C dx : Addr) (ns : List Str) (ds : List D)
  | raw (o : HO)
abbrev Mem := List (Addr × MO)
def MoOk (F H : Hp) (a : Addr) : MO → Prop
  | .lst ds => ∃ xs, H a = some (.lst xs) ∧ RpA F xs ds
  | .dct kds => ∃ kvs, H a = some (.dK kvs) ∧ RpK F kvs kds
  | .ins C dx ns ds => ∃ xs, H a = some (.ins C dx (ns.zip xs)) ∧ RpA F xs ds ∧ ns.length = ds.length
  | .raw o => H a = some o
theorem MoOk.ne {F H : Hp} {a : Addr} {o : MO} (h : MoOk F H a o) : H a ≠ none := by
  cases o with
  | lst ds => obtain ⟨_, e, _⟩ := h; rw [e]; intro q; cases q
  | dct ds => obtain ⟨_, e, _⟩ := h; rw [e]; intro q; cases q
  | ins C dx ns ds => obtain ⟨_, e, _⟩ := h; rw [e]; intro q; cases q
  | raw o => rw [show H a = some o from h]; intro q; cases q
theorem MoOk.keep {F F' H H' : Hp} {a : Addr} {o : MO} (h : MoOk F H a o) (hF : Ex F F') (e : H' a = H a) : MoOk F' H' a o := by
  cases o with
  | lst ds => obtain ⟨xs, q, r⟩ := h; exact ⟨xs, by rw [e]; exact q, r.mono hF.le⟩
  | dct ds => obtain ⟨xs, q, r⟩ := h; exact ⟨xs, by rw [e]; exact q, r.mono hF.le⟩
  | ins C dx ns ds => obtain ⟨xs, q, r, z⟩ := h; exact ⟨xs, by rw [e]; exact q, r.mono hF.le, z⟩
  | raw o => exact e.trans h
structure S0 (F H : Hp) (M : Mem) : Prop where
  le : Le F H
  mem : ∀ p ∈ M, F p.1 = none ∧ MoOk F H p.1 p.2
  nd : (M.map (·.1)).Nodup
/-- from (F, H, M) to (F', H', M') -/
structure Step (F H : Hp) (M : Mem) (F' H' : Hp) (M' : Mem) : Prop where
  ex : Ex F F'
  kn : ∀ a o, F' a = some o → F a = some o ∨ H a = none ∨ a ∈ M.map (·.1)
  fr : ∀ a o, H a = some o → a ∉ M.map (·.1) → H' a = some o
  st : ∀ a, H a ≠ none → H' a ≠ none
  mo : ∀ a, a ∈ M'.map (·.1) → a ∈ M.map (·.1) ∨ H a = none
theorem Step.refl (F H : Hp) (M : Mem) : Step F H M F H M := ⟨Ex.refl F, fun _ _ e => .inl e, fun _ _ e _ => e, fun _ e => e, fun _ h => .inl h⟩
theorem Step.trans {F H F1 H1 F2 H2 : Hp} {M M1 M2 : Mem} (a : Step F H M F1 H1 M1) (b : Step F1 H1 M1 F2 H2 M2) : Step F H M F2 H2 M2 where
  ex := a.ex.trans b.ex
  kn := fun x o e => by
    rcases b.kn x o e with h | h | h
    · exact a.kn x o h
    · refine .inr (.inl ?_)
      cases q : H x with
      | none => rfl
      | some u => exact absurd h (a.st x (by rw [q]; intro z; cases z))
    · rcases a.mo x h with h | h
      · exact .inr (.inr h)
      · exact .inr (.inl h)
  fr := fun x o e n => b.fr x o (a.fr x o e n) fun z => by
    rcases a.mo x z with h | h
    · exact n h
    · rw [e] at h; cases h
  st := fun x e => b.st x (a.st x e)
  mo := fun x h => by
    rcases b.mo x h with h | h
    · exact a.mo x h
    · refine .inr ?_
      cases q : H x with
      | none => rfl
      | some u => exact absurd h (a.st x (by rw [q]; intro z; cases z))
/-- a new object that is not changed any more -/
theorem S0.new {F H : Hp} {M : Mem} (s : S0 F H M) {p : Addr} (hp : H p = none) (o : HO) : S0 (upd F p o) (upd H p o) M ∧ Step F H M (upd F p o) (upd H p o) M := by
  have hF : F p = none := by
    cases e : F p with
    | none => rfl
    | some u =>
      have h := s.le p u e
      rw [hp] at h; cases h
  have hM : ∀ q ∈ M, q.1 ≠ p := fun q hq e => (s.mem q hq).2.ne (e ▸ hp)
  refine ⟨⟨fun a u e => ?_, fun q hq => ⟨?_, (s.mem q hq).2.keep (Ex.new hF) (upd_ne (hM q hq))⟩, s.nd⟩, ⟨Ex.new hF, fun a u e => ?_, fun a u e _ => by rw [upd_ne (ne_of_none e hp)]; exact e, fun a e => ?_, fun a h => .inl h⟩⟩
  · by_cases h : a = p
    · subst h; rw [upd_same] at e; cases e; exact upd_same
    · rw [upd_ne h] at e; rw [upd_ne h]; exact s.le a u e
  · rw [upd_ne (hM q hq)]; exact (s.mem q hq).1
  · by_cases h : a = p
    · subst h; exact .inr (.inl hp)
    · rw [upd_ne h] at e; exact .inl e
  · by_cases h : a = p
    · subst h; rw [upd_same]; intro z; cases z
    · rw [upd_ne h]; exact e
theorem S0.free {F H : Hp} {M : Mem} (s : S0 F H M) {p : Addr} (hp : H p = none) : F p = none := by
  cases e : F p with
  | none => rfl
  | some u => have h := s.le p u e; rw [hp] at h; cases h
/-- a new object that may be changed -/
theorem S0.newM {F H : Hp} {M : Mem} (s : S0 F H M) {p : Addr} (hp : H p = none) {o : HO} {m : MO} (hm : MoOk F (upd H p o) p m) : S0 F (upd H p o) ((p, m) :: M) ∧ Step F H M F (upd H p o) ((p, m) :: M) := by
  have hF := s.free hp
  have hM : ∀ q ∈ M, q.1 ≠ p := fun q hq e => (s.mem q hq).2.ne (e ▸ hp)
  refine ⟨⟨fun a u e => ?_, fun q hq => ?_, ?_⟩, ⟨Ex.refl F, fun _ _ e => .inl e, fun a u e _ => by rw [upd_ne (ne_of_none e hp)]; exact e, fun a e => ?_, fun a h => ?_⟩⟩
  · have h : a ≠ p := fun h => by subst h; rw [hF] at e; cases e
    rw [upd_ne h]; exact s.le a u e
  · rcases List.mem_cons.mp hq with rfl | hq
    · exact ⟨hF, hm⟩
    · exact ⟨(s.mem q hq).1, (s.mem q hq).2.keep (Ex.refl F) (upd_ne (hM q hq))⟩
  · rw [List.map_cons, List.nodup_cons]
    refine ⟨fun h => ?_, s.nd⟩
    obtain ⟨q, hq, e⟩ := List.mem_map.mp h
    exact hM q hq e
  · by_cases h : a = p
    · subst h; rw [upd_same]; intro z; cases z
    · rw [upd_ne h]; exact e
  · rw [List.map_cons] at h
    rcases List.mem_cons.mp h with rfl | h
    · exact .inr hp
    · exact .inl h
theorem S0.at {F H : Hp} {M : Mem} (s : S0 F H M) {k : Nat} {a : Addr} {o : MO} (e : M[k]? = some (a, o)) : F a = none ∧ MoOk F H a o := s.mem (a, o) (List.mem_of_getElem? e)
theorem map_set {M : Mem} {k : Nat} {a : Addr} {o m : MO} (e : M[k]? = some (a, o)) : (M.set k (a, m)).map (·.1) = M.map (·.1) := by
  rw [List.map_set]
  apply List.ext_getElem?
  intro i
  by_cases h : k = i
  · subst h
    have hk := (List.getElem?_eq_some_iff.mp e).1
    rw [List.getElem?_set_self (by simpa using hk), List.getElem?_map, e]; rfl
  · rw [List.getElem?_set_ne h]
/-- the k-th object is changed -/
theorem S0.write {F H : Hp} {M : Mem} (s : S0 F H M) {k : Nat} {a : Addr} {o m : MO} {u : HO} (e : M[k]? = some (a, o)) (hm : MoOk F (upd H a u) a m) :
    S0 F (upd H a u) (M.set k (a, m)) ∧ Step F H M F (upd H a u) (M.set k (a, m)) := by
  obtain ⟨hF, ho⟩ := s.at e
  have em := map_set (m := m) e
  have ha : a ∈ M.map (·.1) := List.mem_map.mpr ⟨(a, o), List.mem_of_getElem? e, rfl⟩
  refine ⟨⟨fun b v q => ?_, fun p hp => ?_, by rw [em]; exact s.nd⟩, ⟨Ex.refl F, fun _ _ q => .inl q, fun b v q n => ?_, fun b q => ?_, fun b h => .inl (by rw [em] at h; exact h)⟩⟩
  · have h : b ≠ a := fun h => by subst h; rw [hF] at q; cases q
    rw [upd_ne h]; exact s.le b v q
  · obtain ⟨i, hi⟩ := List.mem_iff_getElem?.mp hp
    by_cases h : k = i
    · subst h
      have hk := (List.getElem?_eq_some_iff.mp e).1
      rw [List.getElem?_set_self hk] at hi
      cases hi
      exact ⟨hF, hm⟩
    · rw [List.getElem?_set_ne h] at hi
      have hp' := s.mem p (List.mem_of_getElem? hi)
      have hne : p.1 ≠ a := fun q => by
        have h1 : (M.map (·.1))[i]? = some a := by rw [List.getElem?_map, hi]; exact congrArg some q
        have h2 : (M.map (·.1))[k]? = some a := by rw [List.getElem?_map, e]; rfl
        exact h (nodup_ixA s.nd h2 h1)
      exact ⟨hp'.1, hp'.2.keep (Ex.refl F) (upd_ne hne)⟩
  · have h : b ≠ a := fun h => n (h ▸ ha)
    rw [upd_ne h]; exact q
  · by_cases h : b = a
    · subst h; rw [upd_same]; intro z; cases z
    · rw [upd_ne h]; exact q
where
  nodup_ixA {N : List Addr} (hN : N.Nodup) {i j : Nat} {x : Addr} (a : N[i]? = some x) (b : N[j]? = some x) : i = j := by
    obtain ⟨h1, e1⟩ := List.getElem?_eq_some_iff.mp a
    obtain ⟨h2, e2⟩ := List.getElem?_eq_some_iff.mp b
    exact (List.getElem_inj hN).mp (e1.trans e2.symm)
/-- fewer objects that may be changed: forgotten -/
theorem S0.less {F H : Hp} {M M' : Mem} (s : S0 F H M) (h : M'.Sublist M) : S0 F H M' ∧ Step F H M F H M' :=
  ⟨⟨s.le, fun p hp => s.mem p (h.mem hp), s.nd.sublist (h.map _)⟩, ⟨Ex.refl F, fun _ _ e => .inl e, fun _ _ e _ => e, fun _ e => e, fun _ q => .inl ((h.map _).mem q)⟩⟩
/-- an object that was changed is not changed any more -/
theorem S0.freeze {F H : Hp} {M : Mem} {a : Addr} {m : MO} {u : HO} (s : S0 F H ((a, m) :: M)) (hu : H a = some u) :
    S0 (upd F a u) H M ∧ Step F H ((a, m) :: M) (upd F a u) H M := by
  have hF : F a = none := (s.mem (a, m) List.mem_cons_self).1
  have nd := s.nd
  rw [List.map_cons, List.nodup_cons] at nd
  have hne : ∀ q ∈ M, q.1 ≠ a := fun q hq e => nd.1 (List.mem_map.mpr ⟨q, hq, e⟩)
  refine ⟨⟨fun b v e => ?_, fun q hq => ⟨?_, ?_⟩, nd.2⟩, ⟨Ex.new hF, fun b v e => ?_, fun _ _ e _ => e, fun _ e => e, fun b h => .inl (List.mem_cons_of_mem _ h)⟩⟩
  · by_cases h : b = a
    · subst h; rw [upd_same] at e; cases e; exact hu
    · rw [upd_ne h] at e; exact s.le b v e
  · rw [upd_ne (hne q hq)]; exact (s.mem q (List.mem_cons_of_mem _ hq)).1
  · exact (s.mem q (List.mem_cons_of_mem _ hq)).2.keep (Ex.new hF) rfl
  · by_cases h : b = a
    · subst h; exact .inr (.inr List.mem_cons_self)
    · rw [upd_ne h] at e; exact .inl e
/-- a dict that was changed is locked, and known -/
theorem S0.lock {F H : Hp} {M : Mem} {a : Addr} {m : MO} {u : HO} (s : S0 F H ((a, m) :: M)) :
    S0 (upd F a u) (upd H a u) M ∧ Step F H ((a, m) :: M) (upd F a u) (upd H a u) M := by
  have hF : F a = none := (s.mem (a, m) List.mem_cons_self).1
  have nd := s.nd
  rw [List.map_cons, List.nodup_cons] at nd
  have hne : ∀ q ∈ M, q.1 ≠ a := fun q hq e => nd.1 (List.mem_map.mpr ⟨q, hq, e⟩)
  refine ⟨⟨fun b v e => ?_, fun q hq => ⟨?_, ?_⟩, nd.2⟩, ⟨Ex.new hF, fun b v e => ?_, fun b v e n => ?_, fun b e => ?_, fun b h => .inl (List.mem_cons_of_mem _ h)⟩⟩
  · by_cases h : b = a
    · subst h; rw [upd_same] at e; rw [upd_same]; exact e
    · rw [upd_ne h] at e; rw [upd_ne h]; exact s.le b v e
  · rw [upd_ne (hne q hq)]; exact (s.mem q (List.mem_cons_of_mem _ hq)).1
  · exact (s.mem q (List.mem_cons_of_mem _ hq)).2.keep (Ex.new hF) (upd_ne (hne q hq))
  · by_cases h : b = a
    · subst h; exact .inr (.inr List.mem_cons_self)
    · rw [upd_ne h] at e; exact .inl e
  · have h : b ≠ a := fun h => n (h ▸ List.mem_cons_self)
    rw [upd_ne h]; exact e
  · by_cases h : b = a
    · subst h; rw [upd_same]; intro z; cases z
    · rw [upd_ne h]; exact e
end Dl
end
section
set_option maxHeartbeats 2000000
/-! Dl2: the judgements over data: what an expression, a test, a statement brings about, in any heap that knows F and may change M. -/
namespace Dl
open PySem PySem.Spec PyProof.Rows L2

/-! ### the weakest readings -/
def wE (X : Cx) (e : Expr) : TE := fun σ H Q => ∀ (pins : List (Addr × Obj)) (s : Shared), Inv X pins σ H s → wpAny (model X.prog X.w) X.A (eval e X.env) (EP X pins σ Q) X.xe s
def wT (X : Cx) (e : Expr) : TT := fun σ H Q => ∀ (pins : List (Addr × Obj)) (s : Shared), Inv X pins σ H s → wpAny (model X.prog X.w) X.A (isTrue e X.env (eval e X.env)) (TP X pins σ Q) X.xe s
def wW (X : Cx) (e : Expr) : TT := fun σ H Q => ∀ (wh : Sem Value) (pins : List (Addr × Obj)) (s : Shared), Inv X pins σ H s → wpAny (model X.prog X.w) X.A (isTrue e X.env wh) (TP X pins σ Q) X.xe s
def wA (X : Cx) (es : List Expr) : TA := fun σ H Q => ∀ (pos : Pos) (pins : List (Addr × Obj)) (s : Shared), Inv X pins σ H s → wpAny (model X.prog X.w) X.A (spliced (backTo pos (starEach es X.env))) (AP X pins σ Q) X.xe s
def wS (X : Cx) (st : Stmt) : TS := fun D σ H => ∀ (pins : List (Addr × Obj)) (s : Shared), Inv X pins σ H s → wpAny (model X.prog X.w) X.A (exec st X.env) (SP X pins D) X.xe s
def wSs (X : Cx) (st : List Stmt) : TS := fun D σ H => ∀ (pins : List (Addr × Obj)) (s : Shared), Inv X pins σ H s → wpAny (model X.prog X.w) X.A (execs st X.env) (SP X pins D) X.xe s
def wG (X : Cx) (tg : Expr) : TG := fun v σ H Q => ∀ (pins : List (Addr × Obj)) (s : Shared) (u : Value), Inv X pins σ H s → RelV v u → wpAny (model X.prog X.w) X.A (assign tg X.env u) (fun _ s' => ∃ σ' H', Inv X pins σ' H' s' ∧ Q σ' H') X.xe s
def wGs (X : Cx) (ts : List Expr) : TGs := fun vs σ H Q => ∀ (pins : List (Addr × Obj)) (s : Shared) (us : List Value), Inv X pins σ H s → Vals vs us → wpAny (model X.prog X.w) X.A (assignInOrder ((assignEach ts X.env).map (·.2)) us) (fun _ s' => ∃ σ' H', Inv X pins σ' H' s' ∧ Q σ' H') X.xe s
def wI (X : Cx) (tg iter : Expr) : TI := fun σ H R => ∀ (pins : List (Addr × Obj)) (s : Shared), Inv X pins σ H s → wpAny (model X.prog X.w) X.A (eval iter X.env) (fun v s1 => wpAny (model X.prog X.w) X.A (pyIter v) (PIE X pins σ tg R) X.xe s1) X.xe s
def wTs (X : Cx) (ifs : List Expr) : TT := fun σ H Q => ∀ (pins : List (Addr × Obj)) (s : Shared), Inv X pins σ H s → wpAny (model X.prog X.w) X.A (forIn ifs true fun c r => if r = true then do let ok ← isTrue c X.env (eval c X.env); pure (ForInStep.yield ok) else pure (ForInStep.yield r)) (TP X pins σ Q) X.xe s
section
variable {X : Cx} {e : Expr} {es : List Expr} {st : Stmt} {sts : List Stmt} {tg : Expr}
theorem pe_w : PE X e (wE X e) := ⟨fun pins s _ _ _ I h => h pins s I⟩
theorem pt_w : PT X e (wT X e) := ⟨fun pins s _ _ _ I h => h pins s I⟩
theorem pw_w : PW X e (wW X e) := ⟨fun wh pins s _ _ _ I h => h wh pins s I⟩
theorem pa_w : PA X es (wA X es) := ⟨fun pos pins s _ _ _ I h => h pos pins s I⟩
theorem ps_w : PS X st (wS X st) := ⟨fun pins s _ _ _ I h => h pins s I⟩
theorem pss_w : PSs X sts (wSs X sts) := ⟨fun pins s _ _ _ I h => h pins s I⟩
theorem pg_w : PG X tg (wG X tg) := ⟨fun pins s _ _ _ u _ I r h => h pins s u I r⟩
theorem pgs_w : PGs X es (wGs X es) := ⟨fun pins s _ _ _ us _ I r h => h pins s us I r⟩
theorem pi_w {iter : Expr} : PI X tg iter (wI X tg iter) := ⟨fun pins s _ _ _ I h => h pins s I⟩
theorem pts_w : PTs X es (wTs X es) := ⟨fun pins s _ _ _ I h => h pins s I⟩
theorem PE.w {t : TE} (p : PE X e t) {σ : L2.St} {H : Hp} {Q : VK} (h : t σ H Q) : wE X e σ H Q := fun pins s I => p.run pins s σ H Q I h
theorem PT.w {t : TT} (p : PT X e t) {σ : L2.St} {H : Hp} {Q : Bool → Hp → Prop} (h : t σ H Q) : wT X e σ H Q := fun pins s I => p.run pins s σ H Q I h
theorem PW.w {t : TT} (p : PW X e t) {σ : L2.St} {H : Hp} {Q : Bool → Hp → Prop} (h : t σ H Q) : wW X e σ H Q := fun wh pins s I => p.run wh pins s σ H Q I h
theorem PA.w {t : TA} (p : PA X es t) {σ : L2.St} {H : Hp} {Q : List V → Hp → Prop} (h : t σ H Q) : wA X es σ H Q := fun pos pins s I => p.run pos pins s σ H Q I h
theorem PS.w {t : TS} (p : PS X st t) {σ : L2.St} {H : Hp} {D : Ends} (h : t D σ H) : wS X st D σ H := fun pins s I => p.run pins s σ H D I h
theorem PSs.w {t : TS} (p : PSs X sts t) {σ : L2.St} {H : Hp} {D : Ends} (h : t D σ H) : wSs X sts D σ H := fun pins s I => p.run pins s σ H D I h
theorem PG.w {t : TG} (p : PG X tg t) {v : V} {σ : L2.St} {H : Hp} {Q : L2.St → Hp → Prop} (h : t v σ H Q) : wG X tg v σ H Q := fun pins s u I r => p.run pins s σ H v u Q I r h
theorem PGs.w {t : TGs} (p : PGs X es t) {v : List V} {σ : L2.St} {H : Hp} {Q : L2.St → Hp → Prop} (h : t v σ H Q) : wGs X es v σ H Q := fun pins s u I r => p.run pins s σ H v u Q I r h
theorem PI.w {iter : Expr} {t : TI} (p : PI X tg iter t) {σ : L2.St} {H : Hp} {R : It → Hp → Prop} (h : t σ H R) : wI X tg iter σ H R := fun pins s I => p.run pins s σ H R I h
theorem PTs.w {t : TT} (p : PTs X es t) {σ : L2.St} {H : Hp} {Q : Bool → Hp → Prop} (h : t σ H Q) : wTs X es σ H Q := fun pins s I => p.run pins s σ H Q I h
end

/-! ### the judgements -/
abbrev Env := List (Option D)
def EnvOk (F : Hp) (σ : L2.St) (ρ : Env) : Prop := ∀ (i : Nat) (d : D), ρ[i]? = some (some d) → ∃ v, σ[i]? = some (some v) ∧ Rp F v d
theorem EnvOk.mono {F F' : Hp} {σ : L2.St} {ρ : Env} (h : EnvOk F σ ρ) (e : Ex F F') : EnvOk F' σ ρ := fun i d q => by
  obtain ⟨v, a, r⟩ := h i d q
  exact ⟨v, a, r.mono e.le⟩
theorem EnvOk.set {F : Hp} {σ : L2.St} {ρ : Env} (h : EnvOk F σ ρ) {i : Nat} (hi : i < σ.length) {v : V} {d : D} (r : Rp F v d) : EnvOk F (σ.set i (some v)) (ρ.set i (some d)) := fun j e q => by
  by_cases hj : i = j
  · subst hj
    rw [List.getElem?_set_self hi]
    have hl : i < ρ.length := by have := (List.getElem?_eq_some_iff.mp q).1; simpa using this
    rw [List.getElem?_set_self hl] at q
    cases q
    exact ⟨v, rfl, r⟩
  · rw [List.getElem?_set_ne hj] at q
    rw [List.getElem?_set_ne hj]
    exact h j e q
/-- forgetting a slot -/
theorem EnvOk.unset {F : Hp} {σ : L2.St} {ρ : Env} (h : EnvOk F σ ρ) (i : Nat) : EnvOk F (σ.set i none) (ρ.set i none) := fun j e q => by
  by_cases hj : i = j
  · subst hj
    by_cases hl : i < ρ.length
    · rw [List.getElem?_set_self hl] at q; cases q
    · rw [List.getElem?_eq_none (by simpa using hl)] at q; cases q
  · rw [List.getElem?_set_ne hj] at q
    rw [List.getElem?_set_ne hj]
    exact h j e q
abbrev KE := D → Mem → Prop
abbrev KT := Bool → Mem → Prop
abbrev KA := List D → Mem → Prop
/-- what is wanted of a value, wished at the heap -/
def Cont (F H : Hp) (M : Mem) (Q : KE) (R : VK) : Prop := ∀ v d M' F' H', Q d M' → Step F H M F' H' M' → S0 F' H' M' → Rp F' v d → R v H'
theorem Cont.step {F H F1 H1 : Hp} {M M1 : Mem} {Q : KE} {R : VK} (k : Cont F H M Q R) (st : Step F H M F1 H1 M1) : Cont F1 H1 M1 Q R :=
  fun v d M' F' H' q s2 s r => k v d M' F' H' q (st.trans s2) s r
def XE (X : Cx) (e : Expr) (ρ : Env) (M : Mem) (Q : KE) : Prop := ∀ F σ H, S0 F H M → EnvOk F σ ρ → ∀ R : VK, Cont F H M Q R → wE X e σ H R
def XT (X : Cx) (e : Expr) (ρ : Env) (M : Mem) (Q : KT) : Prop := ∀ F σ H, S0 F H M → EnvOk F σ ρ → ∀ R : Bool → Hp → Prop,
  (∀ b M' F' H', Q b M' → Step F H M F' H' M' → S0 F' H' M' → R b H') → wT X e σ H R
def XW (X : Cx) (e : Expr) (ρ : Env) (M : Mem) (Q : KT) : Prop := ∀ F σ H, S0 F H M → EnvOk F σ ρ → ∀ R : Bool → Hp → Prop,
  (∀ b M' F' H', Q b M' → Step F H M F' H' M' → S0 F' H' M' → R b H') → wW X e σ H R
def XTs (X : Cx) (es : List Expr) (ρ : Env) (M : Mem) (Q : KT) : Prop := ∀ F σ H, S0 F H M → EnvOk F σ ρ → ∀ R : Bool → Hp → Prop,
  (∀ b M' F' H', Q b M' → Step F H M F' H' M' → S0 F' H' M' → R b H') → wTs X es σ H R
def XA (X : Cx) (es : List Expr) (ρ : Env) (M : Mem) (Q : KA) : Prop := ∀ F σ H, S0 F H M → EnvOk F σ ρ → ∀ R : List V → Hp → Prop,
  (∀ vs ds M' F' H', Q ds M' → Step F H M F' H' M' → S0 F' H' M' → RpA F' vs ds → R vs H') → wA X es σ H R
/-- a target takes a value; vs: the slots that may change -/
def XG (X : Cx) (tg : Expr) (vs : List Nat) (d : D) (ρ : Env) (M : Mem) (Q : Env → Mem → Prop) : Prop := ∀ F σ H v, S0 F H M → EnvOk F σ ρ → Rp F v d → σ.length = X.N.length → ∀ R : L2.St → Hp → Prop,
  (∀ σ' ρ' M' F' H', Q ρ' M' → Step F H M F' H' M' → S0 F' H' M' → EnvOk F' σ' ρ' → (σ'.length = σ.length ∧ ∀ j, j ∉ vs → σ'[j]? = σ[j]?) → R σ' H') → wG X tg v σ H R
def XGs (X : Cx) (ts : List Expr) (vs : List Nat) (ds : List D) (ρ : Env) (M : Mem) (Q : Env → Mem → Prop) : Prop := ∀ F σ H xs, S0 F H M → EnvOk F σ ρ → RpA F xs ds → σ.length = X.N.length → ∀ R : L2.St → Hp → Prop,
  (∀ σ' ρ' M' F' H', Q ρ' M' → Step F H M F' H' M' → S0 F' H' M' → EnvOk F' σ' ρ' → (σ'.length = σ.length ∧ ∀ j, j ∉ vs → σ'[j]? = σ[j]?) → R σ' H') → wGs X ts xs σ H R
/-- what is walked: the data ds, as long as ok holds of what may be changed -/
structure Src (J : It) (F : Hp) (ok : Mem → Prop) (ds : List D) : Prop where
  go : ∀ i F' H M, Ex F F' → S0 F' H M → ok M → i < ds.length → J.go i H
  stop : ∀ i F' H M, Ex F F' → S0 F' H M → ok M → ds.length ≤ i → J.stop i H
  yld : ∀ i d x F' H H' M, Ex F F' → S0 F' H M → ok M → ds[i]? = some d → J.yld i H x H' → ∃ F'', S0 F'' H' M ∧ Step F' H M F'' H' M ∧ Rp F'' x d
abbrev KI := List D → (Mem → Prop) → Mem → Prop
def XI (X : Cx) (tg iter : Expr) (ρ : Env) (M : Mem) (Q : KI) : Prop := ∀ F σ H, S0 F H M → EnvOk F σ ρ → ∀ R : It → Hp → Prop,
  (∀ J ds ok M' F' H', Q ds ok M' → Step F H M F' H' M' → S0 F' H' M' → Src J F' ok ds → R J H') → wI X tg iter σ H R
structure EndsD where
  nx : Env → Mem → Prop
  rt : KE
  bk : Env → Mem → Prop := fun _ _ => False
  ct : Env → Mem → Prop := fun _ _ => False
/-- the wishes at the heap -/
structure ContS (F H : Hp) (M : Mem) (E : EndsD) (n : Nat) (D : Ends) : Prop where
  nx : ∀ ρ' M' F' σ' H', E.nx ρ' M' → Step F H M F' H' M' → S0 F' H' M' → EnvOk F' σ' ρ' → σ'.length = n → D.nx σ' H'
  rt : Cont F H M E.rt D.rt
  bk : ∀ ρ' M' F' σ' H', E.bk ρ' M' → Step F H M F' H' M' → S0 F' H' M' → EnvOk F' σ' ρ' → σ'.length = n → D.bk σ' H'
  ct : ∀ ρ' M' F' σ' H', E.ct ρ' M' → Step F H M F' H' M' → S0 F' H' M' → EnvOk F' σ' ρ' → σ'.length = n → D.ct σ' H'
theorem ContS.step {F H F1 H1 : Hp} {M M1 : Mem} {E : EndsD} {n : Nat} {D : Ends} (k : ContS F H M E n D) (st : Step F H M F1 H1 M1) : ContS F1 H1 M1 E n D :=
  ⟨fun ρ' M' F' σ' H' q s2 => k.nx ρ' M' F' σ' H' q (st.trans s2), k.rt.step st, fun ρ' M' F' σ' H' q s2 => k.bk ρ' M' F' σ' H' q (st.trans s2), fun ρ' M' F' σ' H' q s2 => k.ct ρ' M' F' σ' H' q (st.trans s2)⟩
def XS (X : Cx) (st : Stmt) (ρ : Env) (M : Mem) (E : EndsD) : Prop := ∀ F σ H, S0 F H M → EnvOk F σ ρ → σ.length = X.N.length → ∀ D : Ends, ContS F H M E X.N.length D → wS X st D σ H
def XSs (X : Cx) (sts : List Stmt) (ρ : Env) (M : Mem) (E : EndsD) : Prop := ∀ F σ H, S0 F H M → EnvOk F σ ρ → σ.length = X.N.length → ∀ D : Ends, ContS F H M E X.N.length D → wSs X sts D σ H

section
variable {X : Cx} {e a b c : Expr} {es : List Expr} {ρ : Env} {M : Mem} {Q : KE} {pos : Pos}
/-! ### names, constants -/
theorem xe_var (i : Nat) {x : Str} {d : D} (h : ρ[i]? = some (some d)) (q : Q d M) (hN : X.N[i]? = some x := by rfl) (hv : Vis X.env.scope x := by first | exact Or.inl rfl | exact Or.inr (Or.inl rfl) | exact Or.inr (Or.inr rfl)) (hd : (x == ("__debug__" : Str)) = false := by decide)
    (hcd : (x == ("__classdict__" : Str)) = false := by decide) : XE X (.Name x pos) ρ M Q := fun F σ H s ev R k => by
  obtain ⟨v, e1, r⟩ := ev i d h
  exact PE.w (pv i hN hv hd hcd) ⟨v, e1, k v d M F H q (Step.refl _ _ _) s r⟩
theorem xe_c {x : V} {t : TE} (p : PE X e t) (ht : t = tC x) (q : Q (.v x) M) : XE X e ρ M Q := fun F σ H s ev R k => by
  subst ht
  exact PE.w p (show R x H from k x _ M F H q (Step.refl _ _ _) s (.v x))
theorem xe_int {i j} (q : Q (.v (.int i)) M) : XE X (.Constant (.int i) j pos) ρ M Q := xe_c pe_int rfl q
theorem xe_bl {i j} (q : Q (.v (.bl i)) M) : XE X (.Constant (.bool i) j pos) ρ M Q := xe_c pe_bl rfl q
theorem xe_non {j} (q : Q (.v .non) M) : XE X (.Constant .none j pos) ρ M Q := xe_c pe_non rfl q
theorem xe_str {i j} (q : Q (.v (.str i)) M) : XE X (.Constant (.str i) j pos) ρ M Q := xe_c pe_str rfl q

/-! ### operations by values -/
def wOp (X : Cx) (f : Value → Value → Sem Value) (x y : V) (H : Hp) (R : VK) : Prop := ∀ (pins : List (Addr × Obj)) (s : Shared) (σ : L2.St) (v u : Value), Inv X pins σ H s → RelV x v → RelV y u → wpAny (model X.prog X.w) X.A (f v u) (EP X pins σ R) X.xe s
theorem op_w {f : Value → Value → Sem Value} : OpR X f (wOp X f) := fun pins s σ H x y v u Q I rx ry h => h pins s σ v u I rx ry
theorem OpR.w {f : Value → Value → Sem Value} {r : R2} (h : OpR X f r) {x y : V} {H : Hp} {R : VK} (q : r x y H R) : wOp X f x y H R := fun pins s σ v u I rx ry => h pins s σ H x y v u R I rx ry q
def OpD (X : Cx) (f : Value → Value → Sem Value) (d1 d2 : D) (M : Mem) (Q : KE) : Prop := ∀ F H x y, S0 F H M → Rp F x d1 → Rp F y d2 → ∀ R, Cont F H M Q R → wOp X f x y H R
theorem xe_bin {op : Operator} (h : XE X a ρ M fun d1 M1 => XE X b ρ M1 fun d2 M2 => OpD X (binaryOp op) d1 d2 M2 Q) : XE X (.BinOp a op b pos) ρ M Q := fun F σ H s ev R k =>
  PE.w (pe_op op_w pe_w pe_w) (h F σ H s ev _ fun v d1 M1 F1 H1 q st s1 r1 => q F1 σ H1 s1 (ev.mono st.ex) _ fun u d2 M2 F2 H2 q2 st2 s2 r2 => q2 F2 H2 v u s2 (r1.mono st2.ex.le) r2 R (k.step (st.trans st2)))
theorem xe_cmp {op : CmpOp} (h : XE X a ρ M fun d1 M1 => XE X b ρ M1 fun d2 M2 => OpD X (compareOp op) d1 d2 M2 Q) (hm : behindInMarks op b = false := by first | exact nomark _ | rfl) : XE X (.Compare a [op] [b] pos) ρ M Q := fun F σ H s ev R k =>
  PE.w (pe_cmpR op_w pe_w pe_w hm) (h F σ H s ev _ fun v d1 M1 F1 H1 q st s1 r1 => q F1 σ H1 s1 (ev.mono st.ex) _ fun u d2 M2 F2 H2 q2 st2 s2 r2 => q2 F2 H2 v u s2 (r1.mono st2.ex.le) r2 R (k.step (st.trans st2)))
/-- a truth value's way -/
def TQ (Q : KT) : KE := fun d M => ∃ k, d = .v (.bl k) ∧ Q k M
theorem Cont.tq {F H : Hp} {Q : KT} {R : Bool → Hp → Prop} (k : ∀ b M' F' H', Q b M' → Step F H M F' H' M' → S0 F' H' M' → R b H') : Cont F H M (TQ Q) (fun z H' => ∃ c, z = .bl c ∧ R c H') := fun v d M' F' H' q st s r => by
  obtain ⟨c, rfl, q⟩ := q
  cases r
  exact ⟨c, rfl, k c M' F' H' q st s⟩
theorem xt_cmp {op : CmpOp} {Q : KT} (h : XE X a ρ M fun d1 M1 => XE X b ρ M1 fun d2 M2 => OpD X (compareOp op) d1 d2 M2 (TQ Q)) (hm : behindInMarks op b = false := by first | exact nomark _ | rfl) : XT X (.Compare a [op] [b] pos) ρ M Q := fun F σ H s ev R k =>
  PT.w (pt_cmpR op_w pe_w pe_w hm) (h F σ H s ev _ fun v d1 M1 F1 H1 q st s1 r1 => q F1 σ H1 s1 (ev.mono st.ex) _ fun u d2 M2 F2 H2 q2 st2 s2 r2 => q2 F2 H2 v u s2 (r1.mono st2.ex.le) r2 _ ((Cont.tq k).step (st.trans st2)))
theorem xt_val {Q : KT} (h : XE X e ρ M (TQ Q)) (he : ∀ whole, isTrue e X.env whole = (do let v ← whole; standAt e.pos; holding [v] (truthy v)) := by intro _; rfl) : XT X e ρ M Q := fun F σ H s ev R k =>
  PT.w (pt_val pe_w he) (h F σ H s ev _ (Cont.tq k))
theorem xt_not {Q : KT} (h : XT X e ρ M fun b M1 => Q (!b) M1) : XT X (.UnaryOp .Not e pos) ρ M Q := fun F σ H s ev R k =>
  PT.w (pt_not pt_w) (h F σ H s ev _ fun b M' F' H' q st s1 => k _ M' F' H' q st s1)
theorem XT.mono {Q Q' : KT} (h : XT X e ρ M Q) (hq : ∀ b M', Q b M' → Q' b M') : XT X e ρ M Q' := fun F σ H s ev R k => h F σ H s ev R fun b M' F' H' q => k b M' F' H' (hq b M' q)
theorem XE.mono {Q Q' : KE} (h : XE X e ρ M Q) (hq : ∀ d M', Q d M' → Q' d M') : XE X e ρ M Q' := fun F σ H s ev R k => h F σ H s ev R fun v d M' F' H' q => k v d M' F' H' (hq d M' q)
theorem b_ite {c : Bool} {A B : Prop} (h1 : c = true → A) (h2 : c = false → B) : if c = true then A else B := by
  cases c with
  | true => exact h1 rfl
  | false => exact h2 rfl
theorem xw_and1 {Q : KT} (h : XT X e ρ M Q) : XW X (.BoolOp .And [e] pos) ρ M Q := fun F σ H s ev R k => PW.w (pw_and1 pt_w) (h F σ H s ev R k)
theorem xw_or1 {Q : KT} (h : XT X e ρ M Q) : XW X (.BoolOp .Or [e] pos) ρ M Q := fun F σ H s ev R k => PW.w (pw_or1 pt_w) (h F σ H s ev R k)
theorem xw_and {Q : KT} (h : XT X a ρ M fun c M1 => (c = true → XW X (.BoolOp .And (b :: es) pos) ρ M1 Q) ∧ (c = false → Q false M1)) : XW X (.BoolOp .And (a :: b :: es) pos) ρ M Q := fun F σ H s ev R k =>
  PW.w (pw_and pt_w pw_w) (h F σ H s ev _ fun c M1 F1 H1 q st s1 => b_ite (fun hc => q.1 hc F1 σ H1 s1 (ev.mono st.ex) R fun b M' F' H' q' st' => k b M' F' H' q' (st.trans st')) fun hc => k false M1 F1 H1 (q.2 hc) st s1)
theorem xw_or {Q : KT} (h : XT X a ρ M fun c M1 => (c = true → Q true M1) ∧ (c = false → XW X (.BoolOp .Or (b :: es) pos) ρ M1 Q)) : XW X (.BoolOp .Or (a :: b :: es) pos) ρ M Q := fun F σ H s ev R k =>
  PW.w (pw_or pt_w pw_w) (h F σ H s ev _ fun c M1 F1 H1 q st s1 => b_ite (fun hc => k true M1 F1 H1 (q.1 hc) st s1) fun hc => q.2 hc F1 σ H1 s1 (ev.mono st.ex) R fun b M' F' H' q' st' => k b M' F' H' q' (st.trans st'))
theorem XW.t {Q : KT} (h : XW X e ρ M Q) : XT X e ρ M Q := fun F σ H s ev R k => PT.w (PW.pt pw_w) (h F σ H s ev R k)
/-- .. as values -/
theorem xe_and1 {op} (h : XE X e ρ M Q) : XE X (.BoolOp op [e] pos) ρ M Q := fun F σ H s ev R k => PE.w (pe_one pe_w) (h F σ H s ev R k)
theorem xe_and (h : XE X a ρ M fun d M1 => ∃ c, d = .v (.bl c) ∧ (c = true → XE X (.BoolOp .And (b :: es) pos) ρ M1 Q) ∧ (c = false → Q (.v (.bl false)) M1)) : XE X (.BoolOp .And (a :: b :: es) pos) ρ M Q := fun F σ H s ev R k =>
  PE.w (pe_and pe_w pe_w) (h F σ H s ev _ fun v d M1 F1 H1 q st s1 r => by
    obtain ⟨c, rfl, q1, q2⟩ := q
    cases r
    exact ⟨c, rfl, b_ite (fun hc => q1 hc F1 σ H1 s1 (ev.mono st.ex) R (k.step st)) fun hc => k _ _ M1 F1 H1 (q2 hc) st s1 (.v _)⟩)
theorem xe_or (h : XE X a ρ M fun d M1 => ∃ c, d = .v (.bl c) ∧ (c = true → Q (.v (.bl true)) M1) ∧ (c = false → XE X (.BoolOp .Or (b :: es) pos) ρ M1 Q)) : XE X (.BoolOp .Or (a :: b :: es) pos) ρ M Q := fun F σ H s ev R k =>
  PE.w (pe_or pe_w pe_w) (h F σ H s ev _ fun v d M1 F1 H1 q st s1 r => by
    obtain ⟨c, rfl, q1, q2⟩ := q
    cases r
    exact ⟨c, rfl, b_ite (fun hc => k _ _ M1 F1 H1 (q1 hc) st s1 (.v _)) fun hc => q2 hc F1 σ H1 s1 (ev.mono st.ex) R (k.step st)⟩)
theorem xe_notV (h : XE X e ρ M fun d M1 => ∃ c, d = .v (.bl c) ∧ Q (.v (.bl (!c))) M1) : XE X (.UnaryOp .Not e pos) ρ M Q := fun F σ H s ev R k =>
  PE.w (pe_not pe_w) (h F σ H s ev _ fun v d M1 F1 H1 q st s1 r => by
    obtain ⟨c, rfl, q⟩ := q
    cases r
    exact ⟨c, rfl, k _ _ M1 F1 H1 q st s1 (.v _)⟩)
theorem xe_if (h : XT X c ρ M fun t M1 => (t = true → XE X a ρ M1 Q) ∧ (t = false → XE X b ρ M1 Q)) : XE X (.IfExp c a b pos) ρ M Q := fun F σ H s ev R k =>
  PE.w (pe_ifExp pt_w pe_w pe_w) (h F σ H s ev _ fun t M1 F1 H1 q st s1 => b_ite (fun ht => q.1 ht F1 σ H1 s1 (ev.mono st.ex) R (k.step st)) fun ht => q.2 ht F1 σ H1 s1 (ev.mono st.ex) R (k.step st))
/-! ints -/
theorem od_op {f : Value → Value → Sem Value} {r : R2} (h : OpR X f r) {x y z : V} (hr : ∀ H (R : VK), R z H → r x y H R) (q : Q (.v z) M) : OpD X f (.v x) (.v y) M Q := fun F H x' y' s r1 r2 R k => by
  cases r1; cases r2
  exact OpR.w h (hr H R (k z _ M F H q (Step.refl _ _ _) s (.v z)))
theorem od_I0 {f : Value → Value → Sem Value} {g : Int → Int → V} (h : OpR X f (rI0 g)) {i j : Int} (q : Q (.v (g i j)) M) : OpD X f (.v (.int i)) (.v (.int j)) M Q := od_op h (fun H R r => ⟨i, j, rfl, rfl, r⟩) q
theorem od_I {f : Value → Value → Sem Value} {C : Int → Int → Prop} {g : Int → Int → V} (h : OpR X f (rI C g)) {i j : Int} (hc : C i j) (q : Q (.v (g i j)) M) : OpD X f (.v (.int i)) (.v (.int j)) M Q := od_op h (fun H R r => ⟨i, j, rfl, rfl, hc, r⟩) q
theorem od_add {i j : Int} (q : Q (.v (.int (i + j))) M) : OpD X (binaryOp .Add) (.v (.int i)) (.v (.int j)) M Q := od_I0 op_add q
theorem od_sub {i j : Int} (q : Q (.v (.int (i - j))) M) : OpD X (binaryOp .Sub) (.v (.int i)) (.v (.int j)) M Q := od_I0 op_sub q
theorem od_mod {i j : Int} (h : 0 < j) (q : Q (.v (.int (i % j))) M) : OpD X (binaryOp .Mod) (.v (.int i)) (.v (.int j)) M Q := od_I op_mod h q
theorem od_fdiv {i j : Int} (h : CDiv i j) (q : Q (.v (.int (i / j))) M) : OpD X (binaryOp .FloorDiv) (.v (.int i)) (.v (.int j)) M Q := od_I op_fdiv h q
theorem od_mul {i j : Int} (h : CMul i j) (q : Q (.v (.int (i * j))) M) : OpD X (binaryOp .Mult) (.v (.int i)) (.v (.int j)) M Q := od_I op_mul h q
theorem od_pow {i j : Int} (h : CPow i j) (q : Q (.v (.int (i ^ j.toNat))) M) : OpD X (binaryOp .Pow) (.v (.int i)) (.v (.int j)) M Q := od_I op_pow h q
theorem od_lt {i j : Int} (q : Q (.v (.bl (decide (i < j)))) M) : OpD X (compareOp .Lt) (.v (.int i)) (.v (.int j)) M Q := od_I0 op_lt q
theorem od_le {i j : Int} (q : Q (.v (.bl (decide (i ≤ j)))) M) : OpD X (compareOp .LtE) (.v (.int i)) (.v (.int j)) M Q := od_I0 op_le q
theorem od_gt {i j : Int} (q : Q (.v (.bl (decide (j < i)))) M) : OpD X (compareOp .Gt) (.v (.int i)) (.v (.int j)) M Q := od_I0 op_gt q
theorem od_ge {i j : Int} (q : Q (.v (.bl (decide (j ≤ i)))) M) : OpD X (compareOp .GtE) (.v (.int i)) (.v (.int j)) M Q := od_I0 op_ge q
theorem od_eq {x y : V} (h : scal x y = true) (q : Q (.v (.bl (decide (x = y)))) M) : OpD X (compareOp .Eq) (.v x) (.v y) M Q := od_op op_eq (fun H R r => ⟨h, r⟩) q
theorem od_ne {x y : V} (h : scal x y = true) (q : Q (.v (.bl (!decide (x = y)))) M) : OpD X (compareOp .NotEq) (.v x) (.v y) M Q := od_op op_ne (fun H R r => ⟨h, r⟩) q
/-- is None of anything -/
def isNonD : D → Bool
  | .v .non => true
  | _ => false
theorem Rp.non {H : Hp} {x : V} {d : D} (r : Rp H x d) : decide (x = .non) = isNonD d := by
  cases r with
  | v x => cases x <;> rfl
  | lst _ _ => rfl
  | tup _ _ => rfl
  | dct _ _ => rfl
  | obj _ _ => rfl
theorem od_isN {d : D} (q : Q (.v (.bl (isNonD d))) M) : OpD X (compareOp .Is) d (.v .non) M Q := fun F H x y s r1 r2 R k => by
  cases r2
  exact OpR.w op_isN ⟨rfl, by rw [r1.non]; exact k _ _ M F H q (Step.refl _ _ _) s (.v _)⟩
theorem od_notN {d : D} (q : Q (.v (.bl (!isNonD d))) M) : OpD X (compareOp .IsNot) d (.v .non) M Q := fun F H x y s r1 r2 R k => by
  cases r2
  exact OpR.w op_notN ⟨rfl, by rw [r1.non]; exact k _ _ M F H q (Step.refl _ _ _) s (.v _)⟩

/-! ### argument lists, displays -/
theorem xa_nil {Q : KA} (q : Q [] M) : XA X [] ρ M Q := fun F σ H s ev R k => PA.w pa_nil (k [] [] M F H q (Step.refl _ _ _) s .nil)
theorem xa_cons {Q : KA} (h : XE X e ρ M fun d M1 => XA X es ρ M1 fun ds M2 => Q (d :: ds) M2) (hs : starEach (e :: es) X.env = (false, eval e X.env) :: starEach es X.env := by rfl) : XA X (e :: es) ρ M Q := fun F σ H s ev R k =>
  PA.w (pa_cons pe_w pa_w hs) (h F σ H s ev _ fun v d M1 F1 H1 q st s1 r => q F1 σ H1 s1 (ev.mono st.ex) _ fun vs ds M2 F2 H2 q2 st2 s2 r2 => k (v :: vs) (d :: ds) M2 F2 H2 q2 (st.trans st2) s2 (.cons (r.mono st2.ex.le) r2))
theorem sz_ok {n : Nat} (h : n ≤ 100000) : n ≤ sizeLine := Nat.le_trans h (by decide)
theorem sz_lt {n : Nat} (h : n < 100000) : n < sizeLine := Nat.lt_of_lt_of_le h (by decide)
theorem xe_tup {x1} (h : XA X es ρ M fun ds M1 => ds.length ≤ 100000 ∧ Q (.tup ds) M1) : XE X (.Tuple es x1 pos) ρ M Q := fun F σ H s ev R k =>
  PE.w (pe_tup pa_w) (h F σ H s ev _ fun vs ds M1 F1 H1 q st s1 r => ⟨by rw [r.length]; exact sz_ok q.1, fun p hp => by
    obtain ⟨s2, st2⟩ := s1.new hp (.tup vs)
    exact k _ _ M1 _ _ q.2 (st.trans st2) s2 (.tup upd_same (r.mono st2.ex.le))⟩)
/-- a list that is not changed any more -/
theorem xe_lst (h : XA X es ρ M fun ds M1 => ds.length ≤ 100000 ∧ Q (.lst ds) M1) : XE X (.List es pos) ρ M Q := fun F σ H s ev R k =>
  PE.w (pe_lst pa_w) (h F σ H s ev _ fun vs ds M1 F1 H1 q st s1 r => ⟨by rw [r.length]; exact sz_ok q.1, fun p hp => by
    obtain ⟨s2, st2⟩ := s1.new hp (.lst vs)
    exact k _ _ M1 _ _ q.2 (st.trans st2) s2 (.lst upd_same (r.mono st2.ex.le))⟩)
/-- a list that may be changed -/
theorem xe_lstM (h : XA X es ρ M fun ds M1 => ds.length ≤ 100000 ∧ ∀ l, Q (.v (.ref l)) ((l, .lst ds) :: M1)) : XE X (.List es pos) ρ M Q := fun F σ H s ev R k =>
  PE.w (pe_lst pa_w) (h F σ H s ev _ fun vs ds M1 F1 H1 q st s1 r => ⟨by rw [r.length]; exact sz_ok q.1, fun p hp => by
    obtain ⟨s2, st2⟩ := s1.newM (m := .lst ds) hp (o := .lst vs) ⟨vs, upd_same, r⟩
    exact k _ _ _ _ _ (q.2 p) (st.trans st2) s2 (.v _)⟩)
theorem xe_dctM (h : ∀ l, Q (.v (.ref l)) ((l, .dct []) :: M)) : XE X (.Dict [] [] pos) ρ M Q := fun F σ H s ev R k =>
  PE.w pe_dnewK (show ∀ p, H p = none → R (.ref p) (upd H p (.dK [])) from fun p hp => by
    obtain ⟨s2, st2⟩ := s.newM (m := .dct []) hp (o := .dK []) ⟨[], upd_same, .nil⟩
    exact k _ _ _ _ _ (h p) st2 s2 (.v _))
/-! ### what is seen of a value: data, or an object that may be changed -/
def SeesL (M : Mem) (d : D) (ds : List D) : Prop := d = .lst ds ∨ ∃ (k : Nat) (a : Addr), d = .v (.ref a) ∧ M[k]? = some (a, MO.lst ds)
def SeesK (M : Mem) (d : D) (kds : List (Key × D)) : Prop := d = .dct kds ∨ ∃ (k : Nat) (a : Addr), d = .v (.ref a) ∧ M[k]? = some (a, MO.dct kds)
theorem SeesL.m (k : Nat) {a : Addr} {ds : List D} (h : M[k]? = some (a, MO.lst ds)) : SeesL M (.v (.ref a)) ds := Or.inr ⟨k, a, rfl, h⟩
theorem SeesK.m (k : Nat) {a : Addr} {ds : List (Key × D)} (h : M[k]? = some (a, MO.dct ds)) : SeesK M (.v (.ref a)) ds := Or.inr ⟨k, a, rfl, h⟩
theorem SeesL.of {ds : List D} : SeesL M (.lst ds) ds := Or.inl rfl
theorem SeesK.of {ds : List (Key × D)} : SeesK M (.dct ds) ds := Or.inl rfl
theorem SeesL.get {F H : Hp} {v : V} {d : D} {ds : List D} (h : SeesL M d ds) (s : S0 F H M) (r : Rp F v d) : ∃ a xs, v = .ref a ∧ H a = some (.lst xs) ∧ RpA F xs ds := by
  rcases h with rfl | ⟨k, a, rfl, e⟩
  · cases r with | lst e q => exact ⟨_, _, rfl, s.le.lst e, q⟩
  · cases r
    obtain ⟨_, xs, e2, q⟩ := s.at e
    exact ⟨a, xs, rfl, e2, q⟩
theorem SeesK.get {F H : Hp} {v : V} {d : D} {ds : List (Key × D)} (h : SeesK M d ds) (s : S0 F H M) (r : Rp F v d) : ∃ a kvs, v = .ref a ∧ Rd H a (.dK kvs) ∧ RpK F kvs ds := by
  rcases h with rfl | ⟨k, a, rfl, e⟩
  · cases r with | dct e q => exact ⟨_, _, rfl, .inr ⟨_, s.le.rdK e⟩, q⟩
  · cases r
    obtain ⟨_, xs, e2, q⟩ := s.at e
    exact ⟨a, xs, rfl, .inl e2, q⟩
theorem tup_get {F H : Hp} {v : V} {ds : List D} (s : S0 F H M) (r : Rp F v (.tup ds)) : ∃ a xs, v = .ref a ∧ H a = some (.tup xs) ∧ RpA F xs ds := by
  cases r with | tup e q => exact ⟨_, _, rfl, s.le.tup e, q⟩

/-! ### o[i] -/
def wIx (X : Cx) (x y : V) (H : Hp) (R : VK) : Prop := ∀ (value slice : Expr) (pins : List (Addr × Obj)) (s : Shared) (σ : L2.St) (v u : Value), Inv X pins σ H s → RelV x v → RelV y u → subscripted slice false v u = operate [v, u] (getItem v u) → wpAny (model X.prog X.w) X.A (subscriptTail value slice v u) (EP X pins σ R) X.xe s
theorem ix_w : IxR X (wIx X) := fun value slice pins s σ H x y v u Q I rx ry h hs => h value slice pins s σ v u I rx ry hs
theorem IxR.w {r : R2} (h : IxR X r) {x y : V} {H : Hp} {R : VK} (q : r x y H R) : wIx X x y H R := fun value slice pins s σ v u I rx ry hs => h value slice pins s σ H x y v u R I rx ry q hs
def IxD (X : Cx) (d1 d2 : D) (M : Mem) (Q : KE) : Prop := ∀ F H x y, S0 F H M → Rp F x d1 → Rp F y d2 → ∀ R, Cont F H M Q R → wIx X x y H R
theorem xe_ix (h : XE X a ρ M fun d1 M1 => XE X b ρ M1 fun d2 M2 => IxD X d1 d2 M2 Q) (hs : PlainIx b := by exact fun _ _ => rfl) : XE X (.Subscript a b pos) ρ M Q := fun F σ H s ev R k =>
  PE.w (pe_ix ix_w pe_w pe_w hs) (h F σ H s ev _ fun v d1 M1 F1 H1 q st s1 r1 => q F1 σ H1 s1 (ev.mono st.ex) _ fun u d2 M2 F2 H2 q2 st2 s2 r2 => q2 F2 H2 v u s2 (r1.mono st2.ex.le) r2 R (k.step (st.trans st2)))
theorem RpA.atI {H : Hp} {xs : List V} {ds : List D} {i : Int} {d : D} (r : RpA H xs ds) (e : atI ds i = some d) : ∃ x, L2.atI xs i = some x ∧ Rp H x d := by
  unfold L2.atI at e ⊢
  rw [r.length]
  cases h : ixN ds.length i with
  | none => rw [h] at e; cases e
  | some j =>
    rw [h] at e
    exact r.get e
theorem id_lst {d1 d : D} {ds : List D} {i : Int} (h : SeesL M d1 ds) (e : atI ds i = some d) (q : Q d M) : IxD X d1 (.v (.int i)) M Q := fun F H x y s r1 r2 R k => by
  cases r2
  obtain ⟨p, xs, rfl, e1, ra⟩ := h.get s r1
  obtain ⟨z, e2, rz⟩ := ra.atI e
  exact IxR.w ix_list ⟨p, xs, i, z, rfl, rfl, SqL.of e1, e2, k z d M F H q (Step.refl _ _ _) s rz⟩
theorem id_tup {d : D} {ds : List D} {i : Int} (e : atI ds i = some d) (q : Q d M) : IxD X (.tup ds) (.v (.int i)) M Q := fun F H x y s r1 r2 R k => by
  cases r2
  obtain ⟨p, xs, rfl, e1, ra⟩ := tup_get s r1
  obtain ⟨z, e2, rz⟩ := ra.atI e
  exact IxR.w ix_tup ⟨p, xs, i, z, rfl, rfl, SqT.of e1, e2, k z d M F H q (Step.refl _ _ _) s rz⟩
theorem id_str {z : Str} {i : Int} {c : Nat} (hz : z.length ≤ 100000) (e : atI z.cps.toList i = some c) (q : Q (.v (.str ⟨#[c]⟩)) M) : IxD X (.v (.str z)) (.v (.int i)) M Q := fun F H x y s r1 r2 R k => by
  cases r1; cases r2
  exact IxR.w ix_str ⟨z, i, c, rfl, rfl, sz_ok hz, e, k _ _ M F H q (Step.refl _ _ _) s (.v _)⟩
/-- d[k] as one of the subscripts -/
theorem ix_dct (hu : X.A.units + 1 < cLine) : IxR X (fun x y H Q => ∃ a v, x = .ref a ∧ DGet H a y (some v) ∧ Q v H) := fun value slice pins s σ H x y v u Q I rx ry h hs => by
  obtain ⟨a, z, rfl, g, q⟩ := h
  obtain rfl : v = Value.ref a := rx
  have hT := dict_typeIs I g
  unfold subscriptTail
  refine wpAny_bind ?_
  rw [getitemInPython_of_ne hT.not_modules]
  refine wpAny_bind (wpAny_specialOf hT PySem.F.slot_dict_getitem.lookup ?_)
  have fin : wpAny (model X.prog X.w) X.A (subscripted slice false (.ref a) u) (fun r s₃ => wpAny (model X.prog X.w) X.A (letTemporaryGo value (.ref a) r >>= fun _ => pure r) (EP X pins σ Q) X.xe s₃) X.xe s := by
    rw [hs]
    exact wpAny_operating (d_getItem hu I g ry fun w' s3 I3 rw' => wpAny_bind (wpAny_letTemporaryGo (wpAny_pure ⟨z, H, I3, rw', q⟩)))
  first
    | exact wpAny_pure (wpAny_bind fin)
    | exact wpAny_bind (wpAny_pure (wpAny_bind fin))
    | exact wpAny_bind fin
theorem id_dct {d1 d : D} {kds : List (Key × D)} {k : Key} {y : V} (hu : X.A.units + 1 < cLine) (h : SeesK M d1 kds) (hy : y = kV k) (e : valD kds k = some d) (q : Q d M) : IxD X d1 (.v y) M Q := fun F H x y' s r1 r2 R kk => by
  cases r2
  subst hy
  obtain ⟨p, kvs, rfl, e1, rk⟩ := h.get s r1
  obtain ⟨z, e2, rz⟩ := rk.some e
  exact IxR.w (ix_dct hu) ⟨p, z, rfl, .inl ⟨kvs, k, e1, rfl, e2.symm⟩, kk z d M F H q (Step.refl _ _ _) s rz⟩

/-! ### in -/
theorem op_dIn (hu : X.A.units + 1 < cLine) : OpR X (compareOp .In) (fun y x H Q => ∃ a o, x = .ref a ∧ DGet H a y o ∧ Q (.bl o.isSome) H) := fun pins s σ H y x v u Q I ry rx h => by
  obtain ⟨a, o, rfl, g, q⟩ := h
  obtain rfl : u = Value.ref a := rx
  exact d_in hu I g ry fun s3 I3 => ⟨.bl o.isSome, H, I3, rfl, q⟩
theorem op_dNotIn (hu : X.A.units + 1 < cLine) : OpR X (compareOp .NotIn) (fun y x H Q => ∃ a o, x = .ref a ∧ DGet H a y o ∧ Q (.bl (!o.isSome)) H) := fun pins s σ H y x v u Q I ry rx h => by
  obtain ⟨a, o, rfl, g, q⟩ := h
  obtain rfl : u = Value.ref a := rx
  exact d_notIn hu I g ry fun s3 I3 => ⟨.bl (!o.isSome), H, I3, rfl, q⟩
theorem od_dIn {d2 : D} {kds : List (Key × D)} {k : Key} {y : V} (hu : X.A.units + 1 < cLine) (h : SeesK M d2 kds) (hy : y = kV k) (q : Q (.v (.bl (valD kds k).isSome)) M) : OpD X (compareOp .In) (.v y) d2 M Q := fun F H x y' s r1 r2 R kk => by
  cases r1
  subst hy
  obtain ⟨p, kvs, rfl, e1, rk⟩ := h.get s r2
  exact OpR.w (op_dIn hu) ⟨p, _, rfl, .inl ⟨kvs, k, e1, rfl, rfl⟩, by rw [rk.isSome]; exact kk _ _ M F H q (Step.refl _ _ _) s (.v _)⟩
theorem od_dNotIn {d2 : D} {kds : List (Key × D)} {k : Key} {y : V} (hu : X.A.units + 1 < cLine) (h : SeesK M d2 kds) (hy : y = kV k) (q : Q (.v (.bl (!(valD kds k).isSome))) M) : OpD X (compareOp .NotIn) (.v y) d2 M Q := fun F H x y' s r1 r2 R kk => by
  cases r1
  subst hy
  obtain ⟨p, kvs, rfl, e1, rk⟩ := h.get s r2
  exact OpR.w (op_dNotIn hu) ⟨p, _, rfl, .inl ⟨kvs, k, e1, rfl, rfl⟩, by rw [rk.isSome]; exact kk _ _ M F H q (Step.refl _ _ _) s (.v _)⟩
/-- x in a list or tuple of flat values -/
theorem od_inL {d2 : D} {x : V} {ys : List V} (h : SeesL M d2 (ys.map D.v)) (hx : flatV x = true) (hy : ys.all flatV = true) (q : Q (.v (.bl (inV x ys))) M) : OpD X (compareOp .In) (.v x) d2 M Q := fun F H x' y' s r1 r2 R kk => by
  cases r1
  obtain ⟨p, xs, rfl, e1, ra⟩ := h.get s r2
  obtain rfl := ra.vs
  exact OpR.w op_in_seq ⟨p, xs, rfl, .inl (SqL.of e1), hx, hy, kk _ _ M F H q (Step.refl _ _ _) s (.v _)⟩
theorem od_notInL {d2 : D} {x : V} {ys : List V} (h : SeesL M d2 (ys.map D.v)) (hx : flatV x = true) (hy : ys.all flatV = true) (q : Q (.v (.bl (!inV x ys))) M) : OpD X (compareOp .NotIn) (.v x) d2 M Q := fun F H x' y' s r1 r2 R kk => by
  cases r1
  obtain ⟨p, xs, rfl, e1, ra⟩ := h.get s r2
  obtain rfl := ra.vs
  exact OpR.w op_notIn_seq ⟨p, xs, rfl, .inl (SqL.of e1), hx, hy, kk _ _ M F H q (Step.refl _ _ _) s (.v _)⟩
theorem od_inT {x : V} {ds : List D} {ys : List V} (h : ds = ys.map D.v) (hx : flatV x = true) (hy : ys.all flatV = true) (q : Q (.v (.bl (inV x ys))) M) : OpD X (compareOp .In) (.v x) (.tup ds) M Q := fun F H x' y' s r1 r2 R kk => by
  cases r1
  subst h
  obtain ⟨p, xs, rfl, e1, ra⟩ := tup_get s r2
  obtain rfl := ra.vs
  exact OpR.w op_in_seq ⟨p, xs, rfl, .inr (SqT.of e1), hx, hy, kk _ _ M F H q (Step.refl _ _ _) s (.v _)⟩
/-! list + list, tuple + tuple, list * int -/
theorem od_addL {d1 d2 : D} {ds es : List D} (h1 : SeesL M d1 ds) (h2 : SeesL M d2 es) (hz : ds.length + es.length ≤ 100000) (q : Q (.lst (ds ++ es)) M) : OpD X (binaryOp .Add) d1 d2 M Q := fun F H x y s r1 r2 R k => by
  obtain ⟨p, xs, rfl, e1, ra⟩ := h1.get s r1
  obtain ⟨p2, ys, rfl, e2, rb⟩ := h2.get s r2
  refine OpR.w op_cat ⟨p, p2, xs, ys, rfl, rfl, e1, e2, by rw [ra.length, rb.length]; exact sz_ok hz, fun l hl => ?_⟩
  obtain ⟨s2, st2⟩ := s.new hl (.lst (xs ++ ys))
  exact k _ _ M _ _ q st2 s2 (.lst upd_same ((ra.append rb).mono st2.ex.le))
theorem od_addT {ds es : List D} (h1 : ds ≠ []) (hz : ds.length + es.length ≤ 100000) (q : Q (.tup (ds ++ es)) M) : OpD X (binaryOp .Add) (.tup ds) (.tup es) M Q := fun F H x y s r1 r2 R k => by
  obtain ⟨p, xs, rfl, e1, ra⟩ := tup_get s r1
  obtain ⟨p2, ys, rfl, e2, rb⟩ := tup_get s r2
  refine OpR.w op_catT ⟨p, p2, xs, ys, rfl, rfl, SqT.of e1, SqT.of e2, ?_, by rw [ra.length, rb.length]; exact sz_ok hz, ?_, fun hn l hl => ?_⟩
  · rintro rfl
    cases ra
    exact h1 rfl
  · rintro rfl
    cases rb
    rw [List.append_nil] at q
    exact k _ _ M F H q (Step.refl _ _ _) s r1
  · obtain ⟨s2, st2⟩ := s.new hl (.tup (xs ++ ys))
    exact k _ _ M _ _ q st2 s2 (.tup upd_same ((ra.append rb).mono st2.ex.le))
theorem RpA.rep {H : Hp} {xs : List V} {ds : List D} (r : RpA H xs ds) : ∀ n : Nat, RpA H (List.replicate n xs).flatten (List.replicate n ds).flatten
  | 0 => .nil
  | n + 1 => by
    rw [List.replicate_succ, List.replicate_succ, List.flatten_cons, List.flatten_cons]
    exact r.append (r.rep n)
theorem od_rep {d1 : D} {ds : List D} {j : Int} (h1 : SeesL M d1 ds) (h2 : -1000 ≤ j ∧ j ≤ 1000) (hz : ds.length ≤ 100) (q : Q (.lst (List.replicate j.toNat ds).flatten) M) : OpD X (binaryOp .Mult) d1 (.v (.int j)) M Q := fun F H x y s r1 r2 R k => by
  cases r2
  obtain ⟨p, xs, rfl, e1, ra⟩ := h1.get s r1
  refine OpR.w op_rep ⟨p, j, xs, rfl, rfl, e1, by omega, by omega, ?_, fun l hl => ?_⟩
  · rw [ra.length]
    have : ds.length * j.toNat ≤ 100 * 1000 := Nat.mul_le_mul hz (by omega)
    exact sz_ok (Nat.le_trans this (by decide))
  obtain ⟨s2, st2⟩ := s.new hl (.lst (List.replicate j.toNat xs).flatten)
  exact k _ _ M _ _ q st2 s2 (.lst upd_same ((ra.rep _).mono st2.ex.le))
end
end Dl
end
section
set_option maxHeartbeats 2000000
/-! Dl3: targets, statements, loops, comprehensions, calls over data. -/
namespace Dl
open PySem PySem.Spec PyProof.Rows L2
section
variable {X : Cx} {e a b c : Expr} {es : List Expr} {st : Stmt} {sts body orelse : List Stmt} {ρ : Env} {M : Mem} {Q : KE} {E : EndsD} {pos : Pos}

/-! ### targets -/
abbrev KG := Env → Mem → Prop
theorem xg_name (i : Nat) {vs : List Nat} {x : Str} {d : D} {Q : KG} (q : Q (ρ.set i (some d)) M) (hN : X.N.Nodup := by assumption) (hi : X.N[i]? = some x := by rfl) (hv : i ∈ vs := by decide)
    (hx : Loc X.env.scope x := by first | exact Or.inl rfl | exact Or.inr rfl) (hf : X.fn x = true ∨ X.env.scope.names.lookup x = some .local := by first | exact .inl rfl | exact .inr rfl) : XG X (.Name x pos) vs d ρ M Q := fun F σ H v s ev r hl R k => by
  have hi' : i < σ.length := by rw [hl]; exact (List.getElem?_eq_some_iff.mp hi).1
  refine PG.w (pg_name hN hi hx hf) (show R (σ.set i (some v)) H from k _ _ M F H q (Step.refl _ _ _) s (ev.set hi' r) ⟨by simp, fun j hj => ?_⟩)
  rw [List.getElem?_set_ne]
  rintro rfl
  exact hj hv
theorem xgs_nil {vs : List Nat} {Q : KG} (q : Q ρ M) : XGs X [] vs [] ρ M Q := fun F σ H xs s ev r hl R k => by
  cases r
  exact PGs.w pgs_nil ⟨rfl, k _ _ M F H q (Step.refl _ _ _) s ev ⟨rfl, fun _ _ => rfl⟩⟩
theorem xgs_cons {vs : List Nat} {d : D} {ds : List D} {Q : KG} (h : XG X e vs d ρ M fun ρ1 M1 => XGs X es vs ds ρ1 M1 Q)
    (hs : (assignEach (e :: es) X.env).map (·.2) = assign e X.env :: (assignEach es X.env).map (·.2) := by rfl) : XGs X (e :: es) vs (d :: ds) ρ M Q := fun F σ H xs s ev r hl R k => by
  cases r with
  | cons p q =>
    refine PGs.w (pgs_cons pg_w pgs_w hs) ⟨_, _, rfl, ?_⟩
    refine h F σ H _ s ev p hl _ fun σ' ρ' M' F' H' q' st s' ev' hw => ?_
    refine q' F' σ' H' _ s' ev' (q.mono st.ex.le) (hw.1.trans hl) R fun σ2 ρ2 M2 F2 H2 q2 st2 s2 ev2 hw2 => ?_
    exact k σ2 ρ2 M2 F2 H2 q2 (st.trans st2) s2 ev2 ⟨hw2.1.trans hw.1, fun j hj => (hw2.2 j hj).trans (hw.2 j hj)⟩
theorem xg_tup {vs : List Nat} {ds : List D} {kk : Nat} {Q : KG} (h : XGs X es vs ds ρ M Q) (hc : X.calm = true := by rfl) (hn : (assignEach es X.env).length = ds.length := by rfl) (hst : (assignEach es X.env).findIdx? (·.1) = none := by rfl) :
    XG X (.Tuple es kk pos) vs (.tup ds) ρ M Q := fun F σ H v s ev r hl R k => by
  obtain ⟨a, xs, rfl, e1, ra⟩ := tup_get s r
  exact PG.w (pg_tup hc pgs_w hn hst) ⟨a, xs, rfl, SqT.of e1, ra.length, h F σ H xs s ev ra hl R k⟩
theorem XG.mono {vs : List Nat} {d : D} {Q Q' : KG} (h : XG X e vs d ρ M Q) (hq : ∀ ρ' M', Q ρ' M' → Q' ρ' M') : XG X e vs d ρ M Q' := fun F σ H v s ev r hl R k => h F σ H v s ev r hl R fun σ' ρ' M' F' H' q => k σ' ρ' M' F' H' (hq ρ' M' q)

/-! ### blocks, small statements -/
theorem xss_nil (q : E.nx ρ M) : XSs X [] ρ M E := fun F σ H s ev hl D k => PSs.w pss_nil (show D.nx σ H from k.nx ρ M F σ H q (Step.refl _ _ _) s ev hl)
theorem xss_cons (h : XS X st ρ M { E with nx := fun ρ1 M1 => XSs X sts ρ1 M1 E }) : XSs X (st :: sts) ρ M E := fun F σ H s ev hl D k =>
  PSs.w (pss_cons ps_w pss_w) (h F σ H s ev hl { D with nx := wSs X sts D } ⟨fun ρ' M' F' σ' H' q st' s' ev' hl' => q F' σ' H' s' ev' hl' D (k.step st'), k.rt, k.bk, k.ct⟩)
theorem xss_one (h : XS X st ρ M E) : XSs X [st] ρ M E := fun F σ H s ev hl D k => PSs.w (pss_one ps_w) (h F σ H s ev hl D k)
theorem XS.mono {E' : EndsD} (h : XS X st ρ M E) (h1 : ∀ ρ' M', E.nx ρ' M' → E'.nx ρ' M') (h2 : ∀ d M', E.rt d M' → E'.rt d M') (h3 : ∀ ρ' M', E.bk ρ' M' → E'.bk ρ' M') (h4 : ∀ ρ' M', E.ct ρ' M' → E'.ct ρ' M') : XS X st ρ M E' := fun F σ H s ev hl D k =>
  h F σ H s ev hl D ⟨fun ρ' M' F' σ' H' q => k.nx ρ' M' F' σ' H' (h1 _ _ q), fun v d M' F' H' q => k.rt v d M' F' H' (h2 _ _ q), fun ρ' M' F' σ' H' q => k.bk ρ' M' F' σ' H' (h3 _ _ q), fun ρ' M' F' σ' H' q => k.ct ρ' M' F' σ' H' (h4 _ _ q)⟩
theorem xs_pass (q : E.nx ρ M) : XS X (.Pass pos) ρ M E := fun F σ H s ev hl D k => PS.w ps_pass (show D.nx σ H from k.nx ρ M F σ H q (Step.refl _ _ _) s ev hl)
theorem xs_ret (h : XE X e ρ M E.rt) : XS X (.Return (some e) pos) ρ M E := fun F σ H s ev hl D k => PS.w (ps_ret pe_w) (h F σ H s ev _ k.rt)
theorem xs_expr (h : XE X e ρ M fun _ M1 => E.nx ρ M1) (hs : swapsWith e none pos.line X.env = pure false := by rfl) : XS X (.Expr e pos) ρ M E := fun F σ H s ev hl D k =>
  PS.w (ps_expr pe_w hs) (h F σ H s ev _ fun v d M' F' H' q st' s' r => k.nx ρ M' F' σ H' q st' s' (ev.mono st'.ex) hl)
theorem xs_if {t f : List Stmt} (h : XT X c ρ M fun z M1 => (z = true → XSs X t ρ M1 E) ∧ (z = false → XSs X f ρ M1 E)) : XS X (.If c t f pos) ρ M E := fun F σ H s ev hl D k =>
  PS.w (ps_if pt_w pss_w pss_w) (h F σ H s ev _ fun z M' F' H' q st' s' => b_ite (fun hz => q.1 hz F' σ H' s' (ev.mono st'.ex) hl D (k.step st')) fun hz => q.2 hz F' σ H' s' (ev.mono st'.ex) hl D (k.step st'))
/-- a statement that is never reached -/
theorem xs_never (h : False) : XS X st ρ M E := h.elim
/-- x = e -/
theorem xs_set (i : Nat) {x : Str} {pos' : Pos} (h : XE X e ρ M fun d M1 => E.nx (ρ.set i (some d)) M1) (hN : X.N.Nodup := by assumption) (hi : X.N[i]? = some x := by rfl) (hx : Loc X.env.scope x := by first | exact Or.inl rfl | exact Or.inr rfl)
    (hs : swapsWith e (some (.Name x pos')) pos.line X.env = pure false := by rfl) (hf : X.fn x = true ∨ X.env.scope.names.lookup x = some .local := by first | exact .inl rfl | exact .inr rfl) : XS X (.Assign [.Name x pos'] e pos) ρ M E := fun F σ H s ev hl D k => by
  have hi' : i < σ.length := by rw [hl]; exact (List.getElem?_eq_some_iff.mp hi).1
  exact PS.w (ps_set hN hi hx pe_w hs hf) (h F σ H s ev _ fun v d M' F' H' q st' s' r => k.nx _ M' F' _ H' q st' s' ((ev.mono st'.ex).set hi' r) (by simpa using hl))
/-- a target = e -/
theorem xs_asg (vs : List Nat) {tg : Expr} (h : XE X e ρ M fun d M1 => XG X tg vs d ρ M1 E.nx) (hs : swapsWithSole [tg] e pos.line X.env = pure false := by rfl) (hw : swappedStores [tg] e X.env = pure none := by rfl)
    (h1 : (assignEach [tg] X.env).map (·.2) = [assign tg X.env] := by rfl) : XS X (.Assign [tg] e pos) ρ M E := fun F σ H s ev hl D k =>
  PS.w (ps_asg pe_w pg_w hs hw h1) (h F σ H s ev _ fun v d M' F' H' q st' s' r => q F' σ H' v s' (ev.mono st'.ex) r hl _ fun σ2 ρ2 M2 F2 H2 q2 st2 s2 ev2 hw2 => k.nx ρ2 M2 F2 σ2 H2 q2 (st'.trans st2) s2 ev2 (hw2.1.trans hl))
/-- x, y = a, b (plain locals); three of them -/
theorem xs_par (i j : Nat) {x y : Str} {px py pt : Pos} {kt k2 pt2} (h : XA X [a, b] ρ M fun ds M1 => ∃ d1 d2, ds = [d1, d2] ∧ E.nx ((ρ.set i (some d1)).set j (some d2)) M1) (hc : X.calm = true := by rfl) (hN : X.N.Nodup := by assumption) (hi : X.N[i]? = some x := by rfl) (hj : X.N[j]? = some y := by rfl) (hij : i ≠ j := by decide)
    (hx : X.env.scope.names.lookup x = some .local := by rfl) (hy : X.env.scope.names.lookup y = some .local := by rfl) (hw : swappedStores [.Tuple [.Name x px, .Name y py] kt pt] (.Tuple [a, b] k2 pt2) X.env = pure (some [x, y]) := by rfl)
    (hs : swapsWithSole [.Tuple [.Name x px, .Name y py] kt pt] (.Tuple [a, b] k2 pt2) pos.line X.env = pure false := by rfl) : XS X (.Assign [.Tuple [.Name x px, .Name y py] kt pt] (.Tuple [a, b] k2 pt2) pos) ρ M E := fun F σ H s ev hl D k => by
  have hi' : i < σ.length := by rw [hl]; exact (List.getElem?_eq_some_iff.mp hi).1
  have hj' : j < σ.length := by rw [hl]; exact (List.getElem?_eq_some_iff.mp hj).1
  refine PS.w (ps_par hc hN hi hj hij hx hy pa_w hw hs) (h F σ H s ev _ fun vs ds M' F' H' q st' s' r => ?_)
  obtain ⟨d1, d2, rfl, q⟩ := q
  cases r with
  | cons r1 r =>
    cases r with
    | cons r2 r =>
      cases r
      exact ⟨_, _, rfl, k.nx _ M' F' _ H' q st' s' (((ev.mono st'.ex).set hi' r1).set (by simpa using hj') r2) (by simpa using hl)⟩
theorem xs_par3 (i j l : Nat) {x y z : Str} {c : Expr} {px py pz pt : Pos} {kt k2 pt2} (h : XA X [a, b, c] ρ M fun ds M1 => ∃ d1 d2 d3, ds = [d1, d2, d3] ∧ E.nx (((ρ.set i (some d1)).set j (some d2)).set l (some d3)) M1) (hc : X.calm = true := by rfl) (hN : X.N.Nodup := by assumption) (hi : X.N[i]? = some x := by rfl) (hj : X.N[j]? = some y := by rfl) (hl' : X.N[l]? = some z := by rfl)
    (hij : i ≠ j := by decide) (hil : i ≠ l := by decide) (hjl : j ≠ l := by decide)
    (hx : X.env.scope.names.lookup x = some .local := by rfl) (hy : X.env.scope.names.lookup y = some .local := by rfl) (hz : X.env.scope.names.lookup z = some .local := by rfl)
    (hw : swappedStores [.Tuple [.Name x px, .Name y py, .Name z pz] kt pt] (.Tuple [a, b, c] k2 pt2) X.env = pure (some [x, y, z]) := by rfl)
    (hs : swapsWithSole [.Tuple [.Name x px, .Name y py, .Name z pz] kt pt] (.Tuple [a, b, c] k2 pt2) pos.line X.env = pure false := by rfl) : XS X (.Assign [.Tuple [.Name x px, .Name y py, .Name z pz] kt pt] (.Tuple [a, b, c] k2 pt2) pos) ρ M E := fun F σ H s ev hl D k => by
  have hi' : i < σ.length := by rw [hl]; exact (List.getElem?_eq_some_iff.mp hi).1
  have hj' : j < σ.length := by rw [hl]; exact (List.getElem?_eq_some_iff.mp hj).1
  have hk' : l < σ.length := by rw [hl]; exact (List.getElem?_eq_some_iff.mp hl').1
  refine PS.w (ps_par3 hc hN hi hj hl' hij hil hjl hx hy hz pa_w hw hs) (h F σ H s ev _ fun vs ds M' F' H' q st' s' r => ?_)
  obtain ⟨d1, d2, d3, rfl, q⟩ := q
  cases r with
  | cons r1 r =>
    cases r with
    | cons r2 r =>
      cases r with
      | cons r3 r =>
        cases r
        exact ⟨_, _, _, rfl, k.nx _ M' F' _ H' q st' s' ((((ev.mono st'.ex).set hi' r1).set (by simpa using hj') r2).set (by simpa using hk') r3) (by simpa using hl)⟩
/-! o[i] = v -/
def wSet (X : Cx) (o i v : V) (H : Hp) (R : Hp → Prop) : Prop := ∀ (pins : List (Addr × Obj)) (s : Shared) (σ : L2.St) (ov iv u : Value), Inv X pins σ H s → RelV o ov → RelV i iv → RelV v u → wpAny (model X.prog X.w) X.A (setItem ov iv u) (fun _ s' => ∃ H', Inv X pins σ H' s' ∧ R H') X.xe s
theorem set_w : PSet X (wSet X) := fun pins s σ H o i v ov iv u Q I ro ri rv h => h pins s σ ov iv u I ro ri rv
def SetD (X : Cx) (d1 d2 d : D) (M : Mem) (Q : Mem → Prop) : Prop := ∀ F H x y z, S0 F H M → Rp F x d1 → Rp F y d2 → Rp F z d → ∀ R : Hp → Prop, (∀ M' F' H', Q M' → Step F H M F' H' M' → S0 F' H' M' → R H') → wSet X x y z H R
theorem xg_sub {vs : List Nat} {d : D} {Q : KG} (h : XE X a ρ M fun d1 M1 => XE X b ρ M1 fun d2 M2 => SetD X d1 d2 d M2 fun M3 => Q ρ M3)
    (ha : ∀ v, assign (.Subscript a b pos) X.env v = (do
      let ov ← holding [v] (eval a X.env)
      let iv ← holding [v, ov] (eval b X.env)
      standAt pos
      holding [v, ov, iv] (setItem ov iv v)
      release [v, ov, iv] []) := by intro _; rfl) : XG X (.Subscript a b pos) vs d ρ M Q := fun F σ H v s ev r hl R k =>
  PG.w (pg_sub pe_w pe_w set_w ha) (h F σ H s ev _ fun x d1 M1 F1 H1 q st s1 r1 => q F1 σ H1 s1 (ev.mono st.ex) _ fun y d2 M2 F2 H2 q2 st2 s2 r2 =>
    q2 F2 H2 x y v s2 (r1.mono st2.ex.le) r2 (r.mono (st.trans st2).ex.le) _ fun M3 F3 H3 q3 st3 s3 => k σ ρ M3 F3 H3 q3 ((st.trans st2).trans st3) s3 (ev.mono ((st.trans st2).trans st3).ex) ⟨rfl, fun _ _ => rfl⟩)
theorem sd_dct (i : Nat) {a : Addr} {kds : List (Key × D)} {k : Key} {y : V} {d : D} {Q : Mem → Prop} (hm : M[i]? = some (a, .dct kds)) (hu : X.A.units + 1 < cLine) (hy : y = kV k) (hz : kds.length < 100000) (q : Q (M.set i (a, .dct (putD kds k d)))) : SetD X (.v (.ref a)) (.v y) d M Q := fun F H x y' z s r1 r2 r R kk => by
  cases r1; cases r2
  subst hy
  obtain ⟨hF, kvs, e, rk⟩ := s.at hm
  refine fun pins s0 σ ov iv u I ro ri rv => ?_
  obtain rfl : ov = Value.ref a := ro
  refine d_setItem hu I (DPut.k e (by rw [rk.length]; exact sz_lt hz)) ri rv fun s3 I3 => ⟨_, I3, ?_⟩
  obtain ⟨s2, st2⟩ := s.write (m := .dct (putD kds k d)) (u := .dK (putK kvs k z)) hm ⟨_, upd_same, rk.put k r⟩
  exact kk _ _ _ q st2 s2
/-! o.f = v on an object that is being made -/
theorem xs_fld (i : Nat) {f : Str} {pos' : Pos} (h : XE X e ρ M fun d M1 => XE X a ρ M1 fun d1 M2 => ∃ a' C dx ns ds, d1 = .v (.ref a') ∧ M2[i]? = some (a', .ins C dx ns ds) ∧ Cls X.K C ∧ NoAttr X.K C f ∧ f ∉ ns ∧ ns.length < 100 ∧ E.nx ρ (M2.set i (a', .ins C dx (ns ++ [f]) (ds ++ [d]))))
    (hs : swapsWith e (some (.Attribute a f pos')) pos.line X.env = pure false := by rfl) : XS X (.Assign [.Attribute a f pos'] e pos) ρ M E := fun F σ H s ev hl D k => by
  refine PS.w (ps_fld pe_w pe_w hs) (h F σ H s ev _ fun v d M1 F1 H1 q st s1 r1 => q F1 σ H1 s1 (ev.mono st.ex) _ fun o d1 M2 F2 H2 q2 st2 s2 r2 => ?_)
  obtain ⟨a', C, dx, ns, ds, rfl, hm, c, n, nf, hln, q⟩ := q2
  cases r2
  obtain ⟨hF, xs, e2, ra, hlen⟩ := s2.at hm
  have hzl : ns.length = xs.length := hlen.trans ra.length.symm
  have hput : ∀ (ns : List Str) (xs : List V), ns.length = xs.length → f ∉ ns → putF f v (ns.zip xs) = (ns ++ [f]).zip (xs ++ [v]) := by
    intro ns
    induction ns with
    | nil => intro xs h1 _; cases xs with | nil => rfl | cons _ _ => cases h1
    | cons n ns ih =>
      intro xs h1 h2
      cases xs with
      | nil => cases h1
      | cons x xs =>
        show (if n = f then _ else (n, x) :: putF f v (ns.zip xs)) = (n, x) :: ((ns ++ [f]).zip (xs ++ [v]))
        rw [if_neg (fun z => h2 (by rw [z]; exact List.mem_cons_self)), ih xs (by simpa using h1) (fun z => h2 (List.mem_cons_of_mem _ z))]
  refine ⟨a', C, dx, _, rfl, e2, c, n, by rw [List.length_zip]; omega, ?_⟩
  obtain ⟨s3, st3⟩ := s2.write (m := .ins C dx (ns ++ [f]) (ds ++ [d])) (u := .ins C dx (putF f v (ns.zip xs))) hm ⟨xs ++ [v], by rw [hput ns xs hzl nf]; exact upd_same, ra.append (.one (r1.mono st2.ex.le)), by simp [hlen]⟩
  exact k.nx ρ _ F2 σ _ q ((st.trans st2).trans st3) s3 (ev.mono (st.trans st2).ex) hl
/-! e.f -/
def SeesO (M : Mem) (d : D) (C : Addr) (ns : List Str) (ds : List D) : Prop := d = .obj C ns ds ∨ ∃ (k : Nat) (a dx : Addr), d = .v (.ref a) ∧ M[k]? = some (a, MO.ins C dx ns ds)
theorem SeesO.of {C : Addr} {ns : List Str} {ds : List D} : SeesO M (.obj C ns ds) C ns ds := Or.inl rfl
theorem SeesO.m (k : Nat) {a C dx : Addr} {ns : List Str} {ds : List D} (h : M[k]? = some (a, MO.ins C dx ns ds)) : SeesO M (.v (.ref a)) C ns ds := Or.inr ⟨k, a, dx, rfl, h⟩
theorem SeesO.get {F H : Hp} {v : V} {d : D} {C : Addr} {ns : List Str} {ds : List D} (h : SeesO M d C ns ds) (s : S0 F H M) (r : Rp F v d) : ∃ a dx xs, v = .ref a ∧ H a = some (.ins C dx (ns.zip xs)) ∧ RpA F xs ds := by
  rcases h with rfl | ⟨k, a, dx, rfl, e⟩
  · cases r with | obj e q => exact ⟨_, _, _, rfl, s.le.ins e, q⟩
  · cases r
    obtain ⟨_, xs, e2, q, _⟩ := s.at e
    exact ⟨a, dx, xs, rfl, e2, q⟩
theorem lookup_zip {ns : List Str} {xs : List V} (nd : ns.Nodup) {j : Nat} {f : Str} {x : V} (h1 : ns[j]? = some f) (h2 : xs[j]? = some x) : (ns.zip xs).lookup f = some x := by
  induction ns generalizing xs j with
  | nil => simp at h1
  | cons n ns ih =>
    cases xs with
    | nil => simp at h2
    | cons y xs =>
      rw [List.nodup_cons] at nd
      rw [List.zip_cons_cons, List.lookup_cons]
      cases j with
      | zero => simp at h1 h2; subst h1 h2; simp
      | succ j =>
        have h1' : ns[j]? = some f := by simpa using h1
        have hne : (f == n) = false := by
          rw [beq_eq_false_iff_ne]
          rintro rfl
          exact nd.1 (List.mem_of_getElem? h1')
        rw [hne]
        exact ih nd.2 h1' (by simpa using h2)
theorem lookup_zip_none {ns : List Str} {xs : List V} {f : Str} (h : f ∉ ns) : (ns.zip xs).lookup f = none := by
  induction ns generalizing xs with
  | nil => rfl
  | cons n ns ih =>
    cases xs with
    | nil => rfl
    | cons y xs =>
      rw [List.zip_cons_cons, List.lookup_cons]
      have hne : (f == n) = false := by
        rw [beq_eq_false_iff_ne]
        rintro rfl
        exact h List.mem_cons_self
      rw [hne]
      exact ih fun z => h (List.mem_cons_of_mem _ z)
theorem xe_fld (j : Nat) {f : Str} (h : XE X e ρ M fun d1 M1 => ∃ C ns ds d, SeesO M1 d1 C ns ds ∧ Cls X.K C ∧ NoAttr X.K C f ∧ ns.Nodup ∧ ns[j]? = some f ∧ ds[j]? = some d ∧ Q d M1)
    (hb : attributeBase e f X.env (eval e X.env) = eval e X.env := by rfl) : XE X (.Attribute e f pos) ρ M Q := fun F σ H s ev R k => by
  refine PE.w (pe_fld pe_w hb) (h F σ H s ev _ fun v d1 M1 F1 H1 q st s1 r => ?_)
  obtain ⟨C, ns, ds, d, so, c, n, nd, hn, hd, q⟩ := q
  obtain ⟨p, dx, xs, rfl, e1, ra⟩ := so.get s1 r
  obtain ⟨x, hx, rx⟩ := ra.get hd
  exact ⟨p, C, dx, _, x, rfl, e1, c, n, lookup_zip nd hn hx, k x d M1 F1 H1 q st s1 rx⟩

/-! ### builtins by values -/
def wCall (X : Cx) (f : Value) (xs : List V) (H : Hp) (R : VK) : Prop := ∀ (pins : List (Addr × Obj)) (s : Shared) (σ : L2.St) (us : List Value), Inv X pins σ H s → Vals xs us → wpAny (model X.prog X.w) X.A (call f us) (EP X pins σ R) X.xe s
theorem call_w {f : Value} : CallR X f (wCall X f) := fun pins s σ H xs us Q I r h => h pins s σ us I r
theorem CallR.w {f : Value} {r : List V → Hp → VK → Prop} (h : CallR X f r) {xs : List V} {H : Hp} {R : VK} (q : r xs H R) : wCall X f xs H R := fun pins s σ us I rx => h pins s σ H xs us R I rx q
def CallD (X : Cx) (f : Value) (ds : List D) (M : Mem) (Q : KE) : Prop := ∀ F H xs, S0 F H M → RpA F xs ds → ∀ R, Cont F H M Q R → wCall X f xs H R
theorem xe_callB {x : Str} {id : String} {p : Pos} (h : XA X (e :: es) ρ M fun ds M1 => CallD X (.builtin id) ds M1 Q) (hm : X.mg x = none) (hv : bootBuiltins x = some (.builtin id)) (hg : Gl X x := by rfl) (hn : x ≠ "__name__" := by decide) (hdb : (x == ("__debug__" : Str)) = false := by decide)
    (he : starEach (e :: es) X.env = (false, eval e X.env) :: starEach es X.env := by rfl) (hpl : (backTo pos (starEach es X.env)).any (·.1) = false := by rfl) : XE X (.Call (.Name x p) (e :: es) [] pos) ρ M Q := fun F σ H s ev R k =>
  PE.w (pe_callB call_w hg hm hv pa_w hn hdb he hpl) (h F σ H s ev _ fun vs ds M1 F1 H1 q st s1 r => q F1 H1 vs s1 r R (k.step st))
theorem xe_callT {x : Str} {T : String} {p : Pos} (h : XA X (e :: es) ρ M fun ds M1 => CallD X (.type T) ds M1 Q) (hm : X.mg x = none) (hv : bootBuiltins x = some (.type T)) (hg : Gl X x := by rfl) (hn : x ≠ "__name__" := by decide) (hdb : (x == ("__debug__" : Str)) = false := by decide)
    (he : starEach (e :: es) X.env = (false, eval e X.env) :: starEach es X.env := by rfl) (hpl : (backTo pos (starEach es X.env)).any (·.1) = false := by rfl) : XE X (.Call (.Name x p) (e :: es) [] pos) ρ M Q := fun F σ H s ev R k =>
  PE.w (pe_callTy call_w hg hm hv pa_w hn hdb he hpl) (h F σ H s ev _ fun vs ds M1 F1 H1 q st s1 r => q F1 H1 vs s1 r R (k.step st))
theorem cd_len {d1 : D} {ds : List D} (h : SeesL M d1 ds) (q : Q (.v (.int ds.length)) M) : CallD X (.builtin "len") [d1] M Q := fun F H xs s r R k => by
  cases r with
  | cons r1 r =>
    cases r
    obtain ⟨p, ys, rfl, e1, ra⟩ := h.get s r1
    exact CallR.w call_len_seq ⟨p, ys, rfl, .inl (SqL.of e1), by rw [ra.length]; exact k _ _ M F H q (Step.refl _ _ _) s (.v _)⟩
theorem cd_lenT {ds : List D} (q : Q (.v (.int ds.length)) M) : CallD X (.builtin "len") [.tup ds] M Q := fun F H xs s r R k => by
  cases r with
  | cons r1 r =>
    cases r
    obtain ⟨p, ys, rfl, e1, ra⟩ := tup_get s r1
    exact CallR.w call_len_seq ⟨p, ys, rfl, .inr (SqT.of e1), by rw [ra.length]; exact k _ _ M F H q (Step.refl _ _ _) s (.v _)⟩
theorem cd_lenS {z : Str} (hz : z.length ≤ 100000) (q : Q (.v (.int z.length)) M) : CallD X (.builtin "len") [.v (.str z)] M Q := fun F H xs s r R k => by
  cases r with
  | cons r1 r =>
    cases r; cases r1
    exact CallR.w call_len_str ⟨z, rfl, sz_ok hz, k _ _ M F H q (Step.refl _ _ _) s (.v _)⟩
/-- list(xs) of a list, tuple(xs) -/
theorem cd_tuple {d1 : D} {ds : List D} (h : SeesL M d1 ds) (q : Q (.tup ds) M) : CallD X (.type "tuple") [d1] M Q := fun F H xs s r R k => by
  cases r with
  | cons r1 r =>
    cases r
    obtain ⟨p, ys, rfl, e1, ra⟩ := h.get s r1
    refine CallR.w call_tuple_of ⟨p, ys, rfl, .inl ⟨SqL.of e1, fun l hl => ?_⟩⟩
    obtain ⟨s2, st2⟩ := s.new hl (.tup ys)
    exact k _ _ M _ _ q st2 s2 (.tup upd_same (ra.mono st2.ex.le))
theorem cd_listT {ds : List D} (q : Q (.lst ds) M) : CallD X (.type "list") [.tup ds] M Q := fun F H xs s r R k => by
  cases r with
  | cons r1 r =>
    cases r
    obtain ⟨p, ys, rfl, e1, ra⟩ := tup_get s r1
    refine CallR.w call_list_of ⟨p, ys, rfl, .inr (SqT.of e1), fun l hl => ?_⟩
    obtain ⟨s2, st2⟩ := s.new hl (.lst ys)
    exact k _ _ M _ _ q st2 s2 (.lst upd_same (ra.mono st2.ex.le))
theorem cd_intI {i : Int} (q : Q (.v (.int i)) M) : CallD X (.type "int") [.v (.int i)] M Q := fun F H xs s r R k => by
  cases r with
  | cons r1 r =>
    cases r; cases r1
    exact CallR.w call_int1 (.inl ⟨i, rfl, k _ _ M F H q (Step.refl _ _ _) s (.v _)⟩)
theorem cd_intB {b : Bool} (q : Q (.v (.int (b2i b))) M) : CallD X (.type "int") [.v (.bl b)] M Q := fun F H xs s r R k => by
  cases r with
  | cons r1 r =>
    cases r; cases r1
    exact CallR.w call_int1 (.inr ⟨b, rfl, k _ _ M F H q (Step.refl _ _ _) s (.v _)⟩)
theorem cd_min {d1 : D} {ns : List Int} (h : SeesL M d1 (ns.map fun i => D.v (.int i))) (hne : 0 < ns.length) (q : ∀ m, m ∈ ns → (∀ y, y ∈ ns → m ≤ y) → Q (.v (.int m)) M) (hc : X.calm = true := by rfl) : CallD X (.builtin "min") [d1] M Q := fun F H xs s r R k => by
  cases r with
  | cons r1 r =>
    cases r
    obtain ⟨p, ys, rfl, e1, ra⟩ := h.get s r1
    obtain rfl : ys = ns.map V.int := RpA.vs (by rw [List.map_map]; exact ra)
    exact CallR.w (cr_min hc) ⟨p, ns, rfl, SqL.of e1, hne, fun m h1 h2 => k _ _ M F H (q m h1 h2) (Step.refl _ _ _) s (.v _)⟩
theorem cd_any {d1 : D} {bs : List Bool} (h : SeesL M d1 (bs.map fun i => D.v (.bl i))) (q : Q (.v (.bl (bs.any id))) M) (hc : X.calm = true := by rfl) : CallD X (.builtin "any") [d1] M Q := fun F H xs s r R k => by
  cases r with
  | cons r1 r =>
    cases r
    obtain ⟨p, ys, rfl, e1, ra⟩ := h.get s r1
    obtain rfl : ys = bs.map V.bl := RpA.vs (by rw [List.map_map]; exact ra)
    exact CallR.w (cr_any hc) ⟨p, bs, rfl, SqL.of e1, k _ _ M F H q (Step.refl _ _ _) s (.v _)⟩
theorem cd_all {d1 : D} {bs : List Bool} (h : SeesL M d1 (bs.map fun i => D.v (.bl i))) (q : Q (.v (.bl (bs.all id))) M) (hc : X.calm = true := by rfl) : CallD X (.builtin "all") [d1] M Q := fun F H xs s r R k => by
  cases r with
  | cons r1 r =>
    cases r
    obtain ⟨p, ys, rfl, e1, ra⟩ := h.get s r1
    obtain rfl : ys = bs.map V.bl := RpA.vs (by rw [List.map_map]; exact ra)
    exact CallR.w (cr_all hc) ⟨p, bs, rfl, SqL.of e1, k _ _ M F H q (Step.refl _ _ _) s (.v _)⟩
/-! ### methods of lists and dicts -/
theorem xe_append (i : Nat) {apos cpos : Pos} (h : XE X a ρ M fun d1 M1 => ∃ l0, d1 = .v (.ref l0) ∧ (∃ (k : Nat) (ds0 : List D), M1[k]? = some (l0, MO.lst ds0)) ∧ XE X e ρ M1 fun d M2 => ∃ ds, M2[i]? = some (l0, .lst ds) ∧ ds.length < 100000 ∧ Q (.v .non) (M2.set i (l0, .lst (ds ++ [d]))))
    (hbase : attributeBase a "append" X.env (eval a X.env) = eval a X.env := by rfl)
    (hfew : ((backTo cpos (starEach [e] X.env)).all (fun x => !x.1) && (backToKw cpos (keywordEach [] X.env)).all (fun x => x.1.isSome)
      && decide (([e] : List Expr).length + ([] : List Keyword).length + (if ([] : List Keyword).isEmpty then 0 else 1) < 30)) = true := by rfl)
    (hline : (apos.endLine == cpos.line) = true := by rfl) (hs : starEach [e] X.env = (false, eval e X.env) :: starEach [] X.env := by rfl) (hplain : (backTo cpos (starEach [] X.env)).any (·.1) = false := by rfl) :
    XE X (.Call (.Attribute a "append" apos) [e] [] cpos) ρ M Q := fun F σ H s ev R k => by
  refine PE.w (pe_bm PySem.F.plainAttrs_list PySem.F.slot_list_append PySem.F.type_list_append mt_append pe_w (pa_cons pe_w pa_nil hs) hbase hfew hline hs hplain) (h F σ H s ev _ fun v d1 M1 F1 H1 q st s1 r1 => ?_)
  obtain ⟨l0, rfl, ⟨j, ds0, hm0⟩, q⟩ := q
  cases r1
  obtain ⟨_, xs0, e0, _⟩ := s1.at hm0
  refine ⟨.inl ⟨rfl, _, SqL.of e0⟩, q F1 σ H1 s1 (ev.mono st.ex) _ fun x d M2 F2 H2 q2 st2 s2 r2 => ?_⟩
  obtain ⟨ds, hm, hz, q2⟩ := q2
  obtain ⟨hF, xs, e2, ra⟩ := s2.at hm
  obtain ⟨s3, st3⟩ := s2.write (m := .lst (ds ++ [d])) (u := .lst (xs ++ [x])) hm ⟨_, upd_same, ra.append (.one r2)⟩
  exact ⟨l0, xs, x, rfl, rfl, e2, by rw [ra.length]; exact sz_lt hz, k _ _ _ _ _ q2 ((st.trans st2).trans st3) s3 (.v _)⟩
end
end Dl
end
section
set_option maxHeartbeats 2000000
/-! Dl4: what is walked, loops, comprehensions, calls of defs over data. -/
namespace Dl
open PySem PySem.Spec PyProof.Rows L2
section
variable {X : Cx} {e a b c : Expr} {es : List Expr} {st : Stmt} {sts body orelse : List Stmt} {ρ : Env} {M : Mem} {Q : KE} {E : EndsD} {pos : Pos} {tg : Expr}

/-! ### what is walked, by values -/
def wIt (X : Cx) (tg : Expr) (x : V) (H : Hp) (R : It → Hp → Prop) : Prop := ∀ (pins : List (Addr × Obj)) (s : Shared) (σ : L2.St) (v : Value), Inv X pins σ H s → RelV x v → wpAny (model X.prog X.w) X.A (pyIter v) (PIE X pins σ tg R) X.xe s
def ItD (X : Cx) (tg : Expr) (d : D) (M : Mem) (Q : KI) : Prop := ∀ F H x, S0 F H M → Rp F x d → ∀ R : It → Hp → Prop,
  (∀ J ds ok M' F' H', Q ds ok M' → Step F H M F' H' M' → S0 F' H' M' → Src J F' ok ds → R J H') → wIt X tg x H R
theorem xi_val {Q : KI} (h : XE X e ρ M fun d M1 => ItD X tg d M1 Q) : XI X tg e ρ M Q := fun F σ H s ev R k => by
  intro pins s0 I
  refine thn (PE.run (pe_w (X := X) (e := e)) pins s0 σ H _ I (h F σ H s ev (fun x H' => wIt X tg x H' R) fun v d M1 F1 H1 q st s1 r => q F1 H1 v s1 r R fun J ds ok M' F' H' q' st' => k J ds ok M' F' H' q' (st.trans st'))) fun u s1 ⟨x, H1, I1, r1, q1⟩ => ?_
  exact q1 pins s1 σ u I1 r1
theorem src_lst {K : PySem.W.Frag} {F : Hp} {a : Addr} {ds : List D} {ok : Mem → Prop} (h : ∀ F' H M, Ex F F' → S0 F' H M → ok M → ∃ xs, H a = some (.lst xs) ∧ RpA F' xs ds) : Src (Itl K a) F ok ds where
  go := fun i F' H M e s o hi => by
    obtain ⟨xs, q, r⟩ := h F' H M e s o
    exact ⟨xs, xs[i]'(by rw [r.length]; exact hi), SqL.of q, by simp⟩
  stop := fun i F' H M e s o hi => by
    obtain ⟨xs, q, r⟩ := h F' H M e s o
    exact ⟨xs, SqL.of q, by rw [r.length]; exact hi⟩
  yld := fun i d x F' H H' M e s o hd y => by
    obtain ⟨xs, q, r⟩ := h F' H M e s o
    obtain ⟨rfl, y⟩ := y
    obtain ⟨x', h1, r'⟩ := r.get hd
    have := y xs (SqL.of q)
    rw [h1] at this
    cases this
    exact ⟨F', s, Step.refl _ _ _, r'⟩
theorem src_tup {K : PySem.W.Frag} {F : Hp} {a : Addr} {ds : List D} {ok : Mem → Prop} (h : ∀ F' H M, Ex F F' → S0 F' H M → ok M → ∃ xs, H a = some (.tup xs) ∧ RpA F' xs ds) : Src (Itt K a) F ok ds where
  go := fun i F' H M e s o hi => by
    obtain ⟨xs, q, r⟩ := h F' H M e s o
    exact ⟨xs, xs[i]'(by rw [r.length]; exact hi), SqT.of q, by simp⟩
  stop := fun i F' H M e s o hi => by
    obtain ⟨xs, q, r⟩ := h F' H M e s o
    exact ⟨xs, SqT.of q, by rw [r.length]; exact hi⟩
  yld := fun i d x F' H H' M e s o hd y => by
    obtain ⟨xs, q, r⟩ := h F' H M e s o
    obtain ⟨rfl, y⟩ := y
    obtain ⟨x', h1, r'⟩ := r.get hd
    have := y xs (SqT.of q)
    rw [h1] at this
    cases this
    exact ⟨F', s, Step.refl _ _ _, r'⟩
theorem it_list {R : It → Hp → Prop} {p : Addr} {xs : List V} {H : Hp} (e : H p = some (.lst xs)) (q : R (Itl X.K p) H) : wIt X tg (.ref p) H R := fun pins s1 σ v I1 r1 => by
  obtain rfl : v = Value.ref p := r1
  obtain ⟨its, rv, pl, hz⟩ := I1.list (SqL.of e)
  refine wpAny_pyIter_list pl.isList ?_
  refine ⟨s1.heap.objs.size, [s1.heap.objs.size], _, _, H, rfl, I1.kept (t' := s1.toks) fun b o e => Heap.get?_push_of_some _ e, turn_list p _, ⟨_, Heap.get?_push_size _ rfl, rfl, rfl⟩, fun b hb => ?_, q⟩
  have e : b = s1.heap.objs.size := by simpa using hb
  subst e
  exact I1.fpOk (Nat.le_refl _) (I1.hok.fresh (Nat.le_refl _))
theorem it_tuple {R : It → Hp → Prop} {p : Addr} {xs : List V} {H : Hp} (e : H p = some (.tup xs)) (q : R (Itt X.K p) H) : wIt X tg (.ref p) H R := fun pins s1 σ v I1 r1 => by
  obtain rfl : v = Value.ref p := r1
  obtain ⟨its, rv, pl, hz⟩ := I1.tuple (SqT.of e)
  refine wpAny_pyIter_tuple (show s1.heap.IsTuple p its.toArray from pl) ?_
  refine ⟨s1.heap.objs.size, [s1.heap.objs.size], _, _, H, rfl, I1.kept (t' := s1.toks) fun b o e => Heap.get?_push_of_some _ e, turn_tuple p _, ⟨_, Heap.get?_push_size _ rfl, rfl, rfl⟩, fun b hb => ?_, q⟩
  have e : b = s1.heap.objs.size := by simpa using hb
  subst e
  exact I1.fpOk (Nat.le_refl _) (I1.hok.fresh (Nat.le_refl _))
theorem idt_lst {ds : List D} {Q : KI} (q : Q ds (fun _ => True) M) : ItD X tg (.lst ds) M Q := fun F H x s r R k => by
  cases r with
  | lst e ra =>
    exact it_list (s.le.lst e) (k _ _ _ M F H q (Step.refl _ _ _) s (src_lst fun F' H' M' ex s' _ => ⟨_, s'.le.lst (ex _ _ e), ra.mono ex.le⟩))
theorem idt_tup {ds : List D} {Q : KI} (q : Q ds (fun _ => True) M) : ItD X tg (.tup ds) M Q := fun F H x s r R k => by
  cases r with
  | tup e ra =>
    exact it_tuple (s.le.tup e) (k _ _ _ M F H q (Step.refl _ _ _) s (src_tup fun F' H' M' ex s' _ => ⟨_, s'.le.tup (ex _ _ e), ra.mono ex.le⟩))
/-- a list that may be changed: as long as it is not -/
theorem idt_mut (i : Nat) {l : Addr} {ds : List D} {Q : KI} (hm : M[i]? = some (l, .lst ds)) (q : Q ds (fun M' => (l, MO.lst ds) ∈ M') M) : ItD X tg (.v (.ref l)) M Q := fun F H x s r R k => by
  cases r
  obtain ⟨_, xs, e, ra⟩ := s.at hm
  exact it_list e (k _ _ _ M F H q (Step.refl _ _ _) s (src_lst fun F' H' M' ex s' o => (s'.mem _ o).2))
/-- range(n), range(a, b) -/
theorem src_range {F : Hp} {lo : Int} {n : Nat} : Src (Itr lo n) F (fun _ => True) ((List.range n).map fun (i : Nat) => D.v (.int (lo + (i : Int)))) where
  go := fun i F' H M e s o hi => by
    show i < n
    simpa using hi
  stop := fun i F' H M e s o hi => by
    show n ≤ i
    simpa using hi
  yld := fun i d x F' H H' M e s o hd y => by
    obtain ⟨rfl, rfl⟩ := y
    rw [List.getElem?_map] at hd
    by_cases hi : i < n
    · rw [List.getElem?_range hi] at hd
      cases hd
      exact ⟨F', s, Step.refl _ _ _, .v _⟩
    · rw [List.getElem?_eq_none (by simpa using hi)] at hd
      cases hd
theorem xi_range1 {p : Pos} {Q : KI} (h : XA X [a] ρ M fun ds M1 => ∃ n : Int, ds = [.v (.int n)] ∧ n ≤ 100000 ∧ -100000 ≤ n ∧ Q ((List.range n.toNat).map fun (i : Nat) => D.v (.int (0 + (i : Int)))) (fun _ => True) M1) (hm : X.mg "range" = none) (hg : Gl X "range" := by rfl) (hs : starEach [a] X.env = [(false, eval a X.env)] := by rfl) :
    XI X tg (.Call (.Name "range" p) [a] [] pos) ρ M Q := fun F σ H s ev R k => by
  refine PI.w (pi_range1 hg hm pa_w hs) (h F σ H s ev _ fun vs ds M1 F1 H1 q st s1 r => ?_)
  obtain ⟨n, rfl, h1, h2, q⟩ := q
  cases r with
  | cons r1 r =>
    cases r; cases r1
    exact ⟨n, rfl, by omega, by omega, k _ _ _ M1 F1 H1 q st s1 src_range⟩
theorem xi_range2 {p : Pos} {Q : KI} (h : XA X [a, b] ρ M fun ds M1 => ∃ lo n : Int, ds = [.v (.int lo), .v (.int n)] ∧ (lo ≤ 100000 ∧ -100000 ≤ lo ∧ n ≤ 100000 ∧ -100000 ≤ n) ∧ Q ((List.range (n - lo).toNat).map fun (i : Nat) => D.v (.int (lo + (i : Int)))) (fun _ => True) M1) (hm : X.mg "range" = none) (hg : Gl X "range" := by rfl) (hs : starEach [a, b] X.env = [(false, eval a X.env), (false, eval b X.env)] := by rfl) (hs2 : starEach [b] X.env = [(false, eval b X.env)] := by rfl) :
    XI X tg (.Call (.Name "range" p) [a, b] [] pos) ρ M Q := fun F σ H s ev R k => by
  refine PI.w (pi_range2 hg hm pa_w hs hs2) (h F σ H s ev _ fun vs ds M1 F1 H1 q st s1 r => ?_)
  obtain ⟨lo, n, rfl, h1, q⟩ := q
  cases r with
  | cons r1 r =>
    cases r with
    | cons r2 r =>
      cases r; cases r1; cases r2
      exact ⟨lo, n, rfl, by omega, k _ _ _ M1 F1 H1 q st s1 src_range⟩
/-- a text, sign by sign -/
theorem idt_str {z : Str} {Q : KI} (q : Q (z.cps.toList.map fun c => D.v (.str ⟨#[c]⟩)) (fun _ => True) M) : ItD X tg (.v (.str z)) M Q := fun F H x s r R k => by
  cases r
  intro pins s1 σ v I1 r1
  obtain ⟨t, rfl⟩ := r1
  have src : Src (Its z) F (fun _ => True) (z.cps.toList.map fun c => D.v (.str ⟨#[c]⟩)) :=
    ⟨fun i F' H M e s o hi => by simpa [Its] using hi, fun i F' H M e s o hi => by simpa [Its] using hi, fun i d x F' H H' M e s o hd y => by
      obtain ⟨rfl, c, hc, rfl⟩ := y
      rw [List.getElem?_map, Array.getElem?_toList, hc] at hd
      cases hd
      exact ⟨F', s, Step.refl _ _ _, .v _⟩⟩
  have fin := k _ _ _ M F H q (Step.refl _ _ _) s src
  cases ha : z.cps.all (· < 128)
  · exact wpAny_pyIter_wide ha (pi_one (tk := s1.toks) I1 _ (turn_str _ z t "str_iterator" (.inr rfl)) ⟨_, Heap.get?_push_size _ rfl, rfl, rfl⟩ fin)
  · exact wpAny_pyIter_ascii ha (pi_one (tk := s1.toks) I1 _ (turn_str _ z t "str_ascii_iterator" (.inl rfl)) ⟨_, Heap.get?_push_size _ rfl, rfl, rfl⟩ fin)
/-- enumerate(list) -/
theorem src_enum {K : PySem.W.Frag} {F : Hp} {a : Addr} {ds : List D} {ok : Mem → Prop} (h : ∀ F' H M, Ex F F' → S0 F' H M → ok M → ∃ xs, H a = some (.lst xs) ∧ RpA F' xs ds) : Src (Ite K a) F ok (ds.mapIdx fun i d => .tup [.v (.int (i : Nat)), d]) where
  go := fun i F' H M e s o hi => by
    obtain ⟨xs, q, r⟩ := h F' H M e s o
    exact ⟨xs, xs[i]'(by rw [r.length]; simpa using hi), SqL.of q, by simp⟩
  stop := fun i F' H M e s o hi => by
    obtain ⟨xs, q, r⟩ := h F' H M e s o
    exact ⟨xs, SqL.of q, by rw [r.length]; simpa using hi⟩
  yld := fun i d x F' H H' M e s o hd y => by
    obtain ⟨xs, q, r⟩ := h F' H M e s o
    obtain ⟨T, x1, rfl, hT, rfl, y⟩ := y
    rw [List.getElem?_mapIdx] at hd
    cases hq : ds[i]? with
    | none => rw [hq] at hd; cases hd
    | some d1 =>
      rw [hq] at hd
      cases hd
      obtain ⟨x', h1, r'⟩ := r.get hq
      have := y xs (SqL.of q)
      rw [h1] at this
      cases this
      obtain ⟨s2, st2⟩ := s.new hT (.tup [.int (i : Nat), x1])
      exact ⟨_, s2, st2, .tup upd_same (.cons (.v _) (.cons (r'.mono st2.ex.le) .nil))⟩
theorem xi_enum {p tpos : Pos} {elts : List Expr} {kk : Nat} {Q : KI} (h : XA X [a] ρ M fun ds M1 => ∃ d1 ds1, ds = [d1] ∧ ((d1 = .lst ds1 ∧ Q (ds1.mapIdx fun i d => .tup [.v (.int (i : Nat)), d]) (fun _ => True) M1) ∨ ∃ (i : Nat) (l : Addr), d1 = .v (.ref l) ∧ M1[i]? = some (l, MO.lst ds1) ∧ Q (ds1.mapIdx fun i d => .tup [.v (.int (i : Nat)), d]) (fun M' => (l, MO.lst ds1) ∈ M') M1))
    (hm : X.mg "enumerate" = none) (hg : Gl X "enumerate" := by rfl) (hs : starEach [a] X.env = [(false, eval a X.env)] := by rfl) :
    XI X (.Tuple elts kk tpos) (.Call (.Name "enumerate" p) [a] [] pos) ρ M Q := fun F σ H s ev R k => by
  refine PI.w (pi_enum hg hm pa_w hs) (h F σ H s ev _ fun vs ds M1 F1 H1 q st s1 r => ?_)
  obtain ⟨d1, ds1, rfl, q⟩ := q
  cases r with
  | cons r1 r =>
    cases r
    rcases q with ⟨rfl, q⟩ | ⟨i, l, rfl, hm1, q⟩
    · cases r1 with
      | lst e ra => exact ⟨_, _, rfl, SqL.of (s1.le.lst e), k _ _ _ M1 F1 H1 q st s1 (src_enum fun F' H' M' ex s' _ => ⟨_, s'.le.lst (ex _ _ e), ra.mono ex.le⟩)⟩
    · cases r1
      obtain ⟨_, xs, e, ra⟩ := s1.at hm1
      exact ⟨_, _, rfl, SqL.of e, k _ _ _ M1 F1 H1 q st s1 (src_enum fun F' H' M' ex s' o => (s'.mem _ o).2)⟩

/-! ### for -/
/-- one invariant over (turn, names, objects) -/
theorem xs_for (vs : List Nat) {iter : Expr} (h : XI X tg iter ρ M fun ds ok M1 => ∃ W : Nat → Env → Mem → Prop, W 0 ρ M1 ∧ (∀ i ρ' M', i ≤ ds.length → W i ρ' M' → ok M') ∧
      (∀ i d ρ' M', ds[i]? = some d → W i ρ' M' → XG X tg vs d ρ' M' fun ρ2 M2 => XSs X body ρ2 M2 { nx := W (i + 1), rt := E.rt, bk := E.nx, ct := W (i + 1) }) ∧ ∀ ρ' M', W ds.length ρ' M' → E.nx ρ' M')
    (hp : PassesOwn (model X.prog X.w) X.A X.env X.xe := by exact PassesOwn.never) (hc : X.calm = true := by rfl) (hs : ∀ x, foldedSetIterable iter X.env x = pure x := by intro _; rfl) : XS X (.For tg iter body [] pos) ρ M E := fun F σ H s ev hl D k => by
  refine PS.w (ps_for hp hc pi_w pg_w pss_w hs) (h F σ H s ev _ fun J ds ok M1 F1 H1 q st s1 src => ?_)
  obtain ⟨W, w0, wok, turn, done⟩ := q
  refine ⟨fun i m σ' H' => m = ds.length - i ∧ i ≤ ds.length ∧ ∃ F' ρ' M', W i ρ' M' ∧ Step F H M F' H' M' ∧ Ex F1 F' ∧ S0 F' H' M' ∧ EnvOk F' σ' ρ' ∧ σ'.length = X.N.length, ⟨_, rfl, Nat.zero_le _, F1, ρ, M1, w0, st, Ex.refl _, s1, ev.mono st.ex, hl⟩, ?_⟩
  rintro i m σ' H' ⟨rfl, hi, F', ρ', M', w, st', ex', s', ev', hl'⟩
  have o := wok i ρ' M' hi w
  by_cases hlt : i < ds.length
  · refine .inr ⟨src.go i F' H' M' ex' s' o hlt, fun σ2 H2 => i + 1 ≤ ds.length ∧ ∃ F2 ρ2 M2, W (i + 1) ρ2 M2 ∧ Step F H M F2 H2 M2 ∧ Ex F1 F2 ∧ S0 F2 H2 M2 ∧ EnvOk F2 σ2 ρ2 ∧ σ2.length = X.N.length, fun σ2 H2 n => ⟨ds.length - (i + 1), by omega, rfl, n.1, n.2⟩, fun x H2 y => ?_⟩
    obtain ⟨F2, s2, st2, r⟩ := src.yld i ds[i] x F' H' H2 M' ex' s' o (by simp) y
    refine turn i ds[i] ρ' M' (by simp) w F2 σ' H2 x s2 (ev'.mono st2.ex) r hl' _ fun σ3 ρ3 M3 F3 H3 q3 st3 s3 ev3 hw3 => ?_
    have sA := (st'.trans st2).trans st3
    refine q3 F3 σ3 H3 s3 ev3 (hw3.1.trans hl') _ ⟨fun ρ4 M4 F4 σ4 H4 q4 st4 s4 ev4 hl4 => ⟨hlt, F4, ρ4, M4, q4, sA.trans st4, (ex'.trans (st2.trans st3).ex).trans st4.ex, s4, ev4, hl4⟩, k.rt.step sA, fun ρ4 M4 F4 σ4 H4 q4 st4 s4 ev4 hl4 => k.nx ρ4 M4 F4 σ4 H4 q4 (sA.trans st4) s4 ev4 hl4, fun ρ4 M4 F4 σ4 H4 q4 st4 s4 ev4 hl4 => ⟨hlt, F4, ρ4, M4, q4, sA.trans st4, (ex'.trans (st2.trans st3).ex).trans st4.ex, s4, ev4, hl4⟩⟩
  · have e : i = ds.length := by omega
    subst e
    exact .inl ⟨src.stop _ F' H' M' ex' s' o (Nat.le_refl _), k.nx ρ' M' F' σ' H' (done ρ' M' w) st' s' ev' hl'⟩

/-! ### comprehensions -/
def wEb (X : Cx) (scope : Scope) (elt : Expr) : TE := fun σ H Q => ∀ (s : Shared) (H0 : Hp) (C : Addr) (cl : List (Str × Addr)) (fp : List Addr), wE (X.blk s H0 scope (compEnvC scope cl C X.env) fp) elt σ H Q
def wTb (X : Cx) (scope : Scope) (ifs : List Expr) : TT := fun σ H Q => ∀ (s : Shared) (H0 : Hp) (C : Addr) (cl : List (Str × Addr)) (fp : List Addr), wTs (X.blk s H0 scope (compEnvC scope cl C X.env) fp) ifs σ H Q
def wGb (X : Cx) (scope : Scope) (tg : Expr) : TG := fun v σ H Q => ∀ (s : Shared) (H0 : Hp) (C : Addr) (cl : List (Str × Addr)) (fp : List Addr), wG (X.blk s H0 scope (compEnvC scope cl C X.env) fp) tg v σ H Q
/-- the block's own judgements: in any such block -/
def XEb (X : Cx) (scope : Scope) (elt : Expr) (ρ : Env) (M : Mem) (Q : KE) : Prop := ∀ (s : Shared) (H0 : Hp) (C : Addr) (cl : List (Str × Addr)) (fp : List Addr), XE (X.blk s H0 scope (compEnvC scope cl C X.env) fp) elt ρ M Q
def XTb (X : Cx) (scope : Scope) (ifs : List Expr) (ρ : Env) (M : Mem) (Q : KT) : Prop := ∀ (s : Shared) (H0 : Hp) (C : Addr) (cl : List (Str × Addr)) (fp : List Addr), XTs (X.blk s H0 scope (compEnvC scope cl C X.env) fp) ifs ρ M Q
def XGb (X : Cx) (scope : Scope) (tg : Expr) (vs : List Nat) (d : D) (ρ : Env) (M : Mem) (Q : KG) : Prop := ∀ (s : Shared) (H0 : Hp) (C : Addr) (cl : List (Str × Addr)) (fp : List Addr), XG (X.blk s H0 scope (compEnvC scope cl C X.env) fp) tg vs d ρ M Q
theorem xts_nil {Q : KT} (q : Q true M) : XTs X [] ρ M Q := fun F σ H s ev R k => PTs.w pts_nil (show R true H from k true M F H q (Step.refl _ _ _) s)
theorem xts_one {Q : KT} (h : XT X c ρ M Q) : XTs X [c] ρ M Q := fun F σ H s ev R k => PTs.w (pts_one pt_w) (h F σ H s ev R k)
/-- the slots vs forgotten -/
def wipeD (ρ : Env) : List Nat → Env
  | [] => ρ
  | v :: vs => (wipeD ρ vs).set v none
theorem EnvOk.wipe {F : Hp} {σ : L2.St} {ρ : Env} (h : EnvOk F σ ρ) : ∀ vs : List Nat, EnvOk F (L2.wipe σ vs) (wipeD ρ vs)
  | [] => h
  | v :: vs => (h.wipe vs).unset v
theorem wipe_same {σ σ' : L2.St} : ∀ (vs : List Nat), σ'.length = σ.length → (∀ (j : Nat), j ∉ vs → σ'[j]? = σ[j]?) → ∀ (j : Nat), (wipe σ' vs)[j]? = (wipe σ vs)[j]?
  | [], hl, h, j => h j (by simp)
  | v :: vs, hl, h, j => by
    -- compare slot by slot
    have key : ∀ (τ : L2.St) (ws : List Nat), (wipe τ ws)[j]? = if j ∈ ws ∧ j < τ.length then some none else τ[j]? := by
      intro τ ws
      induction ws with
      | nil => simp [wipe]
      | cons w ws ih =>
        show ((wipe τ ws).set w none)[j]? = _
        by_cases hw : w = j
        · subst hw
          by_cases hj : w < τ.length
          · rw [List.getElem?_set_self (by rw [wipe_length]; exact hj)]; simp [hj]
          · rw [List.getElem?_eq_none (by rw [List.length_set, wipe_length]; omega), if_neg (by simp [hj]), List.getElem?_eq_none (by omega)]
        · rw [List.getElem?_set_ne hw, ih]
          have : (j ∈ w :: ws) ↔ j ∈ ws := by simp [Ne.symm hw]
          simp only [this]
    rw [key, key, hl]
    by_cases hj : j ∈ v :: vs
    · by_cases hl2 : j < σ.length
      · rw [if_pos ⟨hj, hl2⟩, if_pos ⟨hj, hl2⟩]
      · rw [if_neg (fun z => hl2 z.2), if_neg (fun z => hl2 z.2), List.getElem?_eq_none (by omega), List.getElem?_eq_none (by omega)]
    · rw [if_neg (fun z => hj z.1), if_neg (fun z => hj z.1)]
      exact h j hj
theorem wipe_eq {σ σ' : L2.St} {vs : List Nat} (hl : σ'.length = σ.length) (h : ∀ (j : Nat), j ∉ vs → σ'[j]? = (wipe σ vs)[j]?) : wipe σ' vs = wipe σ vs := by
  apply List.ext_getElem?
  intro j
  rw [wipe_same (σ := wipe σ vs) vs (by rw [wipe_length]; exact hl) h j]
  have key : ∀ (τ : L2.St) (ws : List Nat), (wipe τ ws)[j]? = if j ∈ ws ∧ j < τ.length then some none else τ[j]? := by
    intro τ ws
    induction ws with
    | nil => simp [wipe]
    | cons w ws ih =>
      show ((wipe τ ws).set w none)[j]? = _
      by_cases hw : w = j
      · subst hw
        by_cases hj : w < τ.length
        · rw [List.getElem?_set_self (by rw [wipe_length]; exact hj)]; simp [hj]
        · rw [List.getElem?_eq_none (by rw [List.length_set, wipe_length]; omega), if_neg (by simp [hj]), List.getElem?_eq_none (by omega)]
      · rw [List.getElem?_set_ne hw, ih]
        have : (j ∈ w :: ws) ↔ j ∈ ws := by simp [Ne.symm hw]
        simp only [this]
  rw [key, key, wipe_length]
  by_cases h1 : j ∈ vs ∧ j < σ.length
  · rw [if_pos h1, if_pos h1]
  · rw [if_neg h1, if_neg h1]
/-- what a comprehension's block keeps, turn by turn: P of the turn, the items so far, the objects -/
structure LcOk (X : Cx) (scope : Scope) (tg : Expr) (ifs : List Expr) (vs : List Nat) (ρ : Env) (ds : List D) (ok : Mem → Prop) (el : Env → Mem → KE → Prop) (P : Nat → List D → Mem → Prop) : Prop where
  ok : ∀ i acc M', i ≤ ds.length → P i acc M' → ok M'
  sz : ∀ i acc M', i ≤ ds.length → P i acc M' → acc.length < 100000
  turn : ∀ i d acc M', ds[i]? = some d → P i acc M' → XGb X scope tg vs d (wipeD ρ vs) M' fun ρ2 M2 => XTb X scope ifs ρ2 M2 fun z M3 => (z = true → el ρ2 M3 fun x M4 => P (i + 1) (acc ++ [x]) M4) ∧ (z = false → P (i + 1) acc M3)
theorem lc_road {J : It} {tg elt : Expr} {ifs : List Expr} {scope : Scope} {own : List (Str × Nat)} {F1 H1 : Hp} {M1 : Mem} {σ : L2.St} {ds : List D} {ok : Mem → Prop} {P : Nat → List D → Mem → Prop} {Qd : V → Hp → Prop}
    (s1 : S0 F1 H1 M1) (ev : EnvOk F1 σ ρ) (hl : σ.length = X.N.length) (src : Src J F1 ok ds) (L : LcOk X scope tg ifs (own.map (·.2)) ρ ds ok (fun ρ2 M3 Q => XEb X scope elt ρ2 M3 Q) P) (p0 : P 0 [] M1)
    (done : ∀ acc M' F' H' D xs, P ds.length acc M' → H1 D = none → Step F1 H1 M1 F' H' M' → S0 F' H' M' → H' D = some (.lst xs) → RpA F' xs acc → D ∉ M'.map (·.1) → F' D = none → Qd (.ref D) H') :
    ∀ D, H1 D = none → ∃ W : Nat → Nat → Hp → Prop, (∃ m, W 0 m (upd H1 D (.lst []))) ∧ ∀ i m H, W i m H →
      (J.stop i H ∧ Qd (.ref D) H) ∨ (J.go i H ∧ ∃ Nx : Hp → Prop, (∀ H', Nx H' → ∃ m', m' < m ∧ W (i + 1) m' H') ∧ ∀ x H', J.yld i H x H' → wGb X scope tg x (wipe σ (own.map (·.2))) H' fun σ2 H2 => wipe σ2 (own.map (·.2)) = wipe σ (own.map (·.2)) ∧ wTb X scope ifs σ2 H2 fun b H3 =>
        if b = true then wEb X scope elt σ2 H3 fun y H4 => ∃ acc, H4 D = some (.lst acc) ∧ acc.length < sizeLine ∧ Nx (upd H4 D (.lst (acc ++ [y]))) else Nx H3) := by
  intro D hD
  -- D is laid as one more object that may be changed; it is left out of what the block sees
  let Wp : Nat → Hp → Prop := fun i H' => ∃ F' M' acc xs, P i acc M' ∧ Step F1 H1 M1 F' H' M' ∧ S0 F' H' M' ∧ H' D = some (.lst xs) ∧ RpA F' xs acc ∧ D ∉ M'.map (·.1) ∧ F' D = none
  have hF1 : F1 D = none := s1.free hD
  have hM1 : D ∉ M1.map (·.1) := fun z => by
    obtain ⟨q, hq, e⟩ := List.mem_map.mp z
    exact (s1.mem q hq).2.ne (e ▸ hD)
  refine ⟨fun i m H' => m = ds.length - i ∧ i ≤ ds.length ∧ Wp i H', ⟨_, rfl, Nat.zero_le _, F1, M1, [], [], p0, ?_, ?_, upd_same, .nil, hM1, hF1⟩, ?_⟩
  · exact ⟨Ex.refl _, fun _ _ e => .inl e, fun b o e _ => by rw [upd_ne (ne_of_none e hD)]; exact e, fun b e => by
      by_cases h : b = D
      · subst h; rw [upd_same]; intro z; cases z
      · rw [upd_ne h]; exact e, fun _ h => .inl h⟩
  · refine ⟨fun b u e => ?_, fun q hq => ⟨(s1.mem q hq).1, (s1.mem q hq).2.keep (Ex.refl _) (upd_ne fun e => hM1 (List.mem_map.mpr ⟨q, hq, e⟩))⟩, s1.nd⟩
    have h : b ≠ D := fun h => by subst h; rw [hF1] at e; cases e
    rw [upd_ne h]; exact s1.le b u e
  rintro i m H' ⟨rfl, hi, F', M', acc, xs, p, st', s', eD, ra, nD, fD⟩
  have o := L.ok i acc M' hi p
  by_cases hlt : i < ds.length
  · refine .inr ⟨src.go i F' H' M' st'.ex s' o hlt, fun H2 => i + 1 ≤ ds.length ∧ Wp (i + 1) H2, fun H2 n => ⟨ds.length - (i + 1), by omega, rfl, n.1, n.2⟩, fun x H2 y => ?_⟩
    obtain ⟨F2, s2, st2, r⟩ := src.yld i ds[i] x F' H' H2 M' st'.ex s' o (by simp) y
    have carry : ∀ {F3 H3 : Hp} {M3 : Mem}, Step F' H' M' F3 H3 M3 → H3 D = some (.lst xs) ∧ D ∉ M3.map (·.1) ∧ F3 D = none := fun {F3 H3 M3} t => by
      refine ⟨t.fr D _ eD nD, fun z => ?_, ?_⟩
      · rcases t.mo D z with h | h
        · exact nD h
        · rw [eD] at h; cases h
      · cases q : F3 D with
        | none => rfl
        | some u =>
          rcases t.kn D u q with h | h | h
          · rw [fD] at h; cases h
          · rw [eD] at h; cases h
          · exact absurd h nD
    intro sb Hb C cl fp
    have hlw : (wipe σ (own.map (·.2))).length = (X.blk sb Hb scope (compEnvC scope cl C X.env) fp).N.length := by rw [wipe_length]; exact hl
    refine L.turn i ds[i] acc M' (by simp) p sb Hb C cl fp F2 _ H2 x s2 ((ev.mono (st'.trans st2).ex).wipe _) r hlw _ fun σ3 ρ3 M3 F3 H3 q3 st3 s3 ev3 hw3 => ⟨wipe_eq (by rw [hw3.1, wipe_length]) hw3.2, ?_⟩
    intro sb2 Hb2 C2 cl2 fp2
    refine q3 sb2 Hb2 C2 cl2 fp2 F3 σ3 H3 s3 ev3 _ fun z M4 F4 H4 q4 st4 s4 => b_ite (fun hz => ?_) (fun hz => ?_)
    · intro sb3 Hb3 C3 cl3 fp3
      refine q4.1 hz sb3 Hb3 C3 cl3 fp3 F4 σ3 H4 s4 (ev3.mono st4.ex) _ fun v d M5 F5 H5 q5 st5 s5 r5 => ?_
      have sA := ((st2.trans st3).trans st4).trans st5
      obtain ⟨eD5, nD5, fD5⟩ := carry sA
      have hz' := L.sz i acc M' hi p
      refine ⟨xs, eD5, by rw [ra.length]; exact sz_lt hz', hlt, F5, M5, acc ++ [d], xs ++ [v], q5, ?_, ?_, upd_same, (ra.mono sA.ex.le).append (.one r5), nD5, fD5⟩
      · have sB := st'.trans sA
        refine ⟨sB.ex, sB.kn, fun b u e n => ?_, fun b e => ?_, sB.mo⟩
        · have h : b ≠ D := fun h => by subst h; rw [hD] at e; cases e
          rw [upd_ne h]; exact sB.fr b u e n
        · by_cases h : b = D
          · subst h; rw [upd_same]; intro z; cases z
          · rw [upd_ne h]; exact sB.st b e
      · refine ⟨fun b u e => ?_, fun q hq => ⟨(s5.mem q hq).1, (s5.mem q hq).2.keep (Ex.refl _) (upd_ne fun e => nD5 (List.mem_map.mpr ⟨q, hq, e⟩))⟩, s5.nd⟩
        have h : b ≠ D := fun h => by subst h; rw [fD5] at e; cases e
        rw [upd_ne h]; exact s5.le b u e
    · have sA := (st2.trans st3).trans st4
      obtain ⟨eD5, nD5, fD5⟩ := carry sA
      exact ⟨hlt, F4, M4, acc, xs, q4.2 hz, st'.trans sA, s4, eD5, ra.mono sA.ex.le, nD5, fD5⟩
  · have e : i = ds.length := by omega
    subst e
    exact .inl ⟨src.stop _ F' H' M' st'.ex s' o (Nat.le_refl _), done acc M' F' H' D xs p hD st' s' eD ra nD fD⟩
theorem blk_nd {X : Cx} (h : X.N.Nodup) {s : Shared} {H : Hp} {scope : Scope} {cenv : PySem.Env} {fp : List Addr} : (X.blk s H scope cenv fp).N.Nodup := h
/-- [elt for tg in iter if ..] : a list that is not changed any more -/
theorem xe_lc (own : List (Str × Nat)) {elt iter : Expr} {ifs : List Expr} {scope : Scope} (h : XI X tg iter ρ M fun ds ok M1 => ∃ P : Nat → List D → Mem → Prop, P 0 [] M1 ∧ LcOk X scope tg ifs (own.map (·.2)) ρ ds ok (fun ρ2 M3 Q => XEb X scope elt ρ2 M3 Q) P ∧ ∀ acc M', P ds.length acc M' → Q (.lst acc) M')
    (bk : BlkOk X.N X.env.scope scope own) (hN : X.N.Nodup := by assumption) (hc : X.calm = true := by rfl) (hs : ∀ x, foldedSetIterable iter X.env x = pure x := by intro _; rfl) : XE X (.ListComp elt [⟨tg, iter, ifs, 0⟩] scope pos) ρ M Q := fun F σ H s ev R k => by
  intro pins s0 I
  have hl : σ.length = X.N.length := I.len
  refine PE.w (pe_lc (te := wEb X scope elt) (g := wGb X scope tg) (tt := wTb X scope ifs) hc hN pi_w bk (fun s H C cl fp => ⟨fun pins s1 σ H v u Q I r hh => hh s _ C cl fp pins s1 u I r⟩) (fun s H C cl fp => ⟨fun pins s1 σ H Q I hh => hh s _ C cl fp pins s1 I⟩) (fun s H C cl fp => ⟨fun pins s1 σ H Q I hh => hh s _ C cl fp pins s1 I⟩) hs) (h F σ H s ev _ fun J ds ok M1 F1 H1 q st s1 src => ?_) pins s0 I
  obtain ⟨P, p0, L, done⟩ := q
  refine lc_road s1 (ev.mono st.ex) hl src L p0 fun acc M' F' H' D xs p hD st' s' eD ra nD fD => ?_
  -- D is known from here on
  have sA := st.trans st'
  refine k (.ref D) (.lst acc) M' (upd F' D (.lst xs)) H' (done acc M' p) ⟨sA.ex.trans (Ex.new fD), fun b u e => ?_, sA.fr, sA.st, sA.mo⟩ ⟨fun b u e => ?_, fun q hq => ⟨?_, (s'.mem q hq).2.keep (Ex.new fD) rfl⟩, s'.nd⟩ (.lst upd_same (ra.mono (Ex.new fD).le))
  · by_cases hb : b = D
    · subst hb
      refine .inr (.inl ?_)
      cases q : H b with
      | none => rfl
      | some v => exact absurd hD (st.st b (by rw [q]; intro z; cases z))
    · rw [upd_ne hb] at e; exact sA.kn b u e
  · by_cases hb : b = D
    · subst hb; rw [upd_same] at e; cases e; exact eD
    · rw [upd_ne hb] at e; exact s'.le b u e
  · have hb : q.1 ≠ D := fun e => nD (List.mem_map.mpr ⟨q, hq, e⟩)
    rw [upd_ne hb]; exact (s'.mem q hq).1
/-- y = [elt for ..] -/
theorem xs_setLc (i : Nat) {y : Str} {py : Pos} (own : List (Str × Nat)) {elt iter : Expr} {ifs : List Expr} {scope : Scope} {spos : Pos} (h : XI X tg iter ρ M fun ds ok M1 => ∃ P : Nat → List D → Mem → Prop, P 0 [] M1 ∧ LcOk X scope tg ifs (own.map (·.2)) ρ ds ok (fun ρ2 M3 Q => XEb X scope elt ρ2 M3 Q) P ∧ ∀ acc M', P ds.length acc M' → E.nx (ρ.set i (some (.lst acc))) M')
    (bk : BlkOk X.N X.env.scope scope own) (hsw : swapsWith (.ListComp elt [⟨tg, iter, ifs, 0⟩] scope pos) (some (.Name y py)) spos.line X.env = pure true) (hN : X.N.Nodup := by assumption) (hy : X.N[i]? = some y := by rfl) (hyl : X.env.scope.names.lookup y = some .local := by rfl) (hc : X.calm = true := by rfl) (hs : ∀ x, foldedSetIterable iter X.env x = pure x := by intro _; rfl) :
    XS X (.Assign [.Name y py] (.ListComp elt [⟨tg, iter, ifs, 0⟩] scope pos) spos) ρ M E := fun F σ H s ev hl Dd k => by
  have hi' : i < σ.length := by rw [hl]; exact (List.getElem?_eq_some_iff.mp hy).1
  refine PS.w (ps_setLc (te := wEb X scope elt) (g := wGb X scope tg) (tt := wTb X scope ifs) hc hN hy hyl hsw pi_w bk (fun s H C cl fp => ⟨fun pins s1 σ H v u Q I r hh => hh s _ C cl fp pins s1 u I r⟩) (fun s H C cl fp => ⟨fun pins s1 σ H Q I hh => hh s _ C cl fp pins s1 I⟩) (fun s H C cl fp => ⟨fun pins s1 σ H Q I hh => hh s _ C cl fp pins s1 I⟩) hs) (h F σ H s ev _ fun J ds ok M1 F1 H1 q st s1 src => ?_)
  obtain ⟨P, p0, L, done⟩ := q
  refine lc_road (Qd := fun v H' => Dd.nx (σ.set i (some v)) H') s1 (ev.mono st.ex) hl src L p0 fun acc M' F' H' D xs p hD st' s' eD ra nD fD => ?_
  have sA := st.trans st'
  refine k.nx _ M' (upd F' D (.lst xs)) _ H' (done acc M' p) ⟨sA.ex.trans (Ex.new fD), fun b u e => ?_, sA.fr, sA.st, sA.mo⟩ ⟨fun b u e => ?_, fun q hq => ⟨?_, (s'.mem q hq).2.keep (Ex.new fD) rfl⟩, s'.nd⟩ ((ev.mono (sA.ex.trans (Ex.new fD))).set hi' (.lst upd_same (ra.mono (Ex.new fD).le))) (by simpa using hl)
  · by_cases hb : b = D
    · subst hb
      refine .inr (.inl ?_)
      cases q : H b with
      | none => rfl
      | some v => exact absurd hD (st.st b (by rw [q]; intro z; cases z))
    · rw [upd_ne hb] at e; exact sA.kn b u e
  · by_cases hb : b = D
    · subst hb; rw [upd_same] at e; cases e; exact eD
    · rw [upd_ne hb] at e; exact s'.le b u e
  · have hb : q.1 ≠ D := fun e => nD (List.mem_map.mpr ⟨q, hq, e⟩)
    rw [upd_ne hb]; exact (s'.mem q hq).1
/-- the usual case: nothing is changed, item by item the answer f, the element g -/
theorem lc_pure {elt : Expr} {ifs : List Expr} {scope : Scope} {vs : List Nat} {ds : List D} {ok : Mem → Prop} (f : D → Bool) (g : D → D) (hok : ok M) (hz : ds.length < 100000)
    (h : ∀ d, d ∈ ds → XGb X scope tg vs d (wipeD ρ vs) M fun ρ2 M2 => XTb X scope ifs ρ2 M2 fun z M3 => z = f d ∧ (f d = true → XEb X scope elt ρ2 M3 fun x M4 => x = g d ∧ M4 = M) ∧ (f d = false → M3 = M)) :
    LcOk X scope tg ifs vs ρ ds ok (fun ρ2 M3 Q => XEb X scope elt ρ2 M3 Q) fun i acc M' => acc = ((ds.take i).filter f).map g ∧ M' = M where
  ok := fun i acc M' _ p => by rw [p.2]; exact hok
  sz := fun i acc M' hi p => by
    rw [p.1, List.length_map]
    have h1 := List.length_filter_le f (ds.take i)
    rw [List.length_take] at h1
    omega
  turn := fun i d acc M' hd p => by
    obtain ⟨rfl, rfl⟩ := p
    have hm : d ∈ ds := List.mem_of_getElem? hd
    have ht : ds.take (i + 1) = ds.take i ++ [d] := by
      rw [List.take_succ, hd]; rfl
    intro s H0 C cl fp
    refine (h d hm s H0 C cl fp).mono fun ρ2 M2 h2 => ?_
    intro s2 H2 C2 cl2 fp2 F σ H s0 ev R k
    refine h2 s2 H2 C2 cl2 fp2 F σ H s0 ev R fun z M3 F3 H3 q st3 s3 => ?_
    obtain ⟨rfl, q1, q2⟩ := q
    refine k _ M3 F3 H3 ⟨fun hz => ?_, fun hz => ?_⟩ st3 s3
    · intro s4 H4 C4 cl4 fp4
      refine (q1 hz s4 H4 C4 cl4 fp4).mono fun x M4 q => ?_
      obtain ⟨rfl, rfl⟩ := q
      refine ⟨?_, rfl⟩
      rw [ht, List.filter_append, List.map_append, List.filter_cons, if_pos hz]
      rfl
    · refine ⟨?_, q2 hz⟩
      rw [ht, List.filter_append, List.map_append, List.filter_cons, if_neg (by rw [hz]; simp)]
      simp
theorem lc_pure_end {ds : List D} {f : D → Bool} {g : D → D} {R : List D → Mem → Prop} (h : R ((ds.filter f).map g) M) : ∀ acc M', (acc = ((ds.take ds.length).filter f).map g ∧ M' = M) → R acc M' := by
  rintro acc M' ⟨rfl, rfl⟩
  rw [List.take_length]
  exact h

/-! ### defs -/
/-- what a def does to data: the arguments, the objects that may be changed, what is wanted behind -/
abbrev Wp := List D → Mem → KE → Prop
def spW (W : Wp) : Sp := fun vs H Q _ => ∃ F ds M QD, S0 F H M ∧ RpA F vs ds ∧ W ds M QD ∧ Cont F H M QD Q
theorem fn_D {P : Program} {w : World} {K : PySem.W.Frag} {mg : Str → Option Value} {base : Heap} {x qual : Str} {params : Arguments} {sts : List Stmt} {scope : Scope} {f : Addr} {fd : FuncData} {N ps : List Str} {k : Nat} {W : Wp}
    (Fn : FunD K x qual params sts scope [] [] f fd) (S : FnScope N ps scope) (hl : ∀ ds M QD, W ds M QD → ds.length = ps.length)
    (h : ∀ (cdv : Value) (A : Around) (outer : List PySem.Env) (s : Shared) (H : Hp), Room k (A.deeper (envOfC qual scope s.heap.objs.size f cdv)) → ∀ (Y : Cx), Y = (cxOf CX0 P w K mg base N qual scope f cdv A outer s H E0).nox → ∀ ds M QD, W ds M QD →
      XSs Y sts (ds.map some ++ List.replicate (N.length - ds.length) none) M { nx := fun _ M' => QD (.v .non) M', rt := QD }) : FnOk P w K mg base CX0 (k + 1) f fd ps (spW W) := by
  refine FunD.ok Fn S (fun vs H Q E hs => ?_) fun cdv A outer s H vs Q E hr hs => ?_
  · obtain ⟨F, ds, M, QD, _, r, hw, _⟩ := hs
    rw [r.length]; exact hl ds M QD hw
  · obtain ⟨F, ds, M, QD, s0, r, hw, kk⟩ := hs
    have hlen : ds.length = ps.length := hl ds M QD hw
    refine ⟨_, PSs.nox pss_w, ?_⟩
    refine h cdv A outer s H hr _ rfl ds M QD hw F _ H s0 (fun i d e => ?_) ?_ _ ⟨fun ρ' M' F' σ' H' q st' s' _ _ => kk _ _ M' F' H' q st' s' (.v .non), kk, fun _ _ _ _ _ q => q.elim, fun _ _ _ _ _ q => q.elim⟩
    · have hi : i < ds.length := by
        rcases Nat.lt_or_ge i ds.length with hi | hi
        · exact hi
        · rw [List.getElem?_append_right (by simpa using hi)] at e
          obtain ⟨_, q⟩ := List.getElem?_eq_some_iff.mp e
          simp at q
      rw [List.getElem?_append_left (by simpa using hi), List.getElem?_map] at e
      have e2 : ds[i]? = some d := by
        cases q : ds[i]? with
        | none => rw [q] at e; cases e
        | some z => rw [q] at e; simpa using e
      obtain ⟨v, hv, rv⟩ := r.get e2
      refine ⟨v, ?_, rv⟩
      unfold L2.start
      rw [List.getElem?_append_left (by rw [List.length_map, r.length]; exact hi), List.getElem?_map, hv]
      rfl
    · have hle : ps.length ≤ N.length := by
        have := congrArg List.length S.pre
        rw [List.length_take] at this
        omega
      show (L2.start N vs).length = N.length
      unfold L2.start
      rw [List.length_append, List.length_map, List.length_replicate, r.length]
      omega
theorem xe_call {k : Nat} {f : Addr} {fd : FuncData} {ps : List Str} {W : Wp} {x : Str} {p : Pos} (G : FnOk X.prog X.w X.K X.mg X.base CX0 k f fd ps (spW W)) (hm : X.mg x = some (.ref f)) (hk : PySem.W.keepIn X.K (.ref f) = true) (hb : Binds X.K fd ps []) (hr : Room k X.A)
    (h : XA X (e :: es) ρ M fun ds M1 => W ds M1 Q) (hg : Gl X x := by rfl) (hdb : (x == ("__debug__" : Str)) = false := by decide) (he : starEach (e :: es) X.env = (false, eval e X.env) :: starEach es X.env := by rfl) (hpl : (backTo pos (starEach es X.env)).any (·.1) = false := by rfl) :
    XE X (.Call (.Name x p) (e :: es) [] pos) ρ M Q := fun F σ H s ev R kk =>
  PE.w (pe_call G hr hg hm hk hb .nil pass0 pa_w hdb he hpl) (h F σ H s ev _ fun vs ds M1 F1 H1 q st s1 r => ⟨F1, ds, M1, Q, s1, by rw [List.append_nil]; exact r, q, kk.step st⟩)
theorem xe_meth {k : Nat} {f C : Addr} {fd : FuncData} {ps : List Str} {W : Wp} {m : Str} {apos : Pos} {pl : Sem Bool} (G : FnOk X.prog X.w X.K X.mg X.base CX0 k f fd ps (spW W)) (c : Cls X.K C) (hm : Meth X.K C m f) (hb : Binds X.K fd ps []) (hr : Room k X.A)
    (h : XE X a ρ M fun d1 M1 => ∃ ns ds1, SeesO M1 d1 C ns ds1 ∧ m ∉ ns ∧ XA X (e :: es) ρ M1 fun ds M2 => W (d1 :: ds) M2 Q)
    (hst : starEach (e :: es) X.env = (false, eval e X.env) :: starEach es X.env := by rfl) (hpl : (backTo pos (starEach es X.env)).any (·.1) = false := by rfl)
    (ht : eval (.Call (.Attribute a m apos) (e :: es) [] pos) X.env = (do
      let ov ← eval a X.env
      standAt apos.atName
      let (f, first) ← holding [ov] (getMethod ov m pl)
      callWith pos f first (backTo pos (starEach (e :: es) X.env)) (backToKw pos (keywordEach [] X.env))) := by rfl) :
    XE X (.Call (.Attribute a m apos) (e :: es) [] pos) ρ M Q := fun F σ H s ev R kk => by
  refine PE.w (pe_meth (pl := pl) pe_w c hm G hr hb .nil pass0 pa_w hst hpl ht) (h F σ H s ev _ fun v d1 M1 F1 H1 q st s1 r => ?_)
  obtain ⟨ns, ds1, so, nm, q⟩ := q
  obtain ⟨p, dx, xs, rfl, e1, ra⟩ := so.get s1 r
  exact ⟨p, dx, _, rfl, e1, lookup_zip_none nm, q F1 σ H1 s1 (ev.mono st.ex) _ fun vs ds M2 F2 H2 q2 st2 s2 r2 => ⟨F2, d1 :: ds, M2, Q, s2, by rw [List.append_nil]; exact .cons (r.mono st2.ex.le) r2, q2, kk.step (st.trans st2)⟩⟩
theorem xe_meth0 {k : Nat} {f C : Addr} {fd : FuncData} {ps : List Str} {W : Wp} {m : Str} {apos : Pos} {pl : Sem Bool} (G : FnOk X.prog X.w X.K X.mg X.base CX0 k f fd ps (spW W)) (c : Cls X.K C) (hm : Meth X.K C m f) (hb : Binds X.K fd ps []) (hr : Room k X.A)
    (h : XE X a ρ M fun d1 M1 => ∃ ns ds1, SeesO M1 d1 C ns ds1 ∧ m ∉ ns ∧ W [d1] M1 Q)
    (ht : eval (.Call (.Attribute a m apos) [] [] pos) X.env = (do
      let ov ← eval a X.env
      standAt apos.atName
      let (f, first) ← holding [ov] (getMethod ov m pl)
      callWith pos f first (backTo pos (starEach [] X.env)) (backToKw pos (keywordEach [] X.env))) := by rfl) :
    XE X (.Call (.Attribute a m apos) [] [] pos) ρ M Q := fun F σ H s ev R kk => by
  refine PE.w (pe_meth0 (pl := pl) pe_w c hm G hr hb .nil pass0 ht) (h F σ H s ev _ fun v d1 M1 F1 H1 q st s1 r => ?_)
  obtain ⟨ns, ds1, so, nm, q⟩ := q
  obtain ⟨p, dx, xs, rfl, e1, ra⟩ := so.get s1 r
  exact ⟨p, dx, _, rfl, e1, lookup_zip_none nm, F1, [d1], M1, Q, s1, .cons r .nil, q, kk.step st⟩
theorem xe_make {k : Nat} {f C : Addr} {fd : FuncData} {ps : List Str} {W : Wp} {x : Str} {p : Pos} (Mq : Mk X.K C f) (G : FnOk X.prog X.w X.K X.mg X.base CX0 k f fd ps (spW W)) (hm : X.mg x = some (.ref C)) (hb : Binds X.K fd ps []) (hr : Room (k + 1) X.A)
    (h : XA X (e :: es) ρ M fun ds M1 => ∀ i dx, W (.v (.ref i) :: ds) ((i, .ins C dx [] []) :: M1) fun d M2 => d = .v .non ∧ Q (.v (.ref i)) M2) (hg : Gl X x := by rfl) (hdb : (x == ("__debug__" : Str)) = false := by decide) (he : starEach (e :: es) X.env = (false, eval e X.env) :: starEach es X.env := by rfl) (hpl : (backTo pos (starEach es X.env)).any (·.1) = false := by rfl) :
    XE X (.Call (.Name x p) (e :: es) [] pos) ρ M Q := fun F σ H s ev R kk => by
  refine PE.w (pe_make Mq G hr hg hm hb .nil pass0 pa_w hdb he hpl) (h F σ H s ev _ fun vs ds M1 F1 H1 q st s1 r => ?_)
  intro i dx hi hdx hne
  obtain ⟨s2, st2⟩ := s1.new hdx (.own i)
  have hi2 : (upd H1 dx (.own i)) i = none := by rw [upd_ne (Ne.symm hne)]; exact hi
  obtain ⟨s3, st3⟩ := s2.newM (m := .ins C dx [] []) hi2 (o := .ins C dx []) ⟨[], upd_same, .nil, rfl⟩
  refine ⟨_, _, _, _, s3, by rw [List.append_nil]; exact .cons (.v _) (r.mono (st2.trans st3).ex.le), q i dx, fun v d M' F' H' q' st' s' r' => ?_⟩
  obtain ⟨rfl, q'⟩ := q'
  cases r'
  exact ⟨rfl, kk _ _ M' F' H' q' (((st.trans st2).trans st3).trans st') s' (.v _)⟩
/-- an object behind its making is not changed any more -/
theorem xe_frz {ns : List Str} {C : Addr} (h : XE X e ρ M fun d M1 => ∃ i dx ds M2, d = .v (.ref i) ∧ M1 = (i, .ins C dx ns ds) :: M2 ∧ Q (.obj C ns ds) M2) : XE X e ρ M Q := fun F σ H s ev R k =>
  h F σ H s ev R fun v d M1 F1 H1 q st s1 r => by
    obtain ⟨i, dx, ds, M2, rfl, rfl, q⟩ := q
    cases r
    obtain ⟨_, xs, e1, ra, _⟩ := (s1.mem _ List.mem_cons_self)
    obtain ⟨s2, st2⟩ := s1.freeze e1
    exact k _ _ M2 _ _ q (st.trans st2) s2 (.obj upd_same (ra.mono st2.ex.le))
/-- a list, a dict -/
theorem xe_frzL (h : XE X e ρ M fun d M1 => ∃ i ds M2, d = .v (.ref i) ∧ M1 = (i, .lst ds) :: M2 ∧ Q (.lst ds) M2) : XE X e ρ M Q := fun F σ H s ev R k =>
  h F σ H s ev R fun v d M1 F1 H1 q st s1 r => by
    obtain ⟨i, ds, M2, rfl, rfl, q⟩ := q
    cases r
    obtain ⟨_, xs, e1, ra⟩ := (s1.mem _ List.mem_cons_self)
    obtain ⟨s2, st2⟩ := s1.freeze e1
    exact k _ _ M2 _ _ q (st.trans st2) s2 (.lst upd_same (ra.mono st2.ex.le))
/-- a ghost step: a thing is locked -/
theorem wE_lock {σ : L2.St} {H : Hp} {R : VK} (h : wE X e σ H fun v H1 => ∃ d u, H1 d = some u ∧ Mut (some u) ∧ ∀ od, R v (upd H1 d (.frz od u))) : wE X e σ H R := fun pins s I =>
  thn (h pins s I) fun v s1 ⟨x, H1, I1, r1, d, u, hd, mu, q⟩ => by
    obtain ⟨od, I2⟩ := I1.lock hd mu
    exact ⟨x, _, I2, r1, q od⟩
theorem xe_frzK (h : XE X e ρ M fun d M1 => ∃ i ds M2, d = .v (.ref i) ∧ M1 = (i, .dct ds) :: M2 ∧ Q (.dct ds) M2) : XE X e ρ M Q := fun F σ H s ev R k =>
  wE_lock (h F σ H s ev _ fun v d M1 F1 H1 q st s1 r => by
    obtain ⟨i, ds, M2, rfl, rfl, q⟩ := q
    cases r
    obtain ⟨_, xs, e1, ra⟩ := (s1.mem _ List.mem_cons_self)
    refine ⟨i, _, e1, True.intro, fun od => ?_⟩
    obtain ⟨s2, st2⟩ := s1.lock (u := .frz od (.dK xs))
    exact k _ _ M2 _ _ q (st.trans st2) s2 (.dct upd_same (ra.mono st2.ex.le)))
/-- objects forgotten -/
theorem xe_less {M2 : Mem} (hs : M2.Sublist M) (h : XE X e ρ M2 Q) : XE X e ρ M Q := fun F σ H s ev R k => by
  obtain ⟨s2, st2⟩ := s.less hs
  exact h F σ H s2 ev R (k.step st2)
end
end Dl
end
section
set_option maxHeartbeats 2000000
/-! Dl5: attributes set anew, dicts (pop, get, setdefault, update, keys, items, values, copies, comprehensions), slices. -/
namespace Dl
open PySem PySem.Spec PyProof.Rows L2
section
variable {X : Cx} {e a b c : Expr} {es : List Expr} {st : Stmt} {sts body orelse : List Stmt} {ρ : Env} {M : Mem} {Q : KE} {E : EndsD} {pos : Pos} {tg : Expr}

/-! ### what may be changed is told anew -/
/-- the same heap, told by other words -/
def Adj (M M' : Mem) : Prop := ∀ F H, S0 F H M → ∃ F', S0 F' H M' ∧ Step F H M F' H M'
theorem xe_adj {M' : Mem} (h : Adj M M') (q : XE X e ρ M' Q) : XE X e ρ M Q := fun F σ H s ev R k => by
  obtain ⟨F', s', st⟩ := h F H s
  exact q F' σ H s' (ev.mono st.ex) R (k.step st)
theorem xss_adj {M' : Mem} (h : Adj M M') (q : XSs X sts ρ M' E) : XSs X sts ρ M E := fun F σ H s ev hl D k => by
  obtain ⟨F', s', st⟩ := h F H s
  exact q F' σ H s' (ev.mono st.ex) hl D (k.step st)
theorem Adj.less {M M' : Mem} (h : M'.Sublist M) : Adj M M' := fun F H s => ⟨F, (s.less h).1, (s.less h).2⟩
/-- an expression's end: the objects told anew -/
theorem xe_end {R : D → Mem → D → Mem → Prop} (h : XE X e ρ M fun d M1 => ∃ d' M', Q d' M' ∧ ∀ F H v, S0 F H M1 → Rp F v d → ∃ F', S0 F' H M' ∧ Step F H M1 F' H M' ∧ Rp F' v d') : XE X e ρ M Q := fun F σ H s ev R k =>
  h F σ H s ev _ fun v d M1 F1 H1 q st s1 r => by
    obtain ⟨d', M', q, hh⟩ := q
    obtain ⟨F', s', st', r'⟩ := hh F1 H1 v s1 r
    exact k v d' M' F' H1 q (st.trans st') s' r'

/-! ### o.f = v on an object whose f is there -/
theorem putF_there {ns : List Str} (nd : ns.Nodup) {xs : List V} {j : Nat} {f : Str} {v : V} (h1 : ns[j]? = some f) (hl : ns.length = xs.length) : putF f v (ns.zip xs) = ns.zip (xs.set j v) := by
  induction ns generalizing xs j with
  | nil => simp at h1
  | cons n ns ih =>
    cases xs with
    | nil => cases hl
    | cons x xs =>
      rw [List.nodup_cons] at nd
      show (if n = f then (n, v) :: ns.zip xs else (n, x) :: putF f v (ns.zip xs)) = _
      cases j with
      | zero =>
        simp at h1
        rw [if_pos h1]; rfl
      | succ j =>
        have h1' : ns[j]? = some f := by simpa using h1
        rw [if_neg (fun (z : n = f) => nd.1 (by rw [z]; exact List.mem_of_getElem? h1')), ih nd.2 h1' (by simpa using hl)]
        rfl
theorem xs_fldS (i j : Nat) {f : Str} {pos' : Pos} (h : XE X e ρ M fun d M1 => XE X a ρ M1 fun d1 M2 => ∃ a' C dx ns ds, d1 = .v (.ref a') ∧ M2[i]? = some (a', .ins C dx ns ds) ∧ Cls X.K C ∧ NoAttr X.K C f ∧ ns[j]? = some f ∧ ns.Nodup ∧ ns.length < 100 ∧ E.nx ρ (M2.set i (a', .ins C dx ns (ds.set j d))))
    (hs : swapsWith e (some (.Attribute a f pos')) pos.line X.env = pure false := by rfl) : XS X (.Assign [.Attribute a f pos'] e pos) ρ M E := fun F σ H s ev hl D k => by
  refine PS.w (ps_fld pe_w pe_w hs) (h F σ H s ev _ fun v d M1 F1 H1 q st s1 r1 => q F1 σ H1 s1 (ev.mono st.ex) _ fun o d1 M2 F2 H2 q2 st2 s2 r2 => ?_)
  obtain ⟨a', C, dx, ns, ds, rfl, hm, c, n, nf, nd, hln, q⟩ := q2
  cases r2
  obtain ⟨hF, xs, e2, ra, hlen⟩ := s2.at hm
  have hzl : ns.length = xs.length := hlen.trans ra.length.symm
  refine ⟨a', C, dx, _, rfl, e2, c, n, by rw [List.length_zip]; omega, ?_⟩
  obtain ⟨s3, st3⟩ := s2.write (m := .ins C dx ns (ds.set j d)) (u := .ins C dx (putF f v (ns.zip xs))) hm ⟨xs.set j v, by rw [putF_there nd nf hzl]; exact upd_same, ra.set (r1.mono st2.ex.le) j, by simp [hlen]⟩
  exact k.nx ρ _ F2 σ _ q ((st.trans st2).trans st3) s3 (ev.mono (st.trans st2).ex) hl
/-- .. as one of several targets -/
theorem xg_fld (i : Nat) {vs : List Nat} {f : Str} {d : D} {Q : KG} (h : XE X a ρ M fun d1 M2 => ∃ a' C dx ns ds, d1 = .v (.ref a') ∧ M2[i]? = some (a', .ins C dx ns ds) ∧ Cls X.K C ∧ NoAttr X.K C f ∧ f ∉ ns ∧ ns.length < 100 ∧ Q ρ (M2.set i (a', .ins C dx (ns ++ [f]) (ds ++ [d])))) :
    XG X (.Attribute a f pos) vs d ρ M Q := fun F σ H v s ev r hl R k => by
  intro pins s0 u I ru
  rw [assign_Attribute]
  refine wpAny_bind (wpAny_holding (thn (PE.run (pe_w (X := X) (e := a)) pins s0 σ H _ I (h F σ H s ev (fun o H' => ∃ a' C dx fs, o = .ref a' ∧ H' a' = some (.ins C dx fs) ∧ Cls X.K C ∧ NoAttr X.K C f ∧ fs.length < 1000 ∧ R σ (upd H' a' (.ins C dx (putF f v fs)))) fun o d1 M2 F2 H2 q2 st2 s2 r2 => ?_)) fun ov s1 ⟨x, H1, I1, rx, q1⟩ => ?_))
  · obtain ⟨a', C, dx, ns, ds, rfl, hm, c, n, nf, hln, q⟩ := q2
    cases r2
    obtain ⟨hF, xs, e2, ra, hlen⟩ := s2.at hm
    have hzl : ns.length = xs.length := hlen.trans ra.length.symm
    have hput : ∀ (ns : List Str) (xs : List V), ns.length = xs.length → f ∉ ns → putF f v (ns.zip xs) = (ns ++ [f]).zip (xs ++ [v]) := by
      intro ns
      induction ns with
      | nil => intro xs h1 _; cases xs with | nil => rfl | cons _ _ => cases h1
      | cons n ns ih =>
        intro xs h1 h2
        cases xs with
        | nil => cases h1
        | cons x xs =>
          show (if n = f then _ else (n, x) :: putF f v (ns.zip xs)) = (n, x) :: ((ns ++ [f]).zip (xs ++ [v]))
          rw [if_neg (fun z => h2 (by rw [z]; exact List.mem_cons_self)), ih xs (by simpa using h1) (fun z => h2 (List.mem_cons_of_mem _ z))]
    refine ⟨_, _, _, _, rfl, e2, c, n, by rw [List.length_zip]; omega, ?_⟩
    obtain ⟨s3, st3⟩ := s2.write (m := .ins C dx (ns ++ [f]) (ds ++ [d])) (u := .ins C dx (putF f v (ns.zip xs))) hm ⟨xs ++ [v], by rw [hput ns xs hzl nf]; exact upd_same, ra.append (.one (r.mono st2.ex.le)), by simp [hlen]⟩
    exact k σ ρ _ F2 _ q (st2.trans st3) s3 (ev.mono st2.ex) ⟨rfl, fun _ _ => rfl⟩
  · obtain ⟨a', C, dx, fs, rfl, e2, c, n, l, q⟩ := q1
    obtain rfl : ov = Value.ref a' := rx
    refine wpAny_bind (wpAny_standAt (wpAny_bind (wpAny_holding (setattr_ok I1 e2 c n l ru fun s3 I3 => ?_))))
    exact wpAny_release ⟨σ, _, I3, q⟩

/-! ### dicts: methods -/
theorem isD_of {F H : Hp} {v : V} {d : D} {kds : List (Key × D)} (h : SeesK M d kds) (s : S0 F H M) (r : Rp F v d) : ∃ a, v = .ref a ∧ IsD H a := by
  obtain ⟨p, kvs, rfl, e1, _⟩ := h.get s r
  exact ⟨p, rfl, .inl ⟨kvs, e1⟩⟩
theorem kds_put {kds : List (Key × D)} {k : Key} (h : valD kds k = none) : True := trivial
/-- o.pop(k): there -/
theorem xe_pop1 (i : Nat) {o : Expr} {apos cpos : Pos} (h : XE X o ρ M fun d1 M1 => ∃ l kds0, d1 = .v (.ref l) ∧ SeesK M1 d1 kds0 ∧ XE X e ρ M1 fun d2 M2 => ∃ k y kds d, d2 = .v y ∧ y = kV k ∧ M2[i]? = some (l, .dct kds) ∧ valD kds k = some d ∧ Q d (M2.set i (l, .dct (dropD kds k))))
    (m : M1 X o "pop" apos e cpos := by exact ⟨rfl, rfl, rfl, rfl⟩) : XE X (.Call (.Attribute o "pop" apos) [e] [] cpos) ρ M Q := fun F σ H s ev R k =>
  PE.w (pe_dpop1 pe_w pe_w m) (h F σ H s ev _ fun v d1 M1 F1 H1 q st s1 r1 => by
    obtain ⟨l, kds0, rfl, sk, q⟩ := q
    obtain ⟨p, rfl, isd⟩ := isD_of sk s1 r1
    cases r1
    refine ⟨_, rfl, isd, q F1 σ H1 s1 (ev.mono st.ex) _ fun y d2 M2 F2 H2 q2 st2 s2 r2 => ?_⟩
    obtain ⟨kk, y', kds, d, rfl, hy, hm, hv, q2⟩ := q2
    cases r2
    obtain ⟨hF, kvs, e2, rk⟩ := s2.at hm
    obtain ⟨z, hz, rz⟩ := rk.some hv
    refine ⟨kvs, kk, z, e2, hy, hz, ?_⟩
    obtain ⟨s3, st3⟩ := s2.write (m := .dct (dropD kds kk)) (u := .dK (dropK kvs kk)) hm ⟨_, upd_same, rk.drop kk⟩
    exact k _ _ _ _ _ q2 ((st.trans st2).trans st3) s3 (rz.mono st3.ex.le))
/-- o.pop(k, x) -/
theorem xe_pop2 (i : Nat) {o f : Expr} {apos cpos : Pos} (h : XE X o ρ M fun d1 M1 => ∃ l kds0, d1 = .v (.ref l) ∧ SeesK M1 d1 kds0 ∧ XE X e ρ M1 fun d2 M2 => XE X f ρ M2 fun d3 M3 => ∃ k y kds, d2 = .v y ∧ y = kV k ∧ M3[i]? = some (l, .dct kds) ∧
      (∀ d, valD kds k = some d → Q d (M3.set i (l, .dct (dropD kds k)))) ∧ (valD kds k = none → Q d3 M3))
    (m : M2 X o "pop" apos e f cpos := by exact ⟨rfl, rfl, rfl, rfl⟩) : XE X (.Call (.Attribute o "pop" apos) [e, f] [] cpos) ρ M Q := fun F σ H s ev R k =>
  PE.w (pe_dpop2 pe_w pe_w pe_w m) (h F σ H s ev _ fun v d1 M1 F1 H1 q st s1 r1 => by
    obtain ⟨l, kds0, rfl, sk, q⟩ := q
    obtain ⟨p, rfl, isd⟩ := isD_of sk s1 r1
    cases r1
    refine ⟨_, rfl, isd, q F1 σ H1 s1 (ev.mono st.ex) _ fun y d2 M2 F2 H2 q2 st2 s2 r2 => q2 F2 σ H2 s2 ((ev.mono st.ex).mono st2.ex) _ fun z d3 M3 F3 H3 q3 st3 s3 r3 => ?_⟩
    obtain ⟨kk, y', kds, rfl, hy, hm, qa, qb⟩ := q3
    cases r2
    obtain ⟨hF, kvs, e2, rk⟩ := s3.at hm
    refine ⟨kvs, kk, e2, hy, fun w hw => ?_, fun hn => ?_⟩
    · cases hv : valD kds kk with
      | none => rw [rk.none hv] at hw; cases hw
      | some d =>
        obtain ⟨z', hz, rz⟩ := rk.some hv
        rw [hz] at hw; cases hw
        obtain ⟨s4, st4⟩ := s3.write (m := .dct (dropD kds kk)) (u := .dK (dropK kvs kk)) hm ⟨_, upd_same, rk.drop kk⟩
        exact k _ _ _ _ _ (qa d hv) (((st.trans st2).trans st3).trans st4) s4 (rz.mono st4.ex.le)
    · cases hv : valD kds kk with
      | none => exact k _ _ _ _ _ (qb hv) ((st.trans st2).trans st3) s3 r3
      | some d =>
        obtain ⟨z', hz, rz⟩ := rk.some hv
        rw [hz] at hn; cases hn)
/-- o.get(k) -/
theorem xe_get1 {o : Expr} {apos cpos : Pos} (hu : X.A.units + 1 < cLine) (h : XE X o ρ M fun d1 M1 => ∃ kds0, SeesK M1 d1 kds0 ∧ XE X e ρ M1 fun d2 M2 => ∃ k y kds, d2 = .v y ∧ y = kV k ∧ SeesK M2 d1 kds ∧ (∀ d, valD kds k = some d → Q d M2) ∧ (valD kds k = none → Q (.v .non) M2))
    (m : M1 X o "get" apos e cpos := by exact ⟨rfl, rfl, rfl, rfl⟩) : XE X (.Call (.Attribute o "get" apos) [e] [] cpos) ρ M Q := fun F σ H s ev R k =>
  PE.w (pe_dget1 hu pe_w pe_w m) (h F σ H s ev _ fun v d1 M1 F1 H1 q st s1 r1 => by
    obtain ⟨kds0, sk, q⟩ := q
    obtain ⟨p, rfl, isd⟩ := isD_of sk s1 r1
    refine ⟨p, rfl, isd, q F1 σ H1 s1 (ev.mono st.ex) _ fun y d2 M2 F2 H2 q2 st2 s2 r2 => ?_⟩
    obtain ⟨kk, y', kds, rfl, hy, sk2, qa, qb⟩ := q2
    cases r2
    obtain ⟨p', kvs, e0, e1, rk⟩ := sk2.get s2 (r1.mono st2.ex.le)
    cases e0
    refine ⟨_, .inl ⟨kvs, kk, e1, hy, rfl⟩, ?_⟩
    cases hv : valD kds kk with
    | none => rw [rk.none hv]; exact k _ _ _ _ _ (qb hv) (st.trans st2) s2 (.v _)
    | some d =>
      obtain ⟨z, hz, rz⟩ := rk.some hv
      rw [hz]; exact k _ _ _ _ _ (qa d hv) (st.trans st2) s2 rz)
/-- o.setdefault(k, x) -/
theorem xe_setd (i : Nat) {o f : Expr} {apos cpos : Pos} (h : XE X o ρ M fun d1 M1 => ∃ l kds0, d1 = .v (.ref l) ∧ SeesK M1 d1 kds0 ∧ XE X e ρ M1 fun d2 M2 => XE X f ρ M2 fun d3 M3 => ∃ k y kds, d2 = .v y ∧ y = kV k ∧ M3[i]? = some (l, .dct kds) ∧ kds.length < 100000 ∧
      (∀ d, valD kds k = some d → Q d M3) ∧ (valD kds k = none → Q d3 (M3.set i (l, .dct (putD kds k d3)))))
    (m : M2 X o "setdefault" apos e f cpos := by exact ⟨rfl, rfl, rfl, rfl⟩) : XE X (.Call (.Attribute o "setdefault" apos) [e, f] [] cpos) ρ M Q := fun F σ H s ev R k =>
  PE.w (pe_dsetd pe_w pe_w pe_w m) (h F σ H s ev _ fun v d1 M1 F1 H1 q st s1 r1 => by
    obtain ⟨l, kds0, rfl, sk, q⟩ := q
    obtain ⟨p, rfl, isd⟩ := isD_of sk s1 r1
    cases r1
    refine ⟨_, rfl, isd, q F1 σ H1 s1 (ev.mono st.ex) _ fun y d2 M2 F2 H2 q2 st2 s2 r2 => q2 F2 σ H2 s2 ((ev.mono st.ex).mono st2.ex) _ fun z d3 M3 F3 H3 q3 st3 s3 r3 => ?_⟩
    obtain ⟨kk, y', kds, rfl, hy, hm, hz, qa, qb⟩ := q3
    cases r2
    obtain ⟨hF, kvs, e2, rk⟩ := s3.at hm
    refine ⟨kvs, kk, e2, hy, by rw [rk.length]; exact sz_lt hz, fun w hw => ?_, fun hn => ?_⟩
    · cases hv : valD kds kk with
      | none => rw [rk.none hv] at hw; cases hw
      | some d =>
        obtain ⟨z', hz, rz⟩ := rk.some hv
        rw [hz] at hw; cases hw
        exact k _ _ _ _ _ (qa d hv) ((st.trans st2).trans st3) s3 rz
    · cases hv : valD kds kk with
      | none =>
        obtain ⟨s4, st4⟩ := s3.write (m := .dct (putD kds kk d3)) (u := .dK (putK kvs kk z)) hm ⟨_, upd_same, rk.put kk r3⟩
        exact k _ _ _ _ _ (qb hv) (((st.trans st2).trans st3).trans st4) s4 (r3.mono st4.ex.le)
      | some d =>
        obtain ⟨z', hz, rz⟩ := rk.some hv
        rw [hz] at hn; cases hn)
/-- dict(d): a copy, that may be changed -/
theorem cd_dictM {d1 : D} {kds : List (Key × D)} (h : SeesK M d1 kds) (q : ∀ l, Q (.v (.ref l)) ((l, .dct kds) :: M)) : CallD X (.type "dict") [d1] M Q := fun F H xs s r R k => by
  cases r with
  | cons r1 r =>
    cases r
    obtain ⟨p, kvs, rfl, e1, rk⟩ := h.get s r1
    refine CallR.w call_dictD ⟨p, kvs, rfl, e1, fun l hl => ?_⟩
    obtain ⟨s2, st2⟩ := s.newM (m := .dct kds) hl (o := .dK kvs) ⟨kvs, upd_same, rk⟩
    exact k _ _ _ _ _ (q l) st2 s2 (.v _)

/-! ### dicts walked -/
theorem src_keys {F : Hp} {d : Addr} {o : Obj} {kvs : List (Key × V)} {kds : List (Key × D)} (e : F d = some (.frz o (.dK kvs))) (rk : RpK F kvs kds) : Src (Itk d o kvs) F (fun _ => True) (kds.map fun kv => D.v (kV kv.1)) where
  go := fun i F' H M ex s _ hi => ⟨s.le _ _ (ex _ _ e), by rw [rk.length]; simpa using hi⟩
  stop := fun i F' H M ex s _ hi => ⟨s.le _ _ (ex _ _ e), by rw [rk.length]; simpa using hi⟩
  yld := fun i dd x F' H H' M ex s _ hd y => by
    obtain ⟨rfl, k, v, hk, rfl⟩ := y
    have h1 : (kds.map (·.1))[i]? = some k := by rw [← rk.keys, List.getElem?_map, hk]; rfl
    rw [List.getElem?_map] at hd h1
    cases q : kds[i]? with
    | none => rw [q] at h1; cases h1
    | some p =>
      rw [q] at hd h1
      cases h1; cases hd
      exact ⟨F', s, Step.refl _ _ _, .v _⟩
theorem idt_keys {kds : List (Key × D)} {Q : KI} (q : Q (kds.map fun kv => D.v (kV kv.1)) (fun _ => True) M) : ItD X tg (.dct kds) M Q := fun F H x s r R k => by
  cases r with
  | @dct a od kvs _ e rk =>
    intro pins s1 σ v I1 r1
    obtain rfl : v = Value.ref a := r1
    have hd := s.le _ _ e
    obtain ⟨hs, hgd, hx, es, ep, vs, hdt, hsz, kv, hm⟩ := I1.frzK hd
    refine iter_keys hs hgd hx hdt (pi_one (tk := s1.toks) I1 _ (turn_keys _ hdt) ⟨_, Heap.get?_push_size _ rfl, rfl, ?_⟩ (k _ _ _ M F H q (Step.refl _ _ _) s (src_keys e rk)))
    rw [hsz] <;> rfl
theorem src_items {F : Hp} {d : Addr} {o : Obj} {kvs : List (Key × V)} {kds : List (Key × D)} (e : F d = some (.frz o (.dK kvs))) (rk : RpK F kvs kds) : Src (Iti d o kvs) F (fun _ => True) (kds.map fun kv => D.tup [.v (kV kv.1), kv.2]) where
  go := fun i F' H M ex s _ hi => ⟨s.le _ _ (ex _ _ e), by rw [rk.length]; simpa using hi⟩
  stop := fun i F' H M ex s _ hi => ⟨s.le _ _ (ex _ _ e), by rw [rk.length]; simpa using hi⟩
  yld := fun i dd x F' H H' M ex s _ hd y => by
    obtain ⟨T, k, v, hk, rfl, hT, rfl⟩ := y
    have get : ∀ {xs : List (Key × V)} {ds : List (Key × D)} {i : Nat}, RpK F xs ds → xs[i]? = some (k, v) → ∃ d', ds[i]? = some (k, d') ∧ Rp F v d' := by
      intro xs
      induction xs with
      | nil => intro ds i _ h; simp at h
      | cons p xs ih =>
        intro ds i r h
        cases r with
        | cons r1 r2 =>
          cases i with
          | zero => simp at h; obtain ⟨rfl, rfl⟩ := h; exact ⟨_, rfl, r1⟩
          | succ i => exact ih (i := i) r2 (by simpa using h)
    obtain ⟨d', h1, r1⟩ := get rk hk
    rw [List.getElem?_map, h1] at hd
    cases hd
    obtain ⟨s2, st2⟩ := s.new hT (.tup [kV k, v])
    exact ⟨_, s2, st2, .tup upd_same (.cons (.v _) (.cons (r1.mono (ex.trans st2.ex).le) .nil))⟩
theorem xi_items {elts : List Expr} {kk : Nat} {tpos apos cpos : Pos} {Q : KI} (h : XE X e ρ M fun d M1 => ∃ kds, d = .dct kds ∧ Q (kds.map fun kv => D.tup [.v (kV kv.1), kv.2]) (fun _ => True) M1) (hbase : attributeBase e "items" X.env (eval e X.env) = eval e X.env := by rfl) (hline : (apos.endLine == cpos.line) = true := by rfl) :
    XI X (.Tuple elts kk tpos) (.Call (.Attribute e "items" apos) [] [] cpos) ρ M Q := fun F σ H s ev R k =>
  PI.w (pi_items pe_w hbase hline) (h F σ H s ev _ fun v d M1 F1 H1 q st s1 r => by
    obtain ⟨kds, rfl, q⟩ := q
    cases r with
    | @dct a od kvs _ e rk =>
      exact ⟨a, od, kvs, rfl, s1.le _ _ e, k _ _ _ M1 F1 H1 q st s1 (src_items e rk)⟩)

/-! ### slices -/
abbrev PartD := Option Int
def XP (X : Cx) (e : Option Expr) (ρ : Env) (M : Mem) (Q : Option Int → Mem → Prop) : Prop := match e with
  | none => Q none M
  | some e => XE X e ρ M fun d M1 => ∃ i, d = .v (.int i) ∧ Q (some i) M1
def wP (X : Cx) (e : Option Expr) : TO := fun σ H Q => ∀ (pins : List (Addr × Obj)) (s : Shared), Inv X pins σ H s → wpAny (model X.prog X.w) X.A (evalPart e X.env) (fun u s' => ∃ o H', Inv X pins σ H' s' ∧ IsPart u o ∧ Q o H') X.xe s
theorem po_w {e : Option Expr} : PO X e (wP X e) := ⟨fun pins s _ _ _ I h => h pins s I⟩
theorem xp_w {e : Option Expr} {Q : Option Int → Mem → Prop} (h : XP X e ρ M Q) : ∀ F σ H, S0 F H M → EnvOk F σ ρ → ∀ R : Option Int → Hp → Prop, (∀ o M' F' H', Q o M' → Step F H M F' H' M' → S0 F' H' M' → R o H') → wP X e σ H R := fun F σ H s ev R k => by
  cases e with
  | none => exact fun pins s0 I => po_none.run pins s0 σ H R I (k none M F H h (Step.refl _ _ _) s)
  | some e => exact fun pins s0 I => (po_some pe_w).run pins s0 σ H R I (h F σ H s ev _ fun v d M1 F1 H1 q st s1 r => by
      obtain ⟨i, rfl, q⟩ := q
      cases r
      exact ⟨i, rfl, k _ M1 F1 H1 q st s1⟩)
def cutD (xs : List D) (lo hi : Option Int) : List D := (xs.drop (HT.sIx xs.length 0 lo)).take (HT.sIx xs.length xs.length hi - HT.sIx xs.length 0 lo)
theorem RpA.cut {F : Hp} {xs : List V} {ds : List D} (r : RpA F xs ds) (lo hi : Option Int) : RpA F (cutV xs lo hi) (cutD ds lo hi) := by
  unfold cutV cutD
  rw [r.length]
  exact (r.drop _).take _
theorem xe_slL {lo hi : Option Expr} {p2 : Pos} (h : XE X e ρ M fun d M1 => ∃ ds, SeesL M1 d ds ∧ XP X lo ρ M1 fun l M2 => XP X hi ρ M2 fun u M3 => SeesL M3 d ds ∧ Q (.lst (cutD ds l u)) M3) : XE X (.Subscript e (.Slice lo hi none p2) pos) ρ M Q := fun F σ H s ev R k =>
  PE.w (pe_slice sl_list pe_w po_w po_w) (h F σ H s ev _ fun v d M1 F1 H1 q st s1 r => by
    obtain ⟨ds, sl, q⟩ := q
    refine xp_w q F1 σ H1 s1 (ev.mono st.ex) _ fun l M2 F2 H2 q2 st2 s2 => xp_w q2 F2 σ H2 s2 (ev.mono (st.trans st2).ex) _ fun u M3 F3 H3 q3 st3 s3 => ?_
    obtain ⟨p, xs, rfl, e1, ra⟩ := q3.1.get s3 (r.mono (st2.trans st3).ex.le)
    refine ⟨p, xs, rfl, SqL.of e1, fun l' hl => ?_⟩
    obtain ⟨s4, st4⟩ := s3.new hl (.lst (cutV xs l u))
    exact k _ _ M3 _ _ q3.2 (((st.trans st2).trans st3).trans st4) s4 (.lst upd_same ((ra.cut l u).mono st4.ex.le)))
theorem xe_slT {lo hi : Option Expr} {p2 : Pos} (h : XE X e ρ M fun d M1 => ∃ ds, d = .tup ds ∧ XP X lo ρ M1 fun l M2 => XP X hi ρ M2 fun u M3 => Q (.tup (cutD ds l u)) M3) : XE X (.Subscript e (.Slice lo hi none p2) pos) ρ M Q := fun F σ H s ev R k =>
  PE.w (pe_slice sl_tupA pe_w po_w po_w) (h F σ H s ev _ fun v d M1 F1 H1 q st s1 r => by
    obtain ⟨ds, rfl, q⟩ := q
    refine xp_w q F1 σ H1 s1 (ev.mono st.ex) _ fun l M2 F2 H2 q2 st2 s2 => xp_w q2 F2 σ H2 s2 (ev.mono (st.trans st2).ex) _ fun u M3 F3 H3 q3 st3 s3 => ?_
    have r3 := r.mono (st2.trans st3).ex.le
    obtain ⟨p, xs, rfl, e1, ra⟩ := tup_get s3 r3
    refine ⟨p, xs, rfl, SqT.of e1, fun hw => ?_, fun hw l' hl => ?_⟩
    · have e : cutD ds l u = ds := by
        unfold cutD
        rw [← ra.length, hw.1, hw.2, ra.length]
        simp
      rw [e] at q3
      exact k _ _ M3 _ _ q3 ((st.trans st2).trans st3) s3 r3
    · obtain ⟨s4, st4⟩ := s3.new hl (.tup (cutV xs l u))
      exact k _ _ M3 _ _ q3 (((st.trans st2).trans st3).trans st4) s4 (.tup upd_same ((ra.cut l u).mono st4.ex.le)))
theorem xe_revL {k : Nat} {p1 p2 p3 : Pos} (h : XE X e ρ M fun d M1 => ∃ ds, SeesL M1 d ds ∧ Q (.lst ds.reverse) M1) : XE X (.Subscript e (.Slice none none (some (.UnaryOp .USub (.Constant (.int 1) k p1) p2)) p3) pos) ρ M Q := fun F σ H s ev R kk =>
  PE.w (pe_revL pe_w) (h F σ H s ev _ fun v d M1 F1 H1 q st s1 r => by
    obtain ⟨ds, sl, q⟩ := q
    obtain ⟨p, xs, rfl, e1, ra⟩ := sl.get s1 r
    refine ⟨p, xs, rfl, SqL.of e1, fun l hl => ?_⟩
    obtain ⟨s4, st4⟩ := s1.new hl (.lst xs.reverse)
    exact kk _ _ M1 _ _ q (st.trans st4) s4 (.lst upd_same (ra.reverse.mono st4.ex.le)))
theorem cutD_from (xs : List D) (n : Nat) : cutD xs (some (n : Int)) none = xs.drop n := by
  unfold cutD
  rw [HT.sIx_nat, HT.sIx_none]
  by_cases h : n ≤ xs.length
  · rw [Nat.min_eq_left h, List.take_of_length_le (by rw [List.length_drop]; omega)]
  · rw [Nat.min_eq_right (by omega), List.drop_of_length_le (Nat.le_refl _), List.drop_of_length_le (by omega)]; simp
theorem cutD_to (xs : List D) (n : Nat) : cutD xs none (some (n : Int)) = xs.take n := by
  unfold cutD
  rw [HT.sIx_nat, HT.sIx_none]
  rw [List.drop_zero, Nat.sub_zero]
  by_cases h : n ≤ xs.length
  · rw [Nat.min_eq_left h]
  · rw [Nat.min_eq_right (by omega), List.take_of_length_le (Nat.le_refl _), List.take_of_length_le (by omega)]
end
end Dl
end
section
set_option maxHeartbeats 2000000
/-! Dl6: list(d.values()), d.update(d2), dict comprehensions, xs.extend(ys), == of data, sorted lists of texts. -/
namespace Dl
open PySem PySem.Spec PyProof.Rows L2
section
variable {X : Cx} {e a b c : Expr} {es : List Expr} {st : Stmt} {sts body orelse : List Stmt} {ρ : Env} {M : Mem} {Q : KE} {E : EndsD} {pos : Pos} {tg : Expr}

/-! ### list(d.values()) -/
abbrev valuesOb (d : Addr) : Obj := { cls := .type "dict_values", data := .fields #[.ref d] }
def valuesO (p d : Addr) : HO := .ext fun h => h.get? p = some (valuesOb d)
theorem valuesO_ok {P : Program} {w : World} {H : Hp} {h : Heap} {p d : Addr} (e : h.get? p = some (valuesOb d)) : ObjOk P w H h p (valuesO p d) :=
  ⟨e, ⟨_, e⟩, fun h1 h2 q k => k _ q⟩
def tVals (t : TE) : TE := fun σ H Q => t σ H fun x H1 => ∃ a kvs, x = .ref a ∧ Rd H1 a (.dK kvs) ∧ ∀ p, H1 p = none → Q (.ref p) (upd H1 p (valuesO p a))
theorem pe_vals {o : Expr} {t : TE} {apos cpos : Pos} (ho : PE X o t) (hbase : attributeBase o "values" X.env (eval o X.env) = eval o X.env := by rfl) (hline : (apos.endLine == cpos.line) = true := by rfl) : PE X (.Call (.Attribute o "values" apos) [] [] cpos) (tVals t) := by
  refine ⟨fun pins s σ H Q I h => ?_⟩
  refine wpAny_Call_method0_late hbase hline (thn (ho.run pins s σ H _ I h) fun v s1 ⟨x, H1, I1, r1, d, kvs, ex, hd, q1⟩ => ?_)
  subst ex
  cases r1
  obtain ⟨z, lo, vs, rel, dd⟩ := dk_rd I1.hok hd
  refine ⟨"dict", "dict.values", F.plainAttrs_dict, F.slot_dict_values, F.type_dict_values, dd.typeIs, dd.mapOf.noDict, Calls.callWith_builtin rfl (PySem.evalArgs_none ?_)⟩
  refine call_meetsIn F.slot_dict_values dd.typeIs F.entry_dict_values (F.args_dict_values_1 _) (meets_dict_values (mixKind X.prog X.w) d lo) ⟨⟨vs, dd⟩, ?_⟩
  exact ⟨.ref s1.heap.objs.size, _, I1.laid (t' := s1.toks) (o := valuesO s1.heap.objs.size d) (fun b u e => Heap.get?_push_of_some _ e) (Nat.le_refl _) (valuesO_ok (Heap.get?_push_size _ rfl)), rfl, q1 _ (I1.hok.fresh (Nat.le_refl _))⟩
theorem call_listVals (hcalm : X.calm = true) : CallR X (.type "list") (fun xs H Q => ∃ (p a : Addr) (kvs : List (Key × V)), xs = [.ref p] ∧ H p = some (valuesO p a) ∧ Rd H a (.dK kvs) ∧ ∀ l, H l = none → Q (.ref l) (upd H l (.lst (kvs.map fun kv => kv.2)))) := by
  intro pins s σ H xs us Q I r q
  obtain ⟨p, a, kvs, ex, hp, hd, q⟩ := q
  subst ex
  obtain ⟨u, eu, rx⟩ := vals1 r
  subst eu
  cases rx
  obtain ⟨z, lo, vs, rel, dd⟩ := dk_rd I.hok hd
  obtain ⟨ep, hat⟩ := dd.dictAt
  have hv : s.heap.get? p = some (valuesOb a) := (show ObjOk X.prog X.w H s.heap p (valuesO p a) from I.hok p _ hp).1
  refine PySem.W.kdl_call (PySem.W.kdl_values (knd := mixKind X.prog X.w) (kvs := vs) (ep := ep)) (I.ok.hd hcalm) ⟨⟨_, hv, rfl, rfl⟩, hat⟩ (by rw [← rel.length]; exact z) fun h' tk acc c' hk hD hacc => ?_
  have ev : acc.toList = vs.map (·.2) := PySem.W.kdl_vals_eq (K := Key) acc.toList (by rw [Array.length_toList]; exact hacc.1) fun j v e => hacc.2 j v (by rw [← Array.getElem?_toList]; exact e)
  have hv : Vals (kvs.map fun kv => kv.2) acc.toList := by
    rw [ev]
    have : ∀ {kvs : List (Key × V)} {vs : List (Key × Value)}, KV kvs vs → Vals (kvs.map fun kv => kv.2) (vs.map (·.2)) := by
      intro kvs
      induction kvs with
      | nil => intro vs r; cases r; exact .nil
      | cons p r ih => intro vs q; cases q with | cons q1 q2 => exact .cons q1.2 (ih q2)
    exact this rel
  refine ⟨.ref s.heap.objs.size, upd H s.heap.objs.size (.lst (kvs.map fun kv => kv.2)), I.laid (t' := tk) hk (Nat.le_refl _)
    (show ObjOk X.prog X.w _ _ _ (.lst (kvs.map fun kv => kv.2)) from ⟨by rw [List.length_map]; exact z, acc.toList, c', hv, by rw [Array.toArray_toList]; exact hD⟩), rfl, q _ (I.hok.fresh (Nat.le_refl _))⟩
theorem RpK.vals {F : Hp} : ∀ {xs : List (Key × V)} {ds : List (Key × D)}, RpK F xs ds → RpA F (xs.map fun kv => kv.2) (ds.map fun kv => kv.2)
  | _, _, .nil => .nil
  | _, _, .cons r t => .cons r t.vals
theorem xe_listVals {o : Expr} {p apos cpos : Pos} (h : XE X o ρ M fun d M1 => ∃ kds, SeesK M1 d kds ∧ Q (.lst (kds.map fun kv => kv.2)) M1) (hm : X.mg "list" = none) (hg : Gl X "list" := by rfl) (hc : X.calm = true := by rfl) (hbase : attributeBase o "values" X.env (eval o X.env) = eval o X.env := by rfl) (hline : (apos.endLine == cpos.line) = true := by rfl)
    (he : starEach [.Call (.Attribute o "values" apos) [] [] cpos] X.env = (false, eval (.Call (.Attribute o "values" apos) [] [] cpos) X.env) :: starEach [] X.env := by rfl) (hpl : (backTo pos (starEach [] X.env)).any (·.1) = false := by rfl) :
    XE X (.Call (.Name "list" p) [.Call (.Attribute o "values" apos) [] [] cpos] [] pos) ρ M Q := fun F σ H s ev R k => by
  refine PE.w (pe_callTy (T := "list") (call_listVals hc) hg hm (by decide +kernel) (pa_cons (pe_vals (pe_w (X := X) (e := o)) hbase hline) pa_nil he) (by decide) (by decide) he hpl) ?_
  refine h F σ H s ev _ fun v d M1 F1 H1 q st s1 r => ?_
  obtain ⟨kds, sk, q⟩ := q
  obtain ⟨a, kvs, rfl, e1, rk⟩ := sk.get s1 r
  refine ⟨a, kvs, rfl, e1, fun p hp => ?_⟩
  obtain ⟨s2, st2⟩ := s1.new hp (valuesO p a)
  refine ⟨p, a, kvs, rfl, upd_same, ?_, fun l hl => ?_⟩
  · rcases e1 with e1 | ⟨od, e1⟩
    · exact .inl (by rw [upd_ne (ne_of_none e1 hp)]; exact e1)
    · exact .inr ⟨od, by rw [upd_ne (ne_of_none e1 hp)]; exact e1⟩
  · obtain ⟨s3, st3⟩ := s2.new hl (.lst (kvs.map fun kv => kv.2))
    exact k _ _ M1 _ _ q ((st.trans st2).trans st3) s3 (.lst upd_same (rk.vals.mono (st2.trans st3).ex.le))

/-! ### d.update(d2) -/
def mergeD (kds more : List (Key × D)) : List (Key × D) := more.foldl (fun acc kv => putD acc kv.1 kv.2) kds
theorem RpK.merge {F : Hp} : ∀ {ms : List (Key × V)} {more : List (Key × D)} {xs : List (Key × V)} {kds : List (Key × D)}, RpK F ms more → RpK F xs kds → RpK F (mergeK xs ms) (mergeD kds more)
  | [], _, _, _, .nil, q => q
  | (k, _) :: ms, _ :: more, _, _, .cons r t, q => RpK.merge (ms := ms) (more := more) t (q.put k r)
theorem mt_update : MtR X "dict.update" (fun x vs H Q => ∃ (a b : Addr) (kvs more : List (Key × V)), x = .ref a ∧ vs = [.ref b] ∧ a ≠ b ∧ H a = some (.dK kvs) ∧ Rd H b (.dK more) ∧ kvs.length + more.length ≤ sizeLine ∧ Q .non (upd H a (.dK (mergeK kvs more)))) := by
  intro pins s σ H x vs v us Q I rx rv h
  obtain ⟨a, b, kvs, more, rfl, rfl, hab, ha, hb, hz, q⟩ := h
  cases rx
  obtain ⟨u, rfl, ru⟩ := rv.one
  cases ru
  obtain ⟨z, lo, vs, rel, dd⟩ := dk_of I.hok ha
  obtain ⟨z2, lo2, vs2, rel2, dd2⟩ := dk_rd I.hok hb
  refine call_meetsIn F.slot_dict_update dd.typeIs F.entry_dict_update (F.args_dict_update_2 _ _) (meets_dict_update (mixKind X.prog X.w) a b hab lo2) ⟨vs, vs2, dd, dd2, by rw [← rel.length, ← rel2.length]; exact hz, fun h' d' _ sb => ?_⟩
  exact ⟨.non, _, d_write (t' := s.toks) I (by rw [ha]; exact True.intro) sb (let ⟨o, _, _, e, _⟩ := d'; ⟨o, e⟩) (dk_new (Nat.le_trans (length_mergeK _ _) hz) lo (KV.merge rel2 rel) d'), rfl, q⟩
theorem xe_upd (i : Nat) {o : Expr} {apos cpos : Pos} (h : XE X o ρ M fun d1 M1 => ∃ (l : Addr) (kds0 : List (Key × D)) (j0 : Nat), d1 = .v (.ref l) ∧ M1[j0]? = some (l, MO.dct kds0) ∧ XE X e ρ M1 fun d2 M2 => ∃ kds more, M2[i]? = some (l, .dct kds) ∧ (d2 = .dct more ∨ ∃ (j : Nat) (b : Addr), d2 = .v (.ref b) ∧ j ≠ i ∧ M2[j]? = some (b, MO.dct more)) ∧ kds.length + more.length ≤ 100000 ∧ Q (.v .non) (M2.set i (l, .dct (mergeD kds more))))
    (hbase : attributeBase o "update" X.env (eval o X.env) = eval o X.env := by rfl)
    (hfew : ((backTo cpos (starEach [e] X.env)).all (fun x => !x.1) && (backToKw cpos (keywordEach [] X.env)).all (fun x => x.1.isSome)
      && decide (([e] : List Expr).length + ([] : List Keyword).length + (if ([] : List Keyword).isEmpty then 0 else 1) < 30)) = true := by rfl)
    (hline : (apos.endLine == cpos.line) = true := by rfl) (hs : starEach [e] X.env = (false, eval e X.env) :: starEach [] X.env := by rfl) (hplain : (backTo cpos (starEach [] X.env)).any (·.1) = false := by rfl) :
    XE X (.Call (.Attribute o "update" apos) [e] [] cpos) ρ M Q := fun F σ H s ev R k => by
  refine PE.w (pe_bm PySem.F.plainAttrs_dict PySem.F.slot_dict_update PySem.F.type_dict_update mt_update pe_w (pa_cons pe_w pa_nil hs) hbase hfew hline hs hplain) (h F σ H s ev _ fun v d1 M1 F1 H1 q st s1 r1 => ?_)
  obtain ⟨l, kds0, j0, rfl, hm0, q⟩ := q
  cases r1
  obtain ⟨_, xs0, e0, _⟩ := s1.at hm0
  refine ⟨.inr (.inr (.inl ⟨rfl, .inl ⟨_, e0⟩⟩)), q F1 σ H1 s1 (ev.mono st.ex) _ fun x d2 M2 F2 H2 q2 st2 s2 r2 => ?_⟩
  obtain ⟨kds, more, hm, hd2, hz, q2⟩ := q2
  obtain ⟨hF, kvs, e2, rk⟩ := s2.at hm
  obtain ⟨b, ms, rfl, eb, rm, hne⟩ : ∃ b ms, x = .ref b ∧ Rd H2 b (.dK ms) ∧ RpK F2 ms more ∧ l ≠ b := by
    rcases hd2 with rfl | ⟨j, b, rfl, hj, hmb⟩
    · cases r2 with
      | @dct b od ms _ eb rm => exact ⟨b, ms, rfl, .inr ⟨od, s2.le _ _ eb⟩, rm, fun z => by subst z; rw [hF] at eb; cases eb⟩
    · cases r2
      obtain ⟨hFb, ms, eb, rm⟩ := s2.at hmb
      refine ⟨b, ms, rfl, .inl eb, rm, fun z => hj ?_⟩
      subst z
      have h1 : (M2.map (·.1))[i]? = some l := by rw [List.getElem?_map, hm]; rfl
      have h2 : (M2.map (·.1))[j]? = some l := by rw [List.getElem?_map, hmb]; rfl
      obtain ⟨b1, c1⟩ := List.getElem?_eq_some_iff.mp h1
      obtain ⟨b2, c2⟩ := List.getElem?_eq_some_iff.mp h2
      exact (List.getElem_inj s2.nd).mp (c2.trans c1.symm)
  refine ⟨l, b, kvs, ms, rfl, rfl, hne, e2, eb, by rw [rk.length, rm.length]; exact sz_ok hz, ?_⟩
  obtain ⟨s3, st3⟩ := s2.write (m := .dct (mergeD kds more)) (u := .dK (mergeK kvs ms)) hm ⟨_, upd_same, rm.merge rk⟩
  exact k _ _ _ _ _ q2 ((st.trans st2).trans st3) s3 (.v _)

/-! ### xs.extend(ys) -/
theorem mt_extend2 : MtR X "list.extend" rExtend := fun pins s σ H x xs v us Q I rx rv h => mt_extend pins s σ H x xs v us Q I rx rv h
theorem xe_extend (i : Nat) {o : Expr} {apos cpos : Pos} (h : XE X o ρ M fun d1 M1 => ∃ (l : Addr) (ds0 : List D) (j0 : Nat), d1 = .v (.ref l) ∧ M1[j0]? = some (l, MO.lst ds0) ∧ XE X e ρ M1 fun d2 M2 => ∃ ds more, M2[i]? = some (l, .lst ds) ∧ d2 = .lst more ∧ ds.length + more.length ≤ 100000 ∧ Q (.v .non) (M2.set i (l, .lst (ds ++ more))))
    (hbase : attributeBase o "extend" X.env (eval o X.env) = eval o X.env := by rfl)
    (hfew : ((backTo cpos (starEach [e] X.env)).all (fun x => !x.1) && (backToKw cpos (keywordEach [] X.env)).all (fun x => x.1.isSome)
      && decide (([e] : List Expr).length + ([] : List Keyword).length + (if ([] : List Keyword).isEmpty then 0 else 1) < 30)) = true := by rfl)
    (hline : (apos.endLine == cpos.line) = true := by rfl) (hs : starEach [e] X.env = (false, eval e X.env) :: starEach [] X.env := by rfl) (hplain : (backTo cpos (starEach [] X.env)).any (·.1) = false := by rfl) :
    XE X (.Call (.Attribute o "extend" apos) [e] [] cpos) ρ M Q := fun F σ H s ev R k => by
  refine PE.w (pe_bm PySem.F.plainAttrs_list PySem.F.slot_list_extend PySem.F.type_list_extend mt_extend2 pe_w (pa_cons pe_w pa_nil hs) hbase hfew hline hs hplain) (h F σ H s ev _ fun v d1 M1 F1 H1 q st s1 r1 => ?_)
  obtain ⟨l, ds0, j0, rfl, hm0, q⟩ := q
  cases r1
  obtain ⟨_, xs0, e0, _⟩ := s1.at hm0
  refine ⟨.inl ⟨rfl, _, SqL.of e0⟩, q F1 σ H1 s1 (ev.mono st.ex) _ fun x d2 M2 F2 H2 q2 st2 s2 r2 => ?_⟩
  obtain ⟨ds, more, hm, rfl, hz, q2⟩ := q2
  obtain ⟨hF, xs, e2, ra⟩ := s2.at hm
  cases r2 with
  | @lst b zs _ eb rb =>
    refine ⟨l, b, xs, zs, rfl, rfl, e2, s2.le _ _ eb, by rw [ra.length, rb.length]; exact sz_ok hz, ?_⟩
    obtain ⟨s3, st3⟩ := s2.write (m := .lst (ds ++ more)) (u := .lst (xs ++ zs)) hm ⟨_, upd_same, ra.append rb⟩
    exact k _ _ _ _ _ q2 ((st.trans st2).trans st3) s3 (.v _)

/-! ### dict comprehensions -/
structure DcOk (X : Cx) (scope : Scope) (tg : Expr) (ifs : List Expr) (vs : List Nat) (ρ : Env) (ds : List D) (ok : Mem → Prop) (kx vx : Expr) (P : Nat → List (Key × D) → Mem → Prop) : Prop where
  ok : ∀ i acc M', i ≤ ds.length → P i acc M' → ok M'
  sz : ∀ i acc M', i ≤ ds.length → P i acc M' → acc.length < 100000
  turn : ∀ i d acc M', ds[i]? = some d → P i acc M' → XGb X scope tg vs d (wipeD ρ vs) M' fun ρ2 M2 => XTb X scope ifs ρ2 M2 fun z M3 =>
    (z = true → XEb X scope kx ρ2 M3 fun y M4 => ∃ k, y = .v (kV k) ∧ XEb X scope vx ρ2 M4 fun x M5 => P (i + 1) (putD acc k x) M5) ∧ (z = false → P (i + 1) acc M3)
theorem dc_road {J : It} {tg kx vx : Expr} {ifs : List Expr} {scope : Scope} {own : List (Str × Nat)} {F1 H1 : Hp} {M1 : Mem} {σ : L2.St} {ds : List D} {ok : Mem → Prop} {P : Nat → List (Key × D) → Mem → Prop} {Qd : V → Hp → Prop}
    (s1 : S0 F1 H1 M1) (ev : EnvOk F1 σ ρ) (hl : σ.length = X.N.length) (src : Src J F1 ok ds) (L : DcOk X scope tg ifs (own.map (·.2)) ρ ds ok kx vx P) (p0 : P 0 [] M1)
    (done : ∀ acc M' F' H' D xs, P ds.length acc M' → H1 D = none → Step F1 H1 M1 F' H' M' → S0 F' H' M' → H' D = some (.dK xs) → RpK F' xs acc → D ∉ M'.map (·.1) → F' D = none → Qd (.ref D) H') :
    ∀ D, H1 D = none → ∃ W : Nat → Nat → Hp → Prop, (∃ m, W 0 m (upd H1 D (.dK []))) ∧ ∀ i m H, W i m H →
      (J.stop i H ∧ Qd (.ref D) H) ∨ (J.go i H ∧ ∃ Nx : Hp → Prop, (∀ H', Nx H' → ∃ m', m' < m ∧ W (i + 1) m' H') ∧ ∀ x H', J.yld i H x H' → wGb X scope tg x (wipe σ (own.map (·.2))) H' fun σ2 H2 => wipe σ2 (own.map (·.2)) = wipe σ (own.map (·.2)) ∧ wTb X scope ifs σ2 H2 fun b H3 =>
        if b = true then wEb X scope kx σ2 H3 fun y H4 => wEb X scope vx σ2 H4 fun z H5 => ∃ kvs k, y = kV k ∧ H5 D = some (.dK kvs) ∧ kvs.length < sizeLine ∧ Nx (upd H5 D (.dK (putK kvs k z))) else Nx H3) := by
  intro D hD
  let Wp : Nat → Hp → Prop := fun i H' => ∃ F' M' acc xs, P i acc M' ∧ Step F1 H1 M1 F' H' M' ∧ S0 F' H' M' ∧ H' D = some (.dK xs) ∧ RpK F' xs acc ∧ D ∉ M'.map (·.1) ∧ F' D = none
  have hF1 : F1 D = none := s1.free hD
  have hM1 : D ∉ M1.map (·.1) := fun z => by
    obtain ⟨q, hq, e⟩ := List.mem_map.mp z
    exact (s1.mem q hq).2.ne (e ▸ hD)
  refine ⟨fun i m H' => m = ds.length - i ∧ i ≤ ds.length ∧ Wp i H', ⟨_, rfl, Nat.zero_le _, F1, M1, [], [], p0, ?_, ?_, upd_same, .nil, hM1, hF1⟩, ?_⟩
  · exact ⟨Ex.refl _, fun _ _ e => .inl e, fun b o e _ => by rw [upd_ne (ne_of_none e hD)]; exact e, fun b e => by
      by_cases h : b = D
      · subst h; rw [upd_same]; intro z; cases z
      · rw [upd_ne h]; exact e, fun _ h => .inl h⟩
  · refine ⟨fun b u e => ?_, fun q hq => ⟨(s1.mem q hq).1, (s1.mem q hq).2.keep (Ex.refl _) (upd_ne fun e => hM1 (List.mem_map.mpr ⟨q, hq, e⟩))⟩, s1.nd⟩
    have h : b ≠ D := fun h => by subst h; rw [hF1] at e; cases e
    rw [upd_ne h]; exact s1.le b u e
  rintro i m H' ⟨rfl, hi, F', M', acc, xs, p, st', s', eD, ra, nD, fD⟩
  have o := L.ok i acc M' hi p
  by_cases hlt : i < ds.length
  · refine .inr ⟨src.go i F' H' M' st'.ex s' o hlt, fun H2 => i + 1 ≤ ds.length ∧ Wp (i + 1) H2, fun H2 n => ⟨ds.length - (i + 1), by omega, rfl, n.1, n.2⟩, fun x H2 y => ?_⟩
    obtain ⟨F2, s2, st2, r⟩ := src.yld i ds[i] x F' H' H2 M' st'.ex s' o (by simp) y
    have carry : ∀ {F3 H3 : Hp} {M3 : Mem}, Step F' H' M' F3 H3 M3 → H3 D = some (.dK xs) ∧ D ∉ M3.map (·.1) ∧ F3 D = none := fun {F3 H3 M3} t => by
      refine ⟨t.fr D _ eD nD, fun z => ?_, ?_⟩
      · rcases t.mo D z with h | h
        · exact nD h
        · rw [eD] at h; cases h
      · cases q : F3 D with
        | none => rfl
        | some u =>
          rcases t.kn D u q with h | h | h
          · rw [fD] at h; cases h
          · rw [eD] at h; cases h
          · exact absurd h nD
    intro sb Hb C cl fp
    have hlw : (wipe σ (own.map (·.2))).length = (X.blk sb Hb scope (compEnvC scope cl C X.env) fp).N.length := by rw [wipe_length]; exact hl
    refine L.turn i ds[i] acc M' (by simp) p sb Hb C cl fp F2 _ H2 x s2 ((ev.mono (st'.trans st2).ex).wipe _) r hlw _ fun σ3 ρ3 M3 F3 H3 q3 st3 s3 ev3 hw3 => ⟨wipe_eq (by rw [hw3.1, wipe_length]) hw3.2, ?_⟩
    intro sb2 Hb2 C2 cl2 fp2
    refine q3 sb2 Hb2 C2 cl2 fp2 F3 σ3 H3 s3 ev3 _ fun z M4 F4 H4 q4 st4 s4 => b_ite (fun hz => ?_) (fun hz => ?_)
    · intro sb3 Hb3 C3 cl3 fp3
      refine q4.1 hz sb3 Hb3 C3 cl3 fp3 F4 σ3 H4 s4 (ev3.mono st4.ex) _ fun v d M5 F5 H5 q5 st5 s5 r5 => ?_
      obtain ⟨k, rfl, q5⟩ := q5
      cases r5
      intro sb4 Hb4 C4 cl4 fp4
      refine q5 sb4 Hb4 C4 cl4 fp4 F5 σ3 H5 s5 ((ev3.mono st4.ex).mono st5.ex) _ fun v d M6 F6 H6 q6 st6 s6 r6 => ?_
      have sA := (((st2.trans st3).trans st4).trans st5).trans st6
      obtain ⟨eD5, nD5, fD5⟩ := carry sA
      have hz' := L.sz i acc M' hi p
      refine ⟨xs, k, rfl, eD5, by rw [ra.length]; exact sz_lt hz', hlt, F6, M6, putD acc k d, putK xs k v, q6, ?_, ?_, upd_same, (ra.mono sA.ex.le).put k r6, nD5, fD5⟩
      · have sB := st'.trans sA
        refine ⟨sB.ex, sB.kn, fun b u e n => ?_, fun b e => ?_, sB.mo⟩
        · have h : b ≠ D := fun h => by subst h; rw [hD] at e; cases e
          rw [upd_ne h]; exact sB.fr b u e n
        · by_cases h : b = D
          · subst h; rw [upd_same]; intro z; cases z
          · rw [upd_ne h]; exact sB.st b e
      · refine ⟨fun b u e => ?_, fun q hq => ⟨(s6.mem q hq).1, (s6.mem q hq).2.keep (Ex.refl _) (upd_ne fun e => nD5 (List.mem_map.mpr ⟨q, hq, e⟩))⟩, s6.nd⟩
        have h : b ≠ D := fun h => by subst h; rw [fD5] at e; cases e
        rw [upd_ne h]; exact s6.le b u e
    · have sA := (st2.trans st3).trans st4
      obtain ⟨eD5, nD5, fD5⟩ := carry sA
      exact ⟨hlt, F4, M4, acc, xs, q4.2 hz, st'.trans sA, s4, eD5, ra.mono sA.ex.le, nD5, fD5⟩
  · have e : i = ds.length := by omega
    subst e
    exact .inl ⟨src.stop _ F' H' M' st'.ex s' o (Nat.le_refl _), done acc M' F' H' D xs p hD st' s' eD ra nD fD⟩
/-- {k: v for tg in iter if ..}: a dict that may be changed -/
theorem xe_dcM (own : List (Str × Nat)) {kx vx iter : Expr} {ifs : List Expr} {scope : Scope} (h : XI X tg iter ρ M fun ds ok M1 => ∃ P : Nat → List (Key × D) → Mem → Prop, P 0 [] M1 ∧ DcOk X scope tg ifs (own.map (·.2)) ρ ds ok kx vx P ∧ ∀ acc M', P ds.length acc M' → ∀ l, Q (.v (.ref l)) ((l, .dct acc) :: M'))
    (bk : BlkOk X.N X.env.scope scope own) (hN : X.N.Nodup := by assumption) (hc : X.calm = true := by rfl) (hs : ∀ x, foldedSetIterable iter X.env x = pure x := by intro _; rfl) : XE X (.DictComp kx vx [⟨tg, iter, ifs, 0⟩] scope pos) ρ M Q := fun F σ H s ev R k => by
  intro pins s0 I
  have hl : σ.length = X.N.length := I.len
  refine PE.w (pe_dc (tk := wEb X scope kx) (tv := wEb X scope vx) (g := wGb X scope tg) (tt := wTb X scope ifs) hc hN pi_w bk (fun s H C cl fp => ⟨fun pins s1 σ H v u Q I r hh => hh s _ C cl fp pins s1 u I r⟩) (fun s H C cl fp => ⟨fun pins s1 σ H Q I hh => hh s _ C cl fp pins s1 I⟩) (fun s H C cl fp => ⟨fun pins s1 σ H Q I hh => hh s _ C cl fp pins s1 I⟩) (fun s H C cl fp => ⟨fun pins s1 σ H Q I hh => hh s _ C cl fp pins s1 I⟩) hs) (h F σ H s ev _ fun J ds ok M1 F1 H1 q st s1 src => ?_) pins s0 I
  obtain ⟨P, p0, L, done⟩ := q
  refine dc_road s1 (ev.mono st.ex) hl src L p0 fun acc M' F' H' D xs p hD st' s' eD ra nD fD => ?_
  have sA := st.trans st'
  refine k (.ref D) (.v (.ref D)) ((D, .dct acc) :: M') F' H' (done acc M' p D) ⟨sA.ex, sA.kn, sA.fr, sA.st, fun b h => ?_⟩ ⟨s'.le, fun q hq => ?_, ?_⟩ (.v _)
  · rw [List.map_cons] at h
    rcases List.mem_cons.mp h with rfl | h
    · refine .inr ?_
      cases q : H b with
      | none => rfl
      | some v => exact absurd hD (st.st b (by rw [q]; intro z; cases z))
    · exact sA.mo b h
  · rcases List.mem_cons.mp hq with rfl | hq
    · exact ⟨fD, xs, eD, ra⟩
    · exact s'.mem q hq
  · rw [List.map_cons, List.nodup_cons]
    exact ⟨nD, s'.nd⟩
/-- .. without ifs, item by item -/
theorem dc_pure {kx vx : Expr} {scope : Scope} {vs : List Nat} {ds : List D} {ok : Mem → Prop} (f : D → Key) (g : D → D) (hok : ok M) (hz : ds.length < 100000)
    (h : ∀ d, d ∈ ds → XGb X scope tg vs d (wipeD ρ vs) M fun ρ2 M2 => M2 = M ∧ XEb X scope kx ρ2 M fun y M4 => y = .v (kV (f d)) ∧ M4 = M ∧ XEb X scope vx ρ2 M fun x M5 => x = g d ∧ M5 = M) :
    DcOk X scope tg [] vs ρ ds ok kx vx fun i acc M' => acc = mergeD [] ((ds.take i).map fun d => (f d, g d)) ∧ M' = M where
  ok := fun i acc M' _ p => by rw [p.2]; exact hok
  sz := fun i acc M' hi p => by
    have hm : ∀ (l : List (Key × D)) (a : List (Key × D)), (mergeD a l).length ≤ a.length + l.length := by
      intro l
      induction l with
      | nil => intro a; exact Nat.le_refl _
      | cons p l ih =>
        intro a
        have h1 := ih (putD a p.1 p.2)
        have h2 := length_putD a p.1 p.2
        show (mergeD (putD a p.1 p.2) l).length ≤ _
        rw [List.length_cons]; omega
    rw [p.1]
    have h1 := hm ((ds.take i).map fun d => (f d, g d)) []
    rw [List.length_map, List.length_take] at h1
    simp only [List.length_nil] at h1
    omega
  turn := fun i d acc M' hd p => by
    obtain ⟨rfl, rfl⟩ := p
    have hm : d ∈ ds := List.mem_of_getElem? hd
    have ht : mergeD [] ((ds.take (i + 1)).map fun d => (f d, g d)) = putD (mergeD [] ((ds.take i).map fun d => (f d, g d))) (f d) (g d) := by
      have e : ds.take (i + 1) = ds.take i ++ [d] := by rw [List.take_succ, hd]; rfl
      unfold mergeD
      rw [e, List.map_append, List.foldl_append]; rfl
    intro s H0 C cl fp
    refine (h d hm s H0 C cl fp).mono fun ρ2 M2 h2 => ?_
    obtain ⟨rfl, h2⟩ := h2
    intro s2 H2 C2 cl2 fp2
    refine xts_nil ⟨fun _ => ?_, fun z => by cases z⟩
    intro s4 H4 C4 cl4 fp4
    refine (h2 s4 H4 C4 cl4 fp4).mono fun y M4 q => ?_
    obtain ⟨rfl, rfl, q⟩ := q
    refine ⟨_, rfl, ?_⟩
    intro s5 H5 C5 cl5 fp5
    refine (q s5 H5 C5 cl5 fp5).mono fun x M5 q => ?_
    obtain ⟨rfl, rfl⟩ := q
    exact ⟨ht.symm, rfl⟩
theorem dc_pure_end {ds : List D} {f : D → Key} {g : D → D} {R : List (Key × D) → Mem → Prop} (h : R (mergeD [] (ds.map fun d => (f d, g d))) M) : ∀ acc M', (acc = mergeD [] ((ds.take ds.length).map fun d => (f d, g d)) ∧ M' = M) → R acc M' := by
  rintro acc M' ⟨rfl, rfl⟩
  rw [List.take_length]
  exact h

/-! ### == of data -/
mutual
def pdD : D → Option PyData
  | .v .non => some .none
  | .v (.bl b) => some (.bool b)
  | .v (.int i) => some (.int i)
  | .v (.str x) => some (.str x)
  | .lst ds => (pdA ds).map .list
  | .tup ds => (pdA ds).map .tuple
  | _ => none
def pdA : List D → Option (List PyData)
  | [] => some []
  | d :: ds => (pdD d).bind fun x => (pdA ds).map fun xs => x :: xs
end
mutual
theorem dp_of {K : PySem.W.Frag} {H : Hp} : ∀ {d : D} {v : V} {x : PyData}, pdD d = some x → Rp H v d → Dp K H v x
  | .v .non, _, _, e, r => by cases r; simp [pdD] at e; subst e; exact .non
  | .v (.bl b), _, _, e, r => by cases r; simp [pdD] at e; subst e; exact .bl b
  | .v (.int b), _, _, e, r => by cases r; simp [pdD] at e; subst e; exact .int b
  | .v (.str b), _, _, e, r => by cases r; simp [pdD] at e; subst e; exact .str b
  | .lst ds, _, _, e, r => by
    cases r with
    | lst e1 ra =>
      cases q : pdA ds with
      | none => rw [pdD, q] at e; cases e
      | some xs => rw [pdD, q] at e; cases e; exact .lst (SqL.of e1) (dpA_of q ra)
  | .tup ds, _, _, e, r => by
    cases r with
    | tup e1 ra =>
      cases q : pdA ds with
      | none => rw [pdD, q] at e; cases e
      | some xs => rw [pdD, q] at e; cases e; exact .tup (SqT.of e1) (dpA_of q ra)
  | .v (.ref _), _, _, e, _ => by simp [pdD] at e
  | .v (.ty _), _, _, e, _ => by simp [pdD] at e
  | .dct _, _, _, e, _ => by simp [pdD] at e
  | .obj _ _ _, _, _, e, _ => by simp [pdD] at e
theorem dpA_of {K : PySem.W.Frag} {H : Hp} : ∀ {ds : List D} {vs : List V} {xs : List PyData}, pdA ds = some xs → RpA H vs ds → DpAll K H vs xs
  | [], _, _, e, r => by cases r; simp [pdA] at e; subst e; exact .nil
  | d :: ds, _, _, e, r => by
    cases r with
    | cons r1 r2 =>
      cases q : pdD d with
      | none => rw [pdA, q] at e; cases e
      | some x =>
        cases q2 : pdA ds with
        | none => rw [pdA, q, q2] at e; cases e
        | some xs => rw [pdA, q, q2] at e; cases e; exact .cons (dp_of q r1) (dpA_of q2 r2)
end
theorem od_eqD {d1 d2 : D} {x y : PyData} (hu : X.A.units + 64 < cLine) (h1 : pdD d1 = some x) (h2 : pdD d2 = some y) (s1 : SeqAt.shaped x = true) (s2 : SeqAt.shaped y = true) (q : Q (.v (.bl (PyData.eqv x y))) M) : OpD X (compareOp .Eq) d1 d2 M Q := fun F H v w s r1 r2 R k =>
  OpR.w (op_eqD hu) ⟨x, y, dp_of h1 (r1.mono s.le), dp_of h2 (r2.mono s.le), s1, s2, k _ _ M F H q (Step.refl _ _ _) s (.v _)⟩
theorem od_neD {d1 d2 : D} {x y : PyData} (hu : X.A.units + 64 < cLine) (h1 : pdD d1 = some x) (h2 : pdD d2 = some y) (s1 : SeqAt.shaped x = true) (s2 : SeqAt.shaped y = true) (q : Q (.v (.bl (!PyData.eqv x y))) M) : OpD X (compareOp .NotEq) d1 d2 M Q := fun F H v w s r1 r2 R k =>
  OpR.w (op_neD hu) ⟨x, y, dp_of h1 (r1.mono s.le), dp_of h2 (r2.mono s.le), s1, s2, k _ _ M F H q (Step.refl _ _ _) s (.v _)⟩
/-- sorted(d) of a dict of texts -/
theorem cd_sortedK {d1 : D} {kds : List (Key × D)} {ks : List Str} (h : SeesK M d1 kds) (hk : kds.map (·.1) = ks.map Sum.inr) (h64 : ks.length < 64) (q : ∀ ys : List Str, ys.Perm ks → sortedS ys = true → Q (.lst (ys.map fun y => .v (.str y))) M) (hc : X.calm = true := by rfl) : CallD X (.builtin "sorted") [d1] M Q := fun F H xs s r R k => by
  cases r with
  | cons r1 r =>
    cases r
    obtain ⟨p, kvs, rfl, e1, rk⟩ := h.get s r1
    refine CallR.w (call_sortedD hc) ⟨p, kvs, ks, rfl, e1, rk.keys.trans hk, h64, fun ys l h1 h2 hl => ?_⟩
    obtain ⟨s2, st2⟩ := s.new hl (.lst (ys.map V.str))
    refine k _ _ M _ _ (q ys h1 h2) st2 s2 (.lst upd_same ?_)
    have := RpA.of_map (H := upd F l (.lst (ys.map V.str))) (ys.map V.str)
    rwa [List.map_map] at this
end
end Dl
end
section
set_option maxHeartbeats 2000000
/-! Pr: the program's places, what the walk asks of the top. -/
namespace Mm
open PySem PySem.Spec PyProof.Rows L2 Dl
abbrev PW : Program := PySem.Challenge.pw_missedmarks_k79_whole_the_first_reads_al
def topS (i : Nat) : Stmt := PW.main.body.getD i (.Pass ⟨0, 0, 0, 0⟩)
/-- a def, a method as the top has made it -/
structure DefG (K : PySem.W.Frag) (mg : Str → Option Value) (x : Str) (st : Stmt) : Prop where
  ex : ∃ f fd, FunD K x x (defArgs st) (defBody st) (defScope st) [] [] f fd ∧ mg x = some (.ref f)
structure DefM (K : PySem.W.Frag) (C : Addr) (m q : Str) (st : Stmt) : Prop where
  ex : ∃ f fd, FunD K m q (defArgs st) (defBody st) (defScope st) [] [] f fd ∧ Meth K C m f
structure DefC (K : PySem.W.Frag) (mg : Str → Option Value) (C : Addr) (x q : Str) (st : Stmt) : Prop where
  ex : ∃ f fd, FunD K "__init__" q (defArgs st) (defBody st) (defScope st) [] [] f fd ∧ Mk K C f ∧ mg x = some (.ref C)
/-- what a call does -/
structure CalG (P : Program) (w : World) (K : PySem.W.Frag) (mg : Str → Option Value) (base : Heap) (k : Nat) (x : Str) (W : Wp) : Prop where
  ex : ∃ f fd ps, FnOk P w K mg base CX0 k f fd ps (spW W) ∧ mg x = some (.ref f) ∧ PySem.W.keepIn K (.ref f) = true ∧ Binds K fd ps []
structure CalM (P : Program) (w : World) (K : PySem.W.Frag) (mg : Str → Option Value) (base : Heap) (k : Nat) (C : Addr) (m : Str) (W : Wp) : Prop where
  ex : ∃ f fd ps, FnOk P w K mg base CX0 k f fd ps (spW W) ∧ Meth K C m f ∧ Binds K fd ps []
structure CalC (P : Program) (w : World) (K : PySem.W.Frag) (mg : Str → Option Value) (base : Heap) (k : Nat) (x : Str) (C : Addr) (W : Wp) : Prop where
  ex : ∃ f fd ps, FnOk P w K mg base CX0 k f fd ps (spW W) ∧ Mk K C f ∧ mg x = some (.ref C) ∧ Binds K fd ps []
/-- how a def binds its arguments -/
abbrev BindOk (x q : Str) (st : Stmt) (ps : List Str) : Prop := ∀ (kV doc pm : Value) (an : Option Addr) (cdv ct : Value) (us : List Value), us.length = ps.length → bindArgs (PySem.W.fnOf x q (defArgs st) (defBody st) (defScope st) .none kV doc pm an cdv ct) ⟨us, []⟩ = pure (ps.zip us)
/-- the context of a def's body -/
abbrev cxB (P : Program) (w : World) (K : PySem.W.Frag) (mg : Str → Option Value) (base : Heap) (N : List Str) (q : Str) (st : Stmt) (f : Addr) (cdv : Value) (A : Around) (outer : List PySem.Env) (s : Shared) (H : Hp) : Cx := (cxOf CX0 P w K mg base N q (defScope st) f cdv A outer s H E0).nox
section
variable {P : Program} {w : World} {K : PySem.W.Frag} {mg : Str → Option Value} {base : Heap} {k : Nat} {x m q : Str} {C : Addr} {st : Stmt} {N ps : List Str} {W : Wp}
abbrev BodyOk (P : Program) (w : World) (K : PySem.W.Frag) (mg : Str → Option Value) (base : Heap) (k : Nat) (q : Str) (st : Stmt) (N : List Str) (W : Wp) : Prop :=
  ∀ (f : Addr) (cdv : Value) (A : Around) (outer : List PySem.Env) (s : Shared) (H : Hp), Room k (cxB P w K mg base N q st f cdv A outer s H).A → ∀ ds M QD, W ds M QD →
    XSs (cxB P w K mg base N q st f cdv A outer s H) (defBody st) (ds.map some ++ List.replicate (N.length - ds.length) none) M { nx := fun _ M' => QD (.v .non) M', rt := QD }
theorem CalG.mk' (D : DefG K mg x st) (S : FnScope N ps (defScope st)) (hb : BindOk x x st ps) (hl : ∀ ds M QD, W ds M QD → ds.length = ps.length) (h : BodyOk P w K mg base k x st N W) : CalG P w K mg base (k + 1) x W := by
  obtain ⟨f, fd, F, hm⟩ := D.ex
  exact ⟨f, fd, ps, fn_D F S hl (fun cdv A outer s H hr Y hY ds M QD hw => by subst hY; exact h f cdv A outer s H hr ds M QD hw), hm, F.kp, F.bindsN hb⟩
theorem CalM.mk' (D : DefM K C m q st) (S : FnScope N ps (defScope st)) (hb : BindOk m q st ps) (hl : ∀ ds M QD, W ds M QD → ds.length = ps.length) (h : BodyOk P w K mg base k q st N W) : CalM P w K mg base (k + 1) C m W := by
  obtain ⟨f, fd, F, hm⟩ := D.ex
  exact ⟨f, fd, ps, fn_D F S hl (fun cdv A outer s H hr Y hY ds M QD hw => by subst hY; exact h f cdv A outer s H hr ds M QD hw), hm, F.bindsN hb⟩
theorem CalC.mk' (D : DefC K mg C x q st) (S : FnScope N ps (defScope st)) (hb : BindOk "__init__" q st ps) (hl : ∀ ds M QD, W ds M QD → ds.length = ps.length) (h : BodyOk P w K mg base k q st N W) : CalC P w K mg base (k + 1) x C W := by
  obtain ⟨f, fd, F, hm, hg⟩ := D.ex
  exact ⟨f, fd, ps, fn_D F S hl (fun cdv A outer s H hr Y hY ds M QD hw => by subst hY; exact h f cdv A outer s H hr ds M QD hw), hm, hg, F.bindsN hb⟩
theorem CalG.mono {j : Nat} (G : CalG P w K mg base j x W) (h : j ≤ k) : CalG P w K mg base k x W := by
  obtain ⟨f, fd, ps, G, r⟩ := G.ex
  exact ⟨f, fd, ps, G.mono h, r⟩
theorem CalM.mono {j : Nat} (G : CalM P w K mg base j C m W) (h : j ≤ k) : CalM P w K mg base k C m W := by
  obtain ⟨f, fd, ps, G, r⟩ := G.ex
  exact ⟨f, fd, ps, G.mono h, r⟩
end
section
variable {X : Cx} {e a : Expr} {es : List Expr} {ρ : Dl.Env} {M : Mem} {Q : KE} {pos p apos : Pos} {k : Nat} {x m : Str} {C : Addr} {W : Wp}
theorem xe_fn (G : CalG X.prog X.w X.K X.mg X.base k x W) (hr : Room k X.A)
    (h : XA X (e :: es) ρ M fun ds M1 => W ds M1 Q) (hg : Gl X x := by rfl) (hdb : (x == ("__debug__" : Str)) = false := by decide) (he : starEach (e :: es) X.env = (false, eval e X.env) :: starEach es X.env := by rfl) (hpl : (backTo pos (starEach es X.env)).any (·.1) = false := by rfl) :
    XE X (.Call (.Name x p) (e :: es) [] pos) ρ M Q := by
  obtain ⟨f, fd, ps, G, hm, hk, hb⟩ := G.ex
  exact xe_call G hm hk hb hr h hg hdb he hpl
theorem xe_mth {pl : Sem Bool} (G : CalM X.prog X.w X.K X.mg X.base k C m W) (c : Cls X.K C) (hr : Room k X.A)
    (h : XE X a ρ M fun d1 M1 => ∃ ns ds1, SeesO M1 d1 C ns ds1 ∧ m ∉ ns ∧ XA X (e :: es) ρ M1 fun ds M2 => W (d1 :: ds) M2 Q)
    (hst : starEach (e :: es) X.env = (false, eval e X.env) :: starEach es X.env := by rfl) (hpl : (backTo pos (starEach es X.env)).any (·.1) = false := by rfl)
    (ht : eval (.Call (.Attribute a m apos) (e :: es) [] pos) X.env = (do
      let ov ← eval a X.env
      standAt apos.atName
      let (f, first) ← holding [ov] (getMethod ov m pl)
      callWith pos f first (backTo pos (starEach (e :: es) X.env)) (backToKw pos (keywordEach [] X.env))) := by rfl) :
    XE X (.Call (.Attribute a m apos) (e :: es) [] pos) ρ M Q := by
  obtain ⟨f, fd, ps, G, hm, hb⟩ := G.ex
  exact xe_meth (pl := pl) G c hm hb hr h hst hpl ht
theorem xe_mth0 {pl : Sem Bool} (G : CalM X.prog X.w X.K X.mg X.base k C m W) (c : Cls X.K C) (hr : Room k X.A)
    (h : XE X a ρ M fun d1 M1 => ∃ ns ds1, SeesO M1 d1 C ns ds1 ∧ m ∉ ns ∧ W [d1] M1 Q)
    (ht : eval (.Call (.Attribute a m apos) [] [] pos) X.env = (do
      let ov ← eval a X.env
      standAt apos.atName
      let (f, first) ← holding [ov] (getMethod ov m pl)
      callWith pos f first (backTo pos (starEach [] X.env)) (backToKw pos (keywordEach [] X.env))) := by rfl) :
    XE X (.Call (.Attribute a m apos) [] [] pos) ρ M Q := by
  obtain ⟨f, fd, ps, G, hm, hb⟩ := G.ex
  exact xe_meth0 (pl := pl) G c hm hb hr h ht
theorem xe_mk (G : CalC X.prog X.w X.K X.mg X.base k x C W) (hr : Room (k + 1) X.A)
    (h : XA X (e :: es) ρ M fun ds M1 => ∀ i dx, W (.v (.ref i) :: ds) ((i, .ins C dx [] []) :: M1) fun d M2 => d = .v .non ∧ Q (.v (.ref i)) M2) (hg : Gl X x := by rfl) (hdb : (x == ("__debug__" : Str)) = false := by decide) (he : starEach (e :: es) X.env = (false, eval e X.env) :: starEach es X.env := by rfl) (hpl : (backTo pos (starEach es X.env)).any (·.1) = false := by rfl) :
    XE X (.Call (.Name x p) (e :: es) [] pos) ρ M Q := by
  obtain ⟨f, fd, ps, G, hm, hg', hb⟩ := G.ex
  exact xe_make hm G hg' hb hr h hg hdb he hpl
end
/-! ### the attributes -/
abbrev nsV : List Str := ["own_reads", "own_times", "own_got", "own_rows"]
abbrev nsF : List Str := ["own_view", "own_hold", "own_known", "own_lows", "own_highs", "own_left", "own_keys", "own_marks"]
theorem nsV_nd : nsV.Nodup := by decide +kernel
theorem nsF_nd : nsF.Nodup := by decide +kernel
/-- what is asked of the top -/
structure Txt (K : PySem.W.Frag) (mg : Str → Option Value) (CV CF : Addr) : Prop where
  clV : Cls K CV
  clF : Cls K CF
  naV : ∀ f ∈ nsV, NoAttr K CV f
  naF : ∀ f ∈ nsF, NoAttr K CF f
  free : ∀ x ∈ (["len", "range", "isinstance", "list", "tuple", "sorted", "dict", "set", "min", "int", "abs", "enumerate", "any", "all", "iter"] : List Str), mg x = none
end Mm
end
section
set_option maxHeartbeats 2000000
/-! Dl7: a promise that sees the state of its call; an instance that is walked by its own __iter__, its len; a dict that may be changed, walked. -/
namespace Dl
open PySem PySem.Spec PyProof.Rows L2

/-! ### a promise that sees the state of its call -/
structure FnS (P : Program) (w : World) (K : PySem.W.Frag) (mg : Str → Option Value) (base : Heap) (CX : CXT) (k : Nat) (f : Addr) (fd : FuncData) (ps : List Str) (sp : Shared → Sp) : Prop where
  len : ∀ s vs H Q E, sp s vs H Q E → vs.length = ps.length
  run : ∀ (A : Around) (outer : List PySem.Env) (s : Shared) (H : Hp) (args : Args) (us : List Value) (vs : List V) (Q : VK) (E : XK), Room k A → Env0 P w K mg base A outer s H → BindsTo s fd args (ps.zip us) → Vals vs us → sp s vs H Q E →
    codeAny (model P w) A (.call (.ref f) args) (CR CX outer P w H s Q E) s
theorem FunD.okS {P : Program} {w : World} {K : PySem.W.Frag} {mg : Str → Option Value} {base : Heap} {x qual : Str} {params : Arguments} {body : List Stmt} {scope : Scope} {dvs : List V} {kws : List (Str × V)} {f : Addr} {fd : FuncData}
    {CX : CXT} {N ps : List Str} {k : Nat} {sp : Shared → Sp} (F : FunD K x qual params body scope dvs kws f fd) (S : FnScope N ps scope) (len : ∀ s vs H Q E, sp s vs H Q E → vs.length = ps.length)
    (hbody : ∀ (cdv : Value) (A : Around) (outer : List PySem.Env) (s : Shared) (H : Hp) (vs : List V) (Q : VK) (E : XK), Room k (A.deeper (envOfC qual scope s.heap.objs.size f cdv)) → sp s vs H Q E →
      ∃ t, PSs (cxOf CX P w K mg base N qual scope f cdv A outer s H E) body t ∧ t { nx := fun _ H' => Q .non H', rt := Q } (start N vs) H) : FnS P w K mg base CX (k + 1) f fd ps sp := by
  obtain ⟨oc, od, dV, kV, doc, pm, an, cdv, ct, osl, rfl, lk, hcd, _, _⟩ := F.ex
  refine ⟨len, fun A outer s H args us vs Q E hr e0 hb r hsp => ?_⟩
  have hl := len _ _ _ _ _ hsp
  have KX : K.In s.heap := e0.mod.kin.keeps fun b o e => (e0.bs b o e).1
  have lim : s.heap.NoLimit := e0.mod.nolimit.keeps fun b o e => (e0.bs b o e).1
  have hkind : ∀ y ∈ ps.zip us, scope.names.lookup y.1 = some .local ∨ (scope.names.lookup y.1 = some .cell ∧ ((cellsFrom (s.heap.objs.size + 1) scope.names []).lookup y.1).isSome = true) := fun ⟨n, v⟩ hy => by
    rcases S.par n (List.of_mem_zip hy).1 with q | q
    · exact .inl q
    · exact .inr ⟨q, PySem.W.cellsFrom_some _ _ _ (.inl q)⟩
  refine codeAny_call_function hr.depth (KX _ _ lk) rfl S.co S.gen rfl (PySem.W.codeRec_of KX hcd) (hb _ _ _ _ ?_)
  refine wpAny_newFunctionEnv_cells S.kind hkind fun env he s1 x => ?_
  subst he
  refine ⟨lim.keeps x.toInCall.keep, codeAny_func ?_⟩
  obtain ⟨t, ht, hq⟩ := hbody cdv A outer s H vs Q E (hr.deeper _) hsp
  have I : Inv (cxOf CX P w K mg base N qual scope f cdv A outer s H E) [] (start N vs) H s1 := inv_start S hr.hd e0 hl r x
  refine wpAny_mono (ht.run [] s1 (start N vs) H _ I hq) (fun fl s' hs => ?_) fun e s' hs => hs
  have fin : ∀ {σ' : L2.St} {H' : Hp} {v : V} {u : Value}, Inv (cxOf CX P w K mg base N qual scope f cdv A outer s H E) [] σ' H' s' → RelV v u → Q v H' → CE outer P w H s Q u s' :=
    fun {σ' H' v u} J rv q => ⟨v, H', J.os, J.bare, J.base, J.hok, rv, q⟩
  cases fl with
  | ret u =>
    obtain ⟨v, σ', H', J, rv, q⟩ := hs
    exact fin J rv q
  | next =>
    obtain ⟨σ', H', J, q⟩ := hs
    exact fin (v := V.non) (u := Value.none) J rfl q
  | brk =>
    obtain ⟨_, _, _, q⟩ := hs
    exact False.elim q
  | cont =>
    obtain ⟨_, _, _, q⟩ := hs
    exact False.elim q

/-! ### walked by its own __iter__ -/
/-- __iter__ gives the iterator of the list that stands at the place j of the instance -/
def spIt (C : Addr) (ns : List Str) (j : Nat) : Shared → Sp := fun s vs H Q _ => ∃ a dx xs l rows, vs = [.ref a] ∧ H a = some (.ins C dx (ns.zip xs)) ∧ ns.length = xs.length ∧ xs[j]? = some (.ref l) ∧ H l = some (.lst rows) ∧
  ∀ it, H it = none → s.heap.objs.size ≤ it → Q (.ref it) (upd H it (ItO l it 0))
structure CalI (P : Program) (w : World) (K : PySem.W.Frag) (mg : Str → Option Value) (base : Heap) (k : Nat) (C : Addr) (ns : List Str) (j : Nat) : Prop where
  ex : ∃ f fd ps, FnS P w K mg base CX0 k f fd ps (spIt C ns j) ∧ Meth K C "__iter__" f ∧ Binds K fd ps []
theorem CalI.mono {P : Program} {w : World} {K : PySem.W.Frag} {mg : Str → Option Value} {base : Heap} {k k' : Nat} {C : Addr} {ns : List Str} {j : Nat} (h : CalI P w K mg base k C ns j) (hk : k ≤ k') : CalI P w K mg base k' C ns j := by
  obtain ⟨f, fd, ps, G, r⟩ := h.ex
  exact ⟨f, fd, ps, ⟨G.len, fun A outer s H args us vs Q E hr => G.run A outer s H args us vs Q E (hr.mono hk)⟩, r⟩
section
variable {X : Cx} {e a b c : Expr} {es : List Expr} {ρ : Env} {M : Mem} {Q : KE} {pos : Pos} {tg : Expr} {k : Nat} {C : Addr} {ns : List Str} {j : Nat}
/-- the iterator of the instance at a, by any road A that stands in the call -/
theorem own_iter_at {A : Around} {pins : List (Addr × Obj)} {s : Shared} {σ : L2.St} {H : Hp} {o dx l : Addr} {xs rows : List V} {R : Value → Shared → Prop} {E : Value → Shared → Prop} (G : CalI X.prog X.w X.K X.mg X.base k C ns j) (sb : Sub X k A) (I : Inv X pins σ H s)
    (ha : H o = some (.ins C dx (ns.zip xs))) (hl : ns.length = xs.length) (hx : xs[j]? = some (.ref l)) (hr : H l = some (.lst rows)) (hE : ∀ (e : Value) s', CX0 X.stack H s (fun _ _ _ => False) e s' → E e s')
    (h : ∀ it s', Inv X pins σ H s' → s'.heap.get? it = some (GNX.itObj l 0) → FpOk X pins H it → R (.ref it) s') :
    wpAny (model X.prog X.w) A (pyIter (.ref o)) R E s := by
  obtain ⟨f, fd, ps, FS, hm, hb⟩ := G.ex
  obtain ⟨mA, J, _⟩ := ins_get I.hok ha
  obtain ⟨od, J, _⟩ := J.look
  obtain ⟨m, hF⟩ := I.fr
  refine PySem.W.owit_iter hF I.ok.mod.kin J hm.at_ hm.fn ?_
  have e0 : Env0 X.prog X.w X.K X.mg X.base A X.stack s H := by
    have e := I.env0
    exact ⟨by rw [sb.fr]; exact e.frames, e.mod, e.bs, e.bsz, e.funs, e.frf, e.hok, e.bare⟩
  have sp : spIt C ns j s [.ref o] H (fun v H' => ∃ it, v = .ref it ∧ H it = none ∧ s.heap.objs.size ≤ it ∧ H' = upd H it (ItO l it 0)) (fun _ _ _ => False) :=
    ⟨o, dx, xs, l, rows, rfl, ha, hl, hx, hr, fun it h1 h2 => ⟨it, rfl, h1, h2, rfl⟩⟩
  have hlen := FS.len _ _ _ _ _ sp
  have r2 : Vals [V.ref o] [Value.ref o] := .cons rfl .nil
  refine wpAny_call (codeAny_mono (FS.run A X.stack s H ⟨[.ref o], []⟩ [.ref o] [.ref o] _ _ sb.room e0 (by
    have := hb s [.ref o] I.kIn (by simpa using hlen)
    simpa using this) r2 sp) fun r s' hq => ?_)
  cases r with
  | error e => exact hE e s' hq
  | ok fl =>
    cases fl with
    | ret u =>
      obtain ⟨v, H', I', rv, it, rfl, hn, hsz, rfl⟩ := I.after hq
      cases rv
      have eo := itO_get I' upd_same
      have hT : s'.TypeIs (.ref it) "list_iterator" := ⟨_, eo, rfl⟩
      show wpAny _ _ (specialOf (.ref it) "__next__") _ _ s'
      refine wpAny_specialOf hT slot_listiter_next.lookup ?_
      have I2 : Inv X pins σ H s' := by
        have q := ItX.inv_drop I' (φ := fun h => h.get? it = some (GNX.itObj l 0)) upd_same
        rwa [ItX.dropH_upd hn] at q
      exact h it s' I2 eo (I.fpOk hsz hn)
    | next => exact False.elim hq
    | brk => exact False.elim hq
    | cont => exact False.elim hq
/-- for .. in o -/
theorem idt_own {ds : List D} {rows : List D} {Q : KI} (G : CalI X.prog X.w X.K X.mg X.base k C ns j) (hr : Room k X.A) (hd : ds[j]? = some (.lst rows)) (q : Q rows (fun _ => True) M) (hz : ns.length = ds.length := by rfl) : ItD X tg (.obj C ns ds) M Q := fun F H x s r R kk => by
  cases r with
  | @obj a _ dx _ xs _ e ra =>
    obtain ⟨y, hy, ry⟩ := ra.get hd
    cases ry with
    | @lst l zs _ el rl =>
      intro pins s1 σ v I r1
      obtain rfl : v = Value.ref a := r1
      refine own_iter_at (A := X.A) G ⟨hr, rfl⟩ I (s.le _ _ e) (hz.trans ra.length.symm) hy (s.le _ _ el) (fun e s' c => ?_) fun it s' I' eo fp => ?_
      · exact c.elim
      · exact ⟨it, [it], _, _, H, rfl, I', turn_list l it, ⟨_, eo, rfl, rfl⟩, fun b hb => by
          have e : b = it := by simpa using hb
          rw [e]; exact fp, kk _ _ _ M F H q (Step.refl _ _ _) s (src_lst fun F' H' M' ex s' _ => ⟨_, s'.le _ _ (ex _ _ el), rl.mono ex⟩)⟩
/-- len(o) -/
theorem cd_lenO {W : Wp} {ds : List D} (G : Mm.CalM X.prog X.w X.K X.mg X.base k C "__len__" W) (hr : Room (k + 1) X.A) (hn : ("__len__" : Str) ∉ ns) (q : W [.obj C ns ds] M fun d M' => ∃ n : Nat, d = .v (.int n) ∧ n < 100000 ∧ Q (.v (.int n)) M') : CallD X (.builtin "len") [.obj C ns ds] M Q := fun F H xs s r R kk => by
  cases r with
  | cons r1 r =>
    cases r
    obtain ⟨f, fd, ps, FS, hm, hb⟩ := G.ex
    have r0 := r1
    cases r1 with
    | @obj a _ dx _ ys _ e ra =>
      intro pins s1 σ us I rv
      obtain rfl : us = [Value.ref a] := by
        obtain ⟨u, rfl, ru⟩ := vals1 rv
        cases ru; rfl
      obtain ⟨mA, J, _⟩ := ins_get I.hok (s.le _ _ e)
      obtain ⟨od, J, _⟩ := J.look
      obtain ⟨m, hF⟩ := I.fr
      refine PySem.W.len_K hF I.ok.mod.kin J hm.at_ hm.fn ?_
      have e0 : Env0 X.prog X.w X.K X.mg X.base X.A.in1 X.stack s1 H := by
        have e := I.env0
        exact ⟨e.frames, e.mod, e.bs, e.bsz, e.funs, e.frf, e.hok, e.bare⟩
      have sp : spW W [.ref a] H (fun v H' => ∃ n : Nat, v = .int n ∧ n < 100000 ∧ R (.int n) H') E0 :=
        ⟨F, [.obj C ns ds], M, _, s, .cons r0 .nil, q, fun v d M' F' H' qq st' s' r' => by
          obtain ⟨n, rfl, h1, h2⟩ := qq
          cases r'
          exact ⟨n, rfl, h1, kk _ _ M' F' H' h2 st' s' (.v _)⟩⟩
      have hlen := FS.len _ _ _ _ sp
      have r2 : Vals [V.ref a] [Value.ref a] := .cons rfl .nil
      refine wpAny_call (codeAny_mono (FS.run X.A.in1 X.stack s1 H ⟨[.ref a], []⟩ [.ref a] [.ref a] _ _ hr.in1 e0 (by
        have := hb s1 [.ref a] I.kIn (by simpa using hlen)
        simpa using this) r2 sp) fun r s' hq => ?_)
      cases r with
      | error e => exact False.elim hq
      | ok fl =>
        cases fl with
        | ret u =>
          obtain ⟨v, H', I', rv, n, rfl, hn, qq⟩ := I.after hq
          obtain ⟨t, rfl⟩ := rv
          exact ⟨⟨by omega, by omega⟩, .int n, H', I'.tok _, ⟨_, rfl⟩, qq⟩
        | next => exact False.elim hq
        | brk => exact False.elim hq
        | cont => exact False.elim hq

/-! ### a dict that may be changed, walked: locked while e runs -/
/-- data without dicts -/
def NoK (d : D) : Prop := ∀ (F F3 : Hp) (a : Addr) (od : Obj) (u : HO), F a = some (.frz od u) → (∀ b, b ≠ a → F3 b = F b) → ∀ v, Rp F v d → Rp F3 v d
theorem NoK.v (x : V) : NoK (.v x) := fun F F3 a od u _ _ v r => by cases r; exact .v _
theorem NoK.all {ds : List D} (h : ∀ d ∈ ds, NoK d) {F F3 : Hp} {a : Addr} {od : Obj} {u : HO} (e : F a = some (.frz od u)) (k : ∀ b, b ≠ a → F3 b = F b) : ∀ {vs : List V}, RpA F vs ds → RpA F3 vs ds := by
  induction ds with
  | nil => intro vs r; cases r; exact .nil
  | cons d ds ih =>
    intro vs r
    cases r with
    | cons r1 r2 => exact .cons (h d List.mem_cons_self F F3 a od u e k _ r1) (ih (fun d hd => h d (List.mem_cons_of_mem _ hd)) r2)
theorem NoK.lst {ds : List D} (h : ∀ d ∈ ds, NoK d) : NoK (.lst ds) := fun F F3 a od u e k v r => by
  cases r with
  | @lst b xs _ eb ra => exact .lst (by rw [k b (fun z => by subst z; rw [e] at eb; cases eb)]; exact eb) (NoK.all h e k ra)
theorem NoK.ints (ns : List Int) : NoK (.lst (ns.map fun i => .v (.int i))) := NoK.lst fun d hd => by
  obtain ⟨i, _, rfl⟩ := List.mem_map.mp hd
  exact .v _
theorem xe_lockM (i j p : Nat) {a C : Addr} {kds : List (Key × D)} {ns : List Str} {ds : List D} (hm : M[i]? = some (a, .dct kds)) (he : ρ[j]? = some (some (.obj C ns ds))) (hp : ds[p]? = some (.v (.ref a)))
    (h : XE X e (ρ.set j (some (.obj C ns (ds.set p (.dct kds))))) [] fun d M' => NoK d ∧ M' = [] ∧ Q d M) : XE X e ρ M Q := fun F σ H s ev R kk => by
  obtain ⟨hF, kvs, eH, rk⟩ := s.at hm
  refine PE.w (pe_lock pe_w) ⟨a, .dK kvs, eH, True.intro, fun od => ?_⟩
  have ex1 : Ex F (upd F a (.frz od (.dK kvs))) := Ex.new hF
  have le1 : Ex (upd F a (.frz od (.dK kvs))) (upd H a (.frz od (.dK kvs))) := fun b u eb => by
    by_cases hb : b = a
    · subst hb; rw [upd_same] at eb; rw [upd_same]; exact eb
    · rw [upd_ne hb] at eb; rw [upd_ne hb]; exact s.le b u eb
  have s1 : S0 (upd F a (.frz od (.dK kvs))) (upd H a (.frz od (.dK kvs))) [] := ⟨le1, fun q hq => (by cases hq), List.nodup_nil⟩
  have rD : Rp (upd F a (.frz od (.dK kvs))) (.ref a) (.dct kds) := .dct upd_same (rk.mono ex1)
  have ev1 : EnvOk (upd F a (.frz od (.dK kvs))) σ (ρ.set j (some (.obj C ns (ds.set p (.dct kds))))) := fun t d q => by
    by_cases ht : j = t
    · subst ht
      have hl : j < ρ.length := by
        have := (List.getElem?_eq_some_iff.mp q).1
        simpa using this
      rw [List.getElem?_set_self hl] at q
      cases q
      obtain ⟨v, h1, r⟩ := ev j _ he
      refine ⟨v, h1, ?_⟩
      cases r with
      | @obj o _ dx _ xs _ eo ra =>
        obtain ⟨y, hy, ry⟩ := ra.get hp
        cases ry
        have : xs.set p (.ref a) = xs := by
          apply List.ext_getElem?
          intro t
          by_cases h : p = t
          · subst h; rw [List.getElem?_set_self (List.getElem?_eq_some_iff.mp hy).1, hy]
          · rw [List.getElem?_set_ne h]
        refine .obj (ex1 _ _ eo) ?_
        have q := (ra.mono ex1).set rD p
        rwa [this] at q
    · rw [List.getElem?_set_ne ht] at q
      obtain ⟨v, h1, r⟩ := ev t d q
      exact ⟨v, h1, r.mono ex1⟩
  refine h _ σ _ s1 ev1 _ fun v d M' F2 H2 q st s2 r => ?_
  obtain ⟨nk, rfl, q⟩ := q
  have e2 : F2 a = some (.frz od (.dK kvs)) := st.ex _ _ upd_same
  refine ⟨s2.le _ _ e2, ?_⟩
  have hnew : ∀ b, b ≠ a → (fun b => if b = a then Option.none else F2 b) b = F2 b := fun b hb => if_neg hb
  have hsame : (fun b => if b = a then Option.none else F2 b) a = Option.none := if_pos rfl
  have ex3 : Ex F (fun b => if b = a then Option.none else F2 b) := fun b u eb => by
    have hb : b ≠ a := fun z => by subst z; rw [hF] at eb; cases eb
    show (if b = a then Option.none else F2 b) = _
    rw [if_neg hb]
    exact st.ex b u (ex1 b u eb)
  have hmem : ∀ q ∈ M, (upd H2 a (.dK kvs)) q.1 = H q.1 := fun q hq => by
    by_cases hb : q.1 = a
    · rw [hb, upd_same, eH]
    · rw [upd_ne hb]
      cases eq : H q.1 with
      | none => exact absurd eq (s.mem q hq).2.ne
      | some o => exact st.fr _ _ (by rw [upd_ne hb]; exact eq) (by simp)
  refine kk v d M _ _ q ⟨ex3, fun b u eb => ?_, fun b u eb nb => ?_, fun b eb => ?_, fun b hb => .inl hb⟩ ⟨fun b u eb => ?_, fun q hq => ⟨?_, (s.mem q hq).2.keep ex3 (hmem q hq)⟩, s.nd⟩ (nk _ _ a od (.dK kvs) e2 hnew v r)
  · have hb : b ≠ a := fun z => by subst z; simp at eb
    have eb : F2 b = some u := by rw [← hnew b hb]; exact eb
    rcases st.kn b u eb with h | h | h
    · rw [upd_ne hb] at h; exact .inl h
    · rw [upd_ne hb] at h; exact .inr (.inl h)
    · cases h
  · have hb : b ≠ a := fun z => nb (by subst z; exact List.mem_map.mpr ⟨(b, .dct kds), List.mem_of_getElem? hm, rfl⟩)
    rw [upd_ne hb]
    exact st.fr b u (by rw [upd_ne hb]; exact eb) (by simp)
  · by_cases hb : b = a
    · subst hb; rw [upd_same]; intro z; cases z
    · rw [upd_ne hb]; exact st.st b (by rw [upd_ne hb]; exact eb)
  · have hb : b ≠ a := fun z => by subst z; simp at eb
    have eb : F2 b = some u := by rw [← hnew b hb]; exact eb
    rw [upd_ne hb]; exact s2.le b u eb
  · by_cases hb : q.1 = a
    · show (if q.1 = a then Option.none else F2 q.1) = Option.none
      rw [if_pos hb]
    · show (if q.1 = a then Option.none else F2 q.1) = Option.none
      rw [if_neg hb]
      cases e3 : F2 q.1 with
      | none => rfl
      | some u =>
        exfalso
        rcases st.kn q.1 u e3 with h | h | h
        · rw [upd_ne hb, (s.mem q hq).1] at h; cases h
        · rw [upd_ne hb] at h; exact (s.mem q hq).2.ne h
        · cases h
end
end Dl
end
section
set_option maxHeartbeats 2000000
/-! Dl8: sorted lists of pairs whose first items are different ints, or different texts; sorted(d.items()). -/
namespace Dl
open PySem PySem.Spec PyProof.Rows L2 SrtO

/-- kinds of keys that sort by their first item -/
structure SKey (α : Type) where
  raw : α → Tok → Value
  inj : α → V
  rel : ∀ x u, RelV (inj x) u ↔ ∃ t, u = raw x t
  lt : α → α → Bool
  swo : Swo lt
  tot : ∀ x y, lt x y = false → lt y x = false → x = y
  eq : ∀ (x y : α) (t u : Tok) (A : Around) (s : Shared), x ≠ y → SeqAt.EqAt A s (raw x t) (raw y u) false
  lts : ∀ (x y : α) (t u : Tok) (P : Program) (w : World) (A : Around) (s : Shared) (Q : Bool → Shared → Prop) (E : Value → Shared → Prop), Q (lt x y) s → wpAny (model P w) A (oneLt' true (raw x t) (raw y u)) Q E s
  get : Value → α
  got : ∀ x t, get (raw x t) = x
  T : Value
  ty : ∀ x t (M : Model) (h : Heap), PySem.W.Looks M h (typeOf (raw x t)) T
  Tn : (T != Value.type "tuple") = true
  TT : (T == T) = true
def skInt : SKey Int where
  raw := .int
  inj := .int
  rel := fun x u => Iff.rfl
  lt := fun x y => decide (x < y)
  swo := ⟨fun x y h => by simp at h ⊢; omega, fun x y z h1 h2 => by simp at h1 h2 ⊢; omega⟩
  tot := fun x y h1 h2 => by simp at h1 h2; omega
  eq := fun x y t u A s h => by
    have q := SeqAt.EqAt.int_int (A := A) (s := s) x t y u
    have e : (x == y) = false := by simpa using h
    rwa [e] at q
  lts := fun x y t u P w A s Q E h => oneLt_int h
  get := fun v => match v with | .int x _ => x | _ => 0
  got := fun _ _ => rfl
  T := .type "int"
  ty := fun _ _ _ _ => PySem.W.Looks.now
  Tn := by first | decide +kernel | rfl
  TT := by first | decide +kernel | rfl
theorem str_ext {x y : Str} (h : x.cps.toList = y.cps.toList) : x = y := by
  cases x; cases y
  congr
  exact Array.toList_inj.mp h
def skStr : SKey Str where
  raw := .str
  inj := .str
  rel := fun x u => Iff.rfl
  lt := fun x y => decide (x.cps.toList < y.cps.toList)
  swo := ⟨fun x y h => by
      simp only [decide_eq_true_eq, decide_eq_false_iff_not] at h ⊢
      exact List.lt_asymm h, fun x y z h1 h2 => by
      simp only [decide_eq_false_iff_not, List.not_lt] at h1 h2 ⊢
      exact List.le_trans h1 h2⟩
  tot := fun x y h1 h2 => by
    simp only [decide_eq_false_iff_not, List.not_lt] at h1 h2
    exact str_ext (List.le_antisymm h2 h1)
  eq := fun x y t u A s h => by
    have q := SeqAt.EqAt.str_str (A := A) (s := s) x t y u
    have e : (x == y) = false := by simpa using h
    rwa [e] at q
  lts := fun x y t u P w A s Q E h => oneLt_str h
  get := fun v => match v with | .str x _ => x | _ => ⟨#[]⟩
  got := fun _ _ => rfl
  T := .type "str"
  ty := fun _ _ _ _ => PySem.W.Looks.now
  Tn := by first | decide +kernel | rfl
  TT := by first | decide +kernel | rfl
section
variable {α : Type} (S : SKey α)
/-- v is a pair of the key x -/
def KP (h : Heap) (v : Value) (x : α) : Prop := ∃ a t y, v = .ref a ∧ IsTup h a #[S.raw x t, y]
def keyAt (h : Heap) (v : Value) : α := S.get ((match v with | .ref a => DT.seqAt0 h a | _ => none).getD .none)
variable {S}
theorem KP.key {h : Heap} {v : Value} {x : α} (p : KP S h v x) : keyAt S h v = x := by
  obtain ⟨a, t, y, rfl, ht⟩ := p
  unfold keyAt
  show S.get ((DT.seqAt0 h a).getD .none) = x
  rw [DT.seqAt0_of ht]
  exact S.got x t
theorem KP.keeps {h h' : Heap} {v : Value} {x : α} (p : KP S h v x) (k : ∀ b o, h.get? b = some o → o.cls = .type "tuple" → h'.get? b = some o) : KP S h' v x := by
  obtain ⟨a, t, y, rfl, o, ho, hc, r⟩ := p
  exact ⟨a, t, y, rfl, o, k _ _ ho hc, hc, r⟩
theorem kp_firsts {h : Heap} : ∀ {vs : List Value}, (∀ v ∈ vs, ∃ x, KP S h v x) → ∃ fs : List Value, PySem.W.KatTups h vs fs ∧ fs.length = vs.length ∧ ∀ f ∈ fs, ∃ x t, f = S.raw x t
  | [], _ => ⟨[], PySem.W.KatTups.nil, rfl, fun _ hm => by simp at hm⟩
  | v :: vs, hp => by
    obtain ⟨fs, h1, h2, h3⟩ := kp_firsts (vs := vs) fun v' hm => hp v' (List.mem_cons_of_mem _ hm)
    obtain ⟨x, a, t, y, rfl, o, ho, hc, n, hd⟩ := hp v (List.mem_cons_self ..)
    refine ⟨S.raw x t :: fs, PySem.W.KatTups.cons ho hc hd rfl h1, by rw [List.length_cons, List.length_cons, h2], fun f hm => ?_⟩
    rcases List.mem_cons.mp hm with rfl | hm
    · exact ⟨x, t, rfl⟩
    · exact h3 f hm
/-- the order of the values of a heap -/
def ltv (S : SKey α) (h : Heap) : Value → Value → Bool := fun v u => S.lt (keyAt S h v) (keyAt S h u)
theorem swo_ltv (h : Heap) : Swo (ltv S h) := ⟨fun x y => S.swo.asym _ _, fun x y z => S.swo.tr _ _ _⟩
theorem kp_sortable {P : Program} {w : World} {A : Around} {s : Shared} {h0 : Heap} {a : Addr} {vs : List Value} (h1 : 0 < vs.length) (hp : ∀ v ∈ vs, ∃ x, KP S s.heap v x) (hu : ∀ v ∈ vs, ∀ u ∈ vs, keyAt S s.heap v = keyAt S s.heap u → v = u) (ha : ∀ o, s.heap.get? a = some o → o.cls ≠ .type "tuple") (h0k : ∀ v ∈ vs, keyAt S h0 v = keyAt S s.heap v) :
    SortableO P w A s a vs (ltv S h0) := by
  intro h' keep
  have hp' : ∀ v ∈ vs, KP S h' v (keyAt S s.heap v) := fun v hm => by
    obtain ⟨x, p⟩ := hp v hm
    rw [p.key]
    exact p.keeps fun b o e c => keep b o (fun z => by subst z; exact ha o e c) e
  obtain ⟨fs, q1, q2, q3⟩ := kp_firsts (S := S) (h := h') (vs := vs) fun v hm => ⟨_, hp' v hm⟩
  refine ⟨tuples' true, fun Q E hq => ?_, fun p q hm hm' => ?_⟩
  · refine PySem.W.kat_kind (T := S.T) q1 (by omega) (fun f hm => ?_) S.TT ?_
    · obtain ⟨x, t, rfl⟩ := q3 f hm
      exact S.ty x t _ _
    · rw [S.Tn]; exact hq
  · obtain ⟨b, t, y, e, o, ho, hc, n, hd⟩ := hp' _ hm
    obtain ⟨b', t', y', e', o', ho', hc', n', hd'⟩ := hp' _ hm'
    have el : lt2 (ltv S h0) p q = S.lt (keyAt S s.heap p.1) (keyAt S s.heap q.1) := by
      show S.lt (keyAt S h0 p.1) (keyAt S h0 q.1) = _
      rw [h0k _ hm, h0k _ hm']
    rw [el]
    have hu' := hu _ hm _ hm'
    generalize keyAt S s.heap p.1 = x at *
    generalize keyAt S s.heap q.1 = x' at *
    rw [e, e']
    refine PySem.W.kat_lt ho hd ho' hd' ?_
    show PySem.W.KatLex _ _ A true (decide (2 < 2)) _ [(S.raw x t, S.raw x' t'), (y, y')] 0 { s with heap := h' }
    by_cases ex : x = x'
    · have e2 : p.1 = q.1 := hu' ex
      rw [e, e'] at e2
      obtain rfl : b = b' := by injection e2
      rw [ho] at ho'
      cases ho'
      rw [hd] at hd'
      obtain ⟨hh, _⟩ := Data.seq.inj hd'
      have hl : [S.raw x t, y] = [S.raw x' t', y'] := by simpa using congrArg Array.toList hh
      have h1 : S.raw x t = S.raw x' t' := (List.cons.inj hl).1
      have h2 : y = y' := (List.cons.inj (List.cons.inj hl).2).1
      rw [← h1, ← h2]
      refine PySem.W.kat_cons (SeqAt.EqAt.same _ _ _ _ _ (PySem.W.kat_yes (PySem.W.kat_cons (SeqAt.EqAt.same _ _ _ _ _ (PySem.W.kat_yes (PySem.W.kat_nil ⟨rfl, ?_⟩))))))
      rw [ex, S.swo.refl]; rfl
    · exact PySem.W.kat_cons (S.eq x x' t t' _ _ ex _ _ _ _ (PySem.W.kat_no (S.lts x x' t t' _ _ _ _ _ _ ⟨rfl, rfl⟩)))
end
section
variable {X : Cx} {α : Type} {S : SKey α}
/-- the refs of a tracked list of pairs are pairs of keys -/
theorem kp_of {pins : List (Addr × Obj)} {s : Shared} {σ : L2.St} {H : Hp} (I : Inv X pins σ H s) {a : Addr} {x : α} {y : V} (e : H a = some (.tup [S.inj x, y])) : KP S s.heap (.ref a) x := by
  obtain ⟨its, rv, ht, _⟩ := I.tuple (SqT.of e)
  obtain ⟨u, v, rfl, r1, r2⟩ := rv.two
  obtain ⟨t, rfl⟩ := (S.rel x u).mp r1
  exact ⟨a, t, v, rfl, ht⟩
theorem refs_list : ∀ {ps : List Addr} {us : List Value}, Vals (ps.map V.ref) us → us = ps.map Value.ref
  | [], _, r => by cases r; rfl
  | p :: ps, _, r => by
    rw [List.map_cons] at r
    cases r with
    | cons r1 r2 => cases r1; rw [refs_list r2]; rfl
theorem call_sortedKP : CallR X (.builtin "sorted") (fun vs H Q => ∃ (l : Addr) (ps : List (Addr × α × V)), vs = [.ref l] ∧ SqL X.K H l (ps.map fun p => V.ref p.1) ∧ (∀ p ∈ ps, H p.1 = some (.tup [S.inj p.2.1, p.2.2])) ∧ (ps.map fun p => p.2.1).Nodup ∧
    ∀ (qs : List (Addr × α × V)) (p : Addr), qs.Perm ps → qs.Pairwise (fun p q => S.lt q.2.1 p.2.1 = false) → H p = none → Q (.ref p) (upd H p (.lst (qs.map fun p => V.ref p.1)))) := by
  intro pins s σ H xs us Q I r h
  obtain ⟨l, ps, rfl, hq, hp, nd, q⟩ := h
  obtain ⟨u, rfl, ru⟩ := vals1 r
  cases ru
  obtain ⟨its, rv, pl, hz⟩ := I.list hq
  have ei : its = ps.map fun p => Value.ref p.1 := by
    have : (ps.map fun p => V.ref p.1) = (ps.map (·.1)).map V.ref := by rw [List.map_map]; rfl
    rw [this] at rv
    rw [refs_list rv, List.map_map]; rfl
  have hz' : its.length ≤ sizeLine := by rw [ei, List.length_map]; rw [List.length_map] at hz; exact hz
  have hkp : ∀ {p : Addr × α × V}, p ∈ ps → KP S s.heap (.ref p.1) p.2.1 := fun h => kp_of I (hp _ h)
  have hmem : ∀ v ∈ its, ∃ p ∈ ps, v = .ref p.1 := fun v hv => by
    rw [ei] at hv
    obtain ⟨p, h1, h2⟩ := List.mem_map.mp hv
    exact ⟨p, h1, h2.symm⟩
  have inj : ∀ p ∈ ps, ∀ q ∈ ps, p.2.1 = q.2.1 → p = q := fun p hp q hq e => by
    obtain ⟨i, hi⟩ := List.mem_iff_getElem?.mp hp
    obtain ⟨j, hj⟩ := List.mem_iff_getElem?.mp hq
    have h1 : (ps.map fun p => p.2.1)[i]? = some p.2.1 := by rw [List.getElem?_map, hi]; rfl
    have h2 : (ps.map fun p => p.2.1)[j]? = some p.2.1 := by rw [List.getElem?_map, hj, e]; rfl
    obtain ⟨b1, c1⟩ := List.getElem?_eq_some_iff.mp h1
    obtain ⟨b2, c2⟩ := List.getElem?_eq_some_iff.mp h2
    have : i = j := (List.getElem_inj nd).mp (c1.trans c2.symm)
    subst this
    rw [hi] at hj
    exact Option.some.inj hj
  have hl : s.heap.IsList l its.toArray := pl.isList
  refine sorted_ord (swo_ltv (S := S) s.heap) hl hz' (fun h2 h₁ a hoa keep => ?_) fun out hs hb => ?_
  · have k1 : ∀ v ∈ its, ∃ x, KP S h₁ v x ∧ KP S s.heap v x := fun v hv => by
      obtain ⟨p, h1, rfl⟩ := hmem v hv
      exact ⟨_, (hkp h1).keeps fun b o e _ => (keep b o e).2, hkp h1⟩
    refine kp_sortable (s := { s with heap := h₁ }) (by omega) (fun v hv => let ⟨x, k, _⟩ := k1 v hv; ⟨x, k⟩) (fun v hv u hu e => ?_) (fun o eo => ?_) fun v hv => ?_
    · obtain ⟨p, h1, rfl⟩ := hmem v hv
      obtain ⟨p', h1', rfl⟩ := hmem u hu
      obtain ⟨x, k, k'⟩ := k1 _ hv
      obtain ⟨x2, k2, k2'⟩ := k1 _ hu
      have e1 : keyAt S h₁ (.ref p.1) = p.2.1 := by rw [k.key, ← k'.key, (hkp h1).key]
      have e2 : keyAt S h₁ (.ref p'.1) = p'.2.1 := by rw [k2.key, ← k2'.key, (hkp h1').key]
      have e3 : keyAt S h₁ (.ref p.1) = keyAt S h₁ (.ref p'.1) := e
      rw [e1, e2] at e3
      rw [inj p h1 p' h1' e3]
    · have eo' : h₁.get? a = some o := eo
      rw [hoa] at eo'
      cases eo'
      intro z
      exact absurd z (by first | decide | (intro z; cases z) | (simp [seqObj]))
    · obtain ⟨x, k, k'⟩ := k1 v hv
      show keyAt S s.heap v = keyAt S h₁ v
      rw [k.key, k'.key]
  · obtain ⟨qs, pq, eq⟩ := perm_lift (fun p : Addr × α × V => Value.ref p.1) hb.perm ps ei.symm
    obtain ⟨ep, he'⟩ := PyProof.Rows.sortedAll_at s.heap its out.toArray
    have hlen : (qs.map fun p => V.ref p.1).length ≤ sizeLine := by
      rw [List.length_map, pq.length_eq]
      rw [List.length_map] at hz; exact hz
    refine ⟨.ref _, upd H (s.heap.objs.size + 1) (.lst (qs.map fun p => V.ref p.1)), I.laid (t' := s.toks) (fun _ _ => PyProof.Rows.sortedAll_old) (Nat.le_succ _) ⟨hlen, out, ep, ?_, he'⟩, rfl, q qs _ pq ?_ (I.hok.fresh (Nat.le_succ _))⟩
    · rw [← eq]
      exact vals_maps (fun p : Addr × α × V => V.ref p.1) (fun p => Value.ref p.1) qs fun _ _ => rfl
    · rw [← eq] at hs
      have hs' := List.pairwise_map.mp hs
      refine hs'.imp_of_mem fun {p q} hp' hq' h => ?_
      have h' : S.lt (keyAt S s.heap (.ref q.1)) (keyAt S s.heap (.ref p.1)) = false := h
      rw [(hkp (pq.mem_iff.mp hp')).key, (hkp (pq.mem_iff.mp hq')).key] at h'
      exact h'
variable {M : Mem} {Q : KE}
/-- data pairs -/
def pairD (S : SKey α) (p : α × D) : D := .tup [.v (S.inj p.1), p.2]
theorem pairs_get {F : Hp} : ∀ {ps : List (α × D)} {xs : List V}, RpA F xs (ps.map (pairD S)) → ∃ qs : List (Addr × α × V × D), xs = qs.map (fun q => V.ref q.1) ∧ ps = qs.map (fun q => (q.2.1, q.2.2.2)) ∧ ∀ q ∈ qs, F q.1 = some (.tup [S.inj q.2.1, q.2.2.1]) ∧ Rp F q.2.2.1 q.2.2.2
  | [], _, r => by cases r; exact ⟨[], rfl, rfl, fun _ h => by cases h⟩
  | p :: ps, _, r => by
    rw [List.map_cons] at r
    cases r with
    | cons r1 r2 =>
      obtain ⟨qs, rfl, rfl, h⟩ := pairs_get r2
      cases r1 with
      | @tup a ys _ e ra =>
        cases ra with
        | cons a1 a2 =>
          cases a2 with
          | cons b1 b2 =>
            cases b2
            cases a1
            rename_i y
            refine ⟨(a, p.1, y, p.2) :: qs, rfl, rfl, fun q hq => ?_⟩
            rcases List.mem_cons.mp hq with rfl | hq
            · exact ⟨e, b1⟩
            · exact h q hq
theorem cd_sortedKP {d1 : D} {ps : List (α × D)} (h : SeesL M d1 (ps.map (pairD S))) (nd : (ps.map (·.1)).Nodup) (q : ∀ qs : List (α × D), qs.Perm ps → qs.Pairwise (fun p q => S.lt q.1 p.1 = false) → Q (.lst (qs.map (pairD S))) M) : CallD X (.builtin "sorted") [d1] M Q := fun F H xs s r R k => by
  cases r with
  | cons r1 r =>
    cases r
    obtain ⟨p, ys, rfl, e1, ra⟩ := h.get s r1
    obtain ⟨zs, rfl, rfl, hz⟩ := pairs_get ra
    refine CallR.w (call_sortedKP (S := S)) ⟨p, zs.map fun z => (z.1, z.2.1, z.2.2.1), rfl, ?_, fun z hz' => ?_, ?_, fun qs l pq srt hl => ?_⟩
    · rw [List.map_map]; exact SqL.of e1
    · obtain ⟨z', h1, rfl⟩ := List.mem_map.mp hz'
      exact s.le _ _ (hz z' h1).1
    · rw [List.map_map] at nd ⊢; exact nd
    · obtain ⟨ws, pw, rfl⟩ := perm_lift (fun z : Addr × α × V × D => (z.1, z.2.1, z.2.2.1)) pq zs rfl
      rw [List.map_map] at *
      obtain ⟨s2, st2⟩ := s.new hl (.lst (ws.map fun z => V.ref z.1))
      have hq := q (ws.map fun z => (z.2.1, z.2.2.2)) (pw.map _) (by
        rw [List.pairwise_map] at srt ⊢
        exact srt)
      refine k _ _ M _ _ hq st2 s2 (.lst upd_same ?_)
      rw [List.map_map]
      have : ∀ ws' : List (Addr × α × V × D), (∀ z ∈ ws', z ∈ zs) → RpA (upd F l (.lst (ws.map fun z => V.ref z.1))) (ws'.map fun z => V.ref z.1) (ws'.map (pairD S ∘ fun z => (z.2.1, z.2.2.2))) := by
        intro ws'
        induction ws' with
        | nil => intro _; exact .nil
        | cons z ws' ih =>
          intro hw
          obtain ⟨h1, h2⟩ := hz z (hw z List.mem_cons_self)
          exact .cons (.tup (st2.ex _ _ h1) (.cons (.v _) (.cons (h2.mono st2.ex) .nil))) (ih fun z hz => hw z (List.mem_cons_of_mem _ hz))
      exact this ws fun z hz => pw.mem_iff.mp hz
end
/-- new things are known -/
theorem S0.grow {F H H' : Hp} {M : Mem} (s : S0 F H M) (g : Ex H H') : ∃ F', S0 F' H' M ∧ Step F H M F' H' M ∧ ∀ b o, H b = none → H' b = some o → F' b = some o := by
  refine ⟨fun b => match F b with | some u => some u | none => match H b with | none => H' b | some _ => none, ⟨fun b u e => ?_, fun q hq => ?_, s.nd⟩, ⟨fun b u e => ?_, fun b u e => ?_, fun b u e _ => g b u e, fun b e => ?_, fun b h => .inl h⟩, fun b o h1 h2 => ?_⟩
  · cases q : F b with
    | some v => rw [q] at e; cases e; exact g b _ (s.le b _ q)
    | none =>
      rw [q] at e
      cases q2 : H b with
      | none => rw [q2] at e; exact e
      | some v => rw [q2] at e; cases e
  · obtain ⟨h1, h2⟩ := s.mem q hq
    cases q2 : H q.1 with
    | none => exact absurd q2 h2.ne
    | some v =>
      have ex : Ex F (fun b => match F b with | some u => some u | none => match H b with | none => H' b | some _ => none) := fun b u e => by
        show (match F b with | some u => some u | none => match H b with | none => H' b | some _ => none) = some u
        rw [e]
      refine ⟨?_, h2.keep ex (by rw [q2]; exact g _ _ q2)⟩
      show (match F q.1 with | some u => some u | none => match some v with | none => H' q.1 | some _ => none) = none
      rw [h1]
  · show (match F b with | some u => some u | none => match H b with | none => H' b | some _ => none) = some u
    rw [e]
  · have e : (match F b with | some u => some u | none => match H b with | none => H' b | some _ => none) = some u := e
    cases q : F b with
    | some v => rw [q] at e; exact .inl e
    | none =>
      rw [q] at e
      cases q2 : H b with
      | none => exact .inr (.inl rfl)
      | some v => rw [q2] at e; cases e
  · cases q : H b with
    | none => exact absurd q e
    | some u => rw [g b u q]; intro z; cases z
  · show (match F b with | some u => some u | none => match H b with | none => H' b | some _ => none) = some o
    rw [s.free h1, h1]; exact h2
section
variable {X : Cx}
open L2.DX
def tItemsV (t : TE) : TE := fun σ H Q => t σ H fun x H1 => ∃ a kvs, x = .ref a ∧ Rd H1 a (.dK kvs) ∧ ∀ p, H1 p = none → Q (.ref p) (upd H1 p (itemsO p a))
theorem pe_itemsV {o : Expr} {t : TE} {apos cpos : Pos} (ho : PE X o t) (hbase : attributeBase o "items" X.env (eval o X.env) = eval o X.env := by rfl) (hline : (apos.endLine == cpos.line) = true := by rfl) : PE X (.Call (.Attribute o "items" apos) [] [] cpos) (tItemsV t) := by
  refine ⟨fun pins s σ H Q I h => ?_⟩
  refine wpAny_Call_method0_late hbase hline (thn (ho.run pins s σ H _ I h) fun v s1 ⟨x, H1, I1, r1, d, kvs, ex, hd, q1⟩ => ?_)
  subst ex
  cases r1
  obtain ⟨z, lo, vs, rel, dd⟩ := dk_rd I1.hok hd
  refine ⟨"dict", "dict.items", F.plainAttrs_dict, F.slot_dict_items, F.type_dict_items, dd.typeIs, dd.mapOf.noDict, Calls.callWith_builtin rfl (PySem.evalArgs_none ?_)⟩
  refine call_meetsIn F.slot_dict_items dd.typeIs F.entry_dict_items (F.args_dict_items_1 _) (meets_dict_items (mixKind X.prog X.w) d lo) ⟨⟨vs, dd⟩, ?_⟩
  exact ⟨.ref s1.heap.objs.size, _, I1.laid (t' := s1.toks) (o := itemsO s1.heap.objs.size d) (fun b u e => Heap.get?_push_of_some _ e) (Nat.le_refl _) (itemsO_ok (Heap.get?_push_size _ rfl)), rfl, q1 _ (I1.hok.fresh (Nat.le_refl _))⟩
theorem call_sortedIt (hc : X.calm = true) : CallR X (.builtin "sorted") (fun xs H Q => ∃ (p a : Addr) (ks : List (Int × V)), xs = [.ref p] ∧ H p = some (itemsO p a) ∧ Rd H a (.dK (ks.map fun z => (Sum.inl z.1, z.2))) ∧ (ks.map (·.1)).Pairwise (· < ·) ∧
    ∀ (H' : Hp) (l : Addr) (ps : List (Addr × Int × V)), Ex H H' → H l = none → ps.map (·.2) = ks → H' l = some (.lst (ps.map fun z => V.ref z.1)) → (∀ z ∈ ps, H z.1 = none ∧ H' z.1 = some (.tup [.int z.2.1, z.2.2])) → Q (.ref l) H') := by
  intro pins s σ H xs us Q I r h
  obtain ⟨p, a, ks, rfl, hp, ha, asc, q⟩ := h
  obtain rfl := Vals.ref1 r
  have view : s.heap.IsItemsView p a := (show ObjOk X.prog X.w H s.heap p (itemsO p a) from I.hok p _ hp).1
  obtain ⟨z, hd, vs, rel, dd⟩ := dk_rd I.hok ha
  obtain ⟨o, es, ep, ho, hx, hdat, hko, hpr, hn⟩ := id dd
  have l1 : ks.length = vs.length := by have := rel.length; rwa [List.length_map] at this
  have l2 : es.size = vs.length := by have := hpr.length; rwa [Array.length_toList] at this
  have hh : X.A.handled = none := I.ok.hd hc
  rw [List.length_map] at z
  refine DT.sortedI (es := es) (ep := ep) hh view ⟨o, ho, hx, hdat⟩ (by omega) fun h' tk as hk hlt hl hG => ?_
  have lak : as.length = ks.length := by omega
  have nd : as.Nodup := List.Pairwise.imp (fun h => Nat.ne_of_lt h) hG.rise
  have pr : ∀ (j : Nat) (b : Addr), as[j]? = some b → ∃ (e : Int × V) (t : Tok) (v : Value), ks[j]? = some e ∧ RelV e.2 v ∧ h'.get? b = some { cls := .type "tuple", data := .seq #[Value.int e.1 t, v] } := by
    intro j b hj
    obtain ⟨en, he, hg⟩ := hG.pairs j b hj
    have hjk : j < ks.length := by rw [← lak]; exact (List.getElem?_eq_some_iff.mp hj).1
    have e1 : (ks.map fun z => ((Sum.inl z.1 : Key), z.2))[j]? = some (Sum.inl ks[j].1, ks[j].2) := by rw [List.getElem?_map, List.getElem?_eq_getElem hjk]; rfl
    obtain ⟨u, hu, ru⟩ := kv_get rel e1
    have he' : es.toList[j]? = some en := by rw [Array.getElem?_toList]; exact he
    obtain ⟨k1, k2⟩ := hpr.get? he' hu
    rcases keyIs_shape (show keyIs (Sum.inl ks[j].1) en.key = true from k1) with ⟨i, t, ek, ev⟩ | ⟨z, t, ek, ev⟩
    · cases ek
      exact ⟨ks[j], t, u, List.getElem?_eq_getElem hjk, ru, by rw [hg, ev, k2]⟩
    · cases ek
  have hob : (h'.push { cls := .type "list", data := .seq (as.map Value.ref).toArray }).get? h'.objs.size = some (seqObj "list" (as.map Value.ref).toArray 0) := Heap.get?_push_size _ rfl
  have kb : ∀ b o, s.heap.get? b = some o → (h'.push { cls := .type "list", data := .seq (as.map Value.ref).toArray }).get? b = some o := fun b o e => Heap.get?_push_of_some _ (hk b o e)
  have ne0 : ∀ b o, h'.get? b = some o → b ≠ h'.objs.size := fun b o e => Nat.ne_of_lt (Heap.lt_size e)
  generalize hh2 : h'.push { cls := .type "list", data := .seq (as.map Value.ref).toArray } = h2 at hob kb ⊢
  have ka : ∀ b o, h'.get? b = some o → h2.get? b = some o := fun b o e => by rw [← hh2]; exact Heap.get?_push_of_some _ e
  have kp : ∀ (j : Nat) (b : Addr), as[j]? = some b → ∃ e, ks[j]? = some e ∧ KP skInt h2 (.ref b) e.1 := fun j b hj => by
    obtain ⟨e, t, v, he, _, hg⟩ := pr j b hj
    exact ⟨e, he, b, t, v, rfl, _, ka _ _ hg, rfl, 0, rfl⟩
  have at_ : ∀ v ∈ as.map Value.ref, ∃ (j : Nat) (b : Addr) (e : Int × V), v = .ref b ∧ as[j]? = some b ∧ ks[j]? = some e ∧ KP skInt h2 v e.1 := by
    intro v hv'
    obtain ⟨b, hb, rfl⟩ := List.mem_map.mp hv'
    obtain ⟨j, hj⟩ := List.mem_iff_getElem?.mp hb
    obtain ⟨e, he, k⟩ := kp j b hj
    exact ⟨j, b, e, rfl, hj, he, k⟩
  have ndk : (ks.map (·.1)).Nodup := asc.imp fun h => Int.ne_of_lt h
  have sv : Srtd (ltv skInt h2) (as.map Value.ref) := by
    rw [Srtd, List.pairwise_map]
    refine List.pairwise_iff_getElem.mpr fun i j hi hj hij => ?_
    obtain ⟨e1, he1, k1⟩ := kp i as[i] (List.getElem?_eq_getElem hi)
    obtain ⟨e2, he2, k2⟩ := kp j as[j] (List.getElem?_eq_getElem hj)
    show skInt.lt (keyAt skInt h2 (.ref as[j])) (keyAt skInt h2 (.ref as[i])) = false
    rw [k1.key, k2.key]
    have := List.pairwise_iff_getElem.mp asc i j (by rw [List.length_map]; omega) (by rw [List.length_map]; omega) hij
    rw [List.getElem_map, List.getElem_map] at this
    obtain ⟨b1, c1⟩ := List.getElem?_eq_some_iff.mp he1
    obtain ⟨b2, c2⟩ := List.getElem?_eq_some_iff.mp he2
    rw [c1, c2] at this
    show decide (e2.1 < e1.1) = false
    simp; omega
  refine wpAny_call_entry PyProof.Rows.slot_list_sort ⟨_, hob, rfl⟩ PyProof.Rows.entry_list_sort
    (list_sort_ord (s := { s with heap := h2, toks := tk }) (swo_ltv (S := skInt) h2) hob (by rw [List.length_map]; omega) (fun h2' => ?_) fun out o1 o2 => ⟨.none, rfl, ?_⟩) (PyProof.Rows.args_list_sort _)
  · refine kp_sortable (s := { s with heap := h2, toks := tk }) (by omega) (fun v hv => ?_) (fun v hv u hu e => ?_) (fun o eo => ?_) fun _ _ => rfl
    · obtain ⟨_, _, e, _, _, _, k⟩ := at_ v hv
      exact ⟨_, k⟩
    · obtain ⟨i, b, e1, rfl, hi, he1, k1⟩ := at_ v hv
      obtain ⟨j, c, e2, rfl, hj, he2, k2⟩ := at_ u hu
      have e' : keyAt skInt h2 (.ref b) = keyAt skInt h2 (.ref c) := e
      rw [k1.key, k2.key] at e'
      have h1 : (ks.map (·.1))[i]? = some e1.1 := by rw [List.getElem?_map, he1]; rfl
      have h2 : (ks.map (·.1))[j]? = some e1.1 := by rw [List.getElem?_map, he2, e']; rfl
      obtain ⟨b1, c1⟩ := List.getElem?_eq_some_iff.mp h1
      obtain ⟨b2, c2⟩ := List.getElem?_eq_some_iff.mp h2
      have : i = j := (List.getElem_inj ndk).mp (c1.trans c2.symm)
      subst this
      rw [hi] at hj
      cases hj; rfl
    · have eo' : h2.get? h'.objs.size = some o := eo
      rw [hob] at eo'
      cases eo'
      intro z
      exact absurd z (by first | decide | (intro z; cases z) | (simp [seqObj]))
  · have eo : out = as.map Value.ref := stb_uniq (swo_ltv (S := skInt) h2) o1 sv o2
    subst eo
    show EP X pins σ Q (.ref h'.objs.size) { s with heap := sortedHeap h2 h'.objs.size (as.map Value.ref) (as.map Value.ref).toArray, toks := tk }
    generalize hout : (as.map Value.ref).toArray = outA
    have kF : ∀ b o, b ≠ h'.objs.size → h2.get? b = some o → (sortedHeap h2 h'.objs.size (as.map Value.ref) outA).get? b = some o := fun b o hb e => (PyProof.Rows.sortedHeap_old hb (Heap.lt_size e)).trans e
    have kS : ∀ b o, s.heap.get? b = some o → (sortedHeap h2 h'.objs.size (as.map Value.ref) outA).get? b = some o := fun b o e => kF b o (ne0 _ _ (hk b o e)) (kb b o e)
    obtain ⟨eF, heF⟩ := PyProof.Rows.sortedHeap_at (vs := as.map Value.ref) (out := outA) hob
    have I1 : Inv X pins σ H { s with heap := sortedHeap h2 h'.objs.size (as.map Value.ref) outA, toks := tk } := I.kept (t' := tk) kS
    have hn0 : H h'.objs.size = none := I.hok.fresh (Nat.le_of_lt hlt)
    have I2 : Inv X pins σ (upd H h'.objs.size (.lst (as.map V.ref))) { s with heap := sortedHeap h2 h'.objs.size (as.map Value.ref) outA, toks := tk } :=
      I1.take (h' := sortedHeap h2 h'.objs.size (as.map Value.ref) outA) (t' := tk) (fun b ob _ e => e) (I.fpOk (Nat.le_of_lt hlt) hn0) ⟨by rw [List.length_map]; omega, as.map Value.ref, eF, vals_maps V.ref Value.ref as fun _ _ => rfl, by rw [hout]; exact heF⟩
    obtain ⟨H2, I3, g, qt⟩ := takeT (P := fun b vs => ∃ (j : Nat) (e : Int × V), as[j]? = some b ∧ ks[j]? = some e ∧ vs = [.int e.1, e.2]) I as _ I2 nd fun b hb => by
      obtain ⟨j, hj⟩ := List.mem_iff_getElem?.mp hb
      obtain ⟨e, t, v, he, rv, hg⟩ := pr j b hj
      have hbl : s.heap.objs.size ≤ b := Nat.le_of_lt (hG.above b hb)
      refine ⟨hbl, ?_, [.int e.1, e.2], ⟨j, e, hj, he, rfl⟩, fun H3 => ⟨(by rw [sizeLine_eq]; show 2 ≤ 16777216; omega), [Value.int e.1 t, v], .cons ⟨t, rfl⟩ (.cons rv .nil), ⟨_, kF _ _ (ne0 _ _ hg) (ka _ _ hg), rfl, 0, rfl⟩⟩⟩
      rw [upd_ne (ne0 _ _ hg)]
      exact I.hok.fresh hbl
    have gr : Ex H H2 := fun b o e => g b o (by rw [upd_ne (ne_of_none e hn0)]; exact e)
    refine ⟨.ref h'.objs.size, H2, I3, rfl, q H2 h'.objs.size (as.zip ks) gr hn0 (List.map_snd_zip (by omega)) ?_ fun z' hz' => ?_⟩
    · have e : (as.zip ks).map (fun z => V.ref z.1) = as.map V.ref := by
        have e0 := congrArg (List.map V.ref) (List.map_fst_zip (l₁ := as) (l₂ := ks) (by omega))
        rw [List.map_map] at e0
        exact e0
      rw [e]
      exact g _ _ upd_same
    · obtain ⟨j, hj⟩ := List.mem_iff_getElem?.mp hz'
      obtain ⟨i1, i2⟩ := List.getElem?_zip_eq_some.mp hj
      obtain ⟨vs, ⟨j2, e, j1, j3, ev⟩, hH⟩ := qt z'.1 (List.mem_of_getElem? i1)
      have eij : j = j2 := (List.getElem?_inj (List.getElem?_eq_some_iff.mp i1).1 nd).mp (i1.trans j1.symm)
      subst eij
      have ee : e = z'.2 := Option.some.inj (j3.symm.trans i2)
      rw [ev, ee] at hH
      exact ⟨I.hok.fresh (Nat.le_of_lt (hG.above _ (List.mem_of_getElem? i1))), hH⟩
variable {M : Mem} {Q : KE} {ρ : Env} {pos : Pos}
theorem xe_sortedItems {o : Expr} {p apos cpos : Pos} (h : XE X o ρ M fun d M1 => ∃ ks : List (Int × D), SeesK M1 d (ks.map fun z => (Sum.inl z.1, z.2)) ∧ (ks.map (·.1)).Pairwise (· < ·) ∧ Q (.lst (ks.map fun z => .tup [.v (.int z.1), z.2])) M1) (hm : X.mg "sorted" = none) (hg : Gl X "sorted" := by rfl) (hc : X.calm = true := by rfl) (hbase : attributeBase o "items" X.env (eval o X.env) = eval o X.env := by rfl) (hline : (apos.endLine == cpos.line) = true := by rfl)
    (he : starEach [.Call (.Attribute o "items" apos) [] [] cpos] X.env = (false, eval (.Call (.Attribute o "items" apos) [] [] cpos) X.env) :: starEach [] X.env := by rfl) (hpl : (backTo pos (starEach [] X.env)).any (·.1) = false := by rfl) :
    XE X (.Call (.Name "sorted" p) [.Call (.Attribute o "items" apos) [] [] cpos] [] pos) ρ M Q := fun F σ H s ev R k => by
  refine PE.w (pe_callB (id := "sorted") (call_sortedIt hc) hg hm (by decide +kernel) (pa_cons (pe_itemsV (pe_w (X := X) (e := o)) hbase hline) pa_nil he) (by decide) (by decide) he hpl) ?_
  refine h F σ H s ev _ fun v d M1 F1 H1 q st s1 r => ?_
  obtain ⟨ks, sk, asc, q⟩ := q
  obtain ⟨a, kvs, rfl, e1, rk⟩ := sk.get s1 r
  refine ⟨a, kvs, rfl, e1, fun p hp => ?_⟩
  obtain ⟨s2, st2⟩ := s1.new hp (itemsO p a)
  -- the values behind the data
  obtain ⟨zs, rfl, rfl, hz⟩ : ∃ zs : List (Int × V × D), kvs = zs.map (fun z => (Sum.inl z.1, z.2.1)) ∧ ks = zs.map (fun z => (z.1, z.2.2)) ∧ ∀ z ∈ zs, Rp F1 z.2.1 z.2.2 := by
    clear q sk asc e1 st2 s2
    induction ks generalizing kvs with
    | nil => cases rk; exact ⟨[], rfl, rfl, fun _ h => by cases h⟩
    | cons k ks ih =>
      rw [List.map_cons] at rk
      cases rk with
      | cons r1 r2 =>
        rename_i y ys
        obtain ⟨zs, rfl, rfl, h⟩ := ih _ r2
        refine ⟨(k.1, y, k.2) :: zs, rfl, rfl, fun z hz => ?_⟩
        rcases List.mem_cons.mp hz with rfl | hz
        · exact r1
        · exact h z hz
  refine ⟨p, a, zs.map fun z => (z.1, z.2.1), rfl, upd_same, ?_, ?_, fun H' l ps ex hl hps eH hz' => ?_⟩
  · rw [List.map_map]
    rcases e1 with e1 | ⟨od, e1⟩
    · exact .inl (by rw [upd_ne (ne_of_none e1 hp)]; exact e1)
    · exact .inr ⟨od, by rw [upd_ne (ne_of_none e1 hp)]; exact e1⟩
  · rw [List.map_map] at asc ⊢; exact asc
  · obtain ⟨F', s3, st3, kn⟩ := s2.grow ex
    refine k _ _ M1 _ _ q ((st.trans st2).trans st3) s3 (.lst (kn _ _ hl eH) ?_)
    rw [List.map_map]
    have exF : Ex F1 F' := st2.ex.trans st3.ex
    have : ∀ (zs : List (Int × V × D)) (ps : List (Addr × Int × V)), ps.map (·.2) = zs.map (fun z => (z.1, z.2.1)) → (∀ z ∈ ps, (upd H1 p (itemsO p a)) z.1 = none ∧ H' z.1 = some (.tup [.int z.2.1, z.2.2])) → (∀ z ∈ zs, Rp F1 z.2.1 z.2.2) → RpA F' (ps.map fun z => V.ref z.1) (zs.map ((fun z : Int × D => D.tup [.v (.int z.1), z.2]) ∘ fun z => (z.1, z.2.2))) := by
      intro zs
      induction zs with
      | nil =>
        intro ps e _ _
        have : ps = [] := List.map_eq_nil_iff.mp e
        subst this; exact .nil
      | cons z zs ih =>
        intro ps e h1 h2
        cases ps with
        | nil => cases e
        | cons w ps =>
          rw [List.map_cons, List.map_cons] at e
          obtain ⟨ea, eb⟩ := List.cons.inj e
          obtain ⟨hn, ht⟩ := h1 w List.mem_cons_self
          have hr := h2 z List.mem_cons_self
          have kt := kn _ _ hn ht
          refine .cons (.tup kt (.cons ?_ (.cons ?_ .nil))) (ih ps eb (fun y hy => h1 y (List.mem_cons_of_mem _ hy)) fun y hy => h2 y (List.mem_cons_of_mem _ hy))
          · rw [ea]; exact .v _
          · rw [ea]; exact hr.mono exF
    exact this zs ps hps hz' hz
end
end Dl
end
section
set_option maxHeartbeats 4000000
/-! Dl9: sorted(set(xs)) of a list of ints, of texts. -/
namespace Dl
open PySem PySem.Spec PyProof.Rows L2
section
variable {P : Program} {w : World} {α : Type} [DecidableEq α] (knd : KeyKind P w α)
/-- the set at a: S its members, at most n -/
def SetG (h : Heap) (a : Addr) (S : α → Bool) (n : Nat) : Prop :=
  ∃ o es ep t, h.get? a = some o ∧ o.ExactSet ∧ o.data = .set es ep t ∧ ElemsOf knd es.toList ∧ (∀ k, S k = true ↔ ∃ e ∈ es.toList, knd.is k e.2 = true) ∧
    es.size ≤ n ∧ t.fits es.size = true ∧ Ris t.place.toList ∧ (w.params.followText "set-order" = true ∨ t.led = true)
variable {knd} {A : Around} {E : Value → Shared → Prop} {s : Shared} {a : Addr} {S : α → Bool} {n : Nat}
theorem setG_add_tail {g : Bool → Sem Unit} (hg : ∀ (b : Bool) (s₁ : Shared) (Q' : Unit → Shared → Prop), Q' () s₁ → wpAny (model P w) A (g b) Q' E s₁)
    {o : Obj} {es : Array (Int × Value)} {ep : Nat} {t : SetTable} (ho : s.heap.get? a = some o) (hex : o.ExactSet) (hd : o.data = .set es ep t)
    {es1 : Array (Int × Value)} {t2 : SetTable} {S' : α → Bool} (g1 : ElemsOf knd es1.toList) (m1 : ∀ k, S' k = true ↔ ∃ e ∈ es1.toList, knd.is k e.2 = true)
    (hb1 : es1.size < scanBound) (hf2 : t2.fits es1.size = true) (hr : Ris t2.place.toList) (hl : w.params.followText "set-order" = true ∨ t2.led = true) {wasDummy : Bool} {R : Option Bool → Shared → Prop}
    (hR : ∀ h', Heap.SameBut a s.heap h' → SetG knd h' a S' es1.size → R (some true) { s with heap := h' }) :
    wpAny (model P w) A (do
        storeSet a es1 t2
        if (!wasDummy && t2.tooFull) = true then do
            g (relayAll t2 es1 (SetTable.grown es1.size)).2.2
            storeSet a (relayAll t2 es1 (SetTable.grown es1.size)).1 (relayAll t2 es1 (SetTable.grown es1.size)).2.1
            pure (some true)
          else pure (some true)) R E s := by
  refine wpAny_bind (wpAny_storeSet_of ho hd ?_ (fits_of_scanBound hb1))
  have ho1 := store_at (es' := es1) (t' := t2) ho hd
  have sb1 := Heap.SameBut.update s.heap a (Obj.putSet es1 t2)
  split
  · have pm := relayAll_perm t2 es1 (SetTable.grown es1.size)
    have hf3 := relayAll_fits t2 es1 (SetTable.grown es1.size)
    have hr3 := relayAll_ris t2 es1 (SetTable.grown es1.size)
    have hl3 := relayAll_led t2 es1 (SetTable.grown es1.size)
    generalize relayAll t2 es1 (SetTable.grown es1.size) = Z at pm hf3 hr3 hl3 ⊢
    obtain ⟨es2, t3, gave⟩ := Z
    dsimp only at pm hf3 hr3 hl3 ⊢
    have hsz : es2.size = es1.size := by rw [← Array.length_toList, pm.length_eq, Array.length_toList]
    have hb2 : es2.size < scanBound := by rw [hsz]; exact hb1
    refine wpAny_bind (hg _ _ _ ?_)
    refine wpAny_bind (wpAny_storeSet_of ho1 rfl ?_ (fits_of_scanBound hb2))
    have ho2 := store_at (es' := es2) (t' := t3) ho1 rfl
    refine wpAny_pure (hR _ (sb1.trans (Heap.SameBut.update _ a _)) ?_)
    exact ⟨_, es2, _, t3, ho2, hex, rfl, fun e he => g1 e (pm.mem_iff.mp he), fun k => (m1 k).trans ⟨fun ⟨e, he, q⟩ => ⟨e, pm.mem_iff.mpr he, q⟩, fun ⟨e, he, q⟩ => ⟨e, pm.mem_iff.mp he, q⟩⟩, Nat.le_of_eq hsz, hf3, hr3,
      hl.imp id fun z => by rw [hl3]; exact z⟩
  · exact wpAny_pure (hR _ sb1 ⟨_, es1, _, t2, ho1, hex, rfl, g1, m1, Nat.le_refl _, hf2, hr, hl⟩)
theorem SetG.more {h : Heap} {m : Nat} (g : SetG knd h a S n) (hm : n ≤ m) : SetG knd h a S m := by
  obtain ⟨o, es, ep, t, h1, h2, h3, h4, h5, h6, r⟩ := g
  exact ⟨o, es, ep, t, h1, h2, h3, h4, h5, Nat.le_trans h6 hm, r⟩
theorem setG_add_hashed {k : α} {v : Value} {Q : Bool → Shared → Prop} (R : SetG knd s.heap a S n) (hkey : knd.is k v = true) (hsc : v.scannable = true) (room : n + 1 < scanBound)
    (hQ : ∀ b h', Heap.SameBut a s.heap h' → SetG knd h' a (fun j => S j || decide (j = k)) (n + 1) → Q b { s with heap := h' }) :
    wpAny (model P w) A (setAddHashed a v (knd.hash k)) Q E s := by
  obtain ⟨o, es, ep, t, ho, hex, hd, hel, hm, hb0, hf, hr, hl⟩ := R
  have hb : es.size < scanBound := by omega
  unfold setAddHashed setAddHashedIn
  refine wpAny_holding (wpAny_bind (wpAny_setState_of ho hd hf ?_))
  dsimp only
  rw [byScan_of hsc hb hel]
  simp only [↓reduceIte]
  unfold setAddByScan
  refine wpAny_bind ?_
  refine wpAny_bind (wpAny_rule ?_)
  refine wpAny_bind (wpAny_setScan_of hkey ho hd hf hel ?_)
  cases hfi : List.findIdx? (fun e => knd.is k e.2) es.toList with
  | some j =>
    dsimp only
    obtain ⟨hj, pj, _⟩ := List.findIdx?_eq_some_iff_getElem.mp hfi
    have hSk : S k = true := (hm k).2 ⟨es.toList[j], List.getElem_mem hj, pj⟩
    refine wpAny_pure (wpAny_pure ?_)
    exact hQ _ s.heap (Heap.SameBut.refl a s.heap) ⟨o, es, ep, t, ho, hex, hd, hel, fun i => by
      rw [Bool.or_eq_true, decide_eq_true_eq, ← hm i]
      exact ⟨fun z => z.elim id (fun e => e ▸ hSk), .inl⟩, Nat.le_succ_of_le hb0, hf, hr, hl⟩
  | none =>
    dsimp only
    have hgw : ∀ (b : Bool) {s₁ : Shared} {Q' : Unit → Shared → Prop}, Q' () s₁ → wpAny (model P w) A (match b with | true => rule "set.scan.the-table-gave-way" | false => pure ()) Q' E s₁ :=
      fun b s₁ Q' q => by cases b <;> first | exact wpAny_pure q | exact wpAny_rule q
    have pm := layNew_perm t es (knd.hash k) v
    have hf1 := layNew_fits t es (knd.hash k) v
    have hr1 := layNew_ris t es (knd.hash k) v hr
    have hl1 := layNew_led t es (knd.hash k) v
    generalize layNew t es (knd.hash k) v = Z at pm hf1 hr1 hl1 ⊢
    obtain ⟨es1, t1, wasDummy, gave⟩ := Z
    dsimp only at pm hf1 hr1 hl1 ⊢
    rw [Array.toList_push] at pm
    have pc : es1.toList.Perm ((knd.hash k, v) :: es.toList) := pm.trans (List.perm_append_singleton _ _)
    have g1 : ElemsOf knd es1.toList := fun e he => by
      rcases List.mem_cons.mp (pc.mem_iff.mp he) with z | z
      · rw [z]; exact ⟨⟨k, hkey, rfl⟩, hsc⟩
      · exact hel e z
    have m1 : ∀ i, (S i || decide (i = k)) = true ↔ ∃ e ∈ es1.toList, knd.is i e.2 = true := fun i => by
      rw [Bool.or_eq_true, decide_eq_true_eq, hm i]
      constructor
      · rintro (⟨e, he, q⟩ | rfl)
        · exact ⟨e, pc.mem_iff.mpr (List.mem_cons_of_mem _ he), q⟩
        · exact ⟨_, pc.mem_iff.mpr List.mem_cons_self, hkey⟩
      · rintro ⟨e, he, q⟩
        rcases List.mem_cons.mp (pc.mem_iff.mp he) with rfl | he
        · exact .inr (knd.inj v _ _ q hkey)
        · exact .inl ⟨e, he, q⟩
    have hsz : es1.size ≤ n + 1 := by rw [← Array.length_toList, pc.length_eq, List.length_cons, Array.length_toList]; omega
    have hb1 : es1.size < scanBound := by omega
    have hled : w.params.followText "set-order" = true ∨ t1.led = true := hl.imp id fun z => by rw [hl1]; exact z
    have fin : ∀ h', Heap.SameBut a s.heap h' → SetG knd h' a (fun j => S j || decide (j = k)) es1.size → Q true { s with heap := h' } := fun h' sb r => hQ _ h' sb (r.more hsz)
    refine wpAny_bind (hgw _ ?_)
    split
    · refine wpAny_bind ?_
      rw [hashByValue_scannable 8 hsc]
      refine wpAny_pure ?_
      refine setG_add_tail ?_ ho hex hd g1 m1 hb1 ?_ ?_ ?_ ?_
      · intro b s₁ Q' q; cases b <;> first | exact wpAny_pure q | exact wpAny_rule q
      · first | (split <;> first | exact hf1 | exact SetTable.fits_plain_off hf1) | exact hf1
      · first | (split <;> exact hr1) | exact hr1
      · first | (split <;> exact hled) | exact hled
      · intro h' sb r; dsimp only; exact wpAny_pure (fin h' sb r)
    · refine wpAny_bind (wpAny_pure ?_)
      simp only [↓reduceIte]
      refine setG_add_tail ?_ ho hex hd g1 m1 hb1 hf1 hr1 hled ?_
      · intro b s₁ Q' q; cases b <;> first | exact wpAny_pure q | exact wpAny_rule q
      · intro h' sb r; dsimp only; exact wpAny_pure (fin h' sb r)
theorem setG_fresh {h : Heap} : SetG knd (h.push { cls := .type "set", dict := none, data := .set #[] 0 (.fresh 0 0 (!w.params.followText "set-order")) }) h.objs.size (fun _ => false) 0 :=
  ⟨_, #[], 0, _, Heap.get?_push_size _ rfl, ⟨rfl, rfl, rfl⟩, rfl, (fun e he => by simp at he), (fun k => by simp), Nat.le_refl _, (by rfl), List.Pairwise.nil, by
    show _ ∨ (!w.params.followText "set-order") = true
    cases w.params.followText "set-order"
    · exact .inr rfl
    · exact .inl rfl⟩
theorem setG_congr {h : Heap} {S' : α → Bool} (g : SetG knd h a S n) (e : ∀ k, S k = S' k) : SetG knd h a S' n := by
  have : S = S' := funext e
  rw [← this]; exact g
theorem SetG.at {h h' : Heap} (g : SetG knd h a S n) (k : ∀ o, h.get? a = some o → h'.get? a = some o) : SetG knd h' a S n := by
  obtain ⟨o, es, ep, t, h1, r⟩ := g
  exact ⟨o, es, ep, t, k o h1, r⟩
end
section
variable {prog : Program} {w : World} {A : Around} {R : Result → Shared → Prop} {I : Addr} {fp wr : List Addr} {G : Array GenState → Array GenState → Prop} {n : Nat} {P : Nat → Value → Prop} {St : Nat → Shared → Prop} {α : Type} [DecidableEq α] {knd : KeyKind prog w α}
theorem set_update_loopG (W : WalksS prog w A.in1 I fp wr G n P St) (S : Addr) (hSf : S ∉ fp)
    (val : List α) (hval : ∀ i v, P i v → ∃ k, val[i]? = some k ∧ knd.is k v = true ∧ v.scannable = true) (hb : n + 1 < scanBound) (hn : val.length = n) :
    ∀ (k i : Nat) (s : Shared), n - i = k → i ≤ n → St i s →
      SetG knd s.heap S (fun k' => decide (k' ∈ val.take i)) i →
      (∀ s', Moved (S :: wr) G s s' → SetG knd s'.heap S (fun k' => decide (k' ∈ val)) n → R (.ok (.ret .none)) s') →
      codeAny (model prog w) A (.builtin "set.update.loop" ⟨[.ref S, .ref I], []⟩) R s := by
  have hSw : S ∉ wr := fun h => hSf (W.sub _ h)
  have hsub : ∀ b ∈ wr, b ∈ S :: wr := fun b hb => List.mem_cons_of_mem _ hb
  intro k
  induction k with
  | zero =>
    intro i s hk hi hst hS hR
    have hin : i = n := by omega
    subst hin
    refine codeAny_builtin PyProof.Rows.F.entry_set_update_loop ?_
    rw [Around.under_plainId PyProof.Rows.F.plain_set_update_loop _]
    show wpAny _ A.in1 (pyNext (.ref I) >>= _) _ _ s
    refine wpAny_bind (W.done s _ _ hst fun s' hm => ?_)
    show wpAny _ A.in1 (ret Value.none) _ _ s'
    rw [List.take_of_length_le (Nat.le_of_eq hn)] at hS
    exact wpAny_pure (hR s' (hm.mono hsub) (hS.at fun o ho => hm.heap S _ hSw ho))
  | succ k ih =>
    intro i s hk hi hst hS hR
    have hlt : i < n := by omega
    refine codeAny_builtin PyProof.Rows.F.entry_set_update_loop ?_
    rw [Around.under_plainId PyProof.Rows.F.plain_set_update_loop _]
    show wpAny _ A.in1 (pyNext (.ref I) >>= _) _ _ s
    refine wpAny_bind (W.item i s _ _ hlt hst fun v s' hP hst' hm => ?_)
    obtain ⟨key, hvi, his, hsc⟩ := hval i v hP
    have hS' : SetG knd s'.heap S (fun k' => decide (k' ∈ val.take i)) i := hS.at fun o ho => hm.heap S _ hSw ho
    show wpAny _ A.in1 (holding [v] (setAdd S v) >>= _) _ _ s'
    refine wpAny_bind (wpAny_holding ?_)
    unfold setAdd
    refine wpAny_holding ?_
    refine wpAny_bind (knd.pyHash (k := key) his ?_)
    refine setG_add_hashed (s := { s' with toks := s'.toks + 1 }) hS' his hsc (by omega) fun b h' hsb hS2 => ?_
    have hSi : SetG knd h' S (fun k' => decide (k' ∈ val.take (i + 1))) (i + 1) := setG_congr hS2 fun k' => by
      have e : val.take (i + 1) = val.take i ++ [key] := by rw [List.take_succ, hvi]; rfl
      rw [e]
      by_cases h1 : k' ∈ val.take i <;> by_cases h2 : k' = key <;> simp [h1, h2]
    refine wpAny_pure ⟨plainId_quiet PyProof.Rows.F.plain_set_update_loop _, ih (i + 1) _ (by omega) hlt (W.frame _ s' _ _ hst' (Nat.le_succ _) fun b hb o e => ?_) hSi fun s'' hm'' hS'' => ?_⟩
    · rw [hsb.2 b (fun h : b = S => hSf (by rw [← h]; exact hb))]; exact e
    · refine hR s'' (Moved.trans W.gtrans ((hm.mono hsub).then_heap (Nat.le_succ _) fun b o hb e => ?_) hm'') hS''
      rw [hsb.2 b (fun h : b = S => hb (by rw [h]; exact List.mem_cons_self))]; exact e
end
section
variable {prog : Program} {w : World} {A : Around} {E : Value → Shared → Prop} {s : Shared}
theorem code_set_new1 (a : Value) {Q₁ : Value → Shared → Prop}
    (h : Q₁ (.ref s.heap.objs.size) { s with heap := s.heap.push { cls := .type "set", dict := none, data := .set #[] 0 (.fresh 0 0 (!w.params.followText "set-order")) } }) :
    codeAny (model prog w) A (.call (.builtin "set.__new__") ⟨[.type "set", a], []⟩) (wants Q₁ E) s := by
  refine codeAny_of_tree ?_
  show wpAny _ A.in1 (do checkBuiltinCall "set.__new__" ⟨[.type "set", a], []⟩; again (.builtin "set.__new__" ⟨[.type "set", a], []⟩)) _ _ s
  refine wpAny_bind (wpAny_of_eq (PySem.F.newCall_set_1 a) (wpAny_pure ⟨plainId_quiet F.plain_set_new _, codeAny_builtin F.entry_set_new ?_⟩))
  rw [Around.under_plainId F.plain_set_new _]
  unfold Builtin.«set.__new__» Builtin.Frozenset.newClass
  have hsub := sub_set_self
  obtain ⟨hp, g, d, tk, os⟩ := s
  dsimp only
  wp_walk
  refine wpAny_askSetting (wpAny_pure ?_)
  dsimp only
  simp only [newObj]
  refine wpAny_bind (wpAny_alloc (wpAny_pure ?_))
  exact wpAny_pure h
variable {α : Type} [DecidableEq α] {knd : KeyKind prog w α}
set_option maxHeartbeats 4000000 in
theorem call_set_listG {l : Addr} {items : Array Value} {val : List α} {Q : Value → Shared → Prop}
    (hh : A.handled = none) (hl : s.heap.IsList l items) (hval : ∀ (i : Nat) (v : Value), items[i]? = some v → ∃ k, val[i]? = some k ∧ knd.is k v = true ∧ v.scannable = true) (hn : val.length = items.size) (hb : items.size + 1 < scanBound)
    (h : ∀ (h' : Heap) (tk : Nat), SetG knd h' s.heap.objs.size (fun k' => decide (k' ∈ val)) items.size →
      (∀ b o, b < s.heap.objs.size → s.heap.get? b = some o → h'.get? b = some o) → s.heap.objs.size < h'.objs.size → Q (.ref s.heap.objs.size) { s with heap := h', toks := tk }) :
    wpAny (model prog w) A (call (.type "set") [.ref l]) Q E s := by
  obtain ⟨c, tl, hmro⟩ := F.called_set.mro
  have hmade := F.called_set.made
  have hsub := F.called_set.sub
  refine wpAny_call (codeAny_of_tree ?_)
  show wpAny _ _ (callAny (.type "set") _) _ _ _
  refine wpAny_pure ⟨Code.quiet_builtin _ (by decide +kernel), codeAny_builtin F.entry_type_call ?_⟩
  rw [Around.under_plain (weight_type_call_type "set" [.ref l] []) rfl]
  have h1 := F.called_set.notType
  have h2 := F.called_set.canCreate
  have hct := PySem.F.typeCall_set_1 (.ref l)
  repeat (any_goals (first | assumption | wp_step))
  refine codeAny_mono (code_set_new1 (.ref l) (E := E) (Q₁ := fun obj s₁ => obj = .ref s.heap.objs.size ∧ s₁ = { s with heap := s.heap.push { cls := .type "set", dict := none, data := .set #[] 0 (.fresh 0 0 (!w.params.followText "set-order")) } }) ⟨rfl, rfl⟩) fun r s₁ hr => ?_
  have fresh := setG_fresh (knd := knd) (h := s.heap)
  generalize (!w.params.followText "set-order") = led at hr fresh
  cases r with
  | error e => exact hr
  | ok fl =>
    cases fl with
    | ret obj =>
      obtain ⟨rfl, rfl⟩ := hr
      have hS : (s.heap.push { cls := .type "set", dict := none, data := .set #[] 0 (.fresh 0 0 led) }).get? s.heap.objs.size = some { cls := .type "set", dict := none, data := .set #[] 0 (.fresh 0 0 led) } := Heap.get?_push_size _ rfl
      have hT : Shared.TypeIs { s with heap := s.heap.push { cls := .type "set", dict := none, data := .set #[] 0 (.fresh 0 0 led) } } (.ref s.heap.objs.size) "set" := ⟨_, hS, rfl⟩
      have hli := F.called_set.init.lookup
      have hbi := F.called_set.init.bind (.ref s.heap.objs.size)
      repeat (any_goals (first | assumption | wp_step))
      refine codeAny_mono (codeAny_call_builtin (R := wants (fun r s₂ => r = .none ∧ ∃ h' tk, s₂ = { s with heap := h', toks := tk } ∧
          SetG knd h' s.heap.objs.size (fun k' => decide (k' ∈ val)) items.size ∧
          (∀ b o, b < s.heap.objs.size → s.heap.get? b = some o → h'.get? b = some o)) E) F.called_set.init.plain F.entry_set_init (check_set_init_1 hT ?_)) fun r₂ s₂ hr₂ => ?_
      · obtain ⟨ol, hol, hcl, nl, hdl⟩ := hl
        obtain ⟨ocls, odict, odata, oslots⟩ := ol
        simp only at hcl hdl
        subst hcl; subst hdl
        have hol' : (s.heap.push { cls := .type "set", dict := none, data := .set #[] 0 (.fresh 0 0 led) }).get? l = some { cls := .type "list", dict := odict, data := .seq items nl, slots := oslots } := Heap.get?_push_of_some _ hol
        have hsls := F.sub_list_set
        have hslf := F.sub_list_frozenset
        have hne : (Value.type "list" == Value.type "dict") = false := by decide
        have hl1 : (s.heap.push { cls := .type "set", dict := none, data := .set #[] 0 (.fresh 0 0 led) }).IsList l items := ⟨_, hol', rfl, nl, rfl⟩
        unfold Builtin.«set.__init__» noKeywords Builtin.Frozenset.updateFrom
        generalize hPI : pyIter = PI
        wp_walk
        subst hPI
        refine wpAny_pyIter_list hl1 ?_
        refine wpAny_bind (wpAny_runValue ?_)
        have hlS : l < s.heap.objs.size := Heap.lt_size hol
        have hh3 : A.in1.in1.in1.handled = none := by simp [hh]
        have hneI : l ≠ (s.heap.push { cls := .type "set", dict := none, data := .set #[] 0 (.fresh 0 0 led) }).objs.size := by
          rw [Heap.size_push]; exact Nat.ne_of_lt (Nat.lt_succ_of_lt hlS)
        have hSf : s.heap.objs.size ∉ [(s.heap.push { cls := .type "set", dict := none, data := .set #[] 0 (.fresh 0 0 led) }).objs.size, l] := by
          rw [Heap.size_push]; simp only [List.mem_cons, List.mem_singleton, List.not_mem_nil, or_false, not_or]
          exact ⟨Nat.ne_of_lt (Nat.lt_succ_self _), Nat.ne_of_gt hlS⟩
        refine set_update_loopG (knd := knd) ((Walks.list hh3 _ l hneI items).toS) s.heap.objs.size
          hSf val hval hb hn (items.size - 0) 0 _ (by omega) (Nat.zero_le _)
          ⟨⟨_, Heap.get?_push_size _ rfl, rfl, rfl⟩, (hl1.push _)⟩ ?hS0 ?hR
        case hS0 =>
          exact setG_congr (fresh.at fun o ho => Heap.get?_push_of_some _ ho) fun k => by simp
        case hR =>
          intro s' hm hS'
          obtain ⟨h', g', d', tk', os'⟩ := s'
          have eg : g' = s.gens := hm.gens
          have ed : d' = s.drawn := hm.drawn
          have eo : os' = s.os := hm.os
          subst eg; subst ed; subst eo
          show wpAny _ _ _ _ _ _
          refine wpAny_pure ?_
          show wpAny _ _ (ret Value.none) _ _ _
          refine wpAny_pure ⟨rfl, h', tk', rfl, hS', fun b o hb e => ?_⟩
          have hb1 : b ≠ s.heap.objs.size := Nat.ne_of_lt hb
          have hb2 : b ≠ (s.heap.push { cls := .type "set", dict := none, data := .set #[] 0 (.fresh 0 0 led) }).objs.size := by
            rw [Heap.size_push]; exact Nat.ne_of_lt (Nat.lt_succ_of_lt hb)
          exact hm.heap b o (by simp only [List.mem_cons, List.mem_singleton, List.not_mem_nil, or_false, not_or]; exact ⟨hb1, hb2⟩) (Heap.get?_push_of_some _ (Heap.get?_push_of_some _ e))
      · cases r₂ with
        | error e => exact hr₂
        | ok fl₂ =>
          cases fl₂ with
          | ret r =>
            obtain ⟨rfl, h', tk, rfl, hS', hk'⟩ := hr₂
            repeat (any_goals (first | assumption | wp_step))
            have hlt : s.heap.objs.size < h'.objs.size := by
              obtain ⟨o, es, ep, t, ho, _⟩ := hS'
              exact Heap.lt_size ho
            exact h _ _ hS' hk' hlt
          | _ => exact hr₂.elim
    | _ => exact hr.elim
end
/-- the set at p -/
def setGO {P : Program} {w : World} {α : Type} [DecidableEq α] (knd : KeyKind P w α) (p : Addr) (S : α → Bool) (n : Nat) : HO := .ext fun h => SetG knd h p S n
section
variable {X : Cx}
theorem setGO_ok {H : Hp} {h : Heap} {p : Addr} {α : Type} [DecidableEq α] {knd : KeyKind X.prog X.w α} {S : α → Bool} {n : Nat} (g : SetG knd h p S n) : ObjOk X.prog X.w H h p (setGO knd p S n) :=
  ⟨g, let ⟨o, _, _, _, ho, _⟩ := g; ⟨o, ho⟩, fun h1 h2 x k => x.at k⟩
theorem call_setS (hc : X.calm = true) : CallR X (.type "set") (fun xs H Q => ∃ (l : Addr) (ks : List Str), xs = [.ref l] ∧ SqL X.K H l (ks.map V.str) ∧ ks.length < 1000 ∧ ∀ p, H p = none → Q (.ref p) (upd H p (setGO (strKind X.prog X.w) p (fun k => decide (k ∈ ks)) ks.length))) := by
  intro pins s σ H xs us Q I r h
  obtain ⟨l, ks, rfl, hq, hz, q⟩ := h
  obtain ⟨u, rfl, ru⟩ := vals1 r
  cases ru
  obtain ⟨its, rv, pl, _⟩ := I.list hq
  have hl : its.length = ks.length := by have := rv.length; rw [List.length_map] at this; exact this.symm
  refine call_set_listG (knd := strKind X.prog X.w) (val := ks) (I.ok.hd hc) pl.isList (fun i v hv => ?_) (by simp [hl]) (by rw [List.size_toArray, hl]; unfold scanBound; omega) fun h' tk g hk hlt => ?_
  · have hv' : its[i]? = some v := by simpa using hv
    have hi : i < ks.length := by rw [← hl]; exact (List.getElem?_eq_some_iff.mp hv').1
    have e1 : (ks.map V.str)[i]? = some (.str ks[i]) := by rw [List.getElem?_map, List.getElem?_eq_getElem hi]; rfl
    obtain ⟨u, hu, ru⟩ := rv.get e1
    rw [hv'] at hu
    cases hu
    obtain ⟨t, rfl⟩ := ru
    exact ⟨ks[i], List.getElem?_eq_getElem hi, strKind_is _ _ _ _, rfl⟩
  · have hsz : its.toArray.size = ks.length := by rw [List.size_toArray, hl]
    rw [hsz] at g
    exact ⟨.ref s.heap.objs.size, _, I.laid (t' := tk) (o := setGO (strKind X.prog X.w) s.heap.objs.size (fun k => decide (k ∈ ks)) ks.length) (fun b u e => hk b u (Heap.lt_size e) e) (Nat.le_refl _) (setGO_ok g), rfl, q _ (I.hok.fresh (Nat.le_refl _))⟩
theorem call_setI (hc : X.calm = true) : CallR X (.type "set") (fun xs H Q => ∃ (l : Addr) (ks : List Int), xs = [.ref l] ∧ SqL X.K H l (ks.map V.int) ∧ ks.length < 1000 ∧ ∀ p, H p = none → Q (.ref p) (upd H p (setGO (intKind X.prog X.w) p (fun k => decide (k ∈ ks)) ks.length))) := by
  intro pins s σ H xs us Q I r h
  obtain ⟨l, ks, rfl, hq, hz, q⟩ := h
  obtain ⟨u, rfl, ru⟩ := vals1 r
  cases ru
  obtain ⟨its, rv, pl, _⟩ := I.list hq
  have hl : its.length = ks.length := by have := rv.length; rw [List.length_map] at this; exact this.symm
  refine call_set_listG (knd := intKind X.prog X.w) (val := ks) (I.ok.hd hc) pl.isList (fun i v hv => ?_) (by simp [hl]) (by rw [List.size_toArray, hl]; unfold scanBound; omega) fun h' tk g hk hlt => ?_
  · have hv' : its[i]? = some v := by simpa using hv
    have hi : i < ks.length := by rw [← hl]; exact (List.getElem?_eq_some_iff.mp hv').1
    have e1 : (ks.map V.int)[i]? = some (.int ks[i]) := by rw [List.getElem?_map, List.getElem?_eq_getElem hi]; rfl
    obtain ⟨u, hu, ru⟩ := rv.get e1
    rw [hv'] at hu
    cases hu
    obtain ⟨t, rfl⟩ := ru
    exact ⟨ks[i], List.getElem?_eq_getElem hi, intKind_is _ _ _ _, rfl⟩
  · have hsz : its.toArray.size = ks.length := by rw [List.size_toArray, hl]
    rw [hsz] at g
    exact ⟨.ref s.heap.objs.size, _, I.laid (t' := tk) (o := setGO (intKind X.prog X.w) s.heap.objs.size (fun k => decide (k ∈ ks)) ks.length) (fun b u e => hk b u (Heap.lt_size e) e) (Nat.le_refl _) (setGO_ok g), rfl, q _ (I.hok.fresh (Nat.le_refl _))⟩
/-- the values of a set of texts -/
theorem elems_strs {P : Program} {w : World} {es : List (Int × Value)} (h : ElemsOf (strKind P w) es) : ∃ ks : List Str, StrsAre (es.map (·.2)) ks ∧ ∀ k, k ∈ ks ↔ ∃ e ∈ es, (strKind P w).is k e.2 = true := by
  induction es with
  | nil => exact ⟨[], .nil, fun k => by simp⟩
  | cons e es ih =>
    obtain ⟨ks, h1, h2⟩ := ih fun x hx => h x (List.mem_cons_of_mem _ hx)
    obtain ⟨⟨k, hk, _⟩, _⟩ := h e List.mem_cons_self
    obtain ⟨t, ev⟩ := Value.isStrOf_shape (x := k) (v := e.2) hk
    refine ⟨k :: ks, ?_, fun j => ?_⟩
    · rw [List.map_cons, ev]; exact .cons _ _ h1
    · rw [List.mem_cons, h2 j]
      constructor
      · rintro (rfl | ⟨e', he, q⟩)
        · exact ⟨e, List.mem_cons_self, hk⟩
        · exact ⟨e', List.mem_cons_of_mem _ he, q⟩
      · rintro ⟨e', he, q⟩
        rcases List.mem_cons.mp he with rfl | he
        · exact .inl ((strKind P w).inj _ _ _ q hk)
        · exact .inr ⟨e', he, q⟩
theorem elems_ints {P : Program} {w : World} {es : List (Int × Value)} (h : ElemsOf (intKind P w) es) : ∃ ks : List Int, IntsAre (es.map (·.2)) ks ∧ ∀ k, k ∈ ks ↔ ∃ e ∈ es, (intKind P w).is k e.2 = true := by
  induction es with
  | nil => exact ⟨[], .nil, fun k => by simp⟩
  | cons e es ih =>
    obtain ⟨ks, h1, h2⟩ := ih fun x hx => h x (List.mem_cons_of_mem _ hx)
    obtain ⟨⟨k, hk, _⟩, _⟩ := h e List.mem_cons_self
    obtain ⟨t, ev⟩ : ∃ t, e.2 = Value.int k t := by
      rcases keyIs_shape (show keyIs (Sum.inl k) e.2 = true from hk) with ⟨i, t, ek, ev⟩ | ⟨z, t, ek, ev⟩
      · cases ek; exact ⟨t, ev⟩
      · cases ek
    refine ⟨k :: ks, ?_, fun j => ?_⟩
    · rw [List.map_cons, ev]; exact .cons _ _ h1
    · rw [List.mem_cons, h2 j]
      constructor
      · rintro (rfl | ⟨e', he, q⟩)
        · exact ⟨e, List.mem_cons_self, hk⟩
        · exact ⟨e', List.mem_cons_of_mem _ he, q⟩
      · rintro ⟨e', he, q⟩
        rcases List.mem_cons.mp he with rfl | he
        · exact .inl ((intKind P w).inj _ _ _ q hk)
        · exact .inr ⟨e', he, q⟩
/-- values that are a rearrangement of texts -/
theorem strs_perm {vs us : List Value} (p : vs.Perm us) : ∀ {ks : List Str}, StrsAre us ks → ∃ js, StrsAre vs js ∧ js.Perm ks := by
  induction p with
  | nil => intro ks h; exact ⟨ks, h, .refl _⟩
  | cons x _ ih =>
    intro ks h
    cases h with
    | cons a t h =>
      obtain ⟨js, h1, h2⟩ := ih h
      exact ⟨_ :: js, .cons _ _ h1, h2.cons _⟩
  | swap x y l =>
    intro ks h
    cases h with
    | cons a t h =>
      cases h with
      | cons b u h => exact ⟨_ :: _ :: _, .cons _ _ (.cons _ _ h), .swap _ _ _⟩
  | trans _ _ ih1 ih2 =>
    intro ks h
    obtain ⟨js, h1, h2⟩ := ih2 h
    obtain ⟨is, h3, h4⟩ := ih1 h1
    exact ⟨is, h3, h4.trans h2⟩
theorem ints_perm {vs us : List Value} (p : vs.Perm us) : ∀ {ks : List Int}, IntsAre us ks → ∃ js, IntsAre vs js ∧ js.Perm ks := by
  induction p with
  | nil => intro ks h; exact ⟨ks, h, .refl _⟩
  | cons x _ ih =>
    intro ks h
    cases h with
    | cons a t h =>
      obtain ⟨js, h1, h2⟩ := ih h
      exact ⟨_ :: js, .cons _ _ h1, h2.cons _⟩
  | swap x y l =>
    intro ks h
    cases h with
    | cons a t h =>
      cases h with
      | cons b u h => exact ⟨_ :: _ :: _, .cons _ _ (.cons _ _ h), .swap _ _ _⟩
  | trans _ _ ih1 ih2 =>
    intro ks h
    obtain ⟨js, h1, h2⟩ := ih2 h
    obtain ⟨is, h3, h4⟩ := ih1 h1
    exact ⟨is, h3, h4.trans h2⟩
theorem call_sortedSetS (hc : X.calm = true) : CallR X (.builtin "sorted") (fun xs H Q => ∃ (p : Addr) (S : Str → Bool) (n : Nat), xs = [.ref p] ∧ H p = some (setGO (strKind X.prog X.w) p S n) ∧ n < 64 ∧
    ∀ (ys : List Str) (l : Addr), (∀ k, k ∈ ys ↔ S k = true) → ys.length ≤ n → H l = none → Q (.ref l) (upd H l (.lst (ys.map V.str)))) := by
  intro pins s σ H xs us Q I r h
  obtain ⟨a, S, n, rfl, ha, h64, q⟩ := h
  have R : SetG (strKind X.prog X.w) s.heap a S n := (show ObjOk X.prog X.w H s.heap a (setGO (strKind X.prog X.w) a S n) from I.hok a _ ha).1
  rw [Vals.ref1 r]
  obtain ⟨o, es, ep, t, ho, hex, hd, hel, hm, hn, hf, hr, hl⟩ := R
  refine Calls.call_function_entry kind_sorted plain_sorted entry_sorted (args_sorted1 _) ?_
  unfold Builtin.«sorted»
  refine wpAny_bind (m := checkCount "sorted" 1 1 _) (wpAny_pure ?_)
  refine wpAny_bind (collect_set (A := X.A.in1) (I.ok.hd hc) ⟨o, ho, hex.1, hd⟩ hf (by unfold scanBound; omega) hr hl fun s1 vs k1 hz g1 o1 pm => ?_)
  have hvl : vs.length ≤ n := by rw [pm.length_eq, List.length_map, Array.length_toList]; exact hn
  obtain ⟨ks, e1, e2⟩ := elems_strs hel
  obtain ⟨js, hS, pj⟩ := strs_perm pm e1
  refine wpAny_bind (wpAny_newList ?_ (by rw [sizeLine_eq]; omega))
  have hoL : (s1.heap.push (seqObj "list" vs.toArray 0)).get? s1.heap.objs.size = some (seqObj "list" vs.toArray 0) := Heap.get?_push_size _ rfl
  show wpAny _ _ _ _ _ { s1 with heap := s1.heap.push (seqObj "list" vs.toArray 0) }
  refine wpAny_bind (wpAny_holding (wpAny_call_entry slot_list_sort ⟨_, hoL, rfl⟩ entry_list_sort
    (list_sort_treeK strKind_oneLt (s := { s1 with heap := s1.heap.push (seqObj "list" vs.toArray 0) }) hoL hS.keysOf (fun v₁ v₂ rest e => keyKind_strs (by rw [← e]; exact hS)) (by omega) fun st' hp hs => ⟨_, rfl, ?_⟩)
    (args_list_sort _)))
  obtain ⟨ys, q1, q2, q3⟩ := sorted_out_str hS hp hs
  obtain ⟨c, hcs⟩ := sortedHeap_at (vs := vs) (out := (arrOf st').map (·.2)) hoL
  have hlen : (ys.map V.str).length ≤ sizeLine := by
    have := q2.length_eq
    have := pj.length_eq
    have := hS.length
    rw [List.length_map, sizeLine_eq]; omega
  have hnl : H s1.heap.objs.size = none := I.hok.fresh hz
  refine wpAny_pure ⟨_, rfl, ?_⟩
  have kk : ∀ b u, s.heap.get? b = some u → (sortedHeap (s1.heap.push (seqObj "list" vs.toArray 0)) s1.heap.objs.size vs ((arrOf st').map (·.2))).get? b = some u := fun b u e => by
    have q := k1 b u e
    have hlt := Heap.lt_size q
    rw [sortedHeap_old (Nat.ne_of_lt hlt) (by rw [size_push']; exact Nat.lt_succ_of_lt hlt)]
    exact Heap.get?_push_of_some _ q
  have J : Inv X pins σ (upd H s1.heap.objs.size (.lst (ys.map V.str))) { s with heap := sortedHeap (s1.heap.push (seqObj "list" vs.toArray 0)) s1.heap.objs.size vs ((arrOf st').map (·.2)), gens := s1.gens, drawn := s1.drawn, toks := s1.toks } :=
    I.call (ch := []) (Un.laid kk hz hnl) (I.hok.laid kk hz ⟨hlen, ((arrOf st').map (·.2)).toList, c, vals_of_strs q1, by rw [Array.toArray_toList]; exact hcs⟩) (by rw [g1]; exact I.bare) (fun _ z => nomatch z)
  have e : ({ s1 with heap := sortedHeap (s1.heap.push (seqObj "list" vs.toArray 0)) s1.heap.objs.size vs ((arrOf st').map (·.2)) } : Shared) = { s with heap := sortedHeap (s1.heap.push (seqObj "list" vs.toArray 0)) s1.heap.objs.size vs ((arrOf st').map (·.2)), gens := s1.gens, drawn := s1.drawn, toks := s1.toks } := by
    cases s1; cases s; cases o1; rfl
  show EP X pins σ Q (.ref s1.heap.objs.size) { s1 with heap := sortedHeap (s1.heap.push (seqObj "list" vs.toArray 0)) s1.heap.objs.size vs ((arrOf st').map (·.2)) }
  rw [e]
  refine ⟨.ref s1.heap.objs.size, _, J, rfl, q ys _ (fun k => ?_) ?_ hnl⟩
  · rw [q2.mem_iff, pj.mem_iff, e2 k, hm k]
  · have := q2.length_eq
    have := pj.length_eq
    have := hS.length
    omega
theorem call_sortedSetI (hc : X.calm = true) : CallR X (.builtin "sorted") (fun xs H Q => ∃ (p : Addr) (S : Int → Bool) (n : Nat), xs = [.ref p] ∧ H p = some (setGO (intKind X.prog X.w) p S n) ∧ n < 64 ∧
    ∀ (ys : List Int) (l : Addr), (∀ k, k ∈ ys ↔ S k = true) → ys.length ≤ n → H l = none → Q (.ref l) (upd H l (.lst (ys.map V.int)))) := by
  intro pins s σ H xs us Q I r h
  obtain ⟨a, S, n, rfl, ha, h64, q⟩ := h
  have R : SetG (intKind X.prog X.w) s.heap a S n := (show ObjOk X.prog X.w H s.heap a (setGO (intKind X.prog X.w) a S n) from I.hok a _ ha).1
  rw [Vals.ref1 r]
  obtain ⟨o, es, ep, t, ho, hex, hd, hel, hm, hn, hf, hr, hl⟩ := R
  refine Calls.call_function_entry kind_sorted plain_sorted entry_sorted (args_sorted1 _) ?_
  unfold Builtin.«sorted»
  refine wpAny_bind (m := checkCount "sorted" 1 1 _) (wpAny_pure ?_)
  refine wpAny_bind (collect_set (A := X.A.in1) (I.ok.hd hc) ⟨o, ho, hex.1, hd⟩ hf (by unfold scanBound; omega) hr hl fun s1 vs k1 hz g1 o1 pm => ?_)
  have hvl : vs.length ≤ n := by rw [pm.length_eq, List.length_map, Array.length_toList]; exact hn
  obtain ⟨ks, e1, e2⟩ := elems_ints hel
  obtain ⟨js, hS, pj⟩ := ints_perm pm e1
  refine wpAny_bind (wpAny_newList ?_ (by rw [sizeLine_eq]; omega))
  have hoL : (s1.heap.push (seqObj "list" vs.toArray 0)).get? s1.heap.objs.size = some (seqObj "list" vs.toArray 0) := Heap.get?_push_size _ rfl
  show wpAny _ _ _ _ _ { s1 with heap := s1.heap.push (seqObj "list" vs.toArray 0) }
  refine wpAny_bind (wpAny_holding (wpAny_call_entry slot_list_sort ⟨_, hoL, rfl⟩ entry_list_sort
    (list_sort_tree (s := { s1 with heap := s1.heap.push (seqObj "list" vs.toArray 0) }) hoL hS (by omega) fun out ys q1 q2 q3 => ⟨_, rfl, ?_⟩) (args_list_sort _)))
  obtain ⟨c, hcs⟩ := sortedHeap_at (vs := vs) (out := out) hoL
  have hlen : (ys.map V.int).length ≤ sizeLine := by
    have := q2.length_eq
    have := pj.length_eq
    have := hS.length
    rw [List.length_map, sizeLine_eq]; omega
  have hnl : H s1.heap.objs.size = none := I.hok.fresh hz
  refine wpAny_pure ⟨_, rfl, ?_⟩
  have kk : ∀ b u, s.heap.get? b = some u → (sortedHeap (s1.heap.push (seqObj "list" vs.toArray 0)) s1.heap.objs.size vs out).get? b = some u := fun b u e => by
    have q := k1 b u e
    have hlt := Heap.lt_size q
    rw [sortedHeap_old (Nat.ne_of_lt hlt) (by rw [size_push']; exact Nat.lt_succ_of_lt hlt)]
    exact Heap.get?_push_of_some _ q
  have J : Inv X pins σ (upd H s1.heap.objs.size (.lst (ys.map V.int))) { s with heap := sortedHeap (s1.heap.push (seqObj "list" vs.toArray 0)) s1.heap.objs.size vs out, gens := s1.gens, drawn := s1.drawn, toks := s1.toks } :=
    I.call (ch := []) (Un.laid kk hz hnl) (I.hok.laid kk hz ⟨hlen, out.toList, c, vals_of_ints q1, by rw [Array.toArray_toList]; exact hcs⟩) (by rw [g1]; exact I.bare) (fun _ z => nomatch z)
  have e : ({ s1 with heap := sortedHeap (s1.heap.push (seqObj "list" vs.toArray 0)) s1.heap.objs.size vs out } : Shared) = { s with heap := sortedHeap (s1.heap.push (seqObj "list" vs.toArray 0)) s1.heap.objs.size vs out, gens := s1.gens, drawn := s1.drawn, toks := s1.toks } := by
    cases s1; cases s; cases o1; rfl
  show EP X pins σ Q (.ref s1.heap.objs.size) { s1 with heap := sortedHeap (s1.heap.push (seqObj "list" vs.toArray 0)) s1.heap.objs.size vs out }
  rw [e]
  refine ⟨.ref s1.heap.objs.size, _, J, rfl, q ys _ (fun k => ?_) ?_ hnl⟩
  · rw [q2.mem_iff, pj.mem_iff, e2 k, hm k]
  · have := q2.length_eq
    have := pj.length_eq
    have := hS.length
    omega
variable {M : Mem} {Q : KE} {ρ : Env} {pos : Pos}
/-- sorted(set(e)): the members, each once or more, in some order -/
theorem xe_sortedSetS {e : Expr} {p p2 pos2 : Pos} (h : XE X e ρ M fun d M1 => ∃ ks : List Str, SeesL M1 d (ks.map fun k => .v (.str k)) ∧ ks.length < 64 ∧ ∀ ys : List Str, (∀ k, k ∈ ys ↔ k ∈ ks) → ys.length ≤ ks.length → Q (.lst (ys.map fun y => .v (.str y))) M1) (hm : X.mg "sorted" = none) (hm2 : X.mg "set" = none) (hg : Gl X "sorted" := by rfl) (hg2 : Gl X "set" := by rfl) (hc : X.calm = true := by rfl)
    (he : starEach [.Call (.Name "set" p2) [e] [] pos2] X.env = (false, eval (.Call (.Name "set" p2) [e] [] pos2) X.env) :: starEach [] X.env := by rfl) (hpl : (backTo pos (starEach [] X.env)).any (·.1) = false := by rfl)
    (he2 : starEach [e] X.env = (false, eval e X.env) :: starEach [] X.env := by rfl) (hpl2 : (backTo pos2 (starEach [] X.env)).any (·.1) = false := by rfl) :
    XE X (.Call (.Name "sorted" p) [.Call (.Name "set" p2) [e] [] pos2] [] pos) ρ M Q := fun F σ H s ev R k => by
  refine PE.w (pe_callB (id := "sorted") (call_sortedSetS hc) hg hm (by decide +kernel) (pa_cons (pe_callTy (T := "set") (call_setS hc) hg2 hm2 (by decide +kernel) (pa_cons pe_w pa_nil he2) (by decide) (by decide) he2 hpl2) pa_nil he) (by decide) (by decide) he hpl) ?_
  refine h F σ H s ev _ fun v d M1 F1 H1 q st s1 r => ?_
  obtain ⟨ks, sl, hz, q⟩ := q
  obtain ⟨l, xs, rfl, e1, ra⟩ := sl.get s1 r
  obtain rfl : xs = ks.map V.str := RpA.vs (by rw [List.map_map]; exact ra)
  refine ⟨l, ks, rfl, SqL.of e1, by omega, fun p hp => ?_⟩
  obtain ⟨s2, st2⟩ := s1.new hp (setGO (strKind X.prog X.w) p (fun k => decide (k ∈ ks)) ks.length)
  refine ⟨p, _, _, rfl, upd_same, hz, fun ys l2 h1 h2 hl => ?_⟩
  obtain ⟨s3, st3⟩ := s2.new hl (.lst (ys.map V.str))
  refine k _ _ M1 _ _ (q ys (fun k => by rw [h1 k]; simp) h2) ((st.trans st2).trans st3) s3 (.lst upd_same ?_)
  have := RpA.of_map (H := upd (upd F1 p (setGO (strKind X.prog X.w) p (fun k => decide (k ∈ ks)) ks.length)) l2 (.lst (ys.map V.str))) (ys.map V.str)
  rwa [List.map_map] at this
theorem xe_sortedSetI {e : Expr} {p p2 pos2 : Pos} (h : XE X e ρ M fun d M1 => ∃ ks : List Int, SeesL M1 d (ks.map fun k => .v (.int k)) ∧ ks.length < 64 ∧ ∀ ys : List Int, (∀ k, k ∈ ys ↔ k ∈ ks) → ys.length ≤ ks.length → Q (.lst (ys.map fun y => .v (.int y))) M1) (hm : X.mg "sorted" = none) (hm2 : X.mg "set" = none) (hg : Gl X "sorted" := by rfl) (hg2 : Gl X "set" := by rfl) (hc : X.calm = true := by rfl)
    (he : starEach [.Call (.Name "set" p2) [e] [] pos2] X.env = (false, eval (.Call (.Name "set" p2) [e] [] pos2) X.env) :: starEach [] X.env := by rfl) (hpl : (backTo pos (starEach [] X.env)).any (·.1) = false := by rfl)
    (he2 : starEach [e] X.env = (false, eval e X.env) :: starEach [] X.env := by rfl) (hpl2 : (backTo pos2 (starEach [] X.env)).any (·.1) = false := by rfl) :
    XE X (.Call (.Name "sorted" p) [.Call (.Name "set" p2) [e] [] pos2] [] pos) ρ M Q := fun F σ H s ev R k => by
  refine PE.w (pe_callB (id := "sorted") (call_sortedSetI hc) hg hm (by decide +kernel) (pa_cons (pe_callTy (T := "set") (call_setI hc) hg2 hm2 (by decide +kernel) (pa_cons pe_w pa_nil he2) (by decide) (by decide) he2 hpl2) pa_nil he) (by decide) (by decide) he hpl) ?_
  refine h F σ H s ev _ fun v d M1 F1 H1 q st s1 r => ?_
  obtain ⟨ks, sl, hz, q⟩ := q
  obtain ⟨l, xs, rfl, e1, ra⟩ := sl.get s1 r
  obtain rfl : xs = ks.map V.int := RpA.vs (by rw [List.map_map]; exact ra)
  refine ⟨l, ks, rfl, SqL.of e1, by omega, fun p hp => ?_⟩
  obtain ⟨s2, st2⟩ := s1.new hp (setGO (intKind X.prog X.w) p (fun k => decide (k ∈ ks)) ks.length)
  refine ⟨p, _, _, rfl, upd_same, hz, fun ys l2 h1 h2 hl => ?_⟩
  obtain ⟨s3, st3⟩ := s2.new hl (.lst (ys.map V.int))
  refine k _ _ M1 _ _ (q ys (fun k => by rw [h1 k]; simp) h2) ((st.trans st2).trans st3) s3 (.lst upd_same ?_)
  have := RpA.of_map (H := upd (upd F1 p (setGO (intKind X.prog X.w) p (fun k => decide (k ∈ ks)) ks.length)) l2 (.lst (ys.map V.int))) (ys.map V.int)
  rwa [List.map_map] at this
end
end Dl
end
section
set_option maxHeartbeats 4000000
/-! Dl10: dict(o), o an instance that is walked by its own __iter__ and has no 'keys'. -/
namespace Dl
open PySem PySem.Spec PyProof.Rows L2
/-- what of the class is asked: its name is short -/
def ShortName (K : PySem.W.Frag) (C : Addr) : Prop := ∃ cd, PySem.W.clsIn K C = some cd ∧ cd.hasDict = true ∧ cd.name.cps.foldl (fun k c => k + (Str.utf8Of c).length) 0 ≤ 100 ∧ cd.name.toString.length ≤ 60
section
variable {prog : Program} {w : World} {A : Around} {E : Value → Shared → Prop} {s : Shared} {K : PySem.W.Frag} {x dx C : Addr} {mA : Str → Option Value} {name : Str}
/-- getattr(x, name, absent) of an instance that has no such attribute -/
theorem getAttrOr_miss_ins {Q : Option Value → Shared → Prop} (X : K.In s.heap) (I : ObjM s.heap x dx C mA) (hg : PySem.W.plainGet K C name = true) (hn : ShortName K C) (ha : PySem.W.findIn K (.ref C) name = some none) (hv : mA name = none) (hc : PySem.W.copiedNames.contains name = false) (hA : A.handled = none) (hz : name.length ≤ 60)
    (h : ∀ h' tk, (∀ b o, s.heap.get? b = some o → h'.get? b = some o) → Q none { s with heap := h', toks := tk }) : wpAny (model prog w) A (getAttr? (.ref x) name) Q E s := by
  obtain ⟨od, J, hl⟩ := I.look
  obtain ⟨cd, hcd, hd, hf, hlen⟩ := hn
  have ff : PySem.W.findObj K C (some od) name = some .missing := by
    unfold PySem.W.findObj PySem.W.ownOf
    rw [hcd, Option.bind_some, ha, Option.bind_some, Option.bind_some, Option.bind_some]
    simp only [hd, if_true, hl, hv, Option.bind_some, hc, Bool.false_and, Bool.false_eq_true, if_false]
  have L0 := J.type (M := model prog w)
  have L1 := PySem.W.looks_findIn (M := model prog w) X (PySem.W.plainGet_of hg).1
  have L2 := PySem.W.looks_find (M := model prog w) X J ff
  have L3 := PySem.W.looks_findIn (M := model prog w) X (PySem.W.plainGet_of hg).2
  have L4 := PySem.W.looks_clsIn (M := model prog w) X hcd
  obtain ⟨hh, g, d, t, os⟩ := s
  unfold getAttr? getAttrBy? getAttrBy
  refine wpAny_bind (wpAny_mkText (wpAny_bind (wpAny_attempt (wpAny_holding (wpAny_bind (L0.at (wpAny_bind (L1.at ?_))))))))
  show wpAny _ _ (getAttrEveryday _ _ _) _ _ _
  refine wpAny_bind (wpAny_onRaise (wpAny_runValue (codeAny_builtin PySem.F.plainObj_entry_getattr_hooked ?_)))
  refine wpAny_bind (wpAny_pure (wpAny_bind (L0.at (wpAny_bind (L2.at (wpAny_bind (L3.at ?_)))))))
  show wpAny _ _ (Builtin.ObjectAttr.noSuchAttribute (.ref x) name) _ _ _
  unfold Builtin.ObjectAttr.noSuchAttribute typeNameOfCut shownTypeOf
  refine wpAny_bind (wpAny_bind (wpAny_bind (L0.at ?_)))
  have e1 : (Value.ref C == Value.type "builtin_function_or_method") = false := rfl
  simp only [e1, Bool.false_eq_true, if_false]
  refine wpAny_pure ?_
  show wpAny _ _ (typeNameCut 100 (.ref C)) _ _ _
  unfold typeNameCut
  refine wpAny_bind (L4.at ?_)
  dsimp only
  rw [if_pos hf]
  refine wpAny_pure ?_
  refine wpAny_raiseAttrError (show A.in1.handled = none by simpa using hA) (fun h' tk e hx => ?_) ?_
  · show wpAny _ _ (noteIf false _ _ _) _ _ _
    refine wpAny_pure ?_
    obtain ⟨t', u', he⟩ := hx.there
    refine wpAny_bind (wpAny_isInstance (T := "AttributeError") ⟨_, he, rfl⟩ sub_AttributeError ?_)
    simp only [if_true]
    exact wpAny_pure (h h' tk hx.keeps)
  · refine attrMsg_fits (name := name) ?_ (by rw [sizeLine_eq]; omega)
    show (toString "'" ++ toString cd.name.toString ++ toString "' object has no attribute '").length ≤ 90
    rw [String.length_append, String.length_append]
    have e1 : (toString "'").length = 1 := by decide
    have e2 : (toString "' object has no attribute '").length = 27 := by decide
    have e3 : (toString cd.name.toString) = cd.name.toString := rfl
    rw [e1, e2, e3]
    omega
end
/-- an iterator of the list at l, at the place i -/
def itL (l it : Addr) (i : Nat) : HO := .ext fun h => h.IsListIter it l i
theorem itL_ok {P : Program} {w : World} {H : Hp} {h : Heap} {l it : Addr} {i : Nat} (e : h.IsListIter it l i) : ObjOk P w H h it (itL l it i) :=
  ⟨e, let ⟨o, ho, _⟩ := e; ⟨o, ho⟩, fun h1 h2 x k => let ⟨o, ho, r⟩ := x; ⟨o, k o ho, r⟩⟩
section
variable {X : Cx} {pins : List (Addr × Obj)} {σ : L2.St} {Hb : Hp} {d it l : Addr} {A : Around} {R : Result → Shared → Prop} {all : List (Addr × Key × V)}
theorem upd_swap {H : Hp} {a b : Addr} {u v : HO} (h : a ≠ b) : upd (upd H a u) b v = upd (upd H b v) a u := by
  funext c
  by_cases h1 : c = a
  · subst h1; rw [upd_ne h, upd_same, upd_same]
  · by_cases h2 : c = b
    · subst h2; rw [upd_same, upd_ne h1, upd_same]
    · rw [upd_ne h2, upd_ne h1, upd_ne h1, upd_ne h2]
theorem upd_upd {H : Hp} {a : Addr} {u v : HO} : upd (upd H a u) a v = upd H a v := by
  funext c
  by_cases h1 : c = a
  · subst h1; rw [upd_same, upd_same]
  · rw [upd_ne h1, upd_ne h1, upd_ne h1]
theorem own_upd_loop (hh : A.handled = none) (hfp : FpOk X pins Hb it) (hid : it ≠ d) (hd : Hb d = none) (hi : Hb it = none) (hl : Hb l = some (.lst (all.map fun p => V.ref p.1))) (hp : ∀ p ∈ all, Hb p.1 = some (.tup [kV p.2.1, p.2.2])) :
    ∀ (rest : List (Addr × Key × V)) (i : Nat) (acc : List (Key × V)) (ix : Int) (t : Tok) (s : Shared), rest = all.drop i → i ≤ all.length → acc.length + rest.length ≤ sizeLine → Inv X pins σ (upd (upd Hb d (.dK acc)) it (itL l it i)) s →
      (∀ s', Inv X pins σ (upd Hb d (.dK (mergeK acc (rest.map fun p => p.2)))) s' → R (.ok (.ret .none)) s') → codeAny (model X.prog X.w) A (.builtin "dict.update.loop" ⟨[.ref d, .ref it, .int ix t, .none], []⟩) R s := by
  have hld : l ≠ d := fun z => by subst z; rw [hd] at hl; cases hl
  have hli : l ≠ it := fun z => by subst z; rw [hi] at hl; cases hl
  intro rest
  induction rest with
  | nil =>
    intro i acc ix t s hr hi' hz I hR
    have hin : i = all.length := by
      have := congrArg List.length hr
      rw [List.length_drop, List.length_nil] at this
      omega
    have st : s.heap.IsListIter it l i := (show ObjOk X.prog X.w _ s.heap it (itL l it i) from I.hok it _ upd_same).1
    obtain ⟨its, rv, pl, _⟩ := I.list (a := l) (xs := all.map fun p => V.ref p.1) (SqL.of (by rw [upd_ne hli, upd_ne hld]; exact hl))
    have hsz : its.length = all.length := by have := rv.length; rw [List.length_map] at this; exact this.symm
    refine codeAny_builtin ud_entry ?_
    rw [Around.under_plainId ud_plain _]
    show wpAny _ A.in1 (pyNext (.ref it) >>= _) _ _ s
    have I0 : Inv X pins σ (upd Hb d (.dK acc)) s := by
      have q := ItX.inv_drop I (φ := fun h => h.IsListIter it l i) upd_same
      rwa [ItX.dropH_upd (by rw [upd_ne hid]; exact hi)] at q
    refine wpAny_bind (wpAny_pyNext_list_end (by simpa using hh) st pl.isList (by rw [List.getElem?_toArray]; exact List.getElem?_eq_none (by omega)) fun h' he => ?_)
    show wpAny _ A.in1 (Builtin.Dict.addKeywords d [] >>= _) _ _ _
    refine wpAny_bind (wpAny_pure (wpAny_pure (hR _ ?_)))
    obtain ⟨f0, f1, f2, f3, f4, f5⟩ := hfp
    exact I0.turned (t' := s.toks) (fun b ob hb e => he b ob hb e) (by rw [upd_ne hid]; exact hi) f1 f3 f4 f5
  | cons p rest ih =>
    intro i acc ix t s hr hi' hz I hR
    have hilt : i < all.length := by
      have := congrArg List.length hr
      rw [List.length_drop, List.length_cons] at this
      omega
    have hpi : all[i]? = some p := by
      have := congrArg (·[0]?) hr
      simp only [List.getElem?_cons_zero, List.getElem?_drop, Nat.add_zero] at this
      exact this.symm
    have hrest : rest = all.drop (i + 1) := by
      rw [List.drop_eq_getElem_cons hilt] at hr
      exact (List.cons.inj hr).2
    have hpm : p ∈ all := List.mem_of_getElem? hpi
    have hpt := hp p hpm
    have hpd : p.1 ≠ d := fun z => by rw [z, hd] at hpt; cases hpt
    have hpit : p.1 ≠ it := fun z => by rw [z, hi] at hpt; cases hpt
    have st : s.heap.IsListIter it l i := (show ObjOk X.prog X.w _ s.heap it (itL l it i) from I.hok it _ upd_same).1
    obtain ⟨its, rv, pl, _⟩ := I.list (a := l) (xs := all.map fun p => V.ref p.1) (SqL.of (by rw [upd_ne hli, upd_ne hld]; exact hl))
    obtain ⟨u, hu, ru⟩ := rv.get (i := i) (x := .ref p.1) (by rw [List.getElem?_map, hpi]; rfl)
    cases ru
    refine codeAny_builtin ud_entry ?_
    rw [Around.under_plainId ud_plain _]
    show wpAny _ A.in1 (pyNext (.ref it) >>= _) _ _ s
    refine wpAny_bind (wpAny_pyNext_list_item st pl.isList (x := .ref p.1) (by rw [List.getElem?_toArray]; exact hu) fun h' st' sb => ?_)
    have I1 : Inv X pins σ (upd (upd Hb d (.dK acc)) it (itL l it (i + 1))) { s with heap := h' } := by
      have q := I.write (x := it) (e := it) (o := itL l it (i + 1)) (t' := s.toks) (h' := h') (by rw [upd_same]; exact True.intro) (.inl rfl) (fun b u hb e => (sb.2 b hb).trans e) (let ⟨o, ho, _⟩ := st'; ⟨o, ho⟩) (itL_ok st')
      rwa [upd_upd] at q
    obtain ⟨ts, rt, ht, _⟩ := I1.tuple (a := p.1) (xs := [kV p.2.1, p.2.2]) (SqT.of (by rw [upd_ne hpit, upd_ne hpd]; exact hpt))
    obtain ⟨ku, vu, rfl, r1, r2⟩ := rt.two
    refine wpAny_bind (wpAny_holding (wpAny_bind (wpAny_tryCatch ?_)))
    obtain ⟨o, ho, hc, n, hdd⟩ := ht
    refine wpAny_pairItems (k := ku) (v := vu) (.inl ⟨o, ho, hc, n, hdd⟩) ?_
    show wpAny _ A.in1 (holding [ku, vu] (dictSet d ku vu)) _ _ _
    refine wpAny_holding ?_
    obtain ⟨z, lo, vs, rel, dd⟩ := dk_of I1.hok (a := d) (kvs := acc) (by rw [upd_ne (Ne.symm hid), upd_same])
    rw [List.length_cons] at hz
    have hl2 := length_putK acc p.2.1 p.2.2
    refine wpAny_dictSet_pairs (knd := mixKind X.prog X.w) (k := p.2.1) (hsz := by rw [← rel.length]; exact z) (kV_is r1) dd fun h2 d2 hs2 => ?_
    have I2 : Inv X pins σ (upd (upd Hb d (.dK (putK acc p.2.1 p.2.2))) it (itL l it (i + 1))) { s with heap := h2, toks := s.toks + 1 } := by
      have q := d_write (t' := s.toks + 1) (ob := .dK (putK acc p.2.1 p.2.2)) I1 (a := d) (by rw [upd_ne (Ne.symm hid), upd_same]; exact True.intro) hs2 (let ⟨q, _, _, hq, _⟩ := d2; ⟨q, hq⟩) (dk_new (by omega) lo (rel.put p.2.1 r2) d2)
      rw [upd_swap hid, upd_upd] at q
      exact q
    refine wpAny_pure ⟨plainId_quiet ud_plain _, ?_⟩
    have I2' := I2.tok 0
    exact ih (i + 1) (putK acc p.2.1 p.2.2) (ix + 1) 0 _ hrest hilt (by omega) (by first | exact I2 | exact I2') fun s' I' => hR s' I'
end
theorem kpairs_get {F : Hp} : ∀ {rows : List (Key × D)} {xs : List V}, RpA F xs (rows.map fun kv => D.tup [.v (kV kv.1), kv.2]) → ∃ qs : List (Addr × Key × V), xs = qs.map (fun q => V.ref q.1) ∧ (∀ q ∈ qs, F q.1 = some (.tup [kV q.2.1, q.2.2])) ∧ RpK F (qs.map fun q => q.2) rows
  | [], _, r => by cases r; exact ⟨[], rfl, (fun _ h => by cases h), RpK.nil⟩
  | p :: ps, _, r => by
    rw [List.map_cons] at r
    cases r with
    | cons r1 r2 =>
      obtain ⟨qs, rfl, h, rk⟩ := kpairs_get r2
      cases r1 with
      | @tup a ys _ e ra =>
        cases ra with
        | cons a1 a2 =>
          cases a2 with
          | cons b1 b2 =>
            cases b2
            cases a1
            rename_i y
            refine ⟨(a, p.1, y) :: qs, rfl, fun q hq => ?_, ?_⟩
            · rcases List.mem_cons.mp hq with rfl | hq
              · exact e
              · exact h q hq
            · obtain ⟨k, d⟩ := p
              exact .cons b1 rk
section
variable {X : Cx} {M : Mem} {Q : KE} {k j : Nat} {C : Addr} {ns : List Str}
theorem cd_dictOwn (G : CalI X.prog X.w X.K X.mg X.base k C ns j) (hr : Room (k + 2) X.A) (hn : ShortName X.K C) (cl : Cls X.K C) (na : NoAttr X.K C "keys") (hk : ("keys" : Str) ∉ ns) {ds : List D} {rows : List (Key × D)} (hz0 : ns.length = ds.length) (hj : ds[j]? = some (.lst (rows.map fun kv => D.tup [.v (kV kv.1), kv.2]))) (hz : rows.length ≤ 100000)
    (q : ∀ l, Q (.v (.ref l)) ((l, .dct (mergeD [] rows)) :: M)) (hc : X.calm = true := by rfl) : CallD X (.type "dict") [.obj C ns ds] M Q := fun F H xs0 s r R kk => by
  cases r with
  | cons r1 r =>
    cases r
    cases r1 with
    | @obj a _ dx _ xs _ e ra =>
      obtain ⟨y, hy, ry⟩ := ra.get hj
      cases ry with
      | @lst l zs _ el rl =>
        obtain ⟨all, rfl, hall, rk⟩ := kpairs_get rl
        have hlen : all.length = rows.length := by have := rk.length; rwa [List.length_map] at this
        intro pins s1 σ us I rv
        obtain rfl : us = [Value.ref a] := by
          obtain ⟨u, rfl, ru⟩ := vals1 rv
          cases ru; rfl
        have hh : X.A.handled = none := I.ok.hd hc
        have eH := s.le _ _ e
        have elH := s.le _ _ el
        have hd0 : H s1.heap.objs.size = none := I.hok.fresh (Nat.le_refl _)
        refine callType_codes (Q₁ := fun obj s₁ => obj = .ref s1.heap.objs.size ∧ s₁ = { s1 with heap := s1.heap.push { cls := .type "dict", data := .dict #[] } }) PySem.F.kt_called_dict (PySem.F.kt_typeCall_dict_1 _) PySem.F.entry_dict_init (kt_code_dict_new _ ⟨rfl, rfl⟩) ?_
        rintro obj s₂ ⟨rfl, rfl⟩
        have hnew : (s1.heap.push { cls := .type "dict", data := .dict #[] }).DictOf (mixKind X.prog X.w) s1.heap.objs.size [] := Heap.DictOf.new s1.heap
        have I0 : Inv X pins σ (upd H s1.heap.objs.size (.dK [])) { s1 with heap := s1.heap.push { cls := .type "dict", data := .dict #[] } } := I.laid (t' := s1.toks) (fun b u e => Heap.get?_push_of_some _ e) (Nat.le_refl _) (dk_empty s1.heap I.big)
        generalize hdS : s1.heap.objs.size = d at *
        have hda : a ≠ d := fun z => by subst z; rw [hd0] at eH; cases eH
        have hdl : l ≠ d := fun z => by subst z; rw [hd0] at elH; cases elH
        refine ⟨hnew.typeIs, PySem.F.args_dict_init_2 _ _, ?_⟩
        unfold Builtin.«dict.__init__»
        refine wpAny_bind ?_
        unfold Builtin.Dict.selfAndRest
        refine wpAny_bind (wpAny_notOrdered_dict hnew.typeIs ?_)
        show wpAny _ _ (pure (d, [Value.ref a])) _ _ _
        refine wpAny_pure ?_
        show wpAny _ _ (Builtin.Dict.updateFrom "dict.__init__" d (.ref a) [] .none) _ _ _
        unfold Builtin.Dict.updateFrom
        obtain ⟨mA, J, rM, _⟩ := ins_get I0.hok (show upd H d (.dK []) a = _ by rw [upd_ne hda]; exact eH)
        have hmiss : mA "keys" = none := RelO.none_of (by rw [← lookup_zip_none (xs := xs) hk]; exact rM _)
        obtain ⟨od, J2, _⟩ := J.look
        refine wpAny_bind ((J2.type (M := model X.prog X.w)).here ?_)
        rw [if_pos (by first | rfl | decide)]
        refine wpAny_bind (getAttrOr_miss_ins I0.kIn J (cl.get _) hn na hmiss (by decide) (by simpa using hh) (by decide) fun h1 tk1 hk1 => ?_)
        rw [if_pos (show (none : Option Value).isNone = true from rfl)]
        refine wpAny_bind (wpAny_rule ?_)
        have I1 : Inv X pins σ (upd H d (.dK [])) { s1 with heap := h1, toks := tk1 } := I0.kept (t' := tk1) hk1
        refine wpAny_bind (own_iter_at (X := X) (A := X.A.in1.in1) (H := upd H d (.dK [])) (o := a) (dx := dx) (xs := xs) (l := l) (rows := all.map fun q => V.ref q.1) G ⟨hr.in1.in1, rfl⟩ I1 (by rw [upd_ne hda]; exact eH) (hz0.trans ra.length.symm) hy (by rw [upd_ne hdl]; exact elH) (fun e s' c => c.elim) fun it s' I' eo fp => ?_)
        have hitd : it ≠ d := fun z => by have := fp.1; rw [z, upd_same] at this; cases this
        have hit0 : H it = none := by have := fp.1; rwa [upd_ne hitd] at this
        have hstI : s'.heap.IsListIter it l 0 := ⟨_, eo, rfl, rfl⟩
        have I2 : Inv X pins σ (upd (upd H d (.dK [])) it (itL l it 0)) s' := I'.take (h' := s'.heap) (t' := s'.toks) (fun b ob _ e => e) fp (itL_ok hstI)
        have key := own_upd_loop (X := X) (pins := pins) (σ := σ) (Hb := H) (d := d) (it := it) (l := l) (A := X.A.in1) (all := all) (R := wants (fun r s₂ => r = .none ∧ EP X pins σ R (.ref d) s₂) X.xe) (by simpa using hh) ⟨hit0, fp.2⟩ hitd hd0 hit0 elH (fun p hp => s.le _ _ (hall p hp)) all 0 [] 0 0 s' rfl (Nat.zero_le _) (by rw [List.length_nil, Nat.zero_add, hlen]; exact sz_ok hz) I2 fun s3 I3 => ?_
        · exact wpAny_pure ⟨plainId_quiet ud_plain _, key⟩
        · obtain ⟨s4, st4⟩ := s.newM (m := .dct (mergeD [] rows)) hd0 (o := .dK (mergeK [] (all.map fun p => p.2))) ⟨_, upd_same, rk.merge .nil⟩
          exact ⟨rfl, .ref d, _, I3, rfl, kk _ _ _ _ _ (q d) st4 s4 (.v _)⟩
end
end Dl
end
section
set_option maxHeartbeats 2000000
/-! Dl11: y = [.. for .. in d], d a dict that may be changed; the objects in another order. -/
namespace Dl
open PySem PySem.Spec PyProof.Rows L2
/-- behind the lock -/
theorem lock_back {F H F2 H2 : Hp} {M : Mem} {a : Addr} {kds : List (Key × D)} {od : Obj} {kvs : List (Key × V)} {i : Nat} (s : S0 F H M) (hm : M[i]? = some (a, .dct kds)) (eH : H a = some (.dK kvs))
    (st : Step (upd F a (.frz od (.dK kvs))) (upd H a (.frz od (.dK kvs))) [] F2 H2 []) (s2 : S0 F2 H2 []) :
    F2 a = some (.frz od (.dK kvs)) ∧ ∃ F3, Step F H M F3 (upd H2 a (.dK kvs)) M ∧ S0 F3 (upd H2 a (.dK kvs)) M ∧ ∀ b, b ≠ a → F3 b = F2 b := by
  obtain ⟨hF, _⟩ := s.at hm
  have ex1 : Ex F (upd F a (.frz od (.dK kvs))) := Ex.new hF
  have e2 : F2 a = some (.frz od (.dK kvs)) := st.ex _ _ upd_same
  have hnew : ∀ b, b ≠ a → (fun b => if b = a then Option.none else F2 b) b = F2 b := fun b hb => if_neg hb
  have ex3 : Ex F (fun b => if b = a then Option.none else F2 b) := fun b u eb => by
    have hb : b ≠ a := fun z => by subst z; rw [hF] at eb; cases eb
    show (if b = a then Option.none else F2 b) = _
    rw [if_neg hb]
    exact st.ex b u (ex1 b u eb)
  have hmem : ∀ q ∈ M, (upd H2 a (.dK kvs)) q.1 = H q.1 := fun q hq => by
    by_cases hb : q.1 = a
    · rw [hb, upd_same, eH]
    · rw [upd_ne hb]
      cases eq : H q.1 with
      | none => exact absurd eq (s.mem q hq).2.ne
      | some o => exact st.fr _ _ (by rw [upd_ne hb]; exact eq) (by simp)
  refine ⟨e2, _, ⟨ex3, fun b u eb => ?_, fun b u eb nb => ?_, fun b eb => ?_, fun b hb => .inl hb⟩, ⟨fun b u eb => ?_, fun q hq => ⟨?_, (s.mem q hq).2.keep ex3 (hmem q hq)⟩, s.nd⟩, hnew⟩
  · have hb : b ≠ a := fun z => by subst z; simp at eb
    have eb : F2 b = some u := by rw [← hnew b hb]; exact eb
    rcases st.kn b u eb with h | h | h
    · rw [upd_ne hb] at h; exact .inl h
    · rw [upd_ne hb] at h; exact .inr (.inl h)
    · cases h
  · have hb : b ≠ a := fun z => nb (by subst z; exact List.mem_map.mpr ⟨(b, .dct kds), List.mem_of_getElem? hm, rfl⟩)
    rw [upd_ne hb]
    exact st.fr b u (by rw [upd_ne hb]; exact eb) (by simp)
  · by_cases hb : b = a
    · subst hb; rw [upd_same]; intro z; cases z
    · rw [upd_ne hb]; exact st.st b (by rw [upd_ne hb]; exact eb)
  · have hb : b ≠ a := fun z => by subst z; simp at eb
    have eb : F2 b = some u := by rw [← hnew b hb]; exact eb
    rw [upd_ne hb]; exact s2.le b u eb
  · by_cases hb : q.1 = a
    · show (if q.1 = a then Option.none else F2 q.1) = Option.none
      rw [if_pos hb]
    · show (if q.1 = a then Option.none else F2 q.1) = Option.none
      rw [if_neg hb]
      cases e3 : F2 q.1 with
      | none => rfl
      | some u =>
        exfalso
        rcases st.kn q.1 u e3 with h | h | h
        · rw [upd_ne hb, (s.mem q hq).1] at h; cases h
        · rw [upd_ne hb] at h; exact (s.mem q hq).2.ne h
        · cases h
section
variable {X : Cx} {e a b c : Expr} {st : Stmt} {sts : List Stmt} {ρ : Env} {M : Mem} {Q : KE} {E : EndsD} {pos : Pos} {tg : Expr}
/-- y = [elt for tg in iter if ..] while a dict that may be changed is locked; it stands at the place p of the object at the slot j -/
theorem xs_setLcM (i : Nat) (own : List (Str × Nat)) (m j p : Nat) {y : Str} {py : Pos} {a C : Addr} {kds : List (Key × D)} {ns : List Str} {ds0 : List D} {elt iter : Expr} {ifs : List Expr} {scope : Scope} {spos : Pos}
    (hm : M[m]? = some (a, .dct kds)) (he : ρ[j]? = some (some (.obj C ns ds0))) (hp : ds0[p]? = some (.v (.ref a)))
    (h : XI X tg iter (ρ.set j (some (.obj C ns (ds0.set p (.dct kds))))) [] fun ds ok M1 => ∃ P : Nat → List D → Mem → Prop, P 0 [] M1 ∧ LcOk X scope tg ifs (own.map (·.2)) (ρ.set j (some (.obj C ns (ds0.set p (.dct kds))))) ds ok (fun ρ2 M3 Q => XEb X scope elt ρ2 M3 Q) P ∧ ∀ acc M', P ds.length acc M' → M' = [] ∧ NoK (.lst acc) ∧ E.nx (ρ.set i (some (.lst acc))) M)
    (bk : BlkOk X.N X.env.scope scope own) (hsw : swapsWith (.ListComp elt [⟨tg, iter, ifs, 0⟩] scope pos) (some (.Name y py)) spos.line X.env = pure true) (hN : X.N.Nodup := by assumption) (hy : X.N[i]? = some y := by rfl) (hyl : X.env.scope.names.lookup y = some .local := by rfl) (hc : X.calm = true := by rfl) (hs : ∀ x, foldedSetIterable iter X.env x = pure x := by intro _; rfl) :
    XS X (.Assign [.Name y py] (.ListComp elt [⟨tg, iter, ifs, 0⟩] scope pos) spos) ρ M E := fun F σ H s ev hl Dd k => by
  have hi' : i < σ.length := by rw [hl]; exact (List.getElem?_eq_some_iff.mp hy).1
  obtain ⟨hF, kvs, eH, rk⟩ := s.at hm
  refine PS.w (ps_lock (ps_setLc (te := wEb X scope elt) (g := wGb X scope tg) (tt := wTb X scope ifs) hc hN hy hyl hsw pi_w bk (fun s H C cl fp => ⟨fun pins s1 σ H v u Q I r hh => hh s _ C cl fp pins s1 u I r⟩) (fun s H C cl fp => ⟨fun pins s1 σ H Q I hh => hh s _ C cl fp pins s1 I⟩) (fun s H C cl fp => ⟨fun pins s1 σ H Q I hh => hh s _ C cl fp pins s1 I⟩) hs)) ⟨a, .dK kvs, eH, True.intro, fun od => ?_⟩
  have ex1 : Ex F (upd F a (.frz od (.dK kvs))) := Ex.new hF
  have le1 : Ex (upd F a (.frz od (.dK kvs))) (upd H a (.frz od (.dK kvs))) := fun b u eb => by
    by_cases hb : b = a
    · subst hb; rw [upd_same] at eb; rw [upd_same]; exact eb
    · rw [upd_ne hb] at eb; rw [upd_ne hb]; exact s.le b u eb
  have s1 : S0 (upd F a (.frz od (.dK kvs))) (upd H a (.frz od (.dK kvs))) [] := ⟨le1, fun q hq => (by cases hq), List.nodup_nil⟩
  have rD : Rp (upd F a (.frz od (.dK kvs))) (.ref a) (.dct kds) := .dct upd_same (rk.mono ex1)
  have ev1 : EnvOk (upd F a (.frz od (.dK kvs))) σ (ρ.set j (some (.obj C ns (ds0.set p (.dct kds))))) := fun t d q => by
    by_cases ht : j = t
    · subst ht
      have hl : j < ρ.length := by
        have := (List.getElem?_eq_some_iff.mp q).1
        simpa using this
      rw [List.getElem?_set_self hl] at q
      cases q
      obtain ⟨v, h1, r⟩ := ev j _ he
      refine ⟨v, h1, ?_⟩
      cases r with
      | @obj o _ dx _ xs _ eo ra =>
        obtain ⟨y, hy, ry⟩ := ra.get hp
        cases ry
        have : xs.set p (.ref a) = xs := by
          apply List.ext_getElem?
          intro t
          by_cases h : p = t
          · subst h; rw [List.getElem?_set_self (List.getElem?_eq_some_iff.mp hy).1, hy]
          · rw [List.getElem?_set_ne h]
        refine .obj (ex1 _ _ eo) ?_
        have q := (ra.mono ex1).set rD p
        rwa [this] at q
    · rw [List.getElem?_set_ne ht] at q
      obtain ⟨v, h1, r⟩ := ev t d q
      exact ⟨v, h1, r.mono ex1⟩
  refine h _ σ _ s1 ev1 _ fun J ds ok M1 F1 H1 q st s1 src => ?_
  obtain ⟨P, p0, L, done⟩ := q
  refine lc_road (Qd := fun v H' => H' a = some (.frz od (.dK kvs)) ∧ Dd.nx (σ.set i (some v)) (upd H' a (.dK kvs))) s1 (ev1.mono st.ex) hl src L p0 fun acc M' F' H' D xs pp hD st' s' eD ra nD fD => ?_
  obtain ⟨rfl, nk, q⟩ := done acc M' pp
  have sA := st.trans st'
  have s4 : S0 (upd F' D (.lst xs)) H' [] := ⟨fun b u e => by
    by_cases hb : b = D
    · subst hb; rw [upd_same] at e; cases e; exact eD
    · rw [upd_ne hb] at e; exact s'.le b u e, fun q hq => (by cases hq), List.nodup_nil⟩
  have st4 : Step (upd F a (.frz od (.dK kvs))) (upd H a (.frz od (.dK kvs))) [] (upd F' D (.lst xs)) H' [] := ⟨sA.ex.trans (Ex.new fD), fun b u e => by
    by_cases hb : b = D
    · subst hb
      refine .inr (.inl ?_)
      cases q : (upd H a (.frz od (.dK kvs))) b with
      | none => rfl
      | some v => exact absurd hD (st.st b (by rw [q]; intro z; cases z))
    · rw [upd_ne hb] at e; exact sA.kn b u e, sA.fr, sA.st, sA.mo⟩
  obtain ⟨e2, F3, st5, s5, hnew⟩ := lock_back s hm eH st4 s4
  refine ⟨s4.le _ _ e2, ?_⟩
  have rL : Rp (upd F' D (.lst xs)) (.ref D) (.lst acc) := .lst upd_same (ra.mono (Ex.new fD))
  exact k.nx _ M _ _ _ q st5 s5 ((ev.mono st5.ex).set hi' (nk _ _ a od (.dK kvs) e2 hnew _ rL)) (by simpa using hl)
/-- the objects in another order -/
theorem Adj.perm {M M' : Mem} (h : M.Perm M') : Adj M M' := fun F H s =>
  ⟨F, ⟨s.le, fun p hp => s.mem p (h.mem_iff.mpr hp), (h.map _).nodup_iff.mp s.nd⟩, ⟨Ex.refl F, fun _ _ e => .inl e, fun _ _ e _ => e, fun _ e => e, fun _ q => .inl ((h.map _).mem_iff.mpr q)⟩⟩
theorem xe_perm (h : XE X e ρ M fun d M1 => ∃ M2, M1.Perm M2 ∧ Q d M2) : XE X e ρ M Q := fun F σ H s ev R k =>
  h F σ H s ev _ fun v d M1 F1 H1 q st s1 r => by
    obtain ⟨M2, hp, q⟩ := q
    refine k v d M2 F1 H1 q ⟨st.ex, st.kn, st.fr, st.st, fun b hb => st.mo b ((hp.map _).mem_iff.mpr hb)⟩ ⟨s1.le, fun p hp' => s1.mem p (hp.mem_iff.mpr hp'), (hp.map _).nodup_iff.mp s1.nd⟩ r
/-- objects forgotten behind an expression -/
theorem xe_lessE (h : XE X e ρ M fun d M1 => ∃ M2, M2.Sublist M1 ∧ Q d M2) : XE X e ρ M Q := fun F σ H s ev R k =>
  h F σ H s ev _ fun v d M1 F1 H1 q st s1 r => by
    obtain ⟨M2, hp, q⟩ := q
    obtain ⟨s2, st2⟩ := s1.less hp
    exact k v d M2 F1 H1 q (st.trans st2) s2 r
end
end Dl
end
section
set_option maxHeartbeats 2000000
/-! Dl12: dict displays. -/
namespace Dl
open PySem PySem.Spec PyProof.Rows L2
section
variable {X : Cx} {e a b c : Expr} {ρ : Env} {M : Mem} {Q : KE} {pos : Pos}
/-- the pairs of a display, from the left -/
def XPs (X : Cx) : List (Expr × Expr) → Env → Mem → (List (Key × D) → Mem → Prop) → Prop
  | [], _, M, Q => Q [] M
  | (k, v) :: r, ρ, M, Q => XE X k ρ M fun d1 M1 => ∃ key, d1 = .v (kV key) ∧ XE X v ρ M1 fun d2 M2 => XPs X r ρ M2 fun ps M3 => Q ((key, d2) :: ps) M3
theorem xps_run : ∀ (l : List (Expr × Expr)) {ρ : Env} {M : Mem} {Q : List (Key × D) → Mem → Prop}, XPs X l ρ M Q → ∀ F σ H, S0 F H M → EnvOk F σ ρ → ∀ R : List (V × V) → Hp → Prop,
    (∀ (kvs : List (Key × V)) ds M' F' H', Q ds M' → Step F H M F' H' M' → S0 F' H' M' → RpK F' kvs ds → R (kvs.map fun kv => (kV kv.1, kv.2)) H') → tPairs (l.map fun p => (wE X p.1, wE X p.2)) σ H R
  | [], ρ, M, Q, h, F, σ, H, s, ev, R, k => k [] [] M F H h (Step.refl _ _ _) s .nil
  | (kx, vx) :: l, ρ, M, Q, h, F, σ, H, s, ev, R, k => by
    refine h F σ H s ev _ fun x d1 M1 F1 H1 q st s1 r => ?_
    obtain ⟨key, rfl, q⟩ := q
    cases r
    refine q F1 σ H1 s1 (ev.mono st.ex) _ fun y d2 M2 F2 H2 q2 st2 s2 r2 => ?_
    exact xps_run l q2 F2 σ H2 s2 ((ev.mono st.ex).mono st2.ex) _ fun kvs ds M3 F3 H3 q3 st3 s3 rk => k ((key, y) :: kvs) ((key, d2) :: ds) M3 F3 H3 q3 ((st.trans st2).trans st3) s3 (.cons (r2.mono st3.ex) rk)
theorem pps_all {pos : Pos} : ∀ l : List (Expr × Expr), PPs X pos (l.map fun p => some p.1) (l.map fun p => p.2) (l.map fun p => (wE X p.1, wE X p.2))
  | [] => pps_nil
  | _ :: l => pps_cons pe_w pe_w (pps_all l)
/-- {k: v, ..}: a dict that may be changed; it stands at the place i -/
theorem xe_disp (l : List (Expr × Expr)) (i : Nat) {keys : List (Option Expr)} {values : List Expr} (h : ∀ p, XPs X l ρ ((p, .dct []) :: M) fun ps M2 => M2[i]? = some (p, .dct []) ∧ ps.length ≤ 15 ∧ Q (.v (.ref p)) (M2.set i (p, .dct (mergeD [] ps))))
    (hk : keys = l.map (fun p => some p.1) := by rfl) (hv : values = l.map (fun p => p.2) := by rfl) (h0 : l ≠ [] := by exact List.cons_ne_nil _ _) (h15 : l.length ≤ 15 := by exact Nat.le_of_ble_eq_true rfl) : XE X (.Dict keys values pos) ρ M Q := fun F σ H s ev R k => by
  subst hk hv
  refine PE.w (pe_disp (pps_all l) (by simp) (by simp) (by simpa using h0) (by simpa using h15)) fun p hp => ?_
  obtain ⟨s1, st1⟩ := s.newM (m := .dct []) hp (o := .dK []) ⟨[], upd_same, .nil⟩
  refine xps_run l (h p) F σ _ s1 ev _ fun kvs ds M2 F2 H2 q st2 s2 rk => ?_
  obtain ⟨hm, hl, q⟩ := q
  obtain ⟨hF, kvs0, e, r0⟩ := s2.at hm
  cases r0
  refine ⟨e, kvs, rfl, by rw [rk.length]; exact hl, ?_⟩
  obtain ⟨s3, st3⟩ := s2.write (m := .dct (mergeD [] ds)) (u := .dK (mergeK [] kvs)) hm ⟨_, upd_same, rk.merge .nil⟩
  exact k _ _ _ _ _ q ((st1.trans st2).trans st3) s3 (.v _)
end
end Dl
end
section
set_option maxHeartbeats 2000000
/-! Dl13: enumerate(tuple). -/
namespace Dl
open PySem PySem.Spec PyProof.Rows L2
theorem meets_enum_new1 {t : Addr} {o : Obj} {H : Heap → Prop} (B : Begins (.ref t) o H) :
    Meets (Builtin.«enumerate.__new__» ⟨[.type "enumerate", .ref t], []⟩) (fun _ R s => H s.heap ∧
      R (.ok (.ret (.ref (s.heap.push o).objs.size))) { s with heap := (s.heap.push o).push { cls := .type "enumerate", data := .fields #[.none, .bool false, .ref s.heap.objs.size, rawInt 0, .none, .none] } }) :=
  .of_wp fun prog w A R s h => by
    obtain ⟨hp, g, d, tk, os⟩ := s; obtain ⟨h1, h⟩ := h
    have hsub := sub_enumerate
    have q1 : ∀ {A' : Around} {E : Value → Shared → Prop} {Q : Value → Shared → Prop}, Q (.ref hp.objs.size) ⟨hp.push o, g, d, tk, os⟩ → wpAny (model prog w) A' (pyIter (.ref t)) Q E ⟨hp, g, d, tk, os⟩ :=
      fun q => B.iter prog w _ _ ⟨hp, g, d, tk, os⟩ _ h1 q
    wp_walk using q1
    refine wpAny_stack_any fun st => wpAny_pure ?_
    split
    · rename_i c _ _ _ _ _
      cases (c == Value.type "enumerate")
      · wp_walk using q1
        exact ⟨_, rfl, h⟩
      · wp_walk using q1
        exact ⟨_, rfl, h⟩
    · wp_walk using q1
      exact ⟨_, rfl, h⟩
theorem call_enum_tuple {prog : Program} {w : World} {A : Around} {E : Value → Shared → Prop} {s : Shared} {t : Addr} {items : Array Value} {Q : Value → Shared → Prop} (hT : s.heap.IsTuple t items)
    (h : ∀ h', IsEnum h' (s.heap.objs.size + 1) s.heap.objs.size 0 .none → h'.IsTupleIter s.heap.objs.size t 0 → h'.objs.size = s.heap.objs.size + 2 →
      (∀ b o, s.heap.get? b = some o → h'.get? b = some o) → Q (.ref (s.heap.objs.size + 1)) { s with heap := h' }) :
    wpAny (model prog w) A (call (.type "enumerate") [.ref t]) Q E s := by
  refine callType_new F.called_enumerate (by decide) (F.typeCall_enumerate_1 _) (F.newCall_enumerate_1 _) (fun obj => F.args_object_init_2 obj _) F.entry_enumerate_new
    (meets_enum_new1 (begins_tuple t items)) ⟨hT, ?_⟩
  have hz : (s.heap.push { cls := .type "tuple_iterator", data := .fields #[.ref t, .int 0 0] }).objs.size = s.heap.objs.size + 1 := Heap.size_push ..
  show _ ∧ _
  rw [hz]
  have he : IsEnum ((s.heap.push { cls := .type "tuple_iterator", data := .fields #[.ref t, .int 0 0] }).push
      { cls := .type "enumerate", data := .fields #[.none, .bool false, .ref s.heap.objs.size, rawInt 0, .none, .none] }) (s.heap.objs.size + 1) s.heap.objs.size 0 .none := by
    have := Heap.get?_push_size (s.heap.push { cls := .type "tuple_iterator", data := .fields #[.ref t, .int 0 0] })
      (o := { cls := .type "enumerate", data := .fields #[.none, .bool false, .ref s.heap.objs.size, rawInt 0, .none, .none] }) rfl
    rw [hz] at this; exact this
  refine ⟨⟨_, he, rfl⟩, h _ he ⟨_, Heap.get?_push_of_some _ (Heap.get?_push_size _ rfl), rfl, rfl⟩ (by rw [Heap.size_push, hz]) fun b o x => Heap.get?_push_of_some _ (Heap.get?_push_of_some _ x)⟩
theorem pyNext_enumT_end {prog : Program} {w : World} {A : Around} {E : Value → Shared → Prop} {s : Shared} {e it t : Addr} {i : Int} {k : Nat} {items : Array Value} {old : Value} {Q : Option Value → Shared → Prop}
    (hh : A.handled = none) (he : IsEnum s.heap e it i old) (hit : s.heap.IsTupleIter it t k) (ht : s.heap.IsTuple t items) (hx : items[k]? = none)
    (hQ : ∀ h', Heap.ExtBut it s.heap h' → Q none { s with heap := h' }) : wpAny (model prog w) A (pyNext (.ref e)) Q E s := by
  have hT : s.TypeIs (.ref e) "enumerate" := ⟨_, he, rfl⟩
  unfold pyNext
  refine wpAny_bind (wpAny_attempt (wpAny_callSpecial?_slot (name := Str.ofString "__next__") hT F.slot_enumerate_next
    (wpAny_call_entry F.slot_enumerate_next hT F.entry_enumerate_next ?_ (F.args_enumerate_next_1 _))))
  show wpAny _ _ (field (.ref e) 2 >>= _) _ _ _
  refine wpAny_bind (wpAny_field he rfl (x := .ref it) rfl ?_)
  refine wpAny_bind (wpAny_nextOf_tuple_end (by first | exact hh | (show A.in1.handled = none; exact hh)) hit ht hx fun h' x he' hx' => ?_)
  obtain ⟨o, ho, hc⟩ := hx'
  refine wpAny_bind (wpAny_isInstance (T := "StopIteration") (b := true) ⟨o, ho, hc⟩ isSubtype_stop ?_)
  exact wpAny_pure (hQ _ he')
/-- the tuple at a, each item in a new pair -/
def Itet (K : PySem.W.Frag) (a : Addr) : It :=
  ⟨fun i H => ∃ (xs : List V) (x : V), SqT K H a xs ∧ xs[i]? = some x, fun i H v H' => ∃ T x, v = .ref T ∧ H T = none ∧ H' = upd H T (.tup [.int (i : Nat), x]) ∧ ∀ xs, SqT K H a xs → xs[i]? = some x, fun i H => ∃ xs : List V, SqT K H a xs ∧ xs.length ≤ i⟩
theorem turn_enumT {P : Program} {w : World} {K : PySem.W.Frag} {elts : List Expr} {kk : Nat} {tpos : Pos} (a e it : Addr) (hai : a ≠ it) (hae : a ≠ e) :
    Turn P w K (.Tuple elts kk tpos) (Itet K a) [e, it] e (fun i h => (∃ old, IsEnum h e it ((i : Nat) : Int) old) ∧ h.IsTupleIter it a i ∧ e ≠ it) where
  mem := by simp
  obj := fun i h st b hb => by
    obtain ⟨⟨old, he⟩, ⟨o, ho, hc, hd⟩, _⟩ := st
    have e' : b = e ∨ b = it := by simpa using hb
    rcases e' with z | z
    · rw [z]; exact ⟨_, he, fun v q => nomatch q⟩
    · rw [z]; exact ⟨o, ho, fun v q => by rw [hd] at q; cases q⟩
  keep := fun i h h' st k => let ⟨⟨old, he⟩, hi, hne⟩ := st; ⟨⟨old, k e (by simp) _ he⟩, hi.at fun o q => k it (by simp) o q, hne⟩
  item := by
    intro X hP hw hK hc i pins s σ H E I hf st hg
    subst hP hw hK
    obtain ⟨⟨old, he⟩, hit, hne⟩ := st
    obtain ⟨xs, x, hq, hx⟩ := hg
    obtain ⟨its, rv, p, hz⟩ := I.tuple hq
    obtain ⟨u, hu, ru⟩ := rv.get hx
    have hel : e < s.heap.objs.size := Heap.lt_size he
    have hil : it < s.heap.objs.size := by obtain ⟨_, q, _⟩ := hit; exact Heap.lt_size q
    have hh : X.A.in1.handled = none := I.ok.hd hc
    refine wpAny_pyNext_enum_itemD (Draws.tuple hh it a hai its.toArray) he ⟨hit, p⟩ (by have := (List.getElem?_eq_some_iff.mp hu).1; simpa using this) hne (by simp [hne, Ne.symm hae]) fun y h' tk hy ho hs' hT hsz hk => ?_
    obtain ⟨hit', _⟩ := hs'
    have hyu : y = u := by
      have : its.toArray[i]? = some u := by simpa using hu
      rw [this] at hy
      exact (Option.some.inj hy).symm
    subst hyu
    refine ⟨_, rfl, wpAny_letOwnedTupleGo_enum (s := { s with heap := h', toks := tk + 1 }) ho fun h'' he' sb => ?_⟩
    have hT2 : h''.get? s.heap.objs.size = some { cls := .type "tuple", data := .seq #[.int i tk, y] } := (sb.2 _ (Nat.ne_of_gt hel)).trans hT
    have new : ObjOk X.prog X.w (upd H s.heap.objs.size (.tup [.int (i : Nat), x])) h'' s.heap.objs.size (.tup [.int (i : Nat), x]) :=
      ⟨by show 2 ≤ sizeLine; decide, [.int i tk, y], .cons ⟨_, rfl⟩ (.cons ru .nil), ⟨_, hT2, rfl, _, rfl⟩⟩
    have I1 : Inv X pins σ (upd H s.heap.objs.size (.tup [.int (i : Nat), x])) { s with heap := h'', toks := tk + 1 } :=
      I.turnedNew (ch := [e, it]) (fun b ob hb q => (sb.2 b (fun z => hb (by simp [z]))).trans (hk b ob (fun z => hb (by simp [z])) (fun z => hb (by simp [z])) q)) hf (Nat.le_refl _) new
    refine ⟨.ref s.heap.objs.size, _, I1, rfl, ⟨_, x, rfl, I.hok.fresh (Nat.le_refl _), rfl, fun ys hy => by rw [I.tuple_inj hy hq]; exact hx⟩, ⟨⟨y, ?_⟩, hit'.at fun o q => (sb.2 it (Ne.symm hne)).trans q, hne⟩, fun b hb => ?_⟩
    · have e1 : ((i + 1 : Nat) : Int) = (i : Int) + 1 := by omega
      rw [e1]; exact he'
    · have hb' : b < s.heap.objs.size := by
        have e' : b = e ∨ b = it := by simpa using hb
        rcases e' with z | z
        · rw [z]; exact hel
        · rw [z]; exact hil
      rw [upd_ne (Nat.ne_of_lt hb')]
      exact (hf b hb).1
  done := by
    intro X hP hw hK hc i pins s σ H E I hf st hg
    subst hP hw hK
    obtain ⟨⟨old, he⟩, hit, hne⟩ := st
    obtain ⟨xs, hq, hx⟩ := hg
    obtain ⟨its, rv, p, hz⟩ := I.tuple hq
    obtain ⟨f0, f1, f2, f3, f4, f5⟩ := hf it (by simp)
    have hl := rv.length
    exact pyNext_enumT_end (I.ok.hd hc) he hit p (by simp; omega) fun h' eb => ⟨rfl, I.turned (t' := s.toks) (fun b o hb q => eb b o hb q) f0 f1 f3 f4 f5⟩
  self := fun A i s Q E st h => let ⟨⟨_, he⟩, _⟩ := st; wpAny_pyIter_enum he h
def iEnumT (K : PySem.W.Frag) (ta : TA) : TI := fun σ H R => ta σ H fun vs H1 => ∃ a xs, vs = [.ref a] ∧ SqT K H1 a xs ∧ R (Itet K a) H1
theorem pi_enumT {X : Cx} {e : Expr} {ta : TA} {p pos tpos : Pos} {elts : List Expr} {kk : Nat} (hg : Gl X "enumerate") (hm : X.mg "enumerate" = none) (ha : PA X [e] ta) (hs : starEach [e] X.env = [(false, eval e X.env)] := by rfl) :
    PI X (.Tuple elts kk tpos) (.Call (.Name "enumerate" p) [e] [] pos) (iEnumT X.K ta) := by
  refine ⟨fun pins s σ H R I h => ?_⟩
  refine Call_ (ld_blt I hg hm boot_enumerate (PyProof.Rows.callWith_type1 (thn (ha.run pos pins s σ H _ I h) fun us s1 ⟨vs, H1, I1, r1, q1⟩ => ?_) hs rfl))
  obtain ⟨a, xs, ex, hq, q⟩ := q1
  subst ex
  cases r1 with
  | cons r rr =>
    cases rr
    cases r
    obtain ⟨its, rv, p', hz⟩ := I1.tuple hq
    have hal : a < s1.heap.objs.size := by obtain ⟨_, z, _⟩ := id p'; exact Heap.lt_size z
    refine call_enum_tuple p' fun h' he hit hsz hk => wpAny_pyIter_enum he ?_
    have I2 : Inv X pins σ H1 { s1 with heap := h' } := I1.kept (t' := s1.toks) hk
    refine ⟨s1.heap.objs.size + 1, [s1.heap.objs.size + 1, s1.heap.objs.size], _, _, H1, rfl, I2, turn_enumT a (s1.heap.objs.size + 1) s1.heap.objs.size (Nat.ne_of_lt hal) (Nat.ne_of_lt (Nat.lt_succ_of_lt hal)), ⟨⟨.none, he⟩, hit, Nat.succ_ne_self _⟩, fun b hb => ?_, q⟩
    have e' : b = s1.heap.objs.size + 1 ∨ b = s1.heap.objs.size := by simpa using hb
    have hle : s1.heap.objs.size ≤ b := by
      rcases e' with z | z
      · rw [z]; exact Nat.le_add_right _ _
      · rw [z]; exact Nat.le_refl _
    exact I1.fpOk hle (I1.hok.fresh hle)
theorem src_enumT {K : PySem.W.Frag} {F : Hp} {a : Addr} {xs : List V} {ds : List D} (e : F a = some (.tup xs)) (r : RpA F xs ds) : Src (Itet K a) F (fun _ => True) (ds.mapIdx fun i d => .tup [.v (.int (i : Nat)), d]) where
  go := fun i F' H M ex s o hi => ⟨xs, xs[i]'(by rw [r.length]; simpa using hi), SqT.of (s.le _ _ (ex _ _ e)), by simp⟩
  stop := fun i F' H M ex s o hi => ⟨xs, SqT.of (s.le _ _ (ex _ _ e)), by rw [r.length]; simpa using hi⟩
  yld := fun i d x F' H H' M ex s o hd y => by
    obtain ⟨T, x1, rfl, hT, rfl, y⟩ := y
    rw [List.getElem?_mapIdx] at hd
    cases hq : ds[i]? with
    | none => rw [hq] at hd; cases hd
    | some d1 =>
      rw [hq] at hd
      cases hd
      obtain ⟨x', h1, r'⟩ := r.get hq
      have := y xs (SqT.of (s.le _ _ (ex _ _ e)))
      rw [h1] at this
      cases this
      obtain ⟨s2, st2⟩ := s.new hT (.tup [.int (i : Nat), x1])
      exact ⟨_, s2, st2, .tup upd_same (.cons (.v _) (.cons (r'.mono (ex.trans st2.ex).le) .nil))⟩
section
variable {X : Cx} {a : Expr} {ρ : Env} {M : Mem} {pos : Pos}
theorem xi_enumT {p tpos : Pos} {elts : List Expr} {kk : Nat} {Q : KI} (h : XE X a ρ M fun d M1 => ∃ ds1, d = .tup ds1 ∧ Q (ds1.mapIdx fun i d => .tup [.v (.int (i : Nat)), d]) (fun _ => True) M1)
    (hm : X.mg "enumerate" = none) (hg : Gl X "enumerate" := by rfl) (hs : starEach [a] X.env = [(false, eval a X.env)] := by rfl) (he : starEach [a] X.env = (false, eval a X.env) :: starEach [] X.env := by rfl) :
    XI X (.Tuple elts kk tpos) (.Call (.Name "enumerate" p) [a] [] pos) ρ M Q := fun F σ H s ev R k => by
  have hA : XA X [a] ρ M fun ds M1 => ∃ ds1, ds = [.tup ds1] ∧ Q (ds1.mapIdx fun i d => .tup [.v (.int (i : Nat)), d]) (fun _ => True) M1 := xa_cons (h.mono fun d M1 q => by
    obtain ⟨ds1, rfl, q⟩ := q
    exact xa_nil ⟨ds1, rfl, q⟩) he
  refine PI.w (pi_enumT hg hm pa_w hs) (hA F σ H s ev _ fun vs ds M1 F1 H1 q st s1 r => ?_)
  obtain ⟨ds1, rfl, q⟩ := q
  cases r with
  | cons r1 r =>
    cases r
    cases r1 with
    | tup e ra => exact ⟨_, _, rfl, SqT.of (s1.le _ _ e), k _ _ _ M1 F1 H1 q st s1 (src_enumT e ra)⟩
end
end Dl
end
section
set_option maxHeartbeats 2000000
/-! W1: as_tuples, the small methods. -/
namespace Mm
open PySem PySem.Spec PyProof.Rows L2 Dl
section
variable {X : Cx} {e : Expr} {ρ : Dl.Env} {M : Mem} {Q : KE} {pos : Pos} {CV CF : Addr} {mg : Str → Option Value}
/-- e.f of a View, of a Fit -/
theorem xe_fV (T : Txt X.K mg CV CF) (j : Nat) {f : Str} (h : XE X e ρ M fun d1 M1 => ∃ ds d, SeesO M1 d1 CV nsV ds ∧ ds[j]? = some d ∧ Q d M1) (hn : nsV[j]? = some f := by rfl)
    (hb : attributeBase e f X.env (eval e X.env) = eval e X.env := by rfl) : XE X (.Attribute e f pos) ρ M Q :=
  xe_fld j (h.mono fun d1 M1 q => by
    obtain ⟨ds, d, so, hd, q⟩ := q
    exact ⟨CV, nsV, ds, d, so, T.clV, T.naV _ (List.mem_of_getElem? hn), nsV_nd, hn, hd, q⟩) hb
theorem xe_fF (T : Txt X.K mg CV CF) (j : Nat) {f : Str} (h : XE X e ρ M fun d1 M1 => ∃ ds d, SeesO M1 d1 CF nsF ds ∧ ds[j]? = some d ∧ Q d M1) (hn : nsF[j]? = some f := by rfl)
    (hb : attributeBase e f X.env (eval e X.env) = eval e X.env := by rfl) : XE X (.Attribute e f pos) ρ M Q :=
  xe_fld j (h.mono fun d1 M1 q => by
    obtain ⟨ds, d, so, hd, q⟩ := q
    exact ⟨CF, nsF, ds, d, so, T.clF, T.naF _ (List.mem_of_getElem? hn), nsF_nd, hn, hd, q⟩) hb
/-- a built-in class as a value -/
theorem xe_ty {x : Str} {n : String} (hm : X.mg x = none) (hv : bootBuiltins x = some (.type n)) (q : Q (.v (.ty n)) M) (hg : Gl X x := by rfl) (hn : x ≠ "__name__" := by decide) (hd : (x == ("__debug__" : Str)) = false := by decide) : XE X (.Name x pos) ρ M Q :=
  xe_c (pe_bltn hg hm hv (v := .ty n) rfl hn hd) rfl q
/-- isinstance(thing, (list, tuple)) -/
theorem cd_isLT {d : D} {b : Bool} (hd : (∃ ds, d = .tup ds ∧ b = true) ∨ ((∃ i, d = .v (.int i)) ∨ (∃ i, d = .v (.str i)) ∨ d = .v .non) ∧ b = false) (q : Q (.v (.bl b)) M) : CallD X (.builtin "isinstance") [d, .tup [.v (.ty "list"), .v (.ty "tuple")]] M Q := fun F H xs s r R k => by
  cases r with
  | cons r1 r =>
    cases r with
    | cons r2 r =>
      cases r
      obtain ⟨p, ys, rfl, e1, ra⟩ := tup_get s r2
      obtain rfl : ys = [.ty "list", .ty "tuple"] := RpA.vs (ys := [.ty "list", .ty "tuple"]) ra
      have fin := k _ _ M F H q (Step.refl _ _ _) s (.v _)
      have k1 : ∀ t : String, kitB t "list" = some false → ∀ b, kitB t "tuple" = some b → PySem.W.kitAny X.K (.type t) [.type "list", .type "tuple"] = some b := fun t h1 b h2 =>
        kitAny_cons (kit_ty h1) (fun _ => kitAny_cons (kit_ty h2) (fun hb => by rw [hb]; exact kitAny_nil) fun hb => hb) fun z => by cases z
      have cls : Paired ClsV [V.ty "list", V.ty "tuple"] [Value.type "list", Value.type "tuple"] := .cons (.ty _) (.cons (.ty _) .nil)
      rcases hd with ⟨ds, rfl, rfl⟩ | ⟨⟨i, rfl⟩ | ⟨i, rfl⟩ | rfl, rfl⟩
      · obtain ⟨p2, zs, rfl, e2, _⟩ := tup_get s r1
        exact CallR.w call_isiT ⟨.ref p2, p, _, .type "tuple", _, true, rfl, e1, cls, .base (.tup e2), k1 "tuple" (by decide +kernel) true (by decide +kernel), fin⟩
      · cases r1
        exact CallR.w call_isiT ⟨.int i, p, _, .type "int", _, false, rfl, e1, cls, .base (.int i), k1 "int" (by decide +kernel) false (by decide +kernel), fin⟩
      · cases r1
        exact CallR.w call_isiT ⟨.str i, p, _, .type "str", _, false, rfl, e1, cls, .base (.str i), k1 "str" (by decide +kernel) false (by decide +kernel), fin⟩
      · cases r1
        exact CallR.w call_isiT ⟨.non, p, _, .type "NoneType", _, false, rfl, e1, cls, .base .non, k1 "NoneType" (by decide +kernel) false (by decide +kernel), fin⟩
end
/-! ### as_tuples -/
/-- tuples of scalars, of so many levels -/
def TupD : Nat → D → Prop
  | 0, _ => False
  | n + 1, d => (∃ i, d = .v (.int i)) ∨ (∃ i, d = .v (.str i)) ∨ d = .v .non ∨ ∃ ds, d = .tup ds ∧ ds.length < 100000 ∧ ∀ x ∈ ds, TupD n x
def wAs (n : Nat) : Wp := fun ds M Q => ∃ d, ds = [d] ∧ TupD n d ∧ Q d M
section
variable {P : Program} {w : World} {K : PySem.W.Frag} {mg : Str → Option Value} {base : Heap} {CV CF : Addr}
abbrev sAs : Stmt := topS 4
theorem scAs : FnScope ["thing", "part"] ["thing"] (defScope sAs) := ⟨rfl, rfl, rfl, by decide +kernel, rfl, by decide +kernel, by decide +kernel⟩
theorem ndAs : (["thing", "part"] : List Str).Nodup := scAs.nd
theorem bAs : BindOk "as_tuples" "as_tuples" sAs ["thing"] := fun _ _ _ _ _ _ us hl => match us, hl with | [_], _ => rfl
theorem ok_as (T : Txt K mg CV CF) (Df : DefG K mg "as_tuples" sAs) : ∀ n : Nat, CalG P w K mg base n "as_tuples" (wAs n)
  | 0 => by
    obtain ⟨f, fd, F, hm⟩ := Df.ex
    have no : ∀ vs H Q E, ¬ spW (wAs 0) vs H Q E := fun vs H Q E h => by
      obtain ⟨_, _, _, _, _, _, ⟨d, _, h, _⟩, _⟩ := h
      exact h
    exact ⟨f, fd, ["thing"], ⟨fun vs H Q E h => absurd h (no vs H Q E), fun A outer s H args us vs Q E _ _ _ _ h => absurd h (no vs H Q E)⟩, hm, F.kp, F.bindsN bAs⟩
  | n + 1 => by
    have ih := ok_as T Df n
    refine CalG.mk' Df scAs bAs (fun ds M QD h => by obtain ⟨_, rfl, _⟩ := h; rfl) fun f cdv A outer s H hr ds M QD h => ?_
    obtain ⟨d, rfl, hd, q⟩ := h
    have fr : ∀ x ∈ (["len", "range", "isinstance", "list", "tuple", "sorted", "dict", "set", "min", "int", "abs", "enumerate", "any", "all", "iter"] : List Str), mg x = none := T.free
    have hN := ndAs
    refine xss_one (xs_ret (xe_if (xt_val (xe_callB (id := "isinstance") (xa_cons (xe_var 0 rfl (xa_cons (xe_tup (xa_cons (xe_ty (n := "list") (fr _ (by decide +kernel)) (by decide +kernel) (xa_cons (xe_ty (n := "tuple") (fr _ (by decide +kernel)) (by decide +kernel) (xa_nil ⟨by decide, xa_nil ?_⟩)))))))))
      (fr _ (by decide +kernel)) (by decide +kernel)))))
    rcases hd with ⟨i, rfl⟩ | ⟨i, rfl⟩ | rfl | ⟨zs, rfl, hz, hzs⟩
    · exact cd_isLT (b := false) (.inr ⟨.inl ⟨i, rfl⟩, rfl⟩) ⟨false, rfl, ⟨fun z => (by cases z), fun _ => xe_var 0 rfl q⟩⟩
    · exact cd_isLT (b := false) (.inr ⟨.inr (.inl ⟨i, rfl⟩), rfl⟩) ⟨false, rfl, ⟨fun z => (by cases z), fun _ => xe_var 0 rfl q⟩⟩
    · exact cd_isLT (b := false) (.inr ⟨.inr (.inr rfl), rfl⟩) ⟨false, rfl, ⟨fun z => (by cases z), fun _ => xe_var 0 rfl q⟩⟩
    · refine cd_isLT (b := true) (.inl ⟨zs, rfl, rfl⟩) ⟨true, rfl, ⟨fun _ => ?_, fun z => (by cases z)⟩⟩
      refine xe_callT (T := "tuple") (xa_cons (xe_lc [("part", 1)] (xi_val (xe_var 0 rfl (idt_tup ⟨_, ⟨rfl, rfl⟩, lc_pure (M := M) (fun _ => true) id trivial hz fun x hx => ?_, lc_pure_end ?_⟩))) (blkOk_by (by rfl)))) (fr _ (by decide +kernel)) (by decide +kernel)
      · intro s0 H0 C cl fp
        refine xg_name 1 ?_
        intro s1 H1 C1 cl1 fp1
        refine xts_nil ⟨rfl, fun _ => ?_, fun z => by cases z⟩
        intro s2 H2 C2 cl2 fp2
        exact xe_fn ih hr (xa_cons (xe_var 1 rfl (xa_nil ⟨x, rfl, hzs x hx, rfl, rfl⟩)))
      · have e : (zs.filter fun _ => true).map id = zs := by simp
        rw [e]
        exact xa_nil (cd_tuple .of q)
/-! ### the small methods -/
abbrev viewD (CV : Addr) (reads times got rows : D) : D := .obj CV nsV [reads, times, got, rows]
abbrev fitD (CF : Addr) (view hold known lows highs left keys marks : D) : D := .obj CF nsF [view, hold, known, lows, highs, left, keys, marks]
abbrev sRT : Stmt := inClass (topS 8) 3
def wRT (CV : Addr) : Wp := fun ds M Q => ∃ r ts g ro i t, ds = [viewD CV r (.lst ts) g ro, .v (.int i)] ∧ atI ts i = some t ∧ Q t M
theorem scRT : FnScope ["self", "place"] ["self", "place"] (defScope sRT) := ⟨rfl, rfl, rfl, by decide +kernel, rfl, by decide +kernel, by decide +kernel⟩
theorem ok_rt (T : Txt K mg CV CF) (Df : DefM K CV "read_time" "View.read_time" sRT) : CalM P w K mg base 1 CV "read_time" (wRT CV) := by
  refine CalM.mk' Df scRT (fun _ _ _ _ _ _ us hl => match us, hl with | [_, _], _ => rfl) (fun ds M QD h => by obtain ⟨_, _, _, _, _, _, rfl, _⟩ := h; rfl) fun f cdv A outer s H hr ds M QD h => ?_
  obtain ⟨r, ts, g, ro, i, t, rfl, hi, q⟩ := h
  exact xss_one (xs_ret (xe_ix (xe_fV (mg := mg) (CF := CF) T 1 (xe_var 0 rfl ⟨_, _, .of, rfl, xe_var 1 rfl (id_lst .of hi q)⟩))))
abbrev sVL : Stmt := inClass (topS 8) 1
def wVL (CV : Addr) : Wp := fun ds M Q => ∃ r ts g ro, ds = [viewD CV r (.lst ts) g ro] ∧ Q (.v (.int ts.length)) M
theorem scVL : FnScope ["self"] ["self"] (defScope sVL) := ⟨rfl, rfl, rfl, by decide +kernel, rfl, by decide +kernel, by decide +kernel⟩
theorem ok_vl (T : Txt K mg CV CF) (Df : DefM K CV "__len__" "View.__len__" sVL) : CalM P w K mg base 1 CV "__len__" (wVL CV) := by
  refine CalM.mk' Df scVL (fun _ _ _ _ _ _ us hl => match us, hl with | [_], _ => rfl) (fun ds M QD h => by obtain ⟨_, _, _, _, rfl, _⟩ := h; rfl) fun f cdv A outer s H hr ds M QD h => ?_
  obtain ⟨r, ts, g, ro, rfl, q⟩ := h
  exact xss_one (xs_ret (xe_callB (xa_cons (xe_fV (mg := mg) (CF := CF) T 1 (xe_var 0 rfl ⟨_, _, .of, rfl, xa_nil (cd_len .of q)⟩))) (T.free _ (by decide +kernel)) PySem.boot_len))
end
end Mm
end
section
set_option maxHeartbeats 2000000
/-! W2: views: their data, View(..). -/
namespace Mm
open PySem PySem.Spec PyProof.Rows L2 Dl
/-! ### data -/
abbrev Rw := Nat × Str × Option Int
abbrev Rr := Nat × Nat × List Rw
def optD : Option Int → D
  | some i => .v (.int i)
  | none => .v .non
def kvD (p : Str × Option Int) : D := .tup [.v (.str p.1), optD p.2]
def rwD (r : Rw) : D := .tup [.v (.int r.1), .v (.str r.2.1), optD r.2.2]
def rdD (r : Rr) : D := .tup [.v (.int r.1), .v (.int r.2.1), .tup (r.2.2.map rwD)]
def vwD (V : List Rr) : D := .tup (V.map rdD)
abbrev intD (n : Nat) : D := .v (.int n)
/-- own_times -/
def tmsF (acc : List Nat) (r : Rr) : List Nat := acc ++ List.replicate (r.2.1 - acc.length) r.1
def tms (V : List Rr) : List Nat := V.foldl tmsF []
def rowsOf (V : List Rr) : List Rw := V.flatMap fun r => r.2.2
abbrev gotK (r : Rw) : Key × D := (Sum.inl (r.1 : Int), kvD r.2)
abbrev pairKv (r : Rw) : D := .tup [.v (.int r.1), kvD r.2]
/-- what a view is asked: places rise, all is small -/
structure GoodV (V : List Rr) : Prop where
  rise : (rowsOf V).Pairwise fun a b => a.1 < b.1
  len : V.length < 200
  rows : ∀ r ∈ V, r.2.2.length < 200
  upto : ∀ r ∈ V, r.2.1 < 200
  time : ∀ r ∈ V, r.1 < 1000
abbrev vObj (CV : Addr) (V : List Rr) : D := viewD CV (.lst (V.map rdD)) (.lst ((tms V).map intD)) (.dct ((rowsOf V).map gotK)) (.lst ((rowsOf V).map pairKv))
theorem optD_tup (n : Nat) (o : Option Int) : TupD (n + 1) (optD o) := by
  cases o with
  | none => exact .inr (.inr (.inl rfl))
  | some i => exact .inl ⟨i, rfl⟩
theorem vwD_tup {V : List Rr} (g : GoodV V) : TupD 5 (vwD V) := by
  refine .inr (.inr (.inr ⟨_, rfl, by rw [List.length_map]; have := g.len; omega, fun x hx => ?_⟩))
  obtain ⟨r, hr, rfl⟩ := List.mem_map.mp hx
  refine .inr (.inr (.inr ⟨_, rfl, (show 3 < 100000 by decide), fun y hy => ?_⟩))
  simp only [List.mem_cons, List.not_mem_nil, or_false] at hy
  rcases hy with rfl | rfl | rfl
  · exact .inl ⟨_, rfl⟩
  · exact .inl ⟨_, rfl⟩
  · refine .inr (.inr (.inr ⟨_, rfl, by rw [List.length_map]; have := g.rows r hr; omega, fun z hz => ?_⟩))
    obtain ⟨w, hw, rfl⟩ := List.mem_map.mp hz
    refine .inr (.inr (.inr ⟨_, rfl, (show 3 < 100000 by decide), fun u hu => ?_⟩))
    simp only [List.mem_cons, List.not_mem_nil, or_false] at hu
    rcases hu with rfl | rfl | rfl
    · exact .inl ⟨_, rfl⟩
    · exact .inr (.inl ⟨_, rfl⟩)
    · exact optD_tup _ _
/-! rising keys: nothing is replaced -/
theorem putD_new {kds : List (Key × D)} {k : Key} {d : D} (h : ∀ p ∈ kds, p.1 ≠ k) : putD kds k d = kds ++ [(k, d)] := by
  unfold putD
  rw [if_neg]
  intro z
  obtain ⟨p, hp, e⟩ := List.any_eq_true.mp z
  exact h p hp (by simpa using e)
theorem mergeD_new : ∀ {more kds : List (Key × D)}, (∀ p ∈ kds, ∀ q ∈ more, p.1 ≠ q.1) → (more.map (·.1)).Nodup → mergeD kds more = kds ++ more
  | [], kds, _, _ => (List.append_nil _).symm
  | q :: more, kds, h, nd => by
    rw [List.map_cons, List.nodup_cons] at nd
    show mergeD (putD kds q.1 q.2) more = _
    rw [putD_new fun p hp => h p hp q List.mem_cons_self, mergeD_new (fun p hp r hr => ?_) nd.2, List.append_assoc]
    · rfl
    · rcases List.mem_append.mp hp with hp | hp
      · exact h p hp r (List.mem_cons_of_mem _ hr)
      · simp only [List.mem_singleton] at hp
        subst hp
        exact fun e => nd.1 (List.mem_map.mpr ⟨r, hr, e.symm⟩)
theorem gotK_inj {a b : Rw} (h : (gotK a).1 = (gotK b).1) : a.1 = b.1 := by
  have : (a.1 : Int) = (b.1 : Int) := Sum.inl.inj h
  omega
theorem mergeD_rows {as bs : List Rw} (h : (as ++ bs).Pairwise fun a b => a.1 < b.1) : mergeD (as.map gotK) (bs.map gotK) = (as ++ bs).map gotK := by
  rw [List.map_append]
  rw [List.pairwise_append] at h
  refine mergeD_new (fun p hp q hq => ?_) ?_
  · obtain ⟨a, ha, rfl⟩ := List.mem_map.mp hp
    obtain ⟨b, hb, rfl⟩ := List.mem_map.mp hq
    intro e
    have h1 := h.2.2 a ha b hb
    have h2 := gotK_inj e
    omega
  · rw [List.map_map, List.Nodup, List.pairwise_map]
    exact h.2.1.imp fun {a b} hab e => by
      have h1 := gotK_inj (a := a) (b := b) e
      omega
theorem tms_le (V : List Rr) (n : Nat) (h : ∀ r ∈ V, r.2.1 ≤ n) : ∀ acc : List Nat, acc.length ≤ n → (V.foldl tmsF acc).length ≤ n := by
  induction V with
  | nil => intro acc ha; exact ha
  | cons r V ih =>
    intro acc ha
    refine ih (fun x hx => h x (List.mem_cons_of_mem _ hx)) _ ?_
    have := h r List.mem_cons_self
    unfold tmsF
    rw [List.length_append, List.length_replicate]
    omega
theorem rowsOf_take {V : List Rr} {i : Nat} {r : Rr} (h : V[i]? = some r) : rowsOf (V.take (i + 1)) = rowsOf (V.take i) ++ r.2.2 := by
  unfold rowsOf
  rw [List.take_succ, h]
  simp
theorem tms_take {V : List Rr} {i : Nat} {r : Rr} (h : V[i]? = some r) : tms (V.take (i + 1)) = tmsF (tms (V.take i)) r := by
  unfold tms
  rw [List.take_succ, h, List.foldl_append]; rfl
theorem rows_take (V : List Rr) (i : Nat) : ∃ more, rowsOf V = rowsOf (V.take i) ++ more := by
  refine ⟨rowsOf (V.drop i), ?_⟩
  unfold rowsOf
  rw [← List.flatMap_append, List.take_append_drop]
theorem flat_len {V : List Rr} (n : Nat) (h : ∀ r ∈ V, r.2.2.length ≤ n) : (rowsOf V).length ≤ V.length * n := by
  unfold rowsOf
  induction V with
  | nil => simp
  | cons r V ih =>
    rw [List.flatMap_cons, List.length_append, List.length_cons, Nat.succ_mul]
    have h1 := h r List.mem_cons_self
    have h2 := ih fun x hx => h x (List.mem_cons_of_mem _ hx)
    omega
theorem GoodV.small {V : List Rr} (g : GoodV V) : (rowsOf V).length < 40000 := by
  have h1 := flat_len (V := V) 199 fun r hr => by have := g.rows r hr; omega
  have h2 := g.len
  have h3 : V.length * 199 ≤ 199 * 199 := Nat.mul_le_mul_right _ (by omega)
  omega
def keyR : D → Key
  | .tup (.v (.int i) :: _) => Sum.inl i
  | _ => Sum.inl 0
def valR : D → D
  | .tup [_, k, v] => .tup [k, v]
  | d => d
theorem rep_flat (n : Nat) (d : D) : (List.replicate n [d]).flatten = List.replicate n d := by
  induction n with
  | zero => rfl
  | succ n ih => rw [List.replicate_succ, List.flatten_cons, ih, List.replicate_succ]; rfl
/-! ### View(..) -/
section
variable {P : Program} {w : World} {K : PySem.W.Frag} {mg : Str → Option Value} {base : Heap} {CV CF : Addr}
abbrev sVI : Stmt := inClass (topS 8) 0
def wVI (CV : Addr) : Wp := fun ds M QD => ∃ V i dx M0, ds = [.v (.ref i), vwD V] ∧ M = (i, .ins CV dx [] []) :: M0 ∧ GoodV V ∧
  QD (.v .non) ((i, .ins CV dx nsV [.lst (V.map rdD), .lst ((tms V).map intD), .dct ((rowsOf V).map gotK), .lst ((rowsOf V).map pairKv)]) :: M0)
abbrev nVI : List Str := ["self", "view", "time", "upto", "got", "place", "key", "value"]
theorem scVI : FnScope nVI ["self", "view"] (defScope sVI) := ⟨rfl, rfl, rfl, by decide +kernel, rfl, by decide +kernel, by decide +kernel⟩
theorem ndVI : nVI.Nodup := scVI.nd
/-- a dict is locked and put into the instance behind it -/
theorem adj_dct {a i C dx : Addr} {kds : List (Key × D)} {ns : List Str} {ds : List D} {M : Mem} (j : Nat) (hj : ds[j]? = some (.v (.ref a))) {X : Cx} {ρ : Dl.Env} {sts : List Stmt} {E : EndsD}
    (h : XSs X sts ρ ((i, .ins C dx ns (ds.set j (.dct kds))) :: M) E) : XSs X sts ρ ((a, .dct kds) :: (i, .ins C dx ns ds) :: M) E := fun F σ H s ev hl D k => by
  intro pins s0 I
  obtain ⟨hF, kvs, e, rk⟩ := s.mem _ List.mem_cons_self
  obtain ⟨od, I2⟩ := I.lock e True.intro
  obtain ⟨s2, st2⟩ := s.lock (u := .frz od (.dK kvs))
  have rD : Rp (upd F a (.frz od (.dK kvs))) (.ref a) (.dct kds) := .dct upd_same (rk.mono st2.ex)
  have s3 : S0 (upd F a (.frz od (.dK kvs))) (upd H a (.frz od (.dK kvs))) ((i, .ins C dx ns (ds.set j (.dct kds))) :: M) := by
    refine ⟨s2.le, fun q hq => ?_, by have := s2.nd; simpa using this⟩
    rcases List.mem_cons.mp hq with rfl | hq
    · obtain ⟨h1, xs, h2, h3, h4⟩ := s2.mem _ List.mem_cons_self
      refine ⟨h1, xs, h2, ?_, by simpa using h4⟩
      obtain ⟨y, hy, ry⟩ := h3.get hj
      cases ry
      have q := h3.set rD j
      have : xs.set j (.ref a) = xs := by
        apply List.ext_getElem?
        intro t
        by_cases h : j = t
        · subst h; rw [List.getElem?_set_self (List.getElem?_eq_some_iff.mp hy).1, hy]
        · rw [List.getElem?_set_ne h]
      rwa [this] at q
    · exact s2.mem q (List.mem_cons_of_mem _ hq)
  have st3 : Step F H ((a, .dct kds) :: (i, .ins C dx ns ds) :: M) (upd F a (.frz od (.dK kvs))) (upd H a (.frz od (.dK kvs))) ((i, .ins C dx ns (ds.set j (.dct kds))) :: M) :=
    ⟨st2.ex, st2.kn, st2.fr, st2.st, fun b hb => st2.mo b (by simpa using hb)⟩
  exact h _ σ _ s3 (ev.mono st2.ex) hl D (k.step st3) pins s0 I2
theorem ok_vi (T : Txt K mg CV CF) (As : CalG P w K mg base 6 "as_tuples" (wAs 5)) (Df : DefC K mg CV "View" "View.__init__" sVI) : CalC P w K mg base 7 "View" CV (wVI CV) := by
  refine CalC.mk' Df scVI (fun _ _ _ _ _ _ us hl => match us, hl with | [_, _], _ => rfl) (fun ds M QD h => by obtain ⟨_, _, _, _, rfl, _⟩ := h; rfl) fun f cdv A outer s H hr ds M QD h => ?_
  obtain ⟨V, i, dx, M0, rfl, rfl, g, q⟩ := h
  have hN := ndVI
  have cl := T.clV
  have na : ∀ f ∈ nsV, NoAttr _ CV f := T.naV
  have fr := T.free
  refine xss_cons (xs_fld 0 (xe_callT (T := "list") (xa_cons (xe_fn As hr (xa_cons (xe_var 1 rfl (xa_nil ⟨_, rfl, vwD_tup g, xa_nil (cd_listT (xe_var 0 rfl ⟨_, _, _, _, _, rfl, rfl, cl, na _ (by decide +kernel), by decide, by decide, ?_⟩))⟩))))) (fr _ (by decide +kernel)) (by decide +kernel)))
  refine xss_cons (xs_fld 0 (xe_lst (xa_nil ⟨by decide, xe_var 0 rfl ⟨_, _, _, _, _, rfl, rfl, cl, na _ (by decide +kernel), by decide, by decide, ?_⟩⟩)))
  refine xss_cons (xs_fld 1 (xe_dctM fun gl => xe_var 0 rfl ⟨_, _, _, _, _, rfl, rfl, cl, na _ (by decide +kernel), by decide, by decide, ?_⟩))
  refine xss_cons (xs_for [2, 3, 4] (xi_val (xe_fld 0 (xe_var 0 rfl ⟨CV, _, _, _, .m 1 rfl, cl, na "own_reads" (by decide +kernel), by decide, rfl, rfl, idt_lst ⟨fun n ρ' M' => (∃ d2 d3 d4, ρ' = [some (.v (.ref i)), some (vwD V), d2, d3, d4, none, none, none]) ∧
    M' = (gl, MO.dct ((rowsOf (V.take n)).map gotK)) :: (i, MO.ins CV dx ["own_reads", "own_times", "own_got"] [.lst (V.map rdD), .lst ((tms (V.take n)).map intD), .v (.ref gl)]) :: M0, ⟨⟨_, _, _, rfl⟩, rfl⟩, fun _ _ _ _ _ => trivial, ?_, ?_⟩⟩))))
  · rintro n d ρ' M' hd ⟨⟨d2, d3, d4, rfl⟩, rfl⟩
    rw [List.getElem?_map] at hd
    cases hVn : V[n]? with
    | none => rw [hVn] at hd; cases hd
    | some r =>
      rw [hVn] at hd
      cases hd
      have hrm : r ∈ V := List.mem_of_getElem? hVn
      have hup := g.upto r hrm
      have htl : (tms (V.take n)).length ≤ 200 := tms_le _ 200 (fun x hx => by have := g.upto x (List.mem_of_mem_take hx); omega) [] (Nat.zero_le _)
      refine xg_tup (xgs_cons (xg_name 2 (xgs_cons (xg_name 3 (xgs_cons (xg_name 4 (xgs_nil ?_)))))))
      refine xss_cons (xs_fldS 1 1 (xe_bin ?_))
      refine xe_fld 1 (xe_var 0 rfl ⟨CV, _, _, _, .m 1 rfl, cl, na "own_times" (by decide +kernel), by decide, rfl, rfl, ?_⟩)
      refine xe_bin (xe_lst (xa_cons (xe_var 2 rfl (xa_nil ⟨Nat.le_of_ble_eq_true rfl, ?_⟩))))
      refine xe_bin (xe_var 3 rfl (xe_callB (id := "len") (xa_cons ?_) (fr _ (by decide +kernel)) (by decide +kernel)))
      refine xe_fld 1 (xe_var 0 rfl ⟨CV, _, _, _, .m 1 rfl, cl, na "own_times" (by decide +kernel), by decide, rfl, rfl, ?_⟩)
      refine xa_nil (cd_len .of (od_sub (od_rep .of ?_ (Nat.le_of_ble_eq_true rfl) (od_addL .of .of ?_ ?_))))
      · rw [List.length_map]; omega
      · rw [List.length_map, rep_flat, List.length_replicate]; omega
      refine xe_var 0 rfl ⟨_, _, _, _, _, rfl, rfl, cl, na "own_times" (by decide +kernel), rfl, by decide, by decide, ?_⟩
      refine xss_one (xs_expr (xe_upd 0 ?_))
      refine xe_fld 2 (xe_var 0 rfl ⟨CV, _, _, _, .m 1 rfl, cl, na "own_got" (by decide +kernel), by decide, rfl, rfl, gl, _, 0, rfl, rfl, ?_⟩)
      refine xe_frzK (xe_dcM [("place", 5), ("key", 6), ("value", 7)] (xi_val (xe_var 4 rfl (idt_tup ⟨_, ⟨rfl, rfl⟩, dc_pure keyR valR trivial (by rw [List.length_map]; have := g.rows r hrm; omega) (fun d hd => ?_), dc_pure_end fun l => ⟨_, _, _, rfl, rfl, _, _, rfl, .inl rfl, ?_, ?_⟩⟩))) (blkOk_by (by rfl)))
      · obtain ⟨x, hx, rfl⟩ := List.mem_map.mp hd
        intro s0 H0 C cl0 fp
        refine xg_tup (xgs_cons (xg_name 5 (xgs_cons (xg_name 6 (xgs_cons (xg_name 7 (xgs_nil ⟨rfl, ?_⟩)))))))
        intro s1 H1 C1 cl1 fp1
        refine xe_var 5 rfl ⟨rfl, rfl, ?_⟩
        intro s2 H2 C2 cl2 fp2
        exact xe_tup (xa_cons (xe_var 6 rfl (xa_cons (xe_var 7 rfl (xa_nil ⟨Nat.le_of_ble_eq_true rfl, rfl, rfl⟩)))))
      · have e1 : ((r.2.2.map rwD).map fun d => (keyR d, valR d)) = r.2.2.map gotK := by rw [List.map_map]; rfl
        have hs := g.small
        obtain ⟨more, hm⟩ := rows_take V (n + 1)
        rw [rowsOf_take hVn] at hm
        have hri := g.rise
        rw [hm, List.pairwise_append] at hri
        have h2 := mergeD_rows (as := []) (bs := r.2.2) (by rw [List.nil_append]; exact (List.pairwise_append.mp hri.1).2.1)
        show ((rowsOf (V.take n)).map gotK).length + (mergeD [] ((r.2.2.map rwD).map fun d => (keyR d, valR d))).length ≤ 100000
        rw [e1, show mergeD [] (r.2.2.map gotK) = r.2.2.map gotK from h2, List.length_map, List.length_map]
        have := congrArg List.length hm
        rw [List.length_append, List.length_append] at this
        omega
      · have e1 : ((r.2.2.map rwD).map fun d => (keyR d, valR d)) = r.2.2.map gotK := by rw [List.map_map]; rfl
        obtain ⟨more, hm⟩ := rows_take V (n + 1)
        rw [rowsOf_take hVn] at hm
        have hri := g.rise
        rw [hm, List.pairwise_append] at hri
        have h2 := mergeD_rows (as := []) (bs := r.2.2) (by rw [List.nil_append]; exact (List.pairwise_append.mp hri.1).2.1)
        have h3 := mergeD_rows hri.1
        refine ⟨⟨_, _, _, rfl⟩, ?_⟩
        have e2 : mergeD ((rowsOf (V.take n)).map gotK) (mergeD [] ((r.2.2.map rwD).map fun d => (keyR d, valR d))) = (rowsOf (V.take (n + 1))).map gotK := by
          rw [e1, show mergeD [] (r.2.2.map gotK) = r.2.2.map gotK from h2, h3, rowsOf_take hVn]
        have e3 : (tms (V.take n)).map intD ++ (List.replicate ((r.2.1 : Int) - ((tms (V.take n)).map intD).length).toNat [intD r.1]).flatten = (tms (V.take (n + 1))).map intD := by
          rw [tms_take hVn, tmsF, List.map_append, List.map_replicate, rep_flat, List.length_map]
          congr 2
          omega
        show (gl, MO.dct (mergeD ((rowsOf (V.take n)).map gotK) (mergeD [] ((r.2.2.map rwD).map fun d => (keyR d, valR d))))) :: (i, MO.ins CV dx ["own_reads", "own_times", "own_got"] [.lst (V.map rdD), .lst ((tms (V.take n)).map intD ++ (List.replicate ((r.2.1 : Int) - ((tms (V.take n)).map intD).length).toNat [intD r.1]).flatten), .v (.ref gl)]) :: M0 = _
        rw [e2, e3]
  · rintro ρ' M' ⟨⟨d2, d3, d4, rfl⟩, rfl⟩
    rw [List.length_map, List.take_length]
    refine xss_cons (xs_fld 1 (xe_sortedItems ?_ (fr _ (by decide +kernel))))
    refine xe_fld 2 (xe_var 0 rfl ⟨CV, _, _, _, .m 1 rfl, cl, na "own_got" (by decide +kernel), by decide, rfl, rfl, ?_⟩)
    refine ⟨(rowsOf V).map fun r => ((r.1 : Int), kvD r.2), .m 0 (by rw [List.map_map]; rfl), ?_, ?_⟩
    · rw [List.map_map, List.pairwise_map]
      exact g.rise.imp fun {a b} h => Int.ofNat_lt.mpr h
    refine xe_var 0 rfl ⟨_, _, _, _, _, rfl, rfl, cl, na _ (by decide +kernel), by decide, by decide, ?_⟩
    refine adj_dct 2 rfl (xss_nil ?_)
    have e : ((rowsOf V).map fun r => ((r.1 : Int), kvD r.2)).map (fun z => D.tup [.v (.int z.1), z.2]) = (rowsOf V).map pairKv := by rw [List.map_map]; rfl
    show QD _ ((i, MO.ins CV dx nsV [.lst (V.map rdD), .lst ((tms V).map intD), .dct ((rowsOf V).map gotK), .lst (((rowsOf V).map fun r => ((r.1 : Int), kvD r.2)).map (fun z => D.tup [.v (.int z.1), z.2]))]) :: M0)
    rw [e]
    exact q
end
end Mm
end
section
set_option maxHeartbeats 2000000
/-! W3: the methods of a view. -/
namespace Mm
open PySem PySem.Spec PyProof.Rows L2 Dl
def places (V : List Rr) : List Nat := (rowsOf V).map fun r => r.1
def gapsOf (V : List Rr) : List Nat := (List.range (tms V).length).filter fun p => decide (p ∉ places V)
def heldF (acc : List (Str × Nat)) (r : Rw) : List (Str × Nat) :=
  if r.2.2.isSome then acc.filter (fun z => decide (z.1 ≠ r.2.1)) ++ [(r.2.1, r.1)] else acc.filter (fun z => decide (z.1 ≠ r.2.1))
def heldOf (rs : List Rw) : List (Str × Nat) := rs.foldl heldF []
def heldK (acc : List (Str × Nat)) : List (Key × D) := acc.map fun z => (Sum.inr z.1, intD z.2)
def manyAt (V : List Rr) (t : Int) : Int := t - b2i (decide (((V.map (·.1)).headD 0 : Int) ≤ t)) - ((V.filter fun r => decide ((r.1 : Int) < t)).length : Int)
theorem tms_len (V : List Rr) (g : GoodV V) : (tms V).length ≤ 200 := tms_le _ 200 (fun x hx => by have := g.upto x hx; omega) [] (Nat.zero_le _)
theorem valD_rows (rs : List Rw) (p : Nat) : (valD (rs.map gotK) (Sum.inl (p : Int))).isSome = decide (p ∈ rs.map fun r => r.1) := by
  induction rs with
  | nil => rfl
  | cons r rs ih =>
    rw [List.map_cons, valD_cons]
    by_cases h : r.1 = p
    · subst h; simp
    · have : ¬ (Sum.inl (r.1 : Int) : Key) = Sum.inl (p : Int) := fun e => h (by have := Sum.inl.inj e; omega)
      rw [if_neg this, ih]
      simp [Ne.symm h]
theorem dropD_held (acc : List (Str × Nat)) (k : Str) : dropD (heldK acc) (Sum.inr k) = heldK (acc.filter fun z => decide (z.1 ≠ k)) := by
  unfold dropD heldK
  rw [List.filter_map]
  congr 1
  apply List.filter_congr
  intro x _
  by_cases h : x.1 = k
  · simp [h]
  · have : ¬ (Sum.inr x.1 : Key) = Sum.inr k := fun e => h (Sum.inr.inj e)
    simp [h, this]
theorem putD_held (acc : List (Str × Nat)) (k : Str) (p : Nat) (h : ∀ z ∈ acc, z.1 ≠ k) : putD (heldK acc) (Sum.inr k) (intD p) = heldK (acc ++ [(k, p)]) := by
  unfold heldK
  rw [putD_new, List.map_append]
  · rfl
  · intro z hz
    obtain ⟨y, hy, rfl⟩ := List.mem_map.mp hz
    exact fun e => h y hy (Sum.inr.inj e)
theorem heldF_len (acc : List (Str × Nat)) (r : Rw) : (heldF acc r).length ≤ acc.length + 1 := by
  unfold heldF
  have := List.length_filter_le (fun z : Str × Nat => decide (z.1 ≠ r.2.1)) acc
  split
  · rw [List.length_append]; simp only [List.length_singleton]; omega
  · omega
theorem held_len (rs : List Rw) : ∀ acc : List (Str × Nat), (rs.foldl heldF acc).length ≤ acc.length + rs.length := by
  induction rs with
  | nil => intro acc; exact Nat.le_refl _
  | cons r rs ih =>
    intro acc
    have h1 := ih (heldF acc r)
    have h2 := heldF_len acc r
    rw [List.foldl_cons, List.length_cons]
    omega
theorem valD_none_of {kds : List (Key × D)} {k : Key} (h : valD kds k = none) : dropD kds k = kds := by
  unfold dropD
  rw [List.filter_eq_self]
  intro p hp
  simp only [ne_eq, decide_not, Bool.not_eq_true', decide_eq_false_iff_not]
  intro e
  unfold valD at h
  rw [Option.map_eq_none_iff, List.find?_eq_none] at h
  exact h p hp (by simpa using e)
section
variable {P : Program} {w : World} {K : PySem.W.Frag} {mg : Str → Option Value} {base : Heap} {CV CF : Addr}
/-! ### __iter__ -/
abbrev sIt : Stmt := inClass (topS 8) 2
theorem scIt : FnScope ["self"] ["self"] (defScope sIt) := ⟨rfl, rfl, rfl, by decide +kernel, rfl, by decide +kernel, by decide +kernel⟩
theorem ok_it (T : Txt K mg CV CF) (Df : DefM K CV "__iter__" "View.__iter__" sIt) : CalI P w K mg base 1 CV nsV 3 := by
  obtain ⟨f, fd, F, hm⟩ := Df.ex
  refine ⟨f, fd, ["self"], FunD.okS F scIt (fun s vs H Q E h => by obtain ⟨_, _, _, _, _, rfl, _⟩ := h; rfl) fun cdv A outer s H vs Q E hr hsp => ?_, hm, F.bindsN (fun _ _ _ _ _ _ us hl => match us, hl with | [_], _ => rfl)⟩
  obtain ⟨a, dx, xs, l, rows, rfl, ha, hlen, hx, hl, q⟩ := hsp
  refine ⟨_, pss_one (ps_ret (pe_callB (id := "iter") ItX.call_iterN (by rfl) (T.free _ (by decide +kernel)) (by decide +kernel) (pa_cons (pe_fld (pv 0 (by rfl) (by first | exact Or.inl rfl | exact Or.inr (Or.inl rfl) | exact Or.inr (Or.inr rfl)) (by decide) (by decide)) (by rfl)) pa_nil (by rfl)) (by decide) (by decide) (by rfl) (by rfl))), ?_⟩
  exact ⟨.ref a, rfl, a, CV, dx, _, .ref l, rfl, ha, T.clV, T.naV _ (by decide +kernel), lookup_zip nsV_nd (j := 3) rfl hx, l, rows, rfl, SqL.of hl, fun it h1 h2 => q it h1 h2⟩
/-! ### gaps -/
abbrev sGp : Stmt := inClass (topS 8) 4
def wGp (CV : Addr) : Wp := fun ds M Q => ∃ V, ds = [vObj CV V] ∧ GoodV V ∧ Q (.lst ((gapsOf V).map intD)) M
theorem scGp : FnScope ["self", "place"] ["self"] (defScope sGp) := ⟨rfl, rfl, rfl, by decide +kernel, rfl, by decide +kernel, by decide +kernel⟩
def natD : D → Nat
  | .v (.int i) => i.toNat
  | _ => 0
theorem ok_gp (T : Txt K mg CV CF) (Ln : CalM P w K mg base 1 CV "__len__" (wVL CV)) (Df : DefM K CV "gaps" "View.gaps" sGp) : CalM P w K mg base 3 CV "gaps" (wGp CV) := by
  refine CalM.mk' Df scGp (fun _ _ _ _ _ _ us hl => match us, hl with | [_], _ => rfl) (fun ds M QD h => by obtain ⟨_, rfl, _⟩ := h; rfl) fun f cdv A outer s H hr ds M QD h => ?_
  obtain ⟨V, rfl, g, q⟩ := h
  have hN := scGp.nd
  have hz := tms_len V g
  refine xss_one (xs_ret (xe_lc [("place", 1)] (xi_range1 (xa_cons (xe_callB (id := "len") (xa_cons (xe_var 0 rfl (xa_nil (cd_lenO Ln hr (by decide) ⟨_, _, _, _, rfl, _, rfl, ?_, xa_nil ⟨_, rfl, ?_, ?_, ?_⟩⟩)))) (T.free _ (by decide +kernel)) (by decide +kernel))) (T.free _ (by decide +kernel))) (blkOk_by (by rfl))))
  · rw [List.length_map]; omega
  · rw [List.length_map]; omega
  · rw [List.length_map]; omega
  · refine ⟨_, ⟨rfl, rfl⟩, lc_pure (M := M) (fun d => decide (natD d ∉ places V)) id trivial (by rw [List.length_map, List.length_range, List.length_map]; omega) (fun d hd => ?_), lc_pure_end ?_⟩
    · obtain ⟨p, hp, rfl⟩ := List.mem_map.mp hd
      have hu : ∀ {Y : Cx}, Y.A = (cxB P w K mg base ["self", "place"] "View.gaps" sGp f cdv A outer s H).A → Y.A.units + 1 < cLine := fun {Y} e => by
        rw [e]
        have := hr.units
        omega
      intro s0 H0 C cl0 fp
      refine xg_name 1 ?_
      intro s1 H1 C1 cl1 fp1
      refine xts_one (xt_cmp (xe_var 1 rfl (xe_fV (mg := mg) (CF := CF) T 2 (xe_var 0 rfl ⟨_, _, .of, rfl, od_dNotIn (k := Sum.inl (p : Int)) (hu rfl) .of (by rw [Int.zero_add]; rfl) ⟨_, rfl, ?_, ?_, ?_⟩⟩))))
      · rw [valD_rows]
        show (!decide (p ∈ places V)) = decide (natD (.v (.int (0 + (p : Int)))) ∉ places V)
        have : natD (.v (.int (0 + (p : Int)))) = p := by show (0 + (p : Int)).toNat = p; omega
        rw [this]; simp
      · intro _ s2 H2 C2 cl2 fp2
        exact xe_var 1 rfl ⟨rfl, rfl⟩
      · exact fun _ => rfl
    · have e : (((List.range ((tms V).map intD).length).map fun (i : Nat) => D.v (.int (0 + (i : Int)))).filter fun d => decide (natD d ∉ places V)).map id = (gapsOf V).map intD := by
        rw [List.map_id, List.filter_map, List.length_map]
        unfold gapsOf
        have e1 : ((fun d => decide (natD d ∉ places V)) ∘ fun (i : Nat) => D.v (.int (0 + (i : Int)))) = fun p => decide (p ∉ places V) := by
          funext p
          have : natD (.v (.int (0 + (p : Int)))) = p := by show (0 + (p : Int)).toNat = p; omega
          show decide (natD (.v (.int (0 + (p : Int)))) ∉ places V) = _
          rw [this]
        rw [e1]
        apply List.map_congr_left
        intro p _
        show D.v (.int (0 + (p : Int))) = D.v (.int p)
        rw [Int.zero_add]
      have e' : ((((tms V).map intD).length : Nat) : Int).toNat = ((tms V).map intD).length := by omega
      rw [e']
      rw [e]
      exact q
/-! ### many_at -/
abbrev sMA : Stmt := inClass (topS 8) 6
def wMA (CV : Addr) : Wp := fun ds M Q => ∃ V t, ds = [vObj CV V, .v (.int t)] ∧ GoodV V ∧ V ≠ [] ∧ Q (.v (.int (manyAt V t))) M
abbrev nMA : List Str := ["self", "time", "first", "own", "upto", "got"]
theorem scMA : FnScope nMA ["self", "time"] (defScope sMA) := ⟨rfl, rfl, rfl, by decide +kernel, rfl, by decide +kernel, by decide +kernel⟩
def timeD : D → Int
  | .tup (.v (.int i) :: _) => i
  | _ => 0
theorem ok_ma (T : Txt K mg CV CF) (Df : DefM K CV "many_at" "View.many_at" sMA) : CalM P w K mg base 1 CV "many_at" (wMA CV) := by
  refine CalM.mk' Df scMA (fun _ _ _ _ _ _ us hl => match us, hl with | [_, _], _ => rfl) (fun ds M QD h => by obtain ⟨_, _, rfl, _⟩ := h; rfl) fun f cdv A outer s H hr ds M QD h => ?_
  obtain ⟨V, t, rfl, g, hne, q⟩ := h
  have hN := scMA.nd
  have fr := T.free
  obtain ⟨r, V', rfl⟩ := List.exists_cons_of_ne_nil hne
  refine xss_cons (xs_set 2 (xe_ix (xe_ix (xe_fV (mg := mg) (CF := CF) T 0 (xe_var 0 rfl ⟨_, _, .of, rfl, xe_int (id_lst (d := rdD r) .of (atI_nat (j := 0) rfl) (xe_int (id_tup (d := intD r.1) (atI_nat (j := 0) rfl) ?_)))⟩)))))
  refine xss_one (xs_ret (xe_bin (xe_bin (xe_var 1 rfl (xe_callT (T := "int") (xa_cons ?_) (fr _ (by decide +kernel)) (by decide +kernel))))))
  refine xe_cmp (xe_var 1 rfl (xe_var 2 rfl (od_ge (xa_nil (cd_intB (od_sub ?_))))))
  refine xe_callB (id := "len") (xa_cons (xe_lc [("own", 3), ("upto", 4), ("got", 5)] (xi_val ?_) (blkOk_by (by rfl)))) (fr _ (by decide +kernel)) (by decide +kernel)
  refine xe_fV (mg := mg) (CF := CF) T 0 (xe_var 0 rfl ⟨_, _, .of, rfl, idt_lst ⟨_, ⟨rfl, rfl⟩, lc_pure (M := M) (fun d => decide (timeD d < t)) (fun d => .v (.int (timeD d))) trivial (by rw [List.length_map]; have := g.len; omega) (fun d hd => ?_), lc_pure_end ?_⟩⟩)
  · obtain ⟨x, hx, rfl⟩ := List.mem_map.mp hd
    intro s0 H0 C cl0 fp
    refine xg_tup (xgs_cons (xg_name 3 (xgs_cons (xg_name 4 (xgs_cons (xg_name 5 (xgs_nil ?_)))))))
    intro s1 H1 C1 cl1 fp1
    refine xts_one (xt_cmp (xe_var 3 rfl (xe_var 1 rfl (od_lt ⟨_, rfl, rfl, fun _ => ?_, fun _ => rfl⟩))))
    intro s2 H2 C2 cl2 fp2
    exact xe_var 3 rfl ⟨rfl, rfl⟩
  · refine xa_nil (cd_len .of (od_sub ?_))
    have e : ((((r :: V').map rdD).filter fun d => decide (timeD d < t)).map fun d => D.v (.int (timeD d))).length = ((r :: V').filter fun r => decide ((r.1 : Int) < t)).length := by
      rw [List.length_map, List.filter_map, List.length_map]; rfl
    rw [e]
    exact q
end
end Mm
end
section
set_option maxHeartbeats 2000000
/-! W4: View.held; Fit's small methods. -/
namespace Mm
open PySem PySem.Spec PyProof.Rows L2 Dl
section
variable {P : Program} {w : World} {K : PySem.W.Frag} {mg : Str → Option Value} {base : Heap} {CV CF : Addr}
abbrev sHd : Stmt := inClass (topS 8) 5
def wHd (CV : Addr) : Wp := fun ds M Q => ∃ V, ds = [vObj CV V] ∧ GoodV V ∧ Q (.dct (heldK (heldOf (rowsOf V)))) M
abbrev nHd : List Str := ["self", "found", "place", "key", "value"]
theorem scHd : FnScope nHd ["self"] (defScope sHd) := ⟨rfl, rfl, rfl, by decide +kernel, rfl, by decide +kernel, by decide +kernel⟩
theorem optD_non (o : Option Int) : isNonD (optD o) = !o.isSome := by cases o <;> rfl
theorem ok_hd (T : Txt K mg CV CF) (It : CalI P w K mg base 1 CV nsV 3) (Df : DefM K CV "held" "View.held" sHd) : CalM P w K mg base 2 CV "held" (wHd CV) := by
  refine CalM.mk' Df scHd (fun _ _ _ _ _ _ us hl => match us, hl with | [_], _ => rfl) (fun ds M QD h => by obtain ⟨_, rfl, _⟩ := h; rfl) fun f cdv A outer s H hr ds M QD h => ?_
  obtain ⟨V, rfl, g, q⟩ := h
  have hN := scHd.nd
  have hu := hu_of hr
  refine xss_cons (xs_set 1 (xe_dctM fun fl => ?_))
  refine xss_cons (xs_for [2, 3, 4] (xi_val (xe_var 0 rfl (idt_own It hr (rows := (rowsOf V).map pairKv) rfl ⟨fun n ρ' M' => (∃ d2 d3 d4, ρ' = [some (vObj CV V), some (.v (.ref fl)), d2, d3, d4]) ∧ M' = (fl, MO.dct (heldK (heldOf ((rowsOf V).take n)))) :: M,
    ⟨⟨_, _, _, rfl⟩, rfl⟩, fun _ _ _ _ _ => trivial, ?_, ?_⟩))))
  · rintro n d ρ' M' hd ⟨⟨d2, d3, d4, rfl⟩, rfl⟩
    rw [List.getElem?_map] at hd
    cases hVn : (rowsOf V)[n]? with
    | none => rw [hVn] at hd; cases hd
    | some r =>
      rw [hVn] at hd
      cases hd
      have hstep : heldOf ((rowsOf V).take (n + 1)) = heldF (heldOf ((rowsOf V).take n)) r := by
        unfold heldOf
        rw [List.take_succ, hVn, List.foldl_append]; rfl
      have hlen : (heldOf ((rowsOf V).take n)).length < 40000 := by
        have h1 := held_len ((rowsOf V).take n) []
        rw [List.length_take] at h1
        have h2 := g.small
        have : (heldOf ((rowsOf V).take n)).length ≤ 0 + min n (rowsOf V).length := h1
        omega
      refine xg_tup (xgs_cons (xg_name 2 (xgs_cons (xg_tup (xgs_cons (xg_name 3 (xgs_cons (xg_name 4 (xgs_nil (xgs_nil ?_))))))))))
      have key : ∀ d, valD (heldK (heldOf ((rowsOf V).take n))) (Sum.inr r.2.1) = d → (if d.isSome then dropD (heldK (heldOf ((rowsOf V).take n))) (Sum.inr r.2.1) else heldK (heldOf ((rowsOf V).take n))) = heldK ((heldOf ((rowsOf V).take n)).filter fun z => decide (z.1 ≠ r.2.1)) := fun d hd => by
        rw [← dropD_held]
        cases d with
        | none => exact (valD_none_of hd).symm
        | some d => rfl
      refine xss_cons (xs_expr (xe_pop2 0 (xe_var 1 rfl ⟨fl, _, rfl, .m 0 rfl, xe_var 3 rfl (xe_non ⟨Sum.inr r.2.1, _, _, rfl, rfl, rfl, fun d hd => ?_, fun hd => ?_⟩)⟩)))
      · have e := key _ hd
        simp only [Option.isSome_some, if_true] at e
        show XSs _ _ _ ((fl, MO.dct (dropD (heldK (heldOf ((rowsOf V).take n))) (Sum.inr r.2.1))) :: M) _
        rw [e]
        refine xss_one (xs_if (xt_cmp (xe_var 4 rfl (xe_non (od_notN ⟨_, rfl, ?_, ?_⟩)))))
        · intro hz
          rw [optD_non, Bool.not_not] at hz
          refine xss_one (xs_asg [] (xe_var 2 rfl (xg_sub (xe_var 1 rfl (xe_var 3 rfl (sd_dct 0 (k := Sum.inr r.2.1) rfl hu rfl ?_ ?_))))))
          · rw [heldK, List.length_map]
            have := List.length_filter_le (fun z : Str × Nat => decide (z.1 ≠ r.2.1)) (heldOf ((rowsOf V).take n))
            omega
          · refine ⟨⟨_, _, _, rfl⟩, ?_⟩
            rw [hstep, heldF, if_pos hz, ← putD_held _ _ _ (fun z hz => by simpa using (List.mem_filter.mp hz).2)]
            rfl
        · intro hz
          rw [optD_non, Bool.not_not] at hz
          refine xss_nil ⟨⟨_, _, _, rfl⟩, ?_⟩
          rw [hstep, heldF, if_neg (by rw [hz]; exact Bool.false_ne_true)]
      · have e := key _ hd
        simp only [Option.isSome_none, Bool.false_eq_true, if_false] at e
        show XSs _ _ _ ((fl, MO.dct (heldK (heldOf ((rowsOf V).take n)))) :: M) _
        rw [e]
        refine xss_one (xs_if (xt_cmp (xe_var 4 rfl (xe_non (od_notN ⟨_, rfl, ?_, ?_⟩)))))
        · intro hz
          rw [optD_non, Bool.not_not] at hz
          refine xss_one (xs_asg [] (xe_var 2 rfl (xg_sub (xe_var 1 rfl (xe_var 3 rfl (sd_dct 0 (k := Sum.inr r.2.1) rfl hu rfl ?_ ?_))))))
          · rw [heldK, List.length_map]
            have := List.length_filter_le (fun z : Str × Nat => decide (z.1 ≠ r.2.1)) (heldOf ((rowsOf V).take n))
            omega
          · refine ⟨⟨_, _, _, rfl⟩, ?_⟩
            rw [hstep, heldF, if_pos hz, ← putD_held _ _ _ (fun z hz => by simpa using (List.mem_filter.mp hz).2)]
            rfl
        · intro hz
          rw [optD_non, Bool.not_not] at hz
          refine xss_nil ⟨⟨_, _, _, rfl⟩, ?_⟩
          rw [hstep, heldF, if_neg (by rw [hz]; exact Bool.false_ne_true)]
  · rintro ρ' M' ⟨⟨d2, d3, d4, rfl⟩, rfl⟩
    rw [List.length_map, List.take_length]
    exact xss_one (xs_ret (xe_frzK (xe_var 1 rfl ⟨_, _, _, rfl, rfl, q⟩)))
end
end Mm
end
section
set_option maxHeartbeats 2000000
/-! W5: Fit's small methods. -/
namespace Mm
open PySem PySem.Spec PyProof.Rows L2 Dl
abbrev Kn := List (Nat × Str)
def knK (kn : Kn) : List (Key × D) := kn.map fun z => (Sum.inl (z.1 : Int), .v (.str z.2))
def lookN (kn : Kn) (q : Nat) : Option Str := (kn.find? fun z => decide (z.1 = q)).map (·.2)
def laterOf (kn : Kn) (p : Nat) (k : Str) : List Nat := (kn.map (·.1)).filter fun q => decide (p < q) && decide (lookN kn q = some k)
def minN : List Nat → Option Nat
  | [] => none
  | a :: l => some (match minN l with | none => a | some b => min a b)
def optN : Option Nat → D
  | none => .v .non
  | some n => intD n
abbrev ptD (a : Int × Int) : D := .tup [.v (.int a.1), .v (.int a.2)]
def tm (V : List Rr) (p : Nat) : Nat := ((tms V)[p]?).getD 0
def canB (V : List Rr) (lows highs : List (Int × Int)) : Bool := lows.all fun a => !(decide (a.1 < 0) || decide (manyAt V a.1 < a.2)) && !(highs.any fun b => decide (a.1 ≤ b.1) && decide (b.2 < a.2))
theorem minN_of {l : List Nat} {m : Nat} (h1 : m ∈ l) (h2 : ∀ y ∈ l, m ≤ y) : minN l = some m := by
  have mem : ∀ {l : List Nat} {b : Nat}, minN l = some b → b ∈ l ∧ ∀ y ∈ l, b ≤ y := by
    intro l
    induction l with
    | nil => intro b h; cases h
    | cons a l ih =>
      intro b h
      unfold minN at h
      cases q : minN l with
      | none =>
        rw [q] at h
        have e : a = b := Option.some.inj h
        subst e
        cases l with
        | nil => exact ⟨List.mem_cons_self, fun y hy => by simp at hy; omega⟩
        | cons c l => unfold minN at q; cases q
      | some c =>
        rw [q] at h
        obtain ⟨h3, h4⟩ := ih q
        have e : min a c = b := Option.some.inj h
        refine ⟨?_, fun y hy => ?_⟩
        · rcases Nat.le_total a c with h | h
          · rw [← e, Nat.min_eq_left h]; exact List.mem_cons_self
          · rw [← e, Nat.min_eq_right h]; exact List.mem_cons_of_mem _ h3
        · rcases List.mem_cons.mp hy with rfl | hy
          · omega
          · have := h4 y hy; omega
  cases q : minN l with
  | none =>
    cases l with
    | nil => cases h1
    | cons a l => unfold minN at q; cases q
  | some b =>
    obtain ⟨h3, h4⟩ := mem q
    have := h2 b h3
    have := h4 m h1
    have : b = m := by omega
    rw [this]
theorem minN_none {l : List Nat} : minN l = none ↔ l = [] := by
  cases l with
  | nil => simp [minN]
  | cons a l => simp [minN]
theorem valD_knK (kn : Kn) (q : Nat) : valD (knK kn) (Sum.inl (q : Int)) = (lookN kn q).map fun s => .v (.str s) := by
  induction kn with
  | nil => rfl
  | cons z kn ih =>
    show valD ((Sum.inl (z.1 : Int), .v (.str z.2)) :: knK kn) _ = _
    rw [valD_cons]
    unfold lookN
    rw [List.find?_cons]
    by_cases h : z.1 = q
    · subst h; simp
    · have : ¬ (Sum.inl (z.1 : Int) : Key) = Sum.inl (q : Int) := fun e => h (by have := Sum.inl.inj e; omega)
      rw [if_neg this, ih]
      simp [h, lookN]
theorem lookN_mem {kn : Kn} {q : Nat} (h : q ∈ kn.map (·.1)) : ∃ s, lookN kn q = some s := by
  obtain ⟨z, hz, rfl⟩ := List.mem_map.mp h
  unfold lookN
  cases e : kn.find? (fun y => decide (y.1 = z.1)) with
  | none =>
    rw [List.find?_eq_none] at e
    exact absurd (e z hz) (by simp)
  | some y => exact ⟨y.2, rfl⟩
section
variable {P : Program} {w : World} {K : PySem.W.Frag} {mg : Str → Option Value} {base : Heap} {CV CF : Addr}
/-- a Fit, made or in the making, that has its first fields -/
structure FitS (CV CF : Addr) (M : Mem) (d : D) (ns : List Str) (fs : List D) (n : Nat) : Prop where
  sees : SeesO M d CF ns fs
  nd : ns.Nodup
  at_ : ∀ j, j < n → ns[j]? = nsF[j]?
theorem xe_fs {X : Cx} (T : Txt X.K mg CV CF) (j : Nat) {e : Expr} {ρ : Dl.Env} {M : Mem} {Q : KE} {pos : Pos} {f : Str} (h : XE X e ρ M fun d1 M1 => ∃ ns ds n d, FitS CV CF M1 d1 ns ds n ∧ j < n ∧ ds[j]? = some d ∧ Q d M1) (hn : nsF[j]? = some f := by rfl)
    (hb : attributeBase e f X.env (eval e X.env) = eval e X.env := by rfl) : XE X (.Attribute e f pos) ρ M Q :=
  xe_fld j (h.mono fun d1 M1 q => by
    obtain ⟨ns, ds, n, d, so, hj, hd, q⟩ := q
    exact ⟨CF, ns, ds, d, so.sees, T.clF, T.naF _ (List.mem_of_getElem? hn), so.nd, (so.at_ j hj).trans hn, hd, q⟩) hb
/-! ### next_of -/
abbrev sNx : Stmt := inClass (topS 9) 1
def wNx (CV CF : Addr) : Wp := fun ds M Q => ∃ d0 ns fs n kn k p, ds = [d0, .v (.str k), intD p] ∧ FitS CV CF M d0 ns fs n ∧ 2 < n ∧ fs[2]? = some (.dct (knK kn)) ∧ kn.length < 50000 ∧ Q (optN (minN (laterOf kn p k))) M
abbrev nNx : List Str := ["self", "key", "place", "found", "other"]
theorem scNx : FnScope nNx ["self", "key", "place"] (defScope sNx) := ⟨rfl, rfl, rfl, by decide +kernel, rfl, by decide +kernel, by decide +kernel⟩
theorem int_cast0 (p : Nat) : natD (intD p) = p := by show ((p : Int)).toNat = p; omega
theorem ok_nx (T : Txt K mg CV CF) (Df : DefM K CF "next_of" "Fit.next_of" sNx) : CalM P w K mg base 1 CF "next_of" (wNx CV CF) := by
  refine CalM.mk' Df scNx (fun _ _ _ _ _ _ us hl => match us, hl with | [_, _, _], _ => rfl) (fun ds M QD h => by obtain ⟨_, _, _, _, _, _, _, rfl, _⟩ := h; rfl) fun f cdv A outer s H hr ds M QD h => ?_
  obtain ⟨d0, ns, fs, n, kn, k, p, rfl, fS, h2, hk, hz, q⟩ := h
  have hN := scNx.nd
  have fr := T.free
  have hu : ∀ {Y : Cx}, Y.A = (cxB P w K mg base nNx "Fit.next_of" sNx f cdv A outer s H).A → Y.A.units + 1 < cLine := fun {Y} e => by
    rw [e]
    have := hr.units
    omega
  refine xss_cons (xs_setLc 3 [("other", 4)] (xi_val (xe_fs (mg := mg) (CV := CV) T 2 (xe_var 0 rfl ⟨_, _, _, _, fS, h2, hk, idt_keys ⟨_, ⟨rfl, rfl⟩, lc_pure (M := M) (fun d => decide (p < natD d) && decide (lookN kn (natD d) = some k)) id trivial (by rw [List.length_map, knK, List.length_map]; omega) (fun d hd => ?_), lc_pure_end ?_⟩⟩))) (blkOk_by (by rfl)) (by rfl))
  · obtain ⟨z, hz', rfl⟩ := List.mem_map.mp hd
    obtain ⟨x, hx, rfl⟩ := List.mem_map.mp hz'
    intro s0 H0 C cl0 fp
    refine xg_name 4 ?_
    intro s1 H1 C1 cl1 fp1
    obtain ⟨v, hv⟩ := lookN_mem (q := x.1) (List.mem_map.mpr ⟨x, hx, rfl⟩)
    have e1 : natD (.v (kV (Sum.inl (x.1 : Int)))) = x.1 := int_cast0 x.1
    refine xts_one (XW.t (xw_and (xt_cmp (xe_var 4 rfl (xe_var 2 rfl (od_gt ⟨_, rfl, fun hc => ?_, fun hc => ?_⟩))))))
    · refine xw_and1 (xt_cmp (xe_ix (xe_fs (mg := mg) (CV := CV) T 2 (xe_var 0 rfl ⟨_, _, _, _, fS, h2, hk, xe_var 4 rfl (id_dct (k := Sum.inl (x.1 : Int)) (hu rfl) .of rfl (by rw [valD_knK, hv]; rfl) ?_)⟩))))
      refine xe_var 1 rfl (od_eq rfl ⟨_, rfl, ?_, fun _ => ?_, fun _ => rfl⟩)
      · rw [e1, hv]
        have : p < x.1 := by
          have := of_decide_eq_true hc
          omega
        by_cases h : v = k
        · subst h; simp [this]
        · have h' : ¬ (V.str v = V.str k) := fun e => h (by injection e)
          simp [h, h', this]
      · intro s2 H2 C2 cl2 fp2
        exact xe_var 4 rfl ⟨rfl, rfl⟩
    · have : ¬ p < x.1 := by
        have := of_decide_eq_false hc
        omega
      refine ⟨?_, fun z => ?_, fun _ => rfl⟩
      · rw [e1]; simp [this]
      · rw [e1] at z; simp [this] at z
  · have e : (((knK kn).map fun kv => D.v (kV kv.1)).filter fun d => decide (p < natD d) && decide (lookN kn (natD d) = some k)).map id = (laterOf kn p k).map intD := by
      rw [List.map_id, knK, List.map_map, laterOf, List.filter_map, List.filter_map, List.map_map]
      congr 1
    rw [e]
    refine xss_one (xs_ret (xe_if (xt_cmp (xe_callB (id := "len") (xa_cons (xe_var 3 rfl (xa_nil (cd_len .of (xe_int (od_gt ⟨_, rfl, fun hc => ?_, fun hc => ?_⟩)))))) (fr _ (by decide +kernel)) (by decide +kernel)))))
    · have hpos : 0 < (laterOf kn p k).length := by
        have := of_decide_eq_true hc
        rw [List.length_map] at this
        omega
      refine xe_callB (id := "min") (xa_cons (xe_var 3 rfl (xa_nil (cd_min (ns := (laterOf kn p k).map fun (i : Nat) => (i : Int)) (by rw [List.map_map]; exact .of) (by rw [List.length_map]; exact hpos) fun m hm hle => ?_)))) (fr _ (by decide +kernel)) (by decide +kernel)
      obtain ⟨j, hj, rfl⟩ := List.mem_map.mp hm
      rw [minN_of hj fun y hy => by
        have := hle (y : Int) (List.mem_map.mpr ⟨y, hy, rfl⟩)
        omega] at q
      exact q
    · have : laterOf kn p k = [] := by
        have := of_decide_eq_false hc
        rw [List.length_map] at this
        exact List.length_eq_zero_iff.mp (by omega)
      rw [this] at q
      exact xe_non q
/-! ### aged -/
abbrev sAg : Stmt := inClass (topS 9) 2
def wAg (CV CF : Addr) : Wp := fun ds M Q => ∃ d0 ns fs n V h p, ds = [d0, intD p] ∧ FitS CV CF M d0 ns fs n ∧ 1 < n ∧ fs[0]? = some (vObj CV V) ∧ fs[1]? = some (.v (.int h)) ∧ p < (tms V).length ∧ Q (ptD ((tm V p : Int) - h, (p : Int) + 1)) M
theorem scAg : FnScope ["self", "place"] ["self", "place"] (defScope sAg) := ⟨rfl, rfl, rfl, by decide +kernel, rfl, by decide +kernel, by decide +kernel⟩
theorem tm_at {V : List Rr} {p : Nat} (h : p < (tms V).length) : atI ((tms V).map intD) (p : Int) = some (intD (tm V p)) := by
  refine atI_nat ?_
  rw [List.getElem?_map, List.getElem?_eq_getElem h]
  show some (intD (tms V)[p]) = _
  unfold tm
  rw [List.getElem?_eq_getElem h]; rfl
theorem ok_ag (T : Txt K mg CV CF) (Rt : CalM P w K mg base 1 CV "read_time" (wRT CV)) (Df : DefM K CF "aged" "Fit.aged" sAg) : CalM P w K mg base 2 CF "aged" (wAg CV CF) := by
  refine CalM.mk' Df scAg (fun _ _ _ _ _ _ us hl => match us, hl with | [_, _], _ => rfl) (fun ds M QD h => by obtain ⟨_, _, _, _, _, _, _, rfl, _⟩ := h; rfl) fun f cdv A outer s H hr ds M QD h => ?_
  obtain ⟨d0, ns, fs, n, V, hh, p, rfl, fS, h2, hv, hd, hp, q⟩ := h
  have hN := scAg.nd
  refine xss_one (xs_ret (xe_tup (xa_cons (xe_bin (xe_mth Rt T.clV hr (xe_fs (mg := mg) (CV := CV) T 0 (xe_var 0 rfl ⟨_, _, _, _, fS, by omega, hv, nsV, _, .of, by decide, xa_cons (xe_var 1 rfl (xa_nil ⟨_, _, _, _, _, _, rfl, tm_at hp, ?_⟩))⟩)))))))
  refine xe_fs (mg := mg) (CV := CV) T 1 (xe_var 0 rfl ⟨_, _, _, _, fS, h2, hd, od_sub (xa_cons (xe_bin (xe_var 1 rfl (xe_int (od_add (xa_nil ⟨Nat.le_of_ble_eq_true rfl, q⟩))))))⟩)
/-! ### can_be -/
abbrev sCB : Stmt := inClass (topS 9) 3
def wCB (CV CF : Addr) : Wp := fun ds M Q => ∃ d0 ns fs n V lows highs, ds = [d0, .lst (lows.map ptD), .lst (highs.map ptD)] ∧ FitS CV CF M d0 ns fs n ∧ 0 < n ∧ fs[0]? = some (vObj CV V) ∧ GoodV V ∧ V ≠ [] ∧ lows.length < 50000 ∧ highs.length < 50000 ∧ Q (.v (.bl (canB V lows highs))) M
abbrev nCB : List Str := ["self", "lows", "highs", "time", "point", "end", "limit"]
theorem scCB : FnScope nCB ["self", "lows", "highs"] (defScope sCB) := ⟨rfl, rfl, rfl, by decide +kernel, rfl, by decide +kernel, by decide +kernel⟩
def p1 : D → Int
  | .tup [.v (.int a), _] => a
  | _ => 0
def p2 : D → Int
  | .tup [_, .v (.int a)] => a
  | _ => 0
theorem ok_cb (T : Txt K mg CV CF) (Ma : CalM P w K mg base 1 CV "many_at" (wMA CV)) (Df : DefM K CF "can_be" "Fit.can_be" sCB) : CalM P w K mg base 2 CF "can_be" (wCB CV CF) := by
  refine CalM.mk' Df scCB (fun _ _ _ _ _ _ us hl => match us, hl with | [_, _, _], _ => rfl) (fun ds M QD h => by obtain ⟨_, _, _, _, _, _, _, rfl, _⟩ := h; rfl) fun f cdv A outer s H hr ds M QD h => ?_
  obtain ⟨d0, ns, fs, n, V, lows, highs, rfl, fS, h2, hv, g, hne, hl, hh, q⟩ := h
  have hN := scCB.nd
  have fr := T.free
  refine xss_cons (xs_for [3, 4] (xi_val (xe_var 1 rfl (idt_lst ⟨fun i ρ' M' => (∃ d3 d4, ρ' = [some d0, some (.lst (lows.map ptD)), some (.lst (highs.map ptD)), d3, d4, none, none]) ∧ M' = M ∧ canB V (lows.take i) highs = true, ⟨⟨_, _, rfl⟩, rfl, rfl⟩, fun _ _ _ _ _ => trivial, ?_, ?_⟩))))
  · rintro i d ρ' M' hd ⟨⟨d3, d4, rfl⟩, rfl, hc⟩
    rw [List.getElem?_map] at hd
    cases hi : lows[i]? with
    | none => rw [hi] at hd; cases hd
    | some a =>
      rw [hi] at hd
      cases hd
      have ham : a ∈ lows := List.mem_of_getElem? hi
      have bad : (!(decide (a.1 < 0) || decide (manyAt V a.1 < a.2)) && !(highs.any fun b => decide (a.1 ≤ b.1) && decide (b.2 < a.2))) = false → canB V lows highs = false := fun h => by
        unfold canB
        rw [List.all_eq_false]
        exact ⟨a, ham, by rw [h]; exact Bool.false_ne_true⟩
      have good : (!(decide (a.1 < 0) || decide (manyAt V a.1 < a.2)) && !(highs.any fun b => decide (a.1 ≤ b.1) && decide (b.2 < a.2))) = true → canB V (lows.take (i + 1)) highs = true := fun h => by
        unfold canB at hc ⊢
        have e : lows.take (i + 1) = lows.take i ++ [a] := by rw [List.take_succ, hi]; rfl
        rw [e, List.all_append, hc, List.all_cons, h]; rfl
      refine xg_tup (xgs_cons (xg_name 3 (xgs_cons (xg_name 4 (xgs_nil ?_)))))
      refine xss_cons (xs_if (XW.t (xw_or (xt_cmp (xe_var 3 rfl (xe_int (od_lt ⟨_, rfl, fun h1 => ⟨fun _ => ?_, fun z => (by cases z)⟩, fun h1 => ?_⟩)))))))
      · refine xss_one (xs_ret (xe_bl ?_))
        rw [bad (by rw [h1]; rfl)] at q
        exact q
      · refine xw_or1 (xt_cmp (xe_var 4 rfl (xe_mth Ma T.clV hr (xe_fs (mg := mg) (CV := CV) T 0 (xe_var 0 rfl ⟨_, _, _, _, fS, h2, hv, nsV, _, .of, by decide, xa_cons (xe_var 3 rfl (xa_nil ⟨_, _, rfl, g, hne, od_gt ⟨_, rfl, ⟨fun h3 => ?_, fun h3 => ?_⟩⟩⟩))⟩)))))
        · refine xss_one (xs_ret (xe_bl ?_))
          rw [bad (by rw [h3]; simp)] at q
          exact q
        · refine xss_nil (xss_cons (xs_if (xt_val (xe_callB (id := "any") (xa_cons ?_) (fr _ (by decide +kernel)) (by decide +kernel)))))
          refine xe_lc [("end", 5), ("limit", 6)] (xi_val (xe_var 2 rfl (idt_lst ⟨_, ⟨rfl, rfl⟩, lc_pure (M := M') (fun d => decide (a.1 ≤ p1 d)) (fun d => .v (.bl (decide (p2 d < a.2)))) trivial (by rw [List.length_map]; omega) (fun d hd => ?_), lc_pure_end ?_⟩))) (blkOk_by (by rfl))
          · obtain ⟨b, hb, rfl⟩ := List.mem_map.mp hd
            intro s0 H0 C cl0 fp
            refine xg_tup (xgs_cons (xg_name 5 (xgs_cons (xg_name 6 (xgs_nil ?_)))))
            intro s1 H1 C1 cl1 fp1
            refine xts_one (xt_cmp (xe_var 5 rfl (xe_var 3 rfl (od_ge ⟨_, rfl, rfl, fun _ => ?_, fun _ => rfl⟩))))
            intro s2 H2 C2 cl2 fp2
            exact xe_cmp (xe_var 6 rfl (xe_var 4 rfl (od_lt ⟨rfl, rfl⟩)))
          · have e : ((highs.map ptD).filter fun d => decide (a.1 ≤ p1 d)).map (fun d => D.v (.bl (decide (p2 d < a.2)))) = ((highs.filter fun b => decide (a.1 ≤ b.1)).map fun b => decide (b.2 < a.2)).map fun b => D.v (.bl b) := by
              rw [List.filter_map, List.map_map, List.map_map]; rfl
            rw [e]
            have e2 : ((highs.filter fun b => decide (a.1 ≤ b.1)).map fun b => decide (b.2 < a.2)).any id = highs.any fun b => decide (a.1 ≤ b.1) && decide (b.2 < a.2) := by
              rw [List.any_map, List.any_filter]; rfl
            refine xa_nil (cd_any .of ⟨_, rfl, ⟨fun h4 => ?_, fun h4 => ?_⟩⟩)
            · rw [e2] at h4
              refine xss_one (xs_ret (xe_bl ?_))
              rw [bad (by rw [h4]; simp)] at q
              exact q
            · rw [e2] at h4
              exact xss_nil (xss_nil ⟨⟨_, _, rfl⟩, rfl, good (by rw [h1, h3, h4]; rfl)⟩)
  · rintro ρ' M' ⟨⟨d3, d4, rfl⟩, rfl, hc⟩
    rw [List.length_map, List.take_length] at hc
    rw [hc] at q
    exact xss_one (xs_ret (xe_bl q))
end
end Mm
end
section
set_option maxHeartbeats 2000000
/-! W6: Fit.shared, Fit(..). -/
namespace Mm
open PySem PySem.Spec PyProof.Rows L2 Dl
def knOf (V : List Rr) (ms : Kn) : Kn := (rowsOf V).map (fun r => (r.1, r.2.1)) ++ ms
def hiOf (V : List Rr) (h : Int) (kn : Kn) (r : Rw) : List (Int × Int) :=
  (match minN (laterOf kn r.1 r.2.1) with | some l => [((tm V r.1 : Int), (l : Int))] | none => []) ++ (if r.2.2 = none then [((tm V r.1 : Int) - h, (r.1 : Int))] else [])
def highsOf (V : List Rr) (h : Int) (kn : Kn) : List (Int × Int) := (rowsOf V).flatMap (hiOf V h kn)
def agedOf (V : List Rr) (h : Int) (p : Nat) : Int × Int := ((tm V p : Int) - h, (p : Int) + 1)
def lowsOf (V : List Rr) (h : Int) (ms : Kn) : List (Int × Int) := ms.map fun z => agedOf V h z.1
def leftOf (V : List Rr) (ms : Kn) : List Nat := ((gapsOf V).filter fun p => decide (p ∉ ms.map (·.1))).reverse
theorem eqV_str (x y : Str) : eqV (.str x) (.str y) = decide (x = y) := by
  first | rfl | (unfold eqV; simp) | (unfold eqV; by_cases h : x = y <;> simp [h])
theorem inV_strs (x : Str) (ks : List Str) : inV (.str x) (ks.map V.str) = decide (x ∈ ks) := by
  induction ks with
  | nil => rfl
  | cons k ks ih =>
    unfold inV at ih ⊢
    rw [List.map_cons, List.any_cons, ih, eqV_str]
    by_cases h : k = x
    · subst h; simp
    · simp [h, Ne.symm h]
theorem flat_strs (ks : List Str) : (ks.map V.str).all flatV = true := by
  rw [List.all_map, List.all_eq_true]
  intro x _; rfl
def strD : D → Str
  | .v (.str x) => x
  | _ => ⟨#[]⟩
/-- a list that is not changed any more, put into the instance at k -/
theorem adj_lst {a i C dx : Addr} {zs : List D} {ns : List Str} {ds : List D} {M : Mem} (k j : Nat) (hk : M[k]? = some (i, .ins C dx ns ds)) (hj : ds[j]? = some (.v (.ref a))) : Adj ((a, .lst zs) :: M) (M.set k (i, .ins C dx ns (ds.set j (.lst zs)))) := fun F H s => by
  obtain ⟨hF, xs, e, ra⟩ := s.mem _ List.mem_cons_self
  obtain ⟨s2, st2⟩ := s.freeze e
  have rD : Rp (upd F a (.lst xs)) (.ref a) (.lst zs) := .lst upd_same (ra.mono st2.ex)
  have em := map_set (m := .ins C dx ns (ds.set j (.lst zs))) hk
  refine ⟨upd F a (.lst xs), ⟨s2.le, fun q hq => ?_, by rw [em]; exact s2.nd⟩, ⟨st2.ex, st2.kn, st2.fr, st2.st, fun b hb => st2.mo b (by rw [em] at hb; exact hb)⟩⟩
  obtain ⟨t, ht⟩ := List.mem_iff_getElem?.mp hq
  by_cases h : k = t
  · subst h
    rw [List.getElem?_set_self (List.getElem?_eq_some_iff.mp hk).1] at ht
    cases ht
    obtain ⟨h1, ys, h2, h3, h4⟩ := s2.at hk
    refine ⟨h1, ys, h2, ?_, by simpa using h4⟩
    obtain ⟨y, hy, ry⟩ := h3.get hj
    cases ry
    have q := h3.set rD j
    have : ys.set j (.ref a) = ys := by
      apply List.ext_getElem?
      intro t
      by_cases h : j = t
      · subst h; rw [List.getElem?_set_self (List.getElem?_eq_some_iff.mp hy).1, hy]
      · rw [List.getElem?_set_ne h]
    rwa [this] at q
  · rw [List.getElem?_set_ne h] at ht
    exact s2.mem q (List.mem_of_getElem? ht)
theorem knK_merge {a b : Kn} (h : ((a ++ b).map (·.1)).Nodup) : mergeD (knK a) (knK b) = knK (a ++ b) := by
  rw [List.map_append, List.nodup_append] at h
  rw [mergeD_new]
  · unfold knK; rw [List.map_append]
  · intro p hp q hq e
    obtain ⟨x, hx, rfl⟩ := List.mem_map.mp hp
    obtain ⟨y, hy, rfl⟩ := List.mem_map.mp hq
    have e' : (Sum.inl (x.1 : Int) : Key) = Sum.inl (y.1 : Int) := e
    have : x.1 = y.1 := by have := Sum.inl.inj e'; omega
    exact h.2.2 x.1 (List.mem_map.mpr ⟨x, hx, rfl⟩) y.1 (List.mem_map.mpr ⟨y, hy, rfl⟩) this
  · unfold knK
    rw [List.map_map]
    have e : ((fun x : Key × D => x.1) ∘ fun z : Nat × Str => ((Sum.inl (z.1 : Int) : Key), D.v (.str z.2))) = (fun n : Nat => (Sum.inl (n : Int) : Key)) ∘ (·.1) := rfl
    rw [e, ← List.map_map, List.Nodup, List.pairwise_map]
    exact h.2.1.imp fun {x y} hxy e => hxy (by have := Sum.inl.inj e; omega)
theorem xss_mid {X : Cx} {st : Stmt} {sts : List Stmt} {ρ : Dl.Env} {M : Mem} {E : EndsD} (Mid : Dl.Env → Mem → Prop) (h : XS X st ρ M { E with nx := Mid }) (k : ∀ ρ' M', Mid ρ' M' → XSs X sts ρ' M' E) : XSs X (st :: sts) ρ M E :=
  xss_cons (h.mono k (fun _ _ q => q) (fun _ _ q => q) fun _ _ q => q)
theorem hi_small (V : List Rr) (h : Int) (kn : Kn) (rs : List Rw) : (rs.flatMap (hiOf V h kn)).length ≤ 2 * rs.length := by
  induction rs with
  | nil => simp
  | cons r rs ih =>
    rw [List.flatMap_cons, List.length_append, List.length_cons]
    have : (hiOf V h kn r).length ≤ 2 := by
      unfold hiOf
      rw [List.length_append]
      cases minN (laterOf kn r.1 r.2.1) <;> by_cases h : r.2.2 = none <;> simp [h]
    omega
structure GoodF (V : List Rr) (ms : Kn) : Prop where
  v : GoodV V
  inV : ∀ r ∈ rowsOf V, r.1 < (tms V).length
  ne : V ≠ []
  mi : ∀ z ∈ ms, z.1 < (tms V).length
  nd : ((knOf V ms).map (·.1)).Nodup
  few : ms.length < 10
theorem GoodF.small {V : List Rr} {ms : Kn} (g : GoodF V ms) : (knOf V ms).length < 41000 := by
  have := g.v.small
  have := g.few
  unfold knOf
  rw [List.length_append, List.length_map]
  omega
section
variable {P : Program} {w : World} {K : PySem.W.Frag} {mg : Str → Option Value} {base : Heap} {CV CF : Addr}
abbrev sSh : Stmt := inClass (topS 9) 4
def wSh (CV CF : Addr) : Wp := fun ds M Q => ∃ d0 ns fs n kn, ds = [d0] ∧ FitS CV CF M d0 ns fs n ∧ 2 < n ∧ fs[2]? = some (.dct (knK kn)) ∧ kn.length < 50000 ∧ ("x" : Str) ∉ kn.map (·.2) ∧ Q (.v (.str "x")) M
abbrev nSh : List Str := ["self", "letters", "letter"]
theorem scSh : FnScope nSh ["self"] (defScope sSh) := ⟨rfl, rfl, rfl, by decide +kernel, rfl, by decide +kernel, by decide +kernel⟩
theorem ok_sh (T : Txt K mg CV CF) (Df : DefM K CF "shared" "Fit.shared" sSh) : CalM P w K mg base 1 CF "shared" (wSh CV CF) := by
  refine CalM.mk' Df scSh (fun _ _ _ _ _ _ us hl => match us, hl with | [_], _ => rfl) (fun ds M QD h => by obtain ⟨_, _, _, _, _, rfl, _⟩ := h; rfl) fun f cdv A outer s H hr ds M QD h => ?_
  obtain ⟨d0, ns, fs, n, kn, rfl, fS, h2, hk, hz, hx, q⟩ := h
  have hN := scSh.nd
  have fr := T.free
  refine xss_cons (xs_set 1 (xe_str ?_))
  refine xss_one (xs_ret (xe_ix (xe_lc [("letter", 2)] (xi_val (xe_var 1 rfl (idt_str ⟨_, ⟨rfl, rfl⟩, lc_pure (M := M) (fun d => !decide (strD d ∈ kn.map (·.2))) id trivial ?_ (fun d hd => ?_), lc_pure_end ?_⟩))) (blkOk_by (by rfl)))))
  · rw [List.length_map]
    exact Nat.le_of_ble_eq_true (by rfl)
  · obtain ⟨c, hc, rfl⟩ := List.mem_map.mp hd
    intro s0 H0 C cl0 fp
    refine xg_name 2 ?_
    intro s1 H1 C1 cl1 fp1
    refine xts_one (xt_cmp (xe_var 2 rfl (xe_listVals ?_ (fr _ (by decide +kernel)))))
    refine xe_fs (mg := mg) (CV := CV) T 2 (xe_var 0 rfl ⟨_, _, _, _, fS, h2, hk, knK kn, .of, ?_⟩)
    have e : (knK kn).map (fun kv => kv.2) = (((kn.map (·.2)).map V.str).map D.v) := by
      rw [knK, List.map_map, List.map_map, List.map_map]; rfl
    rw [e]
    refine od_notInL .of rfl (flat_strs _) ⟨_, rfl, by rw [inV_strs]; rfl, fun _ => ?_, fun _ => rfl⟩
    intro s2 H2 C2 cl2 fp2
    exact xe_var 2 rfl ⟨rfl, rfl⟩
  · refine xe_int (id_lst (d := .v (.str "x")) .of (atI_nat (j := 0) ?_) q)
    rw [List.map_id]
    have e : ((Str.ofString "xyzabcdefghijklmnopqrstuvw").cps.toList.map fun c => D.v (.str ⟨#[c]⟩)) = .v (.str "x") :: ((Str.ofString "xyzabcdefghijklmnopqrstuvw").cps.toList.drop 1).map fun c => D.v (.str ⟨#[c]⟩) := by rfl
    have hf : (!decide (strD (.v (.str "x")) ∈ kn.map (·.2))) = true := by
      show (!decide (("x" : Str) ∈ kn.map (·.2))) = true
      simp only [Bool.not_eq_true', decide_eq_false_iff_not]
      exact hx
    show (List.filter _ ((Str.ofString "xyzabcdefghijklmnopqrstuvw").cps.toList.map fun c => D.v (.str ⟨#[c]⟩)))[0]? = _
    rw [e, List.filter_cons, if_pos hf]
    rfl
/-! ### Fit(..) -/
abbrev sFI : Stmt := inClass (topS 9) 0
def wFI (CV CF : Addr) : Wp := fun ds M QD => ∃ V h ms i dx M0, ds = [.v (.ref i), vObj CV V, .v (.int h), .dct (knK ms)] ∧ M = (i, .ins CF dx [] []) :: M0 ∧ GoodF V ms ∧
  ∀ ka ma, QD (.v .non) ((ma, .dct (knK ms)) :: (ka, .dct (knK (knOf V ms))) :: (i, .ins CF dx nsF [vObj CV V, .v (.int h), .dct (knK (knOf V ms)), .lst ((lowsOf V h ms).map ptD), .lst ((highsOf V h (knOf V ms)).map ptD), .lst ((leftOf V ms).map intD), .v (.ref ka), .v (.ref ma)]) :: M0)
abbrev nFI : List Str := ["self", "view", "hold", "missed", "place", "key", "value", "later"]
theorem scFI : FnScope nFI ["self", "view", "hold", "missed"] (defScope sFI) := ⟨rfl, rfl, rfl, by decide +kernel, rfl, by decide +kernel, by decide +kernel⟩
def keyS : D → D
  | .tup [_, .tup [k, _]] => k
  | d => d
theorem ok_fi (T : Txt K mg CV CF) (It : CalI P w K mg base 1 CV nsV 3) (Rt : CalM P w K mg base 1 CV "read_time" (wRT CV)) (Gp : CalM P w K mg base 3 CV "gaps" (wGp CV)) (Nx : CalM P w K mg base 1 CF "next_of" (wNx CV CF)) (Ag : CalM P w K mg base 2 CF "aged" (wAg CV CF)) (Df : DefC K mg CF "Fit" "Fit.__init__" sFI) : CalC P w K mg base 5 "Fit" CF (wFI CV CF) := by
  refine CalC.mk' Df scFI (fun _ _ _ _ _ _ us hl => match us, hl with | [_, _, _, _], _ => rfl) (fun ds M QD h => by obtain ⟨_, _, _, _, _, _, rfl, _⟩ := h; rfl) fun f cdv A outer s H hr ds M QD h => ?_
  obtain ⟨V, h, ms, i, dx, M0, rfl, rfl, g, q⟩ := h
  have hN := scFI.nd
  have fr := T.free
  have cl := T.clF
  have na : ∀ f ∈ nsF, NoAttr _ CF f := T.naF
  have hr1 := hr.mono (j := 1) (by omega)
  have hr2 := hr.mono (j := 2) (by omega)
  have hr3 := hr.mono (j := 3) (by omega)
  have hu : ∀ {Y : Cx}, Y.A = (cxB P w K mg base nFI "Fit.__init__" sFI f cdv A outer s H).A → Y.A.units + 1 < cLine := fun {Y} e => by
    rw [e]
    have := hr.units
    omega
  have hsm := g.small
  have hvs := g.v.small
  refine xss_cons (xs_fld 0 (xe_var 1 rfl (xe_var 0 rfl ⟨_, _, _, _, _, rfl, rfl, cl, na _ (by decide +kernel), by decide, by decide, ?_⟩)))
  refine xss_cons (xs_fld 0 (xe_var 2 rfl (xe_var 0 rfl ⟨_, _, _, _, _, rfl, rfl, cl, na _ (by decide +kernel), by decide, by decide, ?_⟩)))
  refine xss_cons (xs_fld 1 (xe_dcM [("place", 4), ("key", 5), ("value", 6)] (xi_val (xe_var 1 rfl (idt_own It hr1 (rows := (rowsOf V).map pairKv) rfl ⟨_, ⟨rfl, rfl⟩, dc_pure keyR keyS trivial (by rw [List.length_map]; omega) (fun d hd => ?_), dc_pure_end fun kl => xe_var 0 rfl ⟨_, _, _, _, _, rfl, rfl, cl, na _ (by decide +kernel), by decide, by decide, ?_⟩⟩))) (blkOk_by (by rfl))))
  · obtain ⟨x, hx, rfl⟩ := List.mem_map.mp hd
    intro s0 H0 C cl0 fp
    refine xg_tup (xgs_cons (xg_name 4 (xgs_cons (xg_tup (xgs_cons (xg_name 5 (xgs_cons (xg_name 6 (xgs_nil (xgs_nil ⟨rfl, ?_⟩)))))))) ))
    intro s1 H1 C1 cl1 fp1
    refine xe_var 4 rfl ⟨rfl, rfl, ?_⟩
    intro s2 H2 C2 cl2 fp2
    exact xe_var 5 rfl ⟨rfl, rfl⟩
  have ek : mergeD [] (((rowsOf V).map pairKv).map fun d => (keyR d, keyS d)) = knK ((rowsOf V).map fun r => (r.1, r.2.1)) := by
    have e : ((rowsOf V).map pairKv).map (fun d => (keyR d, keyS d)) = knK ((rowsOf V).map fun r => (r.1, r.2.1)) := by
      unfold knK
      rw [List.map_map, List.map_map]; rfl
    rw [e]
    have := knK_merge (a := []) (b := (rowsOf V).map fun r => (r.1, r.2.1)) (by
      rw [List.nil_append]
      have := g.nd
      unfold knOf at this
      rw [List.map_append, List.nodup_append] at this
      exact this.1)
    exact this
  rw [ek]
  refine xss_cons (xs_expr (xe_upd 0 ?_))
  refine xe_fld 2 (xe_var 0 rfl ⟨CF, _, _, _, .m 1 rfl, cl, na "own_known" (by decide +kernel), by decide, rfl, rfl, kl, _, 0, rfl, rfl, ?_⟩)
  refine xe_var 3 rfl ⟨_, _, rfl, .inl rfl, ?_, ?_⟩
  · rw [knK, knK, List.length_map, List.length_map, List.length_map]
    have := g.few
    omega
  show XSs _ _ _ ((kl, MO.dct (mergeD (knK ((rowsOf V).map fun r => (r.1, r.2.1))) (knK ms))) :: (i, MO.ins CF dx ["own_view", "own_hold", "own_known"] [vObj CV V, .v (.int h), .v (.ref kl)]) :: M0) _
  rw [knK_merge g.nd]
  refine adj_dct 2 rfl ?_
  show XSs _ _ _ ((i, MO.ins CF dx ["own_view", "own_hold", "own_known"] [vObj CV V, .v (.int h), .dct (knK (knOf V ms))]) :: M0) _
  refine xss_cons (xs_asg [] (xe_tup (xa_cons (xe_lstM (xa_nil ⟨by decide, fun ll => xa_cons (xe_lstM (xa_nil ⟨by decide, fun hl => xa_nil ⟨Nat.le_of_ble_eq_true rfl, ?_⟩⟩))⟩)))))
  refine xg_tup (xgs_cons (xg_fld 2 (xe_var 0 rfl ⟨_, _, _, _, _, rfl, rfl, cl, na _ (by decide +kernel), by decide, by decide, ?_⟩)))
  refine xgs_cons (xg_fld 2 (xe_var 0 rfl ⟨_, _, _, _, _, rfl, rfl, cl, na _ (by decide +kernel), by decide, by decide, xgs_nil ?_⟩))
  show XSs _ _ _ ((hl, MO.lst []) :: (ll, MO.lst []) :: (i, MO.ins CF dx ["own_view", "own_hold", "own_known", "own_lows", "own_highs"] [vObj CV V, .v (.int h), .dct (knK (knOf V ms)), .v (.ref ll), .v (.ref hl)]) :: M0) _
  refine xss_cons (xs_for [4, 5, 6] (xi_val (xe_var 1 rfl (idt_own It hr1 (rows := (rowsOf V).map pairKv) rfl ⟨fun n ρ' M' => (∃ d4 d5 d6 d7, ρ' = [some (.v (.ref i)), some (vObj CV V), some (.v (.int h)), some (.dct (knK ms)), d4, d5, d6, d7]) ∧
    M' = (hl, MO.lst ((((rowsOf V).take n).flatMap (hiOf V h (knOf V ms))).map ptD)) :: (ll, MO.lst []) :: (i, MO.ins CF dx ["own_view", "own_hold", "own_known", "own_lows", "own_highs"] [vObj CV V, .v (.int h), .dct (knK (knOf V ms)), .v (.ref ll), .v (.ref hl)]) :: M0,
    ⟨⟨_, _, _, _, rfl⟩, rfl⟩, fun _ _ _ _ _ => trivial, ?_, ?_⟩))))
  · rintro n d ρ' M' hd ⟨⟨d4, d5, d6, d7, rfl⟩, rfl⟩
    rw [List.getElem?_map] at hd
    cases hVn : (rowsOf V)[n]? with
    | none => rw [hVn] at hd; cases hd
    | some r =>
      rw [hVn] at hd
      cases hd
      have hrm : r ∈ rowsOf V := List.mem_of_getElem? hVn
      have hlt := g.inV r hrm
      have hstep : ((rowsOf V).take (n + 1)).flatMap (hiOf V h (knOf V ms)) = ((rowsOf V).take n).flatMap (hiOf V h (knOf V ms)) ++ hiOf V h (knOf V ms) r := by
        rw [List.take_succ, hVn, List.flatMap_append]; simp
      have hlen : (((rowsOf V).take n).flatMap (hiOf V h (knOf V ms))).length < 90000 := by
        have h1 := hi_small V h (knOf V ms) ((rowsOf V).take n)
        rw [List.length_take] at h1
        omega
      simp only [hstep]
      generalize ((rowsOf V).take n).flatMap (hiOf V h (knOf V ms)) = acc at hlen ⊢
      refine xg_tup (xgs_cons (xg_name 4 (xgs_cons (xg_tup (xgs_cons (xg_name 5 (xgs_cons (xg_name 6 (xgs_nil (xgs_nil ?_))))))))))
      refine xss_cons (xs_set 7 (xe_mth Nx cl hr1 (xe_var 0 rfl ⟨_, _, .m 2 rfl, by decide, xa_cons (xe_var 5 rfl (xa_cons (xe_var 4 rfl (xa_nil ⟨_, _, _, 5, knOf V ms, r.2.1, r.1, rfl, ⟨.m 2 rfl, by decide, by decide +kernel⟩, by decide, rfl, by omega, ?_⟩))))⟩)))
      refine xss_mid (fun ρ' M' => ρ' = [some (.v (.ref i)), some (vObj CV V), some (.v (.int h)), some (.dct (knK ms)), some (intD r.1), some (.v (.str r.2.1)), some (optD r.2.2), some (optN (minN (laterOf (knOf V ms) r.1 r.2.1)))] ∧
        M' = (hl, MO.lst ((acc ++ (match minN (laterOf (knOf V ms) r.1 r.2.1) with | some l => [((tm V r.1 : Int), (l : Int))] | none => [])).map ptD)) :: (ll, MO.lst []) :: (i, MO.ins CF dx ["own_view", "own_hold", "own_known", "own_lows", "own_highs"] [vObj CV V, .v (.int h), .dct (knK (knOf V ms)), .v (.ref ll), .v (.ref hl)]) :: M0) ?_ ?_
      · refine xs_if (xt_cmp (xe_var 7 rfl (xe_non (od_notN ⟨_, rfl, ⟨fun hz => ?_, fun hz => ?_⟩⟩))))
        · cases hmn : minN (laterOf (knOf V ms) r.1 r.2.1) with
          | none => rw [hmn] at hz; cases hz
          | some l =>
            refine xss_one (xs_expr (xe_append 0 ?_))
            refine xe_fld 4 (xe_var 0 rfl ⟨CF, _, _, _, .m 2 rfl, cl, na "own_highs" (by decide +kernel), by decide, rfl, rfl, hl, rfl, ⟨0, _, rfl⟩, ?_⟩)
            refine xe_tup (xa_cons (xe_mth Rt T.clV hr1 (xe_var 1 rfl ⟨nsV, _, .of, by decide, xa_cons (xe_var 4 rfl (xa_nil ⟨_, _, _, _, _, _, rfl, tm_at hlt, ?_⟩))⟩)))
            refine xa_cons (xe_var 7 rfl (xa_nil ⟨Nat.le_of_ble_eq_true rfl, _, rfl, by rw [List.length_map]; omega, rfl, ?_⟩))
            rw [List.map_append]; rfl
        · cases hmn : minN (laterOf (knOf V ms) r.1 r.2.1) with
          | none => exact xss_nil ⟨rfl, by rw [List.append_nil]⟩
          | some l => rw [hmn] at hz; cases hz
      · rintro ρ' M' ⟨rfl, rfl⟩
        have hlen2 : (acc ++ (match minN (laterOf (knOf V ms) r.1 r.2.1) with | some l => [((tm V r.1 : Int), (l : Int))] | none => [])).length < 91000 := by
          rw [List.length_append]
          cases minN (laterOf (knOf V ms) r.1 r.2.1) <;> simp <;> omega
        unfold hiOf
        rw [← List.append_assoc]
        generalize acc ++ (match minN (laterOf (knOf V ms) r.1 r.2.1) with | some l => [((tm V r.1 : Int), (l : Int))] | none => []) = acc2 at hlen2 ⊢
        refine xss_one (xs_if (xt_cmp (xe_var 6 rfl (xe_non (od_isN ⟨_, rfl, ⟨fun hz => ?_, fun hz => ?_⟩⟩)))))
        · have hno : r.2.2 = none := by
            cases hq : r.2.2 with
            | none => rfl
            | some v => rw [hq] at hz; cases hz
          rw [if_pos hno]
          refine xss_one (xs_expr (xe_append 0 ?_))
          refine xe_fld 4 (xe_var 0 rfl ⟨CF, _, _, _, .m 2 rfl, cl, na "own_highs" (by decide +kernel), by decide, rfl, rfl, hl, rfl, ⟨0, _, rfl⟩, ?_⟩)
          refine xe_tup (xa_cons (xe_bin (xe_mth Rt T.clV hr1 (xe_var 1 rfl ⟨nsV, _, .of, by decide, xa_cons (xe_var 4 rfl (xa_nil ⟨_, _, _, _, _, _, rfl, tm_at hlt, xe_var 2 rfl (od_sub ?_)⟩))⟩))))
          refine xa_cons (xe_var 4 rfl (xa_nil ⟨Nat.le_of_ble_eq_true rfl, _, rfl, by rw [List.length_map]; omega, ⟨_, _, _, _, rfl⟩, ?_⟩))
          rw [List.map_append]; rfl
        · have hno : ¬ r.2.2 = none := fun e => by rw [e] at hz; cases hz
          rw [if_neg hno, List.append_nil]
          exact xss_nil ⟨⟨_, _, _, _, rfl⟩, rfl⟩
  · rintro ρ' M' ⟨⟨d4, d5, d6, d7, rfl⟩, rfl⟩
    rw [List.length_map, List.take_length]
    refine xss_cons (xs_expr (xe_extend 1 ?_))
    refine xe_fld 3 (xe_var 0 rfl ⟨CF, _, _, _, .m 2 rfl, cl, na "own_lows" (by decide +kernel), by decide, rfl, rfl, ll, _, 1, rfl, rfl, ?_⟩)
    refine xe_lc [("place", 4)] (xi_val (xe_var 3 rfl (idt_keys ⟨_, ⟨rfl, rfl⟩, lc_pure (M := (hl, MO.lst (((rowsOf V).flatMap (hiOf V h (knOf V ms))).map ptD)) :: (ll, MO.lst []) :: (i, MO.ins CF dx ["own_view", "own_hold", "own_known", "own_lows", "own_highs"] [vObj CV V, .v (.int h), .dct (knK (knOf V ms)), .v (.ref ll), .v (.ref hl)]) :: M0) (fun _ => true) (fun d => ptD (agedOf V h (natD d))) trivial (by rw [List.length_map, knK, List.length_map]; have := g.few; omega) (fun d hd => ?_), lc_pure_end ⟨_, _, rfl, rfl, ?_, ?_⟩⟩))) (blkOk_by (by rfl))
    · obtain ⟨z, hz, rfl⟩ := List.mem_map.mp hd
      obtain ⟨x, hx, rfl⟩ := List.mem_map.mp hz
      have e1 : natD (.v (kV (Sum.inl (x.1 : Int)))) = x.1 := int_cast0 x.1
      intro s0 H0 C cl0 fp
      refine xg_name 4 ?_
      intro s1 H1 C1 cl1 fp1
      refine xts_nil ⟨rfl, fun _ => ?_, fun z => by cases z⟩
      intro s2 H2 C2 cl2 fp2
      refine xe_mth Ag cl hr2 (xe_var 0 rfl ⟨_, _, .m 2 rfl, by decide, xa_cons (xe_var 4 rfl (xa_nil ⟨_, _, _, 5, V, h, x.1, rfl, ⟨.m 2 rfl, by decide, by decide +kernel⟩, by decide, rfl, rfl, g.mi x hx, ?_, rfl⟩))⟩)
      show _ = ptD (agedOf V h (natD (.v (kV (Sum.inl (x.1 : Int))))))
      rw [e1]; rfl
    · rw [List.length_nil, List.length_map]
      have h1 := List.length_filter_le (fun _ => true) ((knK ms).map fun kv => D.v (kV kv.1))
      rw [List.length_map, knK, List.length_map] at h1
      have := g.few
      have h2 : (List.filter (fun _ => true) ((knK ms).map fun kv => D.v (kV kv.1))).length ≤ ms.length := by
        rw [knK]; exact h1
      omega
    have el : [] ++ (((knK ms).map fun kv => D.v (kV kv.1)).filter fun _ => true).map (fun d => ptD (agedOf V h (natD d))) = (lowsOf V h ms).map ptD := by
      rw [List.nil_append, List.filter_eq_self.mpr (fun _ _ => rfl), knK, List.map_map, List.map_map, lowsOf, List.map_map]
      apply List.map_congr_left
      intro x _
      show ptD (agedOf V h (natD (.v (kV (Sum.inl (x.1 : Int)))))) = ptD (agedOf V h x.1)
      rw [show natD (.v (kV (Sum.inl (x.1 : Int)))) = x.1 from int_cast0 x.1]
    show XSs _ _ _ ((hl, MO.lst (((rowsOf V).flatMap (hiOf V h (knOf V ms))).map ptD)) :: (ll, MO.lst ([] ++ (((knK ms).map fun kv => D.v (kV kv.1)).filter fun _ => true).map (fun d => ptD (agedOf V h (natD d))))) :: (i, MO.ins CF dx ["own_view", "own_hold", "own_known", "own_lows", "own_highs"] [vObj CV V, .v (.int h), .dct (knK (knOf V ms)), .v (.ref ll), .v (.ref hl)]) :: M0) _
    rw [el]
    refine xss_adj (adj_lst 1 4 rfl rfl) ?_
    refine xss_adj (adj_lst 0 3 rfl rfl) ?_
    show XSs _ _ _ ((i, MO.ins CF dx ["own_view", "own_hold", "own_known", "own_lows", "own_highs"] [vObj CV V, .v (.int h), .dct (knK (knOf V ms)), .lst ((lowsOf V h ms).map ptD), .lst ((highsOf V h (knOf V ms)).map ptD)]) :: M0) _
    refine xss_cons (xs_fld 0 (xe_revL ?_))
    refine xe_lc [("place", 4)] (xi_val (xe_mth0 Gp T.clV hr3 (xe_var 1 rfl ⟨nsV, _, .of, by decide, V, rfl, g.v, idt_lst ⟨_, ⟨rfl, rfl⟩, lc_pure (M := (i, MO.ins CF dx ["own_view", "own_hold", "own_known", "own_lows", "own_highs"] [vObj CV V, .v (.int h), .dct (knK (knOf V ms)), .lst ((lowsOf V h ms).map ptD), .lst ((highsOf V h (knOf V ms)).map ptD)]) :: M0) (fun d => decide (natD d ∉ ms.map (·.1))) id trivial ?_ (fun d hd => ?_), lc_pure_end ⟨_, .of, ?_⟩⟩⟩))) (blkOk_by (by rfl))
    · rw [List.length_map]
      have := List.length_filter_le (fun p => decide (p ∉ places V)) (List.range (tms V).length)
      have h2 := tms_len V g.v
      rw [List.length_range] at this
      unfold gapsOf
      omega
    · obtain ⟨p, hp, rfl⟩ := List.mem_map.mp hd
      intro s0 H0 C cl0 fp
      refine xg_name 4 ?_
      intro s1 H1 C1 cl1 fp1
      refine xts_one (xt_cmp (xe_var 4 rfl (xe_var 3 rfl (od_dNotIn (k := Sum.inl (p : Int)) (hu rfl) .of rfl ⟨_, rfl, ?_, fun _ => ?_, fun _ => rfl⟩))))
      · rw [valD_knK, Option.isSome_map, int_cast0]
        by_cases h : p ∈ ms.map (·.1)
        · obtain ⟨v, hv⟩ := lookN_mem h
          rw [hv]; simp only [h]; rfl
        · have : lookN ms p = none := by
            unfold lookN
            rw [Option.map_eq_none_iff, List.find?_eq_none]
            intro y hy e
            exact h (List.mem_map.mpr ⟨y, hy, by simpa using e⟩)
          rw [this]
          simp [h]
      · intro s2 H2 C2 cl2 fp2
        exact xe_var 4 rfl ⟨rfl, rfl⟩
    have er : ((((gapsOf V).map intD).filter fun d => decide (natD d ∉ ms.map (·.1))).map id).reverse = (leftOf V ms).map intD := by
      rw [List.map_id, List.filter_map, leftOf, List.map_reverse]
      congr 2
    rw [er]
    refine xe_var 0 rfl ⟨_, _, _, _, _, rfl, rfl, cl, na _ (by decide +kernel), by decide, by decide, ?_⟩
    refine xss_cons (xs_fld 1 (xe_callT (T := "dict") (xa_cons (xe_fld 2 (xe_var 0 rfl ⟨CF, _, _, _, .m 0 rfl, cl, na "own_known" (by decide +kernel), by decide, rfl, rfl, xa_nil (cd_dictM .of fun ka => xe_var 0 rfl ⟨_, _, _, _, _, rfl, rfl, cl, na _ (by decide +kernel), by decide, by decide, ?_⟩)⟩))) (fr _ (by decide +kernel)) (by decide +kernel)))
    refine xss_one (xs_fld 2 (xe_callT (T := "dict") (xa_cons (xe_var 3 rfl (xa_nil (cd_dictM .of fun ma => xe_var 0 rfl ⟨_, _, _, _, _, rfl, rfl, cl, na _ (by decide +kernel), by decide, by decide, ?_⟩)))) (fr _ (by decide +kernel)) (by decide +kernel)))
    exact q ka ma
end
end Mm
end
section
set_option maxHeartbeats 4000000
/-! W7: Fit.choices. -/
namespace Mm
open PySem PySem.Spec PyProof.Rows L2 Dl
abbrev Ch := Str × (Int × Int) × Option (Int × Int) × Bool
def optP : Option (Int × Int) → D
  | none => .v .non
  | some a => ptD a
abbrev chD (c : Ch) : D := .tup [.v (.str c.1), ptD c.2.1, optP c.2.2.1, .v (.bl c.2.2.2)]
def ownOf (V : List Rr) (p : Nat) (k : Str) : List Nat := ((rowsOf V).filter fun r => decide (r.1 < p) && decide (r.2.1 = k)).map (·.1)
def chK (V : List Rr) (keys : Kn) (p : Nat) (k : Str) : Option Ch :=
  match minN (laterOf keys p k) with
  | none => none
  | some m => some (k, ((tm V p : Int), (m : Int) + 1), ((ownOf V p k).getLast?).map fun q => ((tm V q : Int), (p : Int)), false)
def choicesL (V : List Rr) (h : Int) (keys : Kn) (p : Nat) (ks : List Str) : List Ch :=
  ("x", agedOf V h p, none, true) :: ("x", ((tm V p : Int), (((minN (laterOf keys p "x" ++ [(tms V).length])).getD 0 : Nat) : Int) + 1), none, false) :: ks.filterMap (chK V keys p)
/-- a Fit as it stands behind its making -/
abbrev fObj (CV CF : Addr) (V : List Rr) (h : Int) (ms : Kn) (ka ma : Addr) : D :=
  fitD CF (vObj CV V) (.v (.int h)) (.dct (knK (knOf V ms))) (.lst ((lowsOf V h ms).map ptD)) (.lst ((highsOf V h (knOf V ms)).map ptD)) (.lst ((leftOf V ms).map intD)) (.v (.ref ka)) (.v (.ref ma))
/-- what a search is asked -/
structure GoodS (V : List Rr) (ms : Kn) : Prop where
  f : GoodF V ms
  few : (knOf V ms).length < 60
  nox : ("x" : Str) ∉ (knOf V ms).map (·.2)
theorem getLast_map {α β : Type} (f : α → β) (l : List α) : (l.map f).getLast? = (l.getLast?).map f := by simp
theorem atI_last {l : List D} {d : D} (h : l.getLast? = some d) : atI l (-1) = some d := by
  cases l with
  | nil => cases h
  | cons a l =>
    unfold atI ixN
    have hn : ((a :: l).length : Int) = (l.length : Int) + 1 := by rw [List.length_cons]; omega
    rw [if_neg (by omega), if_pos (by omega)]
    show (a :: l)[(-1 + ((a :: l).length : Int)).toNat]? = some d
    have : (-1 + ((a :: l).length : Int)).toNat = l.length := by omega
    rw [this, ← h, List.getLast?_eq_getElem?]
    rfl
section
variable {P : Program} {w : World} {K : PySem.W.Frag} {mg : Str → Option Value} {base : Heap} {CV CF : Addr}
abbrev sCh : Stmt := inClass (topS 9) 5
def wCh (CV CF : Addr) : Wp := fun ds M Q => ∃ (V : List Rr) (h : Int) (ms : Kn) (ka ma : Addr) (keys : Kn) (p m : Nat), ds = [fObj CV CF V h ms ka ma, intD p] ∧ M[m]? = some (ka, MO.dct (knK keys)) ∧ GoodS V ms ∧ keys.length < 41000 ∧ p < (tms V).length ∧
  ∀ ks : List Str, (∀ k, k ∈ ks ↔ k ∈ (knOf V ms).map (·.2)) → ks.length < 60 → Q (.lst ((choicesL V h keys p ks).map chD)) M
abbrev nCh : List Str := ["self", "place", "time", "free", "later", "found", "key", "some", "own", "high", "other", "got", "value"]
theorem scCh : FnScope nCh ["self", "place"] (defScope sCh) := ⟨rfl, rfl, rfl, by decide +kernel, rfl, by decide +kernel, by decide +kernel⟩
theorem ints_cast (l : List Nat) : (l.map fun (i : Nat) => (i : Int)).map (fun i => D.v (.int i)) = l.map intD := by rw [List.map_map]; rfl
theorem noK_ints (l : List Nat) : NoK (.lst (l.map intD)) := NoK.lst fun d hd => by
  obtain ⟨i, _, rfl⟩ := List.mem_map.mp hd
  exact .v _
theorem xe_neg1 {X : Cx} {ρ : Dl.Env} {M : Mem} {Q : KE} {k : Nat} {p1 p2 : Pos} (q : Q (.v (.int (-1))) M) : XE X (.UnaryOp .USub (.Constant (.int 1) k p1) p2) ρ M Q := fun F σ H s ev R kk =>
  PE.w (pe_un un_neg pe_int) ⟨1, rfl, kk _ _ M F H q (Step.refl _ _ _) s (.v _)⟩
theorem keys_filter (keys : Kn) (p : Nat) (k : Str) : (((knK keys).map fun kv => D.v (kV kv.1)).filter fun d => decide (p < natD d) && decide (lookN keys (natD d) = some k)).map id = (laterOf keys p k).map intD := by
  rw [List.map_id, knK, List.map_map, laterOf, List.filter_map, List.filter_map, List.map_map]
  congr 1
abbrev lObj (CV CF : Addr) (V : List Rr) (h : Int) (ms : Kn) (keys : Kn) (ma : Addr) : D :=
  fitD CF (vObj CV V) (.v (.int h)) (.dct (knK (knOf V ms))) (.lst ((lowsOf V h ms).map ptD)) (.lst ((highsOf V h (knOf V ms)).map ptD)) (.lst ((leftOf V ms).map intD)) (.dct (knK keys)) (.v (.ref ma))
theorem ok_ch (T : Txt K mg CV CF) (It : CalI P w K mg base 1 CV nsV 3) (Ln : CalM P w K mg base 1 CV "__len__" (wVL CV)) (Rt : CalM P w K mg base 1 CV "read_time" (wRT CV)) (Ag : CalM P w K mg base 2 CF "aged" (wAg CV CF)) (Sh : CalM P w K mg base 1 CF "shared" (wSh CV CF)) (Df : DefM K CF "choices" "Fit.choices" sCh) : CalM P w K mg base 3 CF "choices" (wCh CV CF) := by
  refine CalM.mk' Df scCh (fun _ _ _ _ _ _ us hl => match us, hl with | [_, _], _ => rfl) (fun ds M QD h => by obtain ⟨_, _, _, _, _, _, _, _, rfl, _⟩ := h; rfl) fun f cdv A outer s H hr ds M QD h => ?_
  obtain ⟨V, h, ms, ka, ma, keys, p, m, rfl, hm, g, hz, hp, q⟩ := h
  have hN := scCh.nd
  have fr := T.free
  have cl := T.clF
  have hr1 := hr.mono (j := 1) (by omega)
  have hr2 := hr.mono (j := 2) (by omega)
  have hu : ∀ {Y : Cx}, Y.A = (cxB P w K mg base nCh "Fit.choices" sCh f cdv A outer s H).A → Y.A.units + 1 < cLine := fun {Y} e => by
    rw [e]
    have := hr.units
    omega
  have fS : ∀ M', FitS CV CF M' (fObj CV CF V h ms ka ma) nsF [vObj CV V, .v (.int h), .dct (knK (knOf V ms)), .lst ((lowsOf V h ms).map ptD), .lst ((highsOf V h (knOf V ms)).map ptD), .lst ((leftOf V ms).map intD), .v (.ref ka), .v (.ref ma)] 8 := fun M' => ⟨.of, nsF_nd, fun _ _ => rfl⟩
  have fL : ∀ M', FitS CV CF M' (lObj CV CF V h ms keys ma) nsF [vObj CV V, .v (.int h), .dct (knK (knOf V ms)), .lst ((lowsOf V h ms).map ptD), .lst ((highsOf V h (knOf V ms)).map ptD), .lst ((leftOf V ms).map intD), .dct (knK keys), .v (.ref ma)] 8 := fun M' => ⟨.of, nsF_nd, fun _ _ => rfl⟩
  have hsm := g.f.small
  have htl := tms_len V g.f.v
  have hlat : ∀ k, (laterOf keys p k).length ≤ keys.length := fun k => by
    have := List.length_filter_le (fun q => decide (p < q) && decide (lookN keys q = some k)) (keys.map (·.1))
    rw [List.length_map] at this
    exact this
  refine xss_cons (xs_asg [2, 3] (xe_tup (xa_cons (xe_mth Rt T.clV hr1 (xe_fs (mg := mg) (CV := CV) T 0 (xe_var 0 rfl ⟨_, _, _, _, fS _, by decide, rfl, nsV, _, .of, by decide, xa_cons (xe_var 1 rfl (xa_nil ⟨_, _, _, _, _, _, rfl, tm_at hp, xa_cons (xe_mth0 Sh cl hr1 (xe_var 0 rfl ⟨nsF, _, .of, by decide, _, _, _, 8, knOf V ms, rfl, fS _, by decide, rfl, by omega, g.nox, xa_nil ⟨Nat.le_of_ble_eq_true rfl, xg_tup (xgs_cons (xg_name 2 (xgs_cons (xg_name 3 (xgs_nil ?_)))))⟩⟩))⟩))⟩))))))
  -- later
  refine xss_cons (xs_setLcM 4 [("other", 10)] m 0 6 hm rfl rfl (xi_val (xe_fs (mg := mg) (CV := CV) T 6 (xe_var 0 rfl ⟨_, _, _, _, fL _, by decide, rfl, idt_keys ⟨_, ⟨rfl, rfl⟩, lc_pure (M := []) (fun d => decide (p < natD d) && decide (lookN keys (natD d) = some ("x" : Str))) id trivial (by rw [List.length_map, knK, List.length_map]; omega) (fun d hd => ?_), ?_⟩⟩))) (blkOk_by (by rfl)) (by rfl))
  · obtain ⟨z, hz', rfl⟩ := List.mem_map.mp hd
    obtain ⟨x, hx, rfl⟩ := List.mem_map.mp hz'
    intro s0 H0 C cl0 fp
    refine xg_name 10 ?_
    intro s1 H1 C1 cl1 fp1
    obtain ⟨v, hv⟩ := lookN_mem (q := x.1) (List.mem_map.mpr ⟨x, hx, rfl⟩)
    have e1 : natD (.v (kV (Sum.inl (x.1 : Int)))) = x.1 := int_cast0 x.1
    refine xts_one (XW.t (xw_and (xt_cmp (xe_var 10 rfl (xe_var 1 rfl (od_gt ⟨_, rfl, ⟨fun hc => ?_, fun hc => ?_⟩⟩))))))
    · refine xw_and1 (xt_cmp (xe_ix (xe_fs (mg := mg) (CV := CV) T 6 (xe_var 0 rfl ⟨_, _, _, _, fL _, by decide, rfl, xe_var 10 rfl (id_dct (k := Sum.inl (x.1 : Int)) (hu rfl) .of rfl (by rw [valD_knK, hv]; rfl) ?_)⟩))))
      refine xe_var 3 rfl (od_eq rfl ⟨_, rfl, ⟨?_, fun _ => ?_, fun _ => rfl⟩⟩)
      · rw [e1, hv]
        have : p < x.1 := by
          have := of_decide_eq_true hc
          omega
        by_cases h : v = ("x" : Str)
        · subst h; simp [this]
        · have h' : ¬ (L2.V.str v = L2.V.str ("x" : Str)) := fun e => h (by injection e)
          simp [h, h', this]
      · intro s2 H2 C2 cl2 fp2
        exact xe_var 10 rfl ⟨rfl, rfl⟩
    · have : ¬ p < x.1 := by
        have := of_decide_eq_false hc
        omega
      refine ⟨?_, fun z => ?_, fun _ => rfl⟩
      · rw [e1]; simp [this]
      · rw [e1] at z; simp [this] at z
  · rintro acc M' ⟨rfl, rfl⟩
    rw [List.take_length, keys_filter]
    refine ⟨rfl, noK_ints _, ?_⟩
    have hl4 := hlat "x"
    refine xss_cons (xs_set 5 (xe_lstM (xa_cons ?_)))
    refine xe_tup (xa_cons (xe_var 3 rfl (xa_cons ?_)))
    refine xe_mth Ag cl hr2 (xe_var 0 rfl ⟨nsF, _, .of, by decide, xa_cons (xe_var 1 rfl (xa_nil ⟨_, _, _, 8, V, h, p, rfl, fS _, by decide, rfl, rfl, hp, ?_⟩))⟩)
    refine xa_cons (xe_non (xa_cons (xe_bl (xa_nil ⟨Nat.le_of_ble_eq_true rfl, xa_nil ⟨Nat.le_of_ble_eq_true rfl, fun fl => ?_⟩⟩))))
    refine xss_cons (xs_expr (xe_append 0 (xe_var 5 rfl ⟨fl, rfl, ⟨0, _, rfl⟩, ?_⟩)))
    refine xe_tup (xa_cons (xe_var 3 rfl (xa_cons ?_)))
    refine xe_tup (xa_cons (xe_var 2 rfl (xa_cons (xe_bin ?_))))
    refine xe_callB (id := "min") (xa_cons ?_) (fr _ (by decide +kernel)) (by decide +kernel)
    refine xe_bin (xe_var 4 rfl (xe_lst (xa_cons ?_)))
    refine xe_callB (id := "len") (xa_cons ?_) (fr _ (by decide +kernel)) (by decide +kernel)
    refine xe_fs (mg := mg) (CV := CV) T 0 (xe_var 0 rfl ⟨_, _, _, _, fS _, by decide, rfl, xa_nil (cd_lenO Ln hr2 (by decide) ⟨_, _, _, _, rfl, (tms V).length, by rw [List.length_map], by omega, ?_⟩)⟩)
    refine xa_nil ⟨Nat.le_of_ble_eq_true rfl, od_addL .of .of ?_ (xa_nil (cd_min (ns := (laterOf keys p "x" ++ [(tms V).length]).map fun (i : Nat) => (i : Int)) (by rw [ints_cast, List.map_append]; exact .of) (by simp) fun mm hmm hle => ?_))⟩
    · rw [List.length_map]
      show (laterOf keys p "x").length + 1 ≤ 100000
      omega
    obtain ⟨mn, hmn, rfl⟩ := List.mem_map.mp hmm
    have hmin : minN (laterOf keys p "x" ++ [(tms V).length]) = some mn := minN_of hmn fun y hy => by
      have := hle (y : Int) (List.mem_map.mpr ⟨y, hy, rfl⟩)
      omega
    refine xe_int (od_add (xa_nil ⟨Nat.le_of_ble_eq_true rfl, ?_⟩))
    refine xa_cons (xe_non (xa_cons (xe_bl (xa_nil ⟨Nat.le_of_ble_eq_true rfl, [chD ("x", agedOf V h p, none, true)], rfl, Nat.le_of_ble_eq_true rfl, ?_⟩))))
    show XSs _ _ _ ((fl, MO.lst ([chD ("x", agedOf V h p, none, true)] ++ [chD ("x", ((tm V p : Int), (mn : Int) + 1), none, false)])) :: M) _
    refine xss_cons (xs_for [6] (xi_val (xe_sortedSetS (xe_listVals ?_ (fr _ (by decide +kernel))) (fr _ (by decide +kernel)) (fr _ (by decide +kernel)))))
    refine xe_fs (mg := mg) (CV := CV) T 2 (xe_var 0 rfl ⟨_, _, _, _, fS _, by decide, rfl, knK (knOf V ms), .of, (knOf V ms).map (·.2), ?_, ?_, fun ks hks hkl => ?_⟩)
    · have e : (knK (knOf V ms)).map (fun kv => kv.2) = ((knOf V ms).map (·.2)).map fun k => D.v (.str k) := by
        rw [knK, List.map_map, List.map_map]; rfl
      rw [e]; exact .of
    · rw [List.length_map]; have := g.few; omega
    rw [List.length_map] at hkl
    have hkl' : ks.length < 60 := by have := g.few; omega
    refine idt_lst ⟨fun n ρ' M' => (∃ d6 d7 d8 d9, ρ' = [some (fObj CV CF V h ms ka ma), some (intD p), some (intD (tm V p)), some (.v (.str "x")), some (.lst ((laterOf keys p "x").map intD)), some (.v (.ref fl)), d6, d7, d8, d9, none, none, none]) ∧
      M' = (fl, MO.lst (((("x", agedOf V h p, none, true) : Ch) :: (("x", ((tm V p : Int), (mn : Int) + 1), none, false) : Ch) :: (ks.take n).filterMap (chK V keys p)).map chD)) :: M, ⟨⟨_, _, _, _, rfl⟩, rfl⟩, fun _ _ _ _ _ => trivial, ?_, ?_⟩
    · rintro n d ρ' M' hd ⟨⟨d6, d7, d8, d9, rfl⟩, rfl⟩
      rw [List.getElem?_map] at hd
      cases hVn : ks[n]? with
      | none => rw [hVn] at hd; cases hd
      | some k =>
        rw [hVn] at hd
        cases hd
        have hstep : (ks.take (n + 1)).filterMap (chK V keys p) = (ks.take n).filterMap (chK V keys p) ++ (chK V keys p k).toList := by
          rw [List.take_succ, hVn, List.filterMap_append]
          show _ ++ List.filterMap (chK V keys p) [k] = _
          cases hck : chK V keys p k with
          | none => rw [List.filterMap_cons_none hck]; rfl
          | some c => rw [List.filterMap_cons_some hck]; rfl
        have hacc : ((ks.take n).filterMap (chK V keys p)).length < 60 := by
          have h1 := List.length_filterMap_le (chK V keys p) (ks.take n)
          rw [List.length_take] at h1
          omega
        simp only [hstep]
        generalize (ks.take n).filterMap (chK V keys p) = acc at hacc ⊢
        have hlk := hlat k
        refine xg_name 6 ?_
        refine xss_cons (xs_setLcM 7 [("other", 10)] (m + 1) 0 6 (by simpa using hm) rfl rfl (xi_val (xe_fs (mg := mg) (CV := CV) T 6 (xe_var 0 rfl ⟨_, _, _, _, fL _, by decide, rfl, idt_keys ⟨_, ⟨rfl, rfl⟩, lc_pure (M := []) (fun d => decide (p < natD d) && decide (lookN keys (natD d) = some k)) id trivial (by rw [List.length_map, knK, List.length_map]; omega) (fun d hd => ?_), ?_⟩⟩))) (blkOk_by (by rfl)) (by rfl))
        · obtain ⟨z, hz', rfl⟩ := List.mem_map.mp hd
          obtain ⟨x, hx, rfl⟩ := List.mem_map.mp hz'
          intro s0 H0 C cl0 fp
          refine xg_name 10 ?_
          intro s1 H1 C1 cl1 fp1
          obtain ⟨v, hv⟩ := lookN_mem (q := x.1) (List.mem_map.mpr ⟨x, hx, rfl⟩)
          have e1 : natD (.v (kV (Sum.inl (x.1 : Int)))) = x.1 := int_cast0 x.1
          refine xts_one (XW.t (xw_and (xt_cmp (xe_var 10 rfl (xe_var 1 rfl (od_gt ⟨_, rfl, ⟨fun hc => ?_, fun hc => ?_⟩⟩))))))
          · refine xw_and1 (xt_cmp (xe_ix (xe_fs (mg := mg) (CV := CV) T 6 (xe_var 0 rfl ⟨_, _, _, _, fL _, by decide, rfl, xe_var 10 rfl (id_dct (k := Sum.inl (x.1 : Int)) (hu rfl) .of rfl (by rw [valD_knK, hv]; rfl) ?_)⟩))))
            refine xe_var 6 rfl (od_eq rfl ⟨_, rfl, ⟨?_, fun _ => ?_, fun _ => rfl⟩⟩)
            · rw [e1, hv]
              have : p < x.1 := by
                have := of_decide_eq_true hc
                omega
              by_cases h : v = k
              · subst h; simp [this]
              · have h' : ¬ (L2.V.str v = L2.V.str k) := fun e => h (by injection e)
                simp [h, h', this]
            · intro s2 H2 C2 cl2 fp2
              exact xe_var 10 rfl ⟨rfl, rfl⟩
          · have : ¬ p < x.1 := by
              have := of_decide_eq_false hc
              omega
            refine ⟨?_, fun z => ?_, fun _ => rfl⟩
            · rw [e1]; simp [this]
            · rw [e1] at z; simp [this] at z
        · rintro acc' M' ⟨rfl, rfl⟩
          rw [List.take_length, keys_filter]
          refine ⟨rfl, noK_ints _, ?_⟩
          refine xss_one (xs_if (xt_cmp (xe_callB (id := "len") (xa_cons (xe_var 7 rfl (xa_nil (cd_len .of (xe_int (od_gt ⟨_, rfl, ⟨fun hc => ?_, fun hc => ?_⟩⟩)))))) (fr _ (by decide +kernel)) (by decide +kernel))))
          · have hpos : 0 < (laterOf keys p k).length := by
              have := of_decide_eq_true hc
              rw [List.length_map] at this
              omega
            refine xss_cons (xs_setLc 8 [("other", 10), ("got", 11), ("value", 12)] (xi_val (xe_fs (mg := mg) (CV := CV) T 0 (xe_var 0 rfl ⟨_, _, _, _, fS _, by decide, rfl, idt_own It hr1 (rows := (rowsOf V).map pairKv) rfl ⟨_, ⟨rfl, rfl⟩, lc_pure (M := (fl, MO.lst (((("x", agedOf V h p, none, true) : Ch) :: (("x", ((tm V p : Int), (mn : Int) + 1), none, false) : Ch) :: acc).map chD)) :: M) (fun d => match d with | .tup [.v (.int q), .tup [.v (.str c), _]] => decide (q.toNat < p) && decide (c = k) | _ => false) (fun d => match d with | .tup [x, _] => x | d => d) trivial (by rw [List.length_map]; have := g.f.v.small; omega) (fun d hd => ?_), ?_⟩⟩))) (blkOk_by (by rfl)) (by rfl))
            · obtain ⟨x, hx, rfl⟩ := List.mem_map.mp hd
              intro s0 H0 C cl0 fp
              refine xg_tup (xgs_cons (xg_name 10 (xgs_cons (xg_tup (xgs_cons (xg_name 11 (xgs_cons (xg_name 12 (xgs_nil (xgs_nil ?_))))))))))
              intro s1 H1 C1 cl1 fp1
              refine xts_one (XW.t (xw_and (xt_cmp (xe_var 10 rfl (xe_var 1 rfl (od_lt ⟨_, rfl, ⟨fun hc => ?_, fun hc => ?_⟩⟩))))))
              · refine xw_and1 (xt_cmp (xe_var 11 rfl (xe_var 6 rfl (od_eq rfl ⟨_, rfl, ⟨?_, fun _ => ?_, fun _ => rfl⟩⟩))))
                · have : ((x.1 : Int)).toNat < p := by
                    have := of_decide_eq_true hc
                    omega
                  show decide (L2.V.str x.2.1 = L2.V.str k) = (decide (((x.1 : Int)).toNat < p) && decide (x.2.1 = k))
                  rw [decide_eq_true this, Bool.true_and]
                  by_cases h : x.2.1 = k
                  · rw [h]; simp
                  · have h' : ¬ (L2.V.str x.2.1 = L2.V.str k) := fun e => h (by injection e)
                    simp [h, h']
                · intro s2 H2 C2 cl2 fp2
                  exact xe_var 10 rfl ⟨rfl, rfl⟩
              · have : ¬ ((x.1 : Int)).toNat < p := by
                  have := of_decide_eq_false hc
                  omega
                refine ⟨?_, fun z => ?_, fun _ => rfl⟩
                · show false = (decide (((x.1 : Int)).toNat < p) && decide (x.2.1 = k))
                  rw [decide_eq_false this]; rfl
                · have z' : (decide (((x.1 : Int)).toNat < p) && decide (x.2.1 = k)) = true := z
                  rw [decide_eq_false this] at z'; cases z'
            · rintro acc' M' ⟨rfl, rfl⟩
              rw [List.take_length]
              have eo : (((rowsOf V).map pairKv).filter fun d => match d with | .tup [.v (.int q), .tup [.v (.str c), _]] => decide (q.toNat < p) && decide (c = k) | _ => false).map (fun d => match d with | .tup [x, _] => x | d => d) = (ownOf V p k).map intD := by
                rw [List.filter_map, List.map_map, ownOf, List.map_map]
                congr 1
              rw [eo]
              refine xss_mid (fun ρ' M' => (∃ d8, ρ' = [some (fObj CV CF V h ms ka ma), some (intD p), some (intD (tm V p)), some (.v (.str "x")), some (.lst ((laterOf keys p "x").map intD)), some (.v (.ref fl)), some (.v (.str k)), some (.lst ((laterOf keys p k).map intD)), d8, some (optP (((ownOf V p k).getLast?).map fun q => ((tm V q : Int), (p : Int)))), none, none, none]) ∧ M' = (fl, MO.lst (((("x", agedOf V h p, none, true) : Ch) :: (("x", ((tm V p : Int), (mn : Int) + 1), none, false) : Ch) :: acc).map chD)) :: M) ?_ ?_
              · refine xs_set 9 (xe_if (xt_cmp (xe_callB (id := "len") (xa_cons (xe_var 8 rfl (xa_nil (cd_len .of (xe_int (od_gt ⟨_, rfl, ⟨fun hc => ?_, fun hc => ?_⟩⟩)))))) (fr _ (by decide +kernel)) (by decide +kernel))))
                · cases hgl : (ownOf V p k).getLast? with
                  | none =>
                    have := List.getLast?_eq_none_iff.mp hgl
                    rw [this] at hc; cases hc
                  | some q0 =>
                    have hq0 : q0 ∈ ownOf V p k := List.mem_of_getLast? hgl
                    have hq0l : q0 < (tms V).length := by
                      obtain ⟨r, hr0, rfl⟩ := List.mem_map.mp hq0
                      exact g.f.inV r (List.mem_filter.mp hr0).1
                    have hat : atI ((ownOf V p k).map intD) (-1) = some (intD q0) := atI_last (by rw [getLast_map, hgl]; rfl)
                    refine xe_tup (xa_cons (xe_mth Rt T.clV hr1 (xe_fs (mg := mg) (CV := CV) T 0 (xe_var 0 rfl ⟨_, _, _, _, fS _, by decide, rfl, nsV, _, .of, by decide, xa_cons (xe_ix (xe_var 8 rfl (xe_neg1 (id_lst .of hat (xa_nil ⟨_, _, _, _, _, _, rfl, tm_at hq0l, ?_⟩)))))⟩))))
                    exact xa_cons (xe_var 1 rfl (xa_nil ⟨Nat.le_of_ble_eq_true rfl, ⟨_, rfl⟩, rfl⟩))
                · have : ownOf V p k = [] := by
                    have := of_decide_eq_false hc
                    rw [List.length_map] at this
                    exact List.length_eq_zero_iff.mp (by omega)
                  rw [this]
                  exact xe_non ⟨⟨_, rfl⟩, rfl⟩
              · rintro ρ' M' ⟨⟨d8, rfl⟩, rfl⟩
                refine xss_one (xs_expr (xe_append 0 (xe_var 5 rfl ⟨fl, rfl, ⟨0, _, rfl⟩, ?_⟩)))
                refine xe_tup (xa_cons (xe_var 6 rfl (xa_cons ?_)))
                refine xe_tup (xa_cons (xe_var 2 rfl (xa_cons (xe_bin ?_))))
                refine xe_callB (id := "min") (xa_cons (xe_var 7 rfl (xa_nil (cd_min (ns := (laterOf keys p k).map fun (i : Nat) => (i : Int)) (by rw [ints_cast]; exact .of) (by rw [List.length_map]; exact hpos) fun m2 hm2 hle2 => ?_)))) (fr _ (by decide +kernel)) (by decide +kernel)
                obtain ⟨m3, hm3, rfl⟩ := List.mem_map.mp hm2
                have hmin3 : minN (laterOf keys p k) = some m3 := minN_of hm3 fun y hy => by
                  have := hle2 (y : Int) (List.mem_map.mpr ⟨y, hy, rfl⟩)
                  omega
                refine xe_int (od_add (xa_nil ⟨Nat.le_of_ble_eq_true rfl, ?_⟩))
                refine xa_cons (xe_var 9 rfl (xa_cons (xe_bl (xa_nil ⟨Nat.le_of_ble_eq_true rfl, _, rfl, by rw [List.length_map, List.length_cons, List.length_cons]; omega, ⟨_, _, _, _, rfl⟩, ?_⟩))))
                have hck : chK V keys p k = some (k, ((tm V p : Int), (m3 : Int) + 1), ((ownOf V p k).getLast?).map fun q => ((tm V q : Int), (p : Int)), false) := by
                  unfold chK; rw [hmin3]
                rw [hck]
                show (fl, MO.lst (((("x", agedOf V h p, none, true) : Ch) :: (("x", ((tm V p : Int), (mn : Int) + 1), none, false) : Ch) :: acc).map chD ++ [_])) :: M = _
                rw [Option.toList_some, ← List.cons_append, ← List.cons_append, List.map_append]
                rfl
          · have : laterOf keys p k = [] := by
              have := of_decide_eq_false hc
              rw [List.length_map] at this
              exact List.length_eq_zero_iff.mp (by omega)
            have hck : chK V keys p k = none := by unfold chK; rw [this]; rfl
            rw [hck]
            exact xss_nil ⟨⟨_, _, _, _, rfl⟩, by rw [Option.toList_none, List.append_nil]⟩
    · rintro ρ' M' ⟨⟨d6, d7, d8, d9, rfl⟩, rfl⟩
      rw [List.length_map, List.take_length]
      refine xss_one (xs_ret (xe_frzL (xe_var 5 rfl ⟨fl, _, M, rfl, rfl, ?_⟩)))
      have := q ks hks hkl'
      unfold choicesL at this
      rw [hmin] at this
      exact this
end
end Mm
end
section
set_option maxHeartbeats 4000000
/-! W8: Fit.fill, Fit.bounds, fits. -/
namespace Mm
open PySem PySem.Spec PyProof.Rows L2 Dl
def fillB (V : List Rr) (h : Int) (ks : List Str) : List Nat → Kn → List (Int × Int) → List (Int × Int) → Bool
  | [], _, lows, highs => canB V lows highs
  | p :: left, keys, lows, highs => canB V lows highs && (choicesL V h keys p ks).any fun c => fillB V h ks left (keys ++ [(p, c.1)]) (lows ++ [c.2.1]) (highs ++ c.2.2.1.toList)
theorem mem_choices {V : List Rr} {h : Int} {keys : Kn} {p : Nat} {ks ks' : List Str} (e : ∀ k, k ∈ ks ↔ k ∈ ks') (c : Ch) : c ∈ choicesL V h keys p ks ↔ c ∈ choicesL V h keys p ks' := by
  unfold choicesL
  simp only [List.mem_cons, List.mem_filterMap]
  constructor
  · rintro (h | h | ⟨k, hk, h⟩)
    · exact .inl h
    · exact .inr (.inl h)
    · exact .inr (.inr ⟨k, (e k).mp hk, h⟩)
  · rintro (h | h | ⟨k, hk, h⟩)
    · exact .inl h
    · exact .inr (.inl h)
    · exact .inr (.inr ⟨k, (e k).mpr hk, h⟩)
theorem knK_put {kn : Kn} {p : Nat} {k : Str} (h : p ∉ kn.map (·.1)) : putD (knK kn) (Sum.inl (p : Int)) (.v (.str k)) = knK (kn ++ [(p, k)]) := by
  unfold knK
  rw [putD_new, List.map_append]
  · rfl
  · intro z hz
    obtain ⟨y, hy, rfl⟩ := List.mem_map.mp hz
    intro e
    have e' : (Sum.inl (y.1 : Int) : Key) = Sum.inl (p : Int) := e
    exact h (List.mem_map.mpr ⟨y, hy, by have := Sum.inl.inj e'; omega⟩)
theorem knK_drop {kn : Kn} {p : Nat} {k : Str} (h : p ∉ kn.map (·.1)) : dropD (knK (kn ++ [(p, k)])) (Sum.inl (p : Int)) = knK kn := by
  unfold knK dropD
  rw [List.map_append, List.filter_append, List.filter_eq_self.mpr, List.filter_eq_nil_iff.mpr, List.append_nil]
  · intro z hz
    simp only [List.map_cons, List.map_nil, List.mem_singleton] at hz
    subst hz; simp
  · intro z hz
    obtain ⟨y, hy, rfl⟩ := List.mem_map.mp hz
    simp only [ne_eq, decide_not, Bool.not_eq_true', decide_eq_false_iff_not]
    intro e
    exact h (List.mem_map.mpr ⟨y, hy, by have := Sum.inl.inj e; omega⟩)
theorem lookN_last {kn : Kn} {p : Nat} {k : Str} (h : p ∉ kn.map (·.1)) : lookN (kn ++ [(p, k)]) p = some k := by
  unfold lookN
  rw [List.find?_append, List.find?_eq_none.mpr]
  · simp
  · intro x hx e
    exact h (List.mem_map.mpr ⟨x, hx, by simpa using e⟩)
theorem lookN_none {kn : Kn} {p : Nat} (h : p ∉ kn.map (·.1)) : lookN kn p = none := by
  unfold lookN
  rw [Option.map_eq_none_iff, List.find?_eq_none]
  intro x hx e
  exact h (List.mem_map.mpr ⟨x, hx, by simpa using e⟩)
section
variable {P : Program} {w : World} {K : PySem.W.Frag} {mg : Str → Option Value} {base : Heap} {CV CF : Addr}
abbrev sFl : Stmt := inClass (topS 9) 6
structure FillOk (V : List Rr) (ms keys marks : Kn) (left : List Nat) (n : Nat) (lows highs : List (Int × Int)) : Prop where
  nd : left.Nodup
  k : ∀ p ∈ left, p ∉ keys.map (·.1)
  m : ∀ p ∈ left, p ∉ marks.map (·.1)
  i : ∀ p ∈ left, p < (tms V).length
  n : left.length < n
  s1 : keys.length + left.length < 1000
  s2 : marks.length + left.length < 1000
  s3 : lows.length + left.length < 1000
  s4 : highs.length + left.length < 1000
def wFl (CV CF : Addr) (n : Nat) : Wp := fun ds M Q => ∃ (V : List Rr) (h : Int) (ms : Kn) (ka ma : Addr) (keys marks : Kn) (at_ : Nat) (lows highs : List (Int × Int)) (M0 : Mem), ds = [fObj CV CF V h ms ka ma, intD at_, .lst (lows.map ptD), .lst (highs.map ptD)] ∧ M = (ma, MO.dct (knK marks)) :: (ka, MO.dct (knK keys)) :: M0 ∧ GoodS V ms ∧ at_ ≤ (leftOf V ms).length ∧ FillOk V ms keys marks ((leftOf V ms).drop at_) n lows highs ∧
  (fillB V h ((knOf V ms).map (·.2)) ((leftOf V ms).drop at_) keys lows highs = true → ∀ r mk ky, isNonD r = false → Q r ((ma, MO.dct mk) :: (ka, MO.dct ky) :: M0)) ∧
  (fillB V h ((knOf V ms).map (·.2)) ((leftOf V ms).drop at_) keys lows highs = false → Q (.v .non) M)
abbrev nFl : List Str := ["self", "at", "lows", "highs", "place", "key", "low", "high", "is_mark", "found"]
theorem scFl : FnScope nFl ["self", "at", "lows", "highs"] (defScope sFl) := ⟨rfl, rfl, rfl, by decide +kernel, rfl, by decide +kernel, by decide +kernel⟩
theorem optP_non (o : Option (Int × Int)) : isNonD (optP o) = !o.isSome := by cases o <;> rfl
theorem ok_fl (T : Txt K mg CV CF) (Cb : CalM P w K mg base 2 CF "can_be" (wCB CV CF)) (Ch : CalM P w K mg base 3 CF "choices" (wCh CV CF)) (Df : DefM K CF "fill" "Fit.fill" sFl) : ∀ n, CalM P w K mg base (n + 4) CF "fill" (wFl CV CF n)
  | 0 => by
    refine CalM.mk' Df scFl (fun _ _ _ _ _ _ us hl => match us, hl with | [_, _, _, _], _ => rfl) (fun ds M QD h => by obtain ⟨_, _, _, _, _, _, _, _, _, _, _, rfl, _⟩ := h; rfl) fun f cdv A outer s H hr ds M QD h => ?_
    obtain ⟨_, _, _, _, _, _, _, _, _, _, _, _, _, _, _, fo, _⟩ := h
    exact absurd fo.n (Nat.not_lt_zero _)
  | n + 1 => by
    have ih := ok_fl T Cb Ch Df n
    refine CalM.mk' Df scFl (fun _ _ _ _ _ _ us hl => match us, hl with | [_, _, _, _], _ => rfl) (fun ds M QD h => by obtain ⟨_, _, _, _, _, _, _, _, _, _, _, rfl, _⟩ := h; rfl) fun f cdv A outer s H hr ds M QD h => ?_
    obtain ⟨V, h, ms, ka, ma, keys, marks, at_, lows, highs, M0, rfl, rfl, g, hat, fo, q1, q2⟩ := h
    have hN := scFl.nd
    have fr := T.free
    have cl := T.clF
    have hr2 := hr.mono (j := 2) (by omega)
    have hr3 := hr.mono (j := 3) (by omega)
    have hu := hu_of (hr.mono (j := 0) (by omega))
    have fS : ∀ M', FitS CV CF M' (fObj CV CF V h ms ka ma) nsF [vObj CV V, .v (.int h), .dct (knK (knOf V ms)), .lst ((lowsOf V h ms).map ptD), .lst ((highsOf V h (knOf V ms)).map ptD), .lst ((leftOf V ms).map intD), .v (.ref ka), .v (.ref ma)] 8 := fun M' => ⟨.of, nsF_nd, fun _ _ => rfl⟩
    have s3 := fo.s3
    have s4 := fo.s4
    have s1 := fo.s1
    have s2 := fo.s2
    refine xss_cons (xs_if (xt_not (xt_val (xe_mth Cb cl hr2 (xe_var 0 rfl ⟨nsF, _, .of, by decide, xa_cons (xe_var 2 rfl (xa_cons (xe_var 3 rfl (xa_nil ⟨_, _, _, 8, V, lows, highs, rfl, fS _, by decide, rfl, g.f.v, g.f.ne, by omega, by omega, _, rfl, ⟨fun hc => ?_, fun hc => ?_⟩⟩))))⟩)))))
    · have hc' : canB V lows highs = false := by simpa using hc
      refine xss_one (xs_ret (xe_non (q2 ?_)))
      cases hl : (leftOf V ms).drop at_ with
      | nil => exact hc'
      | cons p left => unfold fillB; rw [hc']; rfl
    · have hc' : canB V lows highs = true := by simpa using hc
      refine xss_nil (xss_cons (xs_if (xt_cmp (xe_var 1 rfl (xe_callB (id := "len") (xa_cons (xe_fs (mg := mg) (CV := CV) T 5 (xe_var 0 rfl ⟨_, _, _, _, fS _, by decide, rfl, xa_nil (cd_len .of (od_eq rfl ⟨_, rfl, ⟨fun he => ?_, fun he => ?_⟩⟩))⟩))) (fr _ (by decide +kernel)) (by decide +kernel))))))
      · have he' : at_ = (leftOf V ms).length := by
          have := of_decide_eq_true he
          rw [List.length_map] at this
          have := L2.V.int.inj this
          omega
        have hd : (leftOf V ms).drop at_ = [] := by rw [he']; exact List.drop_length
        refine xss_one (xs_ret (xe_var 3 rfl (q1 ?_ _ _ _ rfl)))
        rw [hd]; exact hc'
      · have he' : at_ < (leftOf V ms).length := by
          have := of_decide_eq_false he
          rw [List.length_map] at this
          have : at_ ≠ (leftOf V ms).length := fun z => this (by rw [z])
          omega
        obtain ⟨p, left, hdr, hpi⟩ : ∃ p left, (leftOf V ms).drop at_ = p :: left ∧ (leftOf V ms)[at_]? = some p := ⟨_, _, List.drop_eq_getElem_cons he', List.getElem?_eq_getElem he'⟩
        have hdr' : (leftOf V ms).drop (at_ + 1) = left := by
          rw [List.drop_eq_getElem_cons he'] at hdr
          exact (List.cons.inj hdr).2
        rw [hdr] at fo q1 q2
        have pk := fo.k p List.mem_cons_self
        have pm := fo.m p List.mem_cons_self
        have pin := fo.i p List.mem_cons_self
        have hnd := List.nodup_cons.mp fo.nd
        have hll : (p :: left).length = left.length + 1 := List.length_cons
        have hfn := fo.n
        have s1 := fo.s1
        have s2 := fo.s2
        have s3 := fo.s3
        have s4 := fo.s4
        refine xss_nil (xss_cons (xs_set 4 (xe_ix (xe_fs (mg := mg) (CV := CV) T 5 (xe_var 0 rfl ⟨_, _, _, _, fS _, by decide, rfl, xe_var 1 rfl (id_lst (d := intD p) .of (atI_nat (by rw [List.getElem?_map, hpi]; rfl)) ?_)⟩)))))
        refine xss_cons (xs_for [5, 6, 7, 8] (xi_val (xe_mth Ch cl hr3 (xe_var 0 rfl ⟨nsF, _, .of, by decide, xa_cons (xe_var 4 rfl (xa_nil ⟨V, h, ms, ka, ma, keys, p, 1, rfl, rfl, g, by omega, pin, fun ks hks hkl => ?_⟩))⟩))))
        have hmc := mem_choices (V := V) (h := h) (keys := keys) (p := p) hks
        refine idt_lst ⟨fun i ρ' M' => (∃ d5 d6 d7 d8 d9, ρ' = [some (fObj CV CF V h ms ka ma), some (intD at_), some (.lst (lows.map ptD)), some (.lst (highs.map ptD)), some (intD p), d5, d6, d7, d8, d9]) ∧ M' = (ma, MO.dct (knK marks)) :: (ka, MO.dct (knK keys)) :: M0 ∧
          ∀ c ∈ (choicesL V h keys p ks).take i, fillB V h ((knOf V ms).map (·.2)) left (keys ++ [(p, c.1)]) (lows ++ [c.2.1]) (highs ++ c.2.2.1.toList) = false, ⟨⟨_, _, _, _, _, rfl⟩, rfl, fun c hc => by simp at hc⟩, fun _ _ _ _ _ => trivial, ?_, ?_⟩
        · rintro i d ρ' M' hd ⟨⟨d5, d6, d7, d8, d9, rfl⟩, rfl, hno⟩
          rw [List.getElem?_map] at hd
          cases hci : (choicesL V h keys p ks)[i]? with
          | none => rw [hci] at hd; cases hd
          | some c =>
            rw [hci] at hd
            cases hd
            obtain ⟨key, low, high, mk⟩ := c
            have hcm : (key, low, high, mk) ∈ choicesL V h keys p ks := List.mem_of_getElem? hci
            have yes : fillB V h ((knOf V ms).map (·.2)) left (keys ++ [(p, key)]) (lows ++ [low]) (highs ++ high.toList) = true → fillB V h ((knOf V ms).map (·.2)) (p :: left) keys lows highs = true := fun hf => by
              unfold fillB
              rw [hc', Bool.true_and, List.any_eq_true]
              exact ⟨_, (hmc _).mp hcm, hf⟩
            have hno' : fillB V h ((knOf V ms).map (·.2)) left (keys ++ [(p, key)]) (lows ++ [low]) (highs ++ high.toList) = false → ∀ c ∈ (choicesL V h keys p ks).take (i + 1), fillB V h ((knOf V ms).map (·.2)) left (keys ++ [(p, c.1)]) (lows ++ [c.2.1]) (highs ++ c.2.2.1.toList) = false := fun hf c hc => by
              have e : (choicesL V h keys p ks).take (i + 1) = (choicesL V h keys p ks).take i ++ [(key, low, high, mk)] := by rw [List.take_succ, hci]; rfl
              rw [e, List.mem_append, List.mem_singleton] at hc
              rcases hc with hc | rfl
              · exact hno c hc
              · exact hf
            refine xg_tup (xgs_cons (xg_name 5 (xgs_cons (xg_name 6 (xgs_cons (xg_name 7 (xgs_cons (xg_name 8 (xgs_nil ?_)))))))))
            refine xss_cons (xs_asg [] (xe_var 5 rfl (xg_sub (xe_fs (mg := mg) (CV := CV) T 6 (xe_var 0 rfl ⟨_, _, _, _, fS _, by decide, rfl, xe_var 4 rfl (sd_dct 1 (k := Sum.inl (p : Int)) rfl hu rfl ?_ ?_)⟩)))))
            · rw [knK, List.length_map]; omega
            rw [knK_put pk]
            refine xss_mid (fun ρ' M' => ρ' = [some (fObj CV CF V h ms ka ma), some (intD at_), some (.lst (lows.map ptD)), some (.lst (highs.map ptD)), some (intD p), some (.v (.str key)), some (ptD low), some (optP high), some (.v (.bl mk)), d9] ∧
              M' = (ma, MO.dct (knK (if mk = true then marks ++ [(p, key)] else marks))) :: (ka, MO.dct (knK (keys ++ [(p, key)]))) :: M0) ?_ ?_
            · refine xs_if (xt_val (xe_var 8 rfl ⟨_, rfl, ⟨fun hz => ?_, fun hz => ?_⟩⟩))
              · rw [if_pos (show mk = true from hz)]
                refine xss_one (xs_asg [] (xe_var 5 rfl (xg_sub (xe_fs (mg := mg) (CV := CV) T 7 (xe_var 0 rfl ⟨_, _, _, _, fS _, by decide, rfl, xe_var 4 rfl (sd_dct 0 (k := Sum.inl (p : Int)) rfl hu rfl ?_ ?_)⟩)))))
                · rw [knK, List.length_map]; omega
                rw [knK_put pm]
                exact ⟨rfl, rfl⟩
              · rw [if_neg (show ¬ mk = true from fun e => by rw [e] at hz; cases hz)]
                exact xss_nil ⟨rfl, rfl⟩
            · rintro ρ' M' ⟨rfl, rfl⟩
              have hm2 : (if mk = true then marks ++ [(p, key)] else marks).length ≤ marks.length + 1 := by
                split
                · rw [List.length_append]; simp
                · omega
              have hmem2 : ∀ z, z ∈ (if mk = true then marks ++ [(p, key)] else marks).map (·.1) → z ∈ marks.map (·.1) ∨ z = p := fun z hz => by
                split at hz
                · rw [List.map_append, List.mem_append] at hz
                  rcases hz with hz | hz
                  · exact .inl hz
                  · exact .inr (by simpa using hz)
                · exact .inl hz
              refine xss_cons (xs_set 9 (xe_mth ih cl hr (xe_var 0 rfl ⟨nsF, _, .of, by decide, xa_cons (xe_bin (xe_var 1 rfl (xe_int (od_add ?_))))⟩)))
              refine xa_cons (xe_bin (xe_var 2 rfl (xe_lst (xa_cons (xe_var 6 rfl (xa_nil ⟨Nat.le_of_ble_eq_true rfl, od_addL .of .of ?_ ?_⟩))))))
              · rw [List.length_map]
                show lows.length + 1 ≤ 100000
                omega
              have eL : lows.map ptD ++ [ptD low] = (lows ++ [low]).map ptD := by rw [List.map_append]; rfl
              rw [eL]
              refine xa_cons (xe_bin (xe_var 3 rfl (XE.mono (Q := fun d M' => d = .lst (high.toList.map ptD) ∧ M' = (ma, MO.dct (knK (if mk = true then marks ++ [(p, key)] else marks))) :: (ka, MO.dct (knK (keys ++ [(p, key)]))) :: M0) (xe_if (xt_cmp (xe_var 7 rfl (xe_non (od_notN ⟨_, rfl, ⟨fun hz => ?_, fun hz => ?_⟩⟩))))) ?_)))
              · cases high with
                | none => cases hz
                | some a => exact xe_lst (xa_cons (xe_var 7 rfl (xa_nil ⟨Nat.le_of_ble_eq_true rfl, rfl, rfl⟩)))
              · cases high with
                | none => exact xe_lst (xa_nil ⟨Nat.le_of_ble_eq_true rfl, rfl, rfl⟩)
                | some a => cases hz
              rintro d M' ⟨rfl, rfl⟩
              have h1le : high.toList.length ≤ 1 := by cases high <;> simp
              refine od_addL .of .of (by rw [List.length_map, List.length_map]; omega) (xa_nil ?_)
              rw [← List.map_append]
              refine ⟨V, h, ms, ka, ma, keys ++ [(p, key)], if mk = true then marks ++ [(p, key)] else marks, at_ + 1, lows ++ [low], highs ++ high.toList, M0, rfl, rfl, g, by omega, ?_, ?_, ?_⟩
              · rw [hdr']
                refine ⟨hnd.2, fun q hq => ?_, fun q hq => ?_, fun q hq => fo.i q (List.mem_cons_of_mem _ hq), by omega, ?_, by omega, ?_, ?_⟩
                · rw [List.map_append, List.mem_append]
                  rintro (z | z)
                  · exact fo.k q (List.mem_cons_of_mem _ hq) z
                  · have : q = p := by simpa using z
                    exact hnd.1 (this ▸ hq)
                · intro z
                  rcases hmem2 q z with z | rfl
                  · exact fo.m q (List.mem_cons_of_mem _ hq) z
                  · exact hnd.1 hq
                · rw [List.length_append, List.length_singleton]; omega
                · rw [List.length_append, List.length_singleton]; omega
                · rw [List.length_append]; omega
              · rw [hdr']
                intro hf r mk' ky' hnr
                refine xss_cons (xs_if (xt_cmp (xe_var 9 rfl (xe_non (od_notN ⟨_, rfl, ⟨fun _ => ?_, fun hz => ?_⟩⟩)))))
                · exact xss_one (xs_ret (xe_var 9 rfl (q1 (yes hf) _ _ _ hnr)))
                · rw [hnr] at hz; cases hz
              · rw [hdr']
                intro hf
                refine xss_cons (xs_if (xt_cmp (xe_var 9 rfl (xe_non (od_notN ⟨_, rfl, ⟨fun hz => (by cases hz), fun _ => ?_⟩⟩)))))
                refine xss_nil (xss_cons (xs_expr (xe_pop1 1 (xe_fs (mg := mg) (CV := CV) T 6 (xe_var 0 rfl ⟨_, _, _, _, fS _, by decide, rfl, ka, _, rfl, .m 1 rfl, xe_var 4 rfl ⟨Sum.inl (p : Int), _, _, .v (.str key), rfl, rfl, rfl, by rw [valD_knK, lookN_last pk]; rfl, ?_⟩⟩)))))
                refine xss_one (xs_expr (xe_pop2 0 (xe_fs (mg := mg) (CV := CV) T 7 (xe_var 0 rfl ⟨_, _, _, _, fS _, by decide, rfl, ma, _, rfl, .m 0 rfl, xe_var 4 rfl (xe_non ⟨Sum.inl (p : Int), _, _, rfl, rfl, rfl, fun d hd => ?_, fun hd => ?_⟩)⟩))))
                · cases mk with
                  | true =>
                    refine ⟨⟨_, _, _, _, _, rfl⟩, ?_, hno' hf⟩
                    show (ma, MO.dct (dropD (knK (marks ++ [(p, key)])) (Sum.inl (p : Int)))) :: (ka, MO.dct (dropD (knK (keys ++ [(p, key)])) (Sum.inl (p : Int)))) :: M0 = _
                    rw [knK_drop pm, knK_drop pk]
                  | false =>
                    have hd' : valD (knK marks) (Sum.inl (p : Int)) = some d := hd
                    rw [valD_knK, lookN_none pm] at hd'
                    cases hd'
                · cases mk with
                  | true =>
                    have hd' : valD (knK (marks ++ [(p, key)])) (Sum.inl (p : Int)) = none := hd
                    rw [valD_knK, lookN_last pm] at hd'
                    cases hd'
                  | false =>
                    refine ⟨⟨_, _, _, _, _, rfl⟩, ?_, hno' hf⟩
                    show (ma, MO.dct (knK marks)) :: (ka, MO.dct (dropD (knK (keys ++ [(p, key)])) (Sum.inl (p : Int)))) :: M0 = _
                    rw [knK_drop pk]
        · rintro ρ' M' ⟨⟨d5, d6, d7, d8, d9, rfl⟩, rfl, hno⟩
          rw [List.length_map, List.take_length] at hno
          refine xss_one (xs_ret (xe_non (q2 ?_)))
          unfold fillB
          rw [hc', Bool.true_and, List.any_eq_false]
          intro c hc
          rw [hno c ((hmc c).mpr hc)]
          exact Bool.false_ne_true
end
end Mm
end
section
set_option maxHeartbeats 4000000
/-! W9: Fit.bounds, fits, can_be, look_can_be, missed_at, held_by, missed_places. -/
namespace Mm
open PySem PySem.Spec PyProof.Rows L2 Dl
def fillV (V : List Rr) (h : Int) (ms : Kn) : Bool := fillB V h ((knOf V ms).map (·.2)) (leftOf V ms) (knOf V ms) (lowsOf V h ms) (highsOf V h (knOf V ms))
def fitsB (V : List Rr) (h : Int) (ms : Kn) : Bool :=
  match V with
  | [] => true
  | r :: V' => if (r.1 < 1) || ((r :: V').any fun x => decide (manyAt (r :: V') x.1 < x.2.1)) then false else fillV (r :: V') h ms
def missedL (V : List Rr) (h : Int) (key : Str) : List Nat :=
  match (heldOf (rowsOf V)).find? fun z => decide (z.1 = key) with
  | none => []
  | some z => (gapsOf V).filter fun g => decide (z.2 < g) && fitsB V h [(g, key)]
/-- what fits is asked -/
structure GoodP (V : List Rr) (ms : Kn) : Prop where
  v : GoodV V
  s : V ≠ [] → GoodS V ms ∧ (∀ z ∈ ms, z.1 ∉ places V) ∧ (tms V).length ≤ 20
section
variable {P : Program} {w : World} {K : PySem.W.Frag} {mg : Str → Option Value} {base : Heap} {CV CF : Addr}
abbrev sBd : Stmt := inClass (topS 9) 7
def wBd (CV CF : Addr) : Wp := fun ds M Q => ∃ (V : List Rr) (h : Int) (ms : Kn) (ka ma : Addr) (M0 : Mem), ds = [fObj CV CF V h ms ka ma] ∧ M = (ma, MO.dct (knK ms)) :: (ka, MO.dct (knK (knOf V ms))) :: M0 ∧ GoodS V ms ∧ (tms V).length ≤ 20 ∧
  (fillV V h ms = true → ∀ r mk ky, isNonD r = false → Q r ((ma, MO.dct mk) :: (ka, MO.dct ky) :: M0)) ∧
  (fillV V h ms = false → Q (.v .non) M)
theorem scBd : FnScope ["self"] ["self"] (defScope sBd) := ⟨rfl, rfl, rfl, by decide +kernel, rfl, by decide +kernel, by decide +kernel⟩
theorem left_ok {V : List Rr} {h : Int} {ms : Kn} (g : GoodS V ms) (hl : (tms V).length ≤ 20) : FillOk V ms (knOf V ms) ms (leftOf V ms) 30 (lowsOf V h ms) (highsOf V h (knOf V ms)) := by
  have hg : (gapsOf V).length ≤ 20 := by
    have := List.length_filter_le (fun p => decide (p ∉ places V)) (List.range (tms V).length)
    rw [List.length_range] at this
    unfold gapsOf; omega
  have hll : (leftOf V ms).length ≤ 20 := by
    unfold leftOf
    rw [List.length_reverse]
    have := List.length_filter_le (fun p => decide (p ∉ ms.map (·.1))) (gapsOf V)
    omega
  have hmem : ∀ p ∈ leftOf V ms, p < (tms V).length ∧ p ∉ places V ∧ p ∉ ms.map (·.1) := fun p hp => by
    unfold leftOf gapsOf at hp
    rw [List.mem_reverse, List.mem_filter, List.mem_filter] at hp
    obtain ⟨⟨h1, h2⟩, h3⟩ := hp
    exact ⟨List.mem_range.mp h1, by simpa using h2, by simpa using h3⟩
  have hfew := g.few
  have hf2 := g.f.few
  have hi : (highsOf V h (knOf V ms)).length ≤ 200 := by
    have := hi_small V h (knOf V ms) (rowsOf V)
    have h2 : (rowsOf V).length ≤ (knOf V ms).length := by unfold knOf; rw [List.length_append, List.length_map]; omega
    unfold highsOf; omega
  refine ⟨?_, fun p hp => ?_, fun p hp => (hmem p hp).2.2, fun p hp => (hmem p hp).1, by omega, by omega, by omega, ?_, by omega⟩
  · unfold leftOf
    rw [List.Nodup, List.pairwise_reverse]
    exact ((List.nodup_range.sublist List.filter_sublist).sublist List.filter_sublist).imp Ne.symm
  · obtain ⟨_, h2, h3⟩ := hmem p hp
    unfold knOf
    rw [List.map_append, List.mem_append]
    rintro (z | z)
    · apply h2
      rw [List.map_map] at z
      exact z
    · exact h3 z
  · unfold lowsOf; rw [List.length_map]; omega
theorem ok_bd (T : Txt K mg CV CF) (Fl : CalM P w K mg base 34 CF "fill" (wFl CV CF 30)) (Df : DefM K CF "bounds" "Fit.bounds" sBd) : CalM P w K mg base 35 CF "bounds" (wBd CV CF) := by
  refine CalM.mk' Df scBd (fun _ _ _ _ _ _ us hl => match us, hl with | [_], _ => rfl) (fun ds M QD h => by obtain ⟨_, _, _, _, _, _, rfl, _⟩ := h; rfl) fun f cdv A outer s H hr ds M QD h => ?_
  obtain ⟨V, h, ms, ka, ma, M0, rfl, rfl, g, hl, q1, q2⟩ := h
  have hN := scBd.nd
  have fS : ∀ M', FitS CV CF M' (fObj CV CF V h ms ka ma) nsF [vObj CV V, .v (.int h), .dct (knK (knOf V ms)), .lst ((lowsOf V h ms).map ptD), .lst ((highsOf V h (knOf V ms)).map ptD), .lst ((leftOf V ms).map intD), .v (.ref ka), .v (.ref ma)] 8 := fun M' => ⟨.of, nsF_nd, fun _ _ => rfl⟩
  have fo := left_ok (h := h) g hl
  refine xss_one (xs_ret (xe_mth Fl T.clF hr (xe_var 0 rfl ⟨nsF, _, .of, by decide, xa_cons (xe_int ?_)⟩)))
  refine xa_cons (xe_fs (mg := mg) (CV := CV) T 3 (xe_var 0 rfl ⟨_, _, _, _, fS _, by decide, rfl, ?_⟩))
  refine xa_cons (xe_fs (mg := mg) (CV := CV) T 4 (xe_var 0 rfl ⟨_, _, _, _, fS _, by decide, rfl, ?_⟩))
  exact xa_nil ⟨V, h, ms, ka, ma, knOf V ms, ms, 0, lowsOf V h ms, highsOf V h (knOf V ms), M0, rfl, rfl, g, Nat.zero_le _, fo, q1, q2⟩
/-! ### fits -/
abbrev sFt : Stmt := topS 10
def wFt (CV : Addr) : Wp := fun ds M Q => ∃ (V : List Rr) (h : Int) (ms : Kn), ds = [vObj CV V, .v (.int h), .dct (knK ms)] ∧ GoodP V ms ∧ Q (.v (.bl (fitsB V h ms))) M
abbrev nFt : List Str := ["view", "hold", "missed", "times", "time", "upto", "got"]
theorem scFt : FnScope nFt ["view", "hold", "missed"] (defScope sFt) := ⟨rfl, rfl, rfl, by decide +kernel, rfl, by decide +kernel, by decide +kernel⟩
def uptoD : D → Int
  | .tup [_, .v (.int i), _] => i
  | _ => 0
theorem ok_ft (T : Txt K mg CV CF) (Ma : CalM P w K mg base 1 CV "many_at" (wMA CV)) (Fi : CalC P w K mg base 5 "Fit" CF (wFI CV CF)) (Bd : CalM P w K mg base 35 CF "bounds" (wBd CV CF)) (Df : DefG K mg "fits" sFt) : CalG P w K mg base 37 "fits" (wFt CV) := by
  refine CalG.mk' Df scFt (fun _ _ _ _ _ _ us hl => match us, hl with | [_, _, _], _ => rfl) (fun ds M QD h => by obtain ⟨_, _, _, rfl, _⟩ := h; rfl) fun f cdv A outer s H hr ds M QD h => ?_
  obtain ⟨V, h, ms, rfl, g, q⟩ := h
  have hN := scFt.nd
  have fr := T.free
  have hr35 := hr.mono (j := 35) (by omega)
  have hr6 := hr.mono (j := 6) (by omega)
  have hr1 := hr.mono (j := 1) (by omega)
  refine xss_cons (xs_setLc 3 [("time", 4), ("upto", 5), ("got", 6)] (xi_val (xe_fV (mg := mg) (CF := CF) T 0 (xe_var 0 rfl ⟨_, _, .of, rfl, idt_lst ⟨_, ⟨rfl, rfl⟩, lc_pure (M := M) (fun _ => true) (fun d => .v (.int (timeD d))) trivial (by rw [List.length_map]; have := g.v.len; omega) (fun d hd => ?_), ?_⟩⟩))) (blkOk_by (by rfl)) (by rfl))
  · obtain ⟨x, hx, rfl⟩ := List.mem_map.mp hd
    intro s0 H0 C cl0 fp
    refine xg_tup (xgs_cons (xg_name 4 (xgs_cons (xg_name 5 (xgs_cons (xg_name 6 (xgs_nil ?_)))))))
    intro s1 H1 C1 cl1 fp1
    refine xts_nil ⟨rfl, fun _ => ?_, fun z => by cases z⟩
    intro s2 H2 C2 cl2 fp2
    exact xe_var 4 rfl ⟨rfl, rfl⟩
  · rintro acc M' ⟨rfl, rfl⟩
    have et : (((V.map rdD).take (V.map rdD).length).filter fun _ => true).map (fun d => D.v (.int (timeD d))) = (V.map (·.1)).map intD := by
      rw [List.take_length, List.filter_eq_self.mpr (fun _ _ => rfl), List.map_map, List.map_map]; rfl
    rw [et]
    refine xss_cons (xs_if (xt_cmp (xe_callB (id := "len") (xa_cons (xe_var 3 rfl (xa_nil (cd_len .of (xe_int (od_eq rfl ⟨_, rfl, ⟨fun hz => ?_, fun hz => ?_⟩⟩)))))) (fr _ (by decide +kernel)) (by decide +kernel))))
    · have : V = [] := by
        have h1 := L2.V.int.inj (of_decide_eq_true hz)
        rw [List.length_map, List.length_map] at h1
        exact List.length_eq_zero_iff.mp (by omega)
      subst this
      exact xss_one (xs_ret (xe_bl q))
    · cases V with
      | nil => cases hz
      | cons r V' =>
        obtain ⟨gs, gm, gl⟩ := g.s (List.cons_ne_nil _ _)
        have bad : ((decide (r.1 < 1)) || ((r :: V').any fun x => decide (manyAt (r :: V') x.1 < x.2.1))) = true → fitsB (r :: V') h ms = false := fun e => by
          show (if (decide (r.1 < 1) || ((r :: V').any fun x => decide (manyAt (r :: V') x.1 < x.2.1))) = true then false else fillV (r :: V') h ms) = false
          rw [if_pos e]
        have good : ((decide (r.1 < 1)) || ((r :: V').any fun x => decide (manyAt (r :: V') x.1 < x.2.1))) = false → fitsB (r :: V') h ms = fillV (r :: V') h ms := fun e => by
          show (if (decide (r.1 < 1) || ((r :: V').any fun x => decide (manyAt (r :: V') x.1 < x.2.1))) = true then false else fillV (r :: V') h ms) = _
          rw [if_neg (by rw [e]; exact Bool.false_ne_true)]
        refine xss_nil (xss_cons (xs_if (XW.t (xw_or (xt_cmp (xe_ix (xe_var 3 rfl (xe_int (id_lst (d := intD r.1) .of (atI_nat (j := 0) rfl) (xe_int (od_lt ⟨_, rfl, ⟨fun h1 => ⟨fun _ => ?_, fun z => (by cases z)⟩, fun h1 => ?_⟩⟩)))))))))))
        · have : r.1 < 1 := by
            have := of_decide_eq_true h1
            omega
          refine xss_one (xs_ret (xe_bl ?_))
          rw [bad (by rw [decide_eq_true this]; rfl)] at q
          exact q
        · have hno : ¬ r.1 < 1 := by
            have := of_decide_eq_false h1
            omega
          refine xw_or1 (xt_val (xe_callB (id := "any") (xa_cons ?_) (fr _ (by decide +kernel)) (by decide +kernel)))
          refine xe_lc [("time", 4), ("upto", 5), ("got", 6)] (xi_val (xe_fV (mg := mg) (CF := CF) T 0 (xe_var 0 rfl ⟨_, _, .of, rfl, idt_lst ⟨_, ⟨rfl, rfl⟩, lc_pure (M := M') (fun _ => true) (fun d => .v (.bl (decide (manyAt (r :: V') (timeD d) < uptoD d)))) trivial (by rw [List.length_map]; have := g.v.len; omega) (fun d hd => ?_), lc_pure_end ?_⟩⟩))) (blkOk_by (by rfl))
          · obtain ⟨x, hx, rfl⟩ := List.mem_map.mp hd
            intro s0 H0 C cl0 fp
            refine xg_tup (xgs_cons (xg_name 4 (xgs_cons (xg_name 5 (xgs_cons (xg_name 6 (xgs_nil ?_)))))))
            intro s1 H1 C1 cl1 fp1
            refine xts_nil ⟨rfl, fun _ => ?_, fun z => by cases z⟩
            intro s2 H2 C2 cl2 fp2
            exact xe_cmp (xe_var 5 rfl (xe_mth Ma T.clV hr1 (xe_var 0 rfl ⟨nsV, _, .of, by decide, xa_cons (xe_var 4 rfl (xa_nil ⟨r :: V', _, rfl, g.v, List.cons_ne_nil _ _, od_gt ⟨rfl, rfl⟩⟩))⟩)))
          · have ea : (((r :: V').map rdD).filter fun _ => true).map (fun d => D.v (.bl (decide (manyAt (r :: V') (timeD d) < uptoD d)))) = ((r :: V').map fun x => decide (manyAt (r :: V') x.1 < x.2.1)).map fun b => D.v (.bl b) := by
              rw [List.filter_eq_self.mpr (fun _ _ => rfl), List.map_map, List.map_map]; rfl
            rw [ea]
            have ea2 : ((r :: V').map fun x => decide (manyAt (r :: V') x.1 < x.2.1)).any id = (r :: V').any fun x => decide (manyAt (r :: V') x.1 < x.2.1) := by rw [List.any_map]; rfl
            refine xa_nil (cd_any .of ⟨_, rfl, ⟨fun h2 => ?_, fun h2 => ?_⟩⟩)
            · rw [ea2] at h2
              refine xss_one (xs_ret (xe_bl ?_))
              rw [bad (by rw [h2, Bool.or_true])] at q
              exact q
            · rw [ea2] at h2
              rw [good (by rw [h2, decide_eq_false hno]; rfl)] at q
              refine xss_nil (xss_one (xs_ret (xe_lessE (xe_cmp ?_))))
              refine xe_mth0 Bd T.clF hr35 (xe_frz (C := CF) (ns := nsF) (xe_perm ?_))
              refine xe_mk Fi hr6 (xa_cons (xe_var 0 rfl (xa_cons (xe_var 1 rfl (xa_cons (xe_var 2 rfl (xa_nil fun i dx => ?_)))))))
              refine ⟨r :: V', h, ms, i, dx, M', rfl, rfl, gs.f, fun ka ma => ⟨rfl, ?_⟩⟩
              refine ⟨(i, .ins CF dx nsF [vObj CV (r :: V'), .v (.int h), .dct (knK (knOf (r :: V') ms)), .lst ((lowsOf (r :: V') h ms).map ptD), .lst ((highsOf (r :: V') h (knOf (r :: V') ms)).map ptD), .lst ((leftOf (r :: V') ms).map intD), .v (.ref ka), .v (.ref ma)]) :: (ma, MO.dct (knK ms)) :: (ka, MO.dct (knK (knOf (r :: V') ms))) :: M', ?_, i, dx, _, _, rfl, rfl, nsF, _, .of, by decide, r :: V', h, ms, ka, ma, M', rfl, rfl, gs, gl, fun hf rr mk ky hnr => ?_, fun hf => ?_⟩
              · exact ((List.Perm.swap _ _ _).cons _).trans (List.Perm.swap _ _ _)
              · refine xe_non (od_notN ⟨M', (List.sublist_cons_self _ _).trans (List.sublist_cons_self _ _), ?_⟩)
                rw [hf] at q
                rw [hnr]; exact q
              · refine xe_non (od_notN ⟨M', (List.sublist_cons_self _ _).trans (List.sublist_cons_self _ _), ?_⟩)
                rw [hf] at q
                exact q
/-! ### can_be, look_can_be -/
abbrev sCn : Stmt := topS 11
def wCn : Wp := fun ds M Q => ∃ (V : List Rr) (h : Int), ds = [.v (.int h), vwD V] ∧ GoodP V [] ∧ Q (.v (.bl (fitsB V h []))) M
theorem scCn : FnScope ["hold", "view"] ["hold", "view"] (defScope sCn) := ⟨rfl, rfl, rfl, by decide +kernel, rfl, by decide +kernel, by decide +kernel⟩
theorem xe_view {X : Cx} {e : Expr} {ρ : Dl.Env} {M : Mem} {Q : KE} {pos p : Pos} (Vi : CalC X.prog X.w X.K X.mg X.base 7 "View" CV (wVI CV)) (hr : Room 8 X.A) (h : XE X e ρ M fun d M1 => ∃ V, d = vwD V ∧ GoodV V ∧ Q (vObj CV V) M1) (hg : Gl X "View" := by rfl) (he : starEach [e] X.env = (false, eval e X.env) :: starEach [] X.env := by rfl) (hpl : (backTo pos (starEach [] X.env)).any (·.1) = false := by rfl) : XE X (.Call (.Name "View" p) [e] [] pos) ρ M Q :=
  xe_frz (C := CV) (ns := nsV) (xe_mk Vi hr (xa_cons (h.mono fun d M1 q => by
    obtain ⟨V, rfl, g, q⟩ := q
    exact xa_nil fun i dx => ⟨V, i, dx, M1, rfl, rfl, g, rfl, i, dx, _, M1, rfl, rfl, q⟩) he) hg (by decide) he hpl)
theorem ok_cn (T : Txt K mg CV CF) (Vi : CalC P w K mg base 7 "View" CV (wVI CV)) (Ft : CalG P w K mg base 37 "fits" (wFt CV)) (Df : DefG K mg "can_be" sCn) : CalG P w K mg base 38 "can_be" wCn := by
  refine CalG.mk' Df scCn (fun _ _ _ _ _ _ us hl => match us, hl with | [_, _], _ => rfl) (fun ds M QD h => by obtain ⟨_, _, rfl, _⟩ := h; rfl) fun f cdv A outer s H hr ds M QD h => ?_
  obtain ⟨V, h, rfl, g, q⟩ := h
  have hN := scCn.nd
  refine xss_one (xs_ret (xe_fn Ft hr (xa_cons (xe_view Vi (hr.mono (by omega)) (xe_var 1 rfl ⟨V, rfl, g.v, ?_⟩)))))
  refine xa_cons (xe_var 0 rfl (xa_cons (xe_frzK (xe_dctM fun l => ⟨l, _, M, rfl, rfl, xa_nil ⟨V, h, [], rfl, g, q⟩⟩))))
abbrev sLk : Stmt := topS 12
def wLk (CV : Addr) : Wp := fun ds M Q => ∃ (V : List Rr) (h : Int), ds = [.v (.int h), vwD V] ∧ GoodP V [] ∧ fitsB V h [] = true ∧ Q (vObj CV V) M
theorem scLk : FnScope ["hold", "view"] ["hold", "view"] (defScope sLk) := ⟨rfl, rfl, rfl, by decide +kernel, rfl, by decide +kernel, by decide +kernel⟩
theorem ok_lk (T : Txt K mg CV CF) (Vi : CalC P w K mg base 7 "View" CV (wVI CV)) (Cn : CalG P w K mg base 38 "can_be" wCn) (Df : DefG K mg "look_can_be" sLk) : CalG P w K mg base 39 "look_can_be" (wLk CV) := by
  refine CalG.mk' Df scLk (fun _ _ _ _ _ _ us hl => match us, hl with | [_, _], _ => rfl) (fun ds M QD h => by obtain ⟨_, _, rfl, _⟩ := h; rfl) fun f cdv A outer s H hr ds M QD h => ?_
  obtain ⟨V, h, rfl, g, hf, q⟩ := h
  have hN := scLk.nd
  refine xss_cons (xs_if (xt_not (xt_val (xe_fn Cn hr (xa_cons (xe_var 0 rfl (xa_cons (xe_var 1 rfl (xa_nil ⟨V, h, rfl, g, _, rfl, ⟨fun hz => ?_, fun _ => ?_⟩⟩)))))))))
  · rw [hf] at hz; cases hz
  · exact xss_nil (xss_one (xs_ret (xe_view Vi (hr.mono (by omega)) (xe_var 1 rfl ⟨V, rfl, g.v, q⟩))))
/-! ### missed_at -/
abbrev sMs : Stmt := topS 13
def wMs (CV : Addr) : Wp := fun ds M Q => ∃ (V : List Rr) (h : Int) (key : Str), ds = [vObj CV V, .v (.int h), .v (.str key)] ∧ GoodV V ∧ (∀ g ∈ gapsOf V, GoodP V [(g, key)]) ∧ Q (.lst ((missedL V h key).map intD)) M
abbrev nMs : List Str := ["view", "hold", "key", "held", "gap"]
theorem scMs : FnScope nMs ["view", "hold", "key"] (defScope sMs) := ⟨rfl, rfl, rfl, by decide +kernel, rfl, by decide +kernel, by decide +kernel⟩
theorem valD_heldK (acc : List (Str × Nat)) (k : Str) : valD (heldK acc) (Sum.inr k) = (acc.find? fun z => decide (z.1 = k)).map fun z => intD z.2 := by
  induction acc with
  | nil => rfl
  | cons z acc ih =>
    show valD ((Sum.inr z.1, intD z.2) :: heldK acc) _ = _
    rw [valD_cons, List.find?_cons]
    by_cases h : z.1 = k
    · subst h; simp
    · have : ¬ (Sum.inr z.1 : Key) = Sum.inr k := fun e => h (Sum.inr.inj e)
      rw [if_neg this, ih]
      simp [h]
theorem ok_ms (T : Txt K mg CV CF) (Hd : CalM P w K mg base 2 CV "held" (wHd CV)) (Gp : CalM P w K mg base 3 CV "gaps" (wGp CV)) (Ft : CalG P w K mg base 37 "fits" (wFt CV)) (Df : DefG K mg "missed_at" sMs) : CalG P w K mg base 38 "missed_at" (wMs CV) := by
  refine CalG.mk' Df scMs (fun _ _ _ _ _ _ us hl => match us, hl with | [_, _, _], _ => rfl) (fun ds M QD h => by obtain ⟨_, _, _, rfl, _⟩ := h; rfl) fun f cdv A outer s H hr ds M QD h => ?_
  obtain ⟨V, h, key, rfl, g, gm, q⟩ := h
  have hN := scMs.nd
  have hr2 := hr.mono (j := 2) (by omega)
  have hr3 := hr.mono (j := 3) (by omega)
  have hu : ∀ {Y : Cx}, Y.A = (cxB P w K mg base nMs "missed_at" sMs f cdv A outer s H).A → Y.A.units + 1 < cLine := fun {Y} e => by
    rw [e]
    have := hr.units
    omega
  refine xss_cons (xs_set 3 (xe_mth0 Hd T.clV hr2 (xe_var 0 rfl ⟨nsV, _, .of, by decide, V, rfl, g, ?_⟩)))
  refine xss_cons (xs_if (xt_cmp (xe_var 2 rfl (xe_var 3 rfl (od_dNotIn (k := Sum.inr key) (hu rfl) .of rfl ⟨_, rfl, ⟨fun hz => ?_, fun hz => ?_⟩⟩)))))
  · rw [valD_heldK, Option.isSome_map] at hz
    unfold missedL at q
    cases hf : (heldOf (rowsOf V)).find? (fun z => decide (z.1 = key)) with
    | none =>
      rw [hf] at q
      exact xss_one (xs_ret (xe_lst (xa_nil ⟨by decide, q⟩)))
    | some z => rw [hf] at hz; cases hz
  · rw [valD_heldK, Option.isSome_map] at hz
    cases hf : (heldOf (rowsOf V)).find? (fun z => decide (z.1 = key)) with
    | none => rw [hf] at hz; cases hz
    | some z =>
      unfold missedL at q
      rw [hf] at q
      have hgl : (gapsOf V).length < 100000 := by
        have := List.length_filter_le (fun p => decide (p ∉ places V)) (List.range (tms V).length)
        have h2 := tms_len V g
        rw [List.length_range] at this
        unfold gapsOf
        omega
      refine xss_nil (xss_one (xs_ret (xe_lc [("gap", 4)] (xi_val (xe_mth0 Gp T.clV hr3 (xe_var 0 rfl ⟨nsV, _, .of, by decide, V, rfl, g, idt_lst ⟨_, ⟨rfl, rfl⟩, lc_pure (M := M) (fun d => decide (z.2 < natD d) && fitsB V h [(natD d, key)]) id trivial (by rw [List.length_map]; exact hgl) (fun d hd => ?_), lc_pure_end ?_⟩⟩))) (blkOk_by (by rfl)))))
      · obtain ⟨p, hp, rfl⟩ := List.mem_map.mp hd
        have e1 := int_cast0 p
        intro s0 H0 C cl0 fp
        refine xg_name 4 ?_
        intro s1 H1 C1 cl1 fp1
        refine xts_one (XW.t (xw_and (xt_cmp (xe_var 4 rfl (xe_ix (xe_var 3 rfl (xe_var 2 rfl (id_dct (k := Sum.inr key) (hu rfl) .of rfl (by rw [valD_heldK, hf]; rfl) (od_gt ⟨_, rfl, ⟨fun hc => ?_, fun hc => ?_⟩⟩)))))))))
        · have hlt : z.2 < p := by
            have := of_decide_eq_true hc
            omega
          refine xw_and1 (xt_val (xe_fn Ft (hr.mono (by omega)) (xa_cons (xe_var 0 rfl (xa_cons (xe_var 1 rfl (xa_cons (xe_frzK (xe_disp [(.Name "gap" _, .Name "key" _)] 0 fun l => xe_var 4 rfl ⟨Sum.inl (p : Int), rfl, xe_var 2 rfl ⟨rfl, Nat.le_of_ble_eq_true rfl, l, _, M, rfl, rfl, ?_⟩⟩)))))))))
          refine xa_nil ⟨V, h, [(p, key)], rfl, gm p hp, _, rfl, ⟨?_, fun _ => ?_, fun _ => rfl⟩⟩
          · show fitsB V h [(p, key)] = (decide (z.2 < natD (intD p)) && fitsB V h [(natD (intD p), key)])
            rw [e1, decide_eq_true hlt, Bool.true_and]
          · intro s2 H2 C2 cl2 fp2
            exact xe_var 4 rfl ⟨rfl, rfl⟩
        · have hlt : ¬ z.2 < p := by
            have := of_decide_eq_false hc
            omega
          refine ⟨?_, fun z' => ?_, fun _ => rfl⟩
          · show false = (decide (z.2 < natD (intD p)) && fitsB V h [(natD (intD p), key)])
            rw [e1, decide_eq_false hlt]; rfl
          · have z2 : (decide (z.2 < natD (intD p)) && fitsB V h [(natD (intD p), key)]) = true := z'
            rw [e1, decide_eq_false hlt] at z2; cases z2
      · have e : (((gapsOf V).map intD).filter fun d => decide (z.2 < natD d) && fitsB V h [(natD d, key)]).map id = ((gapsOf V).filter fun g => decide (z.2 < g) && fitsB V h [(g, key)]).map intD := by
          rw [List.map_id, List.filter_map]
          congr 1
        rw [e]
        exact q
/-! ### missed_places -/
abbrev sMp : Stmt := topS 15
def wMp : Wp := fun ds M Q => ∃ (V : List Rr) (h : Int) (key : Str), ds = [.v (.int h), vwD V, .v (.str key)] ∧ GoodP V [] ∧ fitsB V h [] = true ∧ (∀ g ∈ gapsOf V, GoodP V [(g, key)]) ∧ Q (.lst ((missedL V h key).map intD)) M
theorem scMp : FnScope ["hold", "view", "key"] ["hold", "view", "key"] (defScope sMp) := ⟨rfl, rfl, rfl, by decide +kernel, rfl, by decide +kernel, by decide +kernel⟩
theorem ok_mp (T : Txt K mg CV CF) (Lk : CalG P w K mg base 39 "look_can_be" (wLk CV)) (Ms : CalG P w K mg base 38 "missed_at" (wMs CV)) (Df : DefG K mg "missed_places" sMp) : CalG P w K mg base 40 "missed_places" wMp := by
  refine CalG.mk' Df scMp (fun _ _ _ _ _ _ us hl => match us, hl with | [_, _, _], _ => rfl) (fun ds M QD h => by obtain ⟨_, _, _, rfl, _⟩ := h; rfl) fun f cdv A outer s H hr ds M QD h => ?_
  obtain ⟨V, h, key, rfl, g, hf, gm, q⟩ := h
  have hN := scMp.nd
  exact xss_one (xs_ret (xe_fn Ms (hr.mono (by omega)) (xa_cons (xe_fn Lk hr (xa_cons (xe_var 0 rfl (xa_cons (xe_var 1 rfl (xa_nil ⟨V, h, rfl, g, hf, xa_cons (xe_var 0 rfl (xa_cons (xe_var 2 rfl (xa_nil ⟨V, h, key, rfl, g.v, gm, q⟩))))⟩)))))))))
/-! ### held_by -/
abbrev sHb : Stmt := topS 14
def wHb : Wp := fun ds M Q => ∃ (V : List Rr), ds = [vwD V] ∧ GoodV V ∧ ∀ ys : List (Str × D), (ys.map (·.1)).Perm ((heldOf (rowsOf V)).map (·.1)) → ys.Pairwise (fun p q => skStr.lt q.1 p.1 = false) → Q (.lst (ys.map (pairD skStr))) M
abbrev nHb : List Str := ["view", "own", "got", "key", "place"]
theorem scHb : FnScope nHb ["view"] (defScope sHb) := ⟨rfl, rfl, rfl, by decide +kernel, rfl, by decide +kernel, by decide +kernel⟩
theorem held_mem {rs : List Rw} : ∀ (acc : List (Str × Nat)) (z : Str × Nat), z ∈ rs.foldl heldF acc → z ∈ acc ∨ ∃ r ∈ rs, r.1 = z.2 ∧ r.2.1 = z.1 := by
  induction rs with
  | nil => intro acc z h; exact .inl h
  | cons r rs ih =>
    intro acc z h
    rcases ih (heldF acc r) z h with h | ⟨x, hx, e⟩
    · unfold heldF at h
      split at h
      · rcases List.mem_append.mp h with h | h
        · exact .inl (List.mem_filter.mp h).1
        · simp only [List.mem_singleton] at h
          subst h
          exact .inr ⟨r, List.mem_cons_self, rfl, rfl⟩
      · exact .inl (List.mem_filter.mp h).1
    · exact .inr ⟨x, List.mem_cons_of_mem _ hx, e⟩
theorem held_nd (rs : List Rw) : ∀ acc : List (Str × Nat), (acc.map (·.1)).Nodup → ((rs.foldl heldF acc).map (·.1)).Nodup := by
  induction rs with
  | nil => intro acc h; exact h
  | cons r rs ih =>
    intro acc h
    refine ih _ ?_
    have hf : ((acc.filter fun z => decide (z.1 ≠ r.2.1)).map (·.1)).Nodup := h.sublist (List.filter_sublist.map _)
    unfold heldF
    split
    · rw [List.map_append, List.nodup_append]
      refine ⟨hf, by simp, fun a ha b hb e => ?_⟩
      obtain ⟨z, hz, rfl⟩ := List.mem_map.mp ha
      have h1 : z.1 ≠ r.2.1 := by simpa using (List.mem_filter.mp hz).2
      have h2 : b = r.2.1 := by simpa using hb
      exact h1 (e.trans h2)
    · exact hf
theorem valD_row {rs : List Rw} (h : rs.Pairwise fun a b => a.1 < b.1) {r : Rw} (hr : r ∈ rs) : valD (rs.map gotK) (Sum.inl (r.1 : Int)) = some (kvD r.2) := by
  obtain ⟨i, hi⟩ := List.mem_iff_getElem?.mp hr
  refine valD_at (j := i) ?_ (by rw [List.getElem?_map, hi]; rfl)
  rw [List.map_map, List.Nodup, List.pairwise_map]
  exact h.imp fun {a b} hab e => by
    have h1 := gotK_inj (a := a) (b := b) e
    omega
theorem ok_hb (T : Txt K mg CV CF) (Sn : ShortName K CV) (Nk : NoAttr K CV "keys") (It : CalI P w K mg base 1 CV nsV 3) (Vi : CalC P w K mg base 7 "View" CV (wVI CV)) (Hd : CalM P w K mg base 2 CV "held" (wHd CV)) (Df : DefG K mg "held_by" sHb) : CalG P w K mg base 9 "held_by" wHb := by
  refine CalG.mk' Df scHb (fun _ _ _ _ _ _ us hl => match us, hl with | [_], _ => rfl) (fun ds M QD h => by obtain ⟨_, rfl, _⟩ := h; rfl) fun f cdv A outer s H hr ds M QD h => ?_
  obtain ⟨V, rfl, g, q⟩ := h
  have hN := scHb.nd
  have fr := T.free
  have hr2 := hr.mono (j := 2) (by omega)
  have hr3 := hr.mono (j := 3) (by omega)
  have hsm := g.small
  have hu : ∀ {Y : Cx}, Y.A = (cxB P w K mg base nHb "held_by" sHb f cdv A outer s H).A → Y.A.units + 1 < cLine := fun {Y} e => by
    rw [e]
    have := hr.units
    omega
  have em : mergeD [] ((rowsOf V).map gotK) = (rowsOf V).map gotK := by
    have := mergeD_rows (as := []) (bs := rowsOf V) (by rw [List.nil_append]; exact g.rise)
    exact this
  have hall : ∀ z ∈ heldOf (rowsOf V), ∃ r ∈ rowsOf V, r.1 = z.2 ∧ r.2.1 = z.1 := fun z hz => by
    rcases held_mem [] z hz with h | h
    · cases h
    · exact h
  refine xss_cons (xs_set 1 (xe_view Vi hr (xe_var 0 rfl ⟨V, rfl, g, ?_⟩)))
  refine xss_cons (xs_set 2 (xe_callT (T := "dict") (xa_cons (xe_var 1 rfl (xa_nil (cd_dictOwn It hr3 Sn T.clV Nk (by decide) (rows := (rowsOf V).map gotK) rfl (by rw [List.map_map]; rfl) (by rw [List.length_map]; omega) fun l => ?_)))) (fr _ (by decide +kernel)) (by decide +kernel)))
  rw [em]
  refine xss_one (xs_ret (xe_lessE (xe_callB (id := "sorted") (xa_cons ?_) (fr _ (by decide +kernel)) (by decide +kernel))))
  refine xe_lc [("key", 3), ("place", 4)] (xi_items (xe_mth0 Hd T.clV hr2 (xe_var 1 rfl ⟨nsV, _, .of, by decide, V, rfl, g, _, rfl, _, ⟨rfl, rfl⟩, lc_pure (M := (l, MO.dct ((rowsOf V).map gotK)) :: M) (fun _ => true) (fun d => match d with | .tup [.v (.str k), .v (.int p)] => .tup [.v (.str k), (match valD ((rowsOf V).map gotK) (Sum.inl p) with | some (.tup [_, x]) => x | _ => .v .non)] | d => d) trivial ?_ (fun d hd => ?_), lc_pure_end ?_⟩))) (blkOk_by (by rfl))
  · rw [List.length_map, heldK, List.length_map]
    have := held_len (rowsOf V) []
    unfold heldOf
    rw [List.length_nil] at this
    omega
  · obtain ⟨kv, hkv, rfl⟩ := List.mem_map.mp hd
    obtain ⟨z, hz, rfl⟩ := List.mem_map.mp hkv
    obtain ⟨r, hrm, e1, e2⟩ := hall z hz
    have hv : valD ((rowsOf V).map gotK) (Sum.inl (z.2 : Int)) = some (kvD r.2) := by rw [← e1]; exact valD_row g.rise hrm
    intro s0 H0 C cl0 fp
    refine xg_tup (xgs_cons (xg_name 3 (xgs_cons (xg_name 4 (xgs_nil ?_)))))
    intro s1 H1 C1 cl1 fp1
    refine xts_nil ⟨rfl, fun _ => ?_, fun z => by cases z⟩
    intro s2 H2 C2 cl2 fp2
    refine xe_tup (xa_cons (xe_var 3 rfl (xa_cons (xe_ix (xe_ix (xe_var 2 rfl (xe_var 4 rfl (id_dct (k := Sum.inl (z.2 : Int)) (hu rfl) (.m 0 rfl) rfl hv (xe_int (id_tup (d := optD r.2.2) (atI_nat (j := 1) rfl) (xa_nil ⟨Nat.le_of_ble_eq_true rfl, ?_, rfl⟩)))))))))))
    show D.tup [.v (.str z.1), optD r.2.2] = D.tup [.v (.str z.1), (match valD ((rowsOf V).map gotK) (Sum.inl (z.2 : Int)) with | some (.tup [_, x]) => x | _ => .v .non)]
    rw [hv]; rfl
  · have eq : (((heldK (heldOf (rowsOf V))).map fun kv => D.tup [.v (kV kv.1), kv.2]).filter fun _ => true).map (fun d => match d with | .tup [.v (.str k), .v (.int p)] => D.tup [.v (.str k), (match valD ((rowsOf V).map gotK) (Sum.inl p) with | some (.tup [_, x]) => x | _ => .v .non)] | d => d) =
        ((heldOf (rowsOf V)).map fun z => (z.1, (match valD ((rowsOf V).map gotK) (Sum.inl (z.2 : Int)) with | some (.tup [_, x]) => x | _ => D.v .non))).map (pairD skStr) := by
      rw [List.filter_eq_self.mpr (fun _ _ => rfl), heldK, List.map_map, List.map_map, List.map_map]
      rfl
    rw [eq]
    refine xa_nil (cd_sortedKP (S := skStr) .of ?_ fun qs pq srt => ⟨M, List.sublist_cons_self _ _, q qs ?_ srt⟩)
    · rw [List.map_map]
      exact held_nd (rowsOf V) [] List.nodup_nil
    · have := pq.map (·.1)
      rw [List.map_map] at this
      exact this
end
end Mm
end
section
set_option maxHeartbeats 2000000
/-! W10: the law's box, what is taken of it. -/
namespace Dl
open PySem PySem.Spec PyProof.Rows L2
section
variable {X : Cx} {ρ : Env} {M : Mem} {Q : KE}
/-- xs[k] = d -/
theorem sd_lst (i : Nat) {a : Addr} {ds : List D} {d : D} {k : Nat} {Q : Mem → Prop} (hm : M[i]? = some (a, .lst ds)) (hk : k < ds.length) (q : Q (M.set i (a, .lst (ds.set k d)))) : SetD X (.v (.ref a)) (.v (.int (k : Int))) d M Q := fun F H x y' z s r1 r2 r R kk => by
  cases r1; cases r2
  obtain ⟨hF, xs, e, ra⟩ := s.at hm
  intro pins s0 σ ov iv u I ro ri rv
  refine set_list pins s0 σ H _ _ _ ov iv u _ I ro ri rv ⟨a, xs, k, k, rfl, rfl, e, ?_, ?_⟩
  · unfold ixN
    rw [ra.length, if_pos (Int.natCast_nonneg k), if_pos (by omega), Int.toNat_natCast]
  · obtain ⟨s2, st2⟩ := s.write (m := .lst (ds.set k d)) (u := .lst (xs.set k z)) hm ⟨_, upd_same, ra.set r k⟩
    exact kk _ _ _ q st2 s2
end
end Dl
namespace Mm
open PySem PySem.Spec PyProof.Rows L2 Dl
section
variable {X : Cx} {e : Expr} {ρ : Dl.Env} {M : Mem} {Q : KE} {pos : Pos}
theorem cd_abs {i : Int} (q : Q (.v (.int (if i < 0 then -i else i))) M) : CallD X (.builtin "abs") [.v (.int i)] M Q := fun F H xs s r R k => by
  cases r with
  | cons r1 r =>
    cases r; cases r1
    exact CallR.w call_abs ⟨i, rfl, k _ _ M F H q (Step.refl _ _ _) s (.v _)⟩
/-- int(e) -/
theorem xe_toI {p : Pos} (h : XE X e ρ M fun d M1 => (∃ i, d = .v (.int i) ∧ Q (.v (.int i)) M1)) (hm : X.mg "int" = none) (hg : Gl X "int" := by rfl)
    (he : starEach (e :: []) X.env = (false, eval e X.env) :: starEach [] X.env := by rfl) (hpl : (backTo pos (starEach [] X.env)).any (·.1) = false := by rfl) : XE X (.Call (.Name "int" p) [e] [] pos) ρ M Q :=
  xe_callT (T := "int") (xa_cons (h.mono fun d M1 q => by
    obtain ⟨i, rfl, q⟩ := q
    exact xa_nil (cd_intI q)) he) hm (by decide +kernel) hg (by decide) (by decide) he hpl
theorem xe_toIb {p : Pos} (h : XE X e ρ M fun d M1 => (∃ b, d = .v (.bl b) ∧ Q (.v (.int (b2i b))) M1)) (hm : X.mg "int" = none) (hg : Gl X "int" := by rfl)
    (he : starEach (e :: []) X.env = (false, eval e X.env) :: starEach [] X.env := by rfl) (hpl : (backTo pos (starEach [] X.env)).any (·.1) = false := by rfl) : XE X (.Call (.Name "int" p) [e] [] pos) ρ M Q :=
  xe_callT (T := "int") (xa_cons (h.mono fun d M1 q => by
    obtain ⟨i, rfl, q⟩ := q
    exact xa_nil (cd_intB q)) he) hm (by decide +kernel) hg (by decide) (by decide) he hpl
theorem xe_abs {p : Pos} (h : XE X e ρ M fun d M1 => (∃ i, d = .v (.int i) ∧ Q (.v (.int (if i < 0 then -i else i))) M1)) (hm : X.mg "abs" = none) (hg : Gl X "abs" := by rfl)
    (he : starEach (e :: []) X.env = (false, eval e X.env) :: starEach [] X.env := by rfl) (hpl : (backTo pos (starEach [] X.env)).any (·.1) = false := by rfl) : XE X (.Call (.Name "abs" p) [e] [] pos) ρ M Q :=
  xe_callB (id := "abs") (xa_cons (h.mono fun d M1 q => by
    obtain ⟨i, rfl, q⟩ := q
    exact xa_nil (cd_abs q)) he) hm (by decide +kernel) hg (by decide) (by decide) he hpl
theorem xe_len {p : Pos} (h : XE X e ρ M fun d M1 => ∃ ds, (SeesL M1 d ds ∨ d = .tup ds) ∧ Q (.v (.int ds.length)) M1) (hm : X.mg "len" = none) (hg : Gl X "len" := by rfl)
    (he : starEach (e :: []) X.env = (false, eval e X.env) :: starEach [] X.env := by rfl) (hpl : (backTo pos (starEach [] X.env)).any (·.1) = false := by rfl) : XE X (.Call (.Name "len" p) [e] [] pos) ρ M Q :=
  xe_callB (id := "len") (xa_cons (h.mono fun d M1 q => by
    obtain ⟨i, h, q⟩ := q
    rcases h with h | rfl
    · exact xa_nil (cd_len h q)
    · exact xa_nil (cd_lenT q)) he) hm (by decide +kernel) hg (by decide) (by decide) he hpl
end
theorem b2i_sm (b : Bool) : -(2 ^ 64) < b2i b ∧ b2i b < 2 ^ 64 := by cases b <;> exact ⟨by decide, by decide⟩
theorem b2i_nn (b : Bool) : 0 ≤ b2i b := by cases b <;> decide
/-- the box: what is left of the number, the seed, how often -/
def BxOk (n : Nat) (ds : List D) : Prop := ∃ a s c : Int, ds = [.v (.int a), .v (.int s), .v (.int c)] ∧ 0 ≤ a ∧ 0 ≤ s ∧ s < 2147483563 ∧ 0 ≤ c ∧ c ≤ n
section
variable {P : Program} {w : World} {K : PySem.W.Frag} {mg : Str → Option Value} {base : Heap} {CV CF : Addr}
abbrev sBox : Stmt := topS 17
def wBox : Wp := fun ds M Q => ∃ (xs : List Int) (k : Nat), ds = [.lst (xs.map fun i => .v (.int i)), intD k] ∧ ∀ l b, BxOk 0 b → Q (.v (.ref l)) ((l, .lst b) :: M)
abbrev nBox : List Str := ["_law_script", "_law_k", "_law_cell", "_law_seed"]
theorem scBox : FnScope nBox ["_law_script", "_law_k"] (defScope sBox) := ⟨rfl, rfl, rfl, by decide +kernel, rfl, by decide +kernel, by decide +kernel⟩
theorem ok_box (T : Txt K mg CV CF) (Df : DefG K mg "_law_box" sBox) : CalG P w K mg base 1 "_law_box" wBox := by
  refine CalG.mk' Df scBox (fun _ _ _ _ _ _ us hl => match us, hl with | [_, _], _ => rfl) (fun ds M QD h => by obtain ⟨_, _, rfl, _⟩ := h; rfl) fun f cdv A outer s H hr ds M QD h => ?_
  obtain ⟨xs, k, rfl, q⟩ := h
  have hN := scBox.nd
  have fr := T.free
  have fi := fr "int" (by decide +kernel)
  have fa := fr "abs" (by decide +kernel)
  have fl := fr "len" (by decide +kernel)
  refine xss_cons (xs_set 2 (XE.mono (Q := fun d M' => ∃ i : Int, d = .v (.int i) ∧ M' = M) (xe_if (xt_cmp (xe_var 1 rfl (xe_len (xe_var 0 rfl ⟨_, .inl .of, od_lt ⟨_, rfl, ⟨fun hz => ?_, fun hz => ?_⟩⟩⟩) fl)))) fun d M' q' => ?_))
  · have hk := of_decide_eq_true hz
    rw [List.length_map] at hk
    have hk : k < xs.length := by omega
    exact xe_ix (xe_var 0 rfl (xe_var 1 rfl (id_lst (d := .v (.int xs[k])) .of (atI_nat (by rw [List.getElem?_map, List.getElem?_eq_getElem hk]; rfl)) ⟨_, rfl, rfl⟩)))
  · exact xe_int ⟨0, rfl, rfl⟩
  · obtain ⟨i, rfl, rfl⟩ := q'
    refine xss_cons (xs_set 3 (xe_bin (xe_toI (xe_bin (xe_bin (xe_bin (xe_bin (xe_toI (xe_var 2 rfl ⟨_, rfl, ?_⟩) fi))))) fi)))
    refine xe_int (od_mod (by decide) (xe_bin (xe_int (xe_var 1 rfl (od_mul (.inl ⟨by decide, by decide⟩) (od_add (xe_int (od_add (xe_int (od_mul (.inr ⟨by decide, by decide⟩) ⟨_, rfl, xe_int (od_mod (by decide) ?_)⟩))))))))))
    refine xss_one (xs_ret (xe_lstM (xa_cons (xe_bin (xe_abs (xe_var 2 rfl ⟨_, rfl, ?_⟩) fa)))))
    refine xe_toIb (xe_cmp (xe_abs (xe_var 2 rfl ⟨_, rfl, ?_⟩) fa)) fi
    refine xe_bin (xe_int (xe_int (od_pow (by refine ⟨by decide, by decide, by decide⟩) (od_ge ⟨_, rfl, ?_⟩))))
    refine od_mul (.inr ?_) (xa_cons (xe_var 3 rfl (xa_cons (xe_int (xa_nil ⟨Nat.le_of_ble_eq_true rfl, fun l => q l _ ⟨_, _, 0, rfl, ?_, ?_, ?_, by decide, by decide⟩⟩)))))
    · exact b2i_sm _
    · exact Int.mul_nonneg (by split <;> omega) (b2i_nn _)
    · exact Int.emod_nonneg _ (by decide)
    · exact Int.emod_lt_of_pos _ (by decide)
/-! ### take, of -/
abbrev sTk : Stmt := topS 18
def wTk : Wp := fun ds M Q => ∃ (i : Nat) (l : Addr) (b : List D) (n span : Nat), ds = [.v (.ref l), .v (.int span)] ∧ M[i]? = some (l, .lst b) ∧ BxOk n b ∧ n < 1000000 ∧ 0 < span ∧ span < 1073741824 ∧ ∀ b' k, BxOk (n + 1) b' → k < span → Q (intD k) (M.set i (l, .lst b'))
abbrev nTk : List Str := ["_law_box_here", "_law_span", "_law_found", "_law_once", "_law_odd"]
theorem scTk : FnScope nTk ["_law_box_here", "_law_span"] (defScope sTk) := ⟨rfl, rfl, rfl, by decide +kernel, rfl, by decide +kernel, by decide +kernel⟩
theorem set_at {M : Mem} {i : Nat} {l : Addr} {o o' : MO} (h : M[i]? = some (l, o)) : (M.set i (l, o'))[i]? = some (l, o') := by
  rw [List.getElem?_set_self (List.getElem?_eq_some_iff.mp h).1]
theorem ok_tk (T : Txt K mg CV CF) (Df : DefG K mg "_law_take" sTk) : CalG P w K mg base 1 "_law_take" wTk := by
  refine CalG.mk' Df scTk (fun _ _ _ _ _ _ us hl => match us, hl with | [_, _], _ => rfl) (fun ds M QD h => by obtain ⟨_, _, _, _, _, rfl, _⟩ := h; rfl) fun f cdv A outer s H hr ds M QD h => ?_
  obtain ⟨i, l, b, n, span, rfl, hm, ⟨a, se, c, rfl, ha, hs0, hs, hc0, hc⟩, hn, hsp0, hsp, q⟩ := h
  have hN := scTk.nd
  have fr := T.free
  have fi := fr "int" (by decide +kernel)
  refine xss_cons (xs_if (xt_cmp (xe_ix (xe_var 0 rfl (xe_int (id_lst (d := .v (.int a)) (.m i hm) (atI_nat (j := 0) rfl) (xe_int (od_gt ⟨_, rfl, ⟨fun hz => ?_, fun hz => ?_⟩⟩))))))))
  · refine xss_cons (xs_set 2 (xe_bin (xe_toI (xe_ix (xe_var 0 rfl (xe_int (id_lst (d := .v (.int a)) (.m i hm) (atI_nat (j := 0) rfl) ⟨_, rfl, xe_var 1 rfl (od_mod (by omega) ?_)⟩)))) fi)))
    refine xss_cons (xs_asg [] (xe_bin (xe_ix (xe_var 0 rfl (xe_int (id_lst (d := .v (.int a)) (.m i hm) (atI_nat (j := 0) rfl) (xe_var 1 rfl (od_fdiv ⟨by omega, by omega⟩ (xg_sub (xe_var 0 rfl (xe_int (sd_lst (k := 0) i hm (Nat.le_of_ble_eq_true rfl) ?_))))))))))))
    refine xss_one (xs_ret (xe_var 2 rfl ?_))
    have e : a % (span : Int) = ((a % (span : Int)).toNat : Int) := (Int.toNat_of_nonneg (Int.emod_nonneg _ (by omega))).symm
    have h2 := Int.emod_lt_of_pos a (show (0 : Int) < span by omega)
    rw [e]
    exact q _ _ ⟨a / span, se, c, rfl, Int.ediv_nonneg ha (by omega), hs0, hs, hc0, by omega⟩ (by omega)
  · refine xss_nil (xss_cons (xs_asg [] (xe_bin (xe_ix (xe_var 0 rfl (xe_int (id_lst (d := .v (.int c)) (.m i hm) (atI_nat (j := 2) rfl) (xe_int (od_add (xg_sub (xe_var 0 rfl (xe_int (sd_lst (k := 2) i hm (Nat.le_of_ble_eq_true rfl) ?_)))))))))))))
    have hm2 := set_at (o' := MO.lst [.v (.int a), .v (.int se), .v (.int (c + 1))]) hm
    refine xss_cons (xs_set 3 (xe_bin (xe_toI (xe_bin (xe_bin ?_)) fi)))
    refine xe_ix (xe_var 0 rfl (xe_int (id_lst (d := .v (.int se)) (.m i hm2) (atI_nat (j := 1) rfl) ?_)))
    refine xe_bin (xe_int (xe_ix (xe_var 0 rfl (xe_int (id_lst (d := .v (.int (c + 1))) (.m i hm2) (atI_nat (j := 2) rfl) (od_mul (.inl ⟨by decide, by decide⟩) ?_))))))
    refine od_add (xe_int (od_pow ⟨by decide, by decide, ?_⟩ ⟨_, rfl, xe_int (od_mod (by decide) ?_)⟩))
    · omega
    refine xss_cons (xs_set 4 (xe_bin (xe_bin (xe_toI (xe_var 3 rfl ⟨_, rfl, xe_int (od_mod (by decide) (xe_int (od_add ?_)))⟩) fi))))
    have b1 : ∀ z : Int, 0 ≤ z % 2147483549 ∧ z % 2147483549 < 2147483549 := fun z => ⟨Int.emod_nonneg _ (by decide), Int.emod_lt_of_pos _ (by decide)⟩
    refine xss_one (xs_ret (xe_bin (xe_toI (xe_bin (xe_bin (xe_toI (xe_bin ?_) fi))) fi)))
    refine xe_bin (xe_var 3 rfl (xe_var 4 rfl (od_mul (.inl ⟨?_, ?_⟩) ?_)))
    rotate_left 2
    refine xe_bin (xe_ix (xe_var 0 rfl (xe_int (id_lst (d := .v (.int (c + 1))) (.m i hm2) (atI_nat (j := 2) rfl) (xe_int (od_mul (.inr ⟨by decide, by decide⟩) (od_add ⟨_, rfl, ?_⟩)))))))
    refine xe_int (od_mod (by decide) (xe_int (od_fdiv ⟨by decide, by decide⟩ ⟨_, rfl, xe_var 1 rfl (od_mod (by omega) ?_)⟩)))
    rotate_left 1
    · have := (b1 ((se + 54319 * (c + 1)) ^ (3 : Int).toNat)).1
      omega
    · have := (b1 ((se + 54319 * (c + 1)) ^ (3 : Int).toNat)).2
      omega
    · generalize hX : ((_ : Int) % (2147483629 : Int) / 32) = x
      have e : x % (span : Int) = ((x % (span : Int)).toNat : Int) := (Int.toNat_of_nonneg (Int.emod_nonneg _ (by omega))).symm
      have h2 := Int.emod_lt_of_pos x (show (0 : Int) < span by omega)
      rw [e]
      exact q _ _ ⟨a, se, c + 1, rfl, ha, hs0, hs, by omega, by omega⟩ (by omega)
/-- xs[take]: one of them -/
abbrev sOf : Stmt := topS 19
def wOf : Wp := fun ds M Q => ∃ (i : Nat) (l : Addr) (b : List D) (n : Nat) (xs : List D), ds = [.v (.ref l), .lst xs] ∧ M[i]? = some (l, .lst b) ∧ BxOk n b ∧ n < 1000000 ∧ 0 < xs.length ∧ xs.length < 100000 ∧ ∀ b' d, BxOk (n + 1) b' → d ∈ xs → Q d (M.set i (l, .lst b'))
abbrev nOf : List Str := ["_law_box_here", "_law_some_here"]
theorem scOf : FnScope nOf nOf (defScope sOf) := ⟨rfl, rfl, rfl, by decide +kernel, rfl, by decide +kernel, by decide +kernel⟩
theorem ok_of (T : Txt K mg CV CF) (Tk : CalG P w K mg base 1 "_law_take" wTk) (Df : DefG K mg "_law_of" sOf) : CalG P w K mg base 2 "_law_of" wOf := by
  refine CalG.mk' Df scOf (fun _ _ _ _ _ _ us hl => match us, hl with | [_, _], _ => rfl) (fun ds M QD h => by obtain ⟨_, _, _, _, _, rfl, _⟩ := h; rfl) fun f cdv A outer s H hr ds M QD h => ?_
  obtain ⟨i, l, b, n, xs, rfl, hm, hb, hn, h0, h1, q⟩ := h
  have hN := scOf.nd
  have fl := T.free "len" (by decide +kernel)
  refine xss_one (xs_ret (xe_ix (xe_var 1 rfl (xe_fn Tk hr (xa_cons (xe_var 0 rfl (xa_cons (xe_len (xe_var 1 rfl ⟨xs, .inl .of, ?_⟩) fl))))))))
  refine xa_nil ⟨i, l, b, n, xs.length, rfl, hm, hb, hn, h0, by omega, fun b' k hb' hk => ?_⟩
  exact id_lst (d := xs[k]) .of (atI_nat (List.getElem?_eq_getElem hk)) (q b' _ hb' (List.getElem_mem hk))
end
end Mm
end
section
set_option maxHeartbeats 2000000
/-! W11: the law's own log: its state, leave. -/
namespace Mm
open PySem PySem.Spec PyProof.Rows L2 Dl
/-- the log as the law keeps it -/
structure LW where
  rows : List (Str × Option Int)
  gone : Nat → Bool
  since : Nat → Option Nat
  seats : Nat → Option Nat
  copies : List Nat
  heard : List D
structure LwE (w : LW) (n : Nat) (gk sk pk tk : List (Key × D)) (cs : List D) (ts : Mem) : Prop where
  hg : ∀ k : Nat, (valD gk (Sum.inl (k : Int))).isSome = w.gone k
  hs : ∀ k : Nat, valD sk (Sum.inl (k : Int)) = (w.since k).map intD
  hp : ∀ p : Nat, valD pk (Sum.inl (p : Int)) = (w.seats p).map intD
  ht : ∀ p : Nat, (w.seats p).isSome = true → ∃ (b : Addr) (k : Nat) (kds : List (Key × D)), valD tk (Sum.inl (p : Int)) = some (.v (.ref b)) ∧ ts[k]? = some (b, MO.dct kds) ∧ kds.length ≤ n
  hl : cs.length = w.copies.length
  hc : ∀ (i s : Nat), w.copies[i]? = some s → ∃ kds, cs[i]? = some (.tup [intD s, .dct kds]) ∧ kds.length ≤ n
  ng : gk.length ≤ n
  ns : sk.length ≤ n
  np : pk.length ≤ n
  nt : tk.length ≤ n
  nc : cs.length ≤ n
  nr : w.rows.length ≤ n
  nh : w.heard.length ≤ n
abbrev wK (ar ag as ap at' ac ah : Addr) : List (Key × D) := [(Sum.inr "rows", .v (.ref ar)), (Sum.inr "gone", .v (.ref ag)), (Sum.inr "since", .v (.ref as)), (Sum.inr "seats", .v (.ref ap)), (Sum.inr "tables", .v (.ref at')), (Sum.inr "copies", .v (.ref ac)), (Sum.inr "heard", .v (.ref ah))]
abbrev wM (a ar ag as ap at' ac ah : Addr) (w : LW) (gk sk pk tk : List (Key × D)) (cs : List D) (ts M0 : Mem) : Mem :=
  (a, .dct (wK ar ag as ap at' ac ah)) :: (ar, .lst (w.rows.map kvD)) :: (ag, .dct gk) :: (as, .dct sk) :: (ap, .dct pk) :: (at', .dct tk) :: (ac, .lst cs) :: (ah, .lst w.heard) :: (ts ++ M0)
def LwM (a ah : Addr) (w : LW) (n : Nat) (M0 M : Mem) : Prop := ∃ ar ag as ap at' ac gk sk pk tk cs ts, M = wM a ar ag as ap at' ac ah w gk sk pk tk cs ts M0 ∧ LwE w n gk sk pk tk cs ts
section
variable {X : Cx} {ρ : Dl.Env} {M : Mem} {Q : KE} {pos : Pos}
/-- w["field"] -/
theorem xe_wf {e : Expr} {f : Str} {j p2} (hu : X.A.units + 1 < cLine) (h : XE X e ρ M fun d1 M1 => ∃ (m : Nat) (a : Addr) (kds : List (Key × D)) (d : D), d1 = .v (.ref a) ∧ M1[m]? = some (a, .dct kds) ∧ valD kds (Sum.inr f) = some d ∧ Q d M1) : XE X (.Subscript e (.Constant (.str f) j p2) pos) ρ M Q :=
  xe_ix (h.mono fun d1 M1 q1 => by
    obtain ⟨m, a, kds, d, rfl, hm, hv, q⟩ := q1
    exact xe_str (id_dct hu (.m m hm) rfl hv q))
end
/-! ### leave -/
def lvB (w : LW) (keep spot : Int) (k : Nat) : Bool := (w.rows[k]?.any fun r => r.2.isNone) && (w.since k).any fun s => decide ((s : Int) + keep ≤ spot)
def leaveP (keep spot : Int) (w : LW) : LW := { w with gone := fun k => w.gone k || lvB w keep spot k }
def leaveI (keep spot : Int) (w : LW) (i : Nat) : LW := { w with gone := fun k => w.gone k || (decide (k < i) && lvB w keep spot k) }
theorem leaveI_end (keep spot : Int) (w : LW) : leaveI keep spot w w.rows.length = leaveP keep spot w := by
  unfold leaveI leaveP
  congr 1
  funext k
  by_cases h : k < w.rows.length
  · rw [decide_eq_true h, Bool.true_and]
  · rw [decide_eq_false h, Bool.false_and]
    unfold lvB
    rw [List.getElem?_eq_none (by omega)]
    rfl
theorem optD_non' (o : Option Int) : isNonD (optD o) = o.isNone := by cases o <;> rfl
theorem LwE.mono {w : LW} {n m : Nat} {gk sk pk tk : List (Key × D)} {cs : List D} {ts : Mem} (h : LwE w n gk sk pk tk cs ts) (hn : n ≤ m) : LwE w m gk sk pk tk cs ts where
  hg := h.hg
  hs := h.hs
  hp := h.hp
  ht := fun p hp => by
    obtain ⟨b, k, kds, h1, h2, h3⟩ := h.ht p hp
    exact ⟨b, k, kds, h1, h2, by omega⟩
  hl := h.hl
  hc := fun i s hs => by
    obtain ⟨kds, h1, h2⟩ := h.hc i s hs
    exact ⟨kds, h1, by omega⟩
  ng := Nat.le_trans h.ng hn
  ns := Nat.le_trans h.ns hn
  np := Nat.le_trans h.np hn
  nt := Nat.le_trans h.nt hn
  nc := Nat.le_trans h.nc hn
  nr := Nat.le_trans h.nr hn
  nh := Nat.le_trans h.nh hn
theorem inl_inj {a b : Nat} : (Sum.inl (a : Int) : Key) = Sum.inl (b : Int) ↔ a = b := by
  constructor
  · intro h
    have := Sum.inl.inj h
    omega
  · rintro rfl; rfl
theorem LwE.put_gone {w : LW} {n : Nat} {gk sk pk tk : List (Key × D)} {cs : List D} {ts : Mem} (h : LwE w n gk sk pk tk cs ts) (i : Nat) {d : D} {g : Nat → Bool} (hg : ∀ k, g k = (w.gone k || decide (k = i))) : LwE { w with gone := g } (n + 1) (putD gk (Sum.inl (i : Int)) d) sk pk tk cs ts where
  hg := fun k => by
    rw [valD_put]
    show _ = g k
    rw [hg]
    by_cases e : k = i
    · subst e; simp
    · rw [if_neg (fun z => e (inl_inj.mp z)), decide_eq_false e, Bool.or_false]; exact h.hg k
  hs := h.hs
  hp := h.hp
  ht := (h.mono (Nat.le_succ n)).ht
  hl := h.hl
  hc := (h.mono (Nat.le_succ n)).hc
  ng := by have := length_putD gk (Sum.inl (i : Int)) d; have := h.ng; omega
  ns := Nat.le_succ_of_le h.ns
  np := Nat.le_succ_of_le h.np
  nt := Nat.le_succ_of_le h.nt
  nc := Nat.le_succ_of_le h.nc
  nr := Nat.le_succ_of_le h.nr
  nh := Nat.le_succ_of_le h.nh
theorem LwE.same_gone {w : LW} {n : Nat} {gk sk pk tk : List (Key × D)} {cs : List D} {ts : Mem} (h : LwE w n gk sk pk tk cs ts) {g : Nat → Bool} (hg : ∀ k, g k = w.gone k) : LwE { w with gone := g } n gk sk pk tk cs ts := by
  have : g = w.gone := funext hg
  subst this
  exact h
theorem lvB_at {w : LW} {keep spot : Int} {i : Nat} {r : Str × Option Int} (hr : w.rows[i]? = some r) : lvB w keep spot i = (r.2.isNone && (w.since i).any fun s => decide ((s : Int) + keep ≤ spot)) := by
  unfold lvB
  rw [hr]; rfl
theorem leaveI_succ (keep spot : Int) (w : LW) (i k : Nat) : (leaveI keep spot w (i + 1)).gone k = ((leaveI keep spot w i).gone k || (decide (k = i) && lvB w keep spot i)) := by
  show (w.gone k || (decide (k < i + 1) && lvB w keep spot k)) = ((w.gone k || (decide (k < i) && lvB w keep spot k)) || (decide (k = i) && lvB w keep spot i))
  by_cases h : k = i
  · subst h
    rw [decide_eq_true (show k < k + 1 by omega), decide_eq_false (show ¬ k < k by omega), decide_eq_true rfl]; simp
  · rw [decide_eq_false h]
    by_cases h2 : k < i
    · rw [decide_eq_true h2, decide_eq_true (show k < i + 1 by omega)]; simp
    · rw [decide_eq_false h2, decide_eq_false (show ¬ k < i + 1 by omega)]; simp
section
variable {P : Program} {w : World} {K : PySem.W.Frag} {mg : Str → Option Value} {base : Heap} {CV CF : Addr}
abbrev sLv : Stmt := topS 21
def wLv : Wp := fun ds M Q => ∃ (a ah : Addr) (w : LW) (n : Nat) (M0 : Mem) (keep spot : Int), ds = [.v (.ref a), .v (.int keep), .v (.int spot)] ∧ LwM a ah w n M0 M ∧ n < 95000 ∧ w.rows.length ≤ 100 ∧ ∀ M', LwM a ah (leaveP keep spot w) (n + w.rows.length) M0 M' → Q (.v .non) M'
abbrev nLv : List Str := ["_law_w", "_law_keep", "_law_spot", "_law_k", "_law_key_so", "_law_worth"]
theorem scLv : FnScope nLv ["_law_w", "_law_keep", "_law_spot"] (defScope sLv) := ⟨rfl, rfl, rfl, by decide +kernel, rfl, by decide +kernel, by decide +kernel⟩
theorem ok_lv (T : Txt K mg CV CF) (Df : DefG K mg "_law_leave" sLv) : CalG P w K mg base 1 "_law_leave" wLv := by
  refine CalG.mk' Df scLv (fun _ _ _ _ _ _ us hl => match us, hl with | [_, _, _], _ => rfl) (fun ds M QD h => by obtain ⟨_, _, _, _, _, _, _, rfl, _⟩ := h; rfl) fun f cdv A outer s H hr ds M QD h => ?_
  obtain ⟨a, ah, w, n, M0, keep, spot, rfl, ⟨ar, ag, as, ap, at', ac, gk, sk, pk, tk, cs, ts, rfl, hE⟩, hn, hrl, q⟩ := h
  have hN := scLv.nd
  have hu := hu_of hr
  have fe := T.free "enumerate" (by decide +kernel)
  refine xss_one (xs_for [3, 4, 5] (xi_enum (xa_cons (xe_wf hu (xe_var 0 rfl ⟨0, _, _, _, rfl, rfl, rfl, xa_nil ⟨_, _, rfl, .inr ⟨1, ar, rfl, rfl, ?_⟩⟩⟩))) fe))
  refine ⟨fun i ρ' M' => (∃ d3 d4 d5, ρ' = [some (.v (.ref a)), some (.v (.int keep)), some (.v (.int spot)), d3, d4, d5]) ∧ ∃ gk', M' = wM a ar ag as ap at' ac ah w gk' sk pk tk cs ts M0 ∧ LwE (leaveI keep spot w i) (n + i) gk' sk pk tk cs ts, ⟨⟨_, _, _, rfl⟩, gk, rfl, ?_⟩, ?_, ?_, ?_⟩
  · exact hE.same_gone (fun k => by simp)
  · rintro i ρ' M' _ ⟨_, gk', rfl, _⟩
    exact List.mem_cons_of_mem _ List.mem_cons_self
  · rintro i d ρ' M' hd ⟨⟨d3, d4, d5, rfl⟩, gk', rfl, hE'⟩
    rw [List.getElem?_mapIdx, List.getElem?_map] at hd
    cases hri : w.rows[i]? with
    | none => rw [hri] at hd; cases hd
    | some r =>
      rw [hri] at hd
      cases hd
      have hil := (List.getElem?_eq_some_iff.mp hri).1
      have hno : lvB w keep spot i = false → LwE (leaveI keep spot w (i + 1)) (n + (i + 1)) gk' sk pk tk cs ts := fun hb =>
        (hE'.mono (Nat.le_succ _)).same_gone (fun k => (leaveI_succ keep spot w i k).trans (by rw [hb, Bool.and_false, Bool.or_false]))
      refine xg_tup (xgs_cons (xg_name 3 (xgs_cons (xg_tup (xgs_cons (xg_name 4 (xgs_cons (xg_name 5 (xgs_nil (xgs_nil ?_))))))))))
      refine xss_one (xs_if (XW.t (xw_and (xt_cmp (xe_var 5 rfl (xe_non (od_isN ⟨_, rfl, ⟨fun hz => ?_, fun hz => ?_⟩⟩)))))))
      · rw [optD_non'] at hz
        refine xw_and (xt_cmp (xe_var 3 rfl (xe_wf hu (xe_var 0 rfl ⟨0, _, _, _, rfl, rfl, rfl, od_dIn (k := Sum.inl (i : Int)) hu (.m 3 rfl) rfl ⟨_, rfl, ⟨fun hz2 => ?_, fun hz2 => ?_⟩⟩⟩))))
        · rw [hE.hs, Option.isSome_map] at hz2
          obtain ⟨s0, hs0⟩ := Option.isSome_iff_exists.mp hz2
          refine xw_and1 (xt_cmp (xe_bin (xe_ix (xe_wf hu (xe_var 0 rfl ⟨0, _, _, _, rfl, rfl, rfl, xe_var 3 rfl (id_dct (k := Sum.inl (i : Int)) (d := intD s0) hu (.m 3 rfl) rfl (by rw [hE.hs, hs0]; rfl) (xe_var 1 rfl (od_add (xe_var 2 rfl (od_le ⟨_, rfl, ⟨fun hz3 => ?_, fun hz3 => ?_⟩⟩)))))⟩)))))
          · refine xss_one (xs_asg [] (xe_bl (xg_sub (xe_wf hu (xe_var 0 rfl ⟨0, _, _, _, rfl, rfl, rfl, xe_var 3 rfl (sd_dct 2 (k := Sum.inl (i : Int)) rfl hu rfl (by have := hE'.ng; omega) ⟨⟨_, _, _, rfl⟩, _, rfl, ?_⟩)⟩)))))
            refine hE'.put_gone i fun k => (leaveI_succ keep spot w i k).trans ?_
            rw [lvB_at hri, hz, hs0]
            show _ = ((leaveI keep spot w i).gone k || decide (k = i))
            rw [show (some s0).any (fun s => decide ((s : Int) + keep ≤ spot)) = true from hz3, Bool.and_true, Bool.and_true]
          · refine xss_nil ⟨⟨_, _, _, rfl⟩, _, rfl, hno ?_⟩
            rw [lvB_at hri, hs0]
            rw [show (some s0).any (fun s => decide ((s : Int) + keep ≤ spot)) = false from hz3, Bool.and_false]
        · rw [hE.hs, Option.isSome_map] at hz2
          refine ⟨fun z => (by cases z), fun _ => xss_nil ⟨⟨_, _, _, rfl⟩, _, rfl, hno ?_⟩⟩
          have : w.since i = none := by cases e : w.since i with | none => rfl | some _ => rw [e] at hz2; cases hz2
          rw [lvB_at hri, this]; exact Bool.and_false _
      · rw [optD_non'] at hz
        refine ⟨fun z => (by cases z), fun _ => xss_nil ⟨⟨_, _, _, rfl⟩, _, rfl, hno ?_⟩⟩
        rw [lvB_at hri, hz, Bool.false_and]
  · rintro ρ' M' ⟨_, gk', rfl, hE'⟩
    rw [List.length_mapIdx, List.length_map] at hE'
    rw [leaveI_end] at hE'
    exact q _ ⟨_, _, _, _, _, _, _, _, _, _, _, _, rfl, hE'⟩
end
end Mm
end
section
set_option maxHeartbeats 2000000
/-! W12: the law's own log: swept. -/
namespace Mm
open PySem PySem.Spec PyProof.Rows L2 Dl
def rpB (ks : List Str) (k : Nat) : Bool := match ks[k]? with | some x => decide (x ∈ ks.drop (k + 1)) | none => false
def sweepI (ks : List Str) (spot : Nat) (w : LW) (i : Nat) : LW := { w with gone := fun k => w.gone k || (decide (k < i) && rpB ks k), since := fun k => match w.since k with | some s => some s | none => if k < i then some spot else none }
def ksOf (w : LW) (e : Nat) : List Str := (w.rows.take e).map (·.1)
def sweptP (keep : Int) (spot e : Nat) (w : LW) : LW := leaveP keep spot (sweepI (ksOf w e) spot w e)
def sinceS (w : LW) (spot i : Nat) : Nat → Option Nat := fun k => match w.since k with | some s => some s | none => if k = i then some spot else none
theorem LwE.put_since {w : LW} {n : Nat} {gk sk pk tk : List (Key × D)} {cs : List D} {ts : Mem} (h : LwE w n gk sk pk tk cs ts) (i spot : Nat) {g : Nat → Option Nat} (hi : w.since i = none) (hg : ∀ k, g k = sinceS w spot i k) : LwE { w with since := g } (n + 1) gk (putD sk (Sum.inl (i : Int)) (intD spot)) pk tk cs ts where
  hs := fun k => by
    rw [valD_put]
    show _ = (g k).map intD
    rw [hg]
    unfold sinceS
    by_cases e : k = i
    · subst e; rw [hi, if_pos rfl, if_pos rfl]; rfl
    · rw [if_neg (fun z => e (inl_inj.mp z)), h.hs k, if_neg e]
      cases w.since k <;> rfl
  hg := h.hg
  hp := h.hp
  ht := (h.mono (Nat.le_succ n)).ht
  hl := h.hl
  hc := (h.mono (Nat.le_succ n)).hc
  ns := by have := length_putD sk (Sum.inl (i : Int)) (intD spot); have := h.ns; omega
  ng := Nat.le_succ_of_le h.ng
  np := Nat.le_succ_of_le h.np
  nt := Nat.le_succ_of_le h.nt
  nc := Nat.le_succ_of_le h.nc
  nr := Nat.le_succ_of_le h.nr
  nh := Nat.le_succ_of_le h.nh
theorem LwE.same {w w' : LW} {n : Nat} {gk sk pk tk : List (Key × D)} {cs : List D} {ts : Mem} (h : LwE w n gk sk pk tk cs ts) (e : w = w') : LwE w' n gk sk pk tk cs ts := e ▸ h
theorem sweepI_gone (ks : List Str) (spot : Nat) (w : LW) (i k : Nat) : (sweepI ks spot w (i + 1)).gone k = ((sweepI ks spot w i).gone k || (decide (k = i) && rpB ks i)) := by
  show (w.gone k || (decide (k < i + 1) && rpB ks k)) = ((w.gone k || (decide (k < i) && rpB ks k)) || (decide (k = i) && rpB ks i))
  by_cases h : k = i
  · subst h
    rw [decide_eq_true (show k < k + 1 by omega), decide_eq_false (show ¬ k < k by omega), decide_eq_true rfl]; simp
  · rw [decide_eq_false h]
    by_cases h2 : k < i
    · rw [decide_eq_true h2, decide_eq_true (show k < i + 1 by omega)]; simp
    · rw [decide_eq_false h2, decide_eq_false (show ¬ k < i + 1 by omega)]; simp
theorem sweepI_since (ks : List Str) (spot : Nat) (w : LW) (i k : Nat) : (sweepI ks spot w (i + 1)).since k = sinceS (sweepI ks spot w i) spot i k := by
  unfold sinceS
  show (match w.since k with | some s => some s | none => if k < i + 1 then some spot else none) = (match (match w.since k with | some s => some s | none => if k < i then some spot else none) with | some s => some s | none => if k = i then some spot else none)
  cases w.since k with
  | some s => rfl
  | none =>
    by_cases h : k < i
    · rw [if_pos h, if_pos (by omega)]
    · rw [if_neg h]
      by_cases h2 : k = i
      · rw [if_pos (by omega), if_pos h2]
      · rw [if_neg (by omega), if_neg h2]
theorem sweepI_zero (ks : List Str) (spot : Nat) (w : LW) : sweepI ks spot w 0 = w := by
  unfold sweepI
  have h1 : (fun k => w.gone k || (decide (k < 0) && rpB ks k)) = w.gone := by funext k; simp
  have h2 : (fun k => match w.since k with | some s => some s | none => if k < 0 then some spot else none) = w.since := by
    funext k
    rw [if_neg (Nat.not_lt_zero k)]
    cases w.since k <;> rfl
  rw [h1, h2]
theorem sweepI_at (ks : List Str) (spot : Nat) (w : LW) (i : Nat) : (sweepI ks spot w i).since i = w.since i := by
  show (match w.since i with | some s => some s | none => if i < i then some spot else none) = _
  rw [if_neg (Nat.lt_irrefl i)]
  cases w.since i <;> rfl
section
variable {P : Program} {w : World} {K : PySem.W.Frag} {mg : Str → Option Value} {base : Heap} {CV CF : Addr}
abbrev sSw : Stmt := topS 22
def wSw : Wp := fun ds M Q => ∃ (a ah : Addr) (w : LW) (n : Nat) (M0 : Mem) (keep : Int) (spot e : Nat), ds = [.v (.ref a), .v (.int keep), intD spot, intD e] ∧ LwM a ah w n M0 M ∧ n < 90000 ∧ w.rows.length ≤ 100 ∧ e ≤ w.rows.length ∧ ∀ M', LwM a ah (sweptP keep spot e w) (n + 300) M0 M' → Q (.v .non) M'
abbrev nSw : List Str := ["_law_w", "_law_keep", "_law_spot", "_law_end", "_law_names", "_law_k", "_law_key_so", "_law_worth"]
theorem scSw : FnScope nSw ["_law_w", "_law_keep", "_law_spot", "_law_end"] (defScope sSw) := ⟨rfl, rfl, rfl, by decide +kernel, rfl, by decide +kernel, by decide +kernel⟩
theorem ok_sw (T : Txt K mg CV CF) (Lv : CalG P w K mg base 1 "_law_leave" wLv) (Df : DefG K mg "_law_swept" sSw) : CalG P w K mg base 2 "_law_swept" wSw := by
  refine CalG.mk' Df scSw (fun _ _ _ _ _ _ us hl => match us, hl with | [_, _, _, _], _ => rfl) (fun ds M QD h => by obtain ⟨_, _, _, _, _, _, _, _, rfl, _⟩ := h; rfl) fun f cdv A outer s H hr ds M QD h => ?_
  obtain ⟨a, ah, w, n, M0, keep, spot, e, rfl, ⟨ar, ag, as, ap, at', ac, gk, sk, pk, tk, cs, ts, rfl, hE⟩, hn, hrl, he, q⟩ := h
  have hN := scSw.nd
  have hu := hu_of (hr.mono (j := 0) (by omega))
  have frg := T.free "range" (by decide +kernel)
  have hks : (ksOf w e).length = e := by unfold ksOf; rw [List.length_map, List.length_take]; omega
  refine xss_cons (xs_setLc 4 [("_law_key_so", 6), ("_law_worth", 7)] (xi_val (xe_slL (xe_wf hu (xe_var 0 rfl ⟨0, _, _, _, rfl, rfl, rfl, _, .m 1 rfl, ?_⟩)))) (blkOk_by (by rfl)) (by rfl))
  refine xe_var 3 rfl ⟨_, rfl, .m 1 rfl, idt_lst ⟨_, ⟨rfl, rfl⟩, lc_pure (M := wM a ar ag as ap at' ac ah w gk sk pk tk cs ts M0) (fun _ => true) (fun d => match d with | .tup [k, _] => k | d => d) trivial ?_ (fun d hd => ?_), lc_pure_end ?_⟩⟩
  · rw [cutD_to, List.length_take, List.length_map]; omega
  · rw [cutD_to] at hd
    obtain ⟨r, _, rfl⟩ := List.mem_map.mp (List.mem_of_mem_take hd)
    intro s0 H0 C cl0 fp
    refine xg_tup (xgs_cons (xg_name 6 (xgs_cons (xg_name 7 (xgs_nil ?_)))))
    intro s1 H1 C1 cl1 fp1
    refine xts_nil ⟨rfl, fun _ => ?_, fun z => by cases z⟩
    intro s2 H2 C2 cl2 fp2
    exact xe_var 6 rfl ⟨rfl, rfl⟩
  · have e1 : (((cutD (w.rows.map kvD) none (some (e : Int))).filter fun _ => true).map fun d => match d with | .tup [k, _] => k | d => d) = ((ksOf w e).map V.str).map D.v := by
      rw [cutD_to, List.filter_eq_self.mpr (fun _ _ => rfl), ← List.map_take, List.map_map, ksOf, List.map_map, List.map_map]
      rfl
    rw [e1]
    refine xss_cons (xs_for [5] (xi_range1 (xa_cons (xe_var 3 rfl (xa_nil ⟨_, rfl, by omega, by omega, ?_⟩))) frg))
    rw [Int.toNat_natCast]
    refine ⟨fun i ρ' M' => (∃ d5 d6 d7, ρ' = [some (.v (.ref a)), some (.v (.int keep)), some (intD spot), some (intD e), some (.lst (((ksOf w e).map V.str).map D.v)), d5, d6, d7]) ∧ ∃ gk' sk', M' = wM a ar ag as ap at' ac ah w gk' sk' pk tk cs ts M0 ∧ LwE (sweepI (ksOf w e) spot w i) (n + 2 * i) gk' sk' pk tk cs ts, ⟨⟨_, _, _, rfl⟩, gk, sk, rfl, ?_⟩, fun _ _ _ _ _ => trivial, ?_, ?_⟩
    · exact hE.same (sweepI_zero _ _ _).symm
    · rintro i d ρ' M' hd ⟨⟨d5, d6, d7, rfl⟩, gk', sk', rfl, hE'⟩
      have hie : i < e := by
        have := (List.getElem?_eq_some_iff.mp hd).1
        simpa using this
      have hd2 : d = intD i := by
        rw [List.getElem?_map, List.getElem?_range hie] at hd
        cases hd
        show D.v (.int (0 + (i : Int))) = _
        rw [Int.zero_add]
      subst hd2
      refine xg_name 5 ?_
      have hkx : (ksOf w e)[i]? = some (ksOf w e)[i] := List.getElem?_eq_getElem (by omega)
      refine xss_mid (fun ρ' M' => (∃ d6 d7, ρ' = [some (.v (.ref a)), some (.v (.int keep)), some (intD spot), some (intD e), some (.lst (((ksOf w e).map V.str).map D.v)), some (intD i), d6, d7]) ∧ ∃ gk2, M' = wM a ar ag as ap at' ac ah w gk2 sk' pk tk cs ts M0 ∧ LwE { (sweepI (ksOf w e) spot w i) with gone := (sweepI (ksOf w e) spot w (i + 1)).gone } (n + 2 * i + 1) gk2 sk' pk tk cs ts) ?_ ?_
      · refine xs_if (xt_cmp (xe_ix (xe_var 4 rfl (xe_var 5 rfl (id_lst (d := .v (.str (ksOf w e)[i])) .of (atI_nat (by rw [List.getElem?_map, List.getElem?_map, hkx]; rfl)) (xe_slL (xe_var 4 rfl ⟨_, .of, ?_⟩)))))))
        refine xe_bin (xe_var 5 rfl (xe_int (od_add ⟨_, rfl, .of, od_inL (ys := ((ksOf w e).drop (i + 1)).map V.str) ?_ rfl (flat_strs _) ⟨_, rfl, ⟨fun hz => ?_, fun hz => ?_⟩⟩⟩)))
        · rw [show ((i : Int) + 1) = ((i + 1 : Nat) : Int) by omega, cutD_from, ← List.map_drop, ← List.map_drop]
          exact .of
        · rw [inV_strs] at hz
          refine xss_one (xs_asg [] (xe_bl (xg_sub (xe_wf hu (xe_var 0 rfl ⟨0, _, _, _, rfl, rfl, rfl, xe_var 5 rfl (sd_dct 2 (k := Sum.inl (i : Int)) rfl hu rfl (by have := hE'.ng; omega) ⟨⟨_, _, rfl⟩, _, rfl, ?_⟩)⟩)))))
          refine hE'.put_gone i fun k => (sweepI_gone _ _ _ i k).trans ?_
          rw [show rpB (ksOf w e) i = true by unfold rpB; rw [hkx]; exact hz, Bool.and_true]
        · rw [inV_strs] at hz
          refine xss_nil ⟨⟨_, _, rfl⟩, _, rfl, (hE'.mono (Nat.le_succ _)).same_gone fun k => (sweepI_gone _ _ _ i k).trans ?_⟩
          rw [show rpB (ksOf w e) i = false by unfold rpB; rw [hkx]; exact hz, Bool.and_false, Bool.or_false]
      · rintro ρ' M' ⟨⟨d6, d7, rfl⟩, gk2, rfl, hE2⟩
        have hsi := hE2.hs i
        have hat : (sweepI (ksOf w e) spot w i).since i = w.since i := sweepI_at _ _ _ _
        refine xss_one (xs_expr (xe_setd 3 (xe_wf hu (xe_var 0 rfl ⟨0, _, _, _, rfl, rfl, rfl, as, _, rfl, .m 3 rfl, xe_var 5 rfl (xe_var 2 rfl ⟨Sum.inl (i : Int), _, _, rfl, rfl, rfl, by have := hE'.ns; omega, fun d hd => ?_, fun hd => ?_⟩)⟩))))
        · refine ⟨⟨_, _, _, rfl⟩, _, _, rfl, ?_⟩
          have hs1 : ((sweepI (ksOf w e) spot w i).since i).isSome = true := by
            rw [hd] at hsi
            cases h : (sweepI (ksOf w e) spot w i).since i with
            | some _ => rfl
            | none =>
              have h' : (sweepI (ksOf w e) spot w i).since i = none := h
              exfalso
              have hsi' : some d = ((sweepI (ksOf w e) spot w i).since i).map intD := hsi
              rw [h'] at hsi'; cases hsi'
          refine (hE2.mono (show n + 2 * i + 1 ≤ n + 2 * (i + 1) by omega)).same ?_
          have : (sweepI (ksOf w e) spot w (i + 1)).since = (sweepI (ksOf w e) spot w i).since := by
            funext k
            rw [sweepI_since]
            unfold sinceS
            cases h : (sweepI (ksOf w e) spot w i).since k with
            | some s => rfl
            | none =>
              by_cases hk : k = i
              · subst hk; rw [h] at hs1; cases hs1
              · exact if_neg hk
          show { (sweepI (ksOf w e) spot w i) with gone := (sweepI (ksOf w e) spot w (i + 1)).gone } = { (sweepI (ksOf w e) spot w i) with gone := (sweepI (ksOf w e) spot w (i + 1)).gone, since := (sweepI (ksOf w e) spot w (i + 1)).since }
          rw [this]
        · refine ⟨⟨_, _, _, rfl⟩, _, _, rfl, ?_⟩
          have hs1 : (sweepI (ksOf w e) spot w i).since i = none := by
            cases h : (sweepI (ksOf w e) spot w i).since i with
            | none => rfl
            | some s =>
              exfalso
              have hsi' : valD sk' (Sum.inl (i : Int)) = ((sweepI (ksOf w e) spot w i).since i).map intD := hsi
              rw [hd, h] at hsi'; cases hsi'
          exact hE2.put_since i spot (g := (sweepI (ksOf w e) spot w (i + 1)).since) hs1 (fun k => sweepI_since _ _ _ i k)
    · rintro ρ' M' ⟨⟨d5, d6, d7, rfl⟩, gk', sk', rfl, hE'⟩
      rw [List.length_map, List.length_range] at hE'
      refine xss_one (xs_expr (xe_fn Lv hr (xa_cons (xe_var 0 rfl (xa_cons (xe_var 1 rfl (xa_cons (xe_var 2 rfl (xa_nil ⟨a, ah, sweepI (ksOf w e) spot w e, n + 2 * e, M0, keep, spot, rfl, ⟨_, _, _, _, _, _, _, _, _, _, _, _, rfl, hE'⟩, by omega, hrl, fun M' hM' => q M' ?_⟩)))))))))
      obtain ⟨_, _, _, _, _, _, _, _, _, _, _, _, rfl, hE3⟩ := hM'
      exact ⟨_, _, _, _, _, _, _, _, _, _, _, _, rfl, hE3.mono (by have : (sweepI (ksOf w e) spot w e).rows.length = w.rows.length := rfl; omega)⟩
end
end Mm
end
section
set_option maxHeartbeats 2000000
/-! W13: the law's own log: heard. -/
namespace Mm
open PySem PySem.Spec PyProof.Rows L2 Dl
def rwAt (w : LW) (k : Nat) : Rw := (k, (w.rows[k]?).getD ("", none))
def heardI (w : LW) (s i : Nat) : List Rw := (((List.range i).map fun j => s + j).filter fun k => !w.gone k).map (rwAt w)
def heardL (w : LW) (s u : Nat) : List Rw := heardI w s (u - s)
def seatP (w : LW) (p u : Nat) : LW := { w with seats := fun q => if q = p then some u else w.seats q }
theorem heardI_succ (w : LW) (s i : Nat) : heardI w s (i + 1) = heardI w s i ++ (if w.gone (s + i) = true then [] else [rwAt w (s + i)]) := by
  unfold heardI
  rw [List.range_succ, List.map_append, List.filter_append, List.map_append, List.map_singleton]
  congr 1
  cases h : w.gone (s + i) with
  | true => simp [h]
  | false => simp [h]
theorem heardI_len (w : LW) (s i : Nat) : (heardI w s i).length ≤ i := by
  unfold heardI
  rw [List.length_map]
  refine Nat.le_trans (List.length_filter_le _ _) ?_
  rw [List.length_map, List.length_range]
  exact Nat.le_refl _
theorem LwE.tab {w : LW} {n : Nat} {gk sk pk tk : List (Key × D)} {cs : List D} {ts : Mem} (h : LwE w n gk sk pk tk cs ts) {k : Nat} {b : Addr} {kds kds' : List (Key × D)} (hk : ts[k]? = some (b, MO.dct kds)) (hz : kds'.length ≤ n + 1) : LwE w (n + 1) gk sk pk tk cs (ts.set k (b, .dct kds')) where
  ht := fun p hp => by
    obtain ⟨b2, k2, kd2, h1, h2, h3⟩ := h.ht p hp
    by_cases e : k2 = k
    · subst e
      rw [hk] at h2
      obtain ⟨rfl, rfl⟩ : b = b2 ∧ kds = kd2 := by
        have := Option.some.inj h2
        exact ⟨congrArg Prod.fst this, by have := congrArg Prod.snd this; exact MO.dct.inj this⟩
      exact ⟨b, k2, kds', h1, by rw [List.getElem?_set_self (List.getElem?_eq_some_iff.mp hk).1], hz⟩
    · exact ⟨b2, k2, kd2, h1, by rw [List.getElem?_set_ne (Ne.symm e)]; exact h2, by omega⟩
  hg := h.hg
  hs := h.hs
  hp := h.hp
  hl := h.hl
  hc := (h.mono (Nat.le_succ n)).hc
  ng := Nat.le_succ_of_le h.ng
  ns := Nat.le_succ_of_le h.ns
  np := Nat.le_succ_of_le h.np
  nt := Nat.le_succ_of_le h.nt
  nc := Nat.le_succ_of_le h.nc
  nr := Nat.le_succ_of_le h.nr
  nh := Nat.le_succ_of_le h.nh
theorem LwE.put_seat {w : LW} {n : Nat} {gk sk pk tk : List (Key × D)} {cs : List D} {ts : Mem} (h : LwE w n gk sk pk tk cs ts) (p u : Nat) (hp : (w.seats p).isSome = true) : LwE (seatP w p u) (n + 1) gk sk (putD pk (Sum.inl (p : Int)) (intD u)) tk cs ts where
  hp := fun q => by
    rw [valD_put]
    show _ = (if q = p then some u else w.seats q).map intD
    by_cases e : q = p
    · subst e; rw [if_pos rfl, if_pos rfl]; rfl
    · rw [if_neg (fun z => e (inl_inj.mp z)), h.hp q, if_neg e]
  ht := fun q hq => by
    refine (h.mono (Nat.le_succ n)).ht q ?_
    by_cases e : q = p
    · subst e; exact hp
    · have hq2 : (if q = p then some u else w.seats q).isSome = true := hq
      rw [if_neg e] at hq2; exact hq2
  hg := h.hg
  hs := h.hs
  hl := h.hl
  hc := (h.mono (Nat.le_succ n)).hc
  np := by have := length_putD pk (Sum.inl (p : Int)) (intD u); have := h.np; omega
  ng := Nat.le_succ_of_le h.ng
  ns := Nat.le_succ_of_le h.ns
  nt := Nat.le_succ_of_le h.nt
  nc := Nat.le_succ_of_le h.nc
  nr := Nat.le_succ_of_le h.nr
  nh := Nat.le_succ_of_le h.nh
theorem wM_get {a ar ag as ap at' ac ah : Addr} {w : LW} {gk sk pk tk : List (Key × D)} {cs : List D} {ts M0 : Mem} {x : Addr × MO} {k : Nat} {b : Addr} {kds : List (Key × D)} (hk : ts[k]? = some (b, MO.dct kds)) :
    (x :: wM a ar ag as ap at' ac ah w gk sk pk tk cs ts M0)[k + 9]? = some (b, MO.dct kds) := by
  show (ts ++ M0)[k]? = _
  rw [List.getElem?_append_left (List.getElem?_eq_some_iff.mp hk).1]
  exact hk
theorem wM_set {a ar ag as ap at' ac ah : Addr} {w : LW} {gk sk pk tk : List (Key × D)} {cs : List D} {ts M0 : Mem} {x y : Addr × MO} {k : Nat} (hk : k < ts.length) :
    (x :: wM a ar ag as ap at' ac ah w gk sk pk tk cs ts M0).set (k + 9) y = x :: wM a ar ag as ap at' ac ah w gk sk pk tk cs (ts.set k y) M0 := by
  show x :: (_ :: _ :: _ :: _ :: _ :: _ :: _ :: _ :: (ts ++ M0).set k y) = _
  rw [List.set_append_left _ _ hk]
section
variable {P : Program} {w : World} {K : PySem.W.Frag} {mg : Str → Option Value} {base : Heap} {CV CF : Addr}
abbrev sHr : Stmt := topS 23
def wHr : Wp := fun ds M Q => ∃ (a ah : Addr) (w : LW) (n : Nat) (M0 : Mem) (p s u : Nat), ds = [.v (.ref a), intD p, intD u] ∧ LwM a ah w n M0 M ∧ n < 90000 ∧ w.rows.length ≤ 100 ∧ w.seats p = some s ∧ s ≤ u ∧ u ≤ w.rows.length ∧ ∀ M', LwM a ah (seatP w p u) (n + 301) M0 M' → Q (.lst ((heardL w s u).map rwD)) M'
abbrev nHr : List Str := ["_law_w", "_law_p", "_law_upto_so", "_law_found", "_law_k"]
theorem scHr : FnScope nHr ["_law_w", "_law_p", "_law_upto_so"] (defScope sHr) := ⟨rfl, rfl, rfl, by decide +kernel, rfl, by decide +kernel, by decide +kernel⟩
theorem ok_hr (T : Txt K mg CV CF) (Df : DefG K mg "_law_heard" sHr) : CalG P w K mg base 1 "_law_heard" wHr := by
  refine CalG.mk' Df scHr (fun _ _ _ _ _ _ us hl => match us, hl with | [_, _, _], _ => rfl) (fun ds M QD h => by obtain ⟨_, _, _, _, _, _, _, _, rfl, _⟩ := h; rfl) fun f cdv A outer s H hr ds M QD h => ?_
  obtain ⟨a, ah, w, n, M0, p, se, u, rfl, ⟨ar, ag, as, ap, at', ac, gk, sk, pk, tk, cs, ts, rfl, hE⟩, hn, hrl, hse, hsu, hur, q⟩ := h
  have hN := scHr.nd
  have hu := hu_of hr
  have frg := T.free "range" (by decide +kernel)
  have hps : valD pk (Sum.inl (p : Int)) = some (intD se) := by rw [hE.hp, hse]; rfl
  refine xss_cons (xs_set 3 (xe_lstM (xa_nil ⟨by decide, fun fl => ?_⟩)))
  refine xss_cons (xs_for [4] (xi_range2 ?_ frg))
  refine xa_cons (xe_ix (xe_wf hu (xe_var 0 rfl ⟨1, _, _, _, rfl, rfl, rfl, xe_var 1 rfl (id_dct (k := Sum.inl (p : Int)) hu (.m 5 rfl) rfl hps ?_)⟩)))
  refine xa_cons (xe_var 2 rfl (xa_nil ⟨_, _, rfl, ⟨by omega, by omega, by omega, by omega⟩, ?_⟩))
  have e0 : ((u : Int) - (se : Int)).toNat = u - se := by omega
  rw [e0]
  refine ⟨fun i ρ' M' => (∃ d4, ρ' = [some (.v (.ref a)), some (intD p), some (intD u), some (.v (.ref fl)), d4]) ∧ ∃ ts', M' = (fl, MO.lst ((heardI w se i).map rwD)) :: wM a ar ag as ap at' ac ah w gk sk pk tk cs ts' M0 ∧ LwE w (n + 2 * i) gk sk pk tk cs ts', ⟨⟨_, rfl⟩, ts, rfl, hE⟩, fun _ _ _ _ _ => trivial, ?_, ?_⟩
  · rintro i d ρ' M' hd ⟨⟨d4, rfl⟩, ts', rfl, hE'⟩
    have hie : i < u - se := by
      have := (List.getElem?_eq_some_iff.mp hd).1
      simpa using this
    have hd2 : d = intD (se + i) := by
      rw [List.getElem?_map, List.getElem?_range hie] at hd
      cases hd
      rfl
    subst hd2
    refine xg_name 4 ?_
    obtain ⟨r, hri⟩ : ∃ r, w.rows[se + i]? = some r := ⟨_, List.getElem?_eq_getElem (by omega)⟩
    have hrw : rwD (rwAt w (se + i)) = .tup [intD (se + i), .v (.str r.1), optD r.2] := by
      unfold rwAt; rw [hri]; rfl
    have hrd : (w.rows.map kvD)[se + i]? = some (kvD r) := by rw [List.getElem?_map, hri]; rfl
    have hgi : (valD gk (Sum.inl ((se + i : Nat) : Int))).isSome = w.gone (se + i) := hE.hg _
    refine xss_one (xs_if (xt_cmp (xe_var 4 rfl (xe_wf hu (xe_var 0 rfl ⟨1, _, _, _, rfl, rfl, rfl, od_dNotIn (k := Sum.inl ((se + i : Nat) : Int)) hu (.m 3 rfl) rfl ⟨_, rfl, ⟨fun hz => ?_, fun hz => ?_⟩⟩⟩)))))
    · rw [hgi] at hz
      have hgf : w.gone (se + i) = false := by simpa using hz
      have hsucc : (heardI w se (i + 1)).map rwD = (heardI w se i).map rwD ++ [.tup [intD (se + i), .v (.str r.1), optD r.2]] := by
        rw [heardI_succ, hgf]
        simp [hrw]
      obtain ⟨b, k, kds, ht1, ht2, ht3⟩ := hE'.ht p (by rw [hse]; rfl)
      have hkl := (List.getElem?_eq_some_iff.mp ht2).1
      refine xss_cons (xs_expr (xe_append 0 (xe_var 3 rfl ⟨fl, rfl, ⟨0, _, rfl⟩, ?_⟩)))
      refine xe_bin (xe_tup (xa_cons (xe_var 4 rfl (xa_nil ⟨Nat.le_of_ble_eq_true rfl, ?_⟩))))
      refine xe_ix (xe_wf hu (xe_var 0 rfl ⟨1, _, _, _, rfl, rfl, rfl, xe_var 4 rfl (id_lst (d := kvD r) (.m 2 rfl) (atI_nat hrd) ?_)⟩))
      refine od_addT (by intro z; cases z) (Nat.le_of_ble_eq_true rfl) ⟨_, rfl, ?_, ?_⟩
      · rw [List.length_map]
        have := heardI_len w se i
        omega
      show XSs _ _ _ ((fl, MO.lst ((heardI w se i).map rwD ++ [.tup [intD (se + i), .v (.str r.1), optD r.2]])) :: wM a ar ag as ap at' ac ah w gk sk pk tk cs ts' M0) _
      rw [← hsucc]
      refine xss_mid (fun ρ' M' => ρ' = [some (.v (.ref a)), some (intD p), some (intD u), some (.v (.ref fl)), some (intD (se + i))] ∧ ∃ ts2 kds2, M' = (fl, MO.lst ((heardI w se (i + 1)).map rwD)) :: wM a ar ag as ap at' ac ah w gk sk pk tk cs ts2 M0 ∧ LwE w (n + 2 * i + 1) gk sk pk tk cs ts2 ∧ ts2[k]? = some (b, MO.dct kds2) ∧ kds2.length ≤ n + 2 * i) ?_ ?_
      · refine xs_expr (xe_pop2 (k + 9) ?_)
        refine xe_ix (xe_wf hu (xe_var 0 rfl ⟨1, _, _, _, rfl, rfl, rfl, xe_var 1 rfl (id_dct (k := Sum.inl (p : Int)) hu (.m 6 rfl) rfl ht1 ⟨b, kds, rfl, .m (k + 9) (wM_get ht2), ?_⟩)⟩))
        refine xe_ix (xe_ix (xe_wf hu (xe_var 0 rfl ⟨1, _, _, _, rfl, rfl, rfl, xe_var 4 rfl (id_lst (d := kvD r) (.m 2 rfl) (atI_nat hrd) (xe_int (id_tup (d := .v (.str r.1)) (atI_nat (j := 0) rfl) ?_)))⟩)))
        refine xe_non ⟨Sum.inr r.1, _, kds, rfl, rfl, wM_get ht2, fun d hd => ?_, fun hd => ?_⟩
        · rw [wM_set hkl]
          have hlen := length_dropD kds (Sum.inr r.1)
          exact ⟨rfl, _, _, rfl, hE'.tab ht2 (by omega), List.getElem?_set_self hkl, by omega⟩
        · exact ⟨rfl, _, _, rfl, hE'.mono (by omega), ht2, ht3⟩
      · rintro ρ' M' ⟨rfl, ts2, kds2, rfl, hE2, ht4, ht5⟩
        have hkl2 := (List.getElem?_eq_some_iff.mp ht4).1
        refine xss_one (xs_if (xt_cmp (xe_ix (xe_ix (xe_wf hu (xe_var 0 rfl ⟨1, _, _, _, rfl, rfl, rfl, xe_var 4 rfl (id_lst (d := kvD r) (.m 2 rfl) (atI_nat hrd) (xe_int (id_tup (d := optD r.2) (atI_nat (j := 1) rfl) (xe_non (od_notN ⟨_, rfl, ⟨fun hz2 => ?_, fun hz2 => ?_⟩⟩)))))⟩))))))
        · refine xss_one (xs_asg [] ?_)
          refine xe_ix (xe_ix (xe_wf hu (xe_var 0 rfl ⟨1, _, _, _, rfl, rfl, rfl, xe_var 4 rfl (id_lst (d := kvD r) (.m 2 rfl) (atI_nat hrd) (xe_int (id_tup (d := optD r.2) (atI_nat (j := 1) rfl) (xg_sub ?_))))⟩)))
          refine xe_ix (xe_wf hu (xe_var 0 rfl ⟨1, _, _, _, rfl, rfl, rfl, xe_var 1 rfl (id_dct (k := Sum.inl (p : Int)) hu (.m 6 rfl) rfl ht1 ?_)⟩))
          refine xe_ix (xe_ix (xe_wf hu (xe_var 0 rfl ⟨1, _, _, _, rfl, rfl, rfl, xe_var 4 rfl (id_lst (d := kvD r) (.m 2 rfl) (atI_nat hrd) (xe_int (id_tup (d := .v (.str r.1)) (atI_nat (j := 0) rfl) ?_)))⟩)))
          refine sd_dct (k + 9) (k := Sum.inr r.1) (wM_get ht4) hu rfl (by omega) ?_
          rw [wM_set hkl2]
          have hlen := length_putD kds2 (Sum.inr r.1) (optD r.2)
          exact ⟨⟨_, rfl⟩, _, rfl, hE2.tab ht4 (by omega)⟩
        · exact xss_nil ⟨⟨_, rfl⟩, _, rfl, hE2.mono (by omega)⟩
    · rw [hgi] at hz
      have hgf : w.gone (se + i) = true := by simpa using hz
      refine xss_nil ⟨⟨_, rfl⟩, ts', ?_, hE'.mono (by omega)⟩
      rw [heardI_succ, hgf, if_pos rfl, List.append_nil]
  · rintro ρ' M' ⟨⟨d4, rfl⟩, ts', rfl, hE'⟩
    rw [List.length_map, List.length_range] at hE' ⊢
    refine xss_cons (xs_asg [] (xe_var 2 rfl (xg_sub (xe_wf hu (xe_var 0 rfl ⟨1, _, _, _, rfl, rfl, rfl, xe_var 1 rfl (sd_dct 5 (k := Sum.inl (p : Int)) rfl hu rfl (by have := hE'.np; omega) ?_)⟩)))))
    refine xss_one (xs_ret (xe_frzL (xe_var 3 rfl ⟨fl, _, _, rfl, rfl, q _ ⟨_, _, _, _, _, _, _, _, _, _, _, _, rfl, (hE'.put_seat p u (by rw [hse]; rfl)).mono (by omega)⟩⟩)))
end
end Mm
end
section
set_option maxHeartbeats 2000000
/-! W14: the law's own log: did. -/
namespace Mm
open PySem PySem.Spec PyProof.Rows L2 Dl
section
variable {X : Cx} {ρ : Dl.Env} {M : Mem} {Q : KE} {pos p : Pos} {k : Nat} {x : Str} {W : Wp}
/-- f() -/
theorem xe_fn0 (G : CalG X.prog X.w X.K X.mg X.base k x W) (hr : Room k X.A) (h : W [] M Q) (hg : Gl X x := by rfl) (hdb : (x == ("__debug__" : Str)) = false := by decide) :
    XE X (.Call (.Name x p) [] [] pos) ρ M Q := fun F σ H s ev R kk => by
  obtain ⟨f, fd, ps, F0, hm, hk, hb⟩ := G.ex
  exact PE.w (pe_call0 F0 hr hg hm hk hb .nil pass0 hdb) ⟨F, [], M, Q, s, .nil, h, kk⟩
end
/-! ### what is done -/
inductive Ev where
  | put (k : Str) (v : Int)
  | drop (k : Str)
  | wait
  | join (p : Nat)
  | load (p i : Nat)
  | save (p : Nat)
  | read (p u : Nat)
def evW : Ev → Str
  | .put _ _ => "put"
  | .drop _ => "drop"
  | .wait => "wait"
  | .join _ => "join"
  | .load _ _ => "load"
  | .save _ => "save"
  | .read _ _ => "read"
def evR : Ev → List D
  | .put k v => [.v (.str k), .v (.int v)]
  | .drop k => [.v (.str k)]
  | .wait => []
  | .join p => [intD p]
  | .load p i => [intD p, intD i]
  | .save p => [intD p]
  | .read p u => [intD p, intD u]
def evD (e : Ev) : D := .tup (.v (.str (evW e)) :: evR e)
def didP : Ev → LW → LW
  | .put k v, w => { w with rows := w.rows ++ [(k, some v)] }
  | .drop k, w => { w with rows := w.rows ++ [(k, none)] }
  | .wait, w => w
  | .join p, w => seatP w p 0
  | .load p i, w => seatP w p ((w.copies[i]?).getD 0)
  | .save p, w => { w with copies := w.copies ++ [(w.seats p).getD 0] }
  | .read p u, w => seatP w p u
def resD : Ev → LW → D
  | .put _ _, w => intD w.rows.length
  | .drop _, w => intD w.rows.length
  | .save _, w => intD w.copies.length
  | .read p u, w => .lst ((heardL w ((w.seats p).getD 0) u).map rwD)
  | _, _ => .v .non
def EvOk : Ev → LW → Prop
  | .load _ i, w => i < w.copies.length
  | .save p, w => (w.seats p).isSome = true
  | .read p u, w => ∃ s, w.seats p = some s ∧ s < u ∧ u ≤ w.rows.length
  | _, _ => True
theorem LwE.up {w : LW} {n : Nat} {gk sk pk tk : List (Key × D)} {cs : List D} {ts : Mem} (h : LwE w n gk sk pk tk cs ts) {r : Str × Option Int} : LwE { w with rows := w.rows ++ [r] } (n + 1) gk sk pk tk cs ts where
  hg := h.hg
  hs := h.hs
  hp := h.hp
  ht := (h.mono (Nat.le_succ n)).ht
  hl := h.hl
  hc := (h.mono (Nat.le_succ n)).hc
  ng := Nat.le_succ_of_le h.ng
  ns := Nat.le_succ_of_le h.ns
  np := Nat.le_succ_of_le h.np
  nt := Nat.le_succ_of_le h.nt
  nc := Nat.le_succ_of_le h.nc
  nr := by
    have := h.nr
    show (w.rows ++ [r]).length ≤ n + 1
    rw [List.length_append, List.length_singleton]; omega
  nh := Nat.le_succ_of_le h.nh
theorem LwE.copy {w : LW} {n : Nat} {gk sk pk tk : List (Key × D)} {cs : List D} {ts : Mem} (h : LwE w n gk sk pk tk cs ts) {s : Nat} {kds : List (Key × D)} (hz : kds.length ≤ n + 1) : LwE { w with copies := w.copies ++ [s] } (n + 1) gk sk pk tk (cs ++ [.tup [intD s, .dct kds]]) ts where
  hg := h.hg
  hs := h.hs
  hp := h.hp
  ht := (h.mono (Nat.le_succ n)).ht
  hl := by
    show (cs ++ [_]).length = (w.copies ++ [s]).length
    rw [List.length_append, List.length_append, h.hl]; rfl
  hc := fun i s' hs => by
    have hs : (w.copies ++ [s])[i]? = some s' := hs
    by_cases hi : i < w.copies.length
    · rw [List.getElem?_append_left hi] at hs
      obtain ⟨kd, h1, h2⟩ := h.hc i s' hs
      exact ⟨kd, by rw [List.getElem?_append_left (by rw [h.hl]; exact hi)]; exact h1, by omega⟩
    · have hi2 : i = w.copies.length := by
        have := (List.getElem?_eq_some_iff.mp hs).1
        rw [List.length_append, List.length_singleton] at this
        omega
      subst hi2
      rw [List.getElem?_append_right (Nat.le_refl _), Nat.sub_self] at hs
      cases hs
      refine ⟨kds, ?_, hz⟩
      rw [← h.hl, List.getElem?_append_right (Nat.le_refl _), Nat.sub_self]; rfl
  ng := Nat.le_succ_of_le h.ng
  ns := Nat.le_succ_of_le h.ns
  np := Nat.le_succ_of_le h.np
  nt := Nat.le_succ_of_le h.nt
  nc := by have := h.nc; rw [List.length_append, List.length_singleton]; omega
  nr := Nat.le_succ_of_le h.nr
  nh := Nat.le_succ_of_le h.nh
theorem LwE.seat {w : LW} {n : Nat} {gk sk pk tk : List (Key × D)} {cs : List D} {ts : Mem} (h : LwE w n gk sk pk tk cs ts) (p u : Nat) {b : Addr} {kds : List (Key × D)} (hz : kds.length ≤ n + 1) : LwE (seatP w p u) (n + 1) gk sk (putD pk (Sum.inl (p : Int)) (intD u)) (putD tk (Sum.inl (p : Int)) (.v (.ref b))) cs (ts ++ [(b, .dct kds)]) where
  hp := fun q => by
    rw [valD_put]
    show _ = (if q = p then some u else w.seats q).map intD
    by_cases e : q = p
    · subst e; rw [if_pos rfl, if_pos rfl]; rfl
    · rw [if_neg (fun z => e (inl_inj.mp z)), h.hp q, if_neg e]
  ht := fun q hq => by
    rw [valD_put]
    by_cases e : q = p
    · subst e
      rw [if_pos rfl]
      exact ⟨b, ts.length, kds, rfl, by rw [List.getElem?_append_right (Nat.le_refl _), Nat.sub_self]; rfl, hz⟩
    · have hq2 : (if q = p then some u else w.seats q).isSome = true := hq
      rw [if_neg e] at hq2
      rw [if_neg (fun z => e (inl_inj.mp z))]
      obtain ⟨b2, k2, kd2, h1, h2, h3⟩ := h.ht q hq2
      exact ⟨b2, k2, kd2, h1, by rw [List.getElem?_append_left (List.getElem?_eq_some_iff.mp h2).1]; exact h2, by omega⟩
  hg := h.hg
  hs := h.hs
  hl := h.hl
  hc := (h.mono (Nat.le_succ n)).hc
  np := by have := length_putD pk (Sum.inl (p : Int)) (intD u); have := h.np; omega
  nt := by have := length_putD tk (Sum.inl (p : Int)) (.v (.ref b)); have := h.nt; omega
  ng := Nat.le_succ_of_le h.ng
  ns := Nat.le_succ_of_le h.ns
  nc := Nat.le_succ_of_le h.nc
  nr := Nat.le_succ_of_le h.nr
  nh := Nat.le_succ_of_le h.nh
section
variable {P : Program} {w : World} {K : PySem.W.Frag} {mg : Str → Option Value} {base : Heap} {CV CF : Addr}
theorem wM_get0 {a ar ag as ap at' ac ah : Addr} {w : LW} {gk sk pk tk : List (Key × D)} {cs : List D} {ts M0 : Mem} {k : Nat} {b : Addr} {kds : List (Key × D)} (hk : ts[k]? = some (b, MO.dct kds)) :
    (wM a ar ag as ap at' ac ah w gk sk pk tk cs ts M0)[k + 8]? = some (b, MO.dct kds) := by
  show (ts ++ M0)[k]? = _
  rw [List.getElem?_append_left (List.getElem?_eq_some_iff.mp hk).1]
  exact hk
abbrev sDd : Stmt := topS 24
def wDd : Wp := fun ds M Q => ∃ (a ah : Addr) (w : LW) (n : Nat) (M0 : Mem) (e : Ev), ds = [.v (.ref a), evD e] ∧ LwM a ah w n M0 M ∧ n < 90000 ∧ w.rows.length ≤ 90 ∧ EvOk e w ∧ ∀ M', LwM a ah (didP e w) (n + 301) M0 M' → Q (resD e w) M'
abbrev nDd : List Str := ["_law_w", "_law_event_so", "_law_word", "_law_own"]
theorem scDd : FnScope nDd ["_law_w", "_law_event_so"] (defScope sDd) := ⟨rfl, rfl, rfl, by decide +kernel, rfl, by decide +kernel, by decide +kernel⟩
def isPD : Ev → Bool
  | .put _ _ => true
  | .drop _ => true
  | _ => false
def isRd : Ev → Bool
  | .read _ _ => true
  | _ => false
def isSv : Ev → Bool
  | .save _ => true
  | _ => false
def isJL : Ev → Bool
  | .join _ => true
  | .load _ _ => true
  | _ => false
theorem inPD (e : Ev) : inV (.str (evW e)) [.str "put", .str "drop"] = isPD e := by cases e <;> rfl
theorem inJL (e : Ev) : inV (.str (evW e)) [.str "join", .str "load"] = isJL e := by cases e <;> rfl
def isPt : Ev → Bool
  | .put _ _ => true
  | _ => false
theorem eqPt (e : Ev) : decide (V.str (evW e) = .str "put") = isPt e := by cases e <;> rfl
def isJn : Ev → Bool
  | .join _ => true
  | _ => false
theorem eqJn (e : Ev) : decide (V.str (evW e) = .str "join") = isJn e := by cases e <;> rfl
def evP : Ev → Nat
  | .join p => p
  | .load p _ => p
  | .save p => p
  | .read p _ => p
  | _ => 0
theorem eqRd (e : Ev) : decide (V.str (evW e) = .str "read") = isRd e := by cases e <;> rfl
theorem eqSv (e : Ev) : decide (V.str (evW e) = .str "save") = isSv e := by cases e <;> rfl
theorem ok_dd (T : Txt K mg CV CF) (Hr : CalG P w K mg base 1 "_law_heard" wHr) (Df : DefG K mg "_law_did" sDd) : CalG P w K mg base 2 "_law_did" wDd := by
  refine CalG.mk' Df scDd (fun _ _ _ _ _ _ us hl => match us, hl with | [_, _], _ => rfl) (fun ds M QD h => by obtain ⟨_, _, _, _, _, _, rfl, _⟩ := h; rfl) fun f cdv A outer s H hr ds M QD h => ?_
  obtain ⟨a, ah, w, n, M0, e, rfl, ⟨ar, ag, as, ap, at', ac, gk, sk, pk, tk, cs, ts, rfl, hE⟩, hn, hrl, hev, q⟩ := h
  have hN := scDd.nd
  have hu := hu_of (hr.mono (j := 0) (by omega))
  have fl := T.free "len" (by decide +kernel)
  have fd := T.free "dict" (by decide +kernel)
  refine xss_cons (xs_set 2 (xe_ix (xe_var 1 rfl (xe_int (id_tup (d := .v (.str (evW e))) (atI_nat (j := 0) rfl) ?_)))))
  refine xss_cons (xs_if (xt_cmp (xe_var 2 rfl (xe_tup (xa_cons (xe_str (xa_cons (xe_str (xa_nil ⟨Nat.le_of_ble_eq_true rfl, od_inT (ys := [.str "put", .str "drop"]) rfl rfl rfl ⟨_, rfl, ⟨fun hz => ?_, fun hz => ?_⟩⟩⟩)))))))))
  · rw [inPD] at hz
    cases e with
    | put k v =>
      refine xss_cons (xs_expr (xe_append 1 (xe_wf hu (xe_var 0 rfl ⟨0, _, _, _, rfl, rfl, rfl, ar, rfl, ⟨1, _, rfl⟩, ?_⟩))))
      refine xe_tup (xa_cons (xe_ix (xe_var 1 rfl (xe_int (id_tup (d := .v (.str k)) (atI_nat (j := 1) rfl) (xa_cons (xe_if (xt_cmp (xe_var 2 rfl (xe_str (od_eq rfl ⟨_, rfl, ⟨fun _ => ?_, fun z => (by rw [eqPt] at z; cases z)⟩⟩)))))))))))
      refine xe_ix (xe_var 1 rfl (xe_int (id_tup (d := .v (.int v)) (atI_nat (j := 2) rfl) (xa_nil ⟨Nat.le_of_ble_eq_true rfl, _, rfl, ?_, ?_⟩))))
      · rw [List.length_map]; omega
      refine xss_one (xs_ret (xe_bin (xe_len (xe_wf hu (xe_var 0 rfl ⟨0, _, _, _, rfl, rfl, rfl, _, .inl (.m 1 rfl), xe_int (od_sub ?_)⟩)) fl)))
      have e2 : ((w.rows.map kvD ++ [D.tup [.v (.str k), .v (.int v)]]).length : Int) - 1 = w.rows.length := by
        rw [List.length_append, List.length_map]
        show ((w.rows.length + 1 : Nat) : Int) - 1 = _
        omega
      rw [e2]
      have e1 : w.rows.map kvD ++ [D.tup [.v (.str k), .v (.int v)]] = (w.rows ++ [(k, some v)]).map kvD := by rw [List.map_append]; rfl
      exact q _ ⟨ar, ag, as, ap, at', ac, gk, sk, pk, tk, cs, ts, congrArg (fun l => (a, MO.dct (wK ar ag as ap at' ac ah)) :: (ar, MO.lst l) :: (ag, MO.dct gk) :: (as, MO.dct sk) :: (ap, MO.dct pk) :: (at', MO.dct tk) :: (ac, MO.lst cs) :: (ah, MO.lst w.heard) :: (ts ++ M0)) e1, hE.up.mono (by omega)⟩
    | drop k =>
      refine xss_cons (xs_expr (xe_append 1 (xe_wf hu (xe_var 0 rfl ⟨0, _, _, _, rfl, rfl, rfl, ar, rfl, ⟨1, _, rfl⟩, ?_⟩))))
      refine xe_tup (xa_cons (xe_ix (xe_var 1 rfl (xe_int (id_tup (d := .v (.str k)) (atI_nat (j := 1) rfl) (xa_cons (xe_if (xt_cmp (xe_var 2 rfl (xe_str (od_eq rfl ⟨_, rfl, ⟨fun z => (by rw [eqPt] at z; cases z), fun _ => ?_⟩⟩)))))))))))
      refine xe_non (xa_nil ⟨Nat.le_of_ble_eq_true rfl, _, rfl, ?_, ?_⟩)
      · rw [List.length_map]; omega
      refine xss_one (xs_ret (xe_bin (xe_len (xe_wf hu (xe_var 0 rfl ⟨0, _, _, _, rfl, rfl, rfl, _, .inl (.m 1 rfl), xe_int (od_sub ?_)⟩)) fl)))
      have e2 : ((w.rows.map kvD ++ [D.tup [.v (.str k), .v .non]]).length : Int) - 1 = w.rows.length := by
        rw [List.length_append, List.length_map]
        show ((w.rows.length + 1 : Nat) : Int) - 1 = _
        omega
      rw [e2]
      have e1 : w.rows.map kvD ++ [D.tup [.v (.str k), .v .non]] = (w.rows ++ [(k, none)]).map kvD := by rw [List.map_append]; rfl
      exact q _ ⟨ar, ag, as, ap, at', ac, gk, sk, pk, tk, cs, ts, congrArg (fun l => (a, MO.dct (wK ar ag as ap at' ac ah)) :: (ar, MO.lst l) :: (ag, MO.dct gk) :: (as, MO.dct sk) :: (ap, MO.dct pk) :: (at', MO.dct tk) :: (ac, MO.lst cs) :: (ah, MO.lst w.heard) :: (ts ++ M0)) e1, hE.up.mono (by omega)⟩
    | _ => cases hz
  rw [inPD] at hz
  refine xss_nil (xss_cons (xs_if (xt_cmp (xe_var 2 rfl (xe_str (od_eq rfl ⟨_, rfl, ⟨fun hz2 => ?_, fun hz2 => ?_⟩⟩))))))
  · rw [eqRd] at hz2
    cases e with
    | read p u =>
      obtain ⟨s0, hs0, hs1, hs2⟩ := hev
      refine xss_one (xs_ret (xe_fn Hr hr (xa_cons (xe_var 0 rfl (xa_cons (xe_ix (xe_var 1 rfl (xe_int (id_tup (d := intD p) (atI_nat (j := 1) rfl) (xa_cons (xe_ix (xe_var 1 rfl (xe_int (id_tup (d := intD u) (atI_nat (j := 2) rfl) (xa_nil ?_)))))))))))))))
      refine ⟨a, ah, w, n, M0, p, s0, u, rfl, ⟨ar, ag, as, ap, at', ac, gk, sk, pk, tk, cs, ts, rfl, hE⟩, hn, by omega, hs0, by omega, hs2, fun M' hM => ?_⟩
      have h2 : QD (.lst ((heardL w ((w.seats p).getD 0) u).map rwD)) M' := q M' hM
      rw [hs0] at h2
      exact h2
    | _ => cases hz2
  rw [eqRd] at hz2
  refine xss_nil (xss_cons (xs_if (xt_cmp (xe_var 2 rfl (xe_str (od_eq rfl ⟨_, rfl, ⟨fun hz3 => ?_, fun hz3 => ?_⟩⟩))))))
  · rw [eqSv] at hz3
    cases e with
    | save p =>
      obtain ⟨s0, hs0⟩ := Option.isSome_iff_exists.mp hev
      obtain ⟨b, k, kds, ht1, ht2, ht3⟩ := hE.ht p hev
      have hps : valD pk (Sum.inl (p : Int)) = some (intD s0) := by rw [hE.hp, hs0]; rfl
      refine xss_cons (xs_expr (xe_append 6 (xe_wf hu (xe_var 0 rfl ⟨0, _, _, _, rfl, rfl, rfl, ac, rfl, ⟨6, _, rfl⟩, ?_⟩))))
      refine xe_tup (xa_cons (xe_ix (xe_wf hu (xe_var 0 rfl ⟨0, _, _, _, rfl, rfl, rfl, xe_ix (xe_var 1 rfl (xe_int (id_tup (d := intD p) (atI_nat (j := 1) rfl) (id_dct (k := Sum.inl (p : Int)) hu (.m 4 rfl) rfl hps (xa_cons ?_)))))⟩))))
      refine xe_frzK (xe_callT (T := "dict") (xa_cons ?_) fd (by decide +kernel))
      refine xe_ix (xe_wf hu (xe_var 0 rfl ⟨0, _, _, _, rfl, rfl, rfl, xe_ix (xe_var 1 rfl (xe_int (id_tup (d := intD p) (atI_nat (j := 1) rfl) (id_dct (k := Sum.inl (p : Int)) hu (.m 5 rfl) rfl ht1 (xa_nil (cd_dictM (.m (k + 8) (wM_get0 ht2)) fun l => ⟨l, _, _, rfl, rfl, xa_nil ⟨Nat.le_of_ble_eq_true rfl, _, rfl, ?_, ?_⟩⟩))))))⟩))
      · have := hE.nc; omega
      refine xss_one (xs_ret (xe_bin (xe_len (xe_wf hu (xe_var 0 rfl ⟨0, _, _, _, rfl, rfl, rfl, _, .inl (.m 6 rfl), xe_int (od_sub ?_)⟩)) fl)))
      have e2 : ((cs ++ [D.tup [intD s0, .dct kds]]).length : Int) - 1 = w.copies.length := by
        rw [List.length_append, hE.hl]
        show ((w.copies.length + 1 : Nat) : Int) - 1 = _
        omega
      rw [e2]
      refine q _ ⟨ar, ag, as, ap, at', ac, gk, sk, pk, tk, _, ts, rfl, ?_⟩
      have := hE.copy (s := s0) (kds := kds) (by omega)
      refine (this.mono (by omega)).same ?_
      show _ = { w with copies := w.copies ++ [(w.seats p).getD 0] }
      rw [hs0]; rfl
    | _ => cases hz3
  rw [eqSv] at hz3
  refine xss_nil (xss_cons (xs_if (xt_cmp (xe_var 2 rfl (xe_tup (xa_cons (xe_str (xa_cons (xe_str (xa_nil ⟨Nat.le_of_ble_eq_true rfl, od_inT (ys := [.str "join", .str "load"]) rfl rfl rfl ⟨_, rfl, ⟨fun hz4 => ?_, fun hz4 => ?_⟩⟩⟩))))))))))
  · rw [inJL] at hz4
    obtain ⟨r0, hr0⟩ : ∃ r, evR e = intD (evP e) :: r := by
      cases e with
      | join p => exact ⟨_, rfl⟩
      | load p i => exact ⟨_, rfl⟩
      | _ => cases hz4
    have he1 : evD e = .tup [D.v (.str (evW e)), intD (evP e)] ∨ ∃ x, evD e = .tup [D.v (.str (evW e)), intD (evP e), x] := by
      cases e with
      | join p => exact .inl rfl
      | load p i => exact .inr ⟨_, rfl⟩
      | _ => cases hz4
    refine xss_mid (fun ρ' M' => ∃ s0 kds, ρ' = [some (.v (.ref a)), some (evD e), some (.v (.str (evW e))), some (.tup [intD s0, .dct kds])] ∧ M' = wM a ar ag as ap at' ac ah w gk sk pk tk cs ts M0 ∧ kds.length ≤ n ∧ didP e w = seatP w (evP e) s0) ?_ ?_
    · refine xs_set 3 (xe_if (xt_cmp (xe_var 2 rfl (xe_str (od_eq rfl ⟨_, rfl, ⟨fun h5 => ?_, fun h5 => ?_⟩⟩)))))
      · rw [eqJn] at h5
        cases e with
        | join p => exact xe_tup (xa_cons (xe_int (xa_cons (xe_frzK (xe_dctM fun l => ⟨l, _, _, rfl, rfl, xa_nil ⟨Nat.le_of_ble_eq_true rfl, 0, [], rfl, rfl, Nat.zero_le _, rfl⟩⟩)))))
        | _ => cases h5
      · rw [eqJn] at h5
        cases e with
        | load p i =>
          obtain ⟨s0, hs0⟩ : ∃ s0, w.copies[i]? = some s0 := ⟨_, List.getElem?_eq_getElem hev⟩
          obtain ⟨kds, h6, h7⟩ := hE.hc i s0 hs0
          refine xe_ix (xe_wf hu (xe_var 0 rfl ⟨0, _, _, _, rfl, rfl, rfl, xe_ix (xe_var 1 rfl (xe_int (id_tup (d := intD i) (atI_nat (j := 2) rfl) (id_lst (d := .tup [intD s0, .dct kds]) (.m 6 rfl) (atI_nat h6) ⟨s0, kds, rfl, rfl, h7, ?_⟩))))⟩))
          show seatP w p ((w.copies[i]?).getD 0) = seatP w p s0
          rw [hs0]; rfl
        | join _ => cases h5
        | _ => cases hz4
    · rintro ρ' M' ⟨s0, kds, rfl, rfl, hkz, hdp⟩
      have hat : atI (D.v (.str (evW e)) :: evR e) 1 = some (intD (evP e)) := atI_nat (j := 1) (by rw [hr0]; rfl)
      refine xss_one (xs_asg [] (xe_tup (xa_cons (xe_ix (xe_var 3 rfl (xe_int (id_tup (d := intD s0) (atI_nat (j := 0) rfl) (xa_cons (xe_callT (T := "dict") (xa_cons ?_) fd (by decide +kernel))))))))))
      refine xe_ix (xe_var 3 rfl (xe_int (id_tup (d := .dct kds) (atI_nat (j := 1) rfl) (xa_nil (cd_dictM .of fun l => xa_nil ⟨Nat.le_of_ble_eq_true rfl, ?_⟩)))))
      refine xg_tup (xgs_cons (xg_sub (xe_wf hu (xe_var 0 rfl ⟨1, _, _, _, rfl, rfl, rfl, xe_ix (xe_var 1 rfl (xe_int (id_tup (d := intD (evP e)) hat (sd_dct 5 (k := Sum.inl (evP e : Int)) rfl hu rfl (by have := hE.np; omega) ?_))))⟩))))
      refine xgs_cons (xg_sub (xe_wf hu (xe_var 0 rfl ⟨1, _, _, _, rfl, rfl, rfl, xe_ix (xe_var 1 rfl (xe_int (id_tup (d := intD (evP e)) hat (sd_dct 6 (k := Sum.inl (evP e : Int)) rfl hu rfl (by have := hE.nt; omega) (xgs_nil ?_)))))⟩)))
      refine xss_adj (M' := wM a ar ag as ap at' ac ah w gk sk (putD pk (Sum.inl (evP e : Int)) (intD s0)) (putD tk (Sum.inl (evP e : Int)) (.v (.ref l))) cs (ts ++ [(l, .dct kds)]) M0) (Adj.perm ?_) (xss_one (xs_ret (xe_non ?_)))
      · show List.Perm ((l, MO.dct kds) :: wM a ar ag as ap at' ac ah w gk sk (putD pk (Sum.inl (evP e : Int)) (intD s0)) (putD tk (Sum.inl (evP e : Int)) (.v (.ref l))) cs ts M0) _
        have h8 : wM a ar ag as ap at' ac ah w gk sk (putD pk (Sum.inl (evP e : Int)) (intD s0)) (putD tk (Sum.inl (evP e : Int)) (.v (.ref l))) cs (ts ++ [(l, .dct kds)]) M0 = (wM a ar ag as ap at' ac ah w gk sk (putD pk (Sum.inl (evP e : Int)) (intD s0)) (putD tk (Sum.inl (evP e : Int)) (.v (.ref l))) cs ts []) ++ (l, .dct kds) :: M0 := by simp
        have h9 : wM a ar ag as ap at' ac ah w gk sk (putD pk (Sum.inl (evP e : Int)) (intD s0)) (putD tk (Sum.inl (evP e : Int)) (.v (.ref l))) cs ts M0 = (wM a ar ag as ap at' ac ah w gk sk (putD pk (Sum.inl (evP e : Int)) (intD s0)) (putD tk (Sum.inl (evP e : Int)) (.v (.ref l))) cs ts []) ++ M0 := by simp
        rw [h8, h9]
        exact List.perm_middle.symm
      · have hq := q (wM a ar ag as ap at' ac ah w gk sk (putD pk (Sum.inl (evP e : Int)) (intD s0)) (putD tk (Sum.inl (evP e : Int)) (.v (.ref l))) cs (ts ++ [(l, .dct kds)]) M0) ?_
        · cases e with
          | join p => exact hq
          | load p i => exact hq
          | _ => cases hz4
        · rw [hdp]
          exact ⟨ar, ag, as, ap, at', ac, _, _, _, _, _, _, rfl, (hE.seat (evP e) s0 (b := l) (kds := kds) (by omega)).mono (by omega)⟩
  · rw [inJL] at hz4
    refine xss_nil (xss_one (xs_ret (xe_non ?_)))
    cases e with
    | wait => exact q _ ⟨ar, ag, as, ap, at', ac, gk, sk, pk, tk, cs, ts, rfl, hE.mono (by omega)⟩
    | put _ _ => cases hz
    | drop _ => cases hz
    | join _ => cases hz4
    | load _ _ => cases hz4
    | save _ => cases hz3
    | read _ _ => cases hz2
end
end Mm
end
section
set_option maxHeartbeats 400000
/-! W15: the law's own log: bare, run. -/
namespace Mm
open PySem PySem.Spec PyProof.Rows L2 Dl
section
variable {X : Cx} {ρ : Dl.Env} {M : Mem} {Q : KE} {pos : Pos}
theorem xe_disp7 (i : Nat) {k1 k2 k3 k4 k5 k6 k7 v1 v2 v3 v4 v5 v6 v7 : Expr} (h : ∀ p, XE X k1 ρ ((p, MO.dct []) :: M) fun c1 A1 => ∃ y1, c1 = .v (kV y1) ∧ XE X v1 ρ A1 fun d1 B1 => XE X k2 ρ B1 fun c2 A2 => ∃ y2, c2 = .v (kV y2) ∧ XE X v2 ρ A2 fun d2 B2 => XE X k3 ρ B2 fun c3 A3 => ∃ y3, c3 = .v (kV y3) ∧ XE X v3 ρ A3 fun d3 B3 => XE X k4 ρ B3 fun c4 A4 => ∃ y4, c4 = .v (kV y4) ∧ XE X v4 ρ A4 fun d4 B4 => XE X k5 ρ B4 fun c5 A5 => ∃ y5, c5 = .v (kV y5) ∧ XE X v5 ρ A5 fun d5 B5 => XE X k6 ρ B5 fun c6 A6 => ∃ y6, c6 = .v (kV y6) ∧ XE X v6 ρ A6 fun d6 B6 => XE X k7 ρ B6 fun c7 A7 => ∃ y7, c7 = .v (kV y7) ∧ XE X v7 ρ A7 fun d7 B7 => B7[i]? = some (p, .dct []) ∧ Q (.v (.ref p)) (B7.set i (p, .dct (mergeD [] [(y1, d1), (y2, d2), (y3, d3), (y4, d4), (y5, d5), (y6, d6), (y7, d7)])))) :
    XE X (.Dict [some k1, some k2, some k3, some k4, some k5, some k6, some k7] [v1, v2, v3, v4, v5, v6, v7] pos) ρ M Q :=
  xe_disp [(k1, v1), (k2, v2), (k3, v3), (k4, v4), (k5, v5), (k6, v6), (k7, v7)] i fun p => (h p).mono fun c1 A1 q => by
    obtain ⟨y1, e1, q⟩ := q
    refine ⟨y1, e1, q.mono fun d1 B1 q => ?_⟩
    refine q.mono fun c2 A2 q => ?_
    obtain ⟨y2, e2, q⟩ := q
    refine ⟨y2, e2, q.mono fun d2 B2 q => ?_⟩
    refine q.mono fun c3 A3 q => ?_
    obtain ⟨y3, e3, q⟩ := q
    refine ⟨y3, e3, q.mono fun d3 B3 q => ?_⟩
    refine q.mono fun c4 A4 q => ?_
    obtain ⟨y4, e4, q⟩ := q
    refine ⟨y4, e4, q.mono fun d4 B4 q => ?_⟩
    refine q.mono fun c5 A5 q => ?_
    obtain ⟨y5, e5, q⟩ := q
    refine ⟨y5, e5, q.mono fun d5 B5 q => ?_⟩
    refine q.mono fun c6 A6 q => ?_
    obtain ⟨y6, e6, q⟩ := q
    refine ⟨y6, e6, q.mono fun d6 B6 q => ?_⟩
    refine q.mono fun c7 A7 q => ?_
    obtain ⟨y7, e7, q⟩ := q
    refine ⟨y7, e7, q.mono fun d7 B7 q => ?_⟩
    exact ⟨q.1, Nat.le_of_ble_eq_true rfl, q.2⟩
theorem xe_disp3 (i : Nat) {k1 k2 k3 v1 v2 v3 : Expr} (h : ∀ p, XE X k1 ρ ((p, MO.dct []) :: M) fun c1 A1 => ∃ y1, c1 = .v (kV y1) ∧ XE X v1 ρ A1 fun d1 B1 => XE X k2 ρ B1 fun c2 A2 => ∃ y2, c2 = .v (kV y2) ∧ XE X v2 ρ A2 fun d2 B2 => XE X k3 ρ B2 fun c3 A3 => ∃ y3, c3 = .v (kV y3) ∧ XE X v3 ρ A3 fun d3 B3 => B3[i]? = some (p, .dct []) ∧ Q (.v (.ref p)) (B3.set i (p, .dct (mergeD [] [(y1, d1), (y2, d2), (y3, d3)])))) :
    XE X (.Dict [some k1, some k2, some k3] [v1, v2, v3] pos) ρ M Q :=
  xe_disp [(k1, v1), (k2, v2), (k3, v3)] i fun p => (h p).mono fun c1 A1 q => by
    obtain ⟨y1, e1, q⟩ := q
    refine ⟨y1, e1, q.mono fun d1 B1 q => ?_⟩
    refine q.mono fun c2 A2 q => ?_
    obtain ⟨y2, e2, q⟩ := q
    refine ⟨y2, e2, q.mono fun d2 B2 q => ?_⟩
    refine q.mono fun c3 A3 q => ?_
    obtain ⟨y3, e3, q⟩ := q
    refine ⟨y3, e3, q.mono fun d3 B3 q => ?_⟩
    exact ⟨q.1, Nat.le_of_ble_eq_true rfl, q.2⟩
end
def bareW : LW := ⟨[], fun _ => false, fun _ => none, fun _ => none, [], []⟩
abbrev brD (b : Nat × Nat) : D := .tup [intD b.1, intD b.2]
def swF (keep : Int) (spot : Nat) (w : LW) (b : Nat × Nat) : LW := if b.1 = spot then sweptP keep spot b.2 w else w
def stepA (keep : Int) (br : List (Nat × Nat)) (spot : Nat) (w : LW) : LW := br.foldl (swF keep spot) (leaveP keep spot w)
def stepB (e : Ev) (w : LW) : LW := { didP e w with heard := w.heard ++ [resD e w] }
def runS (keep : Int) (br : List (Nat × Nat)) (tbl : List Ev) : Nat → LW
  | 0 => bareW
  | i + 1 => match tbl[i]? with
    | some e => stepB e (stepA keep br i (runS keep br tbl i))
    | none => stepA keep br i (runS keep br tbl i)
theorem swF_rows (keep : Int) (spot : Nat) (br : List (Nat × Nat)) : ∀ w : LW, (br.foldl (swF keep spot) w).rows = w.rows := by
  induction br with
  | nil => intro w; rfl
  | cons b br ih =>
    intro w
    rw [List.foldl_cons, ih]
    unfold swF
    split <;> rfl
theorem stepA_rows (keep : Int) (br : List (Nat × Nat)) (spot : Nat) (w : LW) : (stepA keep br spot w).rows = w.rows := by
  unfold stepA
  rw [swF_rows]; rfl
theorem didP_rows (e : Ev) (w : LW) : (didP e w).rows.length ≤ w.rows.length + 1 := by
  cases e <;> first | exact Nat.le_succ _ | (show (w.rows ++ [_]).length ≤ _; rw [List.length_append]; exact Nat.le_refl _)
theorem runS_rows (keep : Int) (br : List (Nat × Nat)) (tbl : List Ev) : ∀ i, (runS keep br tbl i).rows.length ≤ i
  | 0 => Nat.le_refl 0
  | i + 1 => by
    have ih := runS_rows keep br tbl i
    show (match tbl[i]? with | some e => stepB e (stepA keep br i (runS keep br tbl i)) | none => stepA keep br i (runS keep br tbl i)).rows.length ≤ i + 1
    have hA : (stepA keep br i (runS keep br tbl i)).rows.length ≤ i := by rw [stepA_rows]; exact ih
    cases tbl[i]? with
    | none => exact Nat.le_succ_of_le hA
    | some e => exact Nat.le_trans (didP_rows e _) (Nat.succ_le_succ hA)
structure RunOk (keep : Int) (br : List (Nat × Nat)) (tbl : List Ev) : Prop where
  len : tbl.length ≤ 14
  brl : br.length ≤ 15
  ev : ∀ i e, tbl[i]? = some e → EvOk e (stepA keep br i (runS keep br tbl i))
  br : ∀ b ∈ br, b.2 ≤ (runS keep br tbl b.1).rows.length
theorem LwE.hear {w w' : LW} {n : Nat} {gk sk pk tk : List (Key × D)} {cs : List D} {ts : Mem} (h : LwE w n gk sk pk tk cs ts) (hg : w'.gone = w.gone) (hs : w'.since = w.since) (hp : w'.seats = w.seats) (hc : w'.copies = w.copies) (hr : w'.rows = w.rows) (hh : w'.heard.length ≤ n + 1) : LwE w' (n + 1) gk sk pk tk cs ts where
  hg := by rw [hg]; exact h.hg
  hs := by rw [hs]; exact h.hs
  hp := by rw [hp]; exact h.hp
  ht := by rw [hp]; exact (h.mono (Nat.le_succ n)).ht
  hl := by rw [hc]; exact h.hl
  hc := by rw [hc]; exact (h.mono (Nat.le_succ n)).hc
  ng := Nat.le_succ_of_le h.ng
  ns := Nat.le_succ_of_le h.ns
  np := Nat.le_succ_of_le h.np
  nt := Nat.le_succ_of_le h.nt
  nc := Nat.le_succ_of_le h.nc
  nr := by rw [hr]; exact Nat.le_succ_of_le h.nr
  nh := hh
theorem didP_heard (e : Ev) (w : LW) : (didP e w).heard = w.heard := by cases e <;> rfl
section
variable {P : Program} {w : World} {K : PySem.W.Frag} {mg : Str → Option Value} {base : Heap} {CV CF : Addr}
abbrev sBr : Stmt := topS 20
def wBr : Wp := fun ds M Q => ds = [] ∧ ∀ a ah M', LwM a ah bareW 0 M M' → Q (.v (.ref a)) M'
theorem scBr : FnScope [] [] (defScope sBr) := ⟨rfl, rfl, rfl, by decide +kernel, rfl, by decide +kernel, by decide +kernel⟩
theorem ok_br (Df : DefG K mg "_law_bare" sBr) : CalG P w K mg base 1 "_law_bare" wBr := by
  refine CalG.mk' Df scBr (fun _ _ _ _ _ _ us hl => match us, hl with | [], _ => rfl) (fun ds M QD h => by obtain ⟨rfl, _⟩ := h; rfl) fun f cdv A outer s H hr ds M QD h => ?_
  obtain ⟨rfl, q⟩ := h
  refine xss_one ?_
  refine xs_ret ?_
  refine xe_perm ?_
  refine xe_disp7 7 ?_
  intro a
  refine xe_str ?_
  refine ⟨Sum.inr "rows", rfl, ?_⟩
  refine xe_lstM (xa_nil ?_)
  refine ⟨by decide, ?_⟩
  intro ar
  refine xe_str ?_
  refine ⟨Sum.inr "gone", rfl, ?_⟩
  refine xe_dctM ?_
  intro ag
  refine xe_str ?_
  refine ⟨Sum.inr "since", rfl, ?_⟩
  refine xe_dctM ?_
  intro as
  refine xe_str ?_
  refine ⟨Sum.inr "seats", rfl, ?_⟩
  refine xe_dctM ?_
  intro ap
  refine xe_str ?_
  refine ⟨Sum.inr "tables", rfl, ?_⟩
  refine xe_dctM ?_
  intro at'
  refine xe_str ?_
  refine ⟨Sum.inr "copies", rfl, ?_⟩
  refine xe_lstM (xa_nil ?_)
  refine ⟨by decide, ?_⟩
  intro ac
  refine xe_str ?_
  refine ⟨Sum.inr "heard", rfl, ?_⟩
  refine xe_lstM (xa_nil ?_)
  refine ⟨by decide, ?_⟩
  intro ah
  refine ⟨rfl, wM a ar ag as ap at' ac ah bareW [] [] [] [] [] [] M, ?_, q a ah _ ⟨ar, ag, as, ap, at', ac, _, _, _, _, _, _, rfl, ?_⟩⟩
  · show List.Perm ((ah, MO.lst []) :: (ac, MO.lst []) :: (at', MO.dct []) :: (ap, MO.dct []) :: (as, MO.dct []) :: (ag, MO.dct []) :: (ar, MO.lst []) :: (a, MO.dct (wK ar ag as ap at' ac ah)) :: M) ([(a, MO.dct (wK ar ag as ap at' ac ah)), (ar, MO.lst []), (ag, MO.dct []), (as, MO.dct []), (ap, MO.dct []), (at', MO.dct []), (ac, MO.lst []), (ah, MO.lst [])] ++ M)
    have : List.Perm ([(ah, MO.lst []), (ac, MO.lst []), (at', MO.dct []), (ap, MO.dct []), (as, MO.dct []), (ag, MO.dct []), (ar, MO.lst []), (a, MO.dct (wK ar ag as ap at' ac ah))] ++ M) ([(a, MO.dct (wK ar ag as ap at' ac ah)), (ar, MO.lst []), (ag, MO.dct []), (as, MO.dct []), (ap, MO.dct []), (at', MO.dct []), (ac, MO.lst []), (ah, MO.lst [])] ++ M) :=
      List.Perm.append_right M (List.reverse_perm [(a, MO.dct (wK ar ag as ap at' ac ah)), (ar, MO.lst []), (ag, MO.dct []), (as, MO.dct []), (ap, MO.dct []), (at', MO.dct []), (ac, MO.lst []), (ah, MO.lst [])])
    exact this
  · refine ⟨fun _ => rfl, fun _ => rfl, fun _ => rfl, fun p hp => (by cases hp), rfl, fun i s h => (by simp [bareW] at h), ?_, ?_, ?_, ?_, ?_, ?_, ?_⟩ <;> exact Nat.le_refl 0
end
end Mm
end
section
set_option maxHeartbeats 400000
/-! W16: the law's own log: run. -/
namespace Mm
open PySem PySem.Spec PyProof.Rows L2 Dl
theorem LwM.mono {a ah : Addr} {w : LW} {n m : Nat} {M0 M : Mem} (h : LwM a ah w n M0 M) (hn : n ≤ m) : LwM a ah w m M0 M := by
  obtain ⟨ar, ag, as, ap, at', ac, gk, sk, pk, tk, cs, ts, e, hE⟩ := h
  exact ⟨ar, ag, as, ap, at', ac, gk, sk, pk, tk, cs, ts, e, hE.mono hn⟩
theorem runS_some {keep : Int} {br : List (Nat × Nat)} {tbl : List Ev} {i : Nat} {e : Ev} (h : tbl[i]? = some e) : runS keep br tbl (i + 1) = stepB e (stepA keep br i (runS keep br tbl i)) := by
  show (match tbl[i]? with | some e => stepB e (stepA keep br i (runS keep br tbl i)) | none => stepA keep br i (runS keep br tbl i)) = _
  rw [h]
theorem runS_none {keep : Int} {br : List (Nat × Nat)} {tbl : List Ev} {i : Nat} (h : tbl[i]? = none) : runS keep br tbl (i + 1) = stepA keep br i (runS keep br tbl i) := by
  show (match tbl[i]? with | some e => stepB e (stepA keep br i (runS keep br tbl i)) | none => stepA keep br i (runS keep br tbl i)) = _
  rw [h]
section
variable {P : Program} {w : World} {K : PySem.W.Frag} {mg : Str → Option Value} {base : Heap} {CV CF : Addr}
abbrev sRn : Stmt := topS 25
def wRn : Wp := fun ds M Q => ∃ (tbl : List Ev) (keep : Int) (br : List (Nat × Nat)), ds = [.tup (tbl.map evD), .v (.int keep), .tup (br.map brD)] ∧ RunOk keep br tbl ∧ ∀ a ah M', LwM a ah (runS keep br tbl (tbl.length + 1)) 90000 M M' → Q (.v (.ref a)) M'
abbrev nRn : List Str := ["_law_table_here", "_law_keep", "_law_broom", "_law_w", "_law_spot", "_law_when", "_law_end"]
theorem scRn : FnScope nRn ["_law_table_here", "_law_keep", "_law_broom"] (defScope sRn) := ⟨rfl, rfl, rfl, by decide +kernel, rfl, by decide +kernel, by decide +kernel⟩
theorem ok_rn (T : Txt K mg CV CF) (Br : CalG P w K mg base 1 "_law_bare" wBr) (Lv : CalG P w K mg base 1 "_law_leave" wLv) (Sw : CalG P w K mg base 2 "_law_swept" wSw) (Dd : CalG P w K mg base 2 "_law_did" wDd) (Df : DefG K mg "_law_run" sRn) : CalG P w K mg base 3 "_law_run" wRn := by
  refine CalG.mk' Df scRn (fun _ _ _ _ _ _ us hl => match us, hl with | [_, _, _], _ => rfl) (fun ds M QD h => by obtain ⟨_, _, _, rfl, _⟩ := h; rfl) fun f cdv A outer s H hr ds M QD h => ?_
  obtain ⟨tbl, keep, br, rfl, ok, q⟩ := h
  have hN := scRn.nd
  have hr1 := hr.mono (j := 1) (by omega)
  have hu := hu_of (hr.mono (j := 0) (by omega))
  have fl := T.free "len" (by decide +kernel)
  have frg := T.free "range" (by decide +kernel)
  have hl := ok.len
  have hbl := ok.brl
  refine xss_cons (xs_set 3 (xe_fn0 Br hr1 ?_))
  refine ⟨rfl, ?_⟩
  intro a ah M1 hM1
  refine xss_cons (xs_for [4] (xi_range1 (xa_cons (xe_bin (xe_len (xe_var 0 rfl ⟨_, .inr rfl, xe_int (od_add ?_)⟩) fl))) frg))
  refine xa_nil ⟨((tbl.length + 1 : Nat) : Int), by rw [List.length_map]; rfl, by omega, by omega, ?_⟩
  rw [Int.toNat_natCast]
  refine ⟨fun i ρ' M' => (∃ d4 d5 d6, ρ' = [some (.tup (tbl.map evD)), some (.v (.int keep)), some (.tup (br.map brD)), some (.v (.ref a)), d4, d5, d6]) ∧ LwM a ah (runS keep br tbl i) (4816 * i) M M', ⟨⟨_, _, _, rfl⟩, hM1⟩, fun _ _ _ _ _ => trivial, ?_, ?_⟩
  · rintro i d ρ' M' hd ⟨⟨d4, d5, d6, rfl⟩, hM⟩
    have hi : i < tbl.length + 1 := by
      have := (List.getElem?_eq_some_iff.mp hd).1
      simpa using this
    have hd2 : d = intD i := by
      rw [List.getElem?_map, List.getElem?_range hi] at hd
      cases hd
      show D.v (.int (0 + (i : Int))) = _
      rw [Int.zero_add]
    subst hd2
    have hrows := runS_rows keep br tbl i
    refine xg_name 4 ?_
    refine xss_cons (xs_expr (xe_fn Lv hr1 (xa_cons (xe_var 3 rfl (xa_cons (xe_var 1 rfl (xa_cons (xe_var 4 rfl (xa_nil ⟨a, ah, _, _, M, keep, i, rfl, hM, by omega, by omega, ?_⟩)))))))))
    intro M2 hM2
    refine xss_cons (xs_for [5, 6] (xi_val (xe_var 2 rfl (idt_tup ⟨fun j ρ' M' => (∃ d5 d6, ρ' = [some (.tup (tbl.map evD)), some (.v (.int keep)), some (.tup (br.map brD)), some (.v (.ref a)), some (intD i), d5, d6]) ∧ LwM a ah ((br.take j).foldl (swF keep i) (leaveP keep i (runS keep br tbl i))) (4816 * i + 14 + 300 * j) M M', ⟨⟨_, _, rfl⟩, hM2.mono (by omega)⟩, fun _ _ _ _ _ => trivial, ?_, ?_⟩))))
    · rintro j d ρ' M' hd ⟨⟨d5, d6, rfl⟩, hM⟩
      rw [List.getElem?_map] at hd
      cases hbj : br[j]? with
      | none => rw [hbj] at hd; cases hd
      | some b =>
        rw [hbj] at hd
        cases hd
        have hjl := (List.getElem?_eq_some_iff.mp hbj).1
        have hst : (br.take (j + 1)).foldl (swF keep i) (leaveP keep i (runS keep br tbl i)) = swF keep i ((br.take j).foldl (swF keep i) (leaveP keep i (runS keep br tbl i))) b := by
          rw [List.take_succ, hbj, List.foldl_append]; rfl
        have hrw : ((br.take j).foldl (swF keep i) (leaveP keep i (runS keep br tbl i))).rows = (runS keep br tbl i).rows := by rw [swF_rows]; rfl
        refine xg_tup (xgs_cons (xg_name 5 (xgs_cons (xg_name 6 (xgs_nil ?_)))))
        refine xss_one (xs_if (xt_cmp (xe_var 5 rfl (xe_var 4 rfl (od_eq rfl ⟨_, rfl, ⟨fun hz => ?_, fun hz => ?_⟩⟩)))))
        · have hbi : b.1 = i := by
            have := of_decide_eq_true hz
            have := V.int.inj this
            omega
          refine xss_one (xs_expr (xe_fn Sw hr (xa_cons (xe_var 3 rfl (xa_cons (xe_var 1 rfl (xa_cons (xe_var 4 rfl (xa_cons (xe_var 6 rfl (xa_nil ⟨a, ah, _, _, M, keep, i, b.2, rfl, hM, by omega, by rw [hrw]; omega, ?_, fun M3 hM3 => ⟨⟨_, _, rfl⟩, ?_⟩⟩)))))))))))
          · rw [hrw, ← hbi]
            exact ok.br b (List.mem_of_getElem? hbj)
          · rw [hst, swF, if_pos hbi]
            exact hM3.mono (by omega)
        · refine xss_nil ⟨⟨_, _, rfl⟩, ?_⟩
          rw [hst, swF, if_neg]
          · exact hM.mono (by omega)
          · intro e
            rw [e] at hz
            exact absurd rfl (of_decide_eq_false hz)
    · rintro ρ' M' ⟨⟨d5, d6, rfl⟩, hM⟩
      rw [List.length_map, List.take_length] at hM
      have hA : LwM a ah (stepA keep br i (runS keep br tbl i)) (4816 * i + 14 + 300 * br.length) M M' := hM
      have hAr : (stepA keep br i (runS keep br tbl i)).rows.length ≤ i := by rw [stepA_rows]; exact hrows
      refine xss_one (xs_if (xt_cmp (xe_var 4 rfl (xe_len (xe_var 0 rfl ⟨_, .inr rfl, od_lt ⟨_, rfl, ⟨fun hz => ?_, fun hz => ?_⟩⟩⟩) fl))))
      · have hlt : i < tbl.length := by
          have := of_decide_eq_true hz
          rw [List.length_map] at this
          omega
        have hti : tbl[i]? = some tbl[i] := List.getElem?_eq_getElem hlt
        obtain ⟨ar, ag, as, ap, at', ac, gk, sk, pk, tk, cs, ts, rfl, hE⟩ := hA
        refine xss_one (xs_expr (xe_append 7 (xe_wf hu (xe_var 3 rfl ⟨0, _, _, _, rfl, rfl, rfl, ah, rfl, ⟨7, _, rfl⟩, ?_⟩))))
        refine xe_fn Dd hr (xa_cons (xe_var 3 rfl (xa_cons (xe_ix (xe_var 0 rfl (xe_var 4 rfl (id_tup (d := evD tbl[i]) (atI_nat (by rw [List.getElem?_map, hti]; rfl)) (xa_nil ?_))))))))
        refine ⟨a, ah, _, _, M, tbl[i], rfl, ⟨ar, ag, as, ap, at', ac, gk, sk, pk, tk, cs, ts, rfl, hE⟩, by omega, by omega, ok.ev i _ hti, ?_⟩
        rintro M' ⟨ar, ag, as, ap, at', ac, gk, sk, pk, tk, cs, ts, rfl, hE⟩
        have hh : (didP tbl[i] (stepA keep br i (runS keep br tbl i))).heard = (stepA keep br i (runS keep br tbl i)).heard := didP_heard _ _
        have hnh := hE.nh
        refine ⟨(didP tbl[i] (stepA keep br i (runS keep br tbl i))).heard, rfl, by omega, ⟨_, _, _, rfl⟩, ?_⟩
        rw [runS_some hti]
        refine ⟨ar, ag, as, ap, at', ac, gk, sk, pk, tk, cs, ts, ?_, ((hE.hear (w' := stepB tbl[i] (stepA keep br i (runS keep br tbl i))) rfl rfl rfl rfl rfl ?_).mono (by omega))⟩
        · show _ = wM a ar ag as ap at' ac ah (stepB tbl[i] (stepA keep br i (runS keep br tbl i))) gk sk pk tk cs ts M
          show (a, MO.dct (wK ar ag as ap at' ac ah)) :: (ar, MO.lst ((didP tbl[i] (stepA keep br i (runS keep br tbl i))).rows.map kvD)) :: (ag, MO.dct gk) :: (as, MO.dct sk) :: (ap, MO.dct pk) :: (at', MO.dct tk) :: (ac, MO.lst cs) :: (ah, MO.lst ((didP tbl[i] (stepA keep br i (runS keep br tbl i))).heard ++ [resD tbl[i] (stepA keep br i (runS keep br tbl i))])) :: (ts ++ M) = _
          rw [hh]; rfl
        · show ((stepA keep br i (runS keep br tbl i)).heard ++ [_]).length ≤ _
          rw [List.length_append, ← hh, List.length_singleton]
          omega
      · have hti : tbl[i]? = none := by
          have := of_decide_eq_false hz
          rw [List.length_map] at this
          exact List.getElem?_eq_none (by omega)
        refine xss_nil ⟨⟨_, _, _, rfl⟩, ?_⟩
        rw [runS_none hti]
        exact hA.mono (by omega)
  · rintro ρ' M' ⟨⟨d4, d5, d6, rfl⟩, hM⟩
    rw [List.length_map, List.length_range] at hM
    exact xss_one (xs_ret (xe_var 3 rfl (q a ah M' (hM.mono (by omega)))))
end
end Mm
end
section
set_option maxHeartbeats 400000
/-! W17: == of flat lists; the law's table: event. -/
namespace Mm
open PySem PySem.Spec PyProof.Rows L2 Dl
/-! ### lists of ints, of texts, as data -/
def FlatP (x : PyData) : Prop := (∃ i, x = .int i) ∨ ∃ z, x = .str z ∧ PyData.strOk z = true
theorem flat_lay : ∀ xs : List PyData, (∀ x ∈ xs, FlatP x) → PyData.canLayAll0 xs = true ∧ PyData.depthAll xs ≤ 1
  | [], _ => ⟨by simp [PyData.canLayAll0], by simp [PyData.depthAll]⟩
  | x :: xs, h => by
    obtain ⟨h1, h2⟩ := flat_lay xs fun y hy => h y (List.mem_cons_of_mem _ hy)
    rcases h x List.mem_cons_self with ⟨i, rfl⟩ | ⟨z, rfl, hz⟩
    · refine ⟨by simp [PyData.canLayAll0, PyData.canLay0, h1], ?_⟩
      simp [PyData.depthAll, PyData.depth]; omega
    · refine ⟨by simp [PyData.canLayAll0, PyData.canLay0, h1, hz], ?_⟩
      simp [PyData.depthAll, PyData.depth]; omega
theorem flat_shaped {xs : List PyData} (h : ∀ x ∈ xs, FlatP x) : SeqAt.shaped (.list xs) = true := by
  obtain ⟨h1, h2⟩ := flat_lay xs h
  have e : SeqAt.shaped (.list xs) = (PyData.canLay0 (.list xs) && decide ((PyData.list xs).depth ≤ 64)) := rfl
  rw [e]
  simp [PyData.canLay0, PyData.depth, h1]; omega
theorem pdA_ints (l : List Nat) : pdA (l.map intD) = some (l.map fun n : Nat => PyData.int (n : Int)) := by
  induction l with
  | nil => rfl
  | cons n l ih =>
    show (pdD (intD n)).bind (fun x => (pdA (l.map intD)).map fun xs => x :: xs) = _
    rw [ih]; rfl
theorem pdA_strs (l : List Str) : pdA (l.map fun z => D.v (.str z)) = some (l.map fun z => PyData.str z) := by
  induction l with
  | nil => rfl
  | cons n l ih =>
    show (pdD (.v (.str n))).bind (fun x => (pdA (l.map fun z => D.v (.str z))).map fun xs => x :: xs) = _
    rw [ih]; rfl
theorem flat_ints (l : List Nat) : ∀ x ∈ l.map (fun n : Nat => PyData.int (n : Int)), FlatP x := fun x hx => by
  obtain ⟨n, _, rfl⟩ := List.mem_map.mp hx
  exact .inl ⟨_, rfl⟩
theorem flat_strsP (l : List Str) (h : ∀ z ∈ l, PyData.strOk z = true) : ∀ x ∈ l.map (fun n => PyData.str n), FlatP x := fun x hx => by
  obtain ⟨n, hn, rfl⟩ := List.mem_map.mp hx
  exact .inr ⟨_, rfl, h n hn⟩
section
variable {X : Cx} {M : Mem} {Q : KE}
/-- list of ints != [] -/
theorem od_neN {d1 d2 : D} {l : List Nat} (hu : X.A.units + 64 < cLine) (h1 : SeesL M d1 (l.map intD)) (h2 : SeesL M d2 []) (q : ∀ z, (z = true ↔ l ≠ []) → Q (.v (.bl z)) M) : OpD X (compareOp .NotEq) d1 d2 M Q := fun F H v w s r1 r2 R k => by
  obtain ⟨a, xs, rfl, e1, ra⟩ := h1.get s r1
  obtain ⟨b, ys, rfl, e2, rb⟩ := h2.get s r2
  refine OpR.w (op_neD hu) ⟨.list (l.map fun n : Nat => PyData.int (n : Int)), .list [], dp_of (d := .lst (l.map intD)) ?_ (.lst e1 (ra.mono s.le)), dp_of (d := .lst []) rfl (.lst e2 (rb.mono s.le)), flat_shaped (flat_ints l), flat_shaped (xs := []) (fun x hx => by cases hx), k _ _ M F H (q _ ?_) (Step.refl _ _ _) s (.v _)⟩
  · show (pdA (l.map intD)).map PyData.list = _
    rw [pdA_ints]; rfl
  · cases l with
    | nil => exact ⟨fun h => absurd h (by decide), fun h => absurd rfl h⟩
    | cons n l => exact ⟨fun _ => List.cons_ne_nil _ _, fun _ => by simp only [List.map_cons]; rfl⟩
end
/-! ### the table's state -/
structure MV where
  seats : Nat → Option Nat
  copies : List Nat
  many : Nat
def EvOkM : Ev → MV → Prop
  | .put k _, _ => k ∈ (["a", "b", "c"] : List Str)
  | .drop k, _ => k ∈ (["a", "b", "c"] : List Str)
  | .wait, _ => True
  | .join p, _ => p < 2
  | .load p i, v => p < 2 ∧ i < v.copies.length
  | .save p, v => p < 2 ∧ (v.seats p).isSome = true
  | .read p u, v => p < 2 ∧ ∃ s, v.seats p = some s ∧ s < u ∧ u ≤ v.many
def optEv : Option Ev → D
  | none => .v .non
  | some e => evD e
abbrev vK (ap ac : Addr) (m : Nat) : List (Key × D) := [(Sum.inr "seats", .v (.ref ap)), (Sum.inr "copies", .v (.ref ac)), (Sum.inr "many", intD m)]
abbrev vM (aw ap ac : Addr) (v : MV) (pk : List (Key × D)) (M0 : Mem) : Mem := (aw, .dct (vK ap ac v.many)) :: (ap, .dct pk) :: (ac, .lst (v.copies.map intD)) :: M0
abbrev abcD : D := .lst [.v (.str "a"), .v (.str "b"), .v (.str "c")]
abbrev wordsS : Str := "pppddrrrjwsl"
section
variable {P : Program} {w : World} {K : PySem.W.Frag} {mg : Str → Option Value} {base : Heap} {CV CF : Addr}
abbrev sEv : Stmt := topS 26
def wEv : Wp := fun ds M Q => ∃ (i : Nat) (l aw ap ac : Addr) (b : List D) (n : Nat) (v : MV) (pk : List (Key × D)) (M0 : Mem), ds = [.v (.ref l), .v (.ref aw), intD 2, abcD, .v (.str wordsS)] ∧ M = vM aw ap ac v pk M0 ∧ M0[i]? = some (l, .lst b) ∧ BxOk n b ∧ n < 900000 ∧ (∀ p : Nat, valD pk (Sum.inl (p : Int)) = (v.seats p).map intD) ∧ v.copies.length ≤ 3 ∧ v.many ≤ 100 ∧
  ∀ b' o, BxOk (n + 4) b' → (∀ e, o = some e → EvOkM e v) → Q (optEv o) (vM aw ap ac v pk (M0.set i (l, .lst b')))
abbrev nEv : List Str := ["_law_box_here", "_law_w", "_law_folk", "_law_names", "_law_words", "_law_way", "_law_p", "_law_key_so", "_law_gap"]
theorem scEv : FnScope nEv ["_law_box_here", "_law_w", "_law_folk", "_law_names", "_law_words"] (defScope sEv) := ⟨rfl, rfl, rfl, by decide +kernel, rfl, by decide +kernel, by decide +kernel⟩
theorem BxOk.mono {n m : Nat} {b : List D} (h : BxOk n b) (hn : n ≤ m) : BxOk m b := by
  obtain ⟨a, s, c, e, h1, h2, h3, h4, h5⟩ := h
  exact ⟨a, s, c, e, h1, h2, h3, h4, by omega⟩
theorem ok_ev (T : Txt K mg CV CF) (Tk : CalG P w K mg base 1 "_law_take" wTk) (Of : CalG P w K mg base 2 "_law_of" wOf) (Df : DefG K mg "_law_event" sEv) : CalG P w K mg base 3 "_law_event" wEv := by
  refine CalG.mk' Df scEv (fun _ _ _ _ _ _ us hl => match us, hl with | [_, _, _, _, _], _ => rfl) (fun ds M QD h => by obtain ⟨_, _, _, _, _, _, _, _, _, _, rfl, _⟩ := h; rfl) fun f cdv A outer s H hr ds M QD h => ?_
  obtain ⟨i, l, aw, ap, ac, b, n, v, pk, M0, rfl, rfl, hm, hb, hn, hpk, hcl, hmy, q⟩ := h
  have hN := scEv.nd
  have hr1 := hr.mono (j := 1) (by omega)
  have hu := hu_of (hr.mono (j := 0) (by omega))
  have fl := T.free "len" (by decide +kernel)
  have hss : ∀ (b1 b2 : List D), (M0.set i (l, MO.lst b1)).set i (l, MO.lst b2) = M0.set i (l, MO.lst b2) := fun b1 b2 => List.set_set _
  refine xss_cons (xs_par3 5 6 7 (xa_cons (xe_ix (xe_var 4 rfl (xe_fn Tk hr1 (xa_cons (xe_var 0 rfl (xa_cons (xe_callB (id := "len") (xa_cons (xe_var 4 rfl (xa_nil (cd_lenS (by decide) ?_)))) fl (by decide +kernel))))))))))
  refine xa_nil ⟨i + 3, l, b, n, 12, rfl, hm, hb, by omega, by omega, by omega, fun b1 k1 hb1 hk1 => ?_⟩
  have hz12 : wordsS.cps.toList.length = 12 := by decide
  refine id_str (c := wordsS.cps.toList[k1]) (by decide) (atI_nat (List.getElem?_eq_getElem (by omega))) (xa_cons ?_)
  have hm1 : (M0.set i (l, MO.lst b1))[i]? = some (l, .lst b1) := set_at hm
  refine xe_fn Tk hr1 (xa_cons (xe_var 0 rfl (xa_cons (xe_var 2 rfl (xa_nil ⟨i + 3, l, b1, n + 1, 2, rfl, hm1, hb1, by omega, by omega, by omega, fun b2 p hb2 hp => xa_cons ?_⟩)))))
  have hm2 : ((M0.set i (l, MO.lst b1)).set i (l, MO.lst b2))[i]? = some (l, .lst b2) := set_at hm1
  refine xe_fn Of hr (xa_cons (xe_var 0 rfl (xa_cons (xe_var 3 rfl (xa_nil ⟨i + 3, l, b2, n + 2, [.v (.str "a"), .v (.str "b"), .v (.str "c")], rfl, hm2, hb2, by omega, by decide, Nat.le_of_ble_eq_true rfl, fun b3 d hb3 hd => xa_nil ⟨_, _, _, rfl, ?_⟩⟩)))))
  obtain ⟨ky, rfl, hky⟩ : ∃ ky : Str, d = .v (.str ky) ∧ ky ∈ (["a", "b", "c"] : List Str) := by
    simp only [List.mem_cons, List.not_mem_nil, or_false] at hd
    rcases hd with rfl | rfl | rfl
    · exact ⟨_, rfl, by decide⟩
    · exact ⟨_, rfl, by decide⟩
    · exact ⟨_, rfl, by decide⟩
  show XSs _ _ _ (vM aw ap ac v pk (((M0.set i (l, MO.lst b1)).set i (l, MO.lst b2)).set i (l, MO.lst b3))) _
  rw [hss, hss]
  have hm3 : (M0.set i (l, MO.lst b3))[i]? = some (l, .lst b3) := set_at hm
  generalize (⟨#[wordsS.cps.toList[k1]]⟩ : Str) = wy
  have hb34 := hb3.mono (show n + 2 + 1 ≤ n + 4 by omega)
  have hps := hpk p
  refine xss_cons (xs_if (xt_cmp (xe_var 5 rfl (xe_str (od_eq rfl ⟨_, rfl, ⟨fun _ => ?_, fun _ => ?_⟩⟩)))))
  · refine xss_one (xs_ret (xe_tup (xa_cons (xe_str (xa_cons (xe_var 7 rfl (xa_cons (xe_bin (xe_fn Tk hr1 (xa_cons (xe_var 0 rfl (xa_cons (xe_int (xa_nil ⟨i + 3, l, b3, n + 3, 9, rfl, hm3, hb3, by omega, by omega, by omega, fun b4 k4 hb4 hk4 => ?_⟩))))))))))))))
    refine xe_int (od_sub (xa_nil ⟨Nat.le_of_ble_eq_true rfl, ?_⟩))
    show QD (optEv (some (.put ky (k4 - 4)))) (vM aw ap ac v pk ((M0.set i (l, MO.lst b3)).set i (l, MO.lst b4)))
    rw [hss]
    exact q b4 _ hb4 fun e he => by cases he; exact hky
  refine xss_nil (xss_cons (xs_if (xt_cmp (xe_var 5 rfl (xe_tup (xa_cons (xe_str (xa_cons (xe_str (xa_nil ⟨Nat.le_of_ble_eq_true rfl, od_inT (ys := [.str "d", .str "w"]) rfl rfl rfl ⟨_, rfl, ⟨fun _ => ?_, fun _ => ?_⟩⟩⟩))))))))))
  · refine xss_one (xs_ret (xe_if (xt_cmp (xe_var 5 rfl (xe_str (od_eq rfl ⟨_, rfl, ⟨fun _ => ?_, fun _ => ?_⟩⟩))))))
    · exact xe_tup (xa_cons (xe_str (xa_cons (xe_var 7 rfl (xa_nil ⟨Nat.le_of_ble_eq_true rfl, q b3 (some (.drop ky)) hb34 fun e he => by cases he; exact hky⟩)))))
    · exact xe_tup (xa_cons (xe_str (xa_nil ⟨Nat.le_of_ble_eq_true rfl, q b3 (some .wait) hb34 fun e he => by cases he; trivial⟩)))
  refine xss_nil (xss_cons (xs_if (xt_cmp (xe_var 5 rfl (xe_str (od_eq rfl ⟨_, rfl, ⟨fun _ => ?_, fun _ => ?_⟩⟩))))))
  · exact xss_one (xs_ret (xe_tup (xa_cons (xe_str (xa_cons (xe_var 6 rfl (xa_nil ⟨Nat.le_of_ble_eq_true rfl, q b3 (some (.join p)) hb34 fun e he => by cases he; exact hp⟩)))))))
  refine xss_nil (xss_cons (xs_if (xt_cmp (xe_var 5 rfl (xe_str (od_eq rfl ⟨_, rfl, ⟨fun _ => ?_, fun _ => ?_⟩⟩))))))
  · refine xss_one (xs_ret (xe_if (xt_cmp (xe_wf hu (xe_var 1 rfl ⟨0, _, _, _, rfl, rfl, rfl, xe_lst (xa_nil ⟨by decide, od_neN hr.units (.m 2 rfl) .of ?_⟩)⟩)))))
    intro z hz
    refine ⟨z, rfl, ⟨fun hz2 => ?_, fun hz2 => ?_⟩⟩
    · have hne := hz.mp hz2
      have hpos : 0 < v.copies.length := List.length_pos_iff.mpr hne
      refine xe_tup (xa_cons (xe_str (xa_cons (xe_var 6 rfl (xa_cons (xe_fn Tk hr1 (xa_cons (xe_var 0 rfl (xa_cons (xe_len (xe_wf hu (xe_var 1 rfl ⟨0, _, _, _, rfl, rfl, rfl, _, .inl (.m 2 rfl), ?_⟩)) fl))))))))))
      rw [List.length_map]
      refine xa_nil ⟨i + 3, l, b3, n + 3, v.copies.length, rfl, hm3, hb3, by omega, hpos, by omega, fun b4 k4 hb4 hk4 => xa_nil ⟨Nat.le_of_ble_eq_true rfl, ?_⟩⟩
      show QD (optEv (some (.load p k4))) (vM aw ap ac v pk ((M0.set i (l, MO.lst b3)).set i (l, MO.lst b4)))
      rw [hss]
      exact q b4 _ hb4 fun e he => by cases he; exact ⟨hp, hk4⟩
    · exact xe_non (q b3 none hb34 fun e he => by cases he)
  refine xss_nil (xss_cons (xs_if (xt_cmp (xe_var 6 rfl (xe_wf hu (xe_var 1 rfl ⟨0, _, _, _, rfl, rfl, rfl, od_dNotIn (k := Sum.inl (p : Int)) hu (.m 1 rfl) rfl ⟨_, rfl, ⟨fun _ => ?_, fun hz => ?_⟩⟩⟩))))))
  · exact xss_one (xs_ret (xe_tup (xa_cons (xe_str (xa_cons (xe_var 6 rfl (xa_nil ⟨Nat.le_of_ble_eq_true rfl, q b3 (some (.join p)) hb34 fun e he => by cases he; exact hp⟩)))))))
  rw [hps, Option.isSome_map] at hz
  have hsm : (v.seats p).isSome = true := by simpa using hz
  obtain ⟨s0, hs0⟩ := Option.isSome_iff_exists.mp hsm
  refine xss_nil (xss_cons (xs_if (xt_cmp (xe_var 5 rfl (xe_str (od_eq rfl ⟨_, rfl, ⟨fun _ => ?_, fun _ => ?_⟩⟩))))))
  · exact xss_one (xs_ret (xe_tup (xa_cons (xe_str (xa_cons (xe_var 6 rfl (xa_nil ⟨Nat.le_of_ble_eq_true rfl, q b3 (some (.save p)) hb34 fun e he => by cases he; exact ⟨hp, hsm⟩⟩)))))))
  have hps0 : valD pk (Sum.inl (p : Int)) = some (intD s0) := by rw [hps, hs0]; rfl
  refine xss_nil (xss_cons (xs_set 8 (xe_bin (xe_wf hu (xe_var 1 rfl ⟨0, _, _, _, rfl, rfl, rfl, xe_ix (xe_wf hu (xe_var 1 rfl ⟨0, _, _, _, rfl, rfl, rfl, xe_var 6 rfl (id_dct (k := Sum.inl (p : Int)) hu (.m 1 rfl) rfl hps0 (od_sub ?_))⟩))⟩)))))
  refine xss_one (xs_ret (xe_if (xt_cmp (xe_var 8 rfl (xe_int (od_gt ⟨_, rfl, ⟨fun hz2 => ?_, fun _ => ?_⟩⟩))))))
  · have hlt := of_decide_eq_true hz2
    have eg : (v.many : Int) - (s0 : Int) = ((v.many - s0 : Nat) : Int) := by omega
    refine xe_tup (xa_cons (xe_str (xa_cons (xe_var 6 rfl (xa_cons (xe_bin (xe_bin (xe_ix (xe_wf hu (xe_var 1 rfl ⟨0, _, _, _, rfl, rfl, rfl, xe_var 6 rfl (id_dct (k := Sum.inl (p : Int)) hu (.m 1 rfl) rfl hps0 (xe_int (od_add ?_)))⟩))))))))))
    refine xe_fn Tk hr1 (xa_cons (xe_var 0 rfl (xa_cons (xe_var 8 rfl (xa_nil ⟨i + 3, l, b3, n + 3, v.many - s0, by rw [eg], hm3, hb3, by omega, by omega, by omega, fun b4 k4 hb4 hk4 => od_add (xa_nil ⟨Nat.le_of_ble_eq_true rfl, ?_⟩)⟩)))))
    have e5 : (s0 : Int) + 1 + (k4 : Int) = ((s0 + 1 + k4 : Nat) : Int) := by omega
    rw [e5]
    show QD (optEv (some (.read p (s0 + 1 + k4)))) (vM aw ap ac v pk ((M0.set i (l, MO.lst b3)).set i (l, MO.lst b4)))
    rw [hss]
    exact q b4 _ hb4 fun e he => by cases he; exact ⟨hp, s0, hs0, by omega, by omega⟩
  · exact xe_non (q b3 none hb34 fun e he => by cases he)
end
end Mm
end
section
set_option maxHeartbeats 400000
/-! W18: the law's table: moved, table. -/
namespace Mm
open PySem PySem.Spec PyProof.Rows L2 Dl
def seatV (v : MV) (p u : Nat) : MV := { v with seats := fun q => if q = p then some u else v.seats q }
def mvP : Ev → MV → MV
  | .put _ _, v => { v with many := v.many + 1 }
  | .drop _, v => { v with many := v.many + 1 }
  | .wait, v => v
  | .join p, v => seatV v p 0
  | .load p i, v => seatV v p ((v.copies[i]?).getD 0)
  | .save p, v => { v with copies := v.copies ++ [(v.seats p).getD 0] }
  | .read p u, v => seatV v p u
def SeatK (pk : List (Key × D)) (f : Nat → Option Nat) : Prop := ∀ p : Nat, valD pk (Sum.inl (p : Int)) = (f p).map intD
theorem SeatK.put {pk : List (Key × D)} {v : MV} (h : SeatK pk v.seats) (p u : Nat) : SeatK (putD pk (Sum.inl (p : Int)) (intD u)) (seatV v p u).seats := fun q => by
  rw [valD_put]
  show _ = (if q = p then some u else v.seats q).map intD
  by_cases e : q = p
  · subst e; rw [if_pos rfl, if_pos rfl]; rfl
  · rw [if_neg (fun z => e (inl_inj.mp z)), h q, if_neg e]
def isLd : Ev → Bool
  | .load _ _ => true
  | _ => false
theorem eqLd (e : Ev) : decide (V.str (evW e) = .str "load") = isLd e := by cases e <;> rfl
section
variable {P : Program} {w : World} {K : PySem.W.Frag} {mg : Str → Option Value} {base : Heap} {CV CF : Addr}
abbrev sMv : Stmt := topS 27
def wMv : Wp := fun ds M Q => ∃ (aw ap ac : Addr) (v : MV) (pk : List (Key × D)) (M0 : Mem) (e : Ev), ds = [.v (.ref aw), evD e] ∧ M = vM aw ap ac v pk M0 ∧ SeatK pk v.seats ∧ EvOkM e v ∧ pk.length < 50000 ∧ v.copies.length < 1000 ∧
  ∀ pk', SeatK pk' (mvP e v).seats → pk'.length ≤ pk.length + 1 → Q (.v .non) (vM aw ap ac (mvP e v) pk' M0)
abbrev nMv : List Str := ["_law_w", "_law_event_so", "_law_word"]
theorem scMv : FnScope nMv ["_law_w", "_law_event_so"] (defScope sMv) := ⟨rfl, rfl, rfl, by decide +kernel, rfl, by decide +kernel, by decide +kernel⟩
theorem ok_mv (T : Txt K mg CV CF) (Df : DefG K mg "_law_moved" sMv) : CalG P w K mg base 1 "_law_moved" wMv := by
  refine CalG.mk' Df scMv (fun _ _ _ _ _ _ us hl => match us, hl with | [_, _], _ => rfl) (fun ds M QD h => by obtain ⟨_, _, _, _, _, _, _, rfl, _⟩ := h; rfl) fun f cdv A outer s H hr ds M QD h => ?_
  obtain ⟨aw, ap, ac, v, pk, M0, e, rfl, rfl, hpk, hev, hz0, hz1, q⟩ := h
  have hN := scMv.nd
  have hu := hu_of hr
  refine xss_cons (xs_set 2 (xe_ix (xe_var 1 rfl (xe_int (id_tup (d := .v (.str (evW e))) (atI_nat (j := 0) rfl) ?_)))))
  refine xss_one (xs_if (xt_cmp (xe_var 2 rfl (xe_tup (xa_cons (xe_str (xa_cons (xe_str (xa_nil ⟨Nat.le_of_ble_eq_true rfl, od_inT (ys := [.str "put", .str "drop"]) rfl rfl rfl ⟨_, rfl, ⟨fun hz => ?_, fun hz => ?_⟩⟩⟩)))))))))
  · rw [inPD] at hz
    refine xss_one (xs_asg [] (xe_bin (xe_wf hu (xe_var 0 rfl ⟨0, _, _, _, rfl, rfl, rfl, xe_int (od_add (xg_sub (xe_var 0 rfl (xe_str (sd_dct 0 (k := Sum.inr "many") rfl hu rfl (Nat.le_of_ble_eq_true rfl) ?_)))))⟩))))
    cases e with
    | put k x => exact q pk hpk (Nat.le_succ _)
    | drop k => exact q pk hpk (Nat.le_succ _)
    | _ => cases hz
  rw [inPD] at hz
  refine xss_one (xs_if (xt_cmp (xe_var 2 rfl (xe_str (od_eq rfl ⟨_, rfl, ⟨fun hz2 => ?_, fun hz2 => ?_⟩⟩)))))
  · rw [eqJn] at hz2
    cases e with
    | join p =>
      refine xss_one (xs_asg [] (xe_int (xg_sub (xe_wf hu (xe_var 0 rfl ⟨0, _, _, _, rfl, rfl, rfl, xe_ix (xe_var 1 rfl (xe_int (id_tup (d := intD p) (atI_nat (j := 1) rfl) (sd_dct 1 (k := Sum.inl (p : Int)) rfl hu rfl (by omega) ?_))))⟩)))))
      exact q _ (hpk.put p 0) (length_putD _ _ _)
    | _ => cases hz2
  rw [eqJn] at hz2
  refine xss_one (xs_if (xt_cmp (xe_var 2 rfl (xe_str (od_eq rfl ⟨_, rfl, ⟨fun hz3 => ?_, fun hz3 => ?_⟩⟩)))))
  · rw [eqRd] at hz3
    cases e with
    | read p u =>
      refine xss_one (xs_asg [] (xe_ix (xe_var 1 rfl (xe_int (id_tup (d := intD u) (atI_nat (j := 2) rfl) (xg_sub (xe_wf hu (xe_var 0 rfl ⟨0, _, _, _, rfl, rfl, rfl, xe_ix (xe_var 1 rfl (xe_int (id_tup (d := intD p) (atI_nat (j := 1) rfl) (sd_dct 1 (k := Sum.inl (p : Int)) rfl hu rfl (by omega) ?_))))⟩))))))))
      exact q _ (hpk.put p u) (length_putD _ _ _)
    | _ => cases hz3
  rw [eqRd] at hz3
  refine xss_one (xs_if (xt_cmp (xe_var 2 rfl (xe_str (od_eq rfl ⟨_, rfl, ⟨fun hz4 => ?_, fun hz4 => ?_⟩⟩)))))
  · rw [eqSv] at hz4
    cases e with
    | save p =>
      obtain ⟨s0, hs0⟩ := Option.isSome_iff_exists.mp hev.2
      have hps : valD pk (Sum.inl (p : Int)) = some (intD s0) := by rw [hpk, hs0]; rfl
      refine xss_one (xs_expr (xe_append 2 (xe_wf hu (xe_var 0 rfl ⟨0, _, _, _, rfl, rfl, rfl, ac, rfl, ⟨2, _, rfl⟩, ?_⟩))))
      refine xe_ix (xe_wf hu (xe_var 0 rfl ⟨0, _, _, _, rfl, rfl, rfl, xe_ix (xe_var 1 rfl (xe_int (id_tup (d := intD p) (atI_nat (j := 1) rfl) (id_dct (k := Sum.inl (p : Int)) hu (.m 1 rfl) rfl hps ⟨_, rfl, ?_, ?_⟩))))⟩))
      · rw [List.length_map]; omega
      have hq : QD (.v .non) ((aw, .dct (vK ap ac v.many)) :: (ap, .dct pk) :: (ac, .lst ((v.copies ++ [(v.seats p).getD 0]).map intD)) :: M0) := q pk hpk (Nat.le_succ _)
      rw [hs0, List.map_append] at hq
      exact hq
    | _ => cases hz4
  rw [eqSv] at hz4
  refine xss_one (xs_if (xt_cmp (xe_var 2 rfl (xe_str (od_eq rfl ⟨_, rfl, ⟨fun hz5 => ?_, fun hz5 => ?_⟩⟩)))))
  · rw [eqLd] at hz5
    cases e with
    | load p i =>
      obtain ⟨c, hc⟩ : ∃ c, v.copies[i]? = some c := ⟨_, List.getElem?_eq_getElem hev.2⟩
      refine xss_one (xs_asg [] (xe_ix (xe_wf hu (xe_var 0 rfl ⟨0, _, _, _, rfl, rfl, rfl, xe_ix (xe_var 1 rfl (xe_int (id_tup (d := intD i) (atI_nat (j := 2) rfl) (id_lst (d := intD c) (.m 2 rfl) (atI_nat (by rw [List.getElem?_map, hc]; rfl)) ?_))))⟩))))
      refine xg_sub (xe_wf hu (xe_var 0 rfl ⟨0, _, _, _, rfl, rfl, rfl, xe_ix (xe_var 1 rfl (xe_int (id_tup (d := intD p) (atI_nat (j := 1) rfl) (sd_dct 1 (k := Sum.inl (p : Int)) rfl hu rfl (by omega) ?_))))⟩))
      have e1 : mvP (.load p i) v = seatV v p c := by
        show seatV v p ((v.copies[i]?).getD 0) = _
        rw [hc]; rfl
      rw [e1] at q
      exact q _ (hpk.put p c) (length_putD _ _ _)
    | _ => cases hz5
  · rw [eqLd] at hz5
    refine xss_nil ?_
    cases e with
    | wait => exact q pk hpk (Nat.le_succ _)
    | put _ _ => cases hz
    | drop _ => cases hz
    | join _ => cases hz2
    | load _ _ => cases hz5
    | save _ => cases hz4
    | read _ _ => cases hz3
end
end Mm
end
section
set_option maxHeartbeats 400000
/-! W19: the law's table. -/
namespace Mm
open PySem PySem.Spec PyProof.Rows L2 Dl
def mv0 : MV := ⟨fun _ => none, [], 0⟩
def mvS (evs : List Ev) : MV := evs.foldl (fun v e => mvP e v) mv0
structure TblOk (evs : List Ev) : Prop where
  ev : ∀ i e, evs[i]? = some e → EvOkM e (mvS (evs.take i))
  many : (mvS evs).many ≤ 6
  copies : (mvS evs).copies.length ≤ 3
theorem mvS_snoc (evs : List Ev) (e : Ev) : mvS (evs ++ [e]) = mvP e (mvS evs) := by
  unfold mvS
  rw [List.foldl_append]; rfl
theorem TblOk.nil : TblOk [] := ⟨fun i e h => by simp at h, by decide, by decide⟩
theorem TblOk.snoc {evs : List Ev} {e : Ev} (h : TblOk evs) (he : EvOkM e (mvS evs)) (h1 : isPD e = true → (mvS evs).many < 6) (h2 : isSv e = true → (mvS evs).copies.length < 3) : TblOk (evs ++ [e]) where
  ev := fun i x hx => by
    by_cases hi : i < evs.length
    · rw [List.getElem?_append_left hi] at hx
      rw [List.take_append_of_le_length (by omega)]
      exact h.ev i x hx
    · have hi2 : i = evs.length := by
        have := (List.getElem?_eq_some_iff.mp hx).1
        rw [List.length_append, List.length_singleton] at this
        omega
      subst hi2
      rw [List.getElem?_append_right (Nat.le_refl _), Nat.sub_self] at hx
      cases hx
      rw [List.take_left' rfl]
      exact he
  many := by
    rw [mvS_snoc]
    have hm := h.many
    cases e with
    | put _ _ => exact h1 rfl
    | drop _ => exact h1 rfl
    | _ => exact hm
  copies := by
    rw [mvS_snoc]
    have hm := h.copies
    cases e with
    | save p =>
      show ((mvS evs).copies ++ [_]).length ≤ 3
      rw [List.length_append]
      exact h2 rfl
    | _ => exact hm
theorem optEv_non (o : Option Ev) : isNonD (optEv o) = o.isNone := by cases o <;> rfl
theorem isNon_ev (e : Ev) : isNonD (evD e) = false := rfl
section
variable {P : Program} {w : World} {K : PySem.W.Frag} {mg : Str → Option Value} {base : Heap} {CV CF : Addr}
abbrev sTb : Stmt := topS 28
def wTb : Wp := fun ds M Q => ∃ (i : Nat) (l : Addr) (b : List D) (n m : Nat), ds = [.v (.ref l), intD m, intD 6, intD 2, abcD, .v (.str wordsS)] ∧ M[i]? = some (l, .lst b) ∧ BxOk n b ∧ n < 800000 ∧ m ≤ 14 ∧
  ∀ b' evs, BxOk (n + 4 * m) b' → TblOk evs → evs.length ≤ m → Q (.tup (evs.map evD)) (M.set i (l, .lst b'))
abbrev nTb : List Str := ["_law_box_here", "_law_many_here", "_law_most", "_law_folk", "_law_names", "_law_words", "_law_found", "_law_w", "_law_turn", "_law_event_so", "_law_is_full"]
theorem scTb : FnScope nTb ["_law_box_here", "_law_many_here", "_law_most", "_law_folk", "_law_names", "_law_words"] (defScope sTb) := ⟨rfl, rfl, rfl, by decide +kernel, rfl, by decide +kernel, by decide +kernel⟩
theorem ok_tb (T : Txt K mg CV CF) (Ev' : CalG P w K mg base 3 "_law_event" wEv) (Mv : CalG P w K mg base 1 "_law_moved" wMv) (Df : DefG K mg "_law_table" sTb) : CalG P w K mg base 4 "_law_table" wTb := by
  refine CalG.mk' Df scTb (fun _ _ _ _ _ _ us hl => match us, hl with | [_, _, _, _, _, _], _ => rfl) (fun ds M QD h => by obtain ⟨_, _, _, _, _, rfl, _⟩ := h; rfl) fun f cdv A outer s H hr ds M QD h => ?_
  obtain ⟨i, l, b, n, m, rfl, hm, hb, hn, hm14, q⟩ := h
  have hN := scTb.nd
  have hr1 := hr.mono (j := 1) (by omega)
  have hu := hu_of (hr.mono (j := 0) (by omega))
  have fl := T.free "len" (by decide +kernel)
  have frg := T.free "range" (by decide +kernel)
  have ft := T.free "tuple" (by decide +kernel)
  have hss : ∀ (b1 b2 : List D), (M.set i (l, MO.lst b1)).set i (l, MO.lst b2) = M.set i (l, MO.lst b2) := fun b1 b2 => List.set_set _
  have hM0 : M.set i (l, MO.lst b) = M := by
    obtain ⟨hi, e⟩ := List.getElem?_eq_some_iff.mp hm
    rw [← e, List.set_getElem_self]
  refine xss_cons ?_
  refine xs_par 6 7 ?_
  refine xa_cons ?_
  refine xe_lstM ?_
  refine xa_nil ?_
  refine ⟨by decide, ?_⟩
  intro fo
  refine xa_cons ?_
  refine xe_disp3 2 ?_
  intro aw
  refine xe_str ?_
  refine ⟨Sum.inr "seats", rfl, ?_⟩
  refine xe_dctM ?_
  intro ap
  refine xe_str ?_
  refine ⟨Sum.inr "copies", rfl, ?_⟩
  refine xe_lstM (xa_nil ?_)
  refine ⟨by decide, ?_⟩
  intro ac
  refine xe_str ?_
  refine ⟨Sum.inr "many", rfl, ?_⟩
  refine xe_int ?_
  refine ⟨rfl, xa_nil ⟨_, _, rfl, ?_⟩⟩
  refine xss_adj (M' := vM aw ap ac mv0 [] ((fo, .lst []) :: M)) (Adj.perm ?_) ?_
  · show List.Perm ((ac, MO.lst []) :: (ap, MO.dct []) :: (aw, MO.dct (vK ap ac 0)) :: (fo, MO.lst []) :: M) ((aw, MO.dct (vK ap ac 0)) :: (ap, MO.dct []) :: (ac, MO.lst []) :: (fo, MO.lst []) :: M)
    exact List.Perm.append_right ((fo, MO.lst []) :: M) (List.reverse_perm [(aw, MO.dct (vK ap ac 0)), (ap, MO.dct []), (ac, MO.lst [])])
  refine xss_cons (xs_for [8] (xi_range1 (xa_cons (xe_var 1 rfl (xa_nil ⟨_, rfl, by omega, by omega, ?_⟩))) frg))
  rw [Int.toNat_natCast]
  refine ⟨fun j ρ' M' => (∃ d8 d9 d10, ρ' = [some (.v (.ref l)), some (intD m), some (intD 6), some (intD 2), some abcD, some (.v (.str wordsS)), some (.v (.ref fo)), some (.v (.ref aw)), d8, d9, d10]) ∧ ∃ b' evs pk, M' = vM aw ap ac (mvS evs) pk ((fo, .lst (evs.map evD)) :: M.set i (l, .lst b')) ∧ BxOk (n + 4 * j) b' ∧ TblOk evs ∧ evs.length ≤ j ∧ SeatK pk (mvS evs).seats ∧ pk.length ≤ j,
    ⟨⟨_, _, _, rfl⟩, b, [], [], by rw [hM0]; rfl, hb, .nil, Nat.le_refl _, fun p => rfl, Nat.le_refl _⟩, fun _ _ _ _ _ => trivial, ?_, ?_⟩
  · rintro j d ρ' M' hd ⟨⟨d8, d9, d10, rfl⟩, b', evs, pk, rfl, hb', hev, hel, hpk, hpl⟩
    have hj : j < m := by
      have := (List.getElem?_eq_some_iff.mp hd).1
      simpa using this
    have hmy := hev.many
    have hcp := hev.copies
    refine xg_name 8 ?_
    refine xss_cons (xs_set 9 (xe_fn Ev' hr (xa_cons (xe_var 0 rfl (xa_cons (xe_var 7 rfl (xa_cons (xe_var 3 rfl (xa_cons (xe_var 4 rfl (xa_cons (xe_var 5 rfl (xa_nil ⟨i + 1, l, aw, ap, ac, b', n + 4 * j, mvS evs, pk, _, rfl, rfl, ?_, hb', by omega, hpk, hcp, by omega, ?_⟩)))))))))))))
    · exact set_at hm
    intro b2 o hb2 ho
    show XSs _ _ _ (vM aw ap ac (mvS evs) pk ((fo, .lst (evs.map evD)) :: (M.set i (l, MO.lst b')).set i (l, MO.lst b2))) _
    rw [hss]
    cases o with
    | none =>
      refine xss_cons (xs_set 10 (xe_and (xe_cmp (xe_var 9 rfl (xe_non (od_notN ⟨_, rfl, ⟨fun hz => (by cases hz), fun _ => ?_⟩⟩))))))
      refine xss_one (xs_if (XW.t (xw_and (xt_cmp (xe_var 9 rfl (xe_non (od_notN ⟨_, rfl, ⟨fun hz => (by cases hz), fun _ => ⟨fun z => (by cases z), fun _ => xss_nil ?_⟩⟩⟩)))))))
      exact ⟨⟨_, _, _, rfl⟩, b2, evs, pk, rfl, hb2.mono (by omega), hev, by omega, hpk, by omega⟩
    | some e =>
      have hevo := ho e rfl
      refine xss_mid (fun ρ' M' => (∃ d8 c, ρ' = [some (.v (.ref l)), some (intD m), some (intD 6), some (intD 2), some abcD, some (.v (.str wordsS)), some (.v (.ref fo)), some (.v (.ref aw)), d8, some (evD e), some (.v (.bl c))] ∧ c = (isPD e && decide (6 ≤ (mvS evs).many))) ∧ M' = vM aw ap ac (mvS evs) pk ((fo, .lst (evs.map evD)) :: M.set i (l, .lst b2))) ?_ ?_
      · refine xs_set 10 (xe_and (xe_cmp (xe_var 9 rfl (xe_non (od_notN ⟨_, rfl, ⟨fun _ => ?_, fun hz => (by cases hz)⟩⟩)))))
        refine xe_and (xe_cmp (xe_ix (xe_var 9 rfl (xe_int (id_tup (d := .v (.str (evW e))) (atI_nat (j := 0) rfl) (xe_tup (xa_cons (xe_str (xa_cons (xe_str (xa_nil ⟨Nat.le_of_ble_eq_true rfl, od_inT (ys := [.str "put", .str "drop"]) rfl rfl rfl ⟨_, rfl, ⟨fun hz => ?_, fun hz => ?_⟩⟩⟩)))))))))))
        · rw [inPD] at hz
          refine xe_and1 (xe_cmp (xe_wf hu (xe_var 7 rfl ⟨0, _, _, _, rfl, rfl, rfl, xe_var 2 rfl (od_ge ?_)⟩)))
          refine ⟨⟨_, _, rfl, ?_⟩, rfl⟩
          rw [hz, Bool.true_and]
          exact decide_eq_decide.mpr ⟨fun h => by omega, fun h => by omega⟩
        · rw [inPD] at hz
          refine ⟨⟨_, _, rfl, ?_⟩, rfl⟩
          rw [hz]; rfl
      · rintro ρ' M' ⟨⟨d8, c, rfl, hc⟩, rfl⟩
        refine xss_one (xs_if (XT.mono (Q := fun z M' => M' = vM aw ap ac (mvS evs) pk ((fo, .lst (evs.map evD)) :: M.set i (l, .lst b2)) ∧ (z = true → c = false ∧ (isSv e = true → (mvS evs).copies.length < 3))) (XW.t ?_) fun z M' hq => ?_))
        · refine xw_and (xt_cmp (xe_var 9 rfl (xe_non (od_notN ⟨_, rfl, ⟨fun _ => ?_, fun hz => (by cases hz)⟩⟩))))
          refine xw_and (xt_not (xt_val (xe_var 10 rfl ⟨_, rfl, ⟨fun hz => ?_, fun hz => ⟨rfl, fun z => (by cases z)⟩⟩⟩)))
          have hcf : c = false := by cases c with | false => rfl | true => cases hz
          refine xw_and1 (XW.t (xw_or (xt_cmp (xe_ix (xe_var 9 rfl (xe_int (id_tup (d := .v (.str (evW e))) (atI_nat (j := 0) rfl) (xe_str (od_ne rfl ⟨_, rfl, ⟨fun hz2 => ⟨rfl, fun _ => ⟨hcf, fun h => ?_⟩⟩, fun hz2 => ?_⟩⟩)))))))))
          · rw [eqSv, h] at hz2; cases hz2
          · refine xw_or1 (xt_cmp (xe_len (xe_wf hu (xe_var 7 rfl ⟨0, _, _, _, rfl, rfl, rfl, _, .inl (.m 2 rfl), xe_int (od_lt ⟨_, rfl, rfl, fun hz3 => ⟨hcf, fun _ => ?_⟩⟩)⟩)) fl))
            have := of_decide_eq_true hz3
            rw [List.length_map] at this
            omega
        · obtain ⟨rfl, hq⟩ := hq
          refine ⟨fun hz => ?_, fun _ => xss_nil ⟨⟨_, _, _, rfl⟩, b2, evs, pk, rfl, hb2.mono (by omega), hev, by omega, hpk, by omega⟩⟩
          obtain ⟨hcf, hsv⟩ := hq hz
          refine xss_cons (xs_expr (xe_fn Mv hr1 (xa_cons (xe_var 7 rfl (xa_cons (xe_var 9 rfl (xa_nil ⟨aw, ap, ac, mvS evs, pk, _, e, rfl, rfl, hpk, hevo, by omega, by omega, fun pk' hpk' hpl' => ?_⟩)))))))
          refine xss_one (xs_expr (xe_append 3 (xe_var 6 rfl ⟨fo, rfl, ⟨3, _, rfl⟩, xe_var 9 rfl ⟨_, rfl, ?_, ?_⟩⟩)))
          · rw [List.length_map]; omega
          refine ⟨⟨_, _, _, rfl⟩, b2, evs ++ [e], pk', ?_, hb2.mono (by omega), hev.snoc hevo (fun hp => ?_) hsv, ?_, ?_, by omega⟩
          · rw [mvS_snoc, List.map_append]; rfl
          · rw [hcf, hp, Bool.true_and] at hc
            have := of_decide_eq_false hc.symm
            omega
          · rw [List.length_append, List.length_singleton]; omega
          · rw [mvS_snoc]; exact hpk'
  · rintro ρ' M' ⟨⟨d8, d9, d10, rfl⟩, b', evs, pk, rfl, hb', hev, hel, hpk, hpl⟩
    rw [List.length_map, List.length_range] at hb' hel
    refine xss_one (xs_ret (xe_lessE (xe_callT (T := "tuple") (xa_cons (xe_var 6 rfl (xa_nil (cd_tuple (.m 3 rfl) ⟨M.set i (l, .lst b'), ?_, q b' evs hb' hev hel⟩)))) ft (by decide +kernel))))
    exact (List.sublist_cons_self _ _).trans ((List.sublist_cons_self _ _).trans ((List.sublist_cons_self _ _).trans (List.sublist_cons_self _ _)))
end
end Mm
end
section
set_option maxHeartbeats 400000
/-! W20: tale, many, the drawn broom. -/
namespace Mm
open PySem PySem.Spec PyProof.Rows L2 Dl
def manyE (tbl : List Ev) (k : Nat) : Nat := ((tbl.take k).filter isPD).length
theorem manyE_succ (tbl : List Ev) (k : Nat) : manyE tbl k ≤ manyE tbl (k + 1) := by
  unfold manyE
  rw [List.take_succ, List.filter_append, List.length_append]
  omega
theorem manyE_le (tbl : List Ev) (k : Nat) : manyE tbl k ≤ tbl.length := by
  unfold manyE
  refine Nat.le_trans (List.length_filter_le _ _) ?_
  rw [List.length_take]; omega
/-- what a drawn broom is -/
structure BroomOk (tbl : List Ev) (br : List (Nat × Nat)) : Prop where
  up : br.Pairwise fun a b => a.1 < b.1 ∧ a.2 ≤ b.2
  le : ∀ b ∈ br, b.1 ≤ tbl.length ∧ b.2 ≤ manyE tbl b.1
  len : br.length ≤ tbl.length + 1
section
variable {P : Program} {w : World} {K : PySem.W.Frag} {mg : Str → Option Value} {base : Heap} {CV CF : Addr}
abbrev sTl : Stmt := topS 30
def wTl : Wp := fun ds M Q => ∃ (i : Nat) (l : Addr) (b : List D) (n m : Nat), ds = [.v (.ref l), intD m, intD 6, intD 2] ∧ M[i]? = some (l, .lst b) ∧ BxOk n b ∧ n < 800000 ∧ m ≤ 14 ∧
  ∀ b' evs, BxOk (n + 4 * m) b' → TblOk evs → evs.length ≤ m → Q (.tup (evs.map evD)) (M.set i (l, .lst b'))
abbrev nTl : List Str := ["_law_box_here", "_law_tries", "_law_most", "_law_folk"]
theorem scTl : FnScope nTl nTl (defScope sTl) := ⟨rfl, rfl, rfl, by decide +kernel, rfl, by decide +kernel, by decide +kernel⟩
theorem ok_tl (Tb : CalG P w K mg base 4 "_law_table" wTb) (Df : DefG K mg "_law_tale" sTl) : CalG P w K mg base 5 "_law_tale" wTl := by
  refine CalG.mk' Df scTl (fun _ _ _ _ _ _ us hl => match us, hl with | [_, _, _, _], _ => rfl) (fun ds M QD h => by obtain ⟨_, _, _, _, _, rfl, _⟩ := h; rfl) fun f cdv A outer s H hr ds M QD h => ?_
  obtain ⟨i, l, b, n, m, rfl, hm, hb, hn, hm14, q⟩ := h
  have hN := scTl.nd
  refine xss_one ?_
  refine xs_ret ?_
  refine xe_fn Tb hr ?_
  refine xa_cons (xe_var 0 rfl (xa_cons (xe_var 1 rfl (xa_cons (xe_var 2 rfl (xa_cons (xe_var 3 rfl ?_)))))))
  refine xa_cons (xe_lst (xa_cons (xe_str (xa_cons (xe_str (xa_cons (xe_str (xa_nil ⟨Nat.le_of_ble_eq_true rfl, xa_cons (xe_str (xa_nil ?_))⟩))))))))
  exact ⟨i, l, b, n, m, rfl, hm, hb, hn, hm14, q⟩
abbrev sMy : Stmt := topS 29
def wMy : Wp := fun ds M Q => ∃ (tbl : List Ev) (k : Nat), ds = [.tup (tbl.map evD), intD k] ∧ tbl.length ≤ 100 ∧ Q (intD (manyE tbl k)) M
abbrev nMy : List Str := ["_law_table_here", "_law_spot", "_law_event_so"]
theorem scMy : FnScope nMy ["_law_table_here", "_law_spot"] (defScope sMy) := ⟨rfl, rfl, rfl, by decide +kernel, rfl, by decide +kernel, by decide +kernel⟩
def isPDd : D → Bool
  | .tup (.v (.str x) :: _) => inV (.str x) [.str "put", .str "drop"]
  | _ => false
theorem isPDd_ev (e : Ev) : isPDd (evD e) = isPD e := inPD e
theorem ok_my (T : Txt K mg CV CF) (Df : DefG K mg "_law_many" sMy) : CalG P w K mg base 1 "_law_many" wMy := by
  refine CalG.mk' Df scMy (fun _ _ _ _ _ _ us hl => match us, hl with | [_, _], _ => rfl) (fun ds M QD h => by obtain ⟨_, _, rfl, _⟩ := h; rfl) fun f cdv A outer s H hr ds M QD h => ?_
  obtain ⟨tbl, k, rfl, hl, q⟩ := h
  have hN := scMy.nd
  have fl := T.free "len" (by decide +kernel)
  refine xss_one ?_
  refine xs_ret ?_
  refine xe_len ?_ fl
  refine xe_lc [("_law_event_so", 2)] (xi_val (xe_slT (xe_var 0 rfl ⟨_, rfl, xe_var 1 rfl ⟨_, rfl, idt_tup ⟨_, ⟨rfl, rfl⟩, lc_pure (M := M) isPDd id trivial ?_ (fun d hd => ?_), lc_pure_end ⟨_, .inl .of, ?_⟩⟩⟩⟩))) (blkOk_by (by rfl))
  · rw [cutD_to, List.length_take, List.length_map]; omega
  · rw [cutD_to] at hd
    obtain ⟨e, _, rfl⟩ := List.mem_map.mp (List.mem_of_mem_take hd)
    intro s0 H0 C cl0 fp
    refine xg_name 2 ?_
    intro s1 H1 C1 cl1 fp1
    refine xts_one (xt_cmp (xe_ix (xe_var 2 rfl (xe_int (id_tup (d := .v (.str (evW e))) (atI_nat (j := 0) rfl) (xe_tup (xa_cons (xe_str (xa_cons (xe_str (xa_nil ⟨Nat.le_of_ble_eq_true rfl, od_inT (ys := [.str "put", .str "drop"]) rfl rfl rfl ⟨_, rfl, rfl, fun _ => ?_, fun _ => rfl⟩⟩)))))))))))
    intro s2 H2 C2 cl2 fp2
    exact xe_var 2 rfl ⟨rfl, rfl⟩
  · have e1 : (((cutD (tbl.map evD) none (some (k : Int))).filter isPDd).map id).length = manyE tbl k := by
      rw [List.map_id, cutD_to, ← List.map_take, List.filter_map, List.length_map]
      unfold manyE
      congr 2
      funext e
      exact isPDd_ev e
    rw [e1]
    exact q
abbrev sDb : Stmt := topS 31
def wDb : Wp := fun ds M Q => ∃ (i : Nat) (l : Addr) (b : List D) (n : Nat) (tbl : List Ev), ds = [.v (.ref l), .tup (tbl.map evD)] ∧ M[i]? = some (l, .lst b) ∧ BxOk n b ∧ n < 800000 ∧ tbl.length ≤ 14 ∧
  ∀ b' br, BxOk (n + 45) b' → BroomOk tbl br → Q (.tup (br.map brD)) (M.set i (l, .lst b'))
abbrev nDb : List Str := ["_law_box_here", "_law_table_here", "_law_found", "_law_end", "_law_spot", "_law_many_so"]
theorem scDb : FnScope nDb ["_law_box_here", "_law_table_here"] (defScope sDb) := ⟨rfl, rfl, rfl, by decide +kernel, rfl, by decide +kernel, by decide +kernel⟩
theorem ok_db (T : Txt K mg CV CF) (Tk : CalG P w K mg base 1 "_law_take" wTk) (My : CalG P w K mg base 1 "_law_many" wMy) (Df : DefG K mg "_law_drawn_broom" sDb) : CalG P w K mg base 2 "_law_drawn_broom" wDb := by
  refine CalG.mk' Df scDb (fun _ _ _ _ _ _ us hl => match us, hl with | [_, _], _ => rfl) (fun ds M QD h => by obtain ⟨_, _, _, _, _, rfl, _⟩ := h; rfl) fun f cdv A outer s H hr ds M QD h => ?_
  obtain ⟨i, l, b, n, tbl, rfl, hm, hb, hn, htl, q⟩ := h
  have hN := scDb.nd
  have fl := T.free "len" (by decide +kernel)
  have fi := T.free "int" (by decide +kernel)
  have frg := T.free "range" (by decide +kernel)
  have ft := T.free "tuple" (by decide +kernel)
  have hss : ∀ (b1 b2 : List D), (M.set i (l, MO.lst b1)).set i (l, MO.lst b2) = M.set i (l, MO.lst b2) := fun b1 b2 => List.set_set _
  have hM0 : M.set i (l, MO.lst b) = M := by
    obtain ⟨hi, e⟩ := List.getElem?_eq_some_iff.mp hm
    rw [← e, List.set_getElem_self]
  refine xss_cons ?_
  refine xs_par 2 3 ?_
  refine xa_cons ?_
  refine xe_lst (xa_nil ⟨by decide, xa_cons (xe_int (xa_nil ⟨_, _, rfl, ?_⟩))⟩)
  refine xss_cons ?_
  refine xs_for [4] (xi_range1 (xa_cons (xe_bin (xe_len (xe_var 1 rfl ⟨_, .inr rfl, xe_int (od_add ?_)⟩) fl))) frg)
  refine xa_nil ⟨((tbl.length + 1 : Nat) : Int), by rw [List.length_map]; rfl, by omega, by omega, ?_⟩
  rw [Int.toNat_natCast]
  refine ⟨fun j ρ' M' => ∃ (d4 d5 : Option D) (b' : List D) (br : List (Nat × Nat)) (en : Nat), ρ' = [some (.v (.ref l)), some (.tup (tbl.map evD)), some (.lst (br.map brD)), some (intD en), d4, d5] ∧ M' = M.set i (l, .lst b') ∧ BxOk (n + 3 * j) b' ∧ BroomOk tbl br ∧ br.length ≤ j ∧ (∀ b ∈ br, b.1 < j ∧ b.2 ≤ en) ∧ en ≤ manyE tbl j,
    ⟨_, _, b, [], 0, rfl, hM0.symm, hb, ⟨.nil, fun b hb => (by cases hb), Nat.zero_le _⟩, Nat.le_refl _, fun b hb => (by cases hb), Nat.zero_le _⟩, fun _ _ _ _ _ => trivial, ?_, ?_⟩
  · rintro j d ρ' M' hd ⟨d4, d5, b', br, en, rfl, rfl, hb', hbr, hbl, hbe, hen⟩
    have hj : j < tbl.length + 1 := by
      have := (List.getElem?_eq_some_iff.mp hd).1
      simpa using this
    have hd2 : d = intD j := by
      rw [List.getElem?_map, List.getElem?_range hj] at hd
      cases hd
      show D.v (.int (0 + (j : Int))) = _
      rw [Int.zero_add]
    subst hd2
    have hmle := manyE_le tbl j
    have hmsu := manyE_succ tbl j
    have hm' : (M.set i (l, MO.lst b'))[i]? = some (l, .lst b') := set_at hm
    refine xg_name 4 ?_
    refine xss_cons (xs_set 5 (xe_fn My hr (xa_cons (xe_var 1 rfl (xa_cons (xe_var 4 rfl (xa_nil ⟨tbl, j, rfl, by omega, ?_⟩)))))))
    refine xss_mid (fun ρ' M' => ∃ (d5 : Option D) (b2 : List D) (en2 : Nat), ρ' = [some (.v (.ref l)), some (.tup (tbl.map evD)), some (.lst (br.map brD)), some (intD en2), some (intD j), d5] ∧ M' = M.set i (l, .lst b2) ∧ BxOk (n + 3 * j + 2) b2 ∧ en ≤ en2 ∧ en2 ≤ manyE tbl j) ?_ ?_
    · refine xs_if (XW.t (xw_and (xt_cmp (xe_var 5 rfl (xe_var 3 rfl (od_gt ⟨_, rfl, ⟨fun hz => ?_, fun hz => ⟨fun z => (by cases z), fun _ => xss_nil ⟨_, b', en, rfl, rfl, hb'.mono (by omega), Nat.le_refl _, hen⟩⟩⟩⟩))))))
      have hlt : en < manyE tbl j := by
        have := of_decide_eq_true hz
        omega
      refine xw_and1 (xt_cmp (xe_fn Tk hr (xa_cons (xe_var 0 rfl (xa_cons (xe_int (xa_nil ⟨i, l, b', n + 3 * j, 2, rfl, hm', hb', by omega, by omega, by omega, fun b2 k2 hb2 hk2 => xe_int (od_eq rfl ⟨_, rfl, ⟨fun _ => ?_, fun _ => xss_nil ?_⟩⟩)⟩)))))))
      · rw [hss]
        have hm2 : (M.set i (l, MO.lst b2))[i]? = some (l, .lst b2) := set_at hm
        have eg : (manyE tbl j : Int) - (en : Int) = ((manyE tbl j - en : Nat) : Int) := by omega
        refine xss_one (xs_set 3 (xe_bin (xe_bin (xe_var 3 rfl (xe_int (od_add (xe_fn Tk hr (xa_cons (xe_var 0 rfl (xa_cons (xe_bin (xe_var 5 rfl (xe_var 3 rfl (od_sub (xa_nil ⟨i, l, b2, n + 3 * j + 1, manyE tbl j - en, by rw [eg], hm2, hb2, by omega, by omega, by omega, fun b3 k3 hb3 hk3 => od_add ?_⟩)))))))))))))))
        rw [hss]
        have e5 : (en : Int) + 1 + (k3 : Int) = ((en + 1 + k3 : Nat) : Int) := by omega
        rw [e5]
        exact ⟨_, b3, en + 1 + k3, rfl, rfl, hb3.mono (by omega), by omega, by omega⟩
      · rw [hss]
        exact ⟨_, b2, en, rfl, rfl, hb2.mono (by omega), Nat.le_refl _, hen⟩
    · rintro ρ' M' ⟨d5, b2, en2, rfl, rfl, hb2, he1, he2⟩
      have hm2 : (M.set i (l, MO.lst b2))[i]? = some (l, .lst b2) := set_at hm
      refine xss_one (xs_set 2 (xe_bin (xe_var 2 rfl (xe_bin (xe_lst (xa_cons (xe_tup (xa_cons (xe_var 4 rfl (xa_cons (xe_var 3 rfl (xa_nil ⟨Nat.le_of_ble_eq_true rfl, xa_nil ⟨Nat.le_of_ble_eq_true rfl, ?_⟩⟩))))))))))))
      refine xe_toIb (xe_cmp ?_) fi
      refine xe_fn Tk hr (xa_cons (xe_var 0 rfl (xa_cons (xe_int (xa_nil ⟨i, l, b2, n + 3 * j + 2, 3, rfl, hm2, hb2, by omega, by omega, by omega, fun b4 k4 hb4 hk4 => xe_int (od_gt ⟨_, rfl, ?_⟩)⟩)))))
      rw [hss]
      generalize decide ((0 : Int) < (k4 : Int)) = z
      refine od_rep .of (by cases z <;> exact ⟨by decide, by decide⟩) (Nat.le_of_ble_eq_true rfl) (od_addL .of .of ?_ ?_)
      · rw [List.length_map]
        cases z
        · exact Nat.le_trans (Nat.add_le_add hbl (Nat.zero_le 0)) (by omega)
        · exact Nat.le_trans (Nat.add_le_add hbl (Nat.le_refl 1)) (by omega)
      cases z with
      | false =>
        refine ⟨some (intD j), d5, b4, br, en2, ?_, rfl, hb4.mono (by omega), hbr, by omega, fun b hb => ?_, by omega⟩
        · show [some _, some _, some (D.lst (br.map brD ++ [])), some _, some _, _] = _
          rw [List.append_nil]
        · have := hbe b hb
          omega
      | true =>
        refine ⟨some (intD j), d5, b4, br ++ [(j, en2)], en2, ?_, rfl, hb4.mono (by omega), ⟨?_, ?_, ?_⟩, ?_, ?_, by omega⟩
        · show [some _, some _, some (D.lst (br.map brD ++ [brD (j, en2)])), some _, some _, _] = _
          rw [List.map_append]; rfl
        · rw [List.pairwise_append]
          refine ⟨hbr.up, List.pairwise_singleton _ _, fun a ha c hc => ?_⟩
          rw [List.mem_singleton] at hc
          subst hc
          have := hbe a ha
          exact ⟨this.1, by show a.2 ≤ en2; omega⟩
        · intro b hb
          rcases List.mem_append.mp hb with hb | hb
          · exact hbr.le b hb
          · rw [List.mem_singleton] at hb
            subst hb
            exact ⟨by show j ≤ _; omega, he2⟩
        · have := hbr.len
          rw [List.length_append, List.length_singleton]; omega
        · rw [List.length_append, List.length_singleton]; omega
        · intro b hb
          rcases List.mem_append.mp hb with hb | hb
          · have := hbe b hb
            omega
          · rw [List.mem_singleton] at hb
            subst hb
            exact ⟨by show j < j + 1; omega, Nat.le_refl _⟩
  · rintro ρ' M' ⟨d4, d5, b', br, en, rfl, rfl, hb', hbr, _, _, _⟩
    rw [List.length_map, List.length_range] at hb'
    exact xss_one (xs_ret (xe_callT (T := "tuple") (xa_cons (xe_var 2 rfl (xa_nil (cd_tuple .of (q b' br (hb'.mono (by omega)) hbr))))) ft (by decide +kernel)))
end
end Mm
end
section
set_option maxHeartbeats 400000
/-! W21: what a reader has seen: view. -/
namespace Mm
open PySem PySem.Spec PyProof.Rows L2 Dl
theorem od_addTA {X : Cx} {M : Mem} {Q : KE} {ds es : List D} (hz : ds.length + es.length ≤ 100000) (q : Q (.tup (ds ++ es)) M) : OpD X (binaryOp .Add) (.tup ds) (.tup es) M Q := fun F H x y s r1 r2 R k => by
  obtain ⟨p, xs, rfl, e1, ra⟩ := tup_get s r1
  obtain ⟨p2, ys, rfl, e2, rb⟩ := tup_get s r2
  refine OpR.w op_catA ⟨p, p2, xs, ys, rfl, rfl, SqT.of e1, SqT.of e2, by rw [ra.length, rb.length]; exact sz_ok hz, ?_, fun _ hn => ?_, fun _ _ l hl => ?_⟩
  · rintro rfl
    cases ra
    exact k _ _ M F H q (Step.refl _ _ _) s r2
  · subst hn
    cases rb
    rw [List.append_nil] at q
    exact k _ _ M F H q (Step.refl _ _ _) s r1
  · obtain ⟨s2, st2⟩ := s.new hl (.tup (xs ++ ys))
    exact k _ _ M _ _ q st2 s2 (.tup upd_same ((ra.append rb).mono st2.ex.le))
structure VS where
  found : Nat → Option (List Rr)
  copies : List (List Rr)
def rowsAt (keep : Int) (br : List (Nat × Nat)) (tbl : List Ev) (i p u : Nat) : List Rw :=
  heardL (stepA keep br i (runS keep br tbl i)) (((stepA keep br i (runS keep br tbl i)).seats p).getD 0) u
def setF (f : Nat → Option (List Rr)) (p : Nat) (V : List Rr) : Nat → Option (List Rr) := fun q => if q = p then some V else f q
def vwP (rows : Nat → Nat → List Rw) (i : Nat) : Ev → VS → VS
  | .join p, v => { v with found := setF v.found p [] }
  | .read p u, v => { v with found := setF v.found p ((v.found p).getD [] ++ [(i, u, rows p u)]) }
  | .save p, v => { v with copies := v.copies ++ [(v.found p).getD []] }
  | .load p j, v => { v with found := setF v.found p ((v.copies[j]?).getD []) }
  | _, v => v
def viewS (keep : Int) (br : List (Nat × Nat)) (tbl : List Ev) : Nat → VS
  | 0 => ⟨fun _ => none, []⟩
  | i + 1 => match tbl[i]? with
    | some e => vwP (rowsAt keep br tbl i) i e (viewS keep br tbl i)
    | none => viewS keep br tbl i
def EvOkV : Ev → VS → Prop
  | .read p _, v => ∃ V, v.found p = some V ∧ V.length ≤ 100
  | .save p, v => ∃ V, v.found p = some V
  | .load _ j, v => j < v.copies.length
  | _, _ => True
structure ViewOk (keep : Int) (br : List (Nat × Nat)) (tbl : List Ev) : Prop where
  run : RunOk keep br tbl
  ev : ∀ i e, tbl[i]? = some e → EvOkV e (viewS keep br tbl i)
  heard : ∀ i p u, tbl[i]? = some (.read p u) → (runS keep br tbl (tbl.length + 1)).heard[i]? = some (.lst ((rowsAt keep br tbl i p u).map rwD)) ∧ (rowsAt keep br tbl i p u).length ≤ 100
def optV : Option (List Rr) → D
  | none => .v .non
  | some V => vwD V
def FoundK (fk : List (Key × D)) (f : Nat → Option (List Rr)) : Prop := ∀ p : Nat, valD fk (Sum.inl (p : Int)) = (f p).map vwD
theorem FoundK.put {fk : List (Key × D)} {f : Nat → Option (List Rr)} (h : FoundK fk f) (p : Nat) (V : List Rr) : FoundK (putD fk (Sum.inl (p : Int)) (vwD V)) (setF f p V) := fun q => by
  rw [valD_put]
  unfold setF
  by_cases e : q = p
  · subst e; rw [if_pos rfl, if_pos rfl]; rfl
  · rw [if_neg (fun z => e (inl_inj.mp z)), h q, if_neg e]
theorem viewS_some {keep : Int} {br : List (Nat × Nat)} {tbl : List Ev} {i : Nat} {e : Ev} (h : tbl[i]? = some e) : viewS keep br tbl (i + 1) = vwP (rowsAt keep br tbl i) i e (viewS keep br tbl i) := by
  show (match tbl[i]? with | some e => vwP (rowsAt keep br tbl i) i e (viewS keep br tbl i) | none => viewS keep br tbl i) = _
  rw [h]
section
variable {P : Program} {w : World} {K : PySem.W.Frag} {mg : Str → Option Value} {base : Heap} {CV CF : Addr}
abbrev sVw : Stmt := topS 32
def wVw : Wp := fun ds M Q => ∃ (tbl : List Ev) (keep : Int) (br : List (Nat × Nat)) (p : Nat), ds = [.tup (tbl.map evD), .v (.int keep), .tup (br.map brD), intD p] ∧ ViewOk keep br tbl ∧ Q (optV ((viewS keep br tbl tbl.length).found p)) M
abbrev nVw : List Str := ["_law_table_here", "_law_keep", "_law_broom", "_law_p", "_law_heard_here", "_law_found", "_law_copies", "_law_spot", "_law_event_so", "_law_word"]
theorem scVw : FnScope nVw ["_law_table_here", "_law_keep", "_law_broom", "_law_p"] (defScope sVw) := ⟨rfl, rfl, rfl, by decide +kernel, rfl, by decide +kernel, by decide +kernel⟩
theorem ok_vw (T : Txt K mg CV CF) (Rn : CalG P w K mg base 3 "_law_run" wRn) (Df : DefG K mg "_law_view" sVw) : CalG P w K mg base 4 "_law_view" wVw := by
  refine CalG.mk' Df scVw (fun _ _ _ _ _ _ us hl => match us, hl with | [_, _, _, _], _ => rfl) (fun ds M QD h => by obtain ⟨_, _, _, _, rfl, _⟩ := h; rfl) fun f cdv A outer s H hr ds M QD h => ?_
  obtain ⟨tbl, keep, br, p0, rfl, ok, q⟩ := h
  have hN := scVw.nd
  have hu := hu_of (hr.mono (j := 0) (by omega))
  have fe := T.free "enumerate" (by decide +kernel)
  have ft := T.free "tuple" (by decide +kernel)
  have hl := ok.run.len
  refine xss_cons ?_
  refine xs_par3 4 5 6 ?_
  refine xa_cons ?_
  refine xe_wf hu ?_
  refine xe_fn Rn hr (xa_cons (xe_var 0 rfl (xa_cons (xe_var 1 rfl (xa_cons (xe_var 2 rfl (xa_nil ⟨tbl, keep, br, rfl, ok.run, ?_⟩)))))))
  rintro a ah M' ⟨ar, ag, as, ap, at', ac, gk, sk, pk, tk, cs, ts, rfl, hE⟩
  refine ⟨0, a, _, _, rfl, rfl, rfl, ?_⟩
  refine xa_cons ?_
  refine xe_dctM ?_
  intro fo
  refine xa_cons ?_
  refine xe_lstM ?_
  refine xa_nil ⟨by decide, ?_⟩
  intro co
  refine xa_nil ⟨_, _, _, rfl, ?_⟩
  generalize hW : wM a ar ag as ap at' ac ah (runS keep br tbl (tbl.length + 1)) gk sk pk tk cs ts M = W
  have hWh : W[7]? = some (ah, .lst (runS keep br tbl (tbl.length + 1)).heard) := by rw [← hW]; rfl
  have hsub : M.Sublist W := by
    rw [← hW]
    exact (List.sublist_append_right ts M).trans ((List.sublist_cons_self _ _).trans ((List.sublist_cons_self _ _).trans ((List.sublist_cons_self _ _).trans ((List.sublist_cons_self _ _).trans ((List.sublist_cons_self _ _).trans ((List.sublist_cons_self _ _).trans ((List.sublist_cons_self _ _).trans (List.sublist_cons_self _ _))))))))
  refine xss_cons ?_
  refine xs_for [7, 8] (xi_enumT (xe_var 0 rfl ⟨_, rfl, ?_⟩) fe)
  refine ⟨fun j ρ' M' => (∃ d7 d8 d9, ρ' = [some (.tup (tbl.map evD)), some (.v (.int keep)), some (.tup (br.map brD)), some (intD p0), some (.v (.ref ah)), some (.v (.ref fo)), some (.v (.ref co)), d7, d8, d9]) ∧ ∃ fk, M' = (co, .lst ((viewS keep br tbl j).copies.map vwD)) :: (fo, .dct fk) :: W ∧ FoundK fk (viewS keep br tbl j).found ∧ fk.length ≤ j ∧ (viewS keep br tbl j).copies.length ≤ j,
    ⟨⟨_, _, _, rfl⟩, [], rfl, fun _ => rfl, Nat.le_refl _, Nat.le_refl _⟩, fun _ _ _ _ _ => trivial, ?_, ?_⟩
  · rintro j d ρ' M' hd ⟨⟨d7, d8, d9, rfl⟩, fk, rfl, hfk, hfl, hcl⟩
    rw [List.getElem?_mapIdx, List.getElem?_map] at hd
    cases htj : tbl[j]? with
    | none => rw [htj] at hd; cases hd
    | some e =>
    rw [htj] at hd
    cases hd
    have hj := (List.getElem?_eq_some_iff.mp htj).1
    have hV := viewS_some (keep := keep) (br := br) htj
    have hev := ok.ev j e htj
    refine xg_tup (xgs_cons (xg_name 7 (xgs_cons (xg_name 8 (xgs_nil ?_)))))
    refine xss_cons (xs_set 9 (xe_ix (xe_var 8 rfl (xe_int (id_tup (d := .v (.str (evW e))) (atI_nat (j := 0) rfl) ?_)))))
    refine xss_one (xs_if (xt_cmp (xe_var 9 rfl (xe_str (od_eq rfl ⟨_, rfl, ⟨fun hz => ?_, fun hz => ?_⟩⟩)))))
    · rw [eqJn] at hz
      cases e with
      | join p =>
        refine xss_one (xs_asg [] (xe_tup (xa_nil ⟨by decide, xg_sub (xe_var 5 rfl (xe_ix (xe_var 8 rfl (xe_int (id_tup (d := intD p) (atI_nat (j := 1) rfl) (sd_dct 1 (k := Sum.inl (p : Int)) rfl hu rfl (by omega) ?_))))))⟩)))
        have hlp := length_putD fk (Sum.inl (p : Int)) (vwD [])
        refine ⟨⟨_, _, _, rfl⟩, putD fk (Sum.inl (p : Int)) (vwD []), by rw [hV]; rfl, by rw [hV]; exact hfk.put p [], by omega, ?_⟩
        rw [hV]; exact Nat.le_succ_of_le hcl
      | _ => cases hz
    rw [eqJn] at hz
    refine xss_one (xs_if (xt_cmp (xe_var 9 rfl (xe_str (od_eq rfl ⟨_, rfl, ⟨fun hz2 => ?_, fun hz2 => ?_⟩⟩)))))
    · rw [eqRd] at hz2
      cases e with
      | read p u =>
        obtain ⟨V, hV0, hVl⟩ := hev
        obtain ⟨hh, hrl⟩ := ok.heard j p u htj
        have hfp : valD fk (Sum.inl (p : Int)) = some (vwD V) := by rw [hfk, hV0]; rfl
        refine xss_one (xs_asg [] (xe_bin ?_))
        refine xe_ix (xe_var 5 rfl (xe_ix (xe_var 8 rfl (xe_int (id_tup (d := intD p) (atI_nat (j := 1) rfl) (id_dct (k := Sum.inl (p : Int)) (d := vwD V) hu (.m 1 rfl) rfl hfp ?_))))))
        refine xe_tup (xa_cons (xe_tup (xa_cons (xe_var 7 rfl (xa_cons (xe_ix (xe_var 8 rfl (xe_int (id_tup (d := intD u) (atI_nat (j := 2) rfl) (xa_cons ?_))))))))))
        refine xe_callT (T := "tuple") (xa_cons ?_) ft (by decide +kernel)
        refine xe_ix (xe_var 4 rfl (xe_var 7 rfl (id_lst (d := .lst ((rowsAt keep br tbl j p u).map rwD)) (.m 9 hWh) (atI_nat hh) (xa_nil (cd_tuple .of (xa_nil ⟨Nat.le_of_ble_eq_true rfl, xa_nil ⟨Nat.le_of_ble_eq_true rfl, ?_⟩⟩))))))
        refine od_addTA ?_ ?_
        · rw [List.length_map]; exact Nat.le_trans (Nat.add_le_add_right hVl _) (Nat.le_of_ble_eq_true rfl)
        have e1 : D.tup (V.map rdD ++ [.tup [intD j, intD u, .tup ((rowsAt keep br tbl j p u).map rwD)]]) = vwD (V ++ [(j, u, rowsAt keep br tbl j p u)]) := by
          unfold vwD
          rw [List.map_append]; rfl
        rw [e1]
        refine xg_sub (xe_var 5 rfl (xe_ix (xe_var 8 rfl (xe_int (id_tup (d := intD p) (atI_nat (j := 1) rfl) (sd_dct 1 (k := Sum.inl (p : Int)) rfl hu rfl (by omega) ?_))))))
        have hlp := length_putD fk (Sum.inl (p : Int)) (vwD (V ++ [(j, u, rowsAt keep br tbl j p u)]))
        refine ⟨⟨_, _, _, rfl⟩, putD fk (Sum.inl (p : Int)) (vwD (V ++ [(j, u, rowsAt keep br tbl j p u)])), by rw [hV]; rfl, ?_, by omega, ?_⟩
        · rw [hV]
          show FoundK _ (setF _ p (((viewS keep br tbl j).found p).getD [] ++ [(j, u, rowsAt keep br tbl j p u)]))
          rw [hV0]
          exact hfk.put p _
        · rw [hV]; exact Nat.le_succ_of_le hcl
      | _ => cases hz2
    rw [eqRd] at hz2
    refine xss_one (xs_if (xt_cmp (xe_var 9 rfl (xe_str (od_eq rfl ⟨_, rfl, ⟨fun hz3 => ?_, fun hz3 => ?_⟩⟩)))))
    · rw [eqSv] at hz3
      cases e with
      | save p =>
        obtain ⟨V, hV0⟩ := hev
        have hfp : valD fk (Sum.inl (p : Int)) = some (vwD V) := by rw [hfk, hV0]; rfl
        refine xss_one (xs_expr (xe_append 0 (xe_var 6 rfl ⟨co, rfl, ⟨0, _, rfl⟩, ?_⟩)))
        refine xe_ix (xe_var 5 rfl (xe_ix (xe_var 8 rfl (xe_int (id_tup (d := intD p) (atI_nat (j := 1) rfl) (id_dct (k := Sum.inl (p : Int)) (d := vwD V) hu (.m 1 rfl) rfl hfp ⟨_, rfl, ?_, ?_⟩))))))
        · rw [List.length_map]; omega
        have e1 : (viewS keep br tbl (j + 1)).copies = (viewS keep br tbl j).copies ++ [V] := by
          rw [hV]
          show (viewS keep br tbl j).copies ++ [((viewS keep br tbl j).found p).getD []] = _
          rw [hV0]; rfl
        refine ⟨⟨_, _, _, rfl⟩, fk, ?_, by rw [hV]; exact hfk, by omega, ?_⟩
        · rw [e1, List.map_append]; rfl
        · rw [e1, List.length_append, List.length_singleton]; omega
      | _ => cases hz3
    rw [eqSv] at hz3
    refine xss_one (xs_if (xt_cmp (xe_var 9 rfl (xe_str (od_eq rfl ⟨_, rfl, ⟨fun hz4 => ?_, fun hz4 => ?_⟩⟩)))))
    · rw [eqLd] at hz4
      cases e with
      | load p i =>
        obtain ⟨V, hV0⟩ : ∃ V, (viewS keep br tbl j).copies[i]? = some V := ⟨_, List.getElem?_eq_getElem hev⟩
        refine xss_one (xs_asg [] ?_)
        refine xe_ix (xe_var 6 rfl (xe_ix (xe_var 8 rfl (xe_int (id_tup (d := intD i) (atI_nat (j := 2) rfl) (id_lst (d := vwD V) (.m 0 rfl) (atI_nat (by rw [List.getElem?_map, hV0]; rfl)) ?_))))))
        refine xg_sub (xe_var 5 rfl (xe_ix (xe_var 8 rfl (xe_int (id_tup (d := intD p) (atI_nat (j := 1) rfl) (sd_dct 1 (k := Sum.inl (p : Int)) rfl hu rfl (by omega) ?_))))))
        have hlp := length_putD fk (Sum.inl (p : Int)) (vwD V)
        refine ⟨⟨_, _, _, rfl⟩, putD fk (Sum.inl (p : Int)) (vwD V), by rw [hV]; rfl, ?_, by omega, ?_⟩
        · rw [hV]
          show FoundK _ (setF _ p (((viewS keep br tbl j).copies[i]?).getD []))
          rw [hV0]
          exact hfk.put p _
        · rw [hV]; exact Nat.le_succ_of_le hcl
      | _ => cases hz4
    · rw [eqLd] at hz4
      have e1 : viewS keep br tbl (j + 1) = viewS keep br tbl j := by
        rw [hV]
        cases e with
        | join _ => cases hz
        | load _ _ => cases hz4
        | save _ => cases hz3
        | read _ _ => cases hz2
        | _ => rfl
      refine xss_nil ⟨⟨_, _, _, rfl⟩, fk, by rw [e1], by rw [e1]; exact hfk, by omega, by rw [e1]; omega⟩
  · rintro ρ' M' ⟨⟨d7, d8, d9, rfl⟩, fk, rfl, hfk, _, _⟩
    rw [List.length_mapIdx, List.length_map] at hfk
    refine xss_one ?_
    refine xs_ret ?_
    refine xe_lessE (xe_get1 hu (xe_var 5 rfl ⟨_, .m 1 rfl, xe_var 3 rfl ⟨Sum.inl (p0 : Int), _, _, rfl, rfl, .m 1 rfl, fun d hd => ?_, fun hd => ?_⟩⟩))
    · refine ⟨M, hsub.trans ((List.sublist_cons_self _ _).trans (List.sublist_cons_self _ _)), ?_⟩
      rw [hfk] at hd
      cases hv : (viewS keep br tbl tbl.length).found p0 with
      | none => rw [hv] at hd; cases hd
      | some V =>
        rw [hv] at hd q
        cases hd
        exact q
    · refine ⟨M, hsub.trans ((List.sublist_cons_self _ _).trans (List.sublist_cons_self _ _)), ?_⟩
      rw [hfk] at hd
      cases hv : (viewS keep br tbl tbl.length).found p0 with
      | none => rw [hv] at q; exact q
      | some V => rw [hv] at hd; cases hd
end
end Mm
end
section
set_option maxHeartbeats 400000
/-! W22: what a reader holds, told by the law. -/
namespace Mm
open PySem PySem.Spec PyProof.Rows L2 Dl
abbrev Lh := List (Str × Nat × Int)
def lhF (acc : Lh) (r : Rw) : Lh := match r.2.2 with
  | some x => acc.filter (fun z => decide (z.1 ≠ r.2.1)) ++ [(r.2.1, r.1, x)]
  | none => acc.filter fun z => decide (z.1 ≠ r.2.1)
def lhOf (rs : List Rw) : Lh := rs.foldl lhF []
def lhD (z : Nat × Int) : D := .tup [intD z.1, .v (.int z.2)]
def lhK (acc : Lh) : List (Key × D) := acc.map fun z => (Sum.inr z.1, lhD z.2)
theorem dropD_lh (acc : Lh) (k : Str) : dropD (lhK acc) (Sum.inr k) = lhK (acc.filter fun z => decide (z.1 ≠ k)) := by
  unfold dropD lhK
  rw [List.filter_map]
  congr 1
  apply List.filter_congr
  intro x _
  by_cases h : x.1 = k
  · simp [h]
  · have : ¬ (Sum.inr x.1 : Key) = Sum.inr k := fun e => h (Sum.inr.inj e)
    simp [h, this]
theorem putD_lh (acc : Lh) (k : Str) (p : Nat × Int) (h : ∀ z ∈ acc, z.1 ≠ k) : putD (lhK acc) (Sum.inr k) (lhD p) = lhK (acc ++ [(k, p)]) := by
  unfold lhK
  rw [putD_new, List.map_append]
  · rfl
  · intro z hz
    obtain ⟨y, hy, rfl⟩ := List.mem_map.mp hz
    exact fun e => h y hy (Sum.inr.inj e)
theorem lhF_len (acc : Lh) (r : Rw) : (lhF acc r).length ≤ acc.length + 1 := by
  unfold lhF
  have := List.length_filter_le (fun z : Str × Nat × Int => decide (z.1 ≠ r.2.1)) acc
  split
  · rw [List.length_append]; simp only [List.length_singleton]; omega
  · omega
theorem lh_len (rs : List Rw) : ∀ acc : Lh, (rs.foldl lhF acc).length ≤ acc.length + rs.length := by
  induction rs with
  | nil => intro acc; exact Nat.le_refl _
  | cons r rs ih =>
    intro acc
    have h1 := ih (lhF acc r)
    have h2 := lhF_len acc r
    rw [List.foldl_cons, List.length_cons]
    omega
/-- the places of it are the program's -/
theorem lh_held (rs : List Rw) : ∀ acc : Lh, (rs.foldl lhF acc).map (fun z => (z.1, z.2.1)) = rs.foldl heldF (acc.map fun z => (z.1, z.2.1)) := by
  induction rs with
  | nil => intro acc; rfl
  | cons r rs ih =>
    intro acc
    rw [List.foldl_cons, List.foldl_cons, ih]
    congr 1
    have hf : (acc.filter fun z => decide (z.1 ≠ r.2.1)).map (fun z => (z.1, z.2.1)) = (acc.map fun z => (z.1, z.2.1)).filter fun z => decide (z.1 ≠ r.2.1) := by
      rw [List.filter_map]
      rfl
    unfold lhF heldF
    cases h : r.2.2 with
    | none => exact hf
    | some x =>
      rw [List.map_append, hf]
      rfl
section
variable {P : Program} {w : World} {K : PySem.W.Frag} {mg : Str → Option Value} {base : Heap} {CV CF : Addr}
abbrev sLh : Stmt := topS 34
def wLh : Wp := fun ds M Q => ∃ (V : List Rr), ds = [vwD V] ∧ (rowsOf V).length < 1000 ∧ Q (.dct (lhK (lhOf (rowsOf V)))) M
abbrev nLh : List Str := ["_law_seen", "_law_found", "_law_when", "_law_end", "_law_got", "_law_k", "_law_key_so", "_law_worth"]
theorem scLh : FnScope nLh ["_law_seen"] (defScope sLh) := ⟨rfl, rfl, rfl, by decide +kernel, rfl, by decide +kernel, by decide +kernel⟩
theorem ok_lh (Df : DefG K mg "_law_held" sLh) : CalG P w K mg base 1 "_law_held" wLh := by
  refine CalG.mk' Df scLh (fun _ _ _ _ _ _ us hl => match us, hl with | [_], _ => rfl) (fun ds M QD h => by obtain ⟨_, rfl, _⟩ := h; rfl) fun f cdv A outer s H hr ds M QD h => ?_
  obtain ⟨V, rfl, hz, q⟩ := h
  have hN := scLh.nd
  have hu := hu_of hr
  refine xss_cons (xs_set 1 (xe_dctM fun fl => ?_))
  refine xss_cons ?_
  refine xs_for [2, 3, 4] (xi_val (xe_var 0 rfl (idt_tup ?_)))
  refine ⟨fun n ρ' M' => (∃ d2 d3 d4 d5 d6 d7, ρ' = [some (vwD V), some (.v (.ref fl)), d2, d3, d4, d5, d6, d7]) ∧ M' = (fl, MO.dct (lhK (lhOf (rowsOf (V.take n))))) :: M, ⟨⟨_, _, _, _, _, _, rfl⟩, rfl⟩, fun _ _ _ _ _ => trivial, ?_, ?_⟩
  · rintro n d ρ' M' hd ⟨⟨d2, d3, d4, d5, d6, d7, rfl⟩, rfl⟩
    rw [List.getElem?_map] at hd
    cases hVn : V[n]? with
    | none => rw [hVn] at hd; cases hd
    | some r =>
    rw [hVn] at hd
    cases hd
    have hrow : rowsOf (V.take (n + 1)) = rowsOf (V.take n) ++ r.2.2 := by
      unfold rowsOf
      rw [List.take_succ, hVn, List.flatMap_append]
      simp
    have hlen : (rowsOf (V.take n)).length + r.2.2.length ≤ (rowsOf V).length := by
      rw [← List.length_append, ← hrow]
      unfold rowsOf
      conv => rhs; rw [← List.take_append_drop (n + 1) V]
      rw [List.flatMap_append, List.length_append]
      omega
    refine xg_tup (xgs_cons (xg_name 2 (xgs_cons (xg_name 3 (xgs_cons (xg_name 4 (xgs_nil ?_)))))))
    refine xss_one ?_
    refine xs_for [5, 6, 7] (xi_val (xe_var 4 rfl (idt_tup ?_)))
    refine ⟨fun m ρ' M' => (∃ d2 d3 d4 d5 d6 d7, ρ' = [some (vwD V), some (.v (.ref fl)), d2, d3, d4, d5, d6, d7]) ∧ M' = (fl, MO.dct (lhK (lhOf (rowsOf (V.take n) ++ r.2.2.take m)))) :: M, ⟨⟨_, _, _, _, _, _, rfl⟩, by rw [List.take_zero, List.append_nil]⟩, fun _ _ _ _ _ => trivial, ?_, ?_⟩
    · rintro m d ρ' M' hd ⟨⟨d2, d3, d4, d5, d6, d7, rfl⟩, rfl⟩
      rw [List.getElem?_map] at hd
      cases hrm : r.2.2[m]? with
      | none => rw [hrm] at hd; cases hd
      | some x =>
      rw [hrm] at hd
      cases hd
      have hml := (List.getElem?_eq_some_iff.mp hrm).1
      generalize hacc : lhOf (rowsOf (V.take n) ++ r.2.2.take m) = acc
      have hal : acc.length < 2000 := by
        have := lh_len (rowsOf (V.take n) ++ r.2.2.take m) []
        have h2 : acc.length ≤ 0 + (rowsOf (V.take n) ++ r.2.2.take m).length := by rw [← hacc]; exact this
        rw [List.length_append, List.length_take] at h2
        omega
      have hstep : lhOf (rowsOf (V.take n) ++ r.2.2.take (m + 1)) = lhF acc x := by
        rw [← hacc]
        unfold lhOf
        rw [List.take_succ, hrm, ← List.append_assoc, List.foldl_append]; rfl
      refine xg_tup (xgs_cons (xg_name 5 (xgs_cons (xg_name 6 (xgs_cons (xg_name 7 (xgs_nil ?_)))))))
      refine xss_mid (fun ρ' M' => (∃ d2 d3 d4, ρ' = [some (vwD V), some (.v (.ref fl)), d2, d3, d4, some (intD x.1), some (.v (.str x.2.1)), some (optD x.2.2)]) ∧ M' = (fl, MO.dct (lhK (acc.filter fun z => decide (z.1 ≠ x.2.1)))) :: M) ?_ ?_
      · refine xs_expr (xe_pop2 0 (xe_var 1 rfl ⟨fl, _, rfl, .m 0 rfl, xe_var 6 rfl (xe_non ⟨Sum.inr x.2.1, _, _, rfl, rfl, rfl, fun d hd => ⟨⟨_, _, _, rfl⟩, ?_⟩, fun hd => ⟨⟨_, _, _, rfl⟩, ?_⟩⟩)⟩))
        · rw [← dropD_lh]; rfl
        · rw [← dropD_lh, valD_none_of hd]
      · rintro ρ' M' ⟨⟨d2, d3, d4, rfl⟩, rfl⟩
        refine xss_one (xs_if (xt_cmp (xe_var 7 rfl (xe_non (od_notN ⟨_, rfl, ⟨fun hw => ?_, fun hw => ?_⟩⟩)))))
        · rw [optD_non, Bool.not_not] at hw
          obtain ⟨v, hv⟩ := Option.isSome_iff_exists.mp hw
          refine xss_one (xs_asg [] (xe_tup (xa_cons (xe_var 5 rfl (xa_cons (xe_var 7 rfl (xa_nil ⟨Nat.le_of_ble_eq_true rfl, xg_sub (xe_var 1 rfl (xe_var 6 rfl (sd_dct 0 (k := Sum.inr x.2.1) rfl hu rfl ?_ ⟨⟨_, _, _, _, _, _, rfl⟩, ?_⟩)))⟩)))))))
          · rw [lhK, List.length_map]
            have := List.length_filter_le (fun z : Str × Nat × Int => decide (z.1 ≠ x.2.1)) acc
            omega
          · rw [hstep, lhF, hv]
            show (fl, MO.dct (putD _ (Sum.inr x.2.1) (lhD (x.1, v)))) :: M = _
            rw [putD_lh _ _ _ (fun z hz => by simpa using (List.mem_filter.mp hz).2)]
        · rw [optD_non, Bool.not_not] at hw
          have hv : x.2.2 = none := by cases h : x.2.2 with | none => rfl | some _ => rw [h] at hw; cases hw
          refine xss_nil ⟨⟨_, _, _, _, _, _, rfl⟩, ?_⟩
          rw [hstep, lhF, hv]
    · rintro ρ' M' ⟨⟨d2, d3, d4, d5, d6, d7, rfl⟩, rfl⟩
      rw [List.length_map, List.take_length]
      exact ⟨⟨_, _, _, _, _, _, rfl⟩, by rw [hrow]⟩
  · rintro ρ' M' ⟨⟨d2, d3, d4, d5, d6, d7, rfl⟩, rfl⟩
    rw [List.length_map, List.take_length]
    exact xss_one (xs_ret (xe_frzK (xe_var 1 rfl ⟨fl, _, M, rfl, rfl, q⟩)))
end
end Mm
end
section
set_option maxHeartbeats 400000
/-! W23: the law's gaps. -/
namespace Mm
open PySem PySem.Spec PyProof.Rows L2 Dl
def farOf (V : List Rr) : Nat := ((V.getLast?).map fun r => r.2.1).getD 0
def lgaps (V : List Rr) : List Nat := (List.range (farOf V)).filter fun k => decide (k ∉ places V)
theorem places_snoc (V : List Rr) (r : Rr) : places (V ++ [r]) = places V ++ r.2.2.map fun x => x.1 := by
  unfold places rowsOf
  rw [List.flatMap_append, List.map_append]
  simp
theorem inV_ints (x : Nat) (ks : List Nat) : inV (.int (x : Int)) (ks.map fun n : Nat => L2.V.int (n : Int)) = decide (x ∈ ks) := by
  have e : ∀ a b : Nat, eqV (.int (a : Int)) (.int (b : Int)) = decide (a = b) := fun a b => by
    by_cases h : a = b
    · subst h; simp [eqV]
    · have h2 : ¬ (a : Int) = (b : Int) := by omega
      simp [eqV, h, h2]
  induction ks with
  | nil => rfl
  | cons k ks ih =>
    unfold inV at ih ⊢
    rw [List.map_cons, List.any_cons, ih]
    by_cases h : k = x
    · subst h; simp [e]
    · simp [e, h, Ne.symm h]
section
variable {P : Program} {w : World} {K : PySem.W.Frag} {mg : Str → Option Value} {base : Heap} {CV CF : Addr}
abbrev sLg : Stmt := topS 35
def wLg : Wp := fun ds M Q => ∃ (V : List Rr), ds = [vwD V] ∧ (rowsOf V).length < 1000 ∧ farOf V < 1000 ∧ (∀ r ∈ V, r.2.2.length < 1000) ∧ Q (.lst ((lgaps V).map intD)) M
abbrev nLg : List Str := ["_law_seen", "_law_got", "_law_far", "_law_when", "_law_end", "_law_rows", "_law_row", "_law_k"]
theorem scLg : FnScope nLg ["_law_seen"] (defScope sLg) := ⟨rfl, rfl, rfl, by decide +kernel, rfl, by decide +kernel, by decide +kernel⟩
theorem ok_lg (T : Txt K mg CV CF) (Df : DefG K mg "_law_gaps" sLg) : CalG P w K mg base 1 "_law_gaps" wLg := by
  refine CalG.mk' Df scLg (fun _ _ _ _ _ _ us hl => match us, hl with | [_], _ => rfl) (fun ds M QD h => by obtain ⟨_, rfl, _⟩ := h; rfl) fun f cdv A outer s H hr ds M QD h => ?_
  obtain ⟨V, rfl, hz, hfar, hrs, q⟩ := h
  have hN := scLg.nd
  have hu := hu_of hr
  have frg := T.free "range" (by decide +kernel)
  refine xss_cons ?_
  refine xs_asg [1, 2] ?_
  refine xe_tup (xa_cons (xe_lst (xa_nil ⟨by decide, xa_cons (xe_int (xa_nil ⟨Nat.le_of_ble_eq_true rfl, xg_tup (xgs_cons (xg_name 1 (xgs_cons (xg_name 2 (xgs_nil ?_)))))⟩))⟩)))
  refine xss_cons ?_
  refine xs_for [3, 4, 5] (xi_val (xe_var 0 rfl (idt_tup ?_)))
  refine ⟨fun n ρ' M' => (∃ d3 d4 d5 d6 d7, ρ' = [some (vwD V), some (.lst ((places (V.take n)).map intD)), some (intD (farOf (V.take n))), d3, d4, d5, d6, d7]) ∧ M' = M, ⟨⟨_, _, _, _, _, rfl⟩, rfl⟩, fun _ _ _ _ _ => trivial, ?_, ?_⟩
  · rintro n d ρ' M' hd ⟨⟨d3, d4, d5, d6, d7, rfl⟩, rfl⟩
    rw [List.getElem?_map] at hd
    cases hVn : V[n]? with
    | none => rw [hVn] at hd; cases hd
    | some r =>
    rw [hVn] at hd
    cases hd
    have htk : V.take (n + 1) = V.take n ++ [r] := by rw [List.take_succ, hVn]; rfl
    have hpl : places (V.take (n + 1)) = places (V.take n) ++ r.2.2.map fun x => x.1 := by rw [htk, places_snoc]
    have hfr : farOf (V.take (n + 1)) = r.2.1 := by
      unfold farOf
      rw [htk, List.getLast?_concat]; rfl
    have hsz : (places (V.take n)).length ≤ (rowsOf V).length := by
      unfold places rowsOf
      rw [List.length_map]
      conv => rhs; rw [← List.take_append_drop n V]
      rw [List.flatMap_append, List.length_append]
      omega
    have hrl := hrs r (List.mem_of_getElem? hVn)
    refine xg_tup (xgs_cons (xg_name 3 (xgs_cons (xg_name 4 (xgs_cons (xg_name 5 (xgs_nil ?_)))))))
    refine xss_one ?_
    refine xs_asg [1, 2] ?_
    refine xe_tup (xa_cons ?_)
    refine xe_bin (xe_var 1 rfl ?_)
    refine xe_lc [("_law_row", 6)] (xi_val (xe_var 5 rfl (idt_tup ⟨_, ⟨rfl, rfl⟩, lc_pure (M := M') (fun _ => true) (fun d => match d with | .tup (k :: _) => k | d => d) trivial (by rw [List.length_map]; omega) (fun d hd => ?_), lc_pure_end ?_⟩))) (blkOk_by (by rfl))
    · obtain ⟨x, _, rfl⟩ := List.mem_map.mp hd
      intro s0 H0 C cl0 fp
      refine xg_name 6 ?_
      intro s1 H1 C1 cl1 fp1
      refine xts_nil ⟨rfl, fun _ => ?_, fun z => by cases z⟩
      intro s2 H2 C2 cl2 fp2
      exact xe_ix (xe_var 6 rfl (xe_int (id_tup (d := intD x.1) (atI_nat (j := 0) rfl) ⟨rfl, rfl⟩)))
    · have e1 : (((r.2.2.map rwD).filter fun _ => true).map fun d => match d with | .tup (k :: _) => k | d => d) = (r.2.2.map fun x => x.1).map intD := by
        rw [List.filter_eq_self.mpr (fun _ _ => rfl), List.map_map, List.map_map]
        rfl
      rw [e1]
      refine od_addL .of .of (by rw [List.length_map, List.length_map, List.length_map]; omega) ?_
      refine xa_cons (xe_var 4 rfl (xa_nil ⟨Nat.le_of_ble_eq_true rfl, xg_tup (xgs_cons (xg_name 1 (xgs_cons (xg_name 2 (xgs_nil ⟨⟨some (intD r.1), some (intD r.2.1), some (.tup (r.2.2.map rwD)), d6, d7, ?_⟩, rfl⟩)))))⟩))
      rw [hpl, hfr, List.map_append]; rfl
  · rintro ρ' M' ⟨⟨d3, d4, d5, d6, d7, rfl⟩, rfl⟩
    rw [List.length_map, List.take_length]
    refine xss_one ?_
    refine xs_ret ?_
    refine xe_lc [("_law_k", 7)] (xi_range1 (xa_cons (xe_var 2 rfl (xa_nil ⟨_, rfl, by omega, by omega, ?_⟩))) frg) (blkOk_by (by rfl))
    rw [Int.toNat_natCast]
    refine ⟨_, ⟨rfl, rfl⟩, lc_pure (M := M') (fun d => decide (natD d ∉ places V)) id trivial (by rw [List.length_map, List.length_range]; omega) (fun d hd => ?_), lc_pure_end ?_⟩
    · obtain ⟨k, hk, rfl⟩ := List.mem_map.mp hd
      have e0 : D.v (.int (0 + (k : Int))) = intD k := by rw [Int.zero_add]
      rw [e0]
      intro s0 H0 C cl0 fp
      refine xg_name 7 ?_
      intro s1 H1 C1 cl1 fp1
      have e2 : (places V).map intD = ((places V).map fun n : Nat => L2.V.int (n : Int)).map D.v := by rw [List.map_map]; rfl
      refine xts_one (xt_cmp (xe_var 7 rfl (xe_var 1 rfl (od_notInL (ys := (places V).map fun n : Nat => L2.V.int (n : Int)) ?_ rfl ?_ ⟨_, rfl, ?_, fun _ => ?_, fun _ => rfl⟩))))
      · rw [e2]; exact .of
      · rw [List.all_map, List.all_eq_true]; intro x _; rfl
      · rw [inV_ints]
        show (!decide (k ∈ places V)) = decide (natD (intD k) ∉ places V)
        have : natD (intD k) = k := Int.toNat_natCast k
        rw [this]
        by_cases h : k ∈ places V <;> simp [h]
      · intro s2 H2 C2 cl2 fp2
        exact xe_var 7 rfl ⟨rfl, rfl⟩
    · have e1 : (((List.range (farOf V)).map fun (i : Nat) => D.v (.int (0 + (i : Int)))).filter fun d => decide (natD d ∉ places V)).map id = (lgaps V).map intD := by
        rw [List.map_id]
        have e0 : ((List.range (farOf V)).map fun (i : Nat) => D.v (.int (0 + (i : Int)))) = (List.range (farOf V)).map intD := by
          apply List.map_congr_left
          intro i _
          show D.v (.int (0 + (i : Int))) = _
          rw [Int.zero_add]
        rw [e0, List.filter_map]
        rfl
      rw [e1]
      exact q
end
end Mm
end
section
set_option maxHeartbeats 400000
/-! Ma1: what the table and the broom give: the log can be run, the view taken. -/
namespace Mm
open PySem PySem.Spec PyProof.Rows L2 Dl
theorem swF_seats (keep : Int) (spot : Nat) (br : List (Nat × Nat)) : ∀ w : LW, (br.foldl (swF keep spot) w).seats = w.seats ∧ (br.foldl (swF keep spot) w).copies = w.copies ∧ (br.foldl (swF keep spot) w).heard = w.heard := by
  induction br with
  | nil => intro w; exact ⟨rfl, rfl, rfl⟩
  | cons b br ih =>
    intro w
    rw [List.foldl_cons]
    obtain ⟨h1, h2, h3⟩ := ih (swF keep spot w b)
    rw [h1, h2, h3]
    unfold swF
    split <;> exact ⟨rfl, rfl, rfl⟩
theorem stepA_seats (keep : Int) (br : List (Nat × Nat)) (spot : Nat) (w : LW) : (stepA keep br spot w).seats = w.seats ∧ (stepA keep br spot w).copies = w.copies ∧ (stepA keep br spot w).heard = w.heard := by
  unfold stepA
  obtain ⟨h1, h2, h3⟩ := swF_seats keep spot br (leaveP keep spot w)
  rw [h1, h2, h3]
  exact ⟨rfl, rfl, rfl⟩
/-- the log goes with the table's state -/
structure Goes (w : LW) (v : MV) : Prop where
  rows : w.rows.length = v.many
  seats : w.seats = v.seats
  copies : w.copies = v.copies
theorem Goes.did {w : LW} {v : MV} (h : Goes w v) (e : Ev) : Goes (didP e w) (mvP e v) := by
  have h1 := h.rows
  have h2 := h.seats
  have h3 := h.copies
  cases e with
  | put k x => exact ⟨by show (w.rows ++ [_]).length = v.many + 1; rw [List.length_append, h1]; rfl, h2, h3⟩
  | drop k => exact ⟨by show (w.rows ++ [_]).length = v.many + 1; rw [List.length_append, h1]; rfl, h2, h3⟩
  | wait => exact h
  | join p => exact ⟨h1, by show (fun q => if q = p then some 0 else w.seats q) = _; rw [h2]; rfl, h3⟩
  | read p u => exact ⟨h1, by show (fun q => if q = p then some u else w.seats q) = _; rw [h2]; rfl, h3⟩
  | load p i => exact ⟨h1, by show (fun q => if q = p then some ((w.copies[i]?).getD 0) else w.seats q) = _; rw [h2, h3]; rfl, h3⟩
  | save p => exact ⟨h1, h2, by show w.copies ++ [(w.seats p).getD 0] = _; rw [h2, h3]; rfl⟩
theorem take_snoc {tbl : List Ev} {i : Nat} {e : Ev} (h : tbl[i]? = some e) : tbl.take (i + 1) = tbl.take i ++ [e] := by
  rw [List.take_succ, h]; rfl
theorem runS_goes (keep : Int) (br : List (Nat × Nat)) (tbl : List Ev) : ∀ i, Goes (runS keep br tbl i) (mvS (tbl.take i))
  | 0 => ⟨rfl, rfl, rfl⟩
  | i + 1 => by
    have ih := runS_goes keep br tbl i
    have hA : Goes (stepA keep br i (runS keep br tbl i)) (mvS (tbl.take i)) := by
      obtain ⟨h1, h2, _⟩ := stepA_seats keep br i (runS keep br tbl i)
      exact ⟨by rw [stepA_rows]; exact ih.rows, by rw [h1]; exact ih.seats, by rw [h2]; exact ih.copies⟩
    cases h : tbl[i]? with
    | none =>
      rw [runS_none h, List.take_of_length_le (by have := List.getElem?_eq_none_iff.mp h; omega)]
      rw [List.take_of_length_le (by have := List.getElem?_eq_none_iff.mp h; omega)] at hA
      exact hA
    | some e =>
      rw [runS_some h, take_snoc h, mvS_snoc]
      have := hA.did e
      exact ⟨this.rows, this.seats, this.copies⟩
theorem stepA_goes (keep : Int) (br : List (Nat × Nat)) (tbl : List Ev) (i : Nat) : Goes (stepA keep br i (runS keep br tbl i)) (mvS (tbl.take i)) := by
  have ih := runS_goes keep br tbl i
  obtain ⟨h1, h2, _⟩ := stepA_seats keep br i (runS keep br tbl i)
  exact ⟨by rw [stepA_rows]; exact ih.rows, by rw [h1]; exact ih.seats, by rw [h2]; exact ih.copies⟩
theorem many_mv (tbl : List Ev) : ∀ i, manyE tbl i = (mvS (tbl.take i)).many
  | 0 => rfl
  | i + 1 => by
    have ih := many_mv tbl i
    cases h : tbl[i]? with
    | none =>
      have hl := List.getElem?_eq_none_iff.mp h
      unfold manyE at ih ⊢
      rw [List.take_of_length_le (by omega)] at ih ⊢
      exact ih
    | some e =>
      unfold manyE at ih ⊢
      rw [take_snoc h, mvS_snoc, List.filter_append, List.length_append, ih]
      cases e <;> rfl
theorem EvOk.of {e : Ev} {w : LW} {v : MV} (g : Goes w v) (h : EvOkM e v) : EvOk e w := by
  cases e with
  | load p i => show i < w.copies.length; rw [g.copies]; exact h.2
  | save p => show (w.seats p).isSome = true; rw [g.seats]; exact h.2
  | read p u => show ∃ s, w.seats p = some s ∧ s < u ∧ u ≤ w.rows.length; rw [g.seats, g.rows]; exact h.2
  | _ => trivial
theorem run_ok {keep : Int} {br : List (Nat × Nat)} {tbl : List Ev} (hl : tbl.length ≤ 14) (ht : TblOk tbl) (hb : BroomOk tbl br) : RunOk keep br tbl where
  len := hl
  brl := by have := hb.len; omega
  ev := fun i e h => EvOk.of (stepA_goes keep br tbl i) (ht.ev i e h)
  br := fun b hbm => by
    rw [(runS_goes keep br tbl b.1).rows, ← many_mv]
    exact (hb.le b hbm).2
end Mm
end
section
set_option maxHeartbeats 400000
/-! Ma2: the view goes with the table's state. -/
namespace Mm
open PySem PySem.Spec PyProof.Rows L2 Dl
theorem farOf_snoc (V : List Rr) (r : Rr) : farOf (V ++ [r]) = r.2.1 := by
  unfold farOf
  rw [List.getLast?_concat]; rfl
structure GoesV (n : Nat) (s : VS) (v : MV) : Prop where
  seats : ∀ p, v.seats p = (s.found p).map farOf
  copies : v.copies = s.copies.map farOf
  len : ∀ p V, s.found p = some V → V.length ≤ n
  clen : ∀ V ∈ s.copies, V.length ≤ n
theorem setF_map (f : Nat → Option (List Rr)) (g : Nat → Option Nat) (h : ∀ p, g p = (f p).map farOf) (p : Nat) (V : List Rr) (u : Nat) (hu : farOf V = u) (q : Nat) : (if q = p then some u else g q) = (setF f p V q).map farOf := by
  unfold setF
  by_cases e : q = p
  · rw [if_pos e, if_pos e, ← hu]; rfl
  · rw [if_neg e, if_neg e]; exact h q
theorem setF_len {f : Nat → Option (List Rr)} {n : Nat} (h : ∀ p V, f p = some V → V.length ≤ n) {p : Nat} {V : List Rr} (hV : V.length ≤ n + 1) : ∀ q W, setF f p V q = some W → W.length ≤ n + 1 := fun q W hq => by
  unfold setF at hq
  by_cases e : q = p
  · rw [if_pos e] at hq; cases hq; exact hV
  · rw [if_neg e] at hq
    have := h q W hq
    omega
theorem GoesV.step {n i : Nat} {s : VS} {v : MV} {rows : Nat → Nat → List Rw} (g : GoesV n s v) (e : Ev) (he : EvOkM e v) : GoesV (n + 1) (vwP rows i e s) (mvP e v) := by
  cases e with
  | put k x => exact ⟨g.seats, g.copies, fun p V h => Nat.le_succ_of_le (g.len p V h), fun V h => Nat.le_succ_of_le (g.clen V h)⟩
  | drop k => exact ⟨g.seats, g.copies, fun p V h => Nat.le_succ_of_le (g.len p V h), fun V h => Nat.le_succ_of_le (g.clen V h)⟩
  | wait => exact ⟨g.seats, g.copies, fun p V h => Nat.le_succ_of_le (g.len p V h), fun V h => Nat.le_succ_of_le (g.clen V h)⟩
  | join p => exact ⟨setF_map s.found v.seats g.seats p [] 0 rfl, g.copies, setF_len g.len (Nat.zero_le _), fun V h => Nat.le_succ_of_le (g.clen V h)⟩
  | read p u =>
    obtain ⟨_, s0, hs0, _, _⟩ := he
    rw [g.seats] at hs0
    cases hf : s.found p with
    | none => rw [hf] at hs0; cases hs0
    | some W =>
      have hl := g.len p W hf
      refine ⟨setF_map s.found v.seats g.seats p _ u (farOf_snoc _ _), g.copies, setF_len g.len ?_, fun V h => Nat.le_succ_of_le (g.clen V h)⟩
      rw [hf]
      show (W ++ [_]).length ≤ n + 1
      rw [List.length_append, List.length_singleton]; omega
  | load p j =>
    have hj : j < s.copies.length := by
      have := he.2
      rw [g.copies, List.length_map] at this
      exact this
    refine ⟨setF_map s.found v.seats g.seats p _ _ ?_, g.copies, setF_len g.len ?_, fun V h => Nat.le_succ_of_le (g.clen V h)⟩
    · rw [g.copies, List.getElem?_map, List.getElem?_eq_getElem hj]; rfl
    · rw [List.getElem?_eq_getElem hj]
      exact Nat.le_succ_of_le (g.clen _ (List.getElem_mem hj))
  | save p =>
    obtain ⟨_, hs⟩ := he
    rw [g.seats, Option.isSome_map] at hs
    obtain ⟨W, hW⟩ := Option.isSome_iff_exists.mp hs
    refine ⟨g.seats, ?_, fun p V h => Nat.le_succ_of_le (g.len p V h), fun V h => ?_⟩
    · show v.copies ++ [(v.seats p).getD 0] = (s.copies ++ [(s.found p).getD []]).map farOf
      rw [g.seats, hW, List.map_append, ← g.copies]; rfl
    · rcases List.mem_append.mp h with h | h
      · exact Nat.le_succ_of_le (g.clen V h)
      · rw [List.mem_singleton] at h
        subst h
        rw [hW]
        exact Nat.le_succ_of_le (g.len p W hW)
theorem viewS_none {keep : Int} {br : List (Nat × Nat)} {tbl : List Ev} {i : Nat} (h : tbl[i]? = none) : viewS keep br tbl (i + 1) = viewS keep br tbl i := by
  show (match tbl[i]? with | some e => vwP (rowsAt keep br tbl i) i e (viewS keep br tbl i) | none => viewS keep br tbl i) = _
  rw [h]
theorem viewS_goes {keep : Int} {br : List (Nat × Nat)} {tbl : List Ev} (ht : TblOk tbl) : ∀ i, GoesV i (viewS keep br tbl i) (mvS (tbl.take i))
  | 0 => ⟨fun _ => rfl, rfl, fun p V h => (by cases h), fun V h => (by cases h)⟩
  | i + 1 => by
    have ih := viewS_goes (keep := keep) (br := br) ht i
    cases h : tbl[i]? with
    | none =>
      have hl := List.getElem?_eq_none_iff.mp h
      rw [viewS_none h, List.take_of_length_le (by omega)]
      rw [List.take_of_length_le (by omega)] at ih
      exact ⟨ih.seats, ih.copies, fun p V h => Nat.le_succ_of_le (ih.len p V h), fun V h => Nat.le_succ_of_le (ih.clen V h)⟩
    | some e =>
      rw [viewS_some h, take_snoc h, mvS_snoc]
      exact ih.step e (ht.ev i e h)
theorem runS_heard (keep : Int) (br : List (Nat × Nat)) (tbl : List Ev) : ∀ i, (runS keep br tbl i).heard.length = min i tbl.length ∧ ∀ j e, j < i → tbl[j]? = some e → (runS keep br tbl i).heard[j]? = some (resD e (stepA keep br j (runS keep br tbl j)))
  | 0 => ⟨by simp [runS, bareW], fun j e h => by omega⟩
  | i + 1 => by
    obtain ⟨h1, h2⟩ := runS_heard keep br tbl i
    obtain ⟨_, _, h3⟩ := stepA_seats keep br i (runS keep br tbl i)
    cases h : tbl[i]? with
    | none =>
      have hl := List.getElem?_eq_none_iff.mp h
      rw [runS_none h, h3]
      refine ⟨by rw [h1]; omega, fun j e hj hje => h2 j e ?_ hje⟩
      have := (List.getElem?_eq_some_iff.mp hje).1
      omega
    | some e =>
      have hl := (List.getElem?_eq_some_iff.mp h).1
      rw [runS_some h]
      have hh : (stepB e (stepA keep br i (runS keep br tbl i))).heard = (runS keep br tbl i).heard ++ [resD e (stepA keep br i (runS keep br tbl i))] := by
        show (stepA keep br i (runS keep br tbl i)).heard ++ _ = _
        rw [h3]
      rw [hh]
      refine ⟨by rw [List.length_append, h1, List.length_singleton]; omega, fun j e' hj hje => ?_⟩
      by_cases hji : j < i
      · rw [List.getElem?_append_left (by rw [h1]; omega)]
        exact h2 j e' hji hje
      · have : j = i := by omega
        subst this
        rw [h] at hje
        cases hje
        rw [List.getElem?_append_right (by rw [h1]; omega), h1]
        have : j - min j tbl.length = 0 := by omega
        rw [this]; rfl
theorem view_ok {keep : Int} {br : List (Nat × Nat)} {tbl : List Ev} (hl : tbl.length ≤ 14) (ht : TblOk tbl) (hb : BroomOk tbl br) : ViewOk keep br tbl where
  run := run_ok hl ht hb
  ev := fun i e h => by
    have g := viewS_goes (keep := keep) (br := br) ht i
    have he := ht.ev i e h
    have hi := (List.getElem?_eq_some_iff.mp h).1
    cases e with
    | read p u =>
      obtain ⟨_, s0, hs0, _, _⟩ := he
      rw [g.seats] at hs0
      cases hf : (viewS keep br tbl i).found p with
      | none => rw [hf] at hs0; cases hs0
      | some W =>
        have := g.len p W hf
        exact ⟨W, hf, by omega⟩
    | save p =>
      obtain ⟨_, hs⟩ := he
      rw [g.seats, Option.isSome_map] at hs
      exact Option.isSome_iff_exists.mp hs
    | load p j =>
      have := he.2
      rw [g.copies, List.length_map] at this
      exact this
    | _ => trivial
  heard := fun i p u h => by
    have hi := (List.getElem?_eq_some_iff.mp h).1
    obtain ⟨_, h2⟩ := runS_heard keep br tbl (tbl.length + 1)
    refine ⟨h2 i _ (by omega) h, ?_⟩
    unfold rowsAt heardL
    have := heardI_len (stepA keep br i (runS keep br tbl i)) (((stepA keep br i (runS keep br tbl i)).seats p).getD 0) (u - ((stepA keep br i (runS keep br tbl i)).seats p).getD 0)
    have hr := (EvOk.of (stepA_goes keep br tbl i) (ht.ev i _ h))
    obtain ⟨s, hs, _, hu⟩ := hr
    have hrr := runS_rows keep br tbl i
    rw [stepA_rows] at hu
    omega
end Mm
end
section
set_option maxHeartbeats 400000
/-! W24: a table, a broom, a reader: some. -/
namespace Mm
open PySem PySem.Spec PyProof.Rows L2 Dl
/-- who has joined stands in the view -/
theorem joined {keep : Int} {br : List (Nat × Nat)} {tbl : List Ev} {e : Ev} {p : Nat} : ∀ n i, i < n → tbl[i]? = some e → isJL e = true → evP e = p → ((viewS keep br tbl n).found p).isSome = true
  | 0, i, hi, _, _, _ => by omega
  | n + 1, i, hi, h, hj, hp => by
    have keepIt : ∀ (v : VS) (rows : Nat → Nat → List Rw) (e' : Ev), (v.found p).isSome = true → ((vwP rows n e' v).found p).isSome = true := fun v rows e' hv => by
      have hs : ∀ q V, (setF v.found q V p).isSome = true := fun q V => by
        unfold setF
        split
        · rfl
        · exact hv
      cases e' with
      | join q => exact hs q _
      | read q u => exact hs q _
      | load q j => exact hs q _
      | _ => exact hv
    cases hn : tbl[n]? with
    | none =>
      rw [viewS_none hn]
      refine joined n i ?_ h hj hp
      have h1 := List.getElem?_eq_none_iff.mp hn
      have h2 := (List.getElem?_eq_some_iff.mp h).1
      omega
    | some e' =>
      rw [viewS_some hn]
      by_cases hin : i < n
      · exact keepIt _ _ _ (joined n i hin h hj hp)
      · have : i = n := by omega
        subst this
        rw [h] at hn
        cases hn
        have hs : ∀ (f : Nat → Option (List Rr)) V, (setF f p V p).isSome = true := fun f V => by
          unfold setF; rw [if_pos rfl]; rfl
        cases e with
        | join q => subst hp; exact hs _ _
        | load q j => subst hp; exact hs _ _
        | _ => cases hj
def someD (tbl : List Ev) (br : List (Nat × Nat)) (keep : Nat) (o : Option Nat) (V : List Rr) : D := .tup [.tup (tbl.map evD), .tup (br.map brD), intD keep, optN o, vwD V]
structure SomeOk (tbl : List Ev) (br : List (Nat × Nat)) (keep : Nat) (o : Option Nat) (V : List Rr) : Prop where
  len : tbl.length ≤ 14
  ht : TblOk tbl
  hb : BroomOk tbl br
  hk : keep ≤ 3
  hp : ∀ p, o = some p → (viewS keep br tbl tbl.length).found p = some V
def jlD : D → Bool
  | .tup (.v (.str x) :: _) => inV (.str x) [.str "join", .str "load"]
  | _ => false
def sndD : D → D
  | .tup (_ :: d :: _) => d
  | d => d
section
variable {P : Program} {w : World} {K : PySem.W.Frag} {mg : Str → Option Value} {base : Heap} {CV CF : Addr}
abbrev sSm : Stmt := topS 33
def wSm : Wp := fun ds M Q => ∃ (i : Nat) (l : Addr) (b : List D) (n : Nat), ds = [.v (.ref l), intD 2] ∧ M[i]? = some (l, .lst b) ∧ BxOk n b ∧ n < 700000 ∧
  ∀ b' tbl br keep o V, BxOk (n + 120) b' → SomeOk tbl br keep o V → Q (someD tbl br keep o V) (M.set i (l, .lst b'))
abbrev nSm : List Str := ["_law_box_here", "_law_folk", "_law_table_here", "_law_broom", "_law_keep", "_law_crowd", "_law_p", "_law_event_so"]
theorem scSm : FnScope nSm ["_law_box_here", "_law_folk"] (defScope sSm) := ⟨rfl, rfl, rfl, by decide +kernel, rfl, by decide +kernel, by decide +kernel⟩
theorem ok_sm (T : Txt K mg CV CF) (Tk : CalG P w K mg base 1 "_law_take" wTk) (Of : CalG P w K mg base 2 "_law_of" wOf) (Tl : CalG P w K mg base 5 "_law_tale" wTl) (Db : CalG P w K mg base 2 "_law_drawn_broom" wDb) (Vw : CalG P w K mg base 4 "_law_view" wVw) (Df : DefG K mg "_law_some" sSm) : CalG P w K mg base 6 "_law_some" wSm := by
  refine CalG.mk' Df scSm (fun _ _ _ _ _ _ us hl => match us, hl with | [_, _], _ => rfl) (fun ds M QD h => by obtain ⟨_, _, _, _, rfl, _⟩ := h; rfl) fun f cdv A outer s H hr ds M QD h => ?_
  obtain ⟨i, l, b, n, rfl, hm, hb, hn, q⟩ := h
  have hN := scSm.nd
  have hr1 := hr.mono (j := 1) (by omega)
  have hr2 := hr.mono (j := 2) (by omega)
  have hr4 := hr.mono (j := 4) (by omega)
  have hss : ∀ (b1 b2 : List D), (M.set i (l, MO.lst b1)).set i (l, MO.lst b2) = M.set i (l, MO.lst b2) := fun b1 b2 => List.set_set _
  refine xss_cons ?_
  refine xs_set 2 ?_
  refine xe_fn Tl hr ?_
  refine xa_cons (xe_var 0 rfl ?_)
  refine xa_cons ?_
  refine xe_bin (xe_int ?_)
  refine xe_fn Tk hr1 (xa_cons (xe_var 0 rfl (xa_cons (xe_int (xa_nil ⟨i, l, b, n, 7, rfl, hm, hb, by omega, by omega, by omega, fun b1 k1 hb1 hk1 => od_add ?_⟩)))))
  have hm1 : (M.set i (l, MO.lst b1))[i]? = some (l, .lst b1) := set_at hm
  refine xa_cons (xe_int (xa_cons (xe_var 1 rfl (xa_nil ⟨i, l, b1, n + 1, 8 + k1, ?_, hm1, hb1, by omega, by omega, ?_⟩))))
  · show [_, D.v (.int ((8 : Int) + (k1 : Int))), _, _] = [_, D.v (.int ((8 + k1 : Nat) : Int)), _, _]
    rw [show ((8 + k1 : Nat) : Int) = (8 : Int) + (k1 : Int) by omega]; rfl
  intro b2 tbl hb2 ht htl
  rw [hss]
  have htl14 : tbl.length ≤ 14 := by omega
  have hm2 : (M.set i (l, MO.lst b2))[i]? = some (l, .lst b2) := set_at hm
  refine xss_cons ?_
  refine xs_par 3 4 ?_
  refine xa_cons ?_
  refine xe_fn Db hr2 (xa_cons (xe_var 0 rfl (xa_cons (xe_var 2 rfl (xa_nil ⟨i, l, b2, n + 57, tbl, rfl, hm2, hb2.mono (by omega), by omega, htl14, ?_⟩)))))
  intro b3 br hb3 hbr
  rw [hss]
  have hm3 : (M.set i (l, MO.lst b3))[i]? = some (l, .lst b3) := set_at hm
  refine xa_cons ?_
  refine xe_fn Of hr2 (xa_cons (xe_var 0 rfl (xa_cons (xe_lst ?_))))
  refine xa_cons (xe_int (xa_cons (xe_int (xa_cons (xe_int (xa_cons (xe_int (xa_cons (xe_int (xa_cons (xe_int (xa_nil ⟨by exact Nat.le_of_ble_eq_true rfl, xa_nil ⟨i, l, b3, n + 102, [intD 0, intD 0, intD 1, intD 1, intD 2, intD 3], rfl, hm3, hb3, by omega, by decide, Nat.le_of_ble_eq_true rfl, ?_⟩⟩))))))))))))
  intro b4 d hb4 hd
  obtain ⟨keep, hk3, rfl⟩ : ∃ keep : Nat, keep ≤ 3 ∧ d = intD keep := by
    simp only [List.mem_cons, List.not_mem_nil, or_false] at hd
    rcases hd with rfl | rfl | rfl | rfl | rfl | rfl
    · exact ⟨0, by omega, rfl⟩
    · exact ⟨0, by omega, rfl⟩
    · exact ⟨1, by omega, rfl⟩
    · exact ⟨1, by omega, rfl⟩
    · exact ⟨2, by omega, rfl⟩
    · exact ⟨3, by omega, rfl⟩
  rw [hss]
  refine xa_nil ⟨_, _, rfl, ?_⟩
  have hm4 : (M.set i (l, MO.lst b4))[i]? = some (l, .lst b4) := set_at hm
  have fs := T.free "sorted" (by decide +kernel)
  have fset := T.free "set" (by decide +kernel)
  refine xss_cons ?_
  refine xs_set 5 ?_
  refine xe_sortedSetI ?_ fs fset
  refine xe_lc [("_law_event_so", 7)] (xi_val (xe_var 2 rfl (idt_tup ⟨_, ⟨rfl, rfl⟩, lc_pure (M := M.set i (l, MO.lst b4)) jlD sndD trivial (by rw [List.length_map]; omega) (fun d hd => ?_), lc_pure_end ⟨(tbl.filter isJL).map fun e => (evP e : Int), ?_, ?_, ?_⟩⟩))) (blkOk_by (by rfl))
  · obtain ⟨e, _, rfl⟩ := List.mem_map.mp hd
    intro s0 H0 C cl0 fp
    refine xg_name 7 ?_
    intro s1 H1 C1 cl1 fp1
    refine xts_one (xt_cmp (xe_ix (xe_var 7 rfl (xe_int (id_tup (d := .v (.str (evW e))) (atI_nat (j := 0) rfl) (xe_tup (xa_cons (xe_str (xa_cons (xe_str (xa_nil ⟨Nat.le_of_ble_eq_true rfl, od_inT (ys := [.str "join", .str "load"]) rfl rfl rfl ⟨_, rfl, rfl, fun hz => ?_, fun _ => rfl⟩⟩)))))))))))
    have hz2 : isJL e = true := (inJL e).symm.trans hz
    intro s2 H2 C2 cl2 fp2
    refine xe_ix (xe_var 7 rfl (xe_int ?_))
    cases e with
    | join p => exact id_tup (d := intD p) (atI_nat (j := 1) rfl) ⟨rfl, rfl⟩
    | load p j => exact id_tup (d := intD p) (atI_nat (j := 1) rfl) ⟨rfl, rfl⟩
    | _ => cases hz2
  · have e1 : ((tbl.map evD).filter jlD).map sndD = ((tbl.filter isJL).map fun e => (evP e : Int)).map fun k => D.v (.int k) := by
      rw [List.filter_map, List.map_map, List.map_map]
      have e2 : (jlD ∘ evD) = isJL := by funext e; exact inJL e
      rw [e2]
      apply List.map_congr_left
      intro e he
      have := (List.mem_filter.mp he).2
      cases e with
      | join p => rfl
      | load p j => rfl
      | _ => cases this
    rw [e1]
    exact .of
  · rw [List.length_map]
    have := List.length_filter_le isJL tbl
    omega
  intro ys hys hyl
  obtain ⟨zs, rfl⟩ : ∃ zs : List Nat, ys = zs.map fun z : Nat => (z : Int) := by
    refine ⟨ys.map Int.toNat, ?_⟩
    rw [List.map_map]
    conv => lhs; rw [← List.map_id ys]
    apply List.map_congr_left
    intro y hy
    obtain ⟨e, _, he⟩ := List.mem_map.mp ((hys y).mp hy)
    show y = ((y.toNat : Nat) : Int)
    rw [← he]; rfl
  have hzs : ∀ z ∈ zs, ∃ e ∈ tbl, isJL e = true ∧ evP e = z := fun z hz => by
    obtain ⟨e, he, hez⟩ := List.mem_map.mp ((hys (z : Int)).mp (List.mem_map.mpr ⟨z, hz, rfl⟩))
    exact ⟨e, (List.mem_filter.mp he).1, (List.mem_filter.mp he).2, by omega⟩
  have hzl : zs.length < 64 := by
    rw [List.length_map, List.length_map] at hyl
    have := List.length_filter_le isJL tbl
    omega
  have ez : (zs.map fun z : Nat => (z : Int)).map (fun y => D.v (.int y)) = zs.map intD := by rw [List.map_map]; rfl
  rw [ez]
  refine xss_mid (fun ρ' M' => ∃ (b5 : List D) (o : Option Nat), ρ' = [some (.v (.ref l)), some (intD 2), some (.tup (tbl.map evD)), some (.tup (br.map brD)), some (intD keep), some (.lst (zs.map intD)), some (optN o), none] ∧ M' = M.set i (l, .lst b5) ∧ BxOk (n + 104) b5 ∧ ∀ p, o = some p → p ∈ zs) ?_ ?_
  · refine xs_set 6 ?_
    refine xe_if (xt_cmp (xe_var 5 rfl (xe_lst (xa_nil ⟨by decide, od_neN hr.units .of .of fun z hz => ⟨z, rfl, ⟨fun hz2 => ?_, fun hz2 => ?_⟩⟩⟩))))
    · have hne := hz.mp hz2
      have hpos : 0 < zs.length := List.length_pos_iff.mpr hne
      refine xe_fn Of hr2 (xa_cons (xe_var 0 rfl (xa_cons (xe_var 5 rfl (xa_nil ⟨i, l, b4, n + 103, zs.map intD, rfl, hm4, hb4, by omega, by rw [List.length_map]; exact hpos, by rw [List.length_map]; omega, ?_⟩)))))
      intro b5 d hb5 hd
      obtain ⟨p, hp, rfl⟩ := List.mem_map.mp hd
      rw [hss]
      exact ⟨b5, some p, rfl, rfl, hb5, fun p' hp' => by cases hp'; exact hp⟩
    · exact xe_non ⟨b4, none, rfl, rfl, hb4.mono (by omega), fun p' hp' => by cases hp'⟩
  · rintro ρ' M' ⟨b5, o, rfl, rfl, hb5, ho⟩
    refine xss_one ?_
    refine xs_ret ?_
    refine xe_tup (xa_cons (xe_var 2 rfl (xa_cons (xe_var 3 rfl (xa_cons (xe_var 4 rfl (xa_cons (xe_var 6 rfl (xa_cons ?_)))))))))
    refine xe_if (xt_cmp (xe_var 6 rfl (xe_non (od_notN ⟨_, rfl, ⟨fun hz => ?_, fun hz => ?_⟩⟩))))
    · cases o with
      | none => cases hz
      | some p =>
        refine xe_fn Vw hr4 (xa_cons (xe_var 2 rfl (xa_cons (xe_var 4 rfl (xa_cons (xe_var 3 rfl (xa_cons (xe_var 6 rfl (xa_nil ⟨tbl, keep, br, p, rfl, view_ok htl14 ht hbr, ?_⟩)))))))))
        obtain ⟨e, he, hj, hep⟩ := hzs p (ho p rfl)
        obtain ⟨j, hjt⟩ := List.mem_iff_getElem?.mp he
        have hjl := (List.getElem?_eq_some_iff.mp hjt).1
        have hs := joined (keep := (keep : Int)) (br := br) tbl.length j hjl hjt hj hep
        obtain ⟨V, hV⟩ := Option.isSome_iff_exists.mp hs
        rw [hV]
        refine xa_nil ⟨Nat.le_of_ble_eq_true rfl, ?_⟩
        exact q b5 tbl br keep (some p) V (hb5.mono (by omega)) ⟨htl14, ht, hbr, hk3, fun p' hp' => by cases hp'; exact hV⟩
    · cases o with
      | none => exact xe_tup (xa_nil ⟨by decide, xa_nil ⟨Nat.le_of_ble_eq_true rfl, q b5 tbl br keep none [] (hb5.mono (by omega)) ⟨htl14, ht, hbr, hk3, fun p' hp' => by cases hp'⟩⟩⟩)
      | some p => cases hz
end
end Mm
end
section
set_option maxHeartbeats 400000
/-! Ma3: what a reader has seen, as a chain of reads. -/
namespace Mm
open PySem PySem.Spec PyProof.Rows L2 Dl
/-- the log at the time t, when it is read -/
abbrev wA (keep : Int) (br : List (Nat × Nat)) (tbl : List Ev) (t : Nat) : LW := stepA keep br t (runS keep br tbl t)
def Still (tbl : List Ev) (t : Nat) : Prop := ∃ e, tbl[t]? = some e ∧ isPD e = false
inductive Seen (keep : Int) (br : List (Nat × Nat)) (tbl : List Ev) : List Rr → Prop
  | nil : Seen keep br tbl []
  | snoc (V : List Rr) (t u : Nat) (h : Seen keep br tbl V) (h1 : ∀ r ∈ V, r.1 < t) (h2 : farOf V < u) (h3 : u ≤ manyE tbl t) (h4 : t < tbl.length) (h5 : Still tbl t) : Seen keep br tbl (V ++ [(t, u, heardL (wA keep br tbl t) (farOf V) u)])
def SeenB (keep : Int) (br : List (Nat × Nat)) (tbl : List Ev) (n : Nat) (V : List Rr) : Prop := Seen keep br tbl V ∧ (∀ r ∈ V, r.1 < n) ∧ ∃ j, j < n ∧ Still tbl j ∧ ∀ r ∈ V, j < r.1
theorem SeenB.mono {keep : Int} {br : List (Nat × Nat)} {tbl : List Ev} {n : Nat} {V : List Rr} (h : SeenB keep br tbl n V) : SeenB keep br tbl (n + 1) V :=
  ⟨h.1, fun r hr => Nat.lt_succ_of_lt (h.2.1 r hr), by obtain ⟨j, h1, h2⟩ := h.2.2; exact ⟨j, Nat.lt_succ_of_lt h1, h2⟩⟩
structure SeenS (keep : Int) (br : List (Nat × Nat)) (tbl : List Ev) (n : Nat) (s : VS) : Prop where
  found : ∀ p V, s.found p = some V → SeenB keep br tbl n V
  copies : ∀ V ∈ s.copies, SeenB keep br tbl n V
theorem SeenS.mono {keep : Int} {br : List (Nat × Nat)} {tbl : List Ev} {n : Nat} {s : VS} (h : SeenS keep br tbl n s) : SeenS keep br tbl (n + 1) s :=
  ⟨fun p V e => (h.found p V e).mono, fun V e => (h.copies V e).mono⟩
theorem SeenS.set {keep : Int} {br : List (Nat × Nat)} {tbl : List Ev} {n : Nat} {s : VS} (h : SeenS keep br tbl n s) (p : Nat) (V : List Rr) (hV : SeenB keep br tbl n V) : SeenS keep br tbl n { s with found := setF s.found p V } :=
  ⟨fun q W e => by
    have e : setF s.found p V q = some W := e
    unfold setF at e
    by_cases hq : q = p
    · rw [if_pos hq] at e; cases e; exact hV
    · rw [if_neg hq] at e; exact h.found q W e, h.copies⟩
theorem seen_all {keep : Int} {br : List (Nat × Nat)} {tbl : List Ev} (ht : TblOk tbl) : ∀ i, SeenS keep br tbl i (viewS keep br tbl i)
  | 0 => ⟨fun p V e => (by cases e), fun V e => (by cases e)⟩
  | i + 1 => by
    have ih := seen_all (keep := keep) (br := br) ht i
    have g := viewS_goes (keep := keep) (br := br) ht i
    cases h : tbl[i]? with
    | none => rw [viewS_none h]; exact ih.mono
    | some e =>
      rw [viewS_some h]
      have he := ht.ev i e h
      have hi := (List.getElem?_eq_some_iff.mp h).1
      cases e with
      | join p => exact ih.mono.set p [] ⟨.nil, fun r hr => (by cases hr), i, Nat.lt_succ_self i, ⟨_, h, rfl⟩, fun r hr => (by cases hr)⟩
      | load p j =>
        have hj : j < (viewS keep br tbl i).copies.length := by
          have := he.2
          rw [g.copies, List.length_map] at this
          exact this
        refine ih.mono.set p _ ?_
        rw [List.getElem?_eq_getElem hj]
        exact ih.mono.copies _ (List.getElem_mem hj)
      | save p =>
        obtain ⟨_, hs⟩ := he
        rw [g.seats, Option.isSome_map] at hs
        obtain ⟨W, hW⟩ := Option.isSome_iff_exists.mp hs
        refine ⟨ih.mono.found, fun V hV => ?_⟩
        rcases List.mem_append.mp hV with hV | hV
        · exact ih.mono.copies V hV
        · rw [List.mem_singleton] at hV
          subst hV
          rw [hW]
          exact ih.mono.found p W hW
      | read p u =>
        obtain ⟨_, s0, hs0, hsu, hum⟩ := he
        have hs1 := hs0
        rw [g.seats] at hs0
        cases hf : (viewS keep br tbl i).found p with
        | none => rw [hf] at hs0; cases hs0
        | some W =>
          rw [hf] at hs0
          have hfar : farOf W = s0 := Option.some.inj hs0
          have hsw : ((wA keep br tbl i).seats p).getD 0 = farOf W := by
            rw [(stepA_goes keep br tbl i).seats, hs1, hfar]; rfl
          have hrows : rowsAt keep br tbl i p u = heardL (wA keep br tbl i) (farOf W) u := by
            unfold rowsAt
            rw [hsw]
          obtain ⟨h5, h6, j, hj1, hj2, hj3⟩ := ih.found p W hf
          refine ih.mono.set p _ ?_
          rw [hf]
          show SeenB keep br tbl (i + 1) (W ++ [(i, u, rowsAt keep br tbl i p u)])
          rw [hrows]
          refine ⟨.snoc W i u h5 h6 (by omega) (by rw [many_mv]; exact hum) hi ⟨_, h, rfl⟩, fun r hr => ?_, j, Nat.lt_succ_of_lt hj1, hj2, fun r hr => ?_⟩
          · rcases List.mem_append.mp hr with hr | hr
            · exact Nat.lt_succ_of_lt (h6 r hr)
            · rw [List.mem_singleton] at hr; subst hr; exact Nat.lt_succ_self i
          · rcases List.mem_append.mp hr with hr | hr
            · exact hj3 r hr
            · rw [List.mem_singleton] at hr; subst hr; exact hj1
      | put k x => exact ih.mono
      | drop k => exact ih.mono
      | wait => exact ih.mono
end Mm
end
section
set_option maxHeartbeats 400000
/-! Ma4: the witness, and that the search finds one. -/
namespace Mm
open PySem PySem.Spec PyProof.Rows L2 Dl
/-- C t k: at the time t a sweep has gone beyond the place k; kf: the keys -/
structure Wit (V : List Rr) (h : Int) (ms : Kn) (kf : Nat → Str) (C : Int → Nat → Prop) : Prop where
  dn : ∀ t k k', C t k → k' ≤ k → C t k'
  up : ∀ t t' k, C t k → t ≤ t' → C t' k
  many : ∀ t k, C t k → 0 ≤ t ∧ (k : Int) + 1 ≤ manyAt V t
  key : ∀ r ∈ rowsOf V, kf r.1 = r.2.1
  mst : ∀ z ∈ ms, kf z.1 = z.2 ∧ C ((tm V z.1 : Int) - h) z.1
  got : ∀ r ∈ rowsOf V, ∀ q, r.1 < q → kf q = r.2.1 → ¬ C (tm V r.1 : Int) q
  mark : ∀ r ∈ rowsOf V, r.2.2 = none → ¬ C ((tm V r.1 : Int) - h) r.1
  gap : ∀ g ∈ gapsOf V, g ∉ ms.map (·.1) → C ((tm V g : Int) - h) g ∨ ∃ q, g < q ∧ kf q = kf g ∧ C (tm V g : Int) q
theorem minN_mem : ∀ {l : List Nat} {b : Nat}, minN l = some b → b ∈ l ∧ ∀ y ∈ l, b ≤ y := by
  intro l
  induction l with
  | nil => intro b h; cases h
  | cons a l ih =>
    intro b h
    unfold minN at h
    cases q : minN l with
    | none =>
      rw [q] at h
      have e : a = b := Option.some.inj h
      subst e
      cases l with
      | nil => exact ⟨List.mem_cons_self, fun y hy => by simp at hy; omega⟩
      | cons c l' =>
        unfold minN at q
        cases q
    | some d =>
      rw [q] at h
      have e : min a d = b := Option.some.inj h
      obtain ⟨h1, h2⟩ := ih q
      refine ⟨?_, fun y hy => ?_⟩
      · by_cases hd : a ≤ d
        · have : a = b := by omega
          rw [this]; exact List.mem_cons_self
        · have : d = b := by omega
          rw [← this]; exact List.mem_cons_of_mem _ h1
      · rcases List.mem_cons.mp hy with rfl | hy
        · omega
        · have := h2 y hy
          omega
theorem minN_some {l : List Nat} {a : Nat} (h : a ∈ l) : ∃ b, minN l = some b ∧ b ≤ a := by
  cases l with
  | nil => cases h
  | cons c l =>
    have : ∃ b, minN (c :: l) = some b := by unfold minN; exact ⟨_, rfl⟩
    obtain ⟨b, hb⟩ := this
    exact ⟨b, hb, (minN_mem hb).2 a h⟩
theorem lookN_pair {kn : Kn} {q : Nat} {k : Str} (h : lookN kn q = some k) : (q, k) ∈ kn := by
  unfold lookN at h
  obtain ⟨z, hz, rfl⟩ := Option.map_eq_some_iff.mp h
  have h1 := List.mem_of_find?_eq_some hz
  have h2 : z.1 = q := by simpa using List.find?_some hz
  rw [← h2]; exact h1
theorem lookN_some {kn : Kn} {q : Nat} (h : q ∈ kn.map (·.1)) : ∃ k, lookN kn q = some k := by
  unfold lookN
  cases e : kn.find? (fun z => decide (z.1 = q)) with
  | some z => exact ⟨_, rfl⟩
  | none =>
    obtain ⟨z, hz, rfl⟩ := List.mem_map.mp h
    have := List.find?_eq_none.mp e z hz
    simp at this
theorem mem_later {kn : Kn} {p q : Nat} {k : Str} : q ∈ laterOf kn p k ↔ p < q ∧ lookN kn q = some k := by
  unfold laterOf
  rw [List.mem_filter]
  constructor
  · rintro ⟨_, h⟩
    simpa using h
  · intro h
    refine ⟨?_, by simpa using h⟩
    have := lookN_pair h.2
    exact List.mem_map.mpr ⟨_, this, rfl⟩
/-- bounds that a witness keeps -/
def LowOk (C : Int → Nat → Prop) (a : Int × Int) : Prop := ∃ k : Nat, a.2 = (k : Int) + 1 ∧ C a.1 k
def HighOk (C : Int → Nat → Prop) (b : Int × Int) : Prop := ∃ l : Nat, b.2 = (l : Int) ∧ ¬ C b.1 l
theorem Wit.can {V : List Rr} {h : Int} {ms : Kn} {kf : Nat → Str} {C : Int → Nat → Prop} (W : Wit V h ms kf C) {lows highs : List (Int × Int)} (hl : ∀ a ∈ lows, LowOk C a) (hh : ∀ b ∈ highs, HighOk C b) : canB V lows highs = true := by
  unfold canB
  rw [List.all_eq_true]
  intro a ha
  obtain ⟨k, hk, hC⟩ := hl a ha
  obtain ⟨h0, h1⟩ := W.many _ _ hC
  have e1 : decide (a.1 < 0) = false := decide_eq_false (by omega)
  have e2 : decide (manyAt V a.1 < a.2) = false := decide_eq_false (by omega)
  rw [e1, e2]
  show (true && !(highs.any fun b => decide (a.1 ≤ b.1) && decide (b.2 < a.2))) = true
  rw [Bool.true_and, Bool.not_eq_true', List.any_eq_false]
  intro b hb
  obtain ⟨l, hbl, hn⟩ := hh b hb
  intro z
  rw [Bool.and_eq_true, decide_eq_true_eq, decide_eq_true_eq] at z
  exact hn (W.up _ _ _ (W.dn _ _ _ hC (by omega)) z.1)
structure FillI (V : List Rr) (h : Int) (ms : Kn) (kf : Nat → Str) (C : Int → Nat → Prop) (left : List Nat) (keys : Kn) (lows highs : List (Int × Int)) : Prop where
  key : ∀ q k, lookN keys q = some k → k = "x" ∨ (k = kf q ∧ k ∈ (knOf V ms).map (·.2))
  all : ∀ q, q < (tms V).length → q ∈ keys.map (·.1) ∨ q ∈ left
  down : left.Pairwise fun a b => b < a
  sub : ∀ p ∈ left, p ∈ gapsOf V ∧ p ∉ ms.map (·.1)
  no : ∀ p ∈ left, p ∉ keys.map (·.1)
  low : ∀ a ∈ lows, LowOk C a
  high : ∀ b ∈ highs, HighOk C b
theorem lookN_app {kn : Kn} {p q : Nat} {k : Str} : lookN (kn ++ [(p, k)]) q = (match lookN kn q with | some x => some x | none => if p = q then some k else none) := by
  unfold lookN
  rw [List.find?_append]
  cases h : kn.find? (fun z => decide (z.1 = q)) with
  | some z => rfl
  | none =>
    by_cases e : p = q
    · subst e; simp
    · simp [e]
theorem FillI.next {V : List Rr} {h : Int} {ms : Kn} {kf : Nat → Str} {C : Int → Nat → Prop} {p : Nat} {left : List Nat} {keys : Kn} {lows highs : List (Int × Int)} (I : FillI V h ms kf C (p :: left) keys lows highs)
    {k : Str} {low : Int × Int} {high : Option (Int × Int)} (hk : k = "x" ∨ (k = kf p ∧ k ∈ (knOf V ms).map (·.2))) (hl : LowOk C low) (hh : ∀ b, high = some b → HighOk C b) : FillI V h ms kf C left (keys ++ [(p, k)]) (lows ++ [low]) (highs ++ high.toList) where
  key := fun q k' e => by
    rw [lookN_app] at e
    cases hq : lookN keys q with
    | some x => rw [hq] at e; cases e; exact I.key q _ hq
    | none =>
      rw [hq] at e
      by_cases hpq : p = q
      · subst hpq
        simp only [if_true] at e
        cases e; exact hk
      · simp only [if_neg hpq] at e
        cases e
  all := fun q hq => by
    rw [List.map_append, List.mem_append]
    rcases I.all q hq with z | z
    · exact .inl (.inl z)
    · rcases List.mem_cons.mp z with rfl | z
      · exact .inl (.inr (by simp))
      · exact .inr z
  down := (List.pairwise_cons.mp I.down).2
  sub := fun q hq => I.sub q (List.mem_cons_of_mem _ hq)
  no := fun q hq => by
    rw [List.map_append, List.mem_append]
    rintro (z | z)
    · exact I.no q (List.mem_cons_of_mem _ hq) z
    · have e : q = p := by simpa using z
      have := (List.pairwise_cons.mp I.down).1 q hq
      omega
  low := fun a ha => by
    rcases List.mem_append.mp ha with z | z
    · exact I.low a z
    · rw [List.mem_singleton] at z; subst z; exact hl
  high := fun b hb => by
    rcases List.mem_append.mp hb with z | z
    · exact I.high b z
    · cases high with
      | none => cases z
      | some b' =>
        have : b = b' := by simpa using z
        subst this
        exact hh b rfl
theorem getLast_own {V : List Rr} {p : Nat} {k : Str} {q : Nat} (h : (ownOf V p k).getLast? = some q) : ∃ r ∈ rowsOf V, r.1 = q ∧ q < p ∧ r.2.1 = k := by
  have hm := List.mem_of_getLast? h
  unfold ownOf at hm
  obtain ⟨r, hr, rfl⟩ := List.mem_map.mp hm
  rw [List.mem_filter] at hr
  have h2 : r.1 < p ∧ r.2.1 = k := by simpa using hr.2
  exact ⟨r, hr.1, rfl, h2.1, h2.2⟩
theorem fill_complete {V : List Rr} {h : Int} {ms : Kn} {kf : Nat → Str} {C : Int → Nat → Prop} (W : Wit V h ms kf C) : ∀ (left : List Nat) (keys : Kn) (lows highs : List (Int × Int)), FillI V h ms kf C left keys lows highs → fillB V h ((knOf V ms).map (·.2)) left keys lows highs = true
  | [], keys, lows, highs, I => W.can I.low I.high
  | p :: left, keys, lows, highs, I => by
    unfold fillB
    rw [W.can I.low I.high, Bool.true_and, List.any_eq_true]
    obtain ⟨hg, hm⟩ := I.sub p List.mem_cons_self
    have rec' : ∀ c : Ch, c ∈ choicesL V h keys p ((knOf V ms).map (·.2)) → (c.1 = "x" ∨ (c.1 = kf p ∧ c.1 ∈ (knOf V ms).map (·.2))) → LowOk C c.2.1 → (∀ b, c.2.2.1 = some b → HighOk C b) → ∃ x, x ∈ choicesL V h keys p ((knOf V ms).map (·.2)) ∧ fillB V h ((knOf V ms).map (·.2)) left (keys ++ [(p, x.1)]) (lows ++ [x.2.1]) (highs ++ x.2.2.1.toList) = true := fun c hc h1 h2 h3 =>
      ⟨c, hc, fill_complete W left _ _ _ (I.next h1 h2 h3)⟩
    have choice2 : ∀ q m, C (tm V p : Int) q → minN (laterOf keys p "x" ++ [(tms V).length]) = some m → m ≤ q → ∃ x, x ∈ choicesL V h keys p ((knOf V ms).map (·.2)) ∧ fillB V h ((knOf V ms).map (·.2)) left (keys ++ [(p, x.1)]) (lows ++ [x.2.1]) (highs ++ x.2.2.1.toList) = true := fun q m hC hmn hmq => by
      refine rec' ("x", ((tm V p : Int), (((minN (laterOf keys p "x" ++ [(tms V).length])).getD 0 : Nat) : Int) + 1), none, false) ?_ (.inl rfl) ?_ (fun b hb => by cases hb)
      · unfold choicesL
        exact List.mem_cons_of_mem _ List.mem_cons_self
      · rw [hmn]
        exact ⟨m, rfl, W.dn _ _ _ hC hmq⟩
    rcases W.gap p hg hm with h1 | ⟨q, hpq, hkq, hC⟩
    · refine rec' ("x", agedOf V h p, none, true) ?_ (.inl rfl) ⟨p, rfl, h1⟩ (fun b hb => by cases hb)
      unfold choicesL
      exact List.mem_cons_self
    · by_cases hqf : q < (tms V).length
      · have hin : q ∈ keys.map (·.1) := by
          rcases I.all q hqf with z | z
          · exact z
          · rcases List.mem_cons.mp z with rfl | z
            · omega
            · have := (List.pairwise_cons.mp I.down).1 q z
              omega
        obtain ⟨k, hk⟩ := lookN_some hin
        have hlat : q ∈ laterOf keys p k := mem_later.mpr ⟨hpq, hk⟩
        rcases I.key q k hk with rfl | ⟨hkk, hks⟩
        · obtain ⟨m, hm1, hm2⟩ := minN_some (List.mem_append_left [(tms V).length] hlat)
          exact choice2 q m hC hm1 hm2
        · obtain ⟨m, hm1, hm2⟩ := minN_some hlat
          have hkp : k = kf p := hkk.trans hkq
          refine rec' (k, ((tm V p : Int), (m : Int) + 1), ((ownOf V p k).getLast?).map fun q => ((tm V q : Int), (p : Int)), false) ?_ (.inr ⟨hkp, hks⟩) ⟨m, rfl, W.dn _ _ _ hC hm2⟩ ?_
          · unfold choicesL
            refine List.mem_cons_of_mem _ (List.mem_cons_of_mem _ (List.mem_filterMap.mpr ⟨k, hks, ?_⟩))
            unfold chK
            rw [hm1]
          · intro b hb
            obtain ⟨o, ho, rfl⟩ := Option.map_eq_some_iff.mp hb
            obtain ⟨r, hr, hro, hop, hrk⟩ := getLast_own ho
            refine ⟨p, rfl, ?_⟩
            have := W.got r hr p (by omega) (by rw [hrk]; exact hkp.symm)
            rw [hro] at this
            exact this
      · obtain ⟨m, hm1, hm2⟩ := minN_some (List.mem_append_right (laterOf keys p "x") (List.mem_singleton_self (tms V).length))
        exact choice2 q m hC hm1 (by omega)
theorem fillV_complete {V : List Rr} {h : Int} {ms : Kn} {kf : Nat → Str} {C : Int → Nat → Prop} (W : Wit V h ms kf C) : fillV V h ms = true := by
  have hkey : ∀ q k, (q, k) ∈ knOf V ms → k = kf q ∧ k ∈ (knOf V ms).map (·.2) := fun q k hq => by
    refine ⟨?_, List.mem_map.mpr ⟨_, hq, rfl⟩⟩
    unfold knOf at hq
    rcases List.mem_append.mp hq with z | z
    · obtain ⟨r, hr, e⟩ := List.mem_map.mp z
      have e1 := (Prod.mk.inj e).1
      have e2 := (Prod.mk.inj e).2
      rw [← e1, ← e2]
      exact (W.key r hr).symm
    · exact (W.mst _ z).1.symm
  refine fill_complete W _ _ _ _ ⟨fun q k e => .inr (hkey q k (lookN_pair e)), fun q hq => ?_, ?_, fun p hp => ?_, fun p hp => ?_, fun a ha => ?_, fun b hb => ?_⟩
  · by_cases h1 : q ∈ (knOf V ms).map (·.1)
    · exact .inl h1
    · refine .inr ?_
      unfold knOf at h1
      rw [List.map_append, List.mem_append, List.map_map] at h1
      unfold leftOf gapsOf
      rw [List.mem_reverse, List.mem_filter, List.mem_filter]
      refine ⟨⟨List.mem_range.mpr hq, decide_eq_true fun z => h1 (.inl z)⟩, decide_eq_true fun z => h1 (.inr z)⟩
  · unfold leftOf gapsOf
    rw [List.pairwise_reverse]
    exact (List.pairwise_lt_range.filter _).filter _
  · unfold leftOf at hp
    rw [List.mem_reverse, List.mem_filter] at hp
    exact ⟨hp.1, by simpa using hp.2⟩
  · unfold leftOf gapsOf at hp
    rw [List.mem_reverse, List.mem_filter, List.mem_filter] at hp
    obtain ⟨⟨_, h2⟩, h3⟩ := hp
    unfold knOf
    rw [List.map_append, List.mem_append, List.map_map]
    rintro (z | z)
    · exact (of_decide_eq_true h2) z
    · exact (of_decide_eq_true h3) z
  · unfold lowsOf at ha
    obtain ⟨z, hz, rfl⟩ := List.mem_map.mp ha
    exact ⟨z.1, rfl, (W.mst z hz).2⟩
  · unfold highsOf at hb
    obtain ⟨r, hr, hb⟩ := List.mem_flatMap.mp hb
    unfold hiOf at hb
    rcases List.mem_append.mp hb with z | z
    · cases hmn : minN (laterOf (knOf V ms) r.1 r.2.1) with
      | none => rw [hmn] at z; cases z
      | some l =>
        rw [hmn] at z
        rw [List.mem_singleton] at z
        subst z
        have h1 := mem_later.mp (minN_mem hmn).1
        exact ⟨l, rfl, W.got r hr l h1.1 (hkey _ _ (lookN_pair h1.2)).1.symm⟩
    · by_cases hn : r.2.2 = none
      · rw [if_pos hn, List.mem_singleton] at z
        subst z
        exact ⟨r.1, rfl, W.mark r hr hn⟩
      · rw [if_neg hn] at z; cases z
end Mm
end
section
set_option maxHeartbeats 400000
/-! Ma5: what the search finds is a witness; a witness of a beginning. -/
namespace Mm
open PySem PySem.Spec PyProof.Rows L2 Dl
structure FinI (V : List Rr) (h : Int) (left : List Nat) (keys keys' : Kn) (lows lows' highs highs' : List (Int × Int)) : Prop where
  can : canB V lows' highs' = true
  ext : ∀ q k, lookN keys q = some k → lookN keys' q = some k
  dom : ∀ q, q ∈ keys'.map (·.1) → q ∈ keys.map (·.1) ∨ q ∈ left
  lo : ∀ a ∈ lows, a ∈ lows'
  hi : ∀ a ∈ highs, a ∈ highs'
  ch : ∀ p ∈ left, ∃ k, lookN keys' p = some k ∧ (k = "x" ∨ ∀ q, (ownOf V p k).getLast? = some q → ((tm V q : Int), (p : Int)) ∈ highs') ∧
    (agedOf V h p ∈ lows' ∨ ∃ m : Nat, p < m ∧ (lookN keys' m = some k ∨ (k = "x" ∧ m = (tms V).length)) ∧ ((tm V p : Int), (m : Int) + 1) ∈ lows')
theorem FinI.cons {V : List Rr} {h : Int} {p : Nat} {left : List Nat} {keys keys' : Kn} {lows lows' highs highs' : List (Int × Int)} {k : Str} {low : Int × Int} {high : Option (Int × Int)}
    (F : FinI V h left (keys ++ [(p, k)]) keys' (lows ++ [low]) lows' (highs ++ high.toList) highs') (hp : p ∉ keys.map (·.1))
    (h1 : k = "x" ∨ ∀ q, (ownOf V p k).getLast? = some q → high = some ((tm V q : Int), (p : Int)))
    (h2 : low = agedOf V h p ∨ ∃ m : Nat, p < m ∧ (lookN keys m = some k ∨ (k = "x" ∧ m = (tms V).length)) ∧ low = ((tm V p : Int), (m : Int) + 1)) : FinI V h (p :: left) keys keys' lows lows' highs highs' := by
  have hext : ∀ q k', lookN keys q = some k' → lookN keys' q = some k' := fun q k' e => by
    refine F.ext q k' ?_
    rw [lookN_app, e]
  refine ⟨F.can, hext, fun q hq => ?_, fun a ha => F.lo a (List.mem_append_left _ ha), fun a ha => F.hi a (List.mem_append_left _ ha), fun q hq => ?_⟩
  · rcases F.dom q hq with z | z
    · rw [List.map_append, List.mem_append] at z
      rcases z with z | z
      · exact .inl z
      · have : q = p := by simpa using z
        subst this
        exact .inr List.mem_cons_self
    · exact .inr (List.mem_cons_of_mem _ z)
  · rcases List.mem_cons.mp hq with rfl | hq
    · refine ⟨k, F.ext q k ?_, ?_, ?_⟩
      · rw [lookN_app, lookN_none hp]
        show (if q = q then some k else none) = some k
        rw [if_pos rfl]
      · rcases h1 with h1 | h1
        · exact .inl h1
        · refine .inr fun o ho => F.hi _ (List.mem_append_right _ ?_)
          rw [h1 o ho]
          exact List.mem_singleton_self _
      · have hlow : low ∈ lows' := F.lo _ (List.mem_append_right _ (List.mem_singleton_self _))
        rcases h2 with h2 | ⟨m, hm, hk, h2⟩
        · exact .inl (h2 ▸ hlow)
        · refine .inr ⟨m, hm, ?_, h2 ▸ hlow⟩
          rcases hk with hk | hk
          · exact .inl (hext m k hk)
          · exact .inr hk
    · exact F.ch q hq
theorem fill_sound {V : List Rr} {h : Int} {ks : List Str} : ∀ (left : List Nat) (keys : Kn) (lows highs : List (Int × Int)), left.Nodup → (∀ p ∈ left, p ∉ keys.map (·.1)) → (∀ p ∈ left, p < (tms V).length) → fillB V h ks left keys lows highs = true → ∃ keys' lows' highs', FinI V h left keys keys' lows lows' highs highs'
  | [], keys, lows, highs, _, _, _, hf => ⟨keys, lows, highs, hf, fun _ _ e => e, fun _ e => .inl e, fun _ e => e, fun _ e => e, fun p hp => by cases hp⟩
  | p :: left, keys, lows, highs, hnd, hk, hlt, hf => by
    unfold fillB at hf
    rw [Bool.and_eq_true, List.any_eq_true] at hf
    obtain ⟨_, c, hc, hf⟩ := hf
    have hpk := hk p List.mem_cons_self
    have hpl := hlt p List.mem_cons_self
    obtain ⟨hpn, hnd'⟩ := List.nodup_cons.mp hnd
    obtain ⟨keys', lows', highs', F⟩ := fill_sound left _ _ _ hnd' (fun q hq => by
      rw [List.map_append, List.mem_append]
      rintro (z | z)
      · exact hk q (List.mem_cons_of_mem _ hq) z
      · have : q = p := by simpa using z
        exact hpn (this ▸ hq)) (fun q hq => hlt q (List.mem_cons_of_mem _ hq)) hf
    refine ⟨keys', lows', highs', ?_⟩
    unfold choicesL at hc
    rcases List.mem_cons.mp hc with rfl | hc
    · exact F.cons hpk (.inl rfl) (.inl rfl)
    rcases List.mem_cons.mp hc with rfl | hc
    · obtain ⟨m, hm1, hm2⟩ := minN_some (List.mem_append_right (laterOf keys p "x") (List.mem_singleton_self (tms V).length))
      refine F.cons hpk (.inl rfl) (.inr ⟨m, ?_, ?_, ?_⟩)
      · rcases List.mem_append.mp (minN_mem hm1).1 with z | z
        · exact (mem_later.mp z).1
        · rw [List.mem_singleton] at z; omega
      · rcases List.mem_append.mp (minN_mem hm1).1 with z | z
        · exact .inl (mem_later.mp z).2
        · rw [List.mem_singleton] at z; exact .inr ⟨rfl, z⟩
      · show ((tm V p : Int), (((minN (laterOf keys p "x" ++ [(tms V).length])).getD 0 : Nat) : Int) + 1) = _
        rw [hm1]; rfl
    · obtain ⟨k, hks, e⟩ := List.mem_filterMap.mp hc
      unfold chK at e
      cases hm : minN (laterOf keys p k) with
      | none => rw [hm] at e; cases e
      | some m =>
        rw [hm] at e
        have e := (Option.some.inj e).symm
        subst e
        have h1 := mem_later.mp (minN_mem hm).1
        refine F.cons hpk (.inr fun q hq => ?_) (.inr ⟨m, h1.1, .inl h1.2, rfl⟩)
        show ((ownOf V p k).getLast?).map _ = _
        rw [hq]; rfl
theorem lookN_nd {kn : Kn} {q : Nat} {k : Str} (hnd : (kn.map (·.1)).Nodup) (h : (q, k) ∈ kn) : lookN kn q = some k := by
  obtain ⟨k', hk'⟩ := lookN_some (List.mem_map.mpr ⟨_, h, rfl⟩ : q ∈ kn.map (·.1))
  have h2 := lookN_pair hk'
  rw [hk']
  congr 1
  have key : ∀ {l : Kn}, (l.map (·.1)).Nodup → ∀ {a b : Nat × Str}, a ∈ l → b ∈ l → a.1 = b.1 → a = b := by
    intro l
    induction l with
    | nil => intro _ a b ha; cases ha
    | cons c l ih =>
      intro hn a b ha hb e
      rw [List.map_cons, List.nodup_cons] at hn
      rcases List.mem_cons.mp ha with rfl | ha' <;> rcases List.mem_cons.mp hb with rfl | hb'
      · rfl
      · exact absurd (List.mem_map.mpr ⟨b, hb', e.symm⟩ : a.1 ∈ l.map (·.1)) hn.1
      · exact absurd (List.mem_map.mpr ⟨a, ha', e⟩ : b.1 ∈ l.map (·.1)) hn.1
      · exact ih hn.2 ha' hb' e
  exact (Prod.mk.inj (key hnd h2 h rfl)).2
theorem can_low {V : List Rr} {lows highs : List (Int × Int)} (hc : canB V lows highs = true) {a : Int × Int} (ha : a ∈ lows) : 0 ≤ a.1 ∧ a.2 ≤ manyAt V a.1 ∧ ∀ b ∈ highs, a.1 ≤ b.1 → a.2 ≤ b.2 := by
  unfold canB at hc
  have h1 := List.all_eq_true.mp hc a ha
  rw [Bool.and_eq_true, Bool.not_eq_true', Bool.not_eq_true', Bool.or_eq_false_iff, decide_eq_false_iff_not, decide_eq_false_iff_not, List.any_eq_false] at h1
  obtain ⟨⟨h2, h3⟩, h4⟩ := h1
  refine ⟨by omega, by omega, fun b hb hab => ?_⟩
  have := h4 b hb
  rw [Bool.and_eq_true, decide_eq_true_eq, decide_eq_true_eq] at this
  have h5 : ¬ b.2 < a.2 := fun z => this ⟨hab, z⟩
  omega
theorem own_last {V : List Rr} (hr : (rowsOf V).Pairwise fun a b => a.1 < b.1) {p : Nat} {k : Str} {r : Rw} (h : r ∈ rowsOf V) (h1 : r.1 < p) (h2 : r.2.1 = k) : ∃ q, (ownOf V p k).getLast? = some q ∧ r.1 ≤ q := by
  have hm : r.1 ∈ ownOf V p k := by
    unfold ownOf
    refine List.mem_map.mpr ⟨r, List.mem_filter.mpr ⟨h, ?_⟩, rfl⟩
    rw [decide_eq_true h1, decide_eq_true h2]; rfl
  have hs : (ownOf V p k).Pairwise (· < ·) := by
    unfold ownOf
    rw [List.pairwise_map]
    exact hr.filter _
  have hne : ownOf V p k ≠ [] := List.ne_nil_of_mem hm
  refine ⟨(ownOf V p k).getLast hne, List.getLast?_eq_some_getLast hne, ?_⟩
  have e := List.dropLast_concat_getLast hne
  rw [← e, List.mem_append, List.mem_singleton] at hm
  rw [← e, List.pairwise_append] at hs
  rcases hm with z | z
  · exact Nat.le_of_lt (hs.2.2 _ z _ (List.mem_singleton_self _))
  · omega
/-- what a view has -/
structure NiceV (V : List Rr) : Prop where
  many : ∀ t t' : Int, 0 ≤ t → t ≤ t' → manyAt V t ≤ manyAt V t'
  tm : ∀ p q, p ≤ q → q < (tms V).length → tm V p ≤ tm V q
theorem fillV_sound {V : List Rr} {h : Int} {ms : Kn} (N : NiceV V) (g : GoodS V ms) (hf : fillV V h ms = true) : ∃ kf C, Wit V h ms kf C := by
  have hmem : ∀ p ∈ leftOf V ms, p < (tms V).length ∧ p ∉ places V ∧ p ∉ ms.map (·.1) := fun p hp => by
    unfold leftOf gapsOf at hp
    rw [List.mem_reverse, List.mem_filter, List.mem_filter] at hp
    obtain ⟨⟨h1, h2⟩, h3⟩ := hp
    exact ⟨List.mem_range.mp h1, of_decide_eq_true h2, of_decide_eq_true h3⟩
  have hkn : ∀ p, p ∈ (knOf V ms).map (·.1) ↔ p ∈ places V ∨ p ∈ ms.map (·.1) := fun p => by
    unfold knOf
    rw [List.map_append, List.mem_append, List.map_map]
    exact Iff.rfl
  have hnd : (leftOf V ms).Nodup := by
    unfold leftOf gapsOf
    rw [List.Nodup, List.pairwise_reverse]
    exact ((List.nodup_range.sublist List.filter_sublist).sublist List.filter_sublist).imp Ne.symm
  obtain ⟨keys', lows', highs', F⟩ := fill_sound (leftOf V ms) (knOf V ms) (lowsOf V h ms) (highsOf V h (knOf V ms)) hnd (fun p hp z => by
    obtain ⟨_, h2, h3⟩ := hmem p hp
    rcases (hkn p).mp z with z | z
    · exact h2 z
    · exact h3 z) (fun p hp => (hmem p hp).1) hf
  have hx : ∀ q k, (q, k) ∈ knOf V ms → k ≠ "x" := fun q k hq e => g.nox (List.mem_map.mpr ⟨_, hq, e⟩)
  have hrow : ∀ r ∈ rowsOf V, (r.1, r.2.1) ∈ knOf V ms := fun r hr => List.mem_append_left _ (List.mem_map.mpr ⟨r, hr, rfl⟩)
  have hkeep : ∀ q k, (q, k) ∈ knOf V ms → lookN keys' q = some k := fun q k hq => F.ext q k (lookN_nd g.f.nd hq)
  have hdom : ∀ q, q ∈ keys'.map (·.1) → q < (tms V).length := fun q hq => by
    rcases F.dom q hq with z | z
    · rcases (hkn q).mp z with z | z
      · obtain ⟨r, hr, rfl⟩ := List.mem_map.mp z
        exact g.f.inV r hr
      · obtain ⟨r, hr, rfl⟩ := List.mem_map.mp z
        exact g.f.mi r hr
    · exact (hmem q z).1
  have hno : ∀ (t : Int) (q : Nat) (b : Int × Int), b ∈ highs' → t ≤ b.1 → b.2 ≤ q → ¬ ∃ a ∈ lows', a.1 ≤ t ∧ (q : Int) < a.2 := by
    rintro t q b hb h1 h2 ⟨a, ha, h3, h4⟩
    have := (can_low F.can ha).2.2 b hb (by omega)
    omega
  refine ⟨fun q => (lookN keys' q).getD "x", fun t k => ∃ a ∈ lows', a.1 ≤ t ∧ (k : Int) < a.2, ?_, ?_, ?_, ?_, ?_, ?_, ?_, ?_⟩
  · rintro t k k' ⟨a, ha, h1, h2⟩ hk
    exact ⟨a, ha, h1, by omega⟩
  · rintro t t' k ⟨a, ha, h1, h2⟩ ht
    exact ⟨a, ha, by omega, h2⟩
  · rintro t k ⟨a, ha, h1, h2⟩
    obtain ⟨h3, h4, _⟩ := can_low F.can ha
    have := N.many a.1 t h3 h1
    exact ⟨by omega, by omega⟩
  · intro r hr
    show (lookN keys' r.1).getD "x" = _
    rw [hkeep _ _ (hrow r hr)]; rfl
  · intro z hz
    refine ⟨?_, agedOf V h z.1, F.lo _ (List.mem_map.mpr ⟨z, hz, rfl⟩), Int.le_refl _, ?_⟩
    · show (lookN keys' z.1).getD "x" = _
      rw [hkeep z.1 z.2 (List.mem_append_right _ hz)]; rfl
    · show (z.1 : Int) < (z.1 : Int) + 1
      omega
  · intro r hr q hq hkq
    cases hl : lookN keys' q with
    | none =>
      have hkq : (lookN keys' q).getD "x" = r.2.1 := hkq
      rw [hl] at hkq
      exact absurd hkq.symm (hx _ _ (hrow r hr))
    | some k =>
      have hkq : (lookN keys' q).getD "x" = r.2.1 := hkq
      rw [hl] at hkq
      have hkq : k = r.2.1 := hkq
      subst hkq
      rcases F.dom q (List.mem_map.mpr ⟨_, lookN_pair hl, rfl⟩) with z | z
      · obtain ⟨k', hk'⟩ := lookN_some z
        have h1 := F.ext q k' hk'
        rw [hl] at h1
        cases h1
        obtain ⟨l, hl1, hl2⟩ := minN_some (mem_later.mpr ⟨hq, hk'⟩)
        refine hno _ q ((tm V r.1 : Int), (l : Int)) (F.hi _ ?_) (Int.le_refl _) (by show (l : Int) ≤ (q : Int); omega)
        unfold highsOf
        refine List.mem_flatMap.mpr ⟨r, hr, ?_⟩
        unfold hiOf
        rw [hl1]
        exact List.mem_append_left _ (List.mem_singleton_self _)
      · obtain ⟨k', hk', hh, _⟩ := F.ch q z
        rw [hl] at hk'
        cases hk'
        rcases hh with hh | hh
        · exact absurd hh (hx _ _ (hrow r hr))
        · obtain ⟨o, ho, hro⟩ := own_last g.f.v.rise hr hq rfl
          obtain ⟨ro, hro1, hro2, _, _⟩ := getLast_own ho
          have h1 := N.tm r.1 o hro (by rw [← hro2]; exact g.f.inV ro hro1)
          exact hno _ q _ (hh o ho) (by show (tm V r.1 : Int) ≤ (tm V o : Int); omega) (Int.le_refl _)
  · intro r hr hn
    refine hno _ r.1 ((tm V r.1 : Int) - h, (r.1 : Int)) (F.hi _ ?_) (Int.le_refl _) (Int.le_refl _)
    unfold highsOf
    refine List.mem_flatMap.mpr ⟨r, hr, ?_⟩
    unfold hiOf
    rw [if_pos hn]
    exact List.mem_append_right _ (List.mem_singleton_self _)
  · intro p hp hpm
    have hpl : p ∈ leftOf V ms := by
      unfold leftOf
      rw [List.mem_reverse, List.mem_filter]
      exact ⟨hp, decide_eq_true hpm⟩
    obtain ⟨k, hk, _, hh⟩ := F.ch p hpl
    rcases hh with hh | ⟨m, hm, hkm, hh⟩
    · refine .inl ⟨_, hh, Int.le_refl _, ?_⟩
      show (p : Int) < (p : Int) + 1
      omega
    · refine .inr ⟨m, hm, ?_, _, hh, Int.le_refl _, ?_⟩
      · show (lookN keys' m).getD "x" = (lookN keys' p).getD "x"
        rw [hk]
        rcases hkm with hkm | ⟨rfl, rfl⟩
        · rw [hkm]
        · cases hl : lookN keys' (tms V).length with
          | none => rfl
          | some k' =>
            have := hdom _ (List.mem_map.mpr ⟨_, lookN_pair hl, rfl⟩)
            exact absurd this (Nat.lt_irrefl _)
      · show (m : Int) < (m : Int) + 1
        omega
end Mm
end
section
set_option maxHeartbeats 400000
/-! Ma6: what is gone in the law's own log. -/
namespace Mm
open PySem PySem.Spec PyProof.Rows L2 Dl
abbrev Fr := List (Str × Option Int)
def evRow : Ev → Option (Str × Option Int)
  | .put k v => some (k, some v)
  | .drop k => some (k, none)
  | _ => none
def allR (tbl : List Ev) : Fr := tbl.filterMap evRow
def kfF (F : Fr) (k : Nat) : Str := (F[k]?.map (·.1)).getD "x"
def markF (F : Fr) (k : Nat) : Prop := ∃ x, F[k]? = some (x, none)
/-- what is gone at a time t, with the sweeps D -/
def Gn (F : Fr) (keep : Int) (D : Nat × Nat → Prop) (t : Nat) (k : Nat) : Prop :=
  (markF F k ∧ ∃ b, D b ∧ k < b.2 ∧ (b.1 : Int) + keep ≤ t) ∨ ∃ q, k < q ∧ kfF F q = kfF F k ∧ ∃ b, D b ∧ q < b.2
theorem runS_rowsF (keep : Int) (br : List (Nat × Nat)) (tbl : List Ev) : ∀ i, (runS keep br tbl i).rows = (tbl.take i).filterMap evRow
  | 0 => rfl
  | i + 1 => by
    have ih := runS_rowsF keep br tbl i
    cases h : tbl[i]? with
    | none =>
      have hl := List.getElem?_eq_none_iff.mp h
      rw [runS_none h, stepA_rows, ih, List.take_of_length_le (by omega), List.take_of_length_le (by omega)]
    | some e =>
      rw [runS_some h, take_snoc h, List.filterMap_append, ← ih]
      have hA := stepA_rows keep br i (runS keep br tbl i)
      cases e with
      | put k x => show (stepA keep br i (runS keep br tbl i)).rows ++ _ = _; rw [hA]; rfl
      | drop k => show (stepA keep br i (runS keep br tbl i)).rows ++ _ = _; rw [hA]; rfl
      | wait => show (stepA keep br i (runS keep br tbl i)).rows = _; rw [hA]; exact (List.append_nil _).symm
      | join p => show (stepA keep br i (runS keep br tbl i)).rows = _; rw [hA]; exact (List.append_nil _).symm
      | load p j => show (stepA keep br i (runS keep br tbl i)).rows = _; rw [hA]; exact (List.append_nil _).symm
      | save p => show (stepA keep br i (runS keep br tbl i)).rows = _; rw [hA]; exact (List.append_nil _).symm
      | read p u => show (stepA keep br i (runS keep br tbl i)).rows = _; rw [hA]; exact (List.append_nil _).symm
theorem rows_pre (keep : Int) (br : List (Nat × Nat)) (tbl : List Ev) (i : Nat) : (runS keep br tbl i).rows <+: allR tbl := by
  rw [runS_rowsF]
  refine ⟨(tbl.drop i).filterMap evRow, ?_⟩
  rw [← List.filterMap_append, List.take_append_drop]; rfl
theorem rows_len (keep : Int) (br : List (Nat × Nat)) (tbl : List Ev) (i : Nat) : (runS keep br tbl i).rows.length = manyE tbl i := by
  rw [(runS_goes keep br tbl i).rows, ← many_mv]
theorem pre_at {α : Type} {a F : List α} (h : a <+: F) {k : Nat} (hk : k < a.length) : F[k]? = a[k]? := by
  obtain ⟨r, rfl⟩ := h
  rw [List.getElem?_append_left hk]
structure LI (F : Fr) (keep : Int) (D : Nat × Nat → Prop) (t : Nat) (w : LW) : Prop where
  pre : w.rows <+: F
  bd : ∀ b, D b → b.1 ≤ t ∧ b.2 ≤ w.rows.length
  s1 : ∀ k s, w.since k = some s → (∃ b, D b ∧ b.1 = s ∧ k < b.2) ∧ ∀ b, D b → k < b.2 → s ≤ b.1
  s0 : ∀ k, w.since k = none → ∀ b, D b → b.2 ≤ k
  gone : ∀ k, w.gone k = true ↔ Gn F keep D t k
theorem LI.next {F : Fr} {keep : Int} {D : Nat × Nat → Prop} {t : Nat} {w w' : LW} (I : LI F keep D t w) (hg : w'.gone = w.gone) (hs : w'.since = w.since) (hp : w'.rows <+: F) (hl : w.rows.length ≤ w'.rows.length) : LI F keep D t w' where
  pre := hp
  bd := fun b hb => ⟨(I.bd b hb).1, Nat.le_trans (I.bd b hb).2 hl⟩
  s1 := by rw [hs]; exact I.s1
  s0 := by rw [hs]; exact I.s0
  gone := by rw [hg]; exact I.gone
theorem lvB_iff (w : LW) (keep : Int) (t k : Nat) : lvB w keep t k = true ↔ (∃ x, w.rows[k]? = some (x, none)) ∧ ∃ s, w.since k = some s ∧ (s : Int) + keep ≤ t := by
  unfold lvB
  rw [Bool.and_eq_true]
  refine and_congr ?_ ?_
  · cases h : w.rows[k]? with
    | none => exact ⟨fun z => (by cases z), fun ⟨x, z⟩ => (by cases z)⟩
    | some r =>
      obtain ⟨x, o⟩ := r
      cases o with
      | none => exact ⟨fun _ => ⟨x, rfl⟩, fun _ => rfl⟩
      | some v => exact ⟨fun z => (by cases z), fun ⟨y, z⟩ => (by cases z)⟩
  · cases h : w.since k with
    | none => exact ⟨fun z => (by cases z), fun ⟨x, z, _⟩ => (by cases z)⟩
    | some s =>
      show decide ((s : Int) + keep ≤ t) = true ↔ _
      rw [decide_eq_true_eq]
      exact ⟨fun z => ⟨s, rfl, z⟩, fun ⟨x, z, y⟩ => (by cases z; exact y)⟩
theorem Gn.up {F : Fr} {keep : Int} {D D' : Nat × Nat → Prop} {t t' k : Nat} (h : Gn F keep D t k) (hD : ∀ b, D b → D' b) (ht : t ≤ t') : Gn F keep D' t' k := by
  rcases h with ⟨hm, b, hb, h1, h2⟩ | ⟨q, h1, h2, b, hb, h3⟩
  · exact .inl ⟨hm, b, hD b hb, h1, by omega⟩
  · exact .inr ⟨q, h1, h2, b, hD b hb, h3⟩
theorem LI.leave {F : Fr} {keep : Int} {D : Nat × Nat → Prop} {t t' : Nat} {w : LW} (I : LI F keep D t w) (ht : t ≤ t') : LI F keep D t' (leaveP keep t' w) where
  pre := I.pre
  bd := fun b hb => ⟨Nat.le_trans (I.bd b hb).1 ht, (I.bd b hb).2⟩
  s1 := I.s1
  s0 := I.s0
  gone := fun k => by
    show (w.gone k || lvB w keep t' k) = true ↔ _
    rw [Bool.or_eq_true, lvB_iff]
    constructor
    · rintro (h | ⟨⟨x, hx⟩, s, hs, hst⟩)
      · exact ((I.gone k).mp h).up (fun _ h => h) ht
      · obtain ⟨b, hb, rfl, hkb⟩ := (I.s1 k s hs).1
        refine .inl ⟨⟨x, ?_⟩, b, hb, hkb, hst⟩
        rw [pre_at I.pre (List.getElem?_eq_some_iff.mp hx).1]; exact hx
    · rintro (⟨⟨x, hx⟩, b, hb, h1, h2⟩ | h)
      · refine .inr ⟨⟨x, ?_⟩, ?_⟩
        · rw [← pre_at I.pre (Nat.lt_of_lt_of_le h1 (I.bd b hb).2)]; exact hx
        · cases hs : w.since k with
          | none => exact absurd (I.s0 k hs b hb) (by omega)
          | some s =>
            have := (I.s1 k s hs).2 b hb h1
            exact ⟨s, rfl, by omega⟩
      · exact .inl ((I.gone k).mpr (.inr h))
theorem ks_at {F : Fr} {w : LW} (hp : w.rows <+: F) {e k : Nat} (hk : k < e) (he : e ≤ w.rows.length) : (ksOf w e)[k]? = some (kfF F k) := by
  unfold ksOf kfF
  have hkl : k < w.rows.length := by omega
  rw [List.getElem?_map, List.getElem?_take_of_lt hk, pre_at hp hkl, List.getElem?_eq_getElem hkl]; rfl
theorem ks_len {w : LW} {e : Nat} (he : e ≤ w.rows.length) : (ksOf w e).length = e := by
  unfold ksOf
  rw [List.length_map, List.length_take]; omega
theorem rpB_iff {F : Fr} {w : LW} (hp : w.rows <+: F) {e k : Nat} (hk : k < e) (he : e ≤ w.rows.length) : rpB (ksOf w e) k = true ↔ ∃ q, k < q ∧ q < e ∧ kfF F q = kfF F k := by
  unfold rpB
  rw [ks_at hp hk he]
  show decide (kfF F k ∈ (ksOf w e).drop (k + 1)) = true ↔ _
  rw [decide_eq_true_eq, List.mem_iff_getElem?]
  have hl := ks_len he
  constructor
  · rintro ⟨j, hj⟩
    rw [List.getElem?_drop] at hj
    have hlt := (List.getElem?_eq_some_iff.mp hj).1
    rw [hl] at hlt
    rw [ks_at hp hlt he] at hj
    exact ⟨k + 1 + j, by omega, hlt, Option.some.inj hj⟩
  · rintro ⟨q, h1, h2, h3⟩
    refine ⟨q - (k + 1), ?_⟩
    rw [List.getElem?_drop, show k + 1 + (q - (k + 1)) = q by omega, ks_at hp h2 he, h3]
theorem LI.swept {F : Fr} {keep : Int} {D : Nat × Nat → Prop} {t e : Nat} {w : LW} (I : LI F keep D t w) (he : e ≤ w.rows.length) : LI F keep (fun b => D b ∨ b = (t, e)) t (sweptP keep t e w) := by
  have hs' : ∀ k, (sweptP keep t e w).since k = (match w.since k with | some s => some s | none => if k < e then some t else none) := fun _ => rfl
  refine ⟨I.pre, ?_, ?_, ?_, ?_⟩
  · rintro b (hb | rfl)
    · exact I.bd b hb
    · exact ⟨Nat.le_refl _, he⟩
  · intro k s hs
    rw [hs'] at hs
    cases h : w.since k with
    | some s2 =>
      rw [h] at hs
      cases hs
      obtain ⟨⟨b, hb, h1, h2⟩, h3⟩ := I.s1 k s h
      refine ⟨⟨b, .inl hb, h1, h2⟩, ?_⟩
      rintro b' (hb' | rfl) h4
      · exact h3 b' hb' h4
      · rw [← h1]; exact (I.bd b hb).1
    | none =>
      rw [h] at hs
      by_cases hk : k < e
      · have hs : (if k < e then some t else none) = some s := hs
        rw [if_pos hk] at hs
        cases hs
        refine ⟨⟨(t, e), .inr rfl, rfl, hk⟩, ?_⟩
        rintro b' (hb' | rfl) h4
        · exact absurd (I.s0 k h b' hb') (by omega)
        · exact Nat.le_refl _
      · have hs : (if k < e then some t else none) = some s := hs
        rw [if_neg hk] at hs
        cases hs
  · intro k hs
    rw [hs'] at hs
    cases h : w.since k with
    | some s2 => rw [h] at hs; cases hs
    | none =>
      rw [h] at hs
      have hs : (if k < e then some t else none) = none := hs
      have hk : ¬ k < e := fun hk => by rw [if_pos hk] at hs; cases hs
      rintro b' (hb' | rfl)
      · exact I.s0 k h b' hb'
      · show e ≤ k
        omega
  · intro k
    show ((w.gone k || (decide (k < e) && rpB (ksOf w e) k)) || lvB (sweepI (ksOf w e) t w e) keep t k) = true ↔ _
    rw [Bool.or_eq_true, Bool.or_eq_true, Bool.and_eq_true, decide_eq_true_eq, lvB_iff]
    have hs2 : (sweepI (ksOf w e) t w e).since k = (match w.since k with | some s => some s | none => if k < e then some t else none) := rfl
    constructor
    · rintro ((h | ⟨hk, h⟩) | ⟨⟨x, hx⟩, s, hs, hst⟩)
      · exact ((I.gone k).mp h).up (fun _ h => .inl h) (Nat.le_refl _)
      · obtain ⟨q, h1, h2, h3⟩ := (rpB_iff I.pre hk he).mp h
        exact .inr ⟨q, h1, h3, (t, e), .inr rfl, h2⟩
      · have hx : w.rows[k]? = some (x, none) := hx
        have hm : markF F k := ⟨x, by rw [pre_at I.pre (List.getElem?_eq_some_iff.mp hx).1]; exact hx⟩
        rw [hs2] at hs
        cases h : w.since k with
        | some s2 =>
          rw [h] at hs
          cases hs
          obtain ⟨⟨b, hb, h1, h2⟩, _⟩ := I.s1 k s h
          exact .inl ⟨hm, b, .inl hb, h2, by rw [h1]; exact hst⟩
        | none =>
          rw [h] at hs
          have hs : (if k < e then some t else none) = some s := hs
          by_cases hk : k < e
          · rw [if_pos hk] at hs
            cases hs
            exact .inl ⟨hm, (t, e), .inr rfl, hk, hst⟩
          · rw [if_neg hk] at hs; cases hs
    · rintro (⟨⟨x, hx⟩, b, hb, h1, h2⟩ | ⟨q, h1, h2, b, hb, h3⟩)
      · refine .inr ⟨⟨x, ?_⟩, ?_⟩
        · show w.rows[k]? = some (x, none)
          rw [← pre_at I.pre ?_]
          · exact hx
          · rcases hb with hb | rfl
            · exact Nat.lt_of_lt_of_le h1 (I.bd b hb).2
            · exact Nat.lt_of_lt_of_le h1 he
        · rw [hs2]
          cases h : w.since k with
          | some s =>
            refine ⟨s, rfl, ?_⟩
            obtain ⟨⟨b2, hb2, h3, h4⟩, h5⟩ := I.s1 k s h
            have hsb : s ≤ b.1 := by
              rcases hb with hb | rfl
              · exact h5 b hb h1
              · rw [← h3]; exact (I.bd b2 hb2).1
            omega
          | none =>
            rcases hb with hb | rfl
            · exact absurd (I.s0 k h b hb) (by omega)
            · exact ⟨t, by show (if k < e then some t else none) = _; rw [if_pos h1], h2⟩
      · rcases hb with hb | rfl
        · exact .inl (.inl ((I.gone k).mpr (.inr ⟨q, h1, h2, b, hb, h3⟩)))
        · have h3 : q < e := h3
          exact .inl (.inr ⟨by omega, (rpB_iff I.pre (by omega) he).mpr ⟨q, h1, h3, h2⟩⟩)
theorem LI.same {F : Fr} {keep : Int} {D D' : Nat × Nat → Prop} {t : Nat} {w : LW} (I : LI F keep D t w) (h : ∀ b, D b ↔ D' b) : LI F keep D' t w := by
  have : D = D' := funext fun b => propext (h b)
  rw [← this]; exact I
theorem LI.fold {F : Fr} {keep : Int} {t : Nat} : ∀ (l : List (Nat × Nat)) (D : Nat × Nat → Prop) (w : LW), LI F keep D t w → (∀ b ∈ l, b.1 = t → b.2 ≤ w.rows.length) → LI F keep (fun b => D b ∨ (b ∈ l ∧ b.1 = t)) t (l.foldl (swF keep t) w)
  | [], D, w, I, _ => I.same fun b => ⟨.inl, fun h => h.elim id fun h => by cases h.1⟩
  | a :: l, D, w, I, hb => by
    rw [List.foldl_cons]
    by_cases h : a.1 = t
    · have e : swF keep t w a = sweptP keep t a.2 w := by unfold swF; rw [if_pos h]
      rw [e]
      refine (LI.fold l _ _ (I.swept (hb a List.mem_cons_self h)) fun b hbl hbt => hb b (List.mem_cons_of_mem _ hbl) hbt).same fun b => ?_
      constructor
      · rintro ((h1 | rfl) | ⟨h1, h2⟩)
        · exact .inl h1
        · exact .inr ⟨by rw [← h]; exact List.mem_cons_self, rfl⟩
        · exact .inr ⟨List.mem_cons_of_mem _ h1, h2⟩
      · rintro (h1 | ⟨h1, h2⟩)
        · exact .inl (.inl h1)
        · rcases List.mem_cons.mp h1 with rfl | h1
          · exact .inl (.inr (by rw [← h]))
          · exact .inr ⟨h1, h2⟩
    · have e : swF keep t w a = w := by unfold swF; rw [if_neg h]
      rw [e]
      refine (LI.fold l D w I fun b hbl hbt => hb b (List.mem_cons_of_mem _ hbl) hbt).same fun b => ?_
      constructor
      · rintro (h1 | ⟨h1, h2⟩)
        · exact .inl h1
        · exact .inr ⟨List.mem_cons_of_mem _ h1, h2⟩
      · rintro (h1 | ⟨h1, h2⟩)
        · exact .inl h1
        · rcases List.mem_cons.mp h1 with rfl | h1
          · exact absurd h2 h
          · exact .inr ⟨h1, h2⟩
theorem LI.stepA {keep : Int} {br : List (Nat × Nat)} {tbl : List Ev} (hb : BroomOk tbl br) {t t' : Nat} (ht : t' ≤ t) (I : LI (allR tbl) keep (fun b => b ∈ br ∧ b.1 < t) t' (runS keep br tbl t)) : LI (allR tbl) keep (fun b => b ∈ br ∧ b.1 ≤ t) t (stepA keep br t (runS keep br tbl t)) := by
  unfold Mm.stepA
  refine (LI.fold br _ _ (I.leave ht) fun b hbm hbt => ?_).same fun b => ?_
  · show b.2 ≤ (runS keep br tbl t).rows.length
    rw [rows_len, ← hbt]
    exact (hb.le b hbm).2
  · constructor
    · rintro (⟨h1, h2⟩ | ⟨h1, h2⟩)
      · exact ⟨h1, by omega⟩
      · exact ⟨h1, by omega⟩
    · rintro ⟨h1, h2⟩
      by_cases h : b.1 = t
      · exact .inr ⟨h1, h⟩
      · exact .inl ⟨h1, by omega⟩
theorem runS_LI {keep : Int} {br : List (Nat × Nat)} {tbl : List Ev} (hb : BroomOk tbl br) : ∀ i, ∃ t', t' ≤ i ∧ LI (allR tbl) keep (fun b => b ∈ br ∧ b.1 < i) t' (runS keep br tbl i)
  | 0 => by
    refine ⟨0, Nat.le_refl 0, ⟨rows_pre keep br tbl 0, fun b h => absurd h.2 (Nat.not_lt_zero _), fun k s h => (by cases h), fun k _ b h => absurd h.2 (Nat.not_lt_zero _), fun k => ⟨fun h => (by cases h), ?_⟩⟩⟩
    rintro (⟨_, b, h, _⟩ | ⟨q, _, _, b, h, _⟩)
    · exact absurd h.2 (Nat.not_lt_zero _)
    · exact absurd h.2 (Nat.not_lt_zero _)
  | i + 1 => by
    obtain ⟨t', ht, I⟩ := runS_LI (keep := keep) hb i
    have I2 := I.stepA hb ht
    refine ⟨i, Nat.le_succ i, ?_⟩
    have I3 : LI (allR tbl) keep (fun b => b ∈ br ∧ b.1 < i + 1) i (Mm.stepA keep br i (runS keep br tbl i)) := I2.same fun b => ⟨fun h => ⟨h.1, by omega⟩, fun h => ⟨h.1, by omega⟩⟩
    have hle : (Mm.stepA keep br i (runS keep br tbl i)).rows.length ≤ (runS keep br tbl (i + 1)).rows.length := by
      rw [stepA_rows, rows_len, rows_len]
      exact manyE_succ tbl i
    cases h : tbl[i]? with
    | none => rw [runS_none h]; exact I3
    | some e =>
      refine I3.next ?_ ?_ (rows_pre keep br tbl (i + 1)) hle
      · rw [runS_some h]; cases e <;> rfl
      · rw [runS_some h]; cases e <;> rfl
/-- the log at the time t, when it is read -/
theorem wA_LI {keep : Int} {br : List (Nat × Nat)} {tbl : List Ev} (hb : BroomOk tbl br) (t : Nat) : LI (allR tbl) keep (fun b => b ∈ br ∧ b.1 ≤ t) t (wA keep br tbl t) := by
  obtain ⟨t', ht, I⟩ := runS_LI (keep := keep) hb t
  exact I.stepA hb ht
end Mm
end
section
set_option maxHeartbeats 400000
/-! Ma7: what a chain of reads has. -/
namespace Mm
open PySem PySem.Spec PyProof.Rows L2 Dl
theorem tms_snoc (V : List Rr) (r : Rr) : tms (V ++ [r]) = tms V ++ List.replicate (r.2.1 - (tms V).length) r.1 := by
  unfold tms
  rw [List.foldl_append]; rfl
theorem rows_snoc (V : List Rr) (r : Rr) : rowsOf (V ++ [r]) = rowsOf V ++ r.2.2 := by
  unfold rowsOf
  rw [List.flatMap_append]; simp
theorem mem_heardL {w : LW} {s u : Nat} {r : Rw} : r ∈ heardL w s u ↔ ∃ k, s ≤ k ∧ k < u ∧ w.gone k = false ∧ r = rwAt w k := by
  unfold heardL heardI
  simp only [List.mem_map, List.mem_filter, List.mem_range, Bool.not_eq_true']
  constructor
  · rintro ⟨k, ⟨⟨j, hj, rfl⟩, hg⟩, rfl⟩
    exact ⟨s + j, by omega, by omega, hg, rfl⟩
  · rintro ⟨k, h1, h2, hg, rfl⟩
    exact ⟨k, ⟨⟨k - s, by omega, by omega⟩, hg⟩, rfl⟩
theorem heardL_rise (w : LW) (s u : Nat) : (heardL w s u).Pairwise fun a b => a.1 < b.1 := by
  unfold heardL heardI
  rw [List.pairwise_map]
  refine List.Pairwise.filter _ ?_
  rw [List.pairwise_map]
  exact List.pairwise_lt_range.imp fun {a b} h => by show s + a < s + b; omega
section
variable {keep : Int} {br : List (Nat × Nat)} {tbl : List Ev}
/-- what a chain of reads has -/
structure SeenF (keep : Int) (br : List (Nat × Nat)) (tbl : List Ev) (V : List Rr) : Prop where
  len : (tms V).length = farOf V
  rise : (rowsOf V).Pairwise fun a b => a.1 < b.1
  below : ∀ r ∈ rowsOf V, r.1 < farOf V
  times : V.Pairwise fun a b => a.1 < b.1
  tmr : ∀ p, p < farOf V → ∃ r ∈ V, tm V p = r.1 ∧ p < r.2.1
  tmm : (tms V).Pairwise (· ≤ ·)
  row : ∀ r ∈ rowsOf V, (wA keep br tbl (tm V r.1)).gone r.1 = false ∧ r = rwAt (wA keep br tbl (tm V r.1)) r.1
  gap : ∀ p, p < farOf V → p ∉ places V → (wA keep br tbl (tm V p)).gone p = true
  few : (rowsOf V).length ≤ farOf V
  vlen : V.length ≤ farOf V
  rlen : ∀ r ∈ V, r.2.2.length ≤ r.2.1
  upto : ∀ r ∈ V, r.2.1 ≤ manyE tbl r.1 ∧ r.1 < tbl.length ∧ Still tbl r.1
  umax : ∀ r ∈ V, r.2.1 ≤ farOf V
theorem tm_app {V : List Rr} {r : Rr} {p : Nat} (h : p < (tms V).length) : tm (V ++ [r]) p = tm V p := by
  unfold tm
  rw [tms_snoc, List.getElem?_append_left h]
theorem tm_new {V : List Rr} {r : Rr} {p : Nat} (h : (tms V).length ≤ p) (h2 : p < r.2.1) : tm (V ++ [r]) p = r.1 := by
  unfold tm
  rw [tms_snoc, List.getElem?_append_right h, List.getElem?_replicate, if_pos (by omega)]; rfl
theorem seen_facts {V : List Rr} (h : Seen keep br tbl V) : SeenF keep br tbl V := by
  induction h with
  | nil => exact ⟨rfl, .nil, fun r hr => (by cases hr), .nil, fun p hp => absurd hp (Nat.not_lt_zero _), .nil, fun r hr => (by cases hr), fun p hp => absurd hp (Nat.not_lt_zero _), Nat.le_refl _, Nat.le_refl _, fun r hr => (by cases hr), fun r hr => (by cases hr), fun r hr => (by cases hr)⟩
  | snoc V t u h h1 h2 h3 h4 h5 ih =>
    have hfar : farOf (V ++ [(t, u, heardL (wA keep br tbl t) (farOf V) u)]) = u := farOf_snoc _ _
    have hl : (heardL (wA keep br tbl t) (farOf V) u).length ≤ u - farOf V := heardI_len _ _ _
    have hsplit : ∀ p, p < u → p < (tms V).length ∨ (tms V).length ≤ p := fun p _ => Nat.lt_or_ge _ _
    refine ⟨?_, ?_, ?_, ?_, ?_, ?_, ?_, ?_, ?_, ?_, ?_, ?_, ?_⟩
    · rw [tms_snoc, List.length_append, List.length_replicate, hfar, ih.len]
      show farOf V + (u - farOf V) = u
      omega
    · rw [rows_snoc, List.pairwise_append]
      refine ⟨ih.rise, heardL_rise _ _ _, fun a ha b hb => ?_⟩
      obtain ⟨k, hk, _, _, rfl⟩ := mem_heardL.mp hb
      have := ih.below a ha
      show a.1 < k
      omega
    · intro r hr
      rw [hfar]
      rw [rows_snoc, List.mem_append] at hr
      rcases hr with hr | hr
      · have := ih.below r hr
        omega
      · obtain ⟨k, _, hk, _, rfl⟩ := mem_heardL.mp hr
        exact hk
    · rw [List.pairwise_append]
      refine ⟨ih.times, List.pairwise_singleton _ _, fun a ha b hb => ?_⟩
      rw [List.mem_singleton] at hb
      subst hb
      exact h1 a ha
    · intro p hp
      rw [hfar] at hp
      rcases hsplit p hp with z | z
      · rw [tm_app z]
        rw [ih.len] at z
        obtain ⟨r, hr, e⟩ := ih.tmr p z
        exact ⟨r, List.mem_append_left _ hr, e⟩
      · rw [tm_new z hp]
        exact ⟨_, List.mem_append_right _ (List.mem_singleton_self _), rfl, hp⟩
    · rw [tms_snoc, List.pairwise_append]
      refine ⟨ih.tmm, List.pairwise_replicate.mpr (.inr (Nat.le_refl _)), fun a ha b hb => ?_⟩
      have hb : b = t := List.eq_of_mem_replicate hb
      obtain ⟨p, hp, e⟩ := List.getElem_of_mem ha
      obtain ⟨r, hr, e2, _⟩ := ih.tmr p (by rw [← ih.len]; exact hp)
      have e3 : tm V p = a := by
        unfold tm
        rw [List.getElem?_eq_getElem hp, e]; rfl
      have := h1 r hr
      omega
    · intro r hr
      rw [rows_snoc, List.mem_append] at hr
      rcases hr with hr | hr
      · rw [tm_app (by rw [ih.len]; exact ih.below r hr)]
        exact ih.row r hr
      · obtain ⟨k, hk, hku, hg, rfl⟩ := mem_heardL.mp hr
        have e : tm (V ++ [(t, u, heardL (wA keep br tbl t) (farOf V) u)]) k = t := tm_new (by rw [ih.len]; exact hk) hku
        show (wA keep br tbl (tm _ k)).gone k = false ∧ rwAt _ k = rwAt (wA keep br tbl (tm _ k)) k
        rw [e]
        exact ⟨hg, rfl⟩
    · intro p hp hn
      rw [hfar] at hp
      rw [places_snoc, List.mem_append] at hn
      rcases hsplit p hp with z | z
      · rw [tm_app z]
        rw [ih.len] at z
        exact ih.gap p z fun y => hn (.inl y)
      · rw [tm_new z hp]
        cases hg : (wA keep br tbl t).gone p with
        | true => rfl
        | false =>
          rw [ih.len] at z
          exact absurd (.inr (List.mem_map.mpr ⟨rwAt (wA keep br tbl t) p, mem_heardL.mpr ⟨p, z, hp, hg, rfl⟩, rfl⟩)) hn
    · rw [rows_snoc, List.length_append, hfar]
      have := ih.few
      show (rowsOf V).length + (heardL (wA keep br tbl t) (farOf V) u).length ≤ u
      omega
    · rw [List.length_append, hfar]
      have := ih.vlen
      show V.length + 1 ≤ u
      omega
    · intro r hr
      rcases List.mem_append.mp hr with hr | hr
      · exact ih.rlen r hr
      · rw [List.mem_singleton] at hr
        subst hr
        show (heardL _ _ u).length ≤ u
        omega
    · intro r hr
      rcases List.mem_append.mp hr with hr | hr
      · exact ih.upto r hr
      · rw [List.mem_singleton] at hr
        subst hr
        exact ⟨h3, h4, h5⟩
    · intro r hr
      rw [hfar]
      rcases List.mem_append.mp hr with hr | hr
      · have := ih.umax r hr
        omega
      · rw [List.mem_singleton] at hr
        subst hr
        exact Nat.le_refl _
theorem seen_take {V : List Rr} (h : Seen keep br tbl V) (n : Nat) : Seen keep br tbl (V.take n) ∧ farOf (V.take n) ≤ farOf V ∧ ∀ r ∈ rowsOf V, r.1 < farOf (V.take n) → r ∈ rowsOf (V.take n) := by
  induction h with
  | nil => exact ⟨by rw [List.take_nil]; exact .nil, by rw [List.take_nil]; exact Nat.le_refl _, fun r hr => (by cases hr)⟩
  | snoc V t u h h1 h2 h3 h4 h5 ih =>
    obtain ⟨i1, i2, i3⟩ := ih
    by_cases hn : n ≤ V.length
    · rw [List.take_append_of_le_length hn]
      refine ⟨i1, by rw [farOf_snoc]; show _ ≤ u; omega, fun r hr hl => ?_⟩
      rw [rows_snoc, List.mem_append] at hr
      rcases hr with hr | hr
      · exact i3 r hr hl
      · obtain ⟨k, hk, _, _, rfl⟩ := mem_heardL.mp hr
        have hl : k < farOf (V.take n) := hl
        omega
    · rw [List.take_of_length_le (by rw [List.length_append, List.length_singleton]; omega)]
      exact ⟨.snoc V t u h h1 h2 h3 h4 h5, Nat.le_refl _, fun r hr _ => hr⟩
end
/-! ### how many there can be -/
theorem cnt_step {V : List Rr} (hp : V.Pairwise fun a b => a.1 < b.1) (t : Nat) : (V.filter fun r => decide ((r.1 : Int) < ((t + 1 : Nat) : Int))).length ≤ (V.filter fun r => decide ((r.1 : Int) < (t : Int))).length + 1 ∧ ((∀ r ∈ V, r.1 ≠ t) → (V.filter fun r => decide ((r.1 : Int) < ((t + 1 : Nat) : Int))).length = (V.filter fun r => decide ((r.1 : Int) < (t : Int))).length) := by
  induction V with
  | nil => exact ⟨Nat.zero_le _, fun _ => rfl⟩
  | cons a V ih =>
    obtain ⟨h1, h2⟩ := List.pairwise_cons.mp hp
    obtain ⟨i1, i2⟩ := ih h2
    rw [List.filter_cons, List.filter_cons]
    by_cases h : a.1 = t
    · have e1 : decide ((a.1 : Int) < ((t + 1 : Nat) : Int)) = true := decide_eq_true (by omega)
      have e2 : decide ((a.1 : Int) < (t : Int)) = false := decide_eq_false (by omega)
      rw [if_pos e1, if_neg (by rw [e2]; exact Bool.false_ne_true)]
      have := i2 fun r hr => by have := h1 r hr; omega
      rw [List.length_cons]
      exact ⟨by omega, fun z => absurd h (z a List.mem_cons_self)⟩
    · have e : decide ((a.1 : Int) < ((t + 1 : Nat) : Int)) = decide ((a.1 : Int) < (t : Int)) := decide_eq_decide.mpr (by omega)
      rw [e]
      by_cases h3 : decide ((a.1 : Int) < (t : Int)) = true
      · rw [if_pos h3, if_pos h3, List.length_cons, List.length_cons]
        exact ⟨by omega, fun z => by rw [i2 fun r hr => z r (List.mem_cons_of_mem _ hr)]⟩
      · rw [if_neg h3, if_neg h3]
        exact ⟨i1, fun z => i2 fun r hr => z r (List.mem_cons_of_mem _ hr)⟩
theorem head_le {V : List Rr} (hp : V.Pairwise fun a b => a.1 < b.1) {r : Rr} (hr : r ∈ V) : (V.map fun x => (x.1 : Int)).headD 0 ≤ (r.1 : Int) := by
  cases V with
  | nil => cases hr
  | cons a V =>
    show (a.1 : Int) ≤ (r.1 : Int)
    rcases List.mem_cons.mp hr with rfl | hr
    · exact Int.le_refl _
    · have := (List.pairwise_cons.mp hp).1 r hr
      omega
theorem head_mem {V : List Rr} (hne : V ≠ []) : ∃ r ∈ V, (V.map fun x => (x.1 : Int)).headD 0 = (r.1 : Int) := by
  cases V with
  | nil => exact absurd rfl hne
  | cons a V => exact ⟨a, List.mem_cons_self, rfl⟩
theorem manyAt_step {V : List Rr} (hp : V.Pairwise fun a b => a.1 < b.1) (t : Nat) : manyAt V (t : Int) ≤ manyAt V ((t + 1 : Nat) : Int) := by
  obtain ⟨h1, h2⟩ := cnt_step hp t
  unfold manyAt
  by_cases h : ∀ r ∈ V, r.1 ≠ t
  · rw [h2 h]
    have : b2i (decide (((V.map fun x => (x.1 : Int)).headD 0) ≤ ((t + 1 : Nat) : Int))) ≤ b2i (decide (((V.map fun x => (x.1 : Int)).headD 0) ≤ (t : Int))) + 1 := by
      unfold b2i
      split <;> split <;> omega
    omega
  · have ⟨r, hr, hrt⟩ : ∃ r ∈ V, r.1 = t := by
      refine Classical.byContradiction fun z => h fun r hr e => z ⟨r, hr, e⟩
    have h3 := head_le hp hr
    have e1 : decide (((V.map fun x => (x.1 : Int)).headD 0) ≤ ((t + 1 : Nat) : Int)) = true := decide_eq_true (by omega)
    have e2 : decide (((V.map fun x => (x.1 : Int)).headD 0) ≤ (t : Int)) = true := decide_eq_true (by omega)
    rw [e1, e2]
    omega
theorem manyAt_mono {V : List Rr} (hp : V.Pairwise fun a b => a.1 < b.1) (t t' : Int) (h0 : 0 ≤ t) (h : t ≤ t') : manyAt V t ≤ manyAt V t' := by
  obtain ⟨n, rfl⟩ : ∃ n : Nat, t = n := ⟨t.toNat, by omega⟩
  obtain ⟨d, rfl⟩ : ∃ d : Nat, t' = ((n + d : Nat) : Int) := ⟨(t' - n).toNat, by omega⟩
  clear h h0
  induction d with
  | zero => exact Int.le_refl _
  | succ d ih => exact Int.le_trans ih (manyAt_step hp (n + d))
theorem seen_nice {keep : Int} {br : List (Nat × Nat)} {tbl : List Ev} {V : List Rr} (F : SeenF keep br tbl V) : NiceV V where
  many := manyAt_mono F.times
  tm := fun p q hpq hq => by
    unfold tm
    rw [List.getElem?_eq_getElem hq, List.getElem?_eq_getElem (by omega)]
    show (tms V)[p] ≤ (tms V)[q]
    by_cases h : p = q
    · subst h; exact Nat.le_refl _
    · exact List.pairwise_iff_getElem.mp F.tmm p q (by omega) hq (by omega)
/-- somebody had come before the first read -/
def Began (tbl : List Ev) (V : List Rr) : Prop := ∃ j, Still tbl j ∧ ∀ r ∈ V, j < r.1
theorem many_fits {keep : Int} {br : List (Nat × Nat)} {tbl : List Ev} {V : List Rr} (F : SeenF keep br tbl V) (B : Began tbl V) (hne : V ≠ []) (t : Nat) : (manyE tbl t : Int) ≤ manyAt V (t : Int) := by
  obtain ⟨j, hj, hjr⟩ := B
  have key : ∀ t : Nat, (manyE tbl t : Int) + (V.filter fun r => decide ((r.1 : Int) < (t : Int))).length + b2i (decide (j < t)) ≤ t := by
    intro t
    induction t with
    | zero =>
      have e1 : (V.filter fun r => decide ((r.1 : Int) < ((0 : Nat) : Int))) = [] := by
        rw [List.filter_eq_nil_iff]
        intro r _ z
        have := of_decide_eq_true z
        omega
      rw [e1]
      show ((manyE tbl 0 : Nat) : Int) + (0 : Int) + b2i (decide (j < 0)) ≤ 0
      rw [show manyE tbl 0 = 0 from rfl, decide_eq_false (Nat.not_lt_zero j)]
      decide
    | succ t ih =>
      obtain ⟨h1, h2⟩ := cnt_step F.times t
      have hms : manyE tbl (t + 1) = manyE tbl t + (match tbl[t]? with | some e => if isPD e = true then 1 else 0 | none => 0) := by
        unfold manyE
        rw [List.take_succ, List.filter_append, List.length_append]
        cases tbl[t]? with
        | none => rfl
        | some e => cases h : isPD e <;> simp [h]
      have still0 : Still tbl t → manyE tbl (t + 1) = manyE tbl t := by
        rintro ⟨e, he, hp⟩
        rw [hms, he]
        simp [hp]
      have mle : manyE tbl (t + 1) ≤ manyE tbl t + 1 := by
        rw [hms]
        cases tbl[t]? with
        | none => simp
        | some e => cases h : isPD e <;> simp [h]
      by_cases hr : ∀ r ∈ V, r.1 ≠ t
      · rw [h2 hr]
        by_cases hjt : j = t
        · subst hjt
          rw [still0 hj]
          have e1 : decide (j < j + 1) = true := decide_eq_true (by omega)
          have e2 : decide (j < j) = false := decide_eq_false (by omega)
          rw [e1]
          rw [e2] at ih
          have b1 : b2i true = 1 := rfl
          have b0 : b2i false = 0 := rfl
          rw [b0] at ih
          rw [b1]
          omega
        · have e1 : decide (j < t + 1) = decide (j < t) := decide_eq_decide.mpr (by omega)
          rw [e1]
          omega
      · have ⟨r, hrm, hrt⟩ : ∃ r ∈ V, r.1 = t := by
          refine Classical.byContradiction fun z => hr fun r hr e => z ⟨r, hr, e⟩
        have hs := (F.upto r hrm).2.2
        rw [hrt] at hs
        have hjl := hjr r hrm
        rw [still0 hs]
        have e1 : decide (j < t + 1) = decide (j < t) := decide_eq_decide.mpr (by omega)
        rw [e1]
        omega
  have hk := key t
  obtain ⟨r, hr, e⟩ := head_mem hne
  have hjl := hjr r hr
  unfold manyAt
  have : b2i (decide (((V.map fun x => (x.1 : Int)).headD 0) ≤ (t : Int))) ≤ b2i (decide (j < t)) := by
    by_cases h : ((V.map fun x => (x.1 : Int)).headD 0) ≤ (t : Int)
    · have e1 : decide (j < t) = true := decide_eq_true (by omega)
      rw [e1, decide_eq_true h]
      exact Int.le_refl _
    · rw [decide_eq_false h]
      show (0 : Int) ≤ _
      unfold b2i
      split <;> omega
  omega
end Mm
end
section
set_option maxHeartbeats 400000
/-! Ma8: the plain law. -/
namespace Mm
open PySem PySem.Spec PyProof.Rows L2 Dl
structure LogV (keep : Int) (br : List (Nat × Nat)) (tbl : List Ev) (V : List Rr) : Prop where
  ht : TblOk tbl
  hb : BroomOk tbl br
  hl : tbl.length ≤ 14
  seen : Seen keep br tbl V
  began : Began tbl V
  hk : 0 ≤ keep
section
variable {keep : Int} {br : List (Nat × Nat)} {tbl : List Ev} {V : List Rr}
theorem LogV.facts (L : LogV keep br tbl V) : SeenF keep br tbl V := seen_facts L.seen
theorem LogV.take (L : LogV keep br tbl V) (n : Nat) : LogV keep br tbl (V.take n) := by
  obtain ⟨j, hj, h⟩ := L.began
  exact ⟨L.ht, L.hb, L.hl, (seen_take L.seen n).1, ⟨j, hj, fun r hr => h r (List.mem_of_mem_take hr)⟩, L.hk⟩
theorem LogV.at (L : LogV keep br tbl V) {p : Nat} (hp : p < farOf V) : ∃ x, (wA keep br tbl (tm V p)).rows[p]? = some x ∧ (allR tbl)[p]? = some x := by
  obtain ⟨r, hr, e, hpu⟩ := L.facts.tmr p hp
  obtain ⟨h1, h2, _⟩ := L.facts.upto r hr
  have hrows : (wA keep br tbl (tm V p)).rows = (runS keep br tbl (tm V p)).rows := stepA_rows _ _ _ _
  have hlen := rows_len keep br tbl (tm V p)
  rw [e] at hlen
  have hpl : p < (runS keep br tbl (tm V p)).rows.length := by rw [e]; omega
  refine ⟨(runS keep br tbl (tm V p)).rows[p], ?_, ?_⟩
  · rw [hrows, List.getElem?_eq_getElem hpl]
  · rw [pre_at (rows_pre keep br tbl (tm V p)) hpl, List.getElem?_eq_getElem hpl]
theorem LogV.row (L : LogV keep br tbl V) {r : Rw} (hr : r ∈ rowsOf V) : (allR tbl)[r.1]? = some r.2 := by
  obtain ⟨x, h1, h2⟩ := L.at (L.facts.below r hr)
  have h3 := (L.facts.row r hr).2
  have h4 : r.2 = x := by
    have e : r.2 = (rwAt (wA keep br tbl (tm V r.1)) r.1).2 := congrArg Prod.snd h3
    rw [e]
    show ((wA keep br tbl (tm V r.1)).rows[r.1]?).getD ("", none) = x
    rw [h1]; rfl
  rw [h2, h4]
theorem LogV.key (L : LogV keep br tbl V) {r : Rw} (hr : r ∈ rowsOf V) : kfF (allR tbl) r.1 = r.2.1 := by
  unfold kfF
  rw [L.row hr]; rfl
theorem all_keys (ht : TblOk tbl) {x : Str × Option Int} (hx : x ∈ allR tbl) : x.1 ∈ (["a", "b", "c"] : List Str) := by
  unfold allR at hx
  obtain ⟨e, he, hex⟩ := List.mem_filterMap.mp hx
  obtain ⟨i, hi⟩ := List.mem_iff_getElem?.mp he
  have h := ht.ev i e hi
  cases e with
  | put k v => cases hex; exact h
  | drop k => cases hex; exact h
  | _ => cases hex
theorem LogV.abc (L : LogV keep br tbl V) {r : Rw} (hr : r ∈ rowsOf V) : r.2.1 ∈ (["a", "b", "c"] : List Str) := all_keys L.ht (List.mem_of_getElem? (L.row hr))
theorem x_abc : ("x" : Str) ∉ (["a", "b", "c"] : List Str) := by decide +kernel
theorem LogV.far (L : LogV keep br tbl V) : farOf V ≤ 14 := by
  by_cases h : V = []
  · subst h; exact Nat.zero_le _
  · have e := List.dropLast_concat_getLast h
    have hm := List.getLast_mem h
    obtain ⟨h1, _, _⟩ := L.facts.upto _ hm
    have h2 : farOf V = (V.getLast h).2.1 := by
      unfold farOf
      rw [List.getLast?_eq_some_getLast h]; rfl
    have := manyE_le tbl (V.getLast h).1
    have := L.hl
    omega
theorem LogV.good (L : LogV keep br tbl V) : GoodV V where
  rise := L.facts.rise
  len := by have := L.facts.vlen; have := L.far; omega
  rows := fun r hr => by have := L.facts.rlen r hr; have := L.facts.umax r hr; have := L.far; omega
  upto := fun r hr => by have := L.facts.umax r hr; have := L.far; omega
  time := fun r hr => by have := (L.facts.upto r hr).2.1; have := L.hl; omega
theorem LogV.wit (L : LogV keep br tbl V) (hne : V ≠ []) : Wit V keep [] (kfF (allR tbl)) (fun t k => ∃ b ∈ br, (b.1 : Int) ≤ t ∧ k < b.2) where
  dn := by
    rintro t k k' ⟨b, hb, h1, h2⟩ h
    exact ⟨b, hb, h1, by omega⟩
  up := by
    rintro t t' k ⟨b, hb, h1, h2⟩ h
    exact ⟨b, hb, by omega, h2⟩
  many := by
    rintro t k ⟨b, hb, h1, h2⟩
    have h3 := (L.hb.le b hb).2
    have h4 := many_fits L.facts L.began hne b.1
    have h5 := manyAt_mono L.facts.times (b.1 : Int) t (by omega) h1
    exact ⟨by omega, by omega⟩
  key := fun r hr => L.key hr
  mst := fun z hz => by cases hz
  got := by
    rintro r hr q hq hk ⟨b, hb, h1, h2⟩
    have hg := (L.facts.row r hr).1
    have : (wA keep br tbl (tm V r.1)).gone r.1 = true := ((wA_LI L.hb _).gone r.1).mpr (.inr ⟨q, hq, by rw [hk, L.key hr], b, ⟨hb, by omega⟩, h2⟩)
    rw [hg] at this
    cases this
  mark := by
    rintro r hr hn ⟨b, hb, h1, h2⟩
    have hg := (L.facts.row r hr).1
    have hrow := L.row hr
    have : (wA keep br tbl (tm V r.1)).gone r.1 = true := ((wA_LI L.hb _).gone r.1).mpr (.inl ⟨⟨r.2.1, by rw [hrow, ← hn]⟩, b, ?_, h2, by omega⟩)
    · rw [hg] at this
      cases this
    · have := L.hk
      exact ⟨hb, by omega⟩
  gap := by
    intro g hg _
    unfold gapsOf at hg
    rw [List.mem_filter] at hg
    have hgl : g < farOf V := by rw [← L.facts.len]; exact List.mem_range.mp hg.1
    have := ((wA_LI L.hb _).gone g).mp (L.facts.gap g hgl (of_decide_eq_true hg.2))
    rcases this with ⟨_, b, hb, h1, h2⟩ | ⟨q, h1, h2, b, hb, h3⟩
    · exact .inl ⟨b, hb.1, by omega, h1⟩
    · exact .inr ⟨q, h1, h2, b, hb.1, by have := hb.2; omega, h3⟩
theorem LogV.nd (L : LogV keep br tbl V) : (places V).Nodup := by
  unfold places
  rw [List.Nodup, List.pairwise_map]
  exact L.facts.rise.imp fun {a b} h => by omega
theorem LogV.goodP (L : LogV keep br tbl V) {ms : Kn} (h : ms = [] ∨ ∃ g k, ms = [(g, k)] ∧ g ∈ gapsOf V ∧ k ≠ "x") : GoodP V ms := by
  have hlen : ms.length ≤ 1 := by
    rcases h with rfl | ⟨g, k, rfl, _⟩
    · exact Nat.zero_le _
    · exact Nat.le_refl _
  have hms : ∀ z ∈ ms, z.1 < (tms V).length ∧ z.1 ∉ places V ∧ z.2 ≠ "x" := fun z hz => by
    rcases h with rfl | ⟨g, k, rfl, hg, hk⟩
    · cases hz
    · rw [List.mem_singleton] at hz
      subst hz
      unfold gapsOf at hg
      rw [List.mem_filter] at hg
      exact ⟨List.mem_range.mp hg.1, of_decide_eq_true hg.2, hk⟩
  have hnm : (ms.map (·.1)).Nodup := by
    rcases h with rfl | ⟨g, k, rfl, _⟩
    · exact List.nodup_nil
    · exact List.nodup_cons.mpr ⟨List.not_mem_nil, List.nodup_nil⟩
  refine ⟨L.good, fun hne => ⟨⟨⟨L.good, fun r hr => ?_, hne, fun z hz => (hms z hz).1, ?_, by omega⟩, ?_, ?_⟩, fun z hz => (hms z hz).2.1, ?_⟩⟩
  · rw [L.facts.len]; exact L.facts.below r hr
  · unfold knOf
    rw [List.map_append, List.map_map, List.nodup_append]
    refine ⟨L.nd, hnm, fun a ha b hb e => ?_⟩
    obtain ⟨z, hz, rfl⟩ := List.mem_map.mp hb
    exact (hms z hz).2.1 (e ▸ ha)
  · unfold knOf
    rw [List.length_append, List.length_map]
    have := L.facts.few
    have := L.far
    omega
  · unfold knOf
    rw [List.map_append, List.map_map, List.mem_append]
    rintro (z | z)
    · obtain ⟨r, hr, e⟩ := List.mem_map.mp z
      have e : r.2.1 = "x" := e
      have := L.abc hr
      rw [e] at this
      exact x_abc this
    · obtain ⟨y, hy, e⟩ := List.mem_map.mp z
      exact (hms y hy).2.2 e
  · rw [L.facts.len]
    have := L.far
    omega
/-- the bounds that fits asks first hold -/
theorem LogV.fitsV (L : LogV keep br tbl V) (hne : V ≠ []) (ms : Kn) : fitsB V keep ms = fillV V keep ms := by
  cases V with
  | nil => exact absurd rfl hne
  | cons r V' =>
    show (if (decide (r.1 < 1) || ((r :: V').any fun x => decide (manyAt (r :: V') x.1 < x.2.1))) = true then false else fillV (r :: V') keep ms) = _
    rw [if_neg]
    rw [Bool.or_eq_true, decide_eq_true_eq, List.any_eq_true]
    rintro (h | ⟨x, hx, h⟩)
    · obtain ⟨j, _, hj⟩ := L.began
      have := hj r List.mem_cons_self
      omega
    · have h := of_decide_eq_true h
      have h1 := (L.facts.upto x hx).1
      have h2 := many_fits L.facts L.began hne x.1
      omega
theorem LogV.fits (L : LogV keep br tbl V) : fitsB V keep [] = true := by
  by_cases hne : V = []
  · subst hne; rfl
  · rw [L.fitsV hne]
    exact fillV_complete (L.wit hne)
theorem manyAt_app {A B : List Rr} (hA : A ≠ []) (t : Int) : manyAt (A ++ B) t ≤ manyAt A t := by
  cases A with
  | nil => exact absurd rfl hA
  | cons a A =>
    unfold manyAt
    rw [List.filter_append, List.length_append]
    show t - b2i (decide ((a.1 : Int) ≤ t)) - _ ≤ t - b2i (decide ((a.1 : Int) ≤ t)) - _
    omega
theorem tms_pre (A : List Rr) : ∀ B : List Rr, tms A <+: tms (A ++ B) := by
  intro B
  induction B generalizing A with
  | nil => rw [List.append_nil]; exact List.prefix_rfl
  | cons b B ih =>
    have h1 : A ++ b :: B = (A ++ [b]) ++ B := by rw [List.append_assoc]; rfl
    rw [h1]
    refine List.IsPrefix.trans ?_ (ih (A ++ [b]))
    rw [tms_snoc]
    exact List.prefix_append _ _
/-- a witness of all is one of a beginning -/
theorem LogV.witTake (L : LogV keep br tbl V) {n : Nat} (hne : V.take n ≠ []) {ms : Kn} {kf : Nat → Str} {C : Int → Nat → Prop} (W : Wit V keep ms kf C) (hms : ∀ z ∈ ms, z.1 < farOf (V.take n)) : Wit (V.take n) keep ms kf C := by
  have LT := L.take n
  have hpre : tms (V.take n) <+: tms V := by
    have := tms_pre (V.take n) (V.drop n)
    rw [List.take_append_drop] at this
    exact this
  have htm : ∀ p, p < farOf (V.take n) → tm (V.take n) p = tm V p := fun p hp => by
    unfold tm
    rw [pre_at hpre (by rw [LT.facts.len]; exact hp)]
  have hrows : ∀ r ∈ rowsOf (V.take n), r ∈ rowsOf V := fun r hr => by
    unfold rowsOf at hr ⊢
    obtain ⟨x, hx, hr⟩ := List.mem_flatMap.mp hr
    exact List.mem_flatMap.mpr ⟨x, List.mem_of_mem_take hx, hr⟩
  have hfar := (seen_take L.seen n).2.1
  have hback := (seen_take L.seen n).2.2
  have hmany : ∀ t, manyAt V t ≤ manyAt (V.take n) t := fun t => by
    have := manyAt_app (B := V.drop n) hne t
    rw [List.take_append_drop] at this
    exact this
  refine ⟨W.dn, W.up, fun t k h => ?_, fun r hr => W.key r (hrows r hr), fun z hz => ?_, fun r hr => ?_, fun r hr => ?_, fun g hg hgm => ?_⟩
  · obtain ⟨h1, h2⟩ := W.many t k h
    have := hmany t
    exact ⟨h1, by omega⟩
  · rw [htm z.1 (hms z hz)]
    exact W.mst z hz
  · rw [htm r.1 (LT.facts.below r hr)]
    exact W.got r (hrows r hr)
  · rw [htm r.1 (LT.facts.below r hr)]
    exact W.mark r (hrows r hr)
  · unfold gapsOf at hg
    rw [List.mem_filter] at hg
    have hgl : g < farOf (V.take n) := by rw [← LT.facts.len]; exact List.mem_range.mp hg.1
    have hgn := of_decide_eq_true hg.2
    rw [htm g hgl]
    refine W.gap g ?_ hgm
    unfold gapsOf
    rw [List.mem_filter]
    refine ⟨List.mem_range.mpr (by rw [L.facts.len]; omega), decide_eq_true fun z => hgn ?_⟩
    obtain ⟨r, hr, e⟩ := List.mem_map.mp z
    exact List.mem_map.mpr ⟨r, hback r hr (by rw [e]; exact hgl), e⟩
theorem LogV.gapTake (L : LogV keep br tbl V) {n g : Nat} (hg : g ∈ gapsOf V) (hl : g < farOf (V.take n)) : g ∈ gapsOf (V.take n) := by
  unfold gapsOf at hg ⊢
  rw [List.mem_filter] at hg ⊢
  refine ⟨List.mem_range.mpr (by rw [(L.take n).facts.len]; exact hl), decide_eq_true fun z => (of_decide_eq_true hg.2) ?_⟩
  obtain ⟨r, hr, e⟩ := List.mem_map.mp z
  refine List.mem_map.mpr ⟨r, ?_, e⟩
  unfold rowsOf at hr ⊢
  obtain ⟨x, hx, hr⟩ := List.mem_flatMap.mp hr
  exact List.mem_flatMap.mpr ⟨x, List.mem_of_mem_take hx, hr⟩
/-- whoever has read on knows no less of what was read first -/
theorem LogV.later (L : LogV keep br tbl V) {n g : Nat} {key : Str} (hk : key ≠ "x") (hg : g ∈ gapsOf V) (hl : g < farOf (V.take n)) (hf : fitsB V keep [(g, key)] = true) : fitsB (V.take n) keep [(g, key)] = true := by
  have hneT : V.take n ≠ [] := fun e => by rw [e] at hl; exact absurd hl (Nat.not_lt_zero _)
  have hne : V ≠ [] := fun e => by subst e; rw [List.take_nil] at hneT; exact hneT rfl
  rw [L.fitsV hne] at hf
  have gp := L.goodP (ms := [(g, key)]) (.inr ⟨g, key, rfl, hg, hk⟩)
  obtain ⟨kf, C, W⟩ := fillV_sound (seen_nice L.facts) (gp.s hne).1 hf
  rw [(L.take n).fitsV hneT]
  refine fillV_complete (L.witTake hneT W fun z hz => ?_)
  rw [List.mem_singleton] at hz
  subst hz
  exact hl
/-- the law's last question -/
theorem LogV.missed (L : LogV keep br tbl V) {n g : Nat} {key : Str} (hk : key ≠ "x") {o : Nat} (h1 : (heldOf (rowsOf V)).find? (fun z => decide (z.1 = key)) = some (key, o)) (h2 : (heldOf (rowsOf (V.take n))).find? (fun z => decide (z.1 = key)) = some (key, o)) (hg : g ∈ missedL V keep key) (hl : g < farOf (V.take n)) : g ∈ missedL (V.take n) keep key := by
  unfold missedL at hg ⊢
  rw [h1] at hg
  rw [h2]
  have hg := List.mem_filter.mp hg
  obtain ⟨hgg, hc⟩ := hg
  rw [Bool.and_eq_true] at hc
  refine List.mem_filter.mpr ⟨L.gapTake hgg hl, ?_⟩
  rw [Bool.and_eq_true]
  exact ⟨hc.1, L.later hk hgg hl hc.2⟩
end
/-- what some tells -/
theorem SomeOk.log {tbl : List Ev} {br : List (Nat × Nat)} {keep p : Nat} {V : List Rr} (h : SomeOk tbl br keep (some p) V) : LogV keep br tbl V := by
  have hV := h.hp p rfl
  obtain ⟨h1, h2, j, hj, h3, h4⟩ := (seen_all (keep := (keep : Int)) (br := br) h.ht tbl.length).found p V hV
  exact ⟨h.ht, h.hb, h.len, h1, ⟨j, h3, h4⟩, by omega⟩
end Mm
end
section
set_option maxHeartbeats 400000
/-! W25: a view, mostly with gaps: good. -/
namespace Mm
open PySem PySem.Spec PyProof.Rows L2 Dl
section
variable {P : Program} {w : World} {K : PySem.W.Frag} {mg : Str → Option Value} {base : Heap} {CV CF : Addr}
abbrev sGd : Stmt := topS 36
def wGd : Wp := fun ds M Q => ∃ (i : Nat) (l : Addr) (b : List D) (n : Nat), ds = [.v (.ref l)] ∧ M[i]? = some (l, .lst b) ∧ BxOk n b ∧ n < 600000 ∧
  ∀ b' tbl br keep o V, BxOk (n + 360) b' → SomeOk tbl br keep o V → Q (someD tbl br keep o V) (M.set i (l, .lst b'))
abbrev nGd : List Str := ["_law_box_here", "_law_turn", "_law_table_here", "_law_broom", "_law_keep", "_law_p", "_law_seen"]
theorem scGd : FnScope nGd ["_law_box_here"] (defScope sGd) := ⟨rfl, rfl, rfl, by decide +kernel, rfl, by decide +kernel, by decide +kernel⟩
theorem LogV.small {keep : Int} {br : List (Nat × Nat)} {tbl : List Ev} {V : List Rr} (L : LogV keep br tbl V) : (rowsOf V).length < 1000 ∧ farOf V < 1000 ∧ ∀ r ∈ V, r.2.2.length < 1000 := by
  have h1 := L.facts.few
  have h2 := L.far
  refine ⟨by omega, by omega, fun r hr => ?_⟩
  have := L.facts.rlen r hr
  have := L.facts.umax r hr
  omega
theorem ok_gd (T : Txt K mg CV CF) (Sm : CalG P w K mg base 6 "_law_some" wSm) (Lg : CalG P w K mg base 1 "_law_gaps" wLg) (Df : DefG K mg "_law_good" sGd) : CalG P w K mg base 7 "_law_good" wGd := by
  refine CalG.mk' Df scGd (fun _ _ _ _ _ _ us hl => match us, hl with | [_], _ => rfl) (fun ds M QD h => by obtain ⟨_, _, _, _, rfl, _⟩ := h; rfl) fun f cdv A outer s H hr ds M QD h => ?_
  obtain ⟨i, l, b, n, rfl, hm, hb, hn, q⟩ := h
  have hN := scGd.nd
  have hr1 := hr.mono (j := 1) (by omega)
  have frg := T.free "range" (by decide +kernel)
  have hss : ∀ (b1 b2 : List D), (M.set i (l, MO.lst b1)).set i (l, MO.lst b2) = M.set i (l, MO.lst b2) := fun b1 b2 => List.set_set _
  have hM0 : M.set i (l, MO.lst b) = M := by
    obtain ⟨hi, e⟩ := List.getElem?_eq_some_iff.mp hm
    rw [← e, List.set_getElem_self]
  refine xss_cons (xs_for [1] (xi_range1 (xa_cons (xe_int (xa_nil ⟨_, rfl, by omega, by omega, ?_⟩))) frg))
  refine ⟨fun j ρ' M' => ∃ b', M' = M.set i (l, .lst b') ∧ BxOk (n + 120 * j) b' ∧ ((j = 0 ∧ ρ' = [some (.v (.ref l)), none, none, none, none, none, none]) ∨ ∃ d1 tbl br keep o V, SomeOk tbl br keep o V ∧ ρ' = [some (.v (.ref l)), d1, some (.tup (tbl.map evD)), some (.tup (br.map brD)), some (intD keep), some (optN o), some (vwD V)]),
    ⟨b, hM0.symm, hb, .inl ⟨rfl, rfl⟩⟩, fun _ _ _ _ _ => trivial, ?_, ?_⟩
  · rintro j d ρ' M' hd ⟨b', rfl, hb', hρ⟩
    have hj : j < 3 := by
      have := (List.getElem?_eq_some_iff.mp hd).1
      simpa using this
    have hm' : (M.set i (l, MO.lst b'))[i]? = some (l, .lst b') := set_at hm
    have hρ2 : ∃ d1 d2 d3 d4 d5 d6, ρ' = [some (.v (.ref l)), d1, d2, d3, d4, d5, d6] := by
      rcases hρ with ⟨_, rfl⟩ | ⟨_, _, _, _, _, _, _, rfl⟩
      · exact ⟨_, _, _, _, _, _, rfl⟩
      · exact ⟨_, _, _, _, _, _, rfl⟩
    obtain ⟨d1, d2, d3, d4, d5, d6, rfl⟩ := hρ2
    refine xg_name 1 ?_
    refine xss_cons ?_
    refine xs_asg [2, 3, 4, 5, 6] ?_
    refine xe_fn Sm hr (xa_cons (xe_var 0 rfl (xa_cons (xe_int (xa_nil ⟨i, l, b', n + 120 * j, rfl, hm', hb', by omega, ?_⟩)))))
    intro b2 tbl br keep o V hb2 hok
    rw [hss]
    refine xg_tup ?_
    refine xgs_cons (xg_name 2 ?_)
    refine xgs_cons (xg_name 3 ?_)
    refine xgs_cons (xg_name 4 ?_)
    refine xgs_cons (xg_name 5 ?_)
    refine xgs_cons (xg_name 6 ?_)
    refine xgs_nil ?_
    have fin : ∀ (M' : Mem), M' = M.set i (l, MO.lst b2) → ∃ b', M' = M.set i (l, .lst b') ∧ BxOk (n + 120 * (j + 1)) b' ∧ ((j + 1 = 0 ∧ ([some (.v (.ref l)), some d, some (.tup (tbl.map evD)), some (.tup (br.map brD)), some (intD keep), some (optN o), some (vwD V)] : Dl.Env) = [some (.v (.ref l)), none, none, none, none, none, none]) ∨ ∃ d1 tbl' br' keep' o' V', SomeOk tbl' br' keep' o' V' ∧ ([some (.v (.ref l)), some d, some (.tup (tbl.map evD)), some (.tup (br.map brD)), some (intD keep), some (optN o), some (vwD V)] : Dl.Env) = [some (.v (.ref l)), d1, some (.tup (tbl'.map evD)), some (.tup (br'.map brD)), some (intD keep'), some (optN o'), some (vwD V')]) := fun M' e =>
      ⟨b2, e, hb2.mono (by omega), .inr ⟨_, tbl, br, keep, o, V, hok, rfl⟩⟩
    cases o with
    | none =>
      refine xss_one (xs_if (XW.t (xw_and (xt_cmp (xe_var 5 rfl (xe_non (od_notN ⟨_, rfl, ⟨fun hz => (by cases hz), fun _ => ⟨fun z => (by cases z), fun _ => xss_nil ?_⟩⟩⟩)))))))
      exact fin _ rfl
    | some p =>
      obtain ⟨z1, z2, z3⟩ := hok.log.small
      refine xss_one (xs_if (XW.t (xw_and (xt_cmp (xe_var 5 rfl (xe_non (od_notN ⟨_, rfl, ⟨fun _ => ?_, fun hz => (by cases hz)⟩⟩)))))))
      refine xw_and1 (xt_cmp (xe_fn Lg hr1 (xa_cons (xe_var 6 rfl (xa_nil ⟨V, rfl, z1, z2, z3, ?_⟩)))))
      refine xe_lst (xa_nil ⟨by decide, od_neN hr.units .of .of fun z hz => ⟨z, rfl, ⟨fun hz2 => ?_, fun hz2 => xss_nil (fin _ rfl)⟩⟩⟩)
      refine xss_one (xs_ret ?_)
      refine xe_tup (xa_cons (xe_var 2 rfl (xa_cons (xe_var 3 rfl (xa_cons (xe_var 4 rfl (xa_cons (xe_var 5 rfl (xa_cons (xe_var 6 rfl (xa_nil ?_)))))))))))
      exact ⟨Nat.le_of_ble_eq_true rfl, q b2 tbl br keep (some p) V (hb2.mono (by omega)) hok⟩
  · rintro ρ' M' ⟨b', rfl, hb', hρ⟩
    rcases hρ with ⟨h0, _⟩ | ⟨d1, tbl, br, keep, o, V, hok, rfl⟩
    · exact absurd h0 (by simp)
    · refine xss_one (xs_ret ?_)
      refine xe_tup (xa_cons (xe_var 2 rfl (xa_cons (xe_var 3 rfl (xa_cons (xe_var 4 rfl (xa_cons (xe_var 5 rfl (xa_cons (xe_var 6 rfl (xa_nil ?_)))))))))))
      refine ⟨Nat.le_of_ble_eq_true rfl, q b' tbl br keep o V (hb'.mono ?_) hok⟩
      simp
end
end Mm
end
section
set_option maxHeartbeats 400000
/-! W26: right. -/
namespace Mm
open PySem PySem.Spec PyProof.Rows L2 Dl
/-! ### texts in order -/
theorem rising_pw : ∀ (l : List Str) (p : Str), risingS p l = true → (p :: l).Pairwise fun a b => skStr.lt b a = false
  | [], p, _ => List.pairwise_singleton _ _
  | x :: l, p, h => by
    have h : (!ltCps x.cps.toList p.cps.toList && risingS x l) = true := h
    rw [Bool.and_eq_true, Bool.not_eq_true'] at h
    obtain ⟨h1, h2⟩ := h
    have ih := rising_pw l x h2
    have h3 : skStr.lt x p = false := by
      show decide (x.cps.toList < p.cps.toList) = false
      rw [← ltCps_eq]; exact h1
    refine List.pairwise_cons.mpr ⟨fun y hy => ?_, ih⟩
    rcases List.mem_cons.mp hy with rfl | hy
    · exact h3
    · have h4 := (List.pairwise_cons.mp ih).1 y hy
      have h3 : decide (x.cps.toList < p.cps.toList) = false := h3
      have h4 : decide (y.cps.toList < x.cps.toList) = false := h4
      show decide (y.cps.toList < p.cps.toList) = false
      simp only [decide_eq_false_iff_not, List.not_lt] at h3 h4 ⊢
      exact List.le_trans h3 h4
theorem sorted_pw (l : List Str) (h : sortedS l = true) : l.Pairwise fun a b => skStr.lt b a = false := by
  cases l with
  | nil => exact .nil
  | cons x l => exact rising_pw l x h
theorem strs_same {ys zs : List Str} (hp : ys.Perm zs) (h1 : ys.Pairwise fun a b => skStr.lt b a = false) (h2 : zs.Pairwise fun a b => skStr.lt b a = false) : ys = zs :=
  List.Perm.eq_of_pairwise (fun a b _ _ ha hb => skStr.tot a b hb ha) h1 h2 hp
theorem abc_ok {z : Str} (h : z ∈ (["a", "b", "c"] : List Str)) : PyData.strOk z = true := by
  simp only [List.mem_cons, List.not_mem_nil, or_false] at h
  rcases h with rfl | rfl | rfl <;> decide +kernel
theorem shaped_pair (a b : Int) : SeqAt.shaped (.tuple [.int a, .int b]) = true := by
  have e : SeqAt.shaped (.tuple [.int a, .int b]) = (PyData.canLay0 (.tuple [.int a, .int b]) && decide ((PyData.tuple [.int a, .int b]).depth ≤ 64)) := rfl
  rw [e]
  simp [PyData.canLay0, PyData.canLayAll0, PyData.depth, PyData.depthAll]
theorem eqv_pair (a b c d : Int) (h : PyData.eqv (.tuple [.int a, .int b]) (.tuple [.int c, .int d]) = true) : a = c ∧ b = d := by
  simpa [PyData.eqv, PyData.eqvAll] using h
/-! ### what is held -/
theorem lh_keys (rs : List Rw) : (lhOf rs).map (·.1) = (heldOf rs).map (·.1) := by
  have h := lh_held rs []
  have h2 := congrArg (List.map Prod.fst) h
  rw [List.map_map] at h2
  exact h2
theorem LogV.keys {keep : Int} {br : List (Nat × Nat)} {tbl : List Ev} {V : List Rr} (L : LogV keep br tbl V) {z : Str} (hz : z ∈ (heldOf (rowsOf V)).map (·.1)) : z ∈ (["a", "b", "c"] : List Str) := by
  obtain ⟨y, hy, rfl⟩ := List.mem_map.mp hz
  rcases held_mem [] y hy with h | ⟨r, hr, _, e⟩
  · cases h
  · rw [← e]; exact L.abc hr
theorem valD_lhK (acc : Lh) (k : Str) : valD (lhK acc) (Sum.inr k) = (acc.find? fun z => decide (z.1 = k)).map fun z => lhD z.2 := by
  induction acc with
  | nil => rfl
  | cons z acc ih =>
    show valD ((Sum.inr z.1, lhD z.2) :: lhK acc) _ = _
    rw [valD_cons, List.find?_cons]
    by_cases h : z.1 = k
    · subst h; simp
    · have : ¬ (Sum.inr z.1 : Key) = Sum.inr k := fun e => h (Sum.inr.inj e)
      rw [if_neg this, ih]
      simp [h]
theorem find_held (rs : List Rw) (k : Str) : (heldOf rs).find? (fun z => decide (z.1 = k)) = ((lhOf rs).find? fun z => decide (z.1 = k)).map fun z => (z.1, z.2.1) := by
  have h : heldOf rs = (lhOf rs).map fun z => (z.1, z.2.1) := (lh_held rs []).symm
  rw [h, List.find?_map]
  rfl
theorem far_take {V : List Rr} {j : Nat} {r : Rr} (h : V[j]? = some r) : farOf (V.take (j + 1)) = r.2.1 := by
  rw [List.take_succ, h]
  exact farOf_snoc _ _
def fstD : D → D
  | .tup (d :: _) => d
  | d => d
section
variable {P : Program} {w : World} {K : PySem.W.Frag} {mg : Str → Option Value} {base : Heap} {CV CF : Addr}
abbrev sRt : Stmt := topS 37
def wRt : Wp := fun ds M Q => ∃ (i : Nat) (l : Addr) (b : List D) (n : Nat), ds = [.v (.ref l)] ∧ M[i]? = some (l, .lst b) ∧ BxOk n b ∧ n < 600000 ∧
  ∀ b', BxOk (n + 360) b' → Q (.v (.bl true)) (M.set i (l, .lst b'))
abbrev nRt : List Str := ["_law_box_here", "_law_table_here", "_law_broom", "_law_keep", "_law_p", "_law_seen", "_law_held_so", "_law_size", "_law_part", "_law_far", "_law_mine", "_law_key_so", "_law_known", "_law_own", "_law_worth", "_law_k"]
theorem scRt : FnScope nRt ["_law_box_here"] (defScope sRt) := ⟨rfl, rfl, rfl, by decide +kernel, rfl, by decide +kernel, by decide +kernel⟩
theorem ok_rt' (T : Txt K mg CV CF) (Gd : CalG P w K mg base 7 "_law_good" wGd) (Lh' : CalG P w K mg base 1 "_law_held" wLh) (Cn : CalG P w K mg base 38 "can_be" wCn) (Hb : CalG P w K mg base 9 "held_by" wHb) (Mp : CalG P w K mg base 40 "missed_places" wMp) (Df : DefG K mg "_law_right" sRt) : CalG P w K mg base 41 "_law_right" wRt := by
  refine CalG.mk' Df scRt (fun _ _ _ _ _ _ us hl => match us, hl with | [_], _ => rfl) (fun ds M QD h => by obtain ⟨_, _, _, _, rfl, _⟩ := h; rfl) fun f cdv A outer s H hr ds M QD h => ?_
  obtain ⟨i, l, b, n, rfl, hm, hb, hn, q⟩ := h
  have hN := scRt.nd
  have hr1 := hr.mono (j := 1) (by omega)
  have hr7 := hr.mono (j := 7) (by omega)
  have hr9 := hr.mono (j := 9) (by omega)
  have hr38 := hr.mono (j := 38) (by omega)
  have hu := hu_of (hr.mono (j := 0) (by omega))
  have frg := T.free "range" (by decide +kernel)
  have fln := T.free "len" (by decide +kernel)
  have fso := T.free "sorted" (by decide +kernel)
  refine xss_cons ?_
  refine xs_asg [1, 2, 3, 4, 5] ?_
  refine xe_fn Gd hr7 (xa_cons (xe_var 0 rfl (xa_nil ⟨i, l, b, n, rfl, hm, hb, hn, ?_⟩)))
  intro b2 tbl br keep o V hb2 hok
  refine xg_tup ?_
  refine xgs_cons (xg_name 1 ?_)
  refine xgs_cons (xg_name 2 ?_)
  refine xgs_cons (xg_name 3 ?_)
  refine xgs_cons (xg_name 4 ?_)
  refine xgs_cons (xg_name 5 ?_)
  refine xgs_nil ?_
  have qe : QD (.v (.bl true)) (M.set i (l, MO.lst b2)) := q b2 hb2
  cases o with
  | none =>
    refine xss_cons (xs_if (xt_cmp (xe_var 4 rfl (xe_non (od_isN ⟨_, rfl, ⟨fun _ => ?_, fun hz => (by cases hz)⟩⟩)))))
    exact xss_one (xs_ret (xe_bl qe))
  | some p =>
    have L := hok.log
    refine xss_cons (xs_if (xt_cmp (xe_var 4 rfl (xe_non (od_isN ⟨_, rfl, ⟨fun hz => (by cases hz), fun _ => ?_⟩⟩)))))
    refine xss_nil ?_
    obtain ⟨z1, z2, z3⟩ := L.small
    refine xss_cons (xs_set 6 (xe_fn Lh' hr1 (xa_cons (xe_var 5 rfl (xa_nil ⟨V, rfl, z1, ?_⟩)))))
    refine xss_cons (xs_if (XW.t (xw_or (xt_not (xt_val (xe_fn Cn hr38 (xa_cons (xe_var 3 rfl (xa_cons (xe_var 5 rfl (xa_nil ⟨V, (keep : Int), rfl, L.goodP (.inl rfl), _, rfl, ⟨fun hz => ?_, fun _ => ?_⟩⟩)))))))))))
    · rw [L.fits] at hz; cases hz
    refine xw_or1 (xt_cmp ?_)
    refine xe_lc [("_law_own", 13), ("_law_worth", 14)] (xi_val (xe_fn Hb hr9 (xa_cons (xe_var 5 rfl (xa_nil ⟨V, rfl, L.good, fun ys hyp hys => ?_⟩))))) (blkOk_by (by rfl))
    have hyl : ys.length ≤ 14 := by
      have h1 := hyp.length_eq
      rw [← lh_keys, List.length_map, List.length_map] at h1
      have h2 : (lhOf (rowsOf V)).length ≤ ([] : Lh).length + (rowsOf V).length := lh_len (rowsOf V) []
      have h3 := L.facts.few
      have h4 := L.far
      rw [List.length_nil] at h2
      omega
    refine idt_lst ⟨_, ⟨rfl, rfl⟩, lc_pure (M := M.set i (l, MO.lst b2)) (fun _ => true) fstD trivial (by rw [List.length_map]; omega) (fun d hd => ?_), lc_pure_end ?_⟩
    · obtain ⟨y, hy, rfl⟩ := List.mem_map.mp hd
      intro s0 H0 C cl0 fp
      refine xg_tup (xgs_cons (xg_name 13 (xgs_cons (xg_name 14 (xgs_nil ?_)))))
      intro s1 H1 C1 cl1 fp1
      refine xts_nil ⟨rfl, fun _ => ?_, fun z => (by cases z)⟩
      intro s2 H2 C2 cl2 fp2
      exact xe_var 13 rfl ⟨rfl, rfl⟩
    have ey : (((ys.map (pairD skStr)).filter fun _ => true).map fstD) = (ys.map (·.1)).map fun z => D.v (.str z) := by
      rw [List.filter_eq_self.mpr (fun _ _ => rfl), List.map_map, List.map_map]; rfl
    rw [ey]
    have hkk : (lhK (lhOf (rowsOf V))).map (·.1) = ((lhOf (rowsOf V)).map (·.1)).map Sum.inr := by unfold lhK; rw [List.map_map, List.map_map]; rfl
    refine xe_callB (id := "sorted") (xa_cons (xe_var 6 rfl (xa_nil (cd_sortedK .of hkk ?_ fun zs hzp hzs => ?_)))) fso (by decide +kernel)
    · have h1 := hyp.length_eq
      rw [← lh_keys, List.length_map] at h1
      omega
    have hsame : ys.map (·.1) = zs := by
      refine strs_same ?_ ?_ (sorted_pw zs hzs)
      · rw [lh_keys] at hzp
        exact hyp.trans hzp.symm
      · rw [List.pairwise_map]; exact hys
    rw [hsame]
    have hzok : ∀ z ∈ zs, PyData.strOk z = true := fun z hz => by
      refine abc_ok (L.keys ?_)
      rw [lh_keys] at hzp
      exact hzp.mem_iff.mp hz
    have hfl := flat_strsP zs hzok
    have hpd : pdD (.lst (zs.map fun z => D.v (.str z))) = some (.list (zs.map fun z => PyData.str z)) := by
      show (pdA (zs.map fun z => D.v (.str z))).map PyData.list = _
      rw [pdA_strs]; rfl
    refine od_neD hr.units hpd hpd (flat_shaped hfl) (flat_shaped hfl) ⟨_, rfl, ⟨fun hz => ?_, fun _ => ?_⟩⟩
    · have hrefl : PyData.eqv (.list (zs.map fun z => PyData.str z)) (.list (zs.map fun z => PyData.str z)) = true := by
        rw [PyData.eqv]
        exact PySem.SeqAt.eqvAll_refl _ (flat_lay _ hfl).1
      rw [hrefl] at hz; cases hz
    refine xss_nil ?_
    refine xss_cons ?_
    refine xs_for [7] (xi_range1 (xa_cons (xe_len (xe_var 5 rfl ⟨_, .inr rfl, xa_nil ⟨_, rfl, ?_, ?_, ?_⟩⟩) fln)) frg)
    · have := L.good.len
      rw [List.length_map]; omega
    · omega
    refine ⟨fun j ρ' M' => (∃ d7 d8 d9 d10 d11 d12 d13 d14 d15, ρ' = [some (.v (.ref l)), some (.tup (tbl.map evD)), some (.tup (br.map brD)), some (intD keep), some (intD p), some (vwD V), some (.dct (lhK (lhOf (rowsOf V)))), d7, d8, d9, d10, d11, d12, d13, d14, d15]) ∧ M' = M.set i (l, MO.lst b2), ⟨⟨_, _, _, _, _, _, _, _, _, rfl⟩, rfl⟩, fun _ _ _ _ _ => trivial, ?_, ?_⟩
    · rintro j d ρ' M' hd ⟨⟨d7, d8, d9, d10, d11, d12, d13, d14, d15, rfl⟩, rfl⟩
      obtain ⟨hj, rfl⟩ : j < V.length ∧ d = intD j := by
        have hjl := (List.getElem?_eq_some_iff.mp hd).1
        rw [List.length_map, List.length_range, Int.toNat_natCast, List.length_map] at hjl
        refine ⟨hjl, ?_⟩
        rw [List.getElem?_map, List.getElem?_range (by rw [Int.toNat_natCast, List.length_map]; exact hjl)] at hd
        have e : d = D.v (.int (0 + (j : Int))) := (Option.some.inj hd).symm
        rw [Int.zero_add] at e
        exact e
      have LT := L.take j
      obtain ⟨y1, y2, y3⟩ := LT.small
      refine xg_name 7 ?_
      refine xss_mid (fun ρ' M' => ρ' = [some (.v (.ref l)), some (.tup (tbl.map evD)), some (.tup (br.map brD)), some (intD keep), some (intD p), some (vwD V), some (.dct (lhK (lhOf (rowsOf V)))), some (intD j), some (vwD (V.take j)), some (intD (farOf (V.take j))), d10, d11, d12, d13, d14, d15] ∧ M' = M.set i (l, MO.lst b2)) ?_ ?_
      · refine xs_asg [8, 9] ?_
        refine xe_tup ?_
        refine xa_cons ?_
        refine xe_slT (xe_var 5 rfl ⟨_, rfl, xe_var 7 rfl ⟨_, rfl, ?_⟩⟩)
        show XA _ _ _ _ _
        rw [cutD_to, ← List.map_take]
        refine xa_cons ?_
        refine xe_if (xt_cmp (xe_var 7 rfl (xe_int (od_gt ⟨_, rfl, ⟨fun hz => ?_, fun hz => ?_⟩⟩))))
        · have hj0 : 0 < j := by
            have := of_decide_eq_true hz
            omega
          obtain ⟨k, rfl⟩ : ∃ k, j = k + 1 := ⟨j - 1, by omega⟩
          obtain ⟨r, hVr⟩ : ∃ r, V[k]? = some r := ⟨_, List.getElem?_eq_getElem (by omega)⟩
          have e1 : ((k + 1 : Nat) : Int) - 1 = (k : Int) := by omega
          refine xe_ix (xe_ix (xe_var 5 rfl (xe_bin (xe_var 7 rfl (xe_int (od_sub ?_))))))
          rw [e1]
          refine id_tup (d := rdD r) (atI_nat (by rw [List.getElem?_map, hVr]; rfl)) ?_
          refine xe_int (id_tup (d := intD r.2.1) (atI_nat (j := 1) rfl) ?_)
          refine xa_nil ⟨Nat.le_of_ble_eq_true rfl, xg_tup (xgs_cons (xg_name 8 (xgs_cons (xg_name 9 (xgs_nil ⟨?_, rfl⟩)))))⟩
          rw [far_take hVr]
          rfl
        · have hj0 : j = 0 := by
            have := of_decide_eq_false hz
            omega
          subst hj0
          exact xe_int (xa_nil ⟨Nat.le_of_ble_eq_true rfl, xg_tup (xgs_cons (xg_name 8 (xgs_cons (xg_name 9 (xgs_nil ⟨rfl, rfl⟩)))))⟩)
      rintro ρ' M' ⟨rfl, rfl⟩
      refine xss_cons (xs_set 10 (xe_fn Lh' hr1 (xa_cons (xe_var 8 rfl (xa_nil ⟨V.take j, rfl, y1, ?_⟩)))))
      refine xss_cons (xs_if (XW.t (xw_or (xt_not (xt_val (xe_fn Cn hr38 (xa_cons (xe_var 3 rfl (xa_cons (xe_var 8 rfl (xa_nil ⟨(V.take j), (keep : Int), rfl, LT.goodP (.inl rfl), _, rfl, ⟨fun hz => ?_, fun _ => ?_⟩⟩)))))))))))
      · rw [LT.fits] at hz; cases hz
      refine xw_or1 (xt_cmp ?_)
      refine xe_lc [("_law_own", 13), ("_law_worth", 14)] (xi_val (xe_fn Hb hr9 (xa_cons (xe_var 8 rfl (xa_nil ⟨(V.take j), rfl, LT.good, fun ys hyp hys => ?_⟩))))) (blkOk_by (by rfl))
      have hyl : ys.length ≤ 14 := by
        have h1 := hyp.length_eq
        rw [← lh_keys, List.length_map, List.length_map] at h1
        have h2 : (lhOf (rowsOf (V.take j))).length ≤ ([] : Lh).length + (rowsOf (V.take j)).length := lh_len (rowsOf (V.take j)) []
        have h3 := LT.facts.few
        have h4 := LT.far
        rw [List.length_nil] at h2
        omega
      refine idt_lst ⟨_, ⟨rfl, rfl⟩, lc_pure (M := M.set i (l, MO.lst b2)) (fun _ => true) fstD trivial (by rw [List.length_map]; omega) (fun d hd => ?_), lc_pure_end ?_⟩
      · obtain ⟨y, hy, rfl⟩ := List.mem_map.mp hd
        intro s0 H0 C cl0 fp
        refine xg_tup (xgs_cons (xg_name 13 (xgs_cons (xg_name 14 (xgs_nil ?_)))))
        intro s1 H1 C1 cl1 fp1
        refine xts_nil ⟨rfl, fun _ => ?_, fun z => (by cases z)⟩
        intro s2 H2 C2 cl2 fp2
        exact xe_var 13 rfl ⟨rfl, rfl⟩
      have ey : (((ys.map (pairD skStr)).filter fun _ => true).map fstD) = (ys.map (·.1)).map fun z => D.v (.str z) := by
        rw [List.filter_eq_self.mpr (fun _ _ => rfl), List.map_map, List.map_map]; rfl
      rw [ey]
      have hkk : (lhK (lhOf (rowsOf (V.take j)))).map (·.1) = ((lhOf (rowsOf (V.take j))).map (·.1)).map Sum.inr := by unfold lhK; rw [List.map_map, List.map_map]; rfl
      refine xe_callB (id := "sorted") (xa_cons (xe_var 10 rfl (xa_nil (cd_sortedK .of hkk ?_ fun zs hzp hzs => ?_)))) fso (by decide +kernel)
      · have h1 := hyp.length_eq
        rw [← lh_keys, List.length_map] at h1
        omega
      have hsame : ys.map (·.1) = zs := by
        refine strs_same ?_ ?_ (sorted_pw zs hzs)
        · rw [lh_keys] at hzp
          exact hyp.trans hzp.symm
        · rw [List.pairwise_map]; exact hys
      rw [hsame]
      have hzok : ∀ z ∈ zs, PyData.strOk z = true := fun z hz => by
        refine abc_ok (LT.keys ?_)
        rw [lh_keys] at hzp
        exact hzp.mem_iff.mp hz
      have hfl := flat_strsP zs hzok
      have hpd : pdD (.lst (zs.map fun z => D.v (.str z))) = some (.list (zs.map fun z => PyData.str z)) := by
        show (pdA (zs.map fun z => D.v (.str z))).map PyData.list = _
        rw [pdA_strs]; rfl
      refine od_neD hr.units hpd hpd (flat_shaped hfl) (flat_shaped hfl) ⟨_, rfl, ⟨fun hz => ?_, fun _ => ?_⟩⟩
      · have hrefl : PyData.eqv (.list (zs.map fun z => PyData.str z)) (.list (zs.map fun z => PyData.str z)) = true := by
          rw [PyData.eqv]
          exact PySem.SeqAt.eqvAll_refl _ (flat_lay _ hfl).1
        rw [hrefl] at hz; cases hz
      refine xss_nil ?_
      refine xss_one ?_
      refine xs_for [11] (xi_val (xe_var 6 rfl (idt_keys ?_)))
      refine ⟨fun m ρ' M' => (∃ d11 d12 d13 d14 d15, ρ' = [some (.v (.ref l)), some (.tup (tbl.map evD)), some (.tup (br.map brD)), some (intD keep), some (intD p), some (vwD V), some (.dct (lhK (lhOf (rowsOf V)))), some (intD j), some (vwD (V.take j)), some (intD (farOf (V.take j))), some (.dct (lhK (lhOf (rowsOf (V.take j))))), d11, d12, d13, d14, d15]) ∧ M' = M.set i (l, MO.lst b2), ⟨⟨_, _, _, _, _, rfl⟩, rfl⟩, fun _ _ _ _ _ => trivial, ?_, ?_⟩
      · rintro m d ρ' M' hd ⟨⟨d11, d12, d13, d14, d15, rfl⟩, rfl⟩
        have hdm := List.mem_of_getElem? hd
        obtain ⟨kv, hkv, rfl⟩ := List.mem_map.mp hdm
        obtain ⟨z, hz, rfl⟩ := List.mem_map.mp hkv
        have hzk : z.1 ∈ (["a", "b", "c"] : List Str) := L.keys (by rw [← lh_keys]; exact List.mem_map.mpr ⟨z, hz, rfl⟩)
        have hzx : z.1 ≠ "x" := fun e => x_abc (e ▸ hzk)
        obtain ⟨a1, hf1⟩ : ∃ a1, (lhOf (rowsOf V)).find? (fun y => decide (y.1 = z.1)) = some a1 := by
          cases hq : (lhOf (rowsOf V)).find? (fun y => decide (y.1 = z.1)) with
          | some a1 => exact ⟨a1, rfl⟩
          | none => exact absurd (decide_eq_true (rfl : z.1 = z.1)) (List.find?_eq_none.mp hq z hz)
        have hk1 : a1.1 = z.1 := by simpa using List.find?_some hf1
        refine xg_name 11 ?_
        refine xss_one (xs_if (XW.t (xw_and (xt_cmp (xe_var 11 rfl (xe_var 10 rfl (od_dIn (k := Sum.inr z.1) hu .of rfl ⟨_, rfl, ⟨fun hin => ?_, fun hin => ⟨fun z => (by cases z), fun _ => xss_nil ⟨⟨_, _, _, _, _, rfl⟩, rfl⟩⟩⟩⟩)))))))
        rw [valD_lhK, Option.isSome_map] at hin
        obtain ⟨a2, hf2⟩ := Option.isSome_iff_exists.mp hin
        have hk2 : a2.1 = z.1 := by simpa using List.find?_some hf2
        refine xw_and1 (xt_cmp ?_)
        refine xe_ix (xe_var 10 rfl (xe_var 11 rfl ?_))
        refine id_dct (k := Sum.inr z.1) hu .of rfl (by rw [valD_lhK, hf2]; rfl) ?_
        refine xe_ix (xe_var 6 rfl (xe_var 11 rfl ?_))
        refine id_dct (k := Sum.inr z.1) hu .of rfl (by rw [valD_lhK, hf1]; rfl) ?_
        refine od_eqD hr.units (x := .tuple [.int a2.2.1, .int a2.2.2]) (y := .tuple [.int a1.2.1, .int a1.2.2]) rfl rfl (shaped_pair _ _) (shaped_pair _ _) ⟨_, rfl, ⟨fun he => ?_, fun _ => xss_nil ⟨⟨_, _, _, _, _, rfl⟩, rfl⟩⟩⟩
        obtain ⟨hpl, _⟩ := eqv_pair _ _ _ _ he
        have hg1 : (heldOf (rowsOf V)).find? (fun y => decide (y.1 = z.1)) = some (z.1, a1.2.1) := by
          rw [find_held, hf1, ← hk1]; rfl
        have hg2 : (heldOf (rowsOf (V.take j))).find? (fun y => decide (y.1 = z.1)) = some (z.1, a1.2.1) := by
          have hpl2 : a2.2.1 = a1.2.1 := by omega
          rw [find_held, hf2, ← hk2, ← hpl2]; rfl
        refine xss_cons (xs_set 12 (xe_fn Mp hr (xa_cons (xe_var 3 rfl (xa_cons (xe_var 8 rfl (xa_cons (xe_var 11 rfl (xa_nil ⟨V.take j, (keep : Int), z.1, rfl, LT.goodP (.inl rfl), LT.fits, fun g hg => LT.goodP (.inr ⟨g, z.1, rfl, hg, hzx⟩), ?_⟩)))))))))
        refine xss_one (xs_if (xt_cmp ?_))
        refine xe_lc [("_law_k", 15)] (xi_val (xe_fn Mp hr (xa_cons (xe_var 3 rfl (xa_cons (xe_var 5 rfl (xa_cons (xe_var 11 rfl (xa_nil ⟨V, (keep : Int), z.1, rfl, L.goodP (.inl rfl), L.fits, fun g hg => L.goodP (.inr ⟨g, z.1, rfl, hg, hzx⟩), ?_⟩))))))))) (blkOk_by (by rfl))
        have hml : (missedL V keep z.1).length < 100000 := by
          have h1 : (missedL V keep z.1).length ≤ (gapsOf V).length := by
            unfold missedL
            rw [hg1]
            exact List.length_filter_le _ _
          have h2 := List.length_filter_le (fun p => decide (p ∉ places V)) (List.range (tms V).length)
          have h3 := tms_len V L.good
          rw [List.length_range] at h2
          unfold gapsOf at h1
          omega
        refine idt_lst ⟨_, ⟨rfl, rfl⟩, lc_pure (M := M.set i (l, MO.lst b2)) (fun d => decide (natD d < farOf (V.take j)) && decide (natD d ∉ missedL (V.take j) keep z.1)) id trivial (by rw [List.length_map]; exact hml) (fun d hd => ?_), lc_pure_end ?_⟩
        · obtain ⟨k, hk, rfl⟩ := List.mem_map.mp hd
          have ek := int_cast0 k
          intro s0 H0 C cl0 fp
          refine xg_name 15 ?_
          intro s1 H1 C1 cl1 fp1
          refine xts_one (XW.t (xw_and (xt_cmp (xe_var 15 rfl (xe_var 9 rfl (od_lt ⟨_, rfl, ⟨fun hc => ?_, fun hc => ?_⟩⟩))))))
          · have hlt : k < farOf (V.take j) := by
              have := of_decide_eq_true hc
              omega
            have e2 : (missedL (V.take j) keep z.1).map intD = ((missedL (V.take j) keep z.1).map fun n : Nat => L2.V.int (n : Int)).map D.v := by rw [List.map_map]; rfl
            refine xw_and1 (xt_cmp (xe_var 15 rfl (xe_var 12 rfl (od_notInL (ys := (missedL (V.take j) keep z.1).map fun n : Nat => L2.V.int (n : Int)) ?_ rfl ?_ ⟨_, rfl, ?_, fun _ => ?_, fun _ => rfl⟩))))
            · rw [e2]; exact .of
            · rw [List.all_map, List.all_eq_true]; intro x _; rfl
            · rw [inV_ints]
              show (!decide (k ∈ missedL (V.take j) keep z.1)) = (decide (natD (intD k) < farOf (V.take j)) && decide (natD (intD k) ∉ missedL (V.take j) keep z.1))
              rw [ek, decide_eq_true hlt, Bool.true_and]
              by_cases h : k ∈ missedL (V.take j) keep z.1 <;> simp [h]
            · intro s2 H2 C2 cl2 fp2
              exact xe_var 15 rfl ⟨rfl, rfl⟩
          · have hlt : ¬ k < farOf (V.take j) := by
              have := of_decide_eq_false hc
              omega
            have e3 : (decide (natD (intD k) < farOf (V.take j)) && decide (natD (intD k) ∉ missedL (V.take j) keep z.1)) = false := by
              rw [ek, decide_eq_false hlt]; rfl
            refine ⟨e3.symm, fun z' => ?_, fun _ => rfl⟩
            rw [e3] at z'; cases z'
        have e4 : ((((missedL V keep z.1).map intD).filter fun d => decide (natD d < farOf (V.take j)) && decide (natD d ∉ missedL (V.take j) keep z.1)).map id) = ([] : List Nat).map intD := by
          rw [List.map_id]
          refine List.filter_eq_nil_iff.mpr fun d hd => ?_
          obtain ⟨k, hk, rfl⟩ := List.mem_map.mp hd
          rw [int_cast0, Bool.and_eq_true, decide_eq_true_eq, decide_eq_true_eq]
          rintro ⟨h1, h2⟩
          exact h2 (L.missed hzx hg1 hg2 hk h1)
        rw [e4]
        refine xe_lst (xa_nil ⟨by decide, od_neN hr.units .of .of fun t ht => ⟨t, rfl, ⟨fun ht2 => ?_, fun _ => xss_nil ⟨⟨_, _, _, _, _, rfl⟩, rfl⟩⟩⟩⟩)
        exact absurd rfl (ht.mp ht2)
      · rintro ρ' M' ⟨⟨d11, d12, d13, d14, d15, rfl⟩, rfl⟩
        exact ⟨⟨_, _, _, _, _, _, _, _, _, rfl⟩, rfl⟩
    · rintro ρ' M' ⟨⟨d7, d8, d9, d10, d11, d12, d13, d14, d15, rfl⟩, rfl⟩
      exact xss_one (xs_ret (xe_bl qe))
end
end Mm
end
section
set_option maxHeartbeats 400000
/-! W27: the law. -/
namespace Mm
open PySem PySem.Spec PyProof.Rows L2 Dl
/-- the script: it is read only -/
def SeesS (K : PySem.W.Frag) (M : Mem) (a : Addr) (xs : List Int) : Prop :=
  (∃ o, (a, MO.raw (.frz o (.lst (xs.map L2.V.int)))) ∈ M) ∨ ∀ H : Hp, SqL K H a (xs.map L2.V.int)
theorem SeesS.sql {K : PySem.W.Frag} {F H : Hp} {M : Mem} {a : Addr} {xs : List Int} (h : SeesS K M a xs) (s : S0 F H M) : SqL K H a (xs.map L2.V.int) := by
  rcases h with ⟨o, hm⟩ | h
  · exact .inl (.inr ⟨o, (s.mem _ hm).2⟩)
  · exact h H
theorem SeesS.cons {K : PySem.W.Frag} {M : Mem} {a : Addr} {xs : List Int} (h : SeesS K M a xs) (p : Addr × MO) : SeesS K (p :: M) a xs := by
  rcases h with ⟨o, hm⟩ | h
  · exact .inl ⟨o, List.mem_cons_of_mem _ hm⟩
  · exact .inr h
theorem rpa_ints (F : Hp) (xs : List Int) : RpA F (xs.map L2.V.int) (xs.map fun i => D.v (.int i)) := by
  induction xs with
  | nil => exact .nil
  | cons x xs ih => exact .cons (.v _) ih
section
variable {X : Cx} {M : Mem} {Q : KE}
theorem cd_lenSc {a : Addr} {xs : List Int} (h : SeesS X.K M a xs) (q : Q (.v (.int xs.length)) M) : CallD X (.builtin "len") [.v (.ref a)] M Q := fun F H vs s r R k => by
  cases r with
  | cons r1 r =>
    cases r; cases r1
    exact CallR.w call_len_seq ⟨a, _, rfl, .inl (h.sql s), by rw [List.length_map]; exact k _ _ M F H q (Step.refl _ _ _) s (.v _)⟩
theorem id_sc {a : Addr} {xs : List Int} {i x : Int} (h : SeesS X.K M a xs) (e : atI (xs.map fun i => D.v (.int i)) i = some (.v (.int x))) (q : Q (.v (.int x)) M) : IxD X (.v (.ref a)) (.v (.int i)) M Q := fun F H v y s r1 r2 R k => by
  cases r1; cases r2
  obtain ⟨z, e2, rz⟩ := (rpa_ints F xs).atI e
  exact IxR.w ix_list ⟨a, _, i, z, rfl, rfl, h.sql s, e2, k z _ M F H q (Step.refl _ _ _) s rz⟩
theorem cd_min2 {i j : Int} (q : Q (.v (.int (if j < i then j else i))) M) (hc : X.calm = true := by rfl) : CallD X (.builtin "min") [.v (.int i), .v (.int j)] M Q := fun F H vs s r R k => by
  cases r with
  | cons r1 r =>
    cases r with
    | cons r2 r =>
      cases r; cases r1; cases r2
      exact CallR.w (call_min2 hc) ⟨i, j, rfl, k _ _ M F H q (Step.refl _ _ _) s (.v _)⟩
end
section
variable {P : Program} {w : World} {K : PySem.W.Frag} {mg : Str → Option Value} {base : Heap} {CV CF : Addr}
def wBx (K : PySem.W.Frag) : Wp := fun ds M Q => ∃ (a : Addr) (xs : List Int) (k : Nat), ds = [.v (.ref a), intD k] ∧ SeesS K M a xs ∧ ∀ l b, BxOk 0 b → Q (.v (.ref l)) ((l, .lst b) :: M)
theorem ok_bx (T : Txt K mg CV CF) (Df : DefG K mg "_law_box" sBox) : CalG P w K mg base 1 "_law_box" (wBx K) := by
  refine CalG.mk' Df scBox (fun _ _ _ _ _ _ us hl => match us, hl with | [_, _], _ => rfl) (fun ds M QD h => by obtain ⟨_, _, _, rfl, _⟩ := h; rfl) fun f cdv A outer s H hr ds M QD h => ?_
  obtain ⟨a, xs, k, rfl, hsc, q⟩ := h
  have hN := scBox.nd
  have fr := T.free
  have fi := fr "int" (by decide +kernel)
  have fa := fr "abs" (by decide +kernel)
  have fl := fr "len" (by decide +kernel)
  refine xss_cons (xs_set 2 (XE.mono (Q := fun d M' => ∃ i : Int, d = .v (.int i) ∧ M' = M) (xe_if (xt_cmp (xe_var 1 rfl (xe_callB (id := "len") (xa_cons (xe_var 0 rfl (xa_nil (cd_lenSc hsc (od_lt ⟨_, rfl, ⟨fun hz => ?_, fun hz => ?_⟩⟩))))) fl (by decide +kernel))))) fun d M' q' => ?_))
  · have hk := of_decide_eq_true hz
    have hk : k < xs.length := by omega
    exact xe_ix (xe_var 0 rfl (xe_var 1 rfl (id_sc (x := xs[k]) hsc (atI_nat (by rw [List.getElem?_map, List.getElem?_eq_getElem hk]; rfl)) ⟨_, rfl, rfl⟩)))
  · exact xe_int ⟨0, rfl, rfl⟩
  · obtain ⟨i, rfl, rfl⟩ := q'
    refine xss_cons (xs_set 3 (xe_bin (xe_toI (xe_bin (xe_bin (xe_bin (xe_bin (xe_toI (xe_var 2 rfl ⟨_, rfl, ?_⟩) fi))))) fi)))
    refine xe_int (od_mod (by decide) (xe_bin (xe_int (xe_var 1 rfl (od_mul (.inl ⟨by decide, by decide⟩) (od_add (xe_int (od_add (xe_int (od_mul (.inr ⟨by decide, by decide⟩) ⟨_, rfl, xe_int (od_mod (by decide) ?_)⟩))))))))))
    refine xss_one (xs_ret (xe_lstM (xa_cons (xe_bin (xe_abs (xe_var 2 rfl ⟨_, rfl, ?_⟩) fa)))))
    refine xe_toIb (xe_cmp (xe_abs (xe_var 2 rfl ⟨_, rfl, ?_⟩) fa)) fi
    refine xe_bin (xe_int (xe_int (od_pow (by refine ⟨by decide, by decide, by decide⟩) (od_ge ⟨_, rfl, ?_⟩))))
    refine od_mul (.inr ?_) (xa_cons (xe_var 3 rfl (xa_cons (xe_int (xa_nil ⟨Nat.le_of_ble_eq_true rfl, fun l => q l _ ⟨_, _, 0, rfl, ?_, ?_, ?_, by decide, by decide⟩⟩)))))
    · exact b2i_sm _
    · exact Int.mul_nonneg (by split <;> omega) (b2i_nn _)
    · exact Int.emod_nonneg _ (by decide)
    · exact Int.emod_lt_of_pos _ (by decide)
/-! ### law -/
abbrev sLw : Stmt := topS 38
def wLw (K : PySem.W.Frag) : Wp := fun ds M Q => ∃ (a : Addr) (xs : List Int), ds = [.v (.ref a)] ∧ SeesS K M a xs ∧ ∀ M', Q (.v (.bl true)) M'
abbrev nLw : List Str := ["_law_script", "_law_k", "_law_box_here", "_law_lap"]
theorem scLw : FnScope nLw ["_law_script"] (defScope sLw) := ⟨rfl, rfl, rfl, by decide +kernel, rfl, by decide +kernel, by decide +kernel⟩
theorem ok_lw (T : Txt K mg CV CF) (Bx : CalG P w K mg base 1 "_law_box" (wBx K)) (Rt : CalG P w K mg base 41 "_law_right" wRt) : BodyOk P w K mg base 41 "law" sLw nLw (wLw K) := by
  intro f cdv A outer s H hr ds M QD h
  obtain ⟨a, xs, rfl, hsc, q⟩ := h
  have hN := scLw.nd
  have hr1 := hr.mono (j := 1) (by omega)
  have frg := T.free "range" (by decide +kernel)
  have fl := T.free "len" (by decide +kernel)
  have fm := T.free "min" (by decide +kernel)
  have fall := T.free "all" (by decide +kernel)
  have hcnt : ((1 : Int) + (if (xs.length : Int) < 1 then (xs.length : Int) else 1)).toNat ≤ 2 := by split <;> omega
  refine xss_cons ?_
  refine xs_for [1] (xi_range1 ?_ frg)
  refine xa_cons (xe_bin (xe_int ?_))
  refine xe_callB (id := "min") (xa_cons (xe_int (xa_cons ?_))) fm (by decide +kernel)
  refine xe_callB (id := "len") (xa_cons (xe_var 0 rfl (xa_nil (cd_lenSc hsc (xa_nil (cd_min2 (od_add (xa_nil ⟨_, rfl, ?_, ?_, ?_⟩)))))))) fl (by decide +kernel)
  · split <;> omega
  · split <;> omega
  refine ⟨fun j ρ' M' => (∃ d1 d2 d3, ρ' = [some (.v (.ref a)), d1, d2, d3]) ∧ SeesS K M' a xs, ⟨⟨_, _, _, rfl⟩, hsc⟩, fun _ _ _ _ _ => trivial, ?_, ?_⟩
  · rintro j d ρ' M' hd ⟨⟨d1, d2, d3, rfl⟩, hsc'⟩
    obtain rfl : d = intD j := by
      have hjl := (List.getElem?_eq_some_iff.mp hd).1
      rw [List.length_map, List.length_range] at hjl
      rw [List.getElem?_map, List.getElem?_range hjl] at hd
      have e : d = D.v (.int (0 + (j : Int))) := (Option.some.inj hd).symm
      rw [Int.zero_add] at e
      exact e
    refine xg_name 1 ?_
    refine xss_cons (xs_set 2 (xe_fn Bx hr1 (xa_cons (xe_var 0 rfl (xa_cons (xe_var 1 rfl (xa_nil ⟨a, xs, j, rfl, hsc', fun l b hb => ?_⟩)))))))
    refine xss_one (xs_if (xt_not (xt_val ?_)))
    refine xe_callB (id := "all") (xa_cons ?_) fall (by decide +kernel)
    refine xe_lc [("_law_lap", 3)] (xi_range1 (xa_cons (xe_int (xa_nil ⟨_, rfl, by omega, by omega, ?_⟩))) frg) (blkOk_by (by rfl))
    refine ⟨fun m acc M2 => acc = List.replicate m (.v (.bl true)) ∧ ∃ b', M2 = (l, .lst b') :: M' ∧ BxOk (360 * m) b', ⟨rfl, b, rfl, hb⟩, ⟨fun _ _ _ _ _ => trivial, fun m acc M2 hm hp => ?_, ?_⟩, ?_⟩
    · rw [hp.1, List.length_replicate]
      have hm : m ≤ ((List.range (4 : Int).toNat).map fun (i : Nat) => D.v (.int (0 + (i : Int)))).length := hm
      rw [List.length_map, List.length_range] at hm
      omega
    · rintro m d acc M2 hd ⟨rfl, b', rfl, hb'⟩
      have hm4 : m < 4 := by
        have := (List.getElem?_eq_some_iff.mp hd).1
        rw [List.length_map, List.length_range] at this
        exact this
      intro s0 H0 C cl0 fp
      refine xg_name 3 ?_
      intro s1 H1 C1 cl1 fp1
      refine xts_nil ⟨fun _ => ?_, fun z => (by cases z)⟩
      intro s2 H2 C2 cl2 fp2
      refine xe_fn Rt hr (xa_cons (xe_var 2 rfl (xa_nil ⟨0, l, b', 360 * m, rfl, rfl, hb', by omega, fun b2 hb2 => ⟨?_, b2, rfl, hb2.mono (by omega)⟩⟩)))
      exact List.replicate_succ'.symm
    · rintro acc M2 ⟨rfl, b', rfl, hb'⟩
      have e4 : List.replicate ((List.range (4 : Int).toNat).map fun (i : Nat) => D.v (.int (0 + (i : Int)))).length (D.v (.bl true)) = [true, true, true, true].map fun i => D.v (.bl i) := rfl
      refine xa_nil (cd_all (bs := [true, true, true, true]) ?_ ⟨_, rfl, ⟨fun hz => (by cases hz), fun _ => xss_nil ⟨⟨_, _, _, rfl⟩, hsc'.cons _⟩⟩⟩)
      rw [e4]
      exact .of
  · rintro ρ' M' ⟨⟨d1, d2, d3, rfl⟩, _⟩
    exact xss_one (xs_ret (xe_bl (q M')))
/-- the law's own promise -/
theorem law_ok {f : Addr} {fd : FuncData} (T : Txt K mg CV CF) (Bx : CalG P w K mg base 1 "_law_box" (wBx K)) (Rt : CalG P w K mg base 41 "_law_right" wRt) (F : FunD K "law" "law" (defArgs sLw) (defBody sLw) (defScope sLw) [] [] f fd) : FnOk P w K mg base CX0 42 f fd ["_law_script"] (spW (wLw K)) :=
  fn_D F scLw (fun ds M QD h => by obtain ⟨_, _, rfl, _⟩ := h; rfl) (fun cdv A outer s H hr Y hY ds M QD hw => by subst hY; exact ok_lw T Bx Rt f cdv A outer s H hr ds M QD hw)
/-- what the end asks of it -/
theorem law_sp {H : Hp} {a : Addr} {ns : List Int} (hO : Only H) (hS : SqL K H a (ns.map L2.V.int)) : spW (wLw K) [.ref a] H (fun v _ => v = .bl true) fun _ _ _ => False := by
  have fin : ∀ M : Mem, (∀ p ∈ M, MoOk (fun _ => none) H p.1 p.2) → (M.map (·.1)).Nodup → SeesS K M a ns → spW (wLw K) [.ref a] H (fun v _ => v = .bl true) fun _ _ _ => False := fun M hM hnd hs =>
    ⟨fun _ => none, [.v (.ref a)], M, fun d _ => d = .v (.bl true), ⟨fun _ _ e => (by cases e), fun p hp => ⟨rfl, hM p hp⟩, hnd⟩, .cons (.v _) .nil, ⟨a, ns, rfl, hs, fun _ => rfl⟩, fun v d M' F' H' q _ _ r => by
      have q : d = .v (.bl true) := q
      subst q
      cases r; rfl⟩
  rcases hS with hr | ⟨o, its, n, h⟩
  · rcases hO a with hn | ⟨o, ys, hf⟩
    · rcases hr with hr | ⟨o, hr⟩ <;> rw [hn] at hr <;> cases hr
    · have e : ys = ns.map L2.V.int := by
        rcases hr with hr | ⟨o, hr⟩ <;> rw [hf] at hr <;> cases hr
        rfl
      subst e
      refine fin [(a, .raw (.frz o (.lst (ns.map L2.V.int))))] (fun p hp => ?_) ?_ (.inl ⟨o, List.mem_singleton_self _⟩)
      · rw [List.mem_singleton] at hp
        subst hp
        exact hf
      · exact List.nodup_cons.mpr ⟨List.not_mem_nil, List.nodup_nil⟩
  · exact fin [] (fun p hp => (by cases hp)) List.nodup_nil (.inr fun H' => .inr ⟨o, its, n, h⟩)
end
end Mm
end
section
set_option maxHeartbeats 0
/-! HeadB: the top's run. -/
namespace Mm
open PySem PySem.Spec PyProof.Rows L2
abbrev R : PySem.W.OpenRow := PySem.W.OpenLaw.row PySem.Challenge.rw_missedmarks_k79_whole_the_first_reads_al
def dG (x : Str) (i : Nat) : He.DefD := ⟨(x, none), x, x, defArgs (topS i), defBody (topS i), defScope (topS i), [], []⟩
def dM (c m q : Str) (i j : Nat) : He.DefD := ⟨(c, some m), m, q, defArgs (inClass (topS i) j), defBody (inClass (topS i) j), defScope (inClass (topS i) j), [], []⟩
def fns : List He.DefD := [dG "as_tuples" 4,
  dM "View" "__init__" "View.__init__" 8 0, dM "View" "__len__" "View.__len__" 8 1, dM "View" "__iter__" "View.__iter__" 8 2, dM "View" "read_time" "View.read_time" 8 3, dM "View" "gaps" "View.gaps" 8 4, dM "View" "held" "View.held" 8 5, dM "View" "many_at" "View.many_at" 8 6,
  dM "Fit" "__init__" "Fit.__init__" 9 0, dM "Fit" "next_of" "Fit.next_of" 9 1, dM "Fit" "aged" "Fit.aged" 9 2, dM "Fit" "can_be" "Fit.can_be" 9 3, dM "Fit" "shared" "Fit.shared" 9 4, dM "Fit" "choices" "Fit.choices" 9 5, dM "Fit" "fill" "Fit.fill" 9 6, dM "Fit" "bounds" "Fit.bounds" 9 7,
  dG "fits" 10, dG "can_be" 11, dG "look_can_be" 12, dG "missed_at" 13, dG "held_by" 14, dG "missed_places" 15,
  dG "_law_box" 17, dG "_law_take" 18, dG "_law_of" 19, dG "_law_bare" 20, dG "_law_leave" 21, dG "_law_swept" 22, dG "_law_heard" 23, dG "_law_did" 24, dG "_law_run" 25, dG "_law_event" 26, dG "_law_moved" 27, dG "_law_table" 28, dG "_law_many" 29, dG "_law_tale" 30, dG "_law_drawn_broom" 31, dG "_law_view" 32, dG "_law_some" 33, dG "_law_held" 34, dG "_law_gaps" 35, dG "_law_good" 36, dG "_law_right" 37, dG "law" 38]
def fas : List He.Fa := [.glo "law", .glo "View", .glo "Fit", .glo "as_tuples", .glo "fits", .glo "can_be", .glo "look_can_be", .glo "missed_at", .glo "held_by", .glo "missed_places",
  .glo "_law_box", .glo "_law_take", .glo "_law_of", .glo "_law_bare", .glo "_law_leave", .glo "_law_swept", .glo "_law_heard", .glo "_law_did", .glo "_law_run", .glo "_law_event", .glo "_law_moved", .glo "_law_table", .glo "_law_many", .glo "_law_tale", .glo "_law_drawn_broom", .glo "_law_view", .glo "_law_some", .glo "_law_held", .glo "_law_gaps", .glo "_law_good", .glo "_law_right",
  .free "len", .free "range", .free "isinstance", .free "list", .free "tuple", .free "sorted", .free "dict", .free "set", .free "min", .free "int", .free "abs", .free "enumerate", .free "any", .free "all", .free "iter",
  .cls "View", .cls "Fit", .mkr "View", .mkr "Fit",
  .noat "View" "own_reads", .noat "View" "own_times", .noat "View" "own_got", .noat "View" "own_rows",
  .noat "Fit" "own_view", .noat "Fit" "own_hold", .noat "Fit" "own_known", .noat "Fit" "own_lows", .noat "Fit" "own_highs", .noat "Fit" "own_left", .noat "Fit" "own_keys", .noat "Fit" "own_marks",
  .meth "View" "__len__", .meth "View" "__iter__", .meth "View" "read_time", .meth "View" "gaps", .meth "View" "held", .meth "View" "many_at",
  .meth "Fit" "next_of", .meth "Fit" "aged", .meth "Fit" "can_be", .meth "Fit" "shared", .meth "Fit" "choices", .meth "Fit" "fill", .meth "Fit" "bounds", .noat "View" "keys"]
def topNames : List Str := (["_wall", "PUT", "DROP", "as_tuples", "CannotBe", "View", "Fit", "fits", "can_be", "look_can_be", "missed_at", "held_by", "missed_places", "_law_box", "_law_take", "_law_of", "_law_bare"] : List Str) ++ (["_law_leave", "_law_swept", "_law_heard", "_law_did", "_law_run", "_law_event", "_law_moved", "_law_table", "_law_many", "_law_tale", "_law_drawn_broom", "_law_view", "_law_some", "_law_held", "_law_gaps", "_law_good", "_law_right"] : List Str)
/-- the class View has its name -/
def shortB (K : PySem.W.Frag) : Bool := match PySem.W.clsIn K (He.ga K "View") with
  | some cd => cd.hasDict && decide (cd.name = ("View" : Str))
  | none => false
theorem shortB_ok {K : PySem.W.Frag} (h : shortB K = true) : Dl.ShortName K (He.ga K "View") := by
  unfold shortB at h
  cases e : PySem.W.clsIn K (He.ga K "View") with
  | none => rw [e] at h; cases h
  | some cd =>
    rw [e] at h
    have h : (cd.hasDict && decide (cd.name = ("View" : Str))) = true := h
    rw [Bool.and_eq_true, decide_eq_true_eq] at h
    refine ⟨cd, e, h.1, ?_, ?_⟩
    · rw [h.2]; decide +kernel
    · rw [h.2]; decide +kernel
abbrev Al2 : Type := He.AlD × Bool
def obs2 (K : PySem.W.Frag) : Al2 := (He.obsD fas fns K, shortB K)
def obs2G (g : Addr → Option Obj) : Al2 := obs2 (He.frG g (He.asD g 6))
def hk : PySem.W.Hook where
  α := Al2
  obs := fun s => obs2G s.heap.get?
  val := fun _ => (He.valD fns, true)
  says := fun _ h => ∃ K : PySem.W.Frag, K.In h ∧ He.SaysD fas fns K ∧ shortB K = true
  of := fun _ s e => ⟨_, He.frG_in (as := He.asD s.heap.get? 6), congrArg Prod.fst e, congrArg Prod.snd e⟩
  keeps := fun _ _ _ ⟨K, hK, c⟩ k => ⟨K, PySem.W.Frag.In.keeps hK k, c⟩
def ob (s : PySem.W.SharedT) : hk.α := obs2G (HandSHeadRun.getT s)
theorem ob_eq (s : PySem.W.SharedT) : ob s = hk.obs s.abs := by
  have e : HandSHeadRun.getT s = s.abs.heap.get? := funext (HandSHeadRun.getT_eq s)
  show obs2G (HandSHeadRun.getT s) = obs2G s.abs.heap.get?
  rw [e]
theorem run (w : World) : HandSHeadRun.RunEq R (PySem.W.view R.prog [38]) hk ob 4000 topNames w := by
  intro os
  kernel_rfl
end Mm
end
set_option maxHeartbeats 4000000
/-! HeadC: each def's promise from the top's facts; the end. -/
namespace Mm
open PySem PySem.Spec PyProof.Rows L2
section
variable {K : PySem.W.Frag} {h : Heap} {mg : Str → Option Value}
theorem fact_at (c : He.SaysD fas fns K) (i : Nat) (f : He.Fa) (e : fas[i]? = some f) : f.ok K = true := c.fact i e
theorem takeG (X : K.In h) (G : h.Ns mainGlobals mg) (c : He.SaysD fas fns K) (i j k : Nat) (x : Str) (hi : fns[i]? = some (dG x k) := by rfl) (hj : fas[j]? = some (.glo x) := by rfl) : DefG K mg x (topS k) := by
  obtain ⟨fd, F⟩ := c.def_ i hi
  exact ⟨_, fd, F, He.glo_ok X G (c.fact j hj)⟩
theorem takeM (c : He.SaysD fas fns K) (i j a b : Nat) (x m q : Str) (hi : fns[i]? = some (dM x m q a b) := by rfl) (hj : fas[j]? = some (.meth x m) := by rfl) : DefM K (He.ga K x) m q (inClass (topS a) b) := by
  obtain ⟨fd, F⟩ := c.def_ i hi
  exact ⟨_, fd, F, He.meth_ok (c.fact j hj)⟩
theorem takeC (X : K.In h) (G : h.Ns mainGlobals mg) (c : He.SaysD fas fns K) (i j l a b : Nat) (x q : Str) (hi : fns[i]? = some (dM x "__init__" q a b) := by rfl) (hj : fas[j]? = some (.mkr x) := by rfl) (hl : fas[l]? = some (.glo x) := by rfl) : DefC K mg (He.ga K x) x q (inClass (topS a) b) := by
  obtain ⟨fd, F⟩ := c.def_ i hi
  exact ⟨_, fd, F, He.mkr_ok (c.fact j hj), He.glo_ok X G (c.fact l hl)⟩
theorem take_txt (X : K.In h) (G : h.Ns mainGlobals mg) (c : He.SaysD fas fns K) : Txt K mg (He.ga K "View") (He.ga K "Fit") where
  clV := He.cls_ok (c.fact 46 (f := .cls "View") rfl)
  clF := He.cls_ok (c.fact 47 (f := .cls "Fit") rfl)
  naV := fun f hf => by
    have a0 := He.noat_ok (c.fact 50 (f := .noat "View" "own_reads") rfl)
    have a1 := He.noat_ok (c.fact 51 (f := .noat "View" "own_times") rfl)
    have a2 := He.noat_ok (c.fact 52 (f := .noat "View" "own_got") rfl)
    have a3 := He.noat_ok (c.fact 53 (f := .noat "View" "own_rows") rfl)
    simp only [nsV, List.mem_cons, List.not_mem_nil, or_false] at hf
    rcases hf with rfl | rfl | rfl | rfl
    · exact a0
    · exact a1
    · exact a2
    · exact a3
  naF := fun f hf => by
    have a0 := He.noat_ok (c.fact 54 (f := .noat "Fit" "own_view") rfl)
    have a1 := He.noat_ok (c.fact 55 (f := .noat "Fit" "own_hold") rfl)
    have a2 := He.noat_ok (c.fact 56 (f := .noat "Fit" "own_known") rfl)
    have a3 := He.noat_ok (c.fact 57 (f := .noat "Fit" "own_lows") rfl)
    have a4 := He.noat_ok (c.fact 58 (f := .noat "Fit" "own_highs") rfl)
    have a5 := He.noat_ok (c.fact 59 (f := .noat "Fit" "own_left") rfl)
    have a6 := He.noat_ok (c.fact 60 (f := .noat "Fit" "own_keys") rfl)
    have a7 := He.noat_ok (c.fact 61 (f := .noat "Fit" "own_marks") rfl)
    simp only [nsF, List.mem_cons, List.not_mem_nil, or_false] at hf
    rcases hf with rfl | rfl | rfl | rfl | rfl | rfl | rfl | rfl
    · exact a0
    · exact a1
    · exact a2
    · exact a3
    · exact a4
    · exact a5
    · exact a6
    · exact a7
  free := fun x hx => by
    have fr : ∀ (i : Nat) (x : Str), fas[i]? = some (.free x) → mg x = none := fun i x e => He.free_ok X G (c.fact i e)
    simp only [List.mem_cons, List.not_mem_nil, or_false] at hx
    rcases hx with rfl | rfl | rfl | rfl | rfl | rfl | rfl | rfl | rfl | rfl | rfl | rfl | rfl | rfl | rfl
    · exact fr 31 _ rfl
    · exact fr 32 _ rfl
    · exact fr 33 _ rfl
    · exact fr 34 _ rfl
    · exact fr 35 _ rfl
    · exact fr 36 _ rfl
    · exact fr 37 _ rfl
    · exact fr 38 _ rfl
    · exact fr 39 _ rfl
    · exact fr 40 _ rfl
    · exact fr 41 _ rfl
    · exact fr 42 _ rfl
    · exact fr 43 _ rfl
    · exact fr 44 _ rfl
    · exact fr 45 _ rfl
/-- the law keeps its promise, over every base -/
theorem law_all {P : Program} {w : World} (X : K.In h) (G : h.Ns mainGlobals mg) (c : He.SaysD fas fns K) (sn : shortB K = true) {fd : FuncData} (F : FunD K "law" "law" (defArgs sLw) (defBody sLw) (defScope sLw) [] [] (He.ga K "law") fd) (base : Heap) :
    FnOk P w K mg base CX0 42 (He.ga K "law") fd ["_law_script"] (Dl.spW (wLw K)) := by
  have T := take_txt X G c
  have As := ok_as (P := P) (w := w) (base := base) T (takeG X G c 0 3 4 "as_tuples")
  have Rt' := ok_rt (P := P) (w := w) (base := base) T (takeM c 4 64 8 3 "View" "read_time" "View.read_time")
  have Vl := ok_vl (P := P) (w := w) (base := base) T (takeM c 2 62 8 1 "View" "__len__" "View.__len__")
  have It := ok_it (P := P) (w := w) (base := base) T (takeM c 3 63 8 2 "View" "__iter__" "View.__iter__")
  have Gp := ok_gp T Vl (takeM c 5 65 8 4 "View" "gaps" "View.gaps")
  have Ma := ok_ma (P := P) (w := w) (base := base) T (takeM c 7 67 8 6 "View" "many_at" "View.many_at")
  have Hd := ok_hd T It (takeM c 6 66 8 5 "View" "held" "View.held")
  have Vi := ok_vi T ((As 5).mono (by omega)) (takeC X G c 1 48 1 8 0 "View" "View.__init__")
  have Nx := ok_nx (P := P) (w := w) (base := base) T (takeM c 9 68 9 1 "Fit" "next_of" "Fit.next_of")
  have Ag := ok_ag T Rt' (takeM c 10 69 9 2 "Fit" "aged" "Fit.aged")
  have Cb := ok_cb T Ma (takeM c 11 70 9 3 "Fit" "can_be" "Fit.can_be")
  have Sh := ok_sh (P := P) (w := w) (base := base) T (takeM c 12 71 9 4 "Fit" "shared" "Fit.shared")
  have Fi := ok_fi T It Rt' Gp Nx Ag (takeC X G c 8 49 2 9 0 "Fit" "Fit.__init__")
  have Ch := ok_ch T It Vl Rt' Ag Sh (takeM c 13 72 9 5 "Fit" "choices" "Fit.choices")
  have Fl := ok_fl T Cb Ch (takeM c 14 73 9 6 "Fit" "fill" "Fit.fill") 30
  have Bd := ok_bd T Fl (takeM c 15 74 9 7 "Fit" "bounds" "Fit.bounds")
  have Ft := ok_ft T Ma Fi Bd (takeG X G c 16 4 10 "fits")
  have Cn := ok_cn T Vi Ft (takeG X G c 17 5 11 "can_be")
  have Lk := ok_lk T Vi Cn (takeG X G c 18 6 12 "look_can_be")
  have Ms := ok_ms T Hd Gp Ft (takeG X G c 19 7 13 "missed_at")
  have Mp := ok_mp T Lk Ms (takeG X G c 21 9 15 "missed_places")
  have Hb := ok_hb T (shortB_ok sn) (He.noat_ok (c.fact 75 (f := .noat "View" "keys") rfl)) It Vi Hd (takeG X G c 20 8 14 "held_by")
  have Bx := ok_bx (P := P) (w := w) (base := base) T (takeG X G c 22 10 17 "_law_box")
  have Tk := ok_tk (P := P) (w := w) (base := base) T (takeG X G c 23 11 18 "_law_take")
  have Of := ok_of T Tk (takeG X G c 24 12 19 "_law_of")
  have Br := ok_br (P := P) (w := w) (base := base) (takeG X G c 25 13 20 "_law_bare")
  have Lv := ok_lv (P := P) (w := w) (base := base) T (takeG X G c 26 14 21 "_law_leave")
  have Sw := ok_sw T Lv (takeG X G c 27 15 22 "_law_swept")
  have Hr := ok_hr (P := P) (w := w) (base := base) T (takeG X G c 28 16 23 "_law_heard")
  have Dd := ok_dd T Hr (takeG X G c 29 17 24 "_law_did")
  have Rn := ok_rn T Br Lv Sw Dd (takeG X G c 30 18 25 "_law_run")
  have Ev' := ok_ev T Tk Of (takeG X G c 31 19 26 "_law_event")
  have Mv := ok_mv (P := P) (w := w) (base := base) T (takeG X G c 32 20 27 "_law_moved")
  have Tb := ok_tb T Ev' Mv (takeG X G c 33 21 28 "_law_table")
  have My := ok_my (P := P) (w := w) (base := base) T (takeG X G c 34 22 29 "_law_many")
  have Tl := ok_tl Tb (takeG X G c 35 23 30 "_law_tale")
  have Db := ok_db T Tk My (takeG X G c 36 24 31 "_law_drawn_broom")
  have Vw := ok_vw T Rn (takeG X G c 37 25 32 "_law_view")
  have Sm := ok_sm T Tk Of Tl Db Vw (takeG X G c 38 26 33 "_law_some")
  have Lh' := ok_lh (P := P) (w := w) (base := base) (takeG X G c 39 27 34 "_law_held")
  have Lg := ok_lg (P := P) (w := w) (base := base) T (takeG X G c 40 28 35 "_law_gaps")
  have Gd := ok_gd T Sm Lg (takeG X G c 41 29 36 "_law_good")
  have Rt := ok_rt' T Gd Lh' Cn Hb Mp (takeG X G c 42 30 37 "_law_right")
  exact law_ok T Bx Rt F
/-- what the end takes -/
theorem facts {P : Program} {w : World} (X : K.In h) (G : h.Ns mainGlobals mg) {f : Addr} (hfa : mg ("law" : Str) = some (.ref f)) (c : He.SaysD fas fns K) (sn : shortB K = true) :
    ∃ fd : FuncData, (∀ (s : Shared) (v : Value), BindsTo s fd ⟨[v], []⟩ [("_law_script", v)]) ∧ ∀ base : Heap, FnOk P w K mg base CX0 42 f fd ["_law_script"] (Dl.spW (wLw K)) := by
  obtain ⟨fd, F⟩ := c.def_ 43 (d := dG "law" 38) rfl
  have e := hfa.symm.trans (He.glo_ok X G (c.fact 0 (f := .glo "law") rfl))
  cases e
  have b := FunD.bindsA (ps := ["_law_script"]) F fun _ _ _ _ _ _ us hl => match us, hl with | [_], _ => rfl
  exact ⟨fd, fun s v => b s [v] rfl, fun base => law_all X G c sn F base⟩
end
end Mm
open PySem PySem.W PySem.Calls PyProof.Rows
theorem PySem.Challenge.cw_missedmarks_k79_whole_the_first_reads_al_holds : PySem.Challenge.rw_missedmarks_k79_whole_the_first_reads_al.Holds := by
  w_on; o_law
  refine HandSHeadRun.head_any (r := Mm.R) (q := view (OpenLaw.row PySem.Challenge.rw_missedmarks_k79_whole_the_first_reads_al).prog [38]) (H := Mm.hk) (ob := Mm.ob) (M := 4000) (loose := Mm.topNames) (d := HandSHeadRun.topDef (OpenLaw.row PySem.Challenge.rw_missedmarks_k79_whole_the_first_reads_al).prog 38) (kwd := []) Mm.ob_eq
    (by kernel_rfl) (fun s => by kernel_rfl) Mm.run (by kernel_rfl) (by kernel_rfl) (by kernel_rfl) (by rfl) (by first | assumption | decide +kernel) (by decide +kernel) ⟨rfl, rfl, rfl, rfl, rfl, by decide +kernel⟩ ?hw ?hc
  case hw => w_witness2
  case hc =>
    refine L2.walk_ofE (l := PySem.Challenge.rw_missedmarks_k79_whole_the_first_reads_al) (n := 63) (k := 42) (x := "_law_script") (CX := L2.CX0) rfl (by decide) (by kernel_rfl) ⟨rfl, by decide, by decide⟩ ?F (fun _ _ _ _ z => z)
    intro w mg fa h Y G hmg0
    obtain ⟨K, KX, c, sn⟩ := Y
    have hmg : mg ("law" : PySem.Str) = some (.ref fa) := by
      have e : (HandSHeadRun.topDef (OpenLaw.row PySem.Challenge.rw_missedmarks_k79_whole_the_first_reads_al).prog 38).name = ("law" : PySem.Str) := by kernel_rfl
      rw [← e]
      exact hmg0
    obtain ⟨fd, hb, hF⟩ := Mm.facts (P := (PySem.Challenge.rw_missedmarks_k79_whole_the_first_reads_al).prog) (w := w) KX G hmg c sn
    exact ⟨K, fd, Dl.spW (Mm.wLw K), KX, hb, fun H a ns hl hO hS => Mm.law_sp hO hS, fun base _ _ => hF base⟩
