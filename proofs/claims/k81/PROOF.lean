import PyProof.Rows.All
import Wide.All
import OpenK.AllK
import Wide.FinOn
import HandS.ForMost
import HandS.HeadHook1
import HandS.TupAny
import HandS.Deep
import HandS.IsInst
import HandS.Wide
import HandS.WideBits
import HandS.Exc
import HandS.ExcOwn
import HandS.WordsExc
import HandS.TryOnly
import HandS.Defaults
import HandS.EndBits
import HandS.Style
import PyProof.ReprRoads
import HandS.RaiseMore
import HandS.Words
import HandS.Head0
import HandS.Head1
import HandS.Head2
import HandS.HeadEnd
import HandS.HeadHook2
import PySem.Challenge.RW_giftstreams_k81_rules_and_tests
section
set_option Elab.async false
set_option linter.all false
set_option maxRecDepth 100000
set_option maxHeartbeats 1000000
namespace G
open PySem PySem.Spec PyProof.Rows L2

/-! ## values, cells, results -/
/-- a value: tuples and finished lists by value, what is still changed by a cell's number -/
inductive D where
  | non
  | bl (b : Bool)
  | int (i : Int)
  | str (x : Str)
  | tup (l : List D)
  | lst (l : List D)
  | cell (i : Nat)
  | dct0
  | exc (c : Str)
  deriving Inhabited
inductive Cell where
  | lst (l : List D)
  | ro (l : List D)
  | dct (l : List (Key × D))
  | ins (C : Str) (fs : List (Str × D))
  | dead
abbrev Store := List Cell
abbrev Mp := Nat → Addr
inductive Res (α : Type) where
  | ok (a : α) (st : Store)
  | err (c : Str) (st : Store)
  | bad
abbrev M (α : Type) := Store → Res α
def M.ret {α : Type} (a : α) : M α := fun st => .ok a st
def M.andThen {α β : Type} (x : M α) (f : α → M β) : M β := fun st => match x st with
  | .ok a st' => f a st'
  | .err c st' => .err c st'
  | .bad => .bad
def M.stuck {α : Type} : M α := fun _ => .bad
instance : Monad M where
  pure := M.ret
  bind := M.andThen
theorem bind_ok {α β : Type} {x : M α} {f : α → M β} {st st' : Store} {a : α} (h : x st = .ok a st') : (x >>= f) st = f a st' := by
  show M.andThen x f st = _
  unfold M.andThen; rw [h]
theorem pure_app {α : Type} (a : α) (st : Store) : (pure a : M α) st = .ok a st := rfl

/-! ## how a heap bears values and cells -/
def Cell.live : Cell → Prop
  | .dead => False
  | .ro _ => False
  | _ => True
/-- the addresses of the cells that may still be written -/
def Own (m : Mp) (st : Store) (a : Addr) : Prop := ∃ i c, st[i]? = some c ∧ c.live ∧ m i = a
/-- a list that is handed in: it stands still -/
def RoL (K : PySem.W.Frag) (H : Hp) (a : Addr) (xs : List V) : Prop := (∃ o, H a = some (.frz o (.lst xs))) ∨ ∃ (o : Obj) (its : Array Value) (n : Nat), K.lookup a = some o ∧ o.cls = .type "list" ∧ o.dict = none ∧ o.data = .seq its n ∧ its.size ≤ sizeLine ∧ Vals xs its.toList
theorem RoL.sq {K : PySem.W.Frag} {H : Hp} {a : Addr} {xs : List V} (h : RoL K H a xs) : SqL K H a xs := by
  rcases h with h | h
  · exact .inl (.inr h)
  · exact .inr h
/-- what the two relations need of the state -/
structure Wd where
  K : PySem.W.Frag
  m : Mp
  st : Store
  H : Hp
  /-- addresses at which no finished value stands (a list that a comprehension grows) -/
  rv : List Addr
/-- what is tracked and written by no cell -/
def Fz (w : Wd) (a : Addr) (o : HO) : Prop := w.H a = some o ∧ ¬ Own w.m w.st a
/-- .. and may be a value -/
def Fr (w : Wd) (a : Addr) (o : HO) : Prop := Fz w a o ∧ a ∉ w.rv
mutual
def Rep (w : Wd) : D → V → Prop
  | .non, v => v = .non
  | .bl b, v => v = .bl b
  | .int i, v => v = .int i
  | .str x, v => v = .str x
  | .tup l, v => ∃ a xs, v = .ref a ∧ SqT w.K w.H a xs ∧ Reps w l xs ∧ l.length ≤ sizeLine
  | .lst l, v => ∃ a xs, v = .ref a ∧ Fr w a (.lst xs) ∧ Reps w l xs ∧ l.length ≤ sizeLine
  | .cell i, v => v = .ref (w.m i) ∧ i < w.st.length
  | .dct0, v => ∃ a, v = .ref a ∧ Fr w a (.dK [])
  | .exc _, _ => False
def Reps (w : Wd) : List D → List V → Prop
  | [], vs => vs = []
  | d :: ds, vs => ∃ x xs, vs = x :: xs ∧ Rep w d x ∧ Reps w ds xs
end
def RepK (w : Wd) : List (Key × D) → List (Key × V) → Prop
  | [], vs => vs = []
  | d :: ds, vs => ∃ x xs, vs = x :: xs ∧ x.1 = d.1 ∧ Rep w d.2 x.2 ∧ RepK w ds xs
def RepF (w : Wd) : List (Str × D) → List (Str × V) → Prop
  | [], vs => vs = []
  | d :: ds, vs => ∃ x xs, vs = x :: xs ∧ x.1 = d.1 ∧ Rep w d.2 x.2 ∧ RepF w ds xs
def CellOk (w : Wd) (a : Addr) : Cell → Prop
  | .lst l => ∃ xs, w.H a = some (.lst xs) ∧ Reps w l xs ∧ l.length ≤ sizeLine
  | .ro l => ∃ xs, RoL w.K w.H a xs ∧ Reps w l xs ∧ l.length ≤ sizeLine
  | .dct l => ∃ kvs, w.H a = some (.dK kvs) ∧ RepK w l kvs
  | .ins C fs => ∃ dx gs, w.H a = some (.ins (He.ga w.K C) dx gs) ∧ RepF w fs gs
  | .dead => True
structure RS (w : Wd) : Prop where
  cells : ∀ i c, w.st[i]? = some c → CellOk w (w.m i) c
  inj : ∀ i j c c', w.st[i]? = some c → w.st[j]? = some c' → c.live → c'.live → w.m i = w.m j → i = j
  rvs : ∀ a ∈ w.rv, w.H a ≠ none
  rvo : ∀ a ∈ w.rv, ¬ Own w.m w.st a
structure Aft (w w' : Wd) : Prop where
  k : w'.K = w.K
  rv : w'.rv = w.rv
  rs : RS w'
  ext : ∀ i, i < w.st.length → w'.m i = w.m i
  len : w.st.length ≤ w'.st.length
  tup : ∀ a xs, SqT w.K w.H a xs → SqT w'.K w'.H a xs
  fz : ∀ a o, Fz w a o → Fz w' a o
theorem Aft.refl {w : Wd} (r : RS w) : Aft w w := ⟨rfl, rfl, r, fun _ _ => rfl, Nat.le_refl _, fun _ _ h => h, fun _ _ h => h⟩
theorem Aft.trans {w w1 w2 : Wd} (a : Aft w w1) (b : Aft w1 w2) : Aft w w2 :=
  ⟨b.k.trans a.k, b.rv.trans a.rv, b.rs, fun i h => (b.ext i (Nat.lt_of_lt_of_le h a.len)).trans (a.ext i h), Nat.le_trans a.len b.len, fun x xs h => b.tup x xs (a.tup x xs h), fun x xs h => b.fz x xs (a.fz x xs h)⟩
/-- what values need of the change -/
structure Bears (w w' : Wd) : Prop where
  ext : ∀ i, i < w.st.length → w'.m i = w.m i
  len : w.st.length ≤ w'.st.length
  tup : ∀ a xs, SqT w.K w.H a xs → SqT w'.K w'.H a xs
  fr : ∀ a o, Fr w a o → Fr w' a o
theorem Aft.bears {w w' : Wd} (a : Aft w w') : Bears w w' := ⟨a.ext, a.len, a.tup, fun x o h => ⟨a.fz x o h.1, by rw [a.rv]; exact h.2⟩⟩
theorem Bears.trans {w w1 w2 : Wd} (a : Bears w w1) (b : Bears w1 w2) : Bears w w2 :=
  ⟨fun i h => (b.ext i (Nat.lt_of_lt_of_le h a.len)).trans (a.ext i h), Nat.le_trans a.len b.len, fun x xs h => b.tup x xs (a.tup x xs h), fun x xs h => b.fr x xs (a.fr x xs h)⟩
mutual
theorem Bears.rep {w w' : Wd} (b : Bears w w') : ∀ (d : D) (v : V), Rep w d v → Rep w' d v
  | .non, v, h => by simpa only [Rep] using h
  | .bl _, v, h => by simpa only [Rep] using h
  | .int _, v, h => by simpa only [Rep] using h
  | .str _, v, h => by simpa only [Rep] using h
  | .tup l, v, h => by
    simp only [Rep] at h ⊢
    obtain ⟨a, xs, e, s, r, hl⟩ := h
    exact ⟨a, xs, e, b.tup a xs s, b.reps l xs r, hl⟩
  | .lst l, v, h => by
    simp only [Rep] at h ⊢
    obtain ⟨a, xs, e, s, r, hl⟩ := h
    exact ⟨a, xs, e, b.fr a _ s, b.reps l xs r, hl⟩
  | .cell i, v, h => by
    simp only [Rep] at h ⊢
    exact ⟨h.1.trans (by rw [b.ext i h.2]), Nat.lt_of_lt_of_le h.2 b.len⟩
  | .dct0, v, h => by
    simp only [Rep] at h ⊢
    obtain ⟨a, e, s⟩ := h
    exact ⟨a, e, b.fr a _ s⟩
  | .exc _, v, h => by simp only [Rep] at h
theorem Bears.reps {w w' : Wd} (b : Bears w w') : ∀ (l : List D) (vs : List V), Reps w l vs → Reps w' l vs
  | [], vs, h => by simpa only [Reps] using h
  | d :: ds, vs, h => by
    simp only [Reps] at h ⊢
    obtain ⟨x, xs, e, r, rs⟩ := h
    exact ⟨x, xs, e, b.rep d x r, b.reps ds xs rs⟩
end
theorem Bears.repK {w w' : Wd} (b : Bears w w') : ∀ (l : List (Key × D)) (vs : List (Key × V)), RepK w l vs → RepK w' l vs
  | [], vs, h => h
  | d :: ds, vs, h => by
    obtain ⟨x, xs, e, k, r, rs⟩ := h
    exact ⟨x, xs, e, k, b.rep _ _ r, b.repK ds xs rs⟩
theorem Bears.repF {w w' : Wd} (b : Bears w w') : ∀ (l : List (Str × D)) (vs : List (Str × V)), RepF w l vs → RepF w' l vs
  | [], vs, h => h
  | d :: ds, vs, h => by
    obtain ⟨x, xs, e, k, r, rs⟩ := h
    exact ⟨x, xs, e, k, b.rep _ _ r, b.repF ds xs rs⟩
theorem Aft.rep {w w' : Wd} (a : Aft w w') {d : D} {v : V} (h : Rep w d v) : Rep w' d v := a.bears.rep d v h
theorem Aft.reps {w w' : Wd} (a : Aft w w') {d : List D} {v : List V} (h : Reps w d v) : Reps w' d v := a.bears.reps d v h
end G
end

section
set_option Elab.async false
set_option linter.all false
set_option autoImplicit false
set_option maxRecDepth 100000
set_option maxHeartbeats 1000000
namespace G
open PySem PySem.Spec PyProof.Rows L2
/-! ## changes of the heap -/
section
variable {K : PySem.W.Frag} {m : Mp} {st : Store} {H H' : Hp} {p : Addr} {o : HO} {rv : List Addr}
theorem sqT_same (e : Same H H') {a : Addr} {xs : List V} (h : SqT K H a xs) : SqT K H' a xs := by
  rcases h with (h | ⟨o, h⟩) | h
  · exact .inl (.inl (e _ _ h))
  · exact .inl (.inr ⟨o, e _ _ h⟩)
  · exact .inr h
theorem roL_same (e : Same H H') {a : Addr} {xs : List V} (h : RoL K H a xs) : RoL K H' a xs := by
  rcases h with ⟨o, h⟩ | h
  · exact .inl ⟨o, e _ _ h⟩
  · exact .inr h
theorem same_upd (h : H p = none) : Same H (upd H p o) := fun b u e => by rw [upd_ne (ne_of_none e h)]; exact e
theorem bears_same (e : Same H H') : Bears ⟨K, m, st, H, rv⟩ ⟨K, m, st, H', rv⟩ := ⟨fun _ _ => rfl, Nat.le_refl _, fun _ _ h => sqT_same e h, fun _ _ h => ⟨⟨e _ _ h.1.1, h.1.2⟩, h.2⟩⟩
/-- what stands at the address of a cell that may be written -/
def hoLive : HO → Prop
  | .lst _ => True
  | .dK _ => True
  | .ins _ _ _ => True
  | _ => False
/-- a cell's words are borne -/
theorem cell_bears {w w' : Wd} (b : Bears w w') {a : Addr} {c : Cell} (hl : ∀ o, w.H a = some o → hoLive o → w'.H a = some o) (hr : ∀ xs, RoL w.K w.H a xs → RoL w'.K w'.H a xs) (hk : w'.K = w.K) (h : CellOk w a c) : CellOk w' a c := by
  cases c with
  | lst l => obtain ⟨xs, h, r, z⟩ := h; exact ⟨xs, hl _ h trivial, b.reps _ _ r, z⟩
  | ro l => obtain ⟨xs, h, r, z⟩ := h; exact ⟨xs, hr xs h, b.reps _ _ r, z⟩
  | dct l => obtain ⟨xs, h, r⟩ := h; exact ⟨xs, hl _ h trivial, b.repK _ _ r⟩
  | ins C fs => obtain ⟨dx, gs, h, r⟩ := h; exact ⟨dx, gs, by rw [hk]; exact hl _ h trivial, b.repF _ _ r⟩
  | dead => trivial
theorem none_same (e : Same H H') {a : Addr} (n : H a ≠ none) (z : H' a = none) : False := by
  cases q : H a with
  | none => exact n q
  | some o => rw [e _ _ q] at z; cases z
theorem fz_same (e : Same H H') {a : Addr} {o : HO} (h : Fz ⟨K, m, st, H, rv⟩ a o) : Fz ⟨K, m, st, H', rv⟩ a o := ⟨e _ _ h.1, h.2⟩
theorem aft_same (r : RS ⟨K, m, st, H, rv⟩) (e : Same H H') : Aft ⟨K, m, st, H, rv⟩ ⟨K, m, st, H', rv⟩ :=
  ⟨rfl, rfl, ⟨fun i c h => cell_bears (bears_same e) (fun o h _ => e _ _ h) (fun _ h => roL_same e h) rfl (r.cells i c h), r.inj, fun a ha z => none_same e (r.rvs a ha) z, r.rvo⟩, fun _ _ => rfl, Nat.le_refl _, (bears_same e).tup, fun _ _ h => fz_same e h⟩
theorem aft_new (r : RS ⟨K, m, st, H, rv⟩) (h : H p = none) : Aft ⟨K, m, st, H, rv⟩ ⟨K, m, st, upd H p o, rv⟩ := aft_same r (same_upd h)
theorem live_at (r : RS ⟨K, m, st, H, rv⟩) {i : Nat} {c : Cell} (h : st[i]? = some c) (l : c.live) : ∃ o, H (m i) = some o ∧ hoLive o := by
  have q := r.cells i c h
  cases c with
  | lst l => obtain ⟨xs, e, _⟩ := q; exact ⟨_, e, trivial⟩
  | dct l => obtain ⟨xs, e, _⟩ := q; exact ⟨_, e, trivial⟩
  | ins C fs => obtain ⟨dx, gs, e, _⟩ := q; exact ⟨_, e, trivial⟩
  | ro l => exact l.elim
  | dead => exact l.elim
/-- a new cell at a new address -/
def mpNew (m : Mp) (n : Nat) (p : Addr) : Mp := fun i => if i = n then p else m i
theorem mpNew_old {n i : Nat} (h : i < n) : mpNew m n p i = m i := if_neg (by omega)
theorem mpNew_new {n : Nat} : mpNew m n p n = p := if_pos rfl
theorem at_new {c c' : Cell} {i : Nat} (e : (st ++ [c])[i]? = some c') : (i < st.length ∧ st[i]? = some c') ∨ (i = st.length ∧ c' = c) := by
  by_cases hi : i < st.length
  · rw [List.getElem?_append_left hi] at e
    exact .inl ⟨hi, e⟩
  · have hi2 : i < (st ++ [c]).length := (List.getElem?_eq_some_iff.mp e).1
    rw [List.length_append] at hi2
    have e2 : i = st.length := by simp at hi2; omega
    subst e2
    rw [List.getElem?_append_right (Nat.le_refl _)] at e
    simp at e
    exact .inr ⟨rfl, e.symm⟩
theorem own_new {c : Cell} {a : Addr} (h : Own (mpNew m st.length p) (st ++ [c]) a) : Own m st a ∨ a = p := by
  obtain ⟨i, c', e, l, q⟩ := h
  rcases at_new e with ⟨hi, e⟩ | ⟨hi, e⟩
  · rw [mpNew_old hi] at q
    exact .inl ⟨i, c', e, l, q⟩
  · rw [hi, mpNew_new] at q
    exact .inr q.symm
theorem fz_cell {c : Cell} (e : Same H H') (hp : H p = none) (a : Addr) (o : HO) (h : Fz ⟨K, m, st, H, rv⟩ a o) : Fz ⟨K, mpNew m st.length p, st ++ [c], H', rv⟩ a o := ⟨e _ _ h.1, fun z => by
    rcases own_new z with z | z
    · exact h.2 z
    · subst z; exact absurd (h.1.symm.trans hp) (by simp)⟩
theorem bears_cell {c : Cell} (e : Same H H') (hp : H p = none) : Bears ⟨K, m, st, H, rv⟩ ⟨K, mpNew m st.length p, st ++ [c], H', rv⟩ where
  ext := fun i h => mpNew_old h
  len := by simp
  tup := fun _ _ h => sqT_same e h
  fr := fun a o h => ⟨fz_cell e hp a o h.1, h.2⟩
theorem aft_cell {c : Cell} (r : RS ⟨K, m, st, H, rv⟩) (e : Same H H') (hp : H p = none) (ok : CellOk ⟨K, mpNew m st.length p, st ++ [c], H', rv⟩ p c) : Aft ⟨K, m, st, H, rv⟩ ⟨K, mpNew m st.length p, st ++ [c], H', rv⟩ := by
  have b := bears_cell (K := K) (m := m) (st := st) (c := c) (rv := rv) e hp
  refine ⟨rfl, rfl, ⟨fun i c' h => ?_, fun i j c1 c2 h1 h2 l1 l2 q => ?_, fun a ha z => ?_, fun a ha z => ?_⟩, b.ext, b.len, b.tup, fz_cell e hp⟩
  · show CellOk _ (mpNew m st.length p i) c'
    rcases at_new h with ⟨hi, h⟩ | ⟨hi, hc⟩
    · rw [mpNew_old hi]
      exact cell_bears b (fun o h _ => e _ _ h) (fun _ h => roL_same e h) rfl (r.cells i c' h)
    · subst hi hc
      rw [mpNew_new]
      exact ok
  · have q : mpNew m st.length p i = mpNew m st.length p j := q
    have nw : ∀ {i : Nat} {c1 : Cell}, i < st.length → st[i]? = some c1 → c1.live → m i ≠ p := fun {i c1} hi h1 l1 z => by
      obtain ⟨o, ho, _⟩ := live_at r h1 l1
      rw [z, hp] at ho
      cases ho
    rcases at_new h1 with ⟨hi, h1⟩ | ⟨hi, h1⟩
    · rw [mpNew_old hi] at q
      rcases at_new h2 with ⟨hj, h2⟩ | ⟨hj, h2⟩
      · rw [mpNew_old hj] at q
        exact r.inj i j c1 c2 h1 h2 l1 l2 q
      · rw [hj, mpNew_new] at q
        exact absurd q (nw hi h1 l1)
    · rw [hi, mpNew_new] at q
      rcases at_new h2 with ⟨hj, h2⟩ | ⟨hj, h2⟩
      · rw [mpNew_old hj] at q
        exact absurd q.symm (nw hj h2 l2)
      · rw [hi, hj]
  · cases q : H a with
    | none => exact r.rvs a ha q
    | some o => have z : H' a = none := z; rw [e _ _ q] at z; cases z
  · rcases own_new z with z | z
    · exact r.rvo a ha z
    · subst z; exact r.rvs a ha hp
/-- a cell is written -/
theorem at_set {c c' c0 : Cell} {i j : Nat} (h0 : st[i]? = some c0) (e : (st.set i c)[j]? = some c') : (j ≠ i ∧ st[j]? = some c') ∨ (j = i ∧ c' = c) := by
  by_cases hj : j = i
  · subst hj
    have hl : j < st.length := (List.getElem?_eq_some_iff.mp h0).1
    rw [List.getElem?_set_self hl] at e
    exact .inr ⟨rfl, (Option.some.inj e).symm⟩
  · rw [List.getElem?_set_ne (Ne.symm hj)] at e
    exact .inl ⟨hj, e⟩
theorem own_set {c c0 : Cell} {i : Nat} {a : Addr} (h0 : st[i]? = some c0) (l0 : c0.live) (h : Own m (st.set i c) a) : Own m st a := by
  obtain ⟨j, c', e, l, q⟩ := h
  rcases at_set h0 e with ⟨hj, e⟩ | ⟨hj, e⟩
  · exact ⟨j, c', e, l, q⟩
  · exact ⟨i, c0, h0, l0, by rw [← hj]; exact q⟩
theorem fz_set {c c0 : Cell} {i : Nat} (h0 : st[i]? = some c0) (l0 : c0.live) (e : ∀ b u, b ≠ m i → H b = some u → H' b = some u) (a : Addr) (o : HO) (h : Fz ⟨K, m, st, H, rv⟩ a o) : Fz ⟨K, m, st.set i c, H', rv⟩ a o := ⟨e _ _ (fun z => h.2 ⟨i, c0, h0, l0, z.symm⟩) h.1, fun z => h.2 (own_set h0 l0 z)⟩
theorem bears_set {c c0 : Cell} {i : Nat} (r : RS ⟨K, m, st, H, rv⟩) (h0 : st[i]? = some c0) (l0 : c0.live) (e : ∀ b u, b ≠ m i → H b = some u → H' b = some u) : Bears ⟨K, m, st, H, rv⟩ ⟨K, m, st.set i c, H', rv⟩ where
  ext := fun _ _ => rfl
  len := by simp
  tup := fun a xs h => by
    obtain ⟨o, ho, hl⟩ := live_at r h0 l0
    rcases h with (h | ⟨u, h⟩) | h
    · refine .inl (.inl (e _ _ (fun z => ?_) h))
      have h : H a = some _ := h
      rw [z, ho] at h; cases h; exact hl
    · refine .inl (.inr ⟨u, e _ _ (fun z => ?_) h⟩)
      have h : H a = some _ := h
      rw [z, ho] at h; cases h; exact hl
    · exact .inr h
  fr := fun a xs h => ⟨fz_set h0 l0 e a xs h.1, h.2⟩
theorem aft_set {c c0 : Cell} {i : Nat} (r : RS ⟨K, m, st, H, rv⟩) (h0 : st[i]? = some c0) (l0 : c0.live) (e : ∀ b u, b ≠ m i → H b = some u → H' b = some u) (ok : CellOk ⟨K, m, st.set i c, H', rv⟩ (m i) c) : Aft ⟨K, m, st, H, rv⟩ ⟨K, m, st.set i c, H', rv⟩ := by
  have b := bears_set (c := c) r h0 l0 e
  obtain ⟨o, ho, hl⟩ := live_at r h0 l0
  refine ⟨rfl, rfl, ⟨fun j c' h => ?_, fun j k c1 c2 h1 h2 l1 l2 q => ?_, fun a ha z => ?_, fun a ha z => ?_⟩, b.ext, b.len, b.tup, fz_set h0 l0 e⟩
  · rcases at_set h0 h with ⟨hj, h⟩ | ⟨hj, hc⟩
    · by_cases lc : c'.live
      · have hne : m j ≠ m i := fun z => hj (r.inj j i c' c0 h h0 lc l0 z)
        exact cell_bears b (fun o h _ => e _ _ hne h) (fun xs h => by
          rcases h with ⟨u, h⟩ | h
          · exact .inl ⟨u, e _ _ hne h⟩
          · exact .inr h) rfl (r.cells j c' h)
      · have q := r.cells j c' h
        cases c' with
        | ro l =>
          obtain ⟨xs, h1, r1, z1⟩ := q
          refine ⟨xs, ?_, b.reps _ _ r1, z1⟩
          rcases h1 with ⟨u, h1⟩ | h1
          · refine .inl ⟨u, e _ _ (fun z => ?_) h1⟩
            have h2 : H (m j) = some _ := h1
            have z2 : m j = m i := z
            rw [z2, ho] at h2; cases h2; exact hl
          · exact .inr h1
        | dead => trivial
        | _ => exact absurd trivial lc
    · subst hj hc
      exact ok
  · have hx : ∀ {j : Nat} {c1 : Cell}, (st.set i c)[j]? = some c1 → c1.live → ∃ c', st[j]? = some c' ∧ c'.live := fun {j c1} h l => by
      rcases at_set h0 h with ⟨_, h⟩ | ⟨hj, _⟩
      · exact ⟨_, h, l⟩
      · exact ⟨c0, by rw [hj]; exact h0, l0⟩
    obtain ⟨c1', g1, k1⟩ := hx h1 l1
    obtain ⟨c2', g2, k2⟩ := hx h2 l2
    exact r.inj j k c1' c2' g1 g2 k1 k2 q
  · cases q : H a with
    | none => exact r.rvs a ha q
    | some o => have z : H' a = none := z; rw [e _ _ (fun y => r.rvo a ha ⟨i, c0, h0, l0, y.symm⟩) q] at z; cases z
  · exact r.rvo a ha (own_set h0 l0 z)
/-- a list's cell is given up: from then on the list stands still -/
theorem aft_free {i : Nat} {l : List D} (r : RS ⟨K, m, st, H, rv⟩) (h0 : st[i]? = some (.lst l)) : Aft ⟨K, m, st, H, rv⟩ ⟨K, m, st.set i .dead, H, rv⟩ ∧ ∃ v, Rep ⟨K, m, st.set i .dead, H, rv⟩ (.lst l) v ∧ v = .ref (m i) := by
  have a : Aft ⟨K, m, st, H, rv⟩ ⟨K, m, st.set i .dead, H, rv⟩ := aft_set r h0 trivial (fun _ _ _ h => h) trivial
  refine ⟨a, .ref (m i), ?_, rfl⟩
  obtain ⟨xs, h1, r1, z1⟩ := r.cells i _ h0
  simp only [Rep]
  refine ⟨m i, xs, rfl, ⟨⟨h1, fun z => ?_⟩, fun z => r.rvo _ z ⟨i, _, h0, trivial, rfl⟩⟩, a.reps r1, z1⟩
  obtain ⟨j, c', e, lv, q⟩ := z
  rcases at_set h0 e with ⟨hj, e⟩ | ⟨hj, e⟩
  · exact hj (r.inj j i c' _ e h0 lv trivial q)
  · subst e; exact lv
end
end G
end

section
set_option Elab.async false
set_option linter.all false
set_option autoImplicit false
set_option maxRecDepth 100000
set_option maxHeartbeats 1000000
namespace G
open PySem PySem.Spec PyProof.Rows L2
/-! ## what is wanted of a result -/
def Wp {α : Type} (w : Wd) (r : Res α) (P : α → Wd → Prop) (W : Str → Wd → Prop) : Prop := match r with
  | .ok a st' => ∀ w', Aft w w' → w'.st = st' → P a w'
  | .err c st' => ∀ w', Aft w w' → w'.st = st' → W c w'
  | .bad => False
section
variable {α β : Type} {w w1 : Wd} {r : Res α} {P P' : α → Wd → Prop} {W W' : Str → Wd → Prop}
theorem Wp.after (h : Wp w r P W) (a : Aft w w1) : Wp w1 r P W := by
  cases r with
  | ok x st' => exact fun w' b e => h w' (a.trans b) e
  | err c st' => exact fun w' b e => h w' (a.trans b) e
  | bad => exact h
theorem Wp.mono (h : Wp w r P W) (hp : ∀ a w', Aft w w' → P a w' → P' a w') (hw : ∀ c w', Aft w w' → W c w' → W' c w') : Wp w r P' W' := by
  cases r with
  | ok x st' => exact fun w' b e => hp _ _ b (h w' b e)
  | err c st' => exact fun w' b e => hw _ _ b (h w' b e)
  | bad => exact h
theorem Wp.imp (h : Wp w r P W) (hp : ∀ a w', Aft w w' → P a w' → P' a w') : Wp w r P' W := h.mono hp fun _ _ _ x => x
theorem Wp.bind {x : M α} {f : α → M β} {P : β → Wd → Prop} (h : Wp w ((x >>= f) w.st) P W) : Wp w (x w.st) (fun a w1 => Wp w1 (f a w1.st) P W) W := by
  have h : Wp w (M.andThen x f w.st) P W := h
  unfold M.andThen at h
  cases e : x w.st with
  | ok a st' =>
    rw [e] at h
    have h : Wp w (f a st') P W := h
    intro w' b q
    rw [q]
    exact h.after b
  | err c st' =>
    rw [e] at h
    exact h
  | bad =>
    rw [e] at h
    exact h
theorem Wp.ok_ {a : α} (rs : RS w) (h : Wp w (.ok a w.st) P W) : P a w := h w (.refl rs) rfl
end
/-! ## names -/
abbrev Ev := List (Option D)
structure REnv (w : Wd) (env : Ev) (σ : L2.St) : Prop where
  len : env.length = σ.length
  at_ : ∀ (i : Nat) (d : D), env[i]? = some (some d) → ∃ v, σ[i]? = some (some v) ∧ Rep w d v
theorem REnv.after {w w1 : Wd} {env : Ev} {σ : L2.St} (h : REnv w env σ) (a : Aft w w1) : REnv w1 env σ := ⟨h.len, fun i d e => let ⟨v, e1, r⟩ := h.at_ i d e; ⟨v, e1, a.rep r⟩⟩
theorem REnv.set {w : Wd} {env : Ev} {σ : L2.St} {d : D} {v : V} (h : REnv w env σ) (i : Nat) (r : Rep w d v) : REnv w (env.set i (some d)) (σ.set i (some v)) := by
  refine ⟨by rw [List.length_set, List.length_set]; exact h.len, fun j d' e => ?_⟩
  by_cases hj : i = j
  · subst hj
    by_cases hl : i < env.length
    · rw [List.getElem?_set_self hl] at e
      rw [List.getElem?_set_self (by rw [← h.len]; exact hl)]
      cases e
      exact ⟨v, rfl, r⟩
    · rw [List.getElem?_eq_none (by rw [List.length_set]; omega)] at e
      cases e
  · rw [List.getElem?_set_ne hj] at e
    rw [List.getElem?_set_ne hj]
    exact h.at_ j d' e
theorem REnv.forget {w : Wd} {env : Ev} {σ : L2.St} (h : REnv w env σ) (i : Nat) : REnv w (env.set i none) (σ.set i none) := by
  refine ⟨by rw [List.length_set, List.length_set]; exact h.len, fun j d' e => ?_⟩
  by_cases hj : i = j
  · subst hj
    by_cases hl : i < env.length
    · rw [List.getElem?_set_self hl] at e; cases e
    · rw [List.getElem?_eq_none (by rw [List.length_set]; omega)] at e; cases e
  · rw [List.getElem?_set_ne hj] at e
    rw [List.getElem?_set_ne hj]
    exact h.at_ j d' e
/-! ## the readings of computations, the judgements -/
abbrev XW := Str → L2.St → Hp → Prop
def rdE (K : PySem.W.Frag) (W : XW) (f : Ev → M D) : TE := fun σ H Q => ∃ (w : Wd) (env : Ev), w.K = K ∧ w.H = H ∧ RS w ∧ REnv w env σ ∧ Wp w (f env w.st) (fun d w' => ∀ v, Rep w' d v → Q v w'.H) (fun c w' => W c σ w'.H)
def rdT (K : PySem.W.Frag) (W : XW) (f : Ev → M Bool) : TT := fun σ H Q => ∃ (w : Wd) (env : Ev), w.K = K ∧ w.H = H ∧ RS w ∧ REnv w env σ ∧ Wp w (f env w.st) (fun b w' => Q b w'.H) (fun c w' => W c σ w'.H)
def rdA (K : PySem.W.Frag) (W : XW) (f : Ev → M (List D)) : TA := fun σ H Q => ∃ (w : Wd) (env : Ev), w.K = K ∧ w.H = H ∧ RS w ∧ REnv w env σ ∧ Wp w (f env w.st) (fun ds w' => ∀ vs, Reps w' ds vs → Q vs w'.H) (fun c w' => W c σ w'.H)
def DE (X : Cx) (W : XW) (e : Expr) (f : Ev → M D) : Prop := PE X e (rdE X.K W f)
def DT (X : Cx) (W : XW) (e : Expr) (f : Ev → M Bool) : Prop := PT X e (rdT X.K W f)
def DWt (X : Cx) (W : XW) (e : Expr) (f : Ev → M Bool) : Prop := PW X e (rdT X.K W f)
def aSeq : List (Ev → M D) → Ev → M (List D)
  | [], _ => pure []
  | f :: fs, env => do
    let d ← f env
    let ds ← aSeq fs env
    pure (d :: ds)
def DA (X : Cx) (W : XW) (es : List Expr) (fs : List (Ev → M D)) : Prop := PA X es (rdA X.K W (aSeq fs))
section
variable {X : Cx} {W : XW} {e a b c : Expr} {pos : Pos} {fa fb fc : Ev → M D}
theorem PE.imp' {t t' : TE} (h : PE X e t) (k : ∀ σ H Q, t' σ H Q → t σ H Q) : PE X e t' := ⟨fun pins s σ H Q I z => h.run pins s σ H Q I (k σ H Q z)⟩
theorem PT.imp' {t t' : TT} (h : PT X e t) (k : ∀ σ H Q, t' σ H Q → t σ H Q) : PT X e t' := ⟨fun pins s σ H Q I z => h.run pins s σ H Q I (k σ H Q z)⟩
theorem PW.imp' {t t' : TT} (h : PW X e t) (k : ∀ σ H Q, t' σ H Q → t σ H Q) : PW X e t' := ⟨fun wh pins s σ H Q I z => h.run wh pins s σ H Q I (k σ H Q z)⟩
theorem PA.imp' {es : List Expr} {t t' : TA} (h : PA X es t) (k : ∀ σ H Q, t' σ H Q → t σ H Q) : PA X es t' := ⟨fun pos pins s σ H Q I z => h.run pos pins s σ H Q I (k σ H Q z)⟩
/-! ### names and constants -/
def eVar (i : Nat) : Ev → M D := fun env st => match env[i]? with
  | some (some d) => .ok d st
  | _ => .bad
theorem de_var (i : Nat) {x : Str} (hN : X.N[i]? = some x) (hv : Vis X.env.scope x) (hd : (x == ("__debug__" : Str)) = false := by decide) (hcd : (x == ("__classdict__" : Str)) = false := by decide) : DE X W (.Name x pos) (eVar i) := by
  refine PE.imp' (pe_var hN hv hd hcd) ?_
  rintro σ H Q ⟨w, env, hk, rfl, r, n, h⟩
  unfold eVar at h
  split at h
  · rename_i d e
    obtain ⟨v, e1, rv⟩ := n.at_ i d e
    exact ⟨v, e1, h.ok_ r v rv⟩
  · exact h.elim
def eC (d : D) : Ev → M D := fun _ => pure d
theorem de_int {i j} : DE X W (.Constant (.int i) j pos) (eC (.int i)) := PE.imp' pe_int (by
  rintro σ H Q ⟨w, env, hk, rfl, r, n, h⟩
  exact Wp.ok_ r h _ (by simp [Rep]))
theorem de_bl {b : Bool} {j} : DE X W (.Constant (.bool b) j pos) (eC (.bl b)) := PE.imp' pe_bl (by
  rintro σ H Q ⟨w, env, hk, rfl, r, n, h⟩
  exact Wp.ok_ r h _ (by simp [Rep]))
theorem de_non {j} : DE X W (.Constant .none j pos) (eC .non) := PE.imp' pe_non (by
  rintro σ H Q ⟨w, env, hk, rfl, r, n, h⟩
  exact Wp.ok_ r h _ (by simp [Rep]))
theorem de_str {x : Str} {j} : DE X W (.Constant (.str x) j pos) (eC (.str x)) := PE.imp' pe_str (by
  rintro σ H Q ⟨w, env, hk, rfl, r, n, h⟩
  exact Wp.ok_ r h _ (by simp [Rep]))
/-- a module's constant -/
theorem de_glob {x : Str} {v : V} {u : Value} {d : D} (hg : Gl X x) (hm : X.mg x = some u) (r : RelV v u) (hr : ∀ w : Wd, w.K = X.K → Rep w d v) (hd : (x == ("__debug__" : Str)) = false := by decide) : DE X W (.Name x pos) (eC d) := PE.imp' (pe_glob hg hm r hd) (by
  rintro σ H Q ⟨w, env, hk, rfl, rs, n, h⟩
  exact Wp.ok_ rs h _ (hr w hk))
/-! ### operators -/
def lift (o : Store → Option D) : M D := fun st => match o st with
  | some d => .ok d st
  | none => .bad
/-- what is wanted of an operator's answer -/
def Wq (w : Wd) (o : Option D) (Q : VK) : Prop := ∃ d, o = some d ∧ ∀ w', Aft w w' → w'.st = w.st → ∀ v, Rep w' d v → Q v w'.H
theorem Wq.of {w : Wd} {o : Store → Option D} {Q : VK} {W : Str → Wd → Prop} (h : Wp w (lift o w.st) (fun d w' => ∀ v, Rep w' d v → Q v w'.H) W) : Wq w (o w.st) Q := by
  unfold lift at h
  cases e : o w.st with
  | none => rw [e] at h; exact h.elim
  | some d => rw [e] at h; exact ⟨d, rfl, h⟩
def rdO (K : PySem.W.Frag) (g : D → D → Store → Option D) : R2 := fun x y H Q => ∃ (w : Wd) (a b : D), w.K = K ∧ w.H = H ∧ RS w ∧ Rep w a x ∧ Rep w b y ∧ Wq w (g a b w.st) Q
def rdU (K : PySem.W.Frag) (g : D → Store → Option D) : V → Hp → VK → Prop := fun x H Q => ∃ (w : Wd) (a : D), w.K = K ∧ w.H = H ∧ RS w ∧ Rep w a x ∧ Wq w (g a w.st) Q
def rdC (K : PySem.W.Frag) (g : List D → Store → Option D) : List V → Hp → VK → Prop := fun xs H Q => ∃ (w : Wd) (ds : List D), w.K = K ∧ w.H = H ∧ RS w ∧ Reps w ds xs ∧ Wq w (g ds w.st) Q
def OpD (X : Cx) (f : Value → Value → Sem Value) (g : D → D → Store → Option D) : Prop := OpR X f (rdO X.K g)
def CallD (X : Cx) (f : Value) (g : List D → Store → Option D) : Prop := CallR X f (rdC X.K g)
theorem OpR.imp' {f : Value → Value → Sem Value} {r r' : R2} (h : OpR X f r) (k : ∀ x y H Q, r' x y H Q → r x y H Q) : OpR X f r' := fun pins s σ H x y v u Q I rx ry z => h pins s σ H x y v u Q I rx ry (k _ _ _ _ z)
theorem CallR.imp' {f : Value} {r r' : List V → Hp → VK → Prop} (h : CallR X f r) (k : ∀ x H Q, r' x H Q → r x H Q) : CallR X f r' := fun pins s σ H x u Q I rx z => h pins s σ H x u Q I rx (k _ _ _ z)
theorem UnR.imp' {f : Value → Sem Value} {r r' : V → Hp → VK → Prop} (h : UnR X f r) (k : ∀ x H Q, r' x H Q → r x H Q) : UnR X f r' := fun pins s σ H x u Q I rx z => h pins s σ H x u Q I rx (k _ _ _ z)
def eOp (g : D → D → Store → Option D) (fa fb : Ev → M D) : Ev → M D := fun env => do
  let a ← fa env
  let b ← fb env
  lift (g a b)
/-- two readings, one behind the other -/
theorem two {g : D → D → Store → Option D} {σ : L2.St} {H : Hp} {Q : VK} (h : rdE X.K W (eOp g fa fb) σ H Q) : tOp (rdO X.K g) (rdE X.K W fa) (rdE X.K W fb) σ H Q := by
  obtain ⟨w, env, hk, rfl, r, n, h⟩ := h
  refine ⟨w, env, hk, rfl, r, n, (Wp.bind h).imp fun x w1 a1 h1 v rv => ?_⟩
  refine ⟨w1, env, a1.k.trans hk, rfl, a1.rs, n.after a1, (Wp.bind h1).imp fun y w2 a2 h2 u ru => ?_⟩
  exact ⟨w2, x, y, a2.k.trans (a1.k.trans hk), rfl, a2.rs, a2.rep rv, ru, Wq.of h2⟩
theorem de_op {op : Operator} {g : D → D → Store → Option D} (ho : OpD X (binaryOp op) g) (ha : DE X W a fa) (hb : DE X W b fb) : DE X W (.BinOp a op b pos) (eOp g fa fb) := PE.imp' (pe_op ho ha hb) fun _ _ _ h => two h
theorem de_cmp {op : CmpOp} {g : D → D → Store → Option D} (ho : OpD X (compareOp op) g) (ha : DE X W a fa) (hb : DE X W b fb) (hm : behindInMarks op b = false := by rfl) : DE X W (.Compare a [op] [b] pos) (eOp g fa fb) := PE.imp' (pe_cmpR ho ha hb hm) fun _ _ _ h => two h
def eUn (g : D → Store → Option D) (fa : Ev → M D) : Ev → M D := fun env => do
  let a ← fa env
  lift (g a)
theorem de_un {op : UnaryOp} {g : D → Store → Option D} (ho : UnR X (unaryOp op) (rdU X.K g)) (ha : DE X W a fa) : DE X W (.UnaryOp op a pos) (eUn g fa) := PE.imp' (pe_un ho ha) fun σ H Q h => by
  obtain ⟨w, env, hk, rfl, r, n, h⟩ := h
  refine ⟨w, env, hk, rfl, r, n, (Wp.bind h).imp fun x w1 a1 h1 v rv => ?_⟩
  exact ⟨w1, x, a1.k.trans hk, rfl, a1.rs, rv, Wq.of h1⟩
/-! ### tests -/
def asB : D → M Bool
  | .bl b => pure b
  | _ => M.stuck
def tVal (f : Ev → M D) : Ev → M Bool := fun env => do
  let d ← f env
  asB d
theorem asB_wp {w : Wd} {d : D} {P : Bool → Wd → Prop} {V' : Str → Wd → Prop} (rs : RS w) (h : Wp w (asB d w.st) P V') : ∃ b, d = .bl b ∧ P b w := by
  cases d with
  | bl b => exact ⟨b, rfl, Wp.ok_ rs h⟩
  | _ => exact h.elim
theorem tval {σ : L2.St} {H : Hp} {Q : Bool → Hp → Prop} (h : rdT X.K W (tVal fa) σ H Q) : rdE X.K W fa σ H fun x H1 => ∃ c, x = .bl c ∧ Q c H1 := by
  obtain ⟨w, env, hk, rfl, r, n, h⟩ := h
  refine ⟨w, env, hk, rfl, r, n, (Wp.bind h).imp fun x w1 a1 h1 v rv => ?_⟩
  obtain ⟨b, rfl, q⟩ := asB_wp a1.rs h1
  simp only [Rep] at rv
  exact ⟨b, rv, q⟩
theorem dt_val (h : DE X W e fa) (he : ∀ whole, isTrue e X.env whole = (do let v ← whole; standAt e.pos; holding [v] (truthy v)) := by intro _; rfl) : DT X W e (tVal fa) := PT.imp' (pt_val h he) fun _ _ _ h => tval h
theorem dt_cmp {op : CmpOp} {g : D → D → Store → Option D} (ho : OpD X (compareOp op) g) (ha : DE X W a fa) (hb : DE X W b fb) (hm : behindInMarks op b = false := by rfl) : DT X W (.Compare a [op] [b] pos) (tVal (eOp g fa fb)) := PT.imp' (pt_cmpR ho ha hb hm) fun σ H Q h => by
  obtain ⟨w, env, hk, hH, r, n, h⟩ := tval h
  exact two ⟨w, env, hk, hH, r, n, h⟩
def tNot' (t : Ev → M Bool) : Ev → M Bool := fun env => do
  let b ← t env
  pure (!b)
theorem dt_not {t : Ev → M Bool} (h : DT X W e t) : DT X W (.UnaryOp .Not e pos) (tNot' t) := PT.imp' (pt_not h) fun σ H Q h => by
  obtain ⟨w, env, hk, rfl, r, n, h⟩ := h
  refine ⟨w, env, hk, rfl, r, n, (Wp.bind h).imp fun x w1 a1 h1 => Wp.ok_ a1.rs h1⟩
def tAnd' (t u : Ev → M Bool) : Ev → M Bool := fun env => do
  let b ← t env
  if b = true then u env else pure false
def tOr' (t u : Ev → M Bool) : Ev → M Bool := fun env => do
  let b ← t env
  if b = true then pure true else u env
theorem dw_and {rest : List Expr} {t u : Ev → M Bool} (h : DT X W a t) (k : DWt X W (.BoolOp .And (b :: rest) pos) u) : DWt X W (.BoolOp .And (a :: b :: rest) pos) (tAnd' t u) := PW.imp' (pw_and h k) fun σ H Q h => by
  obtain ⟨w, env, hk, rfl, r, n, h⟩ := h
  refine ⟨w, env, hk, rfl, r, n, (Wp.bind h).imp fun x w1 a1 h1 => ?_⟩
  cases x with
  | true => exact iteT ⟨w1, env, a1.k.trans hk, rfl, a1.rs, n.after a1, h1⟩
  | false => exact iteF (Wp.ok_ (a := false) a1.rs h1)
theorem dw_or {rest : List Expr} {t u : Ev → M Bool} (h : DT X W a t) (k : DWt X W (.BoolOp .Or (b :: rest) pos) u) : DWt X W (.BoolOp .Or (a :: b :: rest) pos) (tOr' t u) := PW.imp' (pw_or h k) fun σ H Q h => by
  obtain ⟨w, env, hk, rfl, r, n, h⟩ := h
  refine ⟨w, env, hk, rfl, r, n, (Wp.bind h).imp fun x w1 a1 h1 => ?_⟩
  cases x with
  | true => exact iteT (Wp.ok_ (a := true) a1.rs h1)
  | false => exact iteF ⟨w1, env, a1.k.trans hk, rfl, a1.rs, n.after a1, h1⟩
theorem dw_and1 {t : Ev → M Bool} (h : DT X W a t) : DWt X W (.BoolOp .And [a] pos) t := pw_and1 h
theorem dw_or1 {t : Ev → M Bool} (h : DT X W a t) : DWt X W (.BoolOp .Or [a] pos) t := pw_or1 h
theorem dt_w {t : Ev → M Bool} (h : DWt X W e t) : DT X W e t := PW.pt h
/-! ### and, or, not as values; conditional expressions -/
def eAnd (fa fb : Ev → M D) : Ev → M D := fun env => do
  let d ← fa env
  let b ← asB d
  if b = true then fb env else pure (.bl false)
def eOr (fa fb : Ev → M D) : Ev → M D := fun env => do
  let d ← fa env
  let b ← asB d
  if b = true then pure (.bl true) else fb env
theorem de_and {rest : List Expr} (ha : DE X W a fa) (hb : DE X W (.BoolOp .And (b :: rest) pos) fb) : DE X W (.BoolOp .And (a :: b :: rest) pos) (eAnd fa fb) := PE.imp' (pe_and ha hb) fun σ H Q h => by
  obtain ⟨w, env, hk, rfl, r, n, h⟩ := h
  refine ⟨w, env, hk, rfl, r, n, (Wp.bind h).imp fun x w1 a1 h1 v rv => ?_⟩
  obtain ⟨c, rfl, h2⟩ := asB_wp a1.rs (Wp.bind h1)
  simp only [Rep] at rv
  refine ⟨c, rv, ?_⟩
  cases c with
  | true => exact iteT ⟨w1, env, a1.k.trans hk, rfl, a1.rs, n.after a1, h2⟩
  | false => exact iteF (Wp.ok_ (a := D.bl false) a1.rs h2 _ (by simp [Rep]))
theorem de_or {rest : List Expr} (ha : DE X W a fa) (hb : DE X W (.BoolOp .Or (b :: rest) pos) fb) : DE X W (.BoolOp .Or (a :: b :: rest) pos) (eOr fa fb) := PE.imp' (pe_or ha hb) fun σ H Q h => by
  obtain ⟨w, env, hk, rfl, r, n, h⟩ := h
  refine ⟨w, env, hk, rfl, r, n, (Wp.bind h).imp fun x w1 a1 h1 v rv => ?_⟩
  obtain ⟨c, rfl, h2⟩ := asB_wp a1.rs (Wp.bind h1)
  simp only [Rep] at rv
  refine ⟨c, rv, ?_⟩
  cases c with
  | true => exact iteT (Wp.ok_ (a := D.bl true) a1.rs h2 _ (by simp [Rep]))
  | false => exact iteF ⟨w1, env, a1.k.trans hk, rfl, a1.rs, n.after a1, h2⟩
theorem de_one {op : BoolOp} (ha : DE X W a fa) : DE X W (.BoolOp op [a] pos) fa := pe_one ha
def eNot (fa : Ev → M D) : Ev → M D := fun env => do
  let d ← fa env
  let b ← asB d
  pure (.bl (!b))
theorem de_not (ha : DE X W a fa) : DE X W (.UnaryOp .Not a pos) (eNot fa) := PE.imp' (pe_not ha) fun σ H Q h => by
  obtain ⟨w, env, hk, rfl, r, n, h⟩ := h
  refine ⟨w, env, hk, rfl, r, n, (Wp.bind h).imp fun x w1 a1 h1 v rv => ?_⟩
  obtain ⟨c, rfl, h2⟩ := asB_wp a1.rs (Wp.bind h1)
  simp only [Rep] at rv
  exact ⟨c, rv, Wp.ok_ (a := D.bl (!c)) a1.rs h2 _ (by simp [Rep])⟩
def eIf (t : Ev → M Bool) (fa fb : Ev → M D) : Ev → M D := fun env => do
  let b ← t env
  if b = true then fa env else fb env
theorem de_if {t : Ev → M Bool} (ht : DT X W c t) (ha : DE X W a fa) (hb : DE X W b fb) : DE X W (.IfExp c a b pos) (eIf t fa fb) := PE.imp' (pe_ifExp ht ha hb) fun σ H Q h => by
  obtain ⟨w, env, hk, rfl, r, n, h⟩ := h
  refine ⟨w, env, hk, rfl, r, n, (Wp.bind h).imp fun x w1 a1 h1 => ?_⟩
  cases x with
  | true => exact iteT ⟨w1, env, a1.k.trans hk, rfl, a1.rs, n.after a1, h1⟩
  | false => exact iteF ⟨w1, env, a1.k.trans hk, rfl, a1.rs, n.after a1, h1⟩
/-! ### arguments, displays -/
theorem da_nil : DA X W [] [] := PA.imp' pa_nil fun σ H Q h => by
  obtain ⟨w, env, hk, rfl, r, n, h⟩ := h
  exact Wp.ok_ (a := ([] : List D)) r h [] rfl
theorem da_cons {es : List Expr} {fs : List (Ev → M D)} (ha : DE X W e fa) (hr : DA X W es fs) (hs : starEach (e :: es) X.env = (false, eval e X.env) :: starEach es X.env := by rfl) : DA X W (e :: es) (fa :: fs) := PA.imp' (pa_cons ha hr hs) fun σ H Q h => by
  obtain ⟨w, env, hk, rfl, r, n, h⟩ := h
  refine ⟨w, env, hk, rfl, r, n, (Wp.bind h).imp fun x w1 a1 h1 v rv => ?_⟩
  refine ⟨w1, env, a1.k.trans hk, rfl, a1.rs, n.after a1, (Wp.bind h1).imp fun ys w2 a2 h2 vs rvs => ?_⟩
  exact Wp.ok_ (a := x :: ys) a2.rs h2 _ ⟨v, vs, rfl, a2.rep rv, rvs⟩
theorem aSeq_len : ∀ {fs : List (Ev → M D)} {env : Ev} {st st' : Store} {ds : List D}, aSeq fs env st = .ok ds st' → ds.length = fs.length
  | [], env, st, st', ds, h => by
    have h : (Res.ok [] st : Res (List D)) = .ok ds st' := h
    cases h; rfl
  | f :: fs, env, st, st', ds, h => by
    have h : M.andThen (f env) (fun d => M.andThen (aSeq fs env) fun ds => M.ret (d :: ds)) st = .ok ds st' := h
    unfold M.andThen at h
    cases e1 : f env st with
    | ok d s1 =>
      rw [e1] at h
      simp only at h
      cases e2 : aSeq fs env s1 with
      | ok es s2 =>
        rw [e2] at h
        have h : (Res.ok (d :: es) s2 : Res (List D)) = .ok ds st' := h
        cases h
        rw [List.length_cons, List.length_cons, aSeq_len e2]
      | err c s2 => rw [e2] at h; cases h
      | bad => rw [e2] at h; cases h
    | err c s1 => rw [e1] at h; cases h
    | bad => rw [e1] at h; cases h
theorem reps_len {w : Wd} : ∀ {ds : List D} {vs : List V}, Reps w ds vs → vs.length = ds.length
  | [], vs, h => by simp only [Reps] at h; rw [h]; rfl
  | d :: ds, vs, h => by
    simp only [Reps] at h
    obtain ⟨x, xs, rfl, _, r⟩ := h
    rw [List.length_cons, List.length_cons, reps_len r]
/-- the arguments' list has as many -/
theorem wp_seq {w : Wd} {fs : List (Ev → M D)} {env : Ev} {P : List D → Wd → Prop} {V' : Str → Wd → Prop} (h : Wp w (aSeq fs env w.st) P V') : Wp w (aSeq fs env w.st) (fun ds w' => ds.length = fs.length ∧ P ds w') V' := by
  cases e : aSeq fs env w.st with
  | ok ds st' =>
    rw [e] at h
    exact fun w' a q => ⟨aSeq_len e, h w' a q⟩
  | err c st' => rw [e] at h; exact h
  | bad => rw [e] at h; exact h
def eTup (fs : List (Ev → M D)) : Ev → M D := fun env => do
  let ds ← aSeq fs env
  pure (.tup ds)
theorem de_tup {es : List Expr} {fs : List (Ev → M D)} {x1} (h : DA X W es fs) (hl : fs.length ≤ sizeLine := by exact Nat.le_of_ble_eq_true rfl) : DE X W (.Tuple es x1 pos) (eTup fs) := PE.imp' (pe_tup h) fun σ H Q h => by
  obtain ⟨w, env, hk, rfl, r, n, h⟩ := h
  refine ⟨w, env, hk, rfl, r, n, (wp_seq (Wp.bind h)).imp fun ds w1 a1 h1 vs rv => ⟨by rw [reps_len rv, h1.1]; exact hl, fun p hp => ?_⟩⟩
  have a2 : Aft w1 ⟨w1.K, w1.m, w1.st, upd w1.H p (.tup vs), w1.rv⟩ := aft_new a1.rs hp
  refine h1.2 _ a2 rfl (.ref p) ?_
  simp only [Rep]
  exact ⟨p, vs, rfl, SqT.of upd_same, a2.reps rv, by rw [h1.1]; exact hl⟩
/-- a new list at a free address: not owned -/
theorem fz_new {w : Wd} (r : RS w) {p : Addr} {o : HO} (hp : w.H p = none) : Fz ⟨w.K, w.m, w.st, upd w.H p o, w.rv⟩ p o := ⟨upd_same, fun ⟨i, c, e, l, q⟩ => by
  obtain ⟨u, hu, _⟩ := live_at (rv := w.rv) r e l
  rw [q, hp] at hu
  cases hu⟩
theorem fr_new {w : Wd} (r : RS w) {p : Addr} {o : HO} (hp : w.H p = none) : Fr ⟨w.K, w.m, w.st, upd w.H p o, w.rv⟩ p o := ⟨fz_new r hp, fun z => r.rvs p z hp⟩
theorem rep_new {w : Wd} (r : RS w) {p : Addr} {ds : List D} {vs : List V} (hp : w.H p = none) (h : Reps w ds vs) (hl : ds.length ≤ sizeLine) : Rep ⟨w.K, w.m, w.st, upd w.H p (.lst vs), w.rv⟩ (.lst ds) (.ref p) := by
  simp only [Rep]
  exact ⟨p, vs, rfl, fr_new r hp, (aft_new r hp).reps h, hl⟩
theorem rep_newT {w : Wd} (r : RS w) {p : Addr} {ds : List D} {vs : List V} (hp : w.H p = none) (h : Reps w ds vs) (hl : ds.length ≤ sizeLine) : Rep ⟨w.K, w.m, w.st, upd w.H p (.tup vs), w.rv⟩ (.tup ds) (.ref p) := by
  simp only [Rep]
  exact ⟨p, vs, rfl, SqT.of upd_same, (aft_new r hp).reps h, hl⟩
def eLst (fs : List (Ev → M D)) : Ev → M D := fun env => do
  let ds ← aSeq fs env
  pure (.lst ds)
theorem de_lst {es : List Expr} {fs : List (Ev → M D)} (h : DA X W es fs) (hl : fs.length ≤ sizeLine := by exact Nat.le_of_ble_eq_true rfl) : DE X W (.List es pos) (eLst fs) := PE.imp' (pe_lst h) fun σ H Q h => by
  obtain ⟨w, env, hk, rfl, r, n, h⟩ := h
  refine ⟨w, env, hk, rfl, r, n, (wp_seq (Wp.bind h)).imp fun ds w1 a1 h1 vs rv => ⟨by rw [reps_len rv, h1.1]; exact hl, fun p hp => ?_⟩⟩
  exact h1.2 _ (aft_new a1.rs hp) rfl (.ref p) (rep_new a1.rs hp rv (by rw [h1.1]; exact hl))
def newCell (c : Cell) : M D := fun st => .ok (.cell st.length) (st ++ [c])
def eNewL (fs : List (Ev → M D)) : Ev → M D := fun env => do
  let ds ← aSeq fs env
  newCell (.lst ds)
/-- .. that will be changed -/
theorem de_newL {es : List Expr} {fs : List (Ev → M D)} (h : DA X W es fs) (hl : fs.length ≤ sizeLine := by exact Nat.le_of_ble_eq_true rfl) : DE X W (.List es pos) (eNewL fs) := PE.imp' (pe_lst h) fun σ H Q h => by
  obtain ⟨w, env, hk, rfl, r, n, h⟩ := h
  refine ⟨w, env, hk, rfl, r, n, (wp_seq (Wp.bind h)).imp fun ds w1 a1 h1 vs rv => ⟨by rw [reps_len rv, h1.1]; exact hl, fun p hp => ?_⟩⟩
  have b := bears_cell (K := w1.K) (m := w1.m) (st := w1.st) (rv := w1.rv) (c := .lst ds) (same_upd (H := w1.H) (p := p) (o := .lst vs) hp) hp
  have a2 : Aft w1 ⟨w1.K, mpNew w1.m w1.st.length p, w1.st ++ [.lst ds], upd w1.H p (.lst vs), w1.rv⟩ := aft_cell a1.rs (same_upd hp) hp ⟨vs, upd_same, b.reps _ _ rv, by rw [h1.1]; exact hl⟩
  refine h1.2 _ a2 rfl (.ref p) ?_
  simp only [Rep]
  exact ⟨by rw [mpNew_new], by simp⟩
/-! ### calls of built-in functions and types -/
def eB (g : List D → Store → Option D) (fs : List (Ev → M D)) : Ev → M D := fun env => do
  let ds ← aSeq fs env
  lift (g ds)
theorem callB {es : List Expr} {fs : List (Ev → M D)} {g : List D → Store → Option D} {σ : L2.St} {H : Hp} {Q : VK} (h : rdE X.K W (eB g fs) σ H Q) : tCB (rdC X.K g) (rdA X.K W (aSeq fs)) σ H Q := by
  obtain ⟨w, env, hk, rfl, r, n, h⟩ := h
  refine ⟨w, env, hk, rfl, r, n, (Wp.bind h).imp fun ds w1 a1 h1 vs rv => ?_⟩
  exact ⟨w1, ds, a1.k.trans hk, rfl, a1.rs, rv, Wq.of h1⟩
theorem de_callB {es : List Expr} {fs : List (Ev → M D)} {g : List D → Store → Option D} {x : Str} {p : Pos} {id : String} (hc : CallD X (.builtin id) g) (hg : Gl X x) (hm : X.mg x = none) (hv : bootBuiltins x = some (.builtin id)) (ha : DA X W (e :: es) fs)
    (hn : x ≠ "__name__" := by decide) (hdb : (x == ("__debug__" : Str)) = false := by decide) (he : starEach (e :: es) X.env = (false, eval e X.env) :: starEach es X.env := by rfl) (hpl : (backTo pos (starEach es X.env)).any (·.1) = false := by rfl) :
    DE X W (.Call (.Name x p) (e :: es) [] pos) (eB g fs) := PE.imp' (pe_callB hc hg hm hv ha hn hdb he hpl) fun _ _ _ h => callB (es := es) h
theorem de_callTy {es : List Expr} {fs : List (Ev → M D)} {g : List D → Store → Option D} {x : Str} {p : Pos} {T : String} (hc : CallD X (.type T) g) (hg : Gl X x) (hm : X.mg x = none) (hv : bootBuiltins x = some (.type T)) (ha : DA X W (e :: es) fs)
    (hn : x ≠ "__name__" := by decide) (hdb : (x == ("__debug__" : Str)) = false := by decide) (he : starEach (e :: es) X.env = (false, eval e X.env) :: starEach es X.env := by rfl) (hpl : (backTo pos (starEach es X.env)).any (·.1) = false := by rfl) :
    DE X W (.Call (.Name x p) (e :: es) [] pos) (eB g fs) := PE.imp' (pe_callTy hc hg hm hv ha hn hdb he hpl) fun _ _ _ h => callB (es := es) h
end
end G
end

section
set_option Elab.async false
set_option linter.all false
set_option autoImplicit false
set_option maxRecDepth 100000
set_option maxHeartbeats 1000000
namespace G
open PySem PySem.Spec PyProof.Rows L2
/-! ## values as data -/
mutual
def D.data : D → Option PyData
  | .non => some .none
  | .bl b => some (.bool b)
  | .int i => some (.int i)
  | .str x => some (.str x)
  | .tup l => (D.datas l).map .tuple
  | .lst l => (D.datas l).map .list
  | .cell _ => none
  | .dct0 => none
  | .exc _ => none
def D.datas : List D → Option (List PyData)
  | [] => some []
  | d :: ds => match D.data d, D.datas ds with
    | some x, some xs => some (x :: xs)
    | _, _ => none
end
mutual
theorem dp_of {w : Wd} : ∀ (d : D) (v : V) (p : PyData), Rep w d v → d.data = some p → Dp w.K w.H v p
  | .non, v, p, h, e => by simp only [Rep] at h; simp only [D.data] at e; cases e; subst h; exact .non
  | .bl b, v, p, h, e => by simp only [Rep] at h; simp only [D.data] at e; cases e; subst h; exact .bl b
  | .int i, v, p, h, e => by simp only [Rep] at h; simp only [D.data] at e; cases e; subst h; exact .int i
  | .str x, v, p, h, e => by simp only [Rep] at h; simp only [D.data] at e; cases e; subst h; exact .str x
  | .tup l, v, p, h, e => by
    simp only [Rep] at h
    simp only [D.data] at e
    obtain ⟨a, xs, rfl, s, r, hl⟩ := h
    cases q : D.datas l with
    | none => rw [q] at e; cases e
    | some ps => rw [q] at e; cases e; exact .tup s (dps_of l xs ps r q)
  | .lst l, v, p, h, e => by
    simp only [Rep] at h
    simp only [D.data] at e
    obtain ⟨a, xs, rfl, s, r, hl⟩ := h
    cases q : D.datas l with
    | none => rw [q] at e; cases e
    | some ps => rw [q] at e; cases e; exact .lst (SqL.of s.1.1) (dps_of l xs ps r q)
  | .cell _, v, p, h, e => by simp only [D.data] at e; cases e
  | .dct0, v, p, h, e => by simp only [D.data] at e; cases e
  | .exc _, v, p, h, e => by simp only [D.data] at e; cases e
theorem dps_of {w : Wd} : ∀ (l : List D) (vs : List V) (ps : List PyData), Reps w l vs → D.datas l = some ps → DpAll w.K w.H vs ps
  | [], vs, ps, h, e => by simp only [Reps] at h; simp only [D.datas] at e; cases e; subst h; exact .nil
  | d :: ds, vs, ps, h, e => by
    simp only [Reps] at h
    simp only [D.datas] at e
    obtain ⟨x, xs, rfl, r, rs⟩ := h
    cases q1 : D.data d with
    | none => rw [q1] at e; cases e
    | some p1 =>
      cases q2 : D.datas ds with
      | none => rw [q1, q2] at e; cases e
      | some ps1 => rw [q1, q2] at e; cases e; exact .cons (dp_of d x p1 r q1) (dps_of ds xs ps1 rs q2)
end
/-- the answer is at hand: nothing is laid -/
theorem Wq.here {w : Wd} {o : Option D} {Q : VK} (h : Wq w o Q) (rs : RS w) {d : D} {v : V} (e : o = some d) (r : Rep w d v) : Q v w.H := by
  obtain ⟨d', e', k⟩ := h
  rw [e] at e'
  cases e'
  exact k w (.refl rs) rfl v r
theorem Wq.new {w : Wd} {o : Option D} {Q : VK} (h : Wq w o Q) (rs : RS w) {d : D} {p : Addr} {ho : HO} (hp : w.H p = none) (e : o = some d) (r : Rep ⟨w.K, w.m, w.st, upd w.H p ho, w.rv⟩ d (.ref p)) : Q (.ref p) (upd w.H p ho) := by
  obtain ⟨d', e', k⟩ := h
  rw [e] at e'
  cases e'
  exact k _ (aft_new rs hp) rfl _ r
theorem rep_bl {w : Wd} (b : Bool) : Rep w (.bl b) (.bl b) := by simp only [Rep]
theorem rep_int {w : Wd} (b : Int) : Rep w (.int b) (.int b) := by simp only [Rep]
theorem rep_str {w : Wd} (b : Str) : Rep w (.str b) (.str b) := by simp only [Rep]
theorem rep_non {w : Wd} : Rep w .non .non := by simp only [Rep]
theorem reps_app {w : Wd} : ∀ {ds es : List D} {xs ys : List V}, Reps w ds xs → Reps w es ys → Reps w (ds ++ es) (xs ++ ys)
  | [], es, xs, ys, h, k => by simp only [Reps] at h; subst h; exact k
  | d :: ds, es, xs, ys, h, k => by
    simp only [Reps] at h
    obtain ⟨x, xs, rfl, r, rs⟩ := h
    show Reps w (d :: (ds ++ es)) (x :: (xs ++ ys))
    simp only [Reps]
    exact ⟨x, xs ++ ys, rfl, r, reps_app rs k⟩
theorem reps_at {w : Wd} : ∀ {ds : List D} {xs : List V} {i : Nat} {d : D}, Reps w ds xs → ds[i]? = some d → ∃ x, xs[i]? = some x ∧ Rep w d x
  | [], xs, i, d, h, e => by simp at e
  | d :: ds, xs, 0, d', h, e => by
    simp only [Reps] at h
    obtain ⟨x, xs, rfl, r, rs⟩ := h
    simp at e; subst e
    exact ⟨x, rfl, r⟩
  | d :: ds, xs, i + 1, d', h, e => by
    simp only [Reps] at h
    obtain ⟨x, xs, rfl, r, rs⟩ := h
    obtain ⟨y, e2, r2⟩ := reps_at (i := i) rs (by simpa using e)
    exact ⟨y, by simpa using e2, r2⟩
theorem reps_drop {w : Wd} : ∀ {ds : List D} {xs : List V} (n : Nat), Reps w ds xs → Reps w (ds.drop n) (xs.drop n)
  | ds, xs, 0, h => h
  | [], xs, n + 1, h => by simp only [Reps] at h; subst h; simp [Reps]
  | d :: ds, xs, n + 1, h => by
    simp only [Reps] at h
    obtain ⟨x, xs, rfl, r, rs⟩ := h
    exact reps_drop n rs
theorem reps_take {w : Wd} : ∀ {ds : List D} {xs : List V} (n : Nat), Reps w ds xs → Reps w (ds.take n) (xs.take n)
  | ds, xs, 0, h => by simp [Reps]
  | [], xs, n + 1, h => by simp only [Reps] at h; subst h; simp [Reps]
  | d :: ds, xs, n + 1, h => by
    simp only [Reps] at h
    obtain ⟨x, xs, rfl, r, rs⟩ := h
    show Reps w (d :: ds.take n) (x :: xs.take n)
    simp only [Reps]
    exact ⟨x, xs.take n, rfl, r, reps_take n rs⟩
theorem reps_get {w : Wd} {ds : List D} {xs : List V} {i : Nat} {x : V} (h : Reps w ds xs) (e : xs[i]? = some x) : ∃ d, ds[i]? = some d ∧ Rep w d x := by
  have hl := reps_len h
  have hi : i < xs.length := (List.getElem?_eq_some_iff.mp e).1
  obtain ⟨d, hd⟩ : ∃ d, ds[i]? = some d := ⟨ds[i]'(by omega), by simp [hl ▸ hi]⟩
  obtain ⟨y, e2, r⟩ := reps_at h hd
  rw [e] at e2
  cases e2
  exact ⟨d, hd, r⟩
/-! ## operators -/
def dAdd : D → D → Store → Option D
  | .int i, .int j, _ => some (.int (i + j))
  | .str x, .str y, _ => if x.length + y.length ≤ sizeLine then some (.str (x ++ y)) else none
  | .tup x, .tup y, _ => if x.length + y.length ≤ sizeLine then some (.tup (x ++ y)) else none
  | .lst x, .lst y, _ => if x.length + y.length ≤ sizeLine then some (.lst (x ++ y)) else none
  | _, _, _ => none
def dSub : D → D → Store → Option D
  | .int i, .int j, _ => some (.int (i - j))
  | _, _, _ => none
def mulOk (i j : Int) : Bool := decide (i.natAbs.log2 + j.natAbs.log2 < 1000000)
def dMul : D → D → Store → Option D
  | .int i, .int j, _ => if mulOk i j then some (.int (i * j)) else none
  | _, _, _ => none
def dMod : D → D → Store → Option D
  | .int i, .int j, _ => if 0 < j then some (.int (i % j)) else none
  | _, _, _ => none
def divOk (j : Int) : Bool := decide (0 < j ∧ j.natAbs.log2 < 9000)
def dDiv : D → D → Store → Option D
  | .int i, .int j, _ => if divOk j then some (.int (i / j)) else none
  | _, _, _ => none
def powOk (i j : Int) : Bool := decide (0 ≤ j ∧ j ≤ 1000000 ∧ i.natAbs < 2 ^ 64)
def dPow : D → D → Store → Option D
  | .int i, .int j, _ => if powOk i j then some (.int (i ^ j.toNat)) else none
  | _, _, _ => none
def dCmpI (p : Int → Int → Bool) : D → D → Store → Option D
  | .int i, .int j, _ => some (.bl (p i j))
  | _, _, _ => none
def dLt := dCmpI fun i j => decide (i < j)
def dLe := dCmpI fun i j => decide (i ≤ j)
def dGt := dCmpI fun i j => decide (j < i)
def dGe := dCmpI fun i j => decide (j ≤ i)
/-- == of data, at any depth -/
def eqD (a b : D) : Option Bool := match a.data, b.data with
  | some p, some q => if SeqAt.shaped p && SeqAt.shaped q then some (PyData.eqv p q) else none
  | _, _ => none
def dEq : D → D → Store → Option D := fun a b _ => (eqD a b).map .bl
def dNe : D → D → Store → Option D := fun a b _ => (eqD a b).map fun r => .bl (!r)
def dIsN : D → D → Store → Option D
  | .non, .non, _ => some (.bl true)
  | .exc _, .non, _ => none
  | _, .non, _ => some (.bl false)
  | _, _, _ => none
def dNotN : D → D → Store → Option D
  | .non, .non, _ => some (.bl false)
  | .exc _, .non, _ => none
  | _, .non, _ => some (.bl true)
  | _, _, _ => none
/-- x in a tuple, a list of data -/
def inD (x y : D) : Option Bool := match x.data, y.data with
  | some p, some (.list qs) => if SeqAt.shaped p && SeqAt.shaped (.list qs) then some (qs.any fun z => PyData.eqv z p) else none
  | some p, some (.tuple qs) => if SeqAt.shaped p && SeqAt.shaped (.tuple qs) then some (qs.any fun z => PyData.eqv z p) else none
  | _, _ => none
def dIn : D → D → Store → Option D := fun a b _ => (inD a b).map .bl
def dNotIn : D → D → Store → Option D := fun a b _ => (inD a b).map fun r => .bl (!r)
def dNeg : D → Store → Option D
  | .int i, _ => some (.int (-i))
  | _, _ => none
section
variable {X : Cx}
theorem wq_some {w : Wd} {o : Option D} {Q : VK} (h : Wq w o Q) : ∃ d, o = some d := let ⟨d, e, _⟩ := h; ⟨d, e⟩
theorem od_sub : OpD X (binaryOp .Sub) dSub := OpR.imp' op_sub fun x y H Q h => by
  obtain ⟨w, a, b, hk, rfl, rs, ra, rb, q⟩ := h
  obtain ⟨d, e⟩ := wq_some q
  unfold dSub at e
  split at e
  · rename_i i j
    simp only [Rep] at ra rb
    exact ⟨i, j, ra, rb, q.here rs rfl (rep_int _)⟩
  · cases e
theorem od_cmp {op : CmpOp} {p : Int → Int → Bool} (h : OpR X (compareOp op) (rI0 fun i j => .bl (p i j))) : OpD X (compareOp op) (dCmpI p) := OpR.imp' h fun x y H Q h => by
  obtain ⟨w, a, b, hk, rfl, rs, ra, rb, q⟩ := h
  obtain ⟨d, e⟩ := wq_some q
  unfold dCmpI at e
  split at e
  · rename_i i j
    simp only [Rep] at ra rb
    exact ⟨i, j, ra, rb, q.here rs rfl (rep_bl _)⟩
  · cases e
theorem od_lt : OpD X (compareOp .Lt) dLt := od_cmp op_lt
theorem od_le : OpD X (compareOp .LtE) dLe := od_cmp op_le
theorem od_gt : OpD X (compareOp .Gt) dGt := od_cmp op_gt
theorem od_ge : OpD X (compareOp .GtE) dGe := od_cmp op_ge
theorem od_mul : OpD X (binaryOp .Mult) dMul := OpR.imp' op_mulW fun x y H Q h => by
  obtain ⟨w, a, b, hk, rfl, rs, ra, rb, q⟩ := h
  obtain ⟨d, e⟩ := wq_some q
  unfold dMul at e
  split at e
  · rename_i i j
    split at e
    · rename_i hc
      simp only [Rep] at ra rb
      exact ⟨i, j, ra, rb, (by have z := of_decide_eq_true hc; exact z), q.here rs (if_pos hc) (rep_int _)⟩
    · cases e
  · cases e
theorem od_mod : OpD X (binaryOp .Mod) dMod := OpR.imp' op_mod fun x y H Q h => by
  obtain ⟨w, a, b, hk, rfl, rs, ra, rb, q⟩ := h
  obtain ⟨d, e⟩ := wq_some q
  unfold dMod at e
  split at e
  · rename_i i j
    split at e
    · rename_i hc
      simp only [Rep] at ra rb
      exact ⟨i, j, ra, rb, hc, q.here rs (if_pos hc) (rep_int _)⟩
    · cases e
  · cases e
theorem od_div : OpD X (binaryOp .FloorDiv) dDiv := OpR.imp' op_fdivW fun x y H Q h => by
  obtain ⟨w, a, b, hk, rfl, rs, ra, rb, q⟩ := h
  obtain ⟨d, e⟩ := wq_some q
  unfold dDiv at e
  split at e
  · rename_i i j
    split at e
    · rename_i hc
      simp only [Rep] at ra rb
      exact ⟨i, j, ra, rb, (by have z := of_decide_eq_true hc; exact z), q.here rs (if_pos hc) (rep_int _)⟩
    · cases e
  · cases e
theorem od_pow : OpD X (binaryOp .Pow) dPow := OpR.imp' op_pow fun x y H Q h => by
  obtain ⟨w, a, b, hk, rfl, rs, ra, rb, q⟩ := h
  obtain ⟨d, e⟩ := wq_some q
  unfold dPow at e
  split at e
  · rename_i i j
    split at e
    · rename_i hc
      simp only [Rep] at ra rb
      exact ⟨i, j, ra, rb, (by have z := of_decide_eq_true hc; exact z), q.here rs (if_pos hc) (rep_int _)⟩
    · cases e
  · cases e
theorem od_eq (hu : X.A.units + 64 < cLine) : OpD X (compareOp .Eq) dEq := OpR.imp' (op_eqD hu) fun x y H Q h => by
  obtain ⟨w, a, b, hk, rfl, rs, ra, rb, q⟩ := h
  obtain ⟨d, e⟩ := wq_some q
  unfold dEq eqD at e
  split at e
  · rename_i p1 p2 e1 e2
    split at e
    · rename_i hc
      obtain ⟨s1, s2⟩ := Bool.and_eq_true_iff.mp hc
      refine ⟨p1, p2, by rw [← hk]; exact dp_of a x p1 ra e1, by rw [← hk]; exact dp_of b y p2 rb e2, s1, s2, q.here rs ?_ (rep_bl _)⟩
      unfold dEq eqD
      rw [e1, e2]
      simp only [hc, if_true]
      rfl
    · cases e
  · cases e
theorem od_ne (hu : X.A.units + 64 < cLine) : OpD X (compareOp .NotEq) dNe := OpR.imp' (op_neD hu) fun x y H Q h => by
  obtain ⟨w, a, b, hk, rfl, rs, ra, rb, q⟩ := h
  obtain ⟨d, e⟩ := wq_some q
  unfold dNe eqD at e
  split at e
  · rename_i p1 p2 e1 e2
    split at e
    · rename_i hc
      obtain ⟨s1, s2⟩ := Bool.and_eq_true_iff.mp hc
      refine ⟨p1, p2, by rw [← hk]; exact dp_of a x p1 ra e1, by rw [← hk]; exact dp_of b y p2 rb e2, s1, s2, q.here rs ?_ (rep_bl _)⟩
      unfold dNe eqD
      rw [e1, e2]
      simp only [hc, if_true]
      rfl
    · cases e
  · cases e
theorem ref_of {w : Wd} {d : D} {v : V} (r : Rep w d v) (h : d ≠ .non) : v ≠ .non := by
  cases d with
  | non => exact absurd rfl h
  | bl _ => simp only [Rep] at r; subst r; exact fun z => nomatch z
  | int _ => simp only [Rep] at r; subst r; exact fun z => nomatch z
  | str _ => simp only [Rep] at r; subst r; exact fun z => nomatch z
  | tup _ => simp only [Rep] at r; obtain ⟨a, xs, rfl, _⟩ := r; exact fun z => nomatch z
  | lst _ => simp only [Rep] at r; obtain ⟨a, xs, rfl, _⟩ := r; exact fun z => nomatch z
  | cell _ => simp only [Rep] at r; rw [r.1]; exact fun z => nomatch z
  | dct0 => simp only [Rep] at r; obtain ⟨a, rfl, _⟩ := r; exact fun z => nomatch z
  | exc _ => simp only [Rep] at r
theorem od_isN : OpD X (compareOp .Is) dIsN := OpR.imp' op_isN fun x y H Q h => by
  obtain ⟨w, a, b, hk, rfl, rs, ra, rb, q⟩ := h
  obtain ⟨d, e⟩ := wq_some q
  have hb : b = .non := by cases b <;> first | rfl | (cases a <;> cases e)
  subst hb
  simp only [Rep] at rb
  refine ⟨rb, ?_⟩
  by_cases ha : a = .non
  · subst ha
    simp only [Rep] at ra
    subst ra
    exact q.here rs rfl (rep_bl _)
  · rw [decide_eq_false (ref_of ra ha)]
    refine q.here rs ?_ (rep_bl _)
    cases a <;> first | rfl | exact absurd rfl ha | (simp only [Rep] at ra)
theorem od_notN : OpD X (compareOp .IsNot) dNotN := OpR.imp' op_notN fun x y H Q h => by
  obtain ⟨w, a, b, hk, rfl, rs, ra, rb, q⟩ := h
  obtain ⟨d, e⟩ := wq_some q
  have hb : b = .non := by cases b <;> first | rfl | (cases a <;> cases e)
  subst hb
  simp only [Rep] at rb
  refine ⟨rb, ?_⟩
  by_cases ha : a = .non
  · subst ha
    simp only [Rep] at ra
    subst ra
    exact q.here rs rfl (rep_bl _)
  · rw [decide_eq_false (ref_of ra ha)]
    refine q.here rs ?_ (rep_bl _)
    cases a <;> first | rfl | exact absurd rfl ha | (simp only [Rep] at ra)
theorem od_add : OpD X (binaryOp .Add) dAdd := OpR.imp' (((op_add (X := X)).or op_add_str).or ((op_catA).or op_cat)) fun x y H Q h => by
  obtain ⟨w, a, b, hk, rfl, rs, ra, rb, q⟩ := h
  obtain ⟨d, e⟩ := wq_some q
  unfold dAdd at e
  split at e
  · rename_i i j
    simp only [Rep] at ra rb
    exact .inl (.inl ⟨i, j, ra, rb, q.here rs rfl (rep_int _)⟩)
  · rename_i i j
    split at e
    · rename_i hc
      simp only [Rep] at ra rb
      exact .inl (.inr ⟨i, j, ra, rb, hc, q.here rs (if_pos hc) (rep_str _)⟩)
    · cases e
  · rename_i ds es
    split at e
    · rename_i hc
      have e0 : dAdd (.tup ds) (.tup es) w.st = some (.tup (ds ++ es)) := if_pos hc
      have ra0 := ra
      have rb0 := rb
      simp only [Rep] at ra rb
      obtain ⟨a, xs, rfl, s1, r1, l1⟩ := ra
      obtain ⟨b, ys, rfl, s2, r2, l2⟩ := rb
      refine .inr (.inl ⟨a, b, xs, ys, rfl, rfl, by rw [← hk]; exact s1, by rw [← hk]; exact s2, by rw [reps_len r1, reps_len r2]; exact hc, fun hx => ?_, fun _ hy => ?_, fun _ _ p hp => ?_⟩)
      · subst hx
        have : ds = [] := List.length_eq_zero_iff.mp (by rw [← reps_len r1]; rfl)
        subst this
        exact q.here rs e0 rb0
      · subst hy
        have : es = [] := List.length_eq_zero_iff.mp (by rw [← reps_len r2]; rfl)
        subst this
        rw [List.append_nil] at e0
        exact q.here rs e0 ra0
      · exact q.new rs hp e0 (rep_newT rs hp (reps_app r1 r2) (by rw [List.length_append]; exact hc))
    · cases e
  · rename_i ds es
    split at e
    · rename_i hc
      have e0 : dAdd (.lst ds) (.lst es) w.st = some (.lst (ds ++ es)) := if_pos hc
      simp only [Rep] at ra rb
      obtain ⟨a, xs, rfl, s1, r1, l1⟩ := ra
      obtain ⟨b, ys, rfl, s2, r2, l2⟩ := rb
      exact .inr (.inr ⟨a, b, xs, ys, rfl, rfl, s1.1.1, s2.1.1, by rw [reps_len r1, reps_len r2]; exact hc, fun p hp => q.new rs hp e0 (rep_new rs hp (reps_app r1 r2) (by rw [List.length_append]; exact hc))⟩)
    · cases e
  · cases e
/-- x in a tuple of data -/
def rInT (K : PySem.W.Frag) (neg : Bool) : R2 := fun x y H Q => ∃ d ds, Dp K H x d ∧ Dp K H y (.tuple ds) ∧ SeqAt.shaped d = true ∧ SeqAt.shaped (.tuple ds) = true ∧ Q (.bl (if neg = true then !ds.any (fun z => PyData.eqv z d) else ds.any fun z => PyData.eqv z d)) H
theorem op_inT (hu : X.A.units + 65 < cLine) : OpR X (compareOp .In) (rInT X.K false) := by
  intro pins s σ H x y v u Q I rx ry h
  obtain ⟨d, ds, hd, he, sd, se, q⟩ := h
  obtain ⟨as, r1⟩ := Dp.reads I d x v hd rx
  obtain ⟨bs, r2⟩ := Dp.reads I (.tuple ds) y u he ry
  exact SeqAt.in_tuple_reads r2 r1 (SeqAt.canLay_of_shaped se) (SeqAt.canLay_of_shaped sd) (room_in_shaped sd hu) ⟨.bl _, H, I, rfl, q⟩
theorem op_notInT (hu : X.A.units + 65 < cLine) : OpR X (compareOp .NotIn) (rInT X.K true) := by
  intro pins s σ H x y v u Q I rx ry h
  obtain ⟨d, ds, hd, he, sd, se, q⟩ := h
  obtain ⟨as, r1⟩ := Dp.reads I d x v hd rx
  obtain ⟨bs, r2⟩ := Dp.reads I (.tuple ds) y u he ry
  exact SeqAt.notIn_tuple_reads r2 r1 (SeqAt.canLay_of_shaped se) (SeqAt.canLay_of_shaped sd) (room_in_shaped sd hu) ⟨.bl _, H, I, rfl, q⟩
theorem od_in (hu : X.A.units + 65 < cLine) : OpD X (compareOp .In) dIn := OpR.imp' ((op_inD hu).or (op_inT hu)) fun x y H Q h => by
  obtain ⟨w, a, b, hk, rfl, rs, ra, rb, q⟩ := h
  obtain ⟨d, e⟩ := wq_some q
  unfold dIn inD at e
  split at e
  · rename_i p qs e1 e2
    split at e
    · rename_i hc
      obtain ⟨s1, s2⟩ := Bool.and_eq_true_iff.mp hc
      refine .inl ⟨p, qs, by rw [← hk]; exact dp_of a x p ra e1, by rw [← hk]; exact dp_of b y _ rb e2, s1, s2, q.here rs ?_ (rep_bl _)⟩
      unfold dIn inD
      rw [e1, e2]
      simp only [hc, if_true]
      rfl
    · cases e
  · rename_i p qs e1 e2
    split at e
    · rename_i hc
      obtain ⟨s1, s2⟩ := Bool.and_eq_true_iff.mp hc
      refine .inr ⟨p, qs, by rw [← hk]; exact dp_of a x p ra e1, by rw [← hk]; exact dp_of b y _ rb e2, s1, s2, q.here rs ?_ (rep_bl _)⟩
      unfold dIn inD
      rw [e1, e2]
      simp only [hc, if_true]
      rfl
    · cases e
  · cases e
theorem od_notIn (hu : X.A.units + 65 < cLine) : OpD X (compareOp .NotIn) dNotIn := OpR.imp' ((op_notInD hu).or (op_notInT hu)) fun x y H Q h => by
  obtain ⟨w, a, b, hk, rfl, rs, ra, rb, q⟩ := h
  obtain ⟨d, e⟩ := wq_some q
  unfold dNotIn inD at e
  split at e
  · rename_i p qs e1 e2
    split at e
    · rename_i hc
      obtain ⟨s1, s2⟩ := Bool.and_eq_true_iff.mp hc
      refine .inl ⟨p, qs, by rw [← hk]; exact dp_of a x p ra e1, by rw [← hk]; exact dp_of b y _ rb e2, s1, s2, q.here rs ?_ (rep_bl _)⟩
      unfold dNotIn inD
      rw [e1, e2]
      simp only [hc, if_true]
      rfl
    · cases e
  · rename_i p qs e1 e2
    split at e
    · rename_i hc
      obtain ⟨s1, s2⟩ := Bool.and_eq_true_iff.mp hc
      refine .inr ⟨p, qs, by rw [← hk]; exact dp_of a x p ra e1, by rw [← hk]; exact dp_of b y _ rb e2, s1, s2, q.here rs ?_ (rep_bl _)⟩
      unfold dNotIn inD
      rw [e1, e2]
      simp only [hc, if_true]
      rfl
    · cases e
  · cases e
theorem ud_neg : UnR X (unaryOp .USub) (rdU X.K dNeg) := UnR.imp' un_neg fun x H Q h => by
  obtain ⟨w, a, hk, rfl, rs, ra, q⟩ := h
  obtain ⟨d, e⟩ := wq_some q
  unfold dNeg at e
  split at e
  · rename_i i
    simp only [Rep] at ra
    exact ⟨i, ra, q.here rs rfl (rep_int _)⟩
  · cases e
end
end G
end

section
set_option Elab.async false
set_option linter.all false
set_option autoImplicit false
set_option maxRecDepth 100000
set_option maxHeartbeats 1000000
namespace G
open PySem PySem.Spec PyProof.Rows L2
/-! ## subscripts, slices -/
theorem atI_reps {w : Wd} {ds : List D} {xs : List V} {i : Int} {d : D} (h : Reps w ds xs) (e : atI ds i = some d) : ∃ x, atI xs i = some x ∧ Rep w d x := by
  unfold atI at e ⊢
  rw [reps_len h]
  cases q : ixN ds.length i with
  | none => rw [q] at e; cases e
  | some j =>
    rw [q] at e
    obtain ⟨x, e2, r⟩ := reps_at h (i := j) (d := d) e
    exact ⟨x, e2, r⟩
def cellL (st : Store) (i : Nat) : Option (List D) := match st[i]? with
  | some (.lst l) => some l
  | some (.ro l) => some l
  | _ => none
/-- a list's cell that is read -/
theorem cell_sq {w : Wd} (rs : RS w) {i : Nat} {l : List D} (h : cellL w.st i = some l) : ∃ xs, SqL w.K w.H (w.m i) xs ∧ Reps w l xs ∧ l.length ≤ sizeLine := by
  unfold cellL at h
  split at h
  · rename_i l' e
    cases h
    obtain ⟨xs, e1, r1, z⟩ := rs.cells i _ e
    exact ⟨xs, SqL.of e1, r1, z⟩
  · rename_i l' e
    cases h
    obtain ⟨xs, e1, r1, z⟩ := rs.cells i _ e
    exact ⟨xs, e1.sq, r1, z⟩
  · cases h
def dIdx : D → D → Store → Option D
  | .tup l, .int i, _ => atI l i
  | .lst l, .int i, _ => atI l i
  | .cell c, .int i, st => (cellL st c).bind fun l => atI l i
  | .str z, .int i, _ => if z.length ≤ sizeLine then (atI z.cps.toList i).map fun c => .str ⟨#[c]⟩ else none
  | _, _, _ => none
section
variable {X : Cx} {W : XW} {e a b c : Expr} {pos : Pos} {fa fb fc : Ev → M D}
theorem IxR.imp' {r r' : R2} (h : IxR X r) (k : ∀ x y H Q, r' x y H Q → r x y H Q) : IxR X r' := fun va sl pins s σ H x y v u Q I rx ry z => h va sl pins s σ H x y v u Q I rx ry (k _ _ _ _ z)
theorem xd_idx : IxR X (rdO X.K dIdx) := IxR.imp' ((ix_list (X := X)).or (ix_tup.or ix_str)) fun x y H Q h => by
  obtain ⟨w, a, b, hk, rfl, rs, ra, rb, q⟩ := h
  obtain ⟨d, e⟩ := wq_some q
  unfold dIdx at e
  split at e
  · rename_i l i
    simp only [Rep] at ra rb
    obtain ⟨a, xs, rfl, s1, r1, l1⟩ := ra
    obtain ⟨z, e2, r2⟩ := atI_reps r1 e
    exact .inr (.inl ⟨a, xs, i, z, rfl, rb, by rw [← hk]; exact s1, e2, q.here rs e r2⟩)
  · rename_i l i
    simp only [Rep] at ra rb
    obtain ⟨a, xs, rfl, s1, r1, l1⟩ := ra
    obtain ⟨z, e2, r2⟩ := atI_reps r1 e
    exact .inl ⟨a, xs, i, z, rfl, rb, SqL.of s1.1.1, e2, q.here rs e r2⟩
  · rename_i st' c i
    simp only [Rep] at ra rb
    have e0 := e
    cases qc : cellL w.st c with
    | none => rw [qc] at e; cases e
    | some l =>
      rw [qc] at e
      obtain ⟨xs, s1, r1, l1⟩ := cell_sq rs qc
      obtain ⟨z, e2, r2⟩ := atI_reps r1 e
      exact .inl ⟨_, xs, i, z, ra.1, rb, by rw [← hk]; exact s1, e2, q.here rs e0 r2⟩
  · rename_i z i
    simp only [Rep] at ra rb
    have e0 := e
    split at e
    · rename_i hl
      cases qa : atI z.cps.toList i with
      | none => rw [qa] at e; cases e
      | some c =>
        rw [qa] at e
        exact .inr (.inr ⟨z, i, c, ra, rb, hl, qa, q.here rs (e0.trans e.symm) (rep_str _)⟩)
    · cases e
  · cases e
theorem de_ix (ha : DE X W a fa) (hb : DE X W b fb) (hs : PlainIx b := by intro _ _; rfl) : DE X W (.Subscript a b pos) (eOp dIdx fa fb) := PE.imp' (pe_ix xd_idx ha hb hs) fun _ _ _ h => two h
def cut (l : List D) (lo hi : Option Int) : List D := (l.drop (HT.sIx l.length 0 lo)).take (HT.sIx l.length l.length hi - HT.sIx l.length 0 lo)
theorem cut_len (l : List D) (lo hi : Option Int) : (cut l lo hi).length ≤ l.length := by
  unfold cut
  rw [List.length_take, List.length_drop]
  omega
theorem cut_reps {w : Wd} {ds : List D} {xs : List V} (lo hi : Option Int) (h : Reps w ds xs) : Reps w (cut ds lo hi) (cutV xs lo hi) := by
  unfold cut cutV
  rw [reps_len h]
  exact reps_take _ (reps_drop _ h)
def dSl (lo hi : Option Int) : D → Store → Option D
  | .tup l, _ => some (.tup (cut l lo hi))
  | .lst l, _ => some (.lst (cut l lo hi))
  | .cell c, st => (cellL st c).map fun l => .lst (cut l lo hi)
  | .str z, _ => if z.length ≤ sizeLine then some (.str (cutS z lo hi)) else none
  | _, _ => none
def rdSl (K : PySem.W.Frag) : V → Option Int → Option Int → Hp → VK → Prop := fun x lo hi H Q => ∃ (w : Wd) (a : D), w.K = K ∧ w.H = H ∧ RS w ∧ Rep w a x ∧ Wq w (dSl lo hi a w.st) Q
theorem SlR.imp' {r r' : V → Option Int → Option Int → Hp → VK → Prop} (h : SlR X r) (k : ∀ x lo hi H Q, r' x lo hi H Q → r x lo hi H Q) : SlR X r' := fun pins s σ H x v vl vu lo hi sl Q I rx hs pl pu z => h pins s σ H x v vl vu lo hi sl Q I rx hs pl pu (k _ _ _ _ _ z)
theorem cut_whole {l : List D} {lo hi : Option Int} (h1 : HT.sIx l.length 0 lo = 0) (h2 : HT.sIx l.length l.length hi = l.length) : cut l lo hi = l := by
  unfold cut
  rw [h1, h2]
  simp
theorem sd_sl : SlR X (rdSl X.K) := SlR.imp' ((sl_list (X := X)).or (sl_tupA.or sl_str)) fun x lo hi H Q h => by
  obtain ⟨w, a, hk, rfl, rs, ra, q⟩ := h
  obtain ⟨d, e⟩ := wq_some q
  unfold dSl at e
  split at e
  · rename_i l
    have ra0 := ra
    simp only [Rep] at ra
    obtain ⟨a, xs, rfl, s1, r1, l1⟩ := ra
    refine .inr (.inl ⟨a, xs, rfl, by rw [← hk]; exact s1, fun hw => ?_, fun _ p hp => ?_⟩)
    · rw [reps_len r1] at hw
      exact q.here rs (congrArg (fun z => some (D.tup z)) (cut_whole hw.1 hw.2)) ra0
    · exact q.new rs hp rfl (rep_newT rs hp (cut_reps lo hi r1) (Nat.le_trans (cut_len l lo hi) l1))
  · rename_i l
    simp only [Rep] at ra
    obtain ⟨a, xs, rfl, s1, r1, l1⟩ := ra
    exact .inl ⟨a, xs, rfl, SqL.of s1.1.1, fun p hp => q.new rs hp rfl (rep_new rs hp (cut_reps lo hi r1) (Nat.le_trans (cut_len l lo hi) l1))⟩
  · rename_i st' c
    simp only [Rep] at ra
    have e0 := e
    cases qc : cellL w.st c with
    | none => rw [qc] at e; cases e
    | some l =>
      rw [qc] at e
      obtain ⟨xs, s1, r1, l1⟩ := cell_sq rs qc
      refine .inl ⟨_, xs, ra.1, by rw [← hk]; exact s1, fun p hp => q.new rs hp (e0.trans e.symm) (rep_new rs hp (cut_reps lo hi r1) (Nat.le_trans (cut_len l lo hi) l1))⟩
  · rename_i z
    simp only [Rep] at ra
    split at e
    · rename_i hl
      exact .inr (.inr ⟨z, ra, hl, q.here rs (if_pos hl) (rep_str _)⟩)
    · cases e
  · cases e
def rdP (K : PySem.W.Frag) (W : XW) (f : Ev → M (Option Int)) : TO := fun σ H Q => ∃ (w : Wd) (env : Ev), w.K = K ∧ w.H = H ∧ RS w ∧ REnv w env σ ∧ Wp w (f env w.st) (fun o w' => Q o w'.H) (fun c w' => W c σ w'.H)
def DP (X : Cx) (W : XW) (e : Option Expr) (f : Ev → M (Option Int)) : Prop := PO X e (rdP X.K W f)
theorem PO.imp' {e : Option Expr} {t t' : TO} (h : PO X e t) (k : ∀ σ H Q, t' σ H Q → t σ H Q) : PO X e t' := ⟨fun pins s σ H Q I z => h.run pins s σ H Q I (k σ H Q z)⟩
def pNo : Ev → M (Option Int) := fun _ => pure none
def asI : D → M Int
  | .int i => pure i
  | _ => M.stuck
def pAt (f : Ev → M D) : Ev → M (Option Int) := fun env => do
  let d ← f env
  let i ← asI d
  pure (some i)
theorem asI_wp {w : Wd} {d : D} {P : Int → Wd → Prop} {V' : Str → Wd → Prop} (rs : RS w) (h : Wp w (asI d w.st) P V') : ∃ b, d = .int b ∧ P b w := by
  cases d with
  | int b => exact ⟨b, rfl, Wp.ok_ rs h⟩
  | _ => exact h.elim
theorem dp_no : DP X W none pNo := PO.imp' po_none fun σ H Q h => by
  obtain ⟨w, env, hk, rfl, r, n, h⟩ := h
  exact Wp.ok_ (a := (none : Option Int)) r h
theorem dp_at (ha : DE X W a fa) : DP X W (some a) (pAt fa) := PO.imp' (po_some ha) fun σ H Q h => by
  obtain ⟨w, env, hk, rfl, r, n, h⟩ := h
  refine ⟨w, env, hk, rfl, r, n, (Wp.bind h).imp fun x w1 a1 h1 v rv => ?_⟩
  obtain ⟨i, rfl, h2⟩ := asI_wp a1.rs (Wp.bind h1)
  simp only [Rep] at rv
  exact ⟨i, rv, Wp.ok_ (a := some i) a1.rs h2⟩
def eSl (fa : Ev → M D) (fl fh : Ev → M (Option Int)) : Ev → M D := fun env => do
  let d ← fa env
  let lo ← fl env
  let hi ← fh env
  lift (dSl lo hi d)
theorem de_sl {lo hi : Option Expr} {p2 : Pos} {fl fh : Ev → M (Option Int)} (ha : DE X W a fa) (hl : DP X W lo fl) (hh : DP X W hi fh) : DE X W (.Subscript a (.Slice lo hi none p2) pos) (eSl fa fl fh) := PE.imp' (pe_slice sd_sl ha hl hh) fun σ H Q h => by
  obtain ⟨w, env, hk, rfl, r, n, h⟩ := h
  refine ⟨w, env, hk, rfl, r, n, (Wp.bind h).imp fun x w1 a1 h1 v rv => ?_⟩
  refine ⟨w1, env, a1.k.trans hk, rfl, a1.rs, n.after a1, (Wp.bind h1).imp fun lo w2 a2 h2 => ?_⟩
  refine ⟨w2, env, a2.k.trans (a1.k.trans hk), rfl, a2.rs, (n.after a1).after a2, (Wp.bind h2).imp fun hi w3 a3 h3 => ?_⟩
  exact ⟨w3, x, a3.k.trans (a2.k.trans (a1.k.trans hk)), rfl, a3.rs, (a2.trans a3).rep rv, Wq.of h3⟩
/-! ## a < b < c -/
def eChain (g g' : D → D → Store → Option D) (fa fb fc : Ev → M D) : Ev → M D := fun env => do
  let x ← fa env
  let y ← fb env
  let z ← lift (g x y)
  let k ← asB z
  if k = true then do
    let u ← fc env
    lift (g' y u)
  else pure (.bl false)
theorem chain_rd {g g' : D → D → Store → Option D} {σ : L2.St} {H : Hp} {Q : VK} (h : rdE X.K W (eChain g g' fa fb fc) σ H Q) : tChain (rdO X.K g) (rdO X.K g') (rdE X.K W fa) (rdE X.K W fb) (rdE X.K W fc) σ H Q := by
  obtain ⟨w, env, hk, rfl, r, n, h⟩ := h
  refine ⟨w, env, hk, rfl, r, n, (Wp.bind h).imp fun x w1 a1 h1 v rv => ?_⟩
  refine ⟨w1, env, a1.k.trans hk, rfl, a1.rs, n.after a1, (Wp.bind h1).imp fun y w2 a2 h2 u ru => ?_⟩
  have h3 := Wp.bind h2
  refine ⟨w2, x, y, a2.k.trans (a1.k.trans hk), rfl, a2.rs, a2.rep rv, ru, ?_⟩
  unfold lift at h3
  cases e : g x y w2.st with
  | none => rw [e] at h3; exact h3.elim
  | some z =>
    rw [e] at h3
    refine ⟨z, rfl, fun w3 a3 e3 t rt => ?_⟩
    have h4 := h3 w3 a3 e3
    obtain ⟨k, rfl, h5⟩ := asB_wp a3.rs (Wp.bind h4)
    simp only [Rep] at rt
    refine ⟨k, rt, ?_⟩
    cases k with
    | true =>
      refine iteT ⟨w3, env, a3.k.trans (a2.k.trans (a1.k.trans hk)), rfl, a3.rs, ((n.after a1).after a2).after a3, (Wp.bind h5).imp fun t' w4 a4 h6 s rs' => ?_⟩
      exact ⟨w4, y, t', a4.k.trans (a3.k.trans (a2.k.trans (a1.k.trans hk))), rfl, a4.rs, (a3.trans a4).rep ru, rs', Wq.of h6⟩
    | false => exact iteF (Wp.ok_ (a := D.bl false) a3.rs h5 _ (rep_bl _))
theorem de_chain {op op' : CmpOp} {g g' : D → D → Store → Option D} (ho : OpD X (compareOp op) g) (ho' : OpD X (compareOp op') g') (ha : DE X W a fa) (hb : DE X W b fb) (hc : DE X W c fc)
    (hm : lastMarks [op, op'] [b, c] = false := by with_unfolding_all rfl) : DE X W (.Compare a [op, op'] [b, c] pos) (eChain g g' fa fb fc) := PE.imp' (pe_chain ho ho' ha hb hc hm) fun _ _ _ h => chain_rd h
theorem dt_chain {op op' : CmpOp} {g g' : D → D → Store → Option D} (ho : OpD X (compareOp op) g) (ho' : OpD X (compareOp op') g') (ha : DE X W a fa) (hb : DE X W b fb) (hc : DE X W c fc)
    (hm : lastMarks [op, op'] [b, c] = false := by with_unfolding_all rfl) : DT X W (.Compare a [op, op'] [b, c] pos) (tVal (eChain g g' fa fb fc)) := PT.imp' (pt_chain ho ho' ha hb hc hm) fun σ H Q h => chain_rd (tval h)
/-! ## isinstance with a built-in class -/
def tyName (st : Store) : D → Option String
  | .non => some "NoneType"
  | .bl _ => some "bool"
  | .int _ => some "int"
  | .str _ => some "str"
  | .tup _ => some "tuple"
  | .lst _ => some "list"
  | .dct0 => some "dict"
  | .cell i => match st[i]? with
    | some (.lst _) => some "list"
    | some (.dct _) => some "dict"
    | _ => none
  | .exc _ => none
theorem tyx_of {w : Wd} (rs : RS w) {d : D} {v : V} {n : String} (r : Rep w d v) (h : tyName w.st d = some n) : TyX w.K w.H v (.type n) := by
  cases d with
  | non => simp only [Rep] at r; cases h; subst r; exact .base .non
  | bl b => simp only [Rep] at r; cases h; subst r; exact .base (.bl b)
  | int b => simp only [Rep] at r; cases h; subst r; exact .base (.int b)
  | str b => simp only [Rep] at r; cases h; subst r; exact .base (.str b)
  | tup l =>
    simp only [Rep] at r; cases h
    obtain ⟨a, xs, rfl, s, _, _⟩ := r
    rcases s with (s | ⟨o, s⟩) | ⟨o, its, k, s1, s2, _⟩
    · exact .base (.tup s)
    · exact .fTuple s
    · exact .kTuple s1 s2
  | lst l =>
    simp only [Rep] at r; cases h
    obtain ⟨a, xs, rfl, s, _, _⟩ := r
    exact .base (.lst s.1.1)
  | dct0 =>
    simp only [Rep] at r; cases h
    obtain ⟨a, rfl, s⟩ := r
    exact .base (.dK s.1.1)
  | cell i =>
    simp only [Rep] at r
    unfold tyName at h
    simp only at h
    rw [r.1]
    split at h
    · rename_i l e
      cases h
      obtain ⟨xs, e1, _, _⟩ := rs.cells i _ e
      exact .base (.lst e1)
    · rename_i l e
      cases h
      obtain ⟨xs, e1, _⟩ := rs.cells i _ e
      exact .base (.dK e1)
    · cases h
  | exc c => cases h
/-- the answer of isinstance for the seven types -/
def isTy (n T : String) : Bool := n == T || (n == "bool" && T == "int")
def knownTy (T : String) : Prop := ∀ n ∈ ["NoneType", "bool", "int", "str", "tuple", "list", "dict"], kitB n T = some (isTy n T)
theorem ty_int : knownTy "int" := by unfold knownTy; decide +kernel
theorem ty_bool : knownTy "bool" := by unfold knownTy; decide +kernel
theorem ty_str : knownTy "str" := by unfold knownTy; decide +kernel
theorem ty_tuple : knownTy "tuple" := by unfold knownTy; decide +kernel
theorem ty_list : knownTy "list" := by unfold knownTy; decide +kernel
theorem ty_dict : knownTy "dict" := by unfold knownTy; decide +kernel
theorem tyName_mem {st : Store} {d : D} {n : String} (h : tyName st d = some n) : n ∈ ["NoneType", "bool", "int", "str", "tuple", "list", "dict"] := by
  cases d with
  | cell i =>
    unfold tyName at h
    simp only at h
    split at h <;> cases h <;> decide
  | exc c => cases h
  | _ => cases h; decide
def dIsT (T : String) : D → Store → Option D := fun d st => (tyName st d).map fun n => .bl (isTy n T)
theorem de_isi {T : String} {x : Str} {p p' : Pos} (hT : knownTy T) (ha : DE X W a fa) (hg : Gl X "isinstance") (hm : X.mg "isinstance" = none) (hg2 : Gl X x) (hm2 : X.mg x = none) (hv : bootBuiltins x = some (.type T)) (hn : x ≠ "__name__" := by decide) (hdb : (x == ("__debug__" : Str)) = false := by decide)
    (he : starEach [a, .Name x p'] X.env = (false, eval a X.env) :: starEach [.Name x p'] X.env := by rfl) (he2 : starEach [.Name x p'] X.env = (false, eval (.Name x p') X.env) :: starEach [] X.env := by rfl) (hpl : (backTo pos (starEach [.Name x p'] X.env)).any (·.1) = false := by rfl) :
    DE X W (.Call (.Name "isinstance" p) [a, .Name x p'] [] pos) (eUn (dIsT T) fa) := by
  refine PE.imp' (pe_callB call_isi hg hm (by decide +kernel) (pa_cons ha (pa_cons (pe_bltn (v := .ty T) hg2 hm2 hv rfl hn hdb) pa_nil he2) he) (by decide) (by decide) he hpl) fun σ H Q h => ?_
  obtain ⟨w, env, hk, rfl, r, n, h⟩ := h
  refine ⟨w, env, hk, rfl, r, n, (Wp.bind h).imp fun d w1 a1 h1 v rv => ?_⟩
  have q := Wq.of h1
  obtain ⟨d', e⟩ := wq_some q
  cases et : tyName w1.st d with
  | none => unfold dIsT at e; rw [et] at e; cases e
  | some t =>
    refine ⟨v, .ty T, .type t, .type T, isTy t T, rfl, .ty T, by rw [← hk, ← a1.k]; exact tyx_of a1.rs rv et, kit_ty (hT t (tyName_mem et)), ?_⟩
    exact q.here a1.rs (by unfold dIsT; rw [et]; rfl) (rep_bl _)
end
end G
end

section
set_option Elab.async false
set_option linter.all false
set_option autoImplicit false
set_option maxRecDepth 100000
set_option maxHeartbeats 1000000
namespace G
open PySem PySem.Spec PyProof.Rows L2
/-! ## built-in functions -/
theorem reps1 {w : Wd} {d : D} {vs : List V} (h : Reps w [d] vs) : ∃ v, vs = [v] ∧ Rep w d v := by
  simp only [Reps] at h
  obtain ⟨x, xs, rfl, r, rfl⟩ := h
  exact ⟨x, rfl, r⟩
theorem reps2 {w : Wd} {d e : D} {vs : List V} (h : Reps w [d, e] vs) : ∃ v u, vs = [v, u] ∧ Rep w d v ∧ Rep w e u := by
  simp only [Reps] at h
  obtain ⟨x, xs, rfl, r, y, ys, rfl, r2, rfl⟩ := h
  exact ⟨x, y, rfl, r, r2⟩
def ints? : List D → Option (List Int)
  | [] => some []
  | .int i :: r => (ints? r).map (i :: ·)
  | _ => none
def bools? : List D → Option (List Bool)
  | [] => some []
  | .bl i :: r => (bools? r).map (i :: ·)
  | _ => none
theorem ints_reps {w : Wd} : ∀ {l : List D} {ns : List Int} {xs : List V}, ints? l = some ns → Reps w l xs → xs = ns.map V.int
  | [], ns, xs, h, r => by cases h; simp only [Reps] at r; exact r
  | .int i :: l, ns, xs, h, r => by
    simp only [Reps] at r
    obtain ⟨x, ys, rfl, r1, r2⟩ := r
    cases q : ints? l with
    | none => simp [ints?, q] at h
    | some ms =>
      simp [ints?, q] at h
      subst h
      simp only [Rep] at r1
      subst r1
      rw [ints_reps q r2]
      rfl
  | .non :: _, _, _, h, _ => by cases h
  | .bl _ :: _, _, _, h, _ => by cases h
  | .str _ :: _, _, _, h, _ => by cases h
  | .tup _ :: _, _, _, h, _ => by cases h
  | .lst _ :: _, _, _, h, _ => by cases h
  | .cell _ :: _, _, _, h, _ => by cases h
  | .dct0 :: _, _, _, h, _ => by cases h
  | .exc _ :: _, _, _, h, _ => by cases h
theorem bools_reps {w : Wd} : ∀ {l : List D} {ns : List Bool} {xs : List V}, bools? l = some ns → Reps w l xs → xs = ns.map V.bl
  | [], ns, xs, h, r => by cases h; simp only [Reps] at r; exact r
  | .bl i :: l, ns, xs, h, r => by
    simp only [Reps] at r
    obtain ⟨x, ys, rfl, r1, r2⟩ := r
    cases q : bools? l with
    | none => simp [bools?, q] at h
    | some ms =>
      simp [bools?, q] at h
      subst h
      simp only [Rep] at r1
      subst r1
      rw [bools_reps q r2]
      rfl
  | .non :: _, _, _, h, _ => by cases h
  | .int _ :: _, _, _, h, _ => by cases h
  | .str _ :: _, _, _, h, _ => by cases h
  | .tup _ :: _, _, _, h, _ => by cases h
  | .lst _ :: _, _, _, h, _ => by cases h
  | .cell _ :: _, _, _, h, _ => by cases h
  | .dct0 :: _, _, _, h, _ => by cases h
  | .exc _ :: _, _, _, h, _ => by cases h
def dLen : List D → Store → Option D
  | [.str z], _ => if z.length ≤ sizeLine then some (.int z.length) else none
  | [.tup l], _ => some (.int l.length)
  | [.lst l], _ => some (.int l.length)
  | [.cell c], st => (cellL st c).map fun l => .int l.length
  | _, _ => none
def dSum : List D → Store → Option D
  | [.lst l], _ => (ints? l).map fun ns => .int ns.sum
  | _, _ => none
def dAll : List D → Store → Option D
  | [.lst l], _ => (bools? l).map fun ns => .bl (ns.all id)
  | _, _ => none
def dAny : List D → Store → Option D
  | [.lst l], _ => (bools? l).map fun ns => .bl (ns.any id)
  | _, _ => none
def dTuple : List D → Store → Option D
  | [.lst l], _ => some (.tup l)
  | [.tup l], _ => some (.tup l)
  | [.cell c], st => (cellL st c).map fun l => .tup l
  | _, _ => none
def dList : List D → Store → Option D
  | [.lst l], _ => some (.lst l)
  | [.tup l], _ => some (.lst l)
  | [.cell c], st => (cellL st c).map fun l => .lst l
  | _, _ => none
def dMax2 : List D → Store → Option D
  | [.int i, .int j], _ => some (.int (if j > i then j else i))
  | _, _ => none
def dMin2 : List D → Store → Option D
  | [.int i, .int j], _ => some (.int (if j < i then j else i))
  | _, _ => none
def dDivmod : List D → Store → Option D
  | [.int i, .int j], _ => if divOk j then some (.tup [.int (i / j), .int (i % j)]) else none
  | _, _ => none
def dStr : List D → Store → Option D
  | [.int i], _ => if i.natAbs.log2 < 1920 then some (.str (toString i)) else none
  | _, _ => none
def dInt : List D → Store → Option D
  | [.str a], _ => if a.length ≤ 640 then (PySem.intText? a).map .int else none
  | [.int i], _ => some (.int i)
  | _, _ => none
theorem divp_of {i j : Int} (h : divOk j = true) : CDivP i j := by
  obtain ⟨h1, h2⟩ := (by have z := of_decide_eq_true h; exact z : 0 < j ∧ j.natAbs.log2 < 9000)
  refine ⟨h1, ?_⟩
  unfold Builtin.divisionGoesByPylong
  simp only [Bool.and_eq_false_iff, decide_eq_false_iff_not]
  left
  have hj : (j == 0) = false := by simp; omega
  rw [hj]
  simp only [if_neg (show ¬ (false = true) by decide)]
  omega
section
variable {X : Cx} {W : XW} {e a b c : Expr} {pos : Pos} {fa fb fc : Ev → M D}
theorem cd_len : CallD X (.builtin "len") dLen := CallR.imp' ((call_len_seq (X := X)).or call_len_str) fun xs H Q h => by
  obtain ⟨w, ds, hk, rfl, rs, rd, q⟩ := h
  obtain ⟨d, e⟩ := wq_some q
  unfold dLen at e
  split at e
  · rename_i z
    obtain ⟨v, rfl, r⟩ := reps1 rd
    simp only [Rep] at r
    split at e
    · rename_i hl
      exact .inr ⟨z, by rw [r], hl, q.here rs (if_pos hl) (rep_int _)⟩
    · cases e
  · rename_i l
    obtain ⟨v, rfl, r⟩ := reps1 rd
    simp only [Rep] at r
    obtain ⟨a, ys, rfl, s, r1, _⟩ := r
    refine .inl ⟨a, ys, rfl, .inr (by rw [← hk]; exact s), ?_⟩
    rw [reps_len r1]
    exact q.here rs rfl (rep_int _)
  · rename_i l
    obtain ⟨v, rfl, r⟩ := reps1 rd
    simp only [Rep] at r
    obtain ⟨a, ys, rfl, s, r1, _⟩ := r
    refine .inl ⟨a, ys, rfl, .inl (SqL.of s.1.1), ?_⟩
    rw [reps_len r1]
    exact q.here rs rfl (rep_int _)
  · rename_i st' c
    obtain ⟨v, rfl, r⟩ := reps1 rd
    simp only [Rep] at r
    have e0 := e
    cases qc : cellL w.st c with
    | none => rw [qc] at e; cases e
    | some l =>
      rw [qc] at e
      obtain ⟨ys, s1, r1, _⟩ := cell_sq rs qc
      refine .inl ⟨_, ys, by rw [r.1], .inl (by rw [← hk]; exact s1), ?_⟩
      rw [reps_len r1]
      exact q.here rs (e0.trans e.symm) (rep_int _)
  · cases e
theorem cd_sum (hc : X.calm = true) : CallD X (.builtin "sum") dSum := CallR.imp' (cr_sum hc) fun xs H Q h => by
  obtain ⟨w, ds, hk, rfl, rs, rd, q⟩ := h
  obtain ⟨d, e⟩ := wq_some q
  unfold dSum at e
  split at e
  · rename_i l
    obtain ⟨v, rfl, r⟩ := reps1 rd
    simp only [Rep] at r
    obtain ⟨a, ys, rfl, s, r1, _⟩ := r
    have e0 := e
    cases qi : ints? l with
    | none => rw [qi] at e; cases e
    | some ns =>
      rw [qi] at e
      exact ⟨a, ns, rfl, by rw [← ints_reps qi r1]; exact SqL.of s.1.1, q.here rs (e0.trans e.symm) (rep_int _)⟩
  · cases e
theorem cd_all (hc : X.calm = true) : CallD X (.builtin "all") dAll := CallR.imp' (cr_all hc) fun xs H Q h => by
  obtain ⟨w, ds, hk, rfl, rs, rd, q⟩ := h
  obtain ⟨d, e⟩ := wq_some q
  unfold dAll at e
  split at e
  · rename_i l
    obtain ⟨v, rfl, r⟩ := reps1 rd
    simp only [Rep] at r
    obtain ⟨a, ys, rfl, s, r1, _⟩ := r
    have e0 := e
    cases qi : bools? l with
    | none => rw [qi] at e; cases e
    | some ns =>
      rw [qi] at e
      exact ⟨a, ns, rfl, by rw [← bools_reps qi r1]; exact SqL.of s.1.1, q.here rs (e0.trans e.symm) (rep_bl _)⟩
  · cases e
theorem cd_any (hc : X.calm = true) : CallD X (.builtin "any") dAny := CallR.imp' (cr_any hc) fun xs H Q h => by
  obtain ⟨w, ds, hk, rfl, rs, rd, q⟩ := h
  obtain ⟨d, e⟩ := wq_some q
  unfold dAny at e
  split at e
  · rename_i l
    obtain ⟨v, rfl, r⟩ := reps1 rd
    simp only [Rep] at r
    obtain ⟨a, ys, rfl, s, r1, _⟩ := r
    have e0 := e
    cases qi : bools? l with
    | none => rw [qi] at e; cases e
    | some ns =>
      rw [qi] at e
      exact ⟨a, ns, rfl, by rw [← bools_reps qi r1]; exact SqL.of s.1.1, q.here rs (e0.trans e.symm) (rep_bl _)⟩
  · cases e
theorem cd_tuple : CallD X (.type "tuple") dTuple := CallR.imp' call_tuple_of fun xs H Q h => by
  obtain ⟨w, ds, hk, rfl, rs, rd, q⟩ := h
  obtain ⟨d, e⟩ := wq_some q
  unfold dTuple at e
  split at e
  · rename_i l
    obtain ⟨v, rfl, r⟩ := reps1 rd
    simp only [Rep] at r
    obtain ⟨a, ys, rfl, s, r1, l1⟩ := r
    exact ⟨a, ys, rfl, .inl ⟨SqL.of s.1.1, fun p hp => q.new rs hp rfl (rep_newT rs hp r1 l1)⟩⟩
  · rename_i l
    obtain ⟨v, rfl, r⟩ := reps1 rd
    have r0 := r
    simp only [Rep] at r
    obtain ⟨a, ys, rfl, s, r1, l1⟩ := r
    exact ⟨a, ys, rfl, .inr ⟨by rw [← hk]; exact s, q.here rs rfl r0⟩⟩
  · rename_i st' c
    obtain ⟨v, rfl, r⟩ := reps1 rd
    simp only [Rep] at r
    have e0 := e
    cases qc : cellL w.st c with
    | none => rw [qc] at e; cases e
    | some l =>
      rw [qc] at e
      obtain ⟨ys, s1, r1, l1⟩ := cell_sq rs qc
      exact ⟨_, ys, by rw [r.1], .inl ⟨by rw [← hk]; exact s1, fun p hp => q.new rs hp (e0.trans e.symm) (rep_newT rs hp r1 l1)⟩⟩
  · cases e
theorem cd_list : CallD X (.type "list") dList := CallR.imp' call_list_of fun xs H Q h => by
  obtain ⟨w, ds, hk, rfl, rs, rd, q⟩ := h
  obtain ⟨d, e⟩ := wq_some q
  unfold dList at e
  split at e
  · rename_i l
    obtain ⟨v, rfl, r⟩ := reps1 rd
    simp only [Rep] at r
    obtain ⟨a, ys, rfl, s, r1, l1⟩ := r
    exact ⟨a, ys, rfl, .inl (SqL.of s.1.1), fun p hp => q.new rs hp rfl (rep_new rs hp r1 l1)⟩
  · rename_i l
    obtain ⟨v, rfl, r⟩ := reps1 rd
    simp only [Rep] at r
    obtain ⟨a, ys, rfl, s, r1, l1⟩ := r
    exact ⟨a, ys, rfl, .inr (by rw [← hk]; exact s), fun p hp => q.new rs hp rfl (rep_new rs hp r1 l1)⟩
  · rename_i st' c
    obtain ⟨v, rfl, r⟩ := reps1 rd
    simp only [Rep] at r
    have e0 := e
    cases qc : cellL w.st c with
    | none => rw [qc] at e; cases e
    | some l =>
      rw [qc] at e
      obtain ⟨ys, s1, r1, l1⟩ := cell_sq rs qc
      exact ⟨_, ys, by rw [r.1], .inl (by rw [← hk]; exact s1), fun p hp => q.new rs hp (e0.trans e.symm) (rep_new rs hp r1 l1)⟩
  · cases e
theorem cd_max2 (hc : X.calm = true) : CallD X (.builtin "max") dMax2 := CallR.imp' (call_max2 hc) fun xs H Q h => by
  obtain ⟨w, ds, hk, rfl, rs, rd, q⟩ := h
  obtain ⟨d, e⟩ := wq_some q
  unfold dMax2 at e
  split at e
  · rename_i i j
    obtain ⟨v, u, rfl, r, r2⟩ := reps2 rd
    simp only [Rep] at r r2
    exact ⟨i, j, by rw [r, r2], q.here rs rfl (rep_int _)⟩
  · cases e
theorem cd_min2 (hc : X.calm = true) : CallD X (.builtin "min") dMin2 := CallR.imp' (call_min2 hc) fun xs H Q h => by
  obtain ⟨w, ds, hk, rfl, rs, rd, q⟩ := h
  obtain ⟨d, e⟩ := wq_some q
  unfold dMin2 at e
  split at e
  · rename_i i j
    obtain ⟨v, u, rfl, r, r2⟩ := reps2 rd
    simp only [Rep] at r r2
    exact ⟨i, j, by rw [r, r2], q.here rs rfl (rep_int _)⟩
  · cases e
theorem cd_divmod : CallD X (.builtin "divmod") dDivmod := CallR.imp' call_divmodW fun xs H Q h => by
  obtain ⟨w, ds, hk, rfl, rs, rd, q⟩ := h
  obtain ⟨d, e⟩ := wq_some q
  unfold dDivmod at e
  split at e
  · rename_i i j
    obtain ⟨v, u, rfl, r, r2⟩ := reps2 rd
    simp only [Rep] at r r2
    split at e
    · rename_i hc
      refine ⟨i, j, by rw [r, r2], divp_of hc, fun p hp => q.new rs hp (if_pos hc) (rep_newT rs hp ?_ (by show 2 ≤ sizeLine; decide))⟩
      simp only [Reps]
      exact ⟨_, _, rfl, rep_int _, _, _, rfl, rep_int _, rfl⟩
    · cases e
  · cases e
theorem cd_str : CallD X (.type "str") dStr := CallR.imp' call_str_int fun xs H Q h => by
  obtain ⟨w, ds, hk, rfl, rs, rd, q⟩ := h
  obtain ⟨d, e⟩ := wq_some q
  unfold dStr at e
  split at e
  · rename_i i
    obtain ⟨v, rfl, r⟩ := reps1 rd
    simp only [Rep] at r
    split at e
    · rename_i hc
      exact ⟨i, by rw [r], hc, q.here rs (if_pos hc) (rep_str _)⟩
    · cases e
  · cases e
theorem cd_int : CallD X (.type "int") dInt := CallR.imp' ((call_int_str (X := X)).or call_int1) fun xs H Q h => by
  obtain ⟨w, ds, hk, rfl, rs, rd, q⟩ := h
  obtain ⟨d, e⟩ := wq_some q
  unfold dInt at e
  split at e
  · rename_i z
    obtain ⟨v, rfl, r⟩ := reps1 rd
    simp only [Rep] at r
    have e0 := e
    split at e
    · rename_i hc
      cases qi : PySem.intText? z with
      | none => rw [qi] at e; cases e
      | some n =>
        rw [qi] at e
        exact .inl ⟨z, n, by rw [r], qi, hc, q.here rs (e0.trans e.symm) (rep_int _)⟩
    · cases e
  · rename_i i
    obtain ⟨v, rfl, r⟩ := reps1 rd
    simp only [Rep] at r
    exact .inr (.inl ⟨i, by rw [r], q.here rs rfl (rep_int _)⟩)
  · cases e
end
end G
end

section
set_option Elab.async false
set_option linter.all false
set_option autoImplicit false
set_option maxRecDepth 100000
set_option maxHeartbeats 1000000
namespace G
open PySem PySem.Spec PyProof.Rows L2
/-! ## statements -/
inductive Fl where
  | nx (env : Ev)
  | ret (d : D)
  | brk (env : Ev)
  | ct (env : Ev)
  | exc (c : Str) (env : Ev)
/-- an expression within a statement: what it raises ends the statement -/
def stx {α : Type} (x : M α) (env : Ev) (k : α → M Fl) : M Fl := fun st => match x st with
  | .ok a st' => k a st'
  | .err c st' => .ok (.exc c env) st'
  | .bad => .bad
def SFl (W : XW) (D' : Ends) (fl : Fl) (w : Wd) : Prop := match fl with
  | .nx env => ∀ σ, REnv w env σ → D'.nx σ w.H
  | .ret d => ∀ v, Rep w d v → D'.rt v w.H
  | .brk env => ∀ σ, REnv w env σ → D'.bk σ w.H
  | .ct env => ∀ σ, REnv w env σ → D'.ct σ w.H
  | .exc c env => ∀ σ, REnv w env σ → W c σ w.H
def nov : Str → Wd → Prop := fun _ _ => False
def rdS (K : PySem.W.Frag) (W : XW) (g : Ev → M Fl) : TS := fun D' σ H => ∃ (w : Wd) (env : Ev), w.K = K ∧ w.H = H ∧ RS w ∧ REnv w env σ ∧ Wp w (g env w.st) (SFl W D') nov
def DS (X : Cx) (W : XW) (s : Stmt) (g : Ev → M Fl) : Prop := PS X s (rdS X.K W g)
def DSs (X : Cx) (W : XW) (s : List Stmt) (g : Ev → M Fl) : Prop := PSs X s (rdS X.K W g)
section
variable {X : Cx} {W : XW} {e a b c : Expr} {s : Stmt} {ss : List Stmt} {pos : Pos} {fa fb fc : Ev → M D} {g g' : Ev → M Fl}
theorem PS.imp' {t t' : TS} (h : PS X s t) (k : ∀ D' σ H, t' D' σ H → t D' σ H) : PS X s t' := ⟨fun pins s σ H D' I z => h.run pins s σ H D' I (k D' σ H z)⟩
theorem PSs.imp' {t t' : TS} (h : PSs X ss t) (k : ∀ D' σ H, t' D' σ H → t D' σ H) : PSs X ss t' := ⟨fun pins s σ H D' I z => h.run pins s σ H D' I (k D' σ H z)⟩
/-- an expression's part of a statement -/
theorem stx_wp {α : Type} {w : Wd} {env : Ev} {σ : L2.St} {x : M α} {k : α → M Fl} {D' : Ends} (n : REnv w env σ) (h : Wp w (stx x env k w.st) (SFl W D') nov) :
    Wp w (x w.st) (fun a w1 => Wp w1 (k a w1.st) (SFl W D') nov) (fun c w1 => W c σ w1.H) := by
  unfold stx at h
  cases e : x w.st with
  | ok a st' =>
    rw [e] at h
    have h : Wp w (k a st') (SFl W D') nov := h
    intro w' b q
    rw [q]
    exact h.after b
  | err c st' =>
    rw [e] at h
    exact fun w' b q => h w' b q σ (n.after b)
  | bad =>
    rw [e] at h
    exact h
def sNop : Ev → M Fl := fun env => pure (.nx env)
theorem dss_nil : DSs X W [] sNop := PSs.imp' pss_nil fun D' σ H h => by
  obtain ⟨w, env, hk, rfl, r, n, h⟩ := h
  exact Wp.ok_ (a := Fl.nx env) r h σ n
def sSeq (g g' : Ev → M Fl) : Ev → M Fl := fun env => do
  let fl ← g env
  match fl with
  | .nx e => g' e
  | other => pure other
theorem seq_wp {w : Wd} {env : Ev} {D' : Ends} {K : PySem.W.Frag} (hk : w.K = K) (h : Wp w (sSeq g g' env w.st) (SFl W D') nov) : Wp w (g env w.st) (SFl W { D' with nx := rdS K W g' D' }) nov := by
  refine (Wp.bind h).imp fun fl w1 a1 h1 => ?_
  cases fl with
  | nx e1 => exact fun σ1 n1 => ⟨w1, e1, a1.k.trans hk, rfl, a1.rs, n1, h1⟩
  | ret d => exact Wp.ok_ (P := SFl W D') (W := nov) (a := Fl.ret d) a1.rs h1
  | brk e1 => exact Wp.ok_ (P := SFl W D') (W := nov) (a := Fl.brk e1) a1.rs h1
  | ct e1 => exact Wp.ok_ (P := SFl W D') (W := nov) (a := Fl.ct e1) a1.rs h1
  | exc c e1 => exact Wp.ok_ (P := SFl W D') (W := nov) (a := Fl.exc c e1) a1.rs h1
theorem dss_cons (h : DS X W s g) (k : DSs X W ss g') : DSs X W (s :: ss) (sSeq g g') := PSs.imp' (pss_cons h k) fun D' σ H h => by
  obtain ⟨w, env, hk, rfl, r, n, h⟩ := h
  exact ⟨w, env, hk, rfl, r, n, seq_wp hk h⟩
theorem dss_one (h : DS X W s g) : DSs X W [s] g := pss_one h
theorem ds_pass : DS X W (.Pass pos) sNop := PS.imp' ps_pass fun D' σ H h => by
  obtain ⟨w, env, hk, rfl, r, n, h⟩ := h
  exact Wp.ok_ (a := Fl.nx env) r h σ n
theorem ds_break : DS X W (.Break pos) (fun env => pure (.brk env)) := PS.imp' ps_break fun D' σ H h => by
  obtain ⟨w, env, hk, rfl, r, n, h⟩ := h
  exact Wp.ok_ (a := Fl.brk env) r h σ n
theorem ds_continue : DS X W (.Continue pos) (fun env => pure (.ct env)) := PS.imp' ps_continue fun D' σ H h => by
  obtain ⟨w, env, hk, rfl, r, n, h⟩ := h
  exact Wp.ok_ (a := Fl.ct env) r h σ n
def sRet (f : Ev → M D) : Ev → M Fl := fun env => stx (f env) env fun d => pure (.ret d)
theorem ds_ret (h : DE X W e fa) : DS X W (.Return (some e) pos) (sRet fa) := PS.imp' (ps_ret h) fun D' σ H h => by
  obtain ⟨w, env, hk, rfl, r, n, h⟩ := h
  exact ⟨w, env, hk, rfl, r, n, (stx_wp n h).imp fun d w1 a1 h1 => Wp.ok_ (a := Fl.ret d) a1.rs h1⟩
def sRetN : Ev → M Fl := fun _ => pure (.ret .non)
theorem ds_retN : DS X W (.Return none pos) sRetN := PS.imp' ps_retN fun D' σ H h => by
  obtain ⟨w, env, hk, rfl, r, n, h⟩ := h
  exact Wp.ok_ (a := Fl.ret .non) r h _ rep_non
def sExpr (f : Ev → M D) : Ev → M Fl := fun env => stx (f env) env fun _ => pure (.nx env)
theorem ds_expr (h : DE X W e fa) (hs : swapsWith e none pos.line X.env = pure false := by rfl) : DS X W (.Expr e pos) (sExpr fa) := PS.imp' (ps_expr h hs) fun D' σ H h => by
  obtain ⟨w, env, hk, rfl, r, n, h⟩ := h
  exact ⟨w, env, hk, rfl, r, n, (stx_wp n h).imp fun d w1 a1 h1 v _ => Wp.ok_ (a := Fl.nx env) a1.rs h1 σ (n.after a1)⟩
def sIf (t : Ev → M Bool) (g g' : Ev → M Fl) : Ev → M Fl := fun env => stx (t env) env fun b => if b = true then g env else g' env
theorem ds_if {t : Ev → M Bool} {as bs : List Stmt} (ht : DT X W c t) (ha : DSs X W as g) (hb : DSs X W bs g') : DS X W (.If c as bs pos) (sIf t g g') := PS.imp' (ps_if ht ha hb) fun D' σ H h => by
  obtain ⟨w, env, hk, rfl, r, n, h⟩ := h
  refine ⟨w, env, hk, rfl, r, n, (stx_wp n h).imp fun b w1 a1 h1 => ?_⟩
  cases b with
  | true => exact iteT ⟨w1, env, a1.k.trans hk, rfl, a1.rs, n.after a1, h1⟩
  | false => exact iteF ⟨w1, env, a1.k.trans hk, rfl, a1.rs, n.after a1, h1⟩
def sAsg (i : Nat) (f : Ev → M D) : Ev → M Fl := fun env => stx (f env) env fun d => pure (.nx (env.set i (some d)))
theorem asg_rd {i : Nat} {D' : Ends} {σ : L2.St} {H : Hp} (h : rdS X.K W (sAsg i fa) D' σ H) : tAsg (rdE X.K W fa) (gName i) D' σ H := by
  obtain ⟨w, env, hk, rfl, r, n, h⟩ := h
  exact ⟨w, env, hk, rfl, r, n, (stx_wp n h).imp fun d w1 a1 h1 v rv => Wp.ok_ (a := Fl.nx (env.set i (some d))) a1.rs h1 _ ((n.after a1).set i rv)⟩
theorem ds_set (i : Nat) {x : Str} {pos' : Pos} (hN : X.N.Nodup) (hi : X.N[i]? = some x) (hx : Loc X.env.scope x) (he : DE X W e fa) (hs : swapsWith e (some (.Name x pos')) pos.line X.env = pure false := by rfl)
    (hf : X.fn x = true ∨ X.env.scope.names.lookup x = some .local := by first | exact .inl rfl | exact .inr rfl) : DS X W (.Assign [.Name x pos'] e pos) (sAsg i fa) := PS.imp' (ps_set hN hi hx he hs hf) fun _ _ _ h => asg_rd h
/-- a, b = e1, e2 -/
def sPar (i j : Nat) (fa fb : Ev → M D) : Ev → M Fl := fun env => stx (fa env) env fun d => stx (fb env) env fun e => pure (.nx ((env.set i (some d)).set j (some e)))
theorem ds_par (i j : Nat) {x y : Str} {px py pt : Pos} {kt k2 pt2} (hc : X.calm = true) (hN : X.N.Nodup) (hi : X.N[i]? = some x) (hj : X.N[j]? = some y) (hij : i ≠ j) (hx : X.env.scope.names.lookup x = some .local) (hy : X.env.scope.names.lookup y = some .local)
    (ha : DE X W a fa) (hb : DE X W b fb) (hst : starEach [a, b] X.env = (false, eval a X.env) :: starEach [b] X.env := by rfl) (hst2 : starEach [b] X.env = (false, eval b X.env) :: starEach [] X.env := by rfl)
    (hw : swappedStores [.Tuple [.Name x px, .Name y py] kt pt] (.Tuple [a, b] k2 pt2) X.env = pure (some [x, y]) := by rfl)
    (hs : swapsWithSole [.Tuple [.Name x px, .Name y py] kt pt] (.Tuple [a, b] k2 pt2) pos.line X.env = pure false := by rfl) : DS X W (.Assign [.Tuple [.Name x px, .Name y py] kt pt] (.Tuple [a, b] k2 pt2) pos) (sPar i j fa fb) :=
  PS.imp' (ps_par hc hN hi hj hij hx hy (pa_cons ha (pa_cons hb pa_nil hst2) hst) hw hs) fun D' σ H h => by
    obtain ⟨w, env, hk, rfl, r, n, h⟩ := h
    refine ⟨w, env, hk, rfl, r, n, (stx_wp n h).imp fun d w1 a1 h1 v rv => ?_⟩
    refine ⟨w1, env, a1.k.trans hk, rfl, a1.rs, n.after a1, (stx_wp (n.after a1) h1).imp fun e w2 a2 h2 u ru => ?_⟩
    exact ⟨v, u, rfl, Wp.ok_ (a := Fl.nx ((env.set i (some d)).set j (some e))) a2.rs h2 _ ((((n.after a1).after a2).set i (a2.rep rv)).set j ru)⟩
/-- a statement at which the run may not come -/
theorem ds_never : DS X W s (fun _ => M.stuck) := PS.imp' ps_never fun D' σ H h => by
  obtain ⟨w, env, hk, rfl, r, n, h⟩ := h
  exact h.elim
theorem dss_never : DSs X W ss (fun _ => M.stuck) := PSs.imp' pss_never fun D' σ H h => by
  obtain ⟨w, env, hk, rfl, r, n, h⟩ := h
  exact h.elim
/-! ## targets of loops and comprehensions -/
theorem wipe_at (σ : L2.St) (j : Nat) : ∀ vs : List Nat, (wipe σ vs)[j]? = if j ∈ vs then (σ[j]?).map (fun _ => none) else σ[j]?
  | [] => by simp [wipe]
  | v :: vs => by
    unfold wipe
    by_cases hj : v = j
    · subst hj
      rw [if_pos (List.mem_cons_self ..)]
      by_cases hl : v < (wipe σ vs).length
      · rw [List.getElem?_set_self hl]
        rw [wipe_length] at hl
        rw [List.getElem?_eq_getElem hl]
        rfl
      · rw [List.getElem?_eq_none (by rw [List.length_set]; omega)]
        rw [wipe_length] at hl
        rw [List.getElem?_eq_none (by omega)]
        rfl
    · rw [List.getElem?_set_ne hj, wipe_at σ j vs]
      by_cases hm : j ∈ vs
      · rw [if_pos hm, if_pos (List.mem_cons_of_mem _ hm)]
      · rw [if_neg hm, if_neg (by simp only [List.mem_cons, not_or]; exact ⟨fun z => hj z.symm, hm⟩)]
theorem wipe_set {σ : L2.St} {i : Nat} {x : Option V} {vs : List Nat} (h : i ∈ vs) : wipe (σ.set i x) vs = wipe σ vs := by
  refine List.ext_getElem? fun j => ?_
  rw [wipe_at, wipe_at]
  by_cases hm : j ∈ vs
  · rw [if_pos hm, if_pos hm]
    by_cases hj : i = j
    · subst hj
      by_cases hl : i < σ.length
      · rw [List.getElem?_set_self hl, List.getElem?_eq_getElem hl]; rfl
      · rw [List.getElem?_eq_none (by rw [List.length_set]; omega), List.getElem?_eq_none (by omega)]
    · rw [List.getElem?_set_ne hj]
  · rw [if_neg hm, if_neg hm, List.getElem?_set_ne (fun z : i = j => hm (by rw [← z]; exact h))]
theorem wipe_wipe (σ : L2.St) (vs : List Nat) : wipe (wipe σ vs) vs = wipe σ vs := by
  refine List.ext_getElem? fun j => ?_
  rw [wipe_at, wipe_at]
  by_cases hm : j ∈ vs
  · rw [if_pos hm, if_pos hm]; cases σ[j]? <;> rfl
  · rw [if_neg hm, if_neg hm]
def evWipe (env : Ev) : List Nat → Ev
  | [] => env
  | v :: vs => (evWipe env vs).set v none
theorem REnv.wipe {w : Wd} {env : Ev} {σ : L2.St} (h : REnv w env σ) : ∀ vs : List Nat, REnv w (evWipe env vs) (L2.wipe σ vs)
  | [] => h
  | v :: vs => (REnv.wipe h vs).forget v
def TgOk (K : PySem.W.Frag) (t : TG) (tg : D → Ev → Option Ev) (is : List Nat) : Prop := ∀ (w : Wd) (env : Ev) (σ : L2.St) (d : D) (v : V) (env' : Ev) (Q : L2.St → Hp → Prop), w.K = K → REnv w env σ → Rep w d v → tg d env = some env' →
  (∀ σ', REnv w env' σ' → (∀ vs : List Nat, (∀ i ∈ is, i ∈ vs) → wipe σ' vs = wipe σ vs) → Q σ' w.H) → t v σ w.H Q
def tgName (i : Nat) : D → Ev → Option Ev := fun d env => some (env.set i (some d))
def tgPair (i j : Nat) : D → Ev → Option Ev := fun d env => match d with
  | .tup [a, b] => some ((env.set i (some a)).set j (some b))
  | _ => none
theorem tgok_name (K : PySem.W.Frag) (i : Nat) : TgOk K (gName i) (tgName i) [i] := fun w env σ d v env' Q hk n r e q => by
  cases e
  exact q _ (n.set i r) fun vs hv => wipe_set (hv i (by simp))
theorem tgok_pair (K : PySem.W.Frag) (i j : Nat) : TgOk K (gTup K 2 (gCons (gName i) (gCons (gName j) gNil))) (tgPair i j) [i, j] := fun w env σ d v env' Q hk n r e q => by
  unfold tgPair at e
  split at e
  · rename_i a b
    cases e
    simp only [Rep] at r
    obtain ⟨x, xs, rfl, s, r, _⟩ := r
    obtain ⟨u1, u2, rfl, r1, r2⟩ := reps2 r
    refine ⟨x, [u1, u2], rfl, by rw [← hk]; exact s, rfl, u1, [u2], rfl, u2, [], rfl, rfl, ?_⟩
    refine q _ ((n.set i r1).set j r2) fun vs hv => ?_
    rw [wipe_set (hv j (by simp)), wipe_set (hv i (by simp))]
  · cases e
/-! ## what is walked -/
structure Walks (w : Wd) (J : It) (l : List D) : Prop where
  step : ∀ w' : Wd, w'.K = w.K → RS w' → Bears w w' → ∀ (i : Nat) (d : D), l[i]? = some d → J.go i w'.H ∧ ∀ x H', J.yld i w'.H x H' → ∃ w'', Aft w' w'' ∧ w''.st = w'.st ∧ w''.H = H' ∧ w''.m = w'.m ∧ Rep w'' d x
  stop : ∀ w' : Wd, w'.K = w.K → RS w' → Bears w w' → J.stop l.length w'.H
  len : l.length ≤ sizeLine
def rdI (K : PySem.W.Frag) (W : XW) (f : Ev → M (List D)) : TI := fun σ H R => ∃ (w : Wd) (env : Ev), w.K = K ∧ w.H = H ∧ RS w ∧ REnv w env σ ∧ Wp w (f env w.st) (fun l w' => ∀ J, Walks w' J l → R J w'.H) (fun c w' => W c σ w'.H)
def DI (X : Cx) (W : XW) (tg iter : Expr) (f : Ev → M (List D)) : Prop := PI X tg iter (rdI X.K W f)
theorem PI.imp' {tg iter : Expr} {t t' : TI} (h : PI X tg iter t) (k : ∀ σ H R, t' σ H R → t σ H R) : PI X tg iter t' := ⟨fun pins s σ H R I z => h.run pins s σ H R I (k σ H R z)⟩
theorem PI.or' {tg iter : Expr} {t t' : TI} (h : PI X tg iter t) (h' : PI X tg iter t') : PI X tg iter (fun σ H R => t σ H R ∨ t' σ H R) := ⟨fun pins s σ H R I z => z.elim (h.run pins s σ H R I) (h'.run pins s σ H R I)⟩
/-- a list's, a tuple's items -/
def itemsL : D → M (List D)
  | .lst l => pure l
  | _ => M.stuck
def itemsT : D → M (List D)
  | .tup l => pure l
  | _ => M.stuck
def items : D → M (List D)
  | .lst l => pure l
  | .tup l => pure l
  | _ => M.stuck
theorem walks_list {w : Wd} {a : Addr} {l : List D} (r : Rep w (.lst l) (.ref a)) : Walks w (Itl w.K a) l where
  step := fun w' hk rs b i d e => by
    have r' := b.rep _ _ r
    simp only [Rep] at r'
    obtain ⟨a', xs, ea, s, rr, _⟩ := r'
    cases ea
    obtain ⟨x, ex, rx⟩ := reps_at rr e
    refine ⟨⟨xs, x, SqL.of s.1.1, ex⟩, fun y H' hy => ?_⟩
    obtain ⟨rfl, hy⟩ := hy
    have := hy xs (SqL.of s.1.1)
    rw [ex] at this
    cases this
    exact ⟨w', .refl rs, rfl, rfl, rfl, rx⟩
  stop := fun w' hk rs b => by
    have r' := b.rep _ _ r
    simp only [Rep] at r'
    obtain ⟨a', xs, ea, s, rr, _⟩ := r'
    cases ea
    exact ⟨xs, SqL.of s.1.1, by rw [reps_len rr]; exact Nat.le_refl _⟩
  len := by simp only [Rep] at r; obtain ⟨_, _, _, _, _, h⟩ := r; exact h
theorem walks_tup {w : Wd} {a : Addr} {l : List D} (r : Rep w (.tup l) (.ref a)) : Walks w (Itt w.K a) l where
  step := fun w' hk rs b i d e => by
    have r' := b.rep _ _ r
    simp only [Rep] at r'
    obtain ⟨a', xs, ea, s, rr, _⟩ := r'
    cases ea
    obtain ⟨x, ex, rx⟩ := reps_at rr e
    rw [hk] at s
    refine ⟨⟨xs, x, s, ex⟩, fun y H' hy => ?_⟩
    obtain ⟨rfl, hy⟩ := hy
    have := hy xs s
    rw [ex] at this
    cases this
    exact ⟨w', .refl rs, rfl, rfl, rfl, rx⟩
  stop := fun w' hk rs b => by
    have r' := b.rep _ _ r
    simp only [Rep] at r'
    obtain ⟨a', xs, ea, s, rr, _⟩ := r'
    cases ea
    rw [hk] at s
    exact ⟨xs, s, by rw [reps_len rr]; exact Nat.le_refl _⟩
  len := by simp only [Rep] at r; obtain ⟨_, _, _, _, _, h⟩ := r; exact h
def iSeq (f : Ev → M D) : Ev → M (List D) := fun env => do
  let d ← f env
  items d
theorem di_seq {tg : Expr} (h : DE X W e fa) : DI X W tg e (iSeq fa) := by
  have hL : PI X tg e (iList X.K (rdE X.K W fa)) := pi_list h
  have hT : PI X tg e (iTup X.K (rdE X.K W fa)) := pi_tup h
  refine PI.imp' (PI.or' hL hT) fun σ H R h => ?_
  obtain ⟨w, env, hk, rfl, r, n, h⟩ := h
  have h1 := Wp.bind h
  cases ef : fa env w.st with
  | bad => rw [ef] at h1; exact h1.elim
  | err c st' =>
    rw [ef] at h1
    exact .inl ⟨w, env, hk, rfl, r, n, by rw [ef]; exact h1⟩
  | ok d st' =>
    rw [ef] at h1
    cases d with
    | lst l =>
      refine .inl ⟨w, env, hk, rfl, r, n, ?_⟩
      rw [ef]
      intro w1 a1 e1 v rv
      have h2 := Wp.ok_ (a := l) a1.rs (h1 w1 a1 e1)
      have rv0 := rv
      simp only [Rep] at rv
      obtain ⟨a, xs, rfl, s, _⟩ := rv
      exact ⟨a, rfl, ⟨xs, SqL.of s.1.1⟩, by rw [← hk, ← a1.k]; exact h2 _ (walks_list rv0)⟩
    | tup l =>
      refine .inr ⟨w, env, hk, rfl, r, n, ?_⟩
      rw [ef]
      intro w1 a1 e1 v rv
      have h2 := Wp.ok_ (a := l) a1.rs (h1 w1 a1 e1)
      have rv0 := rv
      simp only [Rep] at rv
      obtain ⟨a, xs, rfl, s, _⟩ := rv
      exact ⟨a, rfl, ⟨xs, by rw [← hk, ← a1.k]; exact s⟩, by rw [← hk, ← a1.k]; exact h2 _ (walks_tup rv0)⟩
    | _ => exact .inl ⟨w, env, hk, rfl, r, n, by rw [ef]; intro w1 a1 e1; exact (h1 w1 a1 e1).elim⟩
end
end G
end

section
set_option Elab.async false
set_option linter.all false
set_option autoImplicit false
set_option maxRecDepth 100000
set_option maxHeartbeats 1000000
namespace G
open PySem PySem.Spec PyProof.Rows L2
section
variable {X : Cx} {W : XW} {e a b c : Expr} {s : Stmt} {ss : List Stmt} {pos : Pos} {fa fb fc : Ev → M D} {g g' : Ev → M Fl}
/-! ## range -/
def rangeD (n : Nat) : List D := (List.range n).map fun (k : Nat) => D.int (k : Int)
def iRange (f : Ev → M D) : Ev → M (List D) := fun env => do
  let d ← f env
  let i ← asI d
  if i ≤ 16777216 ∧ -16777216 ≤ i then pure (rangeD i.toNat) else M.stuck
theorem rangeD_at {n i : Nat} {d : D} (h : (rangeD n)[i]? = some d) : i < n ∧ d = .int (i : Int) := by
  unfold rangeD at h
  rw [List.getElem?_map] at h
  by_cases hi : i < n
  · rw [List.getElem?_range hi] at h
    cases h
    exact ⟨hi, rfl⟩
  · rw [List.getElem?_eq_none (by simp; omega)] at h
    cases h
theorem rangeD_len (n : Nat) : (rangeD n).length = n := by simp [rangeD]
theorem walks_range {w : Wd} {n : Nat} (hn : n ≤ sizeLine) : Walks w (Itr 0 n) (rangeD n) where
  step := fun w' hk rs b i d e => by
    obtain ⟨hi, rfl⟩ := rangeD_at e
    refine ⟨hi, fun x H' hx => ?_⟩
    obtain ⟨rfl, rfl⟩ := hx
    exact ⟨w', .refl rs, rfl, rfl, rfl, by simp [Rep]⟩
  stop := fun w' hk rs b => by rw [rangeD_len]; exact Nat.le_refl _
  len := by rw [rangeD_len]; exact hn
theorem di_range {tg : Expr} {p : Pos} (hg : Gl X "range") (hm : X.mg "range" = none) (h : DE X W a fa) (hst : starEach [a] X.env = (false, eval a X.env) :: starEach [] X.env := by rfl) : DI X W tg (.Call (.Name "range" p) [a] [] pos) (iRange fa) := by
  refine PI.imp' (pi_range1 hg hm (pa_cons (es := []) h pa_nil hst) (hs := hst)) fun σ H R h => ?_
  obtain ⟨w, env, hk, rfl, r, n, h⟩ := h
  refine ⟨w, env, hk, rfl, r, n, (Wp.bind h).imp fun d w1 a1 h1 v rv => ?_⟩
  obtain ⟨i, rfl, h2⟩ := asI_wp a1.rs (Wp.bind h1)
  simp only [Rep] at rv
  by_cases hc : i ≤ 16777216 ∧ -16777216 ≤ i
  · rw [if_pos hc] at h2
    refine ⟨i, by rw [rv], by omega, by omega, ?_⟩
    exact Wp.ok_ (a := rangeD i.toNat) a1.rs h2 _ (walks_range (by rw [sizeLine_eq]; omega))
  · rw [if_neg hc] at h2
    exact h2.elim
/-! ## for -/
def forGo (tg : D → Ev → Option Ev) (g : Ev → M Fl) : List D → Ev → M Fl
  | [], env => pure (.nx env)
  | d :: r, env => match tg d env with
    | none => M.stuck
    | some e1 => do
      let fl ← g e1
      match fl with
      | .nx e2 => forGo tg g r e2
      | .ct e2 => forGo tg g r e2
      | .brk e2 => pure (.nx e2)
      | .ret d => pure (.ret d)
      | .exc c e2 => pure (.exc c e2)
def sFor (fi : Ev → M (List D)) (tg : D → Ev → Option Ev) (g : Ev → M Fl) : Ev → M Fl := fun env => stx (fi env) env fun l => forGo tg g l env
theorem ds_for {tgt iter : Expr} {body : List Stmt} {t : TG} {tg : D → Ev → Option Ev} {is : List Nat} {fi : Ev → M (List D)} (hp : PassesOwn (model X.prog X.w) X.A X.env X.xe) (hc : X.calm = true) (hi : DI X W tgt iter fi) (hg : PG X tgt t) (ht : TgOk X.K t tg is) (hb : DSs X W body g)
    (hs : ∀ x, foldedSetIterable iter X.env x = pure x := by intro _; rfl) : DS X W (.For tgt iter body [] pos) (sFor fi tg g) := PS.imp' (ps_for hp hc hi hg hb hs) fun D' σ H h => by
  obtain ⟨w, env, hk, rfl, r, n, h⟩ := h
  refine ⟨w, env, hk, rfl, r, n, (stx_wp n h).imp fun l w1 a1 h1 J hJ => ?_⟩
  refine ⟨fun i m σ H => m + i = l.length ∧ ∃ (w' : Wd) (env' : Ev), w'.K = w1.K ∧ w'.H = H ∧ RS w' ∧ Bears w1 w' ∧ REnv w' env' σ ∧ Wp w' (forGo tg g (l.drop i) env' w'.st) (SFl W D') nov,
    ⟨l.length, by simp, w1, env, rfl, rfl, a1.rs, (Aft.refl a1.rs).bears, n.after a1, h1⟩, ?_⟩
  rintro i m σ1 H1 ⟨hm, w', env', hk', rfl, rs', b', n', h'⟩
  have hi : i ≤ l.length := by omega
  by_cases he : i = l.length
  · refine .inl ⟨by rw [he]; exact hJ.stop w' hk' rs' b', ?_⟩
    rw [he, List.drop_length] at h'
    exact Wp.ok_ (a := Fl.nx env') rs' h' σ1 n'
  · have hlt : i < l.length := by omega
    rw [List.drop_eq_getElem_cons hlt] at h'
    obtain ⟨go, yl⟩ := hJ.step w' hk' rs' b' i l[i] (by simp [hlt])
    refine .inr ⟨go, fun σ' H' => (m - 1) + (i + 1) = l.length ∧ ∃ (w' : Wd) (env' : Ev), w'.K = w1.K ∧ w'.H = H' ∧ RS w' ∧ Bears w1 w' ∧ REnv w' env' σ' ∧ Wp w' (forGo tg g (l.drop (i + 1)) env' w'.st) (SFl W D') nov,
      fun σ' H' hN => ⟨m - 1, by omega, hN⟩, fun x H' hx => ?_⟩
    obtain ⟨w2, a2, e2, rfl, em2, rx⟩ := yl x H' hx
    unfold forGo at h'
    cases et : tg l[i] env' with
    | none => rw [et] at h'; exact h'.elim
    | some e1 =>
      rw [et] at h'
      refine ht w2 env' σ1 l[i] x e1 _ (a2.k.trans (hk'.trans (a1.k.trans hk))) (n'.after a2) rx et fun σ2 n2 _ => ?_
      have hb' := (h'.after a2)
      rw [← e2] at hb'
      refine ⟨w2, e1, a2.k.trans (hk'.trans (a1.k.trans hk)), rfl, a2.rs, n2, (Wp.bind hb').imp fun fl w3 a3 h3 => ?_⟩
      have b3 : Bears w1 w3 := (b'.trans a2.bears).trans a3.bears
      have k3 : w3.K = w1.K := a3.k.trans (a2.k.trans hk')
      cases fl with
      | nx e3 => exact fun σ3 n3 => ⟨by omega, w3, e3, k3, rfl, a3.rs, b3, n3, h3⟩
      | ct e3 => exact fun σ3 n3 => ⟨by omega, w3, e3, k3, rfl, a3.rs, b3, n3, h3⟩
      | brk e3 => exact Wp.ok_ (P := SFl W D') (W := nov) (a := Fl.nx e3) a3.rs h3
      | ret d => exact Wp.ok_ (P := SFl W D') (W := nov) (a := Fl.ret d) a3.rs h3
      | exc c e3 => exact Wp.ok_ (P := SFl W D') (W := nov) (a := Fl.exc c e3) a3.rs h3
/-! ## list comprehensions -/
/-- within a comprehension nothing is raised -/
def noErr {α : Type} (x : M α) : M α := fun st => match x st with
  | .ok a st' => .ok a st'
  | _ => .bad
def compGo (tg : D → Ev → Option Ev) (tt : Ev → M Bool) (fe : Ev → M D) (env : Ev) : List D → List D → M (List D)
  | [], acc => pure acc
  | d :: r, acc => match tg d env with
    | none => M.stuck
    | some e1 => do
      let b ← noErr (tt e1)
      if b = true then do
        let y ← noErr (fe e1)
        compGo tg tt fe env r (acc ++ [y])
      else compGo tg tt fe env r acc
def eComp (vs : List Nat) (fi : Ev → M (List D)) (tg : D → Ev → Option Ev) (tt : Ev → M Bool) (fe : Ev → M D) : Ev → M D := fun env => do
  let l ← fi env
  let ds ← compGo tg tt fe (evWipe env vs) l []
  pure (.lst ds)
/-- a later world, up to the reserved addresses -/
def Lat (w1 w' : Wd) : Prop := Aft w1 ⟨w'.K, w'.m, w'.st, w'.H, w1.rv⟩
theorem bears_rv {w : Wd} {rv' : List Addr} (h : ∀ x, x ∈ rv' → x ∈ w.rv) : Bears w ⟨w.K, w.m, w.st, w.H, rv'⟩ := ⟨fun _ _ => rfl, Nat.le_refl _, fun _ _ q => q, fun x o q => ⟨q.1, fun z => q.2 (h x z)⟩⟩
theorem cell_rv {w : Wd} {rv' : List Addr} (h : ∀ x, x ∈ rv' → x ∈ w.rv) {x : Addr} {c : Cell} (q : CellOk w x c) : CellOk ⟨w.K, w.m, w.st, w.H, rv'⟩ x c := cell_bears (bears_rv h) (fun o q _ => q) (fun _ q => q) rfl q
/-- a new list at a free address that is reserved -/
theorem bears_res {w : Wd} {p : Addr} {o : HO} (hp : w.H p = none) : Bears w ⟨w.K, w.m, w.st, upd w.H p o, p :: w.rv⟩ := ⟨fun _ _ => rfl, Nat.le_refl _, fun _ _ q => sqT_same (same_upd hp) q, fun x u q => ⟨⟨same_upd hp _ _ q.1.1, q.1.2⟩, fun z => by
  rcases List.mem_cons.mp z with z | z
  · subst z; exact absurd (q.1.1.symm.trans hp) (by simp)
  · exact q.2 z⟩⟩
theorem noErr_ok {α : Type} {x : M α} {st st' : Store} {a : α} (h : noErr x st = .ok a st') : x st = .ok a st' := by
  unfold noErr at h
  cases e : x st with
  | ok b s1 => rw [e] at h; cases h; rfl
  | err c s1 => rw [e] at h; cases h
  | bad => rw [e] at h; cases h
theorem bind_inv {α β : Type} {x : M α} {f : α → M β} {st st' : Store} {b : β} (h : (x >>= f) st = .ok b st') : ∃ a s1, x st = .ok a s1 ∧ f a s1 = .ok b st' := by
  have h : M.andThen x f st = .ok b st' := h
  unfold M.andThen at h
  cases e : x st with
  | ok a s1 => rw [e] at h; exact ⟨a, s1, rfl, h⟩
  | err c s1 => rw [e] at h; cases h
  | bad => rw [e] at h; cases h
theorem compGo_len {tg : D → Ev → Option Ev} {tt : Ev → M Bool} {fe : Ev → M D} {env : Ev} : ∀ {l acc ds : List D} {st st' : Store}, compGo tg tt fe env l acc st = .ok ds st' → ds.length ≤ acc.length + l.length
  | [], acc, ds, st, st', h => by cases h; simp
  | d :: r, acc, ds, st, st', h => by
    unfold compGo at h
    cases et : tg d env with
    | none => rw [et] at h; cases h
    | some e1 =>
      rw [et] at h
      obtain ⟨b, s1, _, h2⟩ := bind_inv h
      cases b with
      | true =>
        obtain ⟨y, s2, _, h3⟩ := bind_inv h2
        have := compGo_len h3
        simp at this ⊢; omega
      | false =>
        have := compGo_len h2
        simp at this ⊢; omega
theorem wp_nov {α : Type} {w : Wd} {r : Res α} {P : α → Wd → Prop} {V' : Str → Wd → Prop} {a : α} {st : Store} (e : r = .ok a st) (h : ∀ w', Aft w w' → w'.st = st → P a w') : Wp w r P V' := by rw [e]; exact h
theorem comp_rd {vs : List Nat} {fi : Ev → M (List D)} {tg : D → Ev → Option Ev} {is : List Nat} {tt : Ev → M Bool} {fe : Ev → M D} {t : TG} (ht : TgOk X.K t tg is) (hv : ∀ i ∈ is, i ∈ vs) {σ : L2.St} {H : Hp} {Q : VK} (h : rdE X.K W (eComp vs fi tg tt fe) σ H Q) :
    tLc (rdI X.K W fi) t (rdT X.K (fun _ _ _ => False) tt) (rdE X.K (fun _ _ _ => False) fe) vs σ H Q := by
  obtain ⟨w, env, hk, rfl, r, n, h⟩ := h
  refine ⟨w, env, hk, rfl, r, n, (Wp.bind h).imp fun l w1 a1 h1 J hJ Dn hD => ?_⟩
  have h2 := Wp.bind h1
  have hk1 : w1.K = X.K := a1.k.trans hk
  -- the whole loop ends well
  obtain ⟨dsf, stf, ef⟩ : ∃ dsf stf, compGo tg tt fe (evWipe env vs) l [] w1.st = .ok dsf stf := by
    cases er : compGo tg tt fe (evWipe env vs) l [] w1.st with
    | ok dsf stf => exact ⟨dsf, stf, rfl⟩
    | bad => rw [er] at h2; exact h2.elim
    | err c stf =>
      exfalso
      have : ∀ (l acc : List D) (st : Store), compGo tg tt fe (evWipe env vs) l acc st ≠ .err c stf := by
        intro l
        induction l with
        | nil => intro acc st q; cases q
        | cons d r ih =>
          intro acc st q
          unfold compGo at q
          cases et : tg d (evWipe env vs) with
          | none => rw [et] at q; cases q
          | some e1 =>
            rw [et] at q
            have q : M.andThen (noErr (tt e1)) (fun b => if b = true then M.andThen (noErr (fe e1)) (fun y => compGo tg tt fe (evWipe env vs) r (acc ++ [y])) else compGo tg tt fe (evWipe env vs) r acc) st = .err c stf := q
            unfold M.andThen at q
            cases e2 : noErr (tt e1) st with
            | bad => rw [e2] at q; cases q
            | err c' s' => unfold noErr at e2; split at e2 <;> cases e2
            | ok b s1 =>
              rw [e2] at q
              simp only at q
              cases b with
              | false => exact ih _ _ q
              | true =>
                simp only [if_true] at q
                cases e3 : noErr (fe e1) s1 with
                | bad => rw [e3] at q; cases q
                | err c' s' => unfold noErr at e3; split at e3 <;> cases e3
                | ok y s2 => rw [e3] at q; exact ih _ _ q
      exact this _ _ _ er
  have hfin : ∀ w2, Aft w1 w2 → w2.st = stf → ∀ v, Rep w2 (.lst dsf) v → Q v w2.H := fun w2 a2 e2 => by
    rw [ef] at h2
    exact Wp.ok_ (a := D.lst dsf) a2.rs (h2 w2 a2 e2)
  refine ⟨fun i m H => m + i = l.length ∧ ∃ (w' : Wd) (ds : List D) (acc : List V), w'.K = X.K ∧ w'.H = H ∧ RS w' ∧ w'.rv = Dn :: w1.rv ∧ Lat w1 w' ∧ Bears w1 w' ∧ H Dn = some (.lst acc) ∧ Reps w' ds acc ∧ ds.length ≤ i ∧ compGo tg tt fe (evWipe env vs) (l.drop i) ds w'.st = .ok dsf stf,
    ⟨l.length, by simp, ⟨w1.K, w1.m, w1.st, upd w1.H Dn (.lst []), Dn :: w1.rv⟩, [], [], hk1, rfl, ?_, rfl, ?_, ?_, upd_same, by simp [Reps], Nat.zero_le _, by rw [List.drop_zero]; exact ef⟩, ?_⟩
  · -- the world with the new list
    have a0 : Aft w1 ⟨w1.K, w1.m, w1.st, upd w1.H Dn (.lst []), w1.rv⟩ := aft_new a1.rs hD
    refine ⟨fun i c hc => ?_, a0.rs.inj, fun x hx z => ?_, fun x hx z => ?_⟩
    · exact cell_bears (bears_res hD) (fun o q _ => same_upd hD _ _ q) (fun _ q => roL_same (same_upd hD) q) rfl (a1.rs.cells i c hc)
    · rcases List.mem_cons.mp hx with rfl | hx
      · have z : upd w1.H x (.lst []) x = none := z; rw [upd_same] at z; cases z
      · exact a0.rs.rvs x hx z
    · rcases List.mem_cons.mp hx with rfl | hx
      · exact (fz_new (w := w1) (o := .lst []) a1.rs hD).2 z
      · exact a0.rs.rvo x hx z
  · exact aft_new a1.rs hD
  · exact bears_res hD
  · rintro i m H1 ⟨hm, w', ds, acc, hk', rfl, rs', rv', lat, b', hDa, rd, hdl, eq⟩
    have hnD : ∀ x, x ∈ w1.rv → x ≠ Dn := fun x hx z => a1.rs.rvs x hx (by rw [z]; exact hD)
    have own' : ¬ Own w'.m w'.st Dn := rs'.rvo Dn (by rw [rv']; exact List.mem_cons_self ..)
    by_cases he : i = l.length
    · refine .inl ⟨by rw [he]; exact hJ.stop w' (hk'.trans hk1.symm) rs' b', ?_⟩
      rw [he, List.drop_length] at eq
      cases eq
      refine hfin ⟨w'.K, w'.m, w'.st, w'.H, w1.rv⟩ lat rfl (.ref Dn) ?_
      simp only [Rep]
      refine ⟨Dn, acc, rfl, ⟨⟨hDa, own'⟩, fun z => hnD Dn z rfl⟩, ?_, ?_⟩
      · exact (bears_rv fun x hx => by rw [rv']; exact List.mem_cons_of_mem _ hx).reps _ _ rd
      · exact Nat.le_trans hdl (by rw [he]; exact hJ.len)
    · have hlt : i < l.length := by omega
      rw [List.drop_eq_getElem_cons hlt] at eq
      obtain ⟨go, yl⟩ := hJ.step w' (hk'.trans hk1.symm) rs' b' i l[i] (by simp [hlt])
      refine .inr ⟨go, fun H' => (m - 1) + (i + 1) = l.length ∧ ∃ (w' : Wd) (ds : List D) (acc : List V), w'.K = X.K ∧ w'.H = H' ∧ RS w' ∧ w'.rv = Dn :: w1.rv ∧ Lat w1 w' ∧ Bears w1 w' ∧ H' Dn = some (.lst acc) ∧ Reps w' ds acc ∧ ds.length ≤ i + 1 ∧ compGo tg tt fe (evWipe env vs) (l.drop (i + 1)) ds w'.st = .ok dsf stf,
        fun H' hN => ⟨m - 1, by omega, hN⟩, fun x H' hx => ?_⟩
      obtain ⟨w2, a2, e2, rfl, em2, rx⟩ := yl x H' hx
      unfold compGo at eq
      cases et : tg l[i] (evWipe env vs) with
      | none => rw [et] at eq; cases eq
      | some e1 =>
        rw [et] at eq
        obtain ⟨bb, s3, eb, eq3⟩ := bind_inv eq
        have eb := noErr_ok eb
        -- after any step of the turn the list so far stands
        have keep : ∀ w3, Aft w' w3 → w3.K = X.K ∧ RS w3 ∧ w3.rv = Dn :: w1.rv ∧ Lat w1 w3 ∧ Bears w1 w3 ∧ w3.H Dn = some (.lst acc) ∧ Reps w3 ds acc := fun w3 a3 => by
          refine ⟨a3.k.trans hk', a3.rs, a3.rv.trans rv', ?_, b'.trans a3.bears, (a3.fz Dn _ ⟨hDa, own'⟩).1, a3.reps rd⟩
          refine lat.trans ⟨a3.k, rfl, ⟨fun i c hc => cell_rv (fun x hx => by rw [a3.rv, rv']; exact List.mem_cons_of_mem _ hx) (a3.rs.cells i c hc), a3.rs.inj, fun x hx => a3.rs.rvs x (by rw [a3.rv, rv']; exact List.mem_cons_of_mem _ hx), fun x hx => a3.rs.rvo x (by rw [a3.rv, rv']; exact List.mem_cons_of_mem _ hx)⟩, a3.ext, a3.len, a3.tup, a3.fz⟩
        refine ht w2 (evWipe env vs) (wipe σ vs) l[i] x e1 _ (a2.k.trans hk') ?_ rx et fun σ2 n2 hw2 => ?_
        · have nb : REnv w' (evWipe env vs) (wipe σ vs) := ⟨((n.after a1).wipe vs).len, fun j d ej => let ⟨v, e1, rv⟩ := ((n.after a1).wipe vs).at_ j d ej; ⟨v, e1, b'.rep _ _ rv⟩⟩
          exact nb.after a2
        · refine ⟨by rw [hw2 vs hv, wipe_wipe], ?_⟩
          refine ⟨w2, e1, a2.k.trans hk', rfl, a2.rs, n2, wp_nov (by rw [e2]; exact eb) fun w3 a3 e3 => ?_⟩
          cases bb with
          | false =>
            refine iteF ⟨by omega, w3, ds, acc, ?_⟩
            obtain ⟨k1, k2, k3, k4, k5, k6, k7⟩ := keep w3 (a2.trans a3)
            exact ⟨k1, rfl, k2, k3, k4, k5, k6, k7, by omega, by rw [e3]; exact eq3⟩
          | true =>
            obtain ⟨y, s4, ey, eq4⟩ := bind_inv eq3
            have ey := noErr_ok ey
            refine iteT ⟨w3, e1, a3.k.trans (a2.k.trans hk'), rfl, a3.rs, n2.after a3, wp_nov (by rw [e3]; exact ey) fun w4 a4 e4 v rv => ?_⟩
            obtain ⟨k1, k2, k3, k4, k5, k6, k7⟩ := keep w4 ((a2.trans a3).trans a4)
            have own4 : ¬ Own w4.m w4.st Dn := k2.rvo Dn (by rw [k3]; exact List.mem_cons_self ..)
            refine ⟨acc, k6, by rw [reps_len k7]; exact Nat.lt_of_le_of_lt hdl (Nat.lt_of_lt_of_le hlt hJ.len), by omega, ⟨w4.K, w4.m, w4.st, upd w4.H Dn (.lst (acc ++ [v])), w4.rv⟩, ds ++ [y], acc ++ [v], k1, rfl, ?_⟩
            -- the write at the reserved address
            have up : ∀ b u, b ≠ Dn → w4.H b = some u → upd w4.H Dn (.lst (acc ++ [v])) b = some u := fun b u hb q => by rw [upd_ne hb]; exact q
            have tupk : ∀ a xs, SqT w4.K w4.H a xs → SqT w4.K (upd w4.H Dn (.lst (acc ++ [v]))) a xs := fun a xs q => by
              rcases q with (q | ⟨o, q⟩) | q
              · exact .inl (.inl (up _ _ (ne_of q k6 (by intro z; cases z)) q))
              · exact .inl (.inr ⟨o, up _ _ (ne_of q k6 (by intro z; cases z)) q⟩)
              · exact .inr q
            have bW : Bears w4 ⟨w4.K, w4.m, w4.st, upd w4.H Dn (.lst (acc ++ [v])), w4.rv⟩ := ⟨fun _ _ => rfl, Nat.le_refl _, tupk, fun x o q => ⟨⟨up _ _ (fun z => q.2 (by rw [z, k3]; exact List.mem_cons_self ..)) q.1.1, q.1.2⟩, q.2⟩⟩
            have cellk : ∀ i c, w4.st[i]? = some c → CellOk ⟨w4.K, w4.m, w4.st, upd w4.H Dn (.lst (acc ++ [v])), w4.rv⟩ (w4.m i) c := fun i c hc => by
              have q := k2.cells i c hc
              by_cases lv : c.live
              · have hne : w4.m i ≠ Dn := fun z => own4 ⟨i, c, hc, lv, z⟩
                exact cell_bears bW (fun o q _ => up _ _ hne q) (fun xs q => by
                  rcases q with ⟨u, q⟩ | q
                  · exact .inl ⟨u, up _ _ hne q⟩
                  · exact .inr q) rfl q
              · cases c with
                | ro l' =>
                  obtain ⟨xs, q1, q2, q3⟩ := q
                  refine ⟨xs, ?_, bW.reps _ _ q2, q3⟩
                  rcases q1 with ⟨u, q1⟩ | q1
                  · exact .inl ⟨u, up _ _ (ne_of q1 k6 (by intro z; cases z)) q1⟩
                  · exact .inr q1
                | dead => trivial
                | _ => exact absurd trivial lv
            have rsW : RS ⟨w4.K, w4.m, w4.st, upd w4.H Dn (.lst (acc ++ [v])), w4.rv⟩ := ⟨cellk, k2.inj, fun x hx z => by
                by_cases hxD : x = Dn
                · subst hxD; have z : upd w4.H x (.lst (acc ++ [v])) x = none := z; rw [upd_same] at z; cases z
                · have z : upd w4.H Dn (.lst (acc ++ [v])) x = none := z; rw [upd_ne hxD] at z; exact k2.rvs x hx z, k2.rvo⟩
            refine ⟨rsW, k3, ?_, k5.trans bW, upd_same, ?_, by rw [List.length_append]; simp; omega, by rw [e4]; exact eq4⟩
            · -- up to the reserved address all is later
              refine ⟨k4.k, rfl, ⟨fun i c hc => cell_rv (w := ⟨w4.K, w4.m, w4.st, upd w4.H Dn (.lst (acc ++ [v])), w4.rv⟩) (fun x hx => by show x ∈ w4.rv; rw [k3]; exact List.mem_cons_of_mem _ hx) (cellk i c hc), k2.inj, fun x hx z => ?_, fun x hx => k2.rvo x (by rw [k3]; exact List.mem_cons_of_mem _ hx)⟩, k4.ext, k4.len, fun a xs q => tupk a xs (k4.tup a xs q), fun x o q => ?_⟩
              · have z : upd w4.H Dn (.lst (acc ++ [v])) x = none := z
                rw [upd_ne (hnD x hx)] at z
                exact k2.rvs x (by rw [k3]; exact List.mem_cons_of_mem _ hx) z
              · have q' := k4.fz x o q
                exact ⟨up _ _ (fun z => by rw [z] at q; exact absurd (q.1.symm.trans hD) (by simp)) q'.1, q'.2⟩
            · exact reps_app (bW.reps _ _ k7) (by simp only [Reps]; exact ⟨v, [], rfl, bW.rep _ _ rv, rfl⟩)
/-- the block in which a comprehension runs -/
def Blk (X : Cx) (scope : Scope) (P : Cx → Prop) : Prop := ∀ (s : Shared) (H : Hp) (C : Addr) (cl : List (Str × Addr)) (fp : List Addr), P (X.blk s H scope (compEnvC scope cl C X.env) fp)
abbrev W0 : XW := fun _ _ _ => False
theorem de_comp {elt tgt iter : Expr} {scope : Scope} {own : List (Str × Nat)} {t : TG} {tg : D → Ev → Option Ev} {is : List Nat} {fi : Ev → M (List D)} {fe : Ev → M D} (hc : X.calm = true) (hN : X.N.Nodup) (hi : DI X W tgt iter fi) (ok : BlkOk X.N X.env.scope scope own)
    (hg : Blk X scope fun X' => PG X' tgt t) (ht : TgOk X.K t tg is) (hv : ∀ i ∈ is, i ∈ own.map (·.2)) (he : Blk X scope fun X' => DE X' W0 elt fe) (hs : ∀ x, foldedSetIterable iter X.env x = pure x := by intro _; rfl) :
    DE X W (.ListComp elt [⟨tgt, iter, [], 0⟩] scope pos) (eComp (own.map (·.2)) fi tg (fun _ => pure true) fe) := by
  refine PE.imp' (pe_lc (tt := rdT X.K W0 fun _ => pure true) (te := rdE X.K W0 fe) hc hN hi ok hg (fun s H C cl fp => ?_) he hs) fun _ _ _ h => comp_rd ht hv h
  exact ⟨fun pins s σ H Q I h => pts_nil.run pins s σ H Q I (by
    obtain ⟨w, env, hk, rfl, r, n, h⟩ := h
    exact Wp.ok_ (a := true) r h)⟩
theorem de_compIf {elt tgt iter cond : Expr} {scope : Scope} {own : List (Str × Nat)} {t : TG} {tg : D → Ev → Option Ev} {is : List Nat} {fi : Ev → M (List D)} {tt : Ev → M Bool} {fe : Ev → M D} (hc : X.calm = true) (hN : X.N.Nodup) (hi : DI X W tgt iter fi) (ok : BlkOk X.N X.env.scope scope own)
    (hg : Blk X scope fun X' => PG X' tgt t) (ht : TgOk X.K t tg is) (hv : ∀ i ∈ is, i ∈ own.map (·.2)) (hif : Blk X scope fun X' => DT X' W0 cond tt) (he : Blk X scope fun X' => DE X' W0 elt fe) (hs : ∀ x, foldedSetIterable iter X.env x = pure x := by intro _; rfl) :
    DE X W (.ListComp elt [⟨tgt, iter, [cond], 0⟩] scope pos) (eComp (own.map (·.2)) fi tg tt fe) := by
  exact PE.imp' (pe_lc (tt := rdT X.K W0 tt) (te := rdE X.K W0 fe) hc hN hi ok hg (fun s H C cl fp => pts_one (hif s H C cl fp)) he hs) fun _ _ _ h => comp_rd ht hv h
theorem ds_setComp (i : Nat) {y : Str} {py spos : Pos} {elt tgt iter : Expr} {scope : Scope} {own : List (Str × Nat)} {t : TG} {tg : D → Ev → Option Ev} {is : List Nat} {fi : Ev → M (List D)} {fe : Ev → M D} (hc : X.calm = true) (hN : X.N.Nodup) (hy : X.N[i]? = some y) (hyl : X.env.scope.names.lookup y = some .local)
    (hsw : swapsWith (.ListComp elt [⟨tgt, iter, [], 0⟩] scope pos) (some (.Name y py)) spos.line X.env = pure true) (hi : DI X W tgt iter fi) (ok : BlkOk X.N X.env.scope scope own)
    (hg : Blk X scope fun X' => PG X' tgt t) (ht : TgOk X.K t tg is) (hv : ∀ i ∈ is, i ∈ own.map (·.2)) (he : Blk X scope fun X' => DE X' W0 elt fe) (hs : ∀ x, foldedSetIterable iter X.env x = pure x := by intro _; rfl) :
    DS X W (.Assign [.Name y py] (.ListComp elt [⟨tgt, iter, [], 0⟩] scope pos) spos) (sAsg i (eComp (own.map (·.2)) fi tg (fun _ => pure true) fe)) := by
  refine PS.imp' (ps_setLc (tt := rdT X.K W0 fun _ => pure true) (te := rdE X.K W0 fe) hc hN hy hyl hsw hi ok hg (fun s H C cl fp => ?_) he hs) fun D' σ H h => ?_
  · exact ⟨fun pins s σ H Q I h => pts_nil.run pins s σ H Q I (by
      obtain ⟨w, env, hk, rfl, r, n, h⟩ := h
      exact Wp.ok_ (a := true) r h)⟩
  · exact comp_rd ht hv (asg_rd h)
theorem ds_setCompIf (i : Nat) {y : Str} {py spos : Pos} {elt tgt iter cond : Expr} {scope : Scope} {own : List (Str × Nat)} {t : TG} {tg : D → Ev → Option Ev} {is : List Nat} {fi : Ev → M (List D)} {tt : Ev → M Bool} {fe : Ev → M D} (hc : X.calm = true) (hN : X.N.Nodup) (hy : X.N[i]? = some y) (hyl : X.env.scope.names.lookup y = some .local)
    (hsw : swapsWith (.ListComp elt [⟨tgt, iter, [cond], 0⟩] scope pos) (some (.Name y py)) spos.line X.env = pure true) (hi : DI X W tgt iter fi) (ok : BlkOk X.N X.env.scope scope own)
    (hg : Blk X scope fun X' => PG X' tgt t) (ht : TgOk X.K t tg is) (hv : ∀ i ∈ is, i ∈ own.map (·.2)) (hif : Blk X scope fun X' => DT X' W0 cond tt) (he : Blk X scope fun X' => DE X' W0 elt fe) (hs : ∀ x, foldedSetIterable iter X.env x = pure x := by intro _; rfl) :
    DS X W (.Assign [.Name y py] (.ListComp elt [⟨tgt, iter, [cond], 0⟩] scope pos) spos) (sAsg i (eComp (own.map (·.2)) fi tg tt fe)) :=
  PS.imp' (ps_setLc (tt := rdT X.K W0 tt) (te := rdE X.K W0 fe) hc hN hy hyl hsw hi ok hg (fun s H C cl fp => pts_one (hif s H C cl fp)) he hs) fun D' σ H h => comp_rd ht hv (asg_rd h)
end
end G
end

section
set_option Elab.async false
set_option linter.all false
set_option autoImplicit false
set_option maxRecDepth 100000
set_option maxHeartbeats 1000000
namespace G
open PySem PySem.Spec PyProof.Rows L2
/-! ## defs: their promises where no repr is under way -/
section
variable {P : Program} {w : World} {K : PySem.W.Frag} {mg : Str → Option Value} {base : Heap}
structure FnG (P : Program) (w : World) (K : PySem.W.Frag) (mg : Str → Option Value) (base : Heap) (k : Nat) (f : Addr) (fd : FuncData) (ps : List Str) (sp : Sp) : Prop where
  len : ∀ vs H Q E, sp vs H Q E → vs.length = ps.length
  run : ∀ (A : Around) (outer : List Env) (s : Shared) (H : Hp) (args : Args) (us : List Value) (vs : List V) (Q : VK) (E : XK), A.guards = some [] → Room k A → Env0 P w K mg base A outer s H →
    BindsTo s fd args (ps.zip us) → Vals vs us → sp vs H Q E → codeAny (model P w) A (.call (.ref f) args) (CR (L2.CX P w) outer P w H s Q E) s
theorem FnG.mono {j k : Nat} {f : Addr} {fd : FuncData} {ps : List Str} {sp : Sp} (F : FnG P w K mg base j f fd ps sp) (h : j ≤ k) : FnG P w K mg base k f fd ps sp :=
  ⟨F.len, fun A outer s H args us vs Q E g hr => F.run A outer s H args us vs Q E g (hr.mono h)⟩
/-- a def by its body -/
theorem fng_of {k : Nat} {x qual : Str} {params : Arguments} {body : List Stmt} {scope : Scope} {f : Addr} {fd : FuncData} {N ps : List Str} {sp : Sp} (FD : FunD K x qual params body scope [] [] f fd) (S : FnScope N ps scope)
    (len : ∀ vs H Q E, sp vs H Q E → vs.length = ps.length)
    (hbody : ∀ (cdv : Value) (A : Around) (outer : List Env) (s : Shared) (H : Hp) (vs : List V) (Q : VK) (E : XK), A.guards = some [] → Room k (A.deeper (envOfC qual scope s.heap.objs.size f cdv)) → sp vs H Q E →
      ∃ t, PSs (cxOf (L2.CX P w) P w K mg base N qual scope f cdv A outer s H E) body t ∧ t { nx := fun _ H' => Q .non H', rt := Q } (L2.start N vs) H) : FnG P w K mg base (k + 1) f fd ps sp := by
  obtain ⟨oc, od, dV, kV, doc, pm, an, cdv, ct, osl, rfl, lk, hcd, _, _⟩ := FD.ex
  refine ⟨len, ?_⟩
  intro A outer s H args us vs Q E gd rm env0 bind rel hsp
  have hl := len vs H Q E hsp
  have kin : K.In s.heap := env0.mod.kin.keeps (fun b o z => (env0.bs b o z).1)
  have nolim : s.heap.NoLimit := env0.mod.nolimit.keeps (fun b o z => (env0.bs b o z).1)
  have kinds : ∀ y ∈ ps.zip us, scope.names.lookup y.1 = some .local ∨ (scope.names.lookup y.1 = some .cell ∧ ((cellsFrom (s.heap.objs.size + 1) scope.names []).lookup y.1).isSome = true) := by
    rintro ⟨n, v⟩ hy
    cases S.par n (List.of_mem_zip hy).1 with
    | inl q => exact Or.inl q
    | inr q => exact Or.inr ⟨q, PySem.W.cellsFrom_some _ _ _ (Or.inl q)⟩
  refine codeAny_call_function rm.depth (kin _ _ lk) rfl S.co S.gen rfl (PySem.W.codeRec_of kin hcd) (bind _ _ _ _ (wpAny_newFunctionEnv_cells S.kind kinds ?_))
  intro env he s1 x1
  subst he
  refine ⟨nolim.keeps x1.toInCall.keep, codeAny_func ?_⟩
  obtain ⟨t, der, rd⟩ := hbody cdv A outer s H vs Q E gd (rm.deeper _) hsp
  have I0 : Inv (cxOf (L2.CX P w) P w K mg base N qual scope f cdv A outer s H E) [] (L2.start N vs) H s1 := inv_start S rm.hd env0 hl rel x1
  refine wpAny_mono (der.run [] s1 (L2.start N vs) H _ I0 rd) ?_ (fun _ _ z => z)
  intro fl s' z
  cases fl with
  | ret u =>
    obtain ⟨v, σ', H', J, rv, q⟩ := z
    exact ⟨v, H', J.os, J.bare, J.base, J.hok, rv, q⟩
  | next =>
    obtain ⟨σ', H', J, q⟩ := z
    exact ⟨V.non, H', J.os, J.bare, J.base, J.hok, rfl, q⟩
  | brk => obtain ⟨_, _, _, q⟩ := z; exact q.elim
  | cont => obtain ⟨_, _, _, q⟩ := z; exact q.elim
/-- the promise: it computes F -/
def spM (K : PySem.W.Frag) (n : Nat) (F : List D → M D) : Sp := fun vs H Q E => ∃ (w : Wd) (ds : List D), w.K = K ∧ w.H = H ∧ RS w ∧ Reps w ds vs ∧ ds.length = n ∧
  Wp w (F ds w.st) (fun d w' => ∀ v, Rep w' d v → Q v w'.H) (fun c w' => E (.ref (He.ga K c)) none w'.H)
def FnM (P : Program) (w : World) (K : PySem.W.Frag) (mg : Str → Option Value) (base : Heap) (k : Nat) (f : Addr) (fd : FuncData) (ps : List Str) (F : List D → M D) : Prop := FnG P w K mg base k f fd ps (spM K ps.length F)
def throwM {α : Type} (c : Str) : M α := fun st => .err c st
def runF (n : Nat) (g : Ev → M Fl) : List D → M D := fun ds => do
  let fl ← noErr (g (ds.map some ++ List.replicate (n - ds.length) none))
  match fl with
  | .ret d => pure d
  | .nx _ => pure .non
  | .exc c _ => throwM c
  | _ => M.stuck
theorem env_start {w : Wd} : ∀ {ds : List D} {vs : List V} (n : Nat), Reps w ds vs → REnv w (ds.map some ++ List.replicate n none) (vs.map some ++ List.replicate n none) := by
  intro ds vs n h
  refine ⟨by simp [reps_len h], fun i d e => ?_⟩
  by_cases hi : i < ds.length
  · rw [List.getElem?_append_left (by simpa using hi), List.getElem?_map] at e
    cases q : ds[i]? with
    | none => rw [q] at e; cases e
    | some d' =>
      rw [q] at e
      cases e
      obtain ⟨x, ex, rx⟩ := reps_at h q
      refine ⟨x, ?_, rx⟩
      rw [List.getElem?_append_left (by simpa [reps_len h] using hi), List.getElem?_map, ex]
      rfl
  · rw [List.getElem?_append_right (by simpa using hi), List.getElem?_replicate] at e
    split at e <;> cases e
theorem noErr_wp {α : Type} {w : Wd} {x : M α} {P : α → Wd → Prop} {V' : Str → Wd → Prop} (h : Wp w (noErr x w.st) P V') : Wp w (x w.st) P nov := by
  unfold noErr at h
  cases e : x w.st with
  | ok a st' => rw [e] at h; exact h
  | err c st' => rw [e] at h; exact h.elim
  | bad => rw [e] at h; exact h
/-- the wish of a def about exceptions -/
abbrev wE (K : PySem.W.Frag) (E : XK) : XW := fun c _ H => E (.ref (He.ga K c)) none H
theorem fnm_of {k : Nat} {x qual : Str} {params : Arguments} {body : List Stmt} {scope : Scope} {f : Addr} {fd : FuncData} {N ps : List Str} {g : Ev → M Fl} (FD : FunD K x qual params body scope [] [] f fd) (S : FnScope N ps scope) (hN : ps.length ≤ N.length)
    (hb : ∀ (cdv : Value) (A : Around) (outer : List Env) (s : Shared) (H : Hp) (E : XK), A.guards = some [] → Room k (A.deeper (envOfC qual scope s.heap.objs.size f cdv)) →
      DSs (cxOf (L2.CX P w) P w K mg base N qual scope f cdv A outer s H E) (wE K E) body g) : FnM P w K mg base (k + 1) f fd ps (runF N.length g) := by
  refine fng_of FD S (fun vs H Q E h => ?_) fun cdv A outer s H vs Q E gd hr h => ⟨_, hb cdv A outer s H E gd hr, ?_⟩
  · obtain ⟨w', ds, _, _, _, r, hl, _⟩ := h
    rw [reps_len r]; exact hl
  · obtain ⟨w', ds, hk, rfl, rs, r, hl, h⟩ := h
    refine ⟨w', ds.map some ++ List.replicate (N.length - ds.length) none, hk, rfl, rs, ?_, (noErr_wp (Wp.bind h)).imp fun fl w1 a1 h1 => ?_⟩
    · have := env_start (w := w') (N.length - ds.length) r
      unfold L2.start
      rw [reps_len r]
      exact this
    · cases fl with
      | ret d => exact Wp.ok_ (a := d) a1.rs h1
      | nx e => exact fun σ _ => Wp.ok_ (a := D.non) a1.rs h1 _ rep_non
      | brk e => exact h1.elim
      | ct e => exact h1.elim
      | exc c e => exact fun σ _ => h1 w1 (.refl a1.rs) rfl
end
/-! ## calls -/
section
variable {X : Cx} {W : XW} {e a b c : Expr} {pos p : Pos} {fa fb fc : Ev → M D} {k : Nat} {f : Addr} {fd : FuncData} {ps : List Str} {x : Str} {es : List Expr}
/-- the wishes in the layer's own words -/
abbrev wX (K : PySem.W.Frag) (Wx : WX) : XW := fun c σ H => Wx (.ref (He.ga K c)) none σ H
theorem run_fng {pins : List (Addr × Obj)} {σ : L2.St} {H : Hp} {s : Shared} {Q : VK} {us : List Value} {vs : List V} {sp : Sp} {Wx : WX} (F : FnG X.prog X.w X.K X.mg X.base k f fd ps sp) (hg : X.A.guards = some []) (hr : Room k X.A) (hb : Binds X.K fd ps []) (tk : Takes X Wx)
    (I : Inv X pins σ H s) (r : Vals vs us) (h : sp vs H Q (fun cls d H' => Wx cls d σ H')) : wpAny (model X.prog X.w) X.A (call (.ref f) us) (EP X pins σ Q) X.xe s := by
  have e1 : us.length = ps.length := r.length.symm.trans (F.len _ _ _ _ h)
  have e2 := hb s us I.kIn (by rw [List.append_nil]; exact e1)
  rw [List.append_nil] at e2
  refine wpAny_call (codeAny_mono (F.run X.A X.stack s H ⟨us, []⟩ us vs Q _ hg hr I.env0 e2 r h) ?_)
  intro res s' z
  cases res with
  | error ev => exact passAt tk σ pins H s ev s' I z
  | ok fl =>
    cases fl with
    | ret u => exact I.after z
    | next => exact z.elim
    | brk => exact z.elim
    | cont => exact z.elim
def eCall (F : List D → M D) (fs : List (Ev → M D)) : Ev → M D := fun env => do
  let ds ← aSeq fs env
  F ds
/-- f(e, ..) of a def that computes F -/
theorem de_call {F : List D → M D} {fs : List (Ev → M D)} {Wx : WX} (FN : FnM X.prog X.w X.K X.mg X.base k f fd ps F) (hgd : X.A.guards = some []) (hr : Room k X.A) (tk : Takes X Wx) (hW : W = wX X.K Wx) (hg : Gl X x) (hm : X.mg x = some (.ref f)) (hk : PySem.W.keepIn X.K (.ref f) = true) (hb : Binds X.K fd ps [])
    (ha : DA X W (e :: es) fs) (hl : fs.length = ps.length := by rfl) (hdb : (x == ("__debug__" : Str)) = false := by decide) (he : starEach (e :: es) X.env = (false, eval e X.env) :: starEach es X.env := by rfl) (hpl : (backTo pos (starEach es X.env)).any (·.1) = false := by rfl) :
    DE X W (.Call (.Name x p) (e :: es) [] pos) (eCall F fs) := by
  refine ⟨fun pins s σ H Q I h => ?_⟩
  obtain ⟨w, env, ek, rfl, r, n, h⟩ := h
  have h1 := wp_seq (Wp.bind h)
  refine wpAny_Call_Name_kw (ld_glob I hg hm ?_ hdb)
  refine PySem.W.callWith_K (h₀ := X.base) I.ok.mod.kin hk (thn (ha.run pos pins s σ w.H (fun vs H1 => spM X.K ps.length F vs H1 Q (fun cls d H' => Wx cls d σ H')) I ⟨w, env, ek, rfl, r, n, h1.imp fun ds w1 a1 h2 vs rv => ?_⟩) fun us s1 z => ?_) he hpl
  · refine ⟨w1, ds, a1.k.trans ek, rfl, a1.rs, rv, h2.1.trans hl, h2.2.mono (fun _ _ _ q => q) fun c w2 a2 q => ?_⟩
    rw [hW] at q
    exact q
  · obtain ⟨vs, H1, I1, r1, q1⟩ := z
    exact ⟨I1.kIn, run_fng FN hgd hr hb tk I1 r1 q1⟩
theorem de_call0 {F : List D → M D} {Wx : WX} (FN : FnM X.prog X.w X.K X.mg X.base k f fd [] F) (hgd : X.A.guards = some []) (hr : Room k X.A) (tk : Takes X Wx) (hW : W = wX X.K Wx) (hg : Gl X x) (hm : X.mg x = some (.ref f)) (hk : PySem.W.keepIn X.K (.ref f) = true) (hb : Binds X.K fd [] [])
    (hdb : (x == ("__debug__" : Str)) = false := by decide) : DE X W (.Call (.Name x p) [] [] pos) (eCall F []) := by
  refine ⟨fun pins s σ H Q I h => ?_⟩
  obtain ⟨w, env, ek, rfl, r, n, h⟩ := h
  refine wpAny_Call_Name_kw (ld_glob I hg hm ?_ hdb)
  refine PySem.W.callWith_K0 I.kIn hk (run_fng (us := []) (vs := []) FN hgd hr hb tk I .nil ⟨w, [], ek, rfl, r, rfl, rfl, Wp.mono (Wp.ok_ (P := fun ds w1 => Wp w1 (F ds w1.st) _ _) (a := ([] : List D)) r (Wp.bind h)) (fun _ _ _ q => q) fun c w2 a2 q => ?_⟩)
  rw [hW] at q
  exact q
end
/-! ## the law's call -/
section
variable {P : Program} {w : World} {K : PySem.W.Frag} {mg mb : Str → Option Value}
theorem law_callG {k : Nat} {fa a : Addr} {fd : FuncData} {x : Str} {sp : Sp} {s₁ : Shared} {vs : List Value} {ns : List Int} (kin : K.In s₁.heap) (gns : s₁.heap.Ns mainGlobals mg) (bns : s₁.heap.Ns builtinsNs mb) (bbt : ∀ x : Str, x ≠ "__name__" → mb x = bootBuiltins x) (lim : s₁.heap.NoLimit)
    (gen0 : s₁.gens = #[]) (scr : s₁.heap.get? a = some { cls := .type "list", data := .seq vs.toArray }) (itsI : IntsAre vs ns) (short : ns.length ≤ sizeLine) (rm : Room k callerA) (F : ∀ base : Heap, K.In base → base.Ns mainGlobals mg → FnG P w K mg base k fa fd [x] sp)
    (bind : ∀ (s : Shared) (u : Value), BindsTo s fd ⟨[u], []⟩ [(x, u)]) (hsp : ∀ H : Hp, RoL K H a (ns.map V.int) → sp [.ref a] H (fun v _ => v = .bl true) fun _ _ _ => False) :
    codeAny (model P w) callerA (.call (.ref fa) ⟨[.ref a], []⟩) (fun r s' => r = .ok (.ret (.bool true)) ∧ OldK s₁.heap s'.heap ∧ s'.os = s₁.os ∧ AllBare s'.gens) s₁ := by
  have rv : Vals (ns.map V.int) vs := vals_ints itsI
  have lv : vs.length = ns.length := itsI.length
  have main : ∀ H : Hp, RoL K H a (ns.map V.int) → HOk P w H s₁.heap → (∀ b u, H b = some u → b = a ∧ K.lookup a = none ∧ ∃ ob xs, u = .frz ob (.lst xs)) →
      codeAny (model P w) callerA (.call (.ref fa) ⟨[.ref a], []⟩) (fun r s' => r = .ok (.ret (.bool true)) ∧ OldK s₁.heap s'.heap ∧ s'.os = s₁.os ∧ AllBare s'.gens) s₁ := by
    intro H hR hok only
    have hid : ∀ {b : Addr} {o : Obj}, s₁.heap.get? b = some o → H b = none → (hidT s₁.heap H).get? b = some o := fun z n => hidT_get z n
    have dict0 : ∀ {b : Addr} {o : Obj} {es : Array DictEntry} {ep : Nat}, s₁.heap.get? b = some o → o.data = .dict es ep → H b = none := by
      intro b o es ep z d
      cases q : H b with
      | none => rfl
      | some u =>
        obtain ⟨rfl, _⟩ := only b u q
        rw [scr] at z
        cases z
        exact absurd d (by intro z; cases z)
    have nsH : ∀ {b : Addr} {m : Str → Option Value}, s₁.heap.Ns b m → (hidT s₁.heap H).Ns b m := by
      rintro b m ⟨o, es, ep, z, d, r⟩
      exact ⟨o, es, ep, hid z (dict0 z d), d, r⟩
    have kinH : K.In (hidT s₁.heap H) := by
      intro b o z
      refine hid (kin b o z) ?_
      cases q : H b with
      | none => rfl
      | some u =>
        obtain ⟨rfl, z2, _⟩ := only b u q
        rw [z2] at z
        cases z
    obtain ⟨mc, l1, l2⟩ := lim
    have md : Mod K mg (hidT s₁.heap H) := ⟨kinH, nsH gns, ⟨mb, nsH bns, bbt⟩, ⟨mc, nsH l1, l2⟩⟩
    have ev : Env0 P w K mg (hidT s₁.heap H) callerA [] s₁ H := ⟨rfl, md, fun b o z => of_hidT z, Nat.le_of_eq (hidT_size _ _), trivial, fun b z => absurd (show b ∈ ([] : List Addr) from z) (by simp), hok, .of_eq gen0⟩
    refine codeAny_mono ((F _ kinH (nsH gns)).run callerA [] s₁ H ⟨[.ref a], []⟩ [.ref a] [.ref a] _ _ rfl rm ev (bind s₁ (.ref a)) (.cons rfl .nil) (hsp H hR)) ?_
    intro res s' z
    cases res with
    | error e =>
      obtain ⟨_, _, _, _, _, _, _, _, _, _, _, _, y⟩ := z
      exact y.elim
    | ok fl =>
      cases fl with
      | next => exact z.elim
      | brk => exact z.elim
      | cont => exact z.elim
      | ret u =>
        obtain ⟨v, H', eos, eb, un, hok', rel, q⟩ := z
        have q : v = .bl true := q
        subst q
        cases (show u = Value.bool true from rel)
        refine ⟨rfl, OldK.of_keep ?_, eos, eb⟩
        intro b o y
        cases qb : H b with
        | none => exact un.keep b o y qb (fun t => absurd (show b ∈ ([] : List Addr) from t) (by simp)) (by simp)
        | some u =>
          obtain ⟨_, _, ob, xs, rfl⟩ := only b u qb
          have y2 := un.frzs b ob _ qb
          have y3 := (hok b _ qb).1
          have y4 := (hok' b _ y2).1
          rw [y] at y3
          cases y3
          exact y4
  cases hk : K.lookup a with
  | some o =>
    have z := kin a o hk
    rw [scr] at z
    cases z
    refine main (fun _ => none) (.inr ⟨_, vs.toArray, _, hk, rfl, rfl, rfl, ?_, by simpa using rv⟩) (fun b u z => nomatch z) (fun b u z => nomatch z)
    rw [List.size_toArray, lv]; exact short
  | none =>
    refine main (fun b => if b = a then some (.frz { cls := .type "list", data := .seq vs.toArray } (.lst (ns.map V.int))) else none) (.inl ⟨{ cls := .type "list", data := .seq vs.toArray }, if_pos rfl⟩) ?_ ?_
    · intro b u z
      by_cases hb : b = a
      · have z := (if_pos hb).symm.trans z
        cases z
        rw [hb]
        exact ⟨scr, by rw [List.length_map]; exact short, vs, _, rv, scr⟩
      · have z := (if_neg hb).symm.trans z
        cases z
    · intro b u z
      by_cases hb : b = a
      · have z := (if_pos hb).symm.trans z
        cases z
        exact ⟨hb, hk, _, _, rfl⟩
      · have z := (if_neg hb).symm.trans z
        cases z
/-- the law's def computes F, and F tells True of every script -/
theorem walkG {l : PySem.W.OpenLaw} {k : Nat} {q : Program} {loose : List Str} {XP : (Str → Option Value) → Heap → Prop} {YP : World → Heap → Prop} {d : DefRec} {x : Str} {F : List D → M D} (hn : l.most = some 63) (hdf : d.params.defaults = []) (rm : Room k callerA)
    (FN : ∀ (w : World) (mg : Str → Option Value) (fa : Addr) (h : Heap), YP w h → h.Ns mainGlobals mg → mg d.name = some (.ref fa) → ∃ (K : PySem.W.Frag) (fd : FuncData), K.In h ∧ (∀ (s : Shared) (u : Value), BindsTo s fd ⟨[u], []⟩ [(x, u)]) ∧
      ∀ base : Heap, K.In base → base.Ns mainGlobals mg → FnM l.prog w K mg base k fa fd [x] F)
    (true_ : ∀ ns : List Int, ns.length ≤ 63 → (∀ z ∈ ns, Builtin.Int.intBits z ≤ 1048576) → ∃ st', F [.cell 0] [.ro (ns.map D.int)] = .ok (.bl true) st') : PySem.W.WalkO q loose XP YP l.row.toRowW d [] (fun f vs => PySem.call f vs) := by
  refine Att.attach_callB hn hdf ?_
  intro w s₀ s₁ mg mb fa o pm cd doc a vs ns Gr Y ho hd hcd hmg hobj hints hlen hbits hg
  obtain ⟨K, fd, kin, hb, hF⟩ := FN w mg fa _ Y Gr.T.g hmg
  have sh : ns.length ≤ sizeLine := Nat.le_trans hlen (by decide)
  refine law_callG kin Gr.T.g Gr.T.b Gr.T.builtins Gr.T.nolimit hg hobj hints sh rm hF hb ?_
  intro H hR
  obtain ⟨st', e⟩ := true_ ns hlen hbits
  have reps : ∀ (w : Wd) (ms : List Int), Reps w (ms.map D.int) (ms.map V.int) := by
    intro w ms
    induction ms with
    | nil => simp [Reps]
    | cons m r ih => simp only [List.map_cons, Reps]; exact ⟨_, _, rfl, rep_int m, ih⟩
  refine ⟨⟨K, fun _ => a, [.ro (ns.map D.int)], H, []⟩, [.cell 0], rfl, rfl, ⟨fun i c h => ?_, fun i j c c' h h' l => ?_, fun x hx => absurd hx (by simp), fun x hx => absurd hx (by simp)⟩, ?_, rfl, ?_⟩
  · cases i with
    | zero => cases h; exact ⟨ns.map V.int, hR, reps _ _, by rw [List.length_map]; exact sh⟩
    | succ i => simp at h
  · cases i with
    | zero => cases h; exact l.elim
    | succ i => simp at h
  · simp only [Reps, Rep]
    exact ⟨.ref a, [], rfl, ⟨rfl, by simp⟩, rfl⟩
  · have e : F [.cell 0] [Cell.ro (ns.map D.int)] = .ok (.bl true) st' := e
    show Wp _ (F [.cell 0] [Cell.ro (ns.map D.int)]) _ _
    rw [e]
    intro w' a' e' v rv
    simp only [Rep] at rv
    exact rv
end
end G
end

section
set_option Elab.async false
set_option linter.all false
set_option autoImplicit false
set_option maxRecDepth 100000
set_option maxHeartbeats 1000000
namespace G
open PySem PySem.Spec PyProof.Rows L2
section
variable {X : Cx} {W : XW} {e a b c : Expr} {s : Stmt} {ss : List Stmt} {pos : Pos} {fa fb fc : Ev → M D} {g g' : Ev → M Fl}
/-! ## targets that store -/
def rdG (K : PySem.W.Frag) (W : XW) (tg : D → Ev → M Ev) : TG := fun v σ H Q => ∃ (w : Wd) (env : Ev) (d : D), w.K = K ∧ w.H = H ∧ RS w ∧ REnv w env σ ∧ Rep w d v ∧ Wp w (tg d env w.st) (fun env' w' => ∀ σ', REnv w' env' σ' → Q σ' w'.H) (fun c w' => W c σ w'.H)
def DG (X : Cx) (W : XW) (t : Expr) (tg : D → Ev → M Ev) : Prop := PG X t (rdG X.K W tg)
theorem PG.imp' {t : Expr} {r r' : TG} (h : PG X t r) (k : ∀ v σ H Q, r' v σ H Q → r v σ H Q) : PG X t r' := ⟨fun pins s σ H v u Q I rv z => h.run pins s σ H v u Q I rv (k _ _ _ _ z)⟩
def gtName (i : Nat) : D → Ev → M Ev := fun d env => pure (env.set i (some d))
theorem dg_name (i : Nat) {x : Str} (hN : X.N.Nodup) (hi : X.N[i]? = some x) (hx : Loc X.env.scope x) (hf : X.fn x = true ∨ X.env.scope.names.lookup x = some .local := by first | exact .inl rfl | exact .inr rfl) : DG X W (.Name x pos) (gtName i) := PG.imp' (pg_name hN hi hx hf) fun v σ H Q h => by
  obtain ⟨w, env, d, hk, rfl, r, n, rv, h⟩ := h
  exact Wp.ok_ (a := env.set i (some d)) r h _ (n.set i rv)
theorem reps_set {w : Wd} {d : D} {v : V} (r : Rep w d v) : ∀ {ds : List D} {xs : List V} (i : Nat), Reps w ds xs → Reps w (ds.set i d) (xs.set i v)
  | [], xs, i, h => by simp only [Reps] at h; subst h; simp [Reps]
  | y :: ds, xs, 0, h => by
    simp only [Reps] at h
    obtain ⟨x, xs, rfl, r1, rs⟩ := h
    simp only [List.set, Reps]
    exact ⟨v, xs, rfl, r, rs⟩
  | y :: ds, xs, i + 1, h => by
    simp only [Reps] at h
    obtain ⟨x, xs, rfl, r1, rs⟩ := h
    simp only [List.set, Reps]
    exact ⟨x, xs.set i v, rfl, r1, reps_set r i rs⟩
/-- o[i] = d of a list's cell -/
def putIdx (o i d : D) : M Unit := fun st => match o, i with
  | .cell c, .int k => match st[c]? with
    | some (.lst l) => match ixN l.length k with
      | some j => .ok () (st.set c (.lst (l.set j d)))
      | none => .bad
    | _ => .bad
  | _, _ => .bad
theorem putIdx_wp {w : Wd} {o i d : D} {u y v : V} {P : Unit → Wd → Prop} {V' : Str → Wd → Prop} (rs : RS w) (ru : Rep w o u) (ry : Rep w i y) (rv : Rep w d v) (h : Wp w (putIdx o i d w.st) P V') :
    rSetL u y v w.H fun H' => ∃ w', w'.H = H' ∧ Aft w w' ∧ P () w' := by
  unfold putIdx at h
  split at h
  · rename_i c k
    split at h
    · rename_i l el
      split at h
      · rename_i j ej
        simp only [Rep] at ru ry
        obtain ⟨xs, e1, r1, l1⟩ := rs.cells c _ el
        refine ⟨_, xs, k, j, ru.1, ry, e1, by rw [reps_len r1]; exact ej, ?_⟩
        have up : ∀ b q, b ≠ w.m c → w.H b = some q → upd w.H (w.m c) (.lst (xs.set j v)) b = some q := fun b q hb z => by rw [upd_ne hb]; exact z
        have bb : Bears w ⟨w.K, w.m, w.st.set c (.lst (l.set j d)), upd w.H (w.m c) (.lst (xs.set j v)), w.rv⟩ := bears_set (c := .lst (l.set j d)) (c0 := .lst l) rs el trivial up
        have aa : Aft w ⟨w.K, w.m, w.st.set c (.lst (l.set j d)), upd w.H (w.m c) (.lst (xs.set j v)), w.rv⟩ := aft_set (c0 := .lst l) rs el trivial up ⟨_, upd_same, reps_set (bb.rep _ _ rv) j (bb.reps _ _ r1), by rw [List.length_set]; exact l1⟩
        exact ⟨_, rfl, aa, h _ aa rfl⟩
      · exact h.elim
    · exact h.elim
  · exact h.elim
def gtSub (fo fi : Ev → M D) : D → Ev → M Ev := fun d env => do
  let o ← fo env
  let i ← fi env
  putIdx o i d
  pure env
theorem dg_sub {o i : Expr} {fo fi : Ev → M D} (ho : DE X W o fo) (hi : DE X W i fi)
    (ha : ∀ v, assign (.Subscript o i pos) X.env v = (do
      let ov ← holding [v] (eval o X.env)
      let iv ← holding [v, ov] (eval i X.env)
      standAt pos
      holding [v, ov, iv] (setItem ov iv v)
      release [v, ov, iv] []) := by intro _; rfl) : DG X W (.Subscript o i pos) (gtSub fo fi) := PG.imp' (pg_sub ho hi set_list ha) fun v σ H Q h => by
  obtain ⟨w, env, d, hk, rfl, r, n, rv, h⟩ := h
  refine ⟨w, env, hk, rfl, r, n, (Wp.bind h).imp fun od w1 a1 h1 u ru => ?_⟩
  refine ⟨w1, env, a1.k.trans hk, rfl, a1.rs, n.after a1, (Wp.bind h1).imp fun id w2 a2 h2 y ry => ?_⟩
  obtain ⟨p, xs, k, j, e1, e2, e3, e4, w3, e5, a3, h3⟩ := putIdx_wp a2.rs (a2.rep ru) ry ((a1.trans a2).rep rv) (Wp.bind h2)
  refine ⟨p, xs, k, j, e1, e2, e3, e4, ?_⟩
  rw [← e5]
  exact Wp.ok_ (a := env) a3.rs h3 σ (((n.after a1).after a2).after a3)
def gtPair (t1 t2 : D → Ev → M Ev) : D → Ev → M Ev := fun d env => match d with
  | .tup [a, b] => do
    let e1 ← t1 a env
    t2 b e1
  | _ => M.stuck
theorem gtPair_wp {g1 g2 : D → Ev → M Ev} {w : Wd} {d : D} {env : Ev} {P : Ev → Wd → Prop} {V' : Str → Wd → Prop} (h : Wp w (gtPair g1 g2 d env w.st) P V') : ∃ x y, d = .tup [x, y] ∧ Wp w ((g1 x env >>= fun e1 => g2 y e1) w.st) P V' := by
  cases d with
  | tup l =>
    cases l with
    | nil => exact h.elim
    | cons x l =>
      cases l with
      | nil => exact h.elim
      | cons y l =>
        cases l with
        | nil => exact ⟨x, y, rfl, h⟩
        | cons z l => exact h.elim
  | _ => exact h.elim
theorem dg_pair {t1 t2 : Expr} {kk : Nat} {g1 g2 : D → Ev → M Ev} (hc : X.calm = true) (h1 : DG X W0 t1 g1) (h2 : DG X W0 t2 g2) (hs1 : (assignEach [t1, t2] X.env).map (·.2) = assign t1 X.env :: (assignEach [t2] X.env).map (·.2) := by rfl) (hs2 : (assignEach [t2] X.env).map (·.2) = assign t2 X.env :: (assignEach [] X.env).map (·.2) := by rfl)
    (hn : (assignEach [t1, t2] X.env).length = 2 := by rfl) (hst : (assignEach [t1, t2] X.env).findIdx? (·.1) = none := by rfl) : DG X W (.Tuple [t1, t2] kk pos) (fun d env => noErr (gtPair g1 g2 d env)) := PG.imp' (pg_tup hc (pgs_cons h1 (pgs_cons h2 pgs_nil hs2) hs1) hn hst) fun v σ H Q h => by
  obtain ⟨w, env, d, hk, rfl, r, n, rv, h⟩ := h
  have h := noErr_wp (x := gtPair g1 g2 d env) h
  obtain ⟨x, y, rfl, h⟩ := gtPair_wp h
  simp only [Rep] at rv
  obtain ⟨p, xs, rfl, sq, rr, _⟩ := rv
  obtain ⟨u1, u2, rfl, r1, r2⟩ := reps2 rr
  refine ⟨p, [u1, u2], rfl, by rw [← hk]; exact sq, rfl, u1, [u2], rfl, w, env, x, hk, rfl, r, n, r1, (Wp.bind h).mono (fun e1 w1 a1 h1 σ1 n1 => ?_) fun _ _ _ z => z⟩
  refine ⟨u2, [], rfl, w1, e1, y, a1.k.trans hk, rfl, a1.rs, n1, a1.rep r2, h1.mono (fun e2 w2 a2 h2 σ2 n2 => ⟨rfl, h2 σ2 n2⟩) fun _ _ _ z => z⟩
def sAsgT (f : Ev → M D) (tg : D → Ev → M Ev) : Ev → M Fl := fun env => stx (f env) env fun d => stx (tg d env) env fun env' => pure (.nx env')
theorem ds_asg {tgt : Expr} {tg : D → Ev → M Ev} (he : DE X W e fa) (hg : DG X W tgt tg) (hs : swapsWithSole [tgt] e pos.line X.env = pure false := by rfl) (hw : swappedStores [tgt] e X.env = pure none := by rfl) (h1 : (assignEach [tgt] X.env).map (·.2) = [assign tgt X.env] := by rfl) :
    DS X W (.Assign [tgt] e pos) (sAsgT fa tg) := PS.imp' (ps_asg he hg hs hw h1) fun D' σ H h => by
  obtain ⟨w, env, hk, rfl, r, n, h⟩ := h
  refine ⟨w, env, hk, rfl, r, n, (stx_wp n h).imp fun d w1 a1 h1 v rv => ?_⟩
  refine ⟨w1, env, d, a1.k.trans hk, rfl, a1.rs, n.after a1, rv, (stx_wp (n.after a1) h1).imp fun e' w2 a2 h2 σ' n' => ?_⟩
  exact Wp.ok_ (a := Fl.nx e') a2.rs h2 σ' n'
/-! ## dicts in cells -/
def keyOf : D → Option Key
  | .int i => some (.inl i)
  | .str x => some (.inr x)
  | _ => none
def valD (l : List (Key × D)) (k : Key) : Option D := (l.find? fun kv => decide (kv.1 = k)).map (·.2)
def putD (l : List (Key × D)) (k : Key) (d : D) : List (Key × D) := if (l.any fun kv => decide (kv.1 = k)) = true then l.map (fun kv => if kv.1 = k then (kv.1, d) else kv) else l ++ [(k, d)]
theorem keyOf_rep {w : Wd} {d : D} {v : V} {k : Key} (h : keyOf d = some k) (r : Rep w d v) : v = kV k := by
  cases d with
  | int i => cases h; simp only [Rep] at r; exact r
  | str x => cases h; simp only [Rep] at r; exact r
  | _ => cases h
theorem valD_rep {w : Wd} {k : Key} : ∀ {l : List (Key × D)} {kvs : List (Key × V)} {d : D}, RepK w l kvs → valD l k = some d → ∃ v, valV kvs k = some v ∧ Rep w d v
  | [], kvs, d, h, e => by cases e
  | (k1, d1) :: l, kvs, d, h, e => by
    obtain ⟨⟨k2, v2⟩, ys, rfl, e1, r, rs⟩ := h
    have e1 : k2 = k1 := e1
    subst e1
    by_cases hk : k2 = k
    · rw [valV_pos (p := (k2, v2)) hk]
      have : valD ((k2, d1) :: l) k = some d1 := by simp [valD, List.find?_cons, hk]
      rw [this] at e
      cases e
      exact ⟨v2, rfl, r⟩
    · rw [valV_neg (p := (k2, v2)) hk]
      have : valD ((k2, d1) :: l) k = valD l k := by simp [valD, List.find?_cons, hk]
      rw [this] at e
      exact valD_rep rs e
theorem valD_none {w : Wd} {k : Key} : ∀ {l : List (Key × D)} {kvs : List (Key × V)}, RepK w l kvs → valD l k = none → valV kvs k = none
  | [], kvs, h, e => by simp only [RepK] at h; subst h; rfl
  | (k1, d1) :: l, kvs, h, e => by
    obtain ⟨⟨k2, v2⟩, ys, rfl, e1, r, rs⟩ := h
    have e1 : k2 = k1 := e1
    subst e1
    by_cases hk : k2 = k
    · have : valD ((k2, d1) :: l) k = some d1 := by simp [valD, List.find?_cons, hk]
      rw [this] at e; cases e
    · rw [valV_neg (p := (k2, v2)) hk]
      have : valD ((k2, d1) :: l) k = valD l k := by simp [valD, List.find?_cons, hk]
      rw [this] at e
      exact valD_none rs e
theorem repK_any {w : Wd} {k : Key} : ∀ {l : List (Key × D)} {kvs : List (Key × V)}, RepK w l kvs → (kvs.any fun kv => decide (kv.1 = k)) = (l.any fun kv => decide (kv.1 = k))
  | [], kvs, h => by simp only [RepK] at h; subst h; rfl
  | (k1, d1) :: l, kvs, h => by
    obtain ⟨⟨k2, v2⟩, ys, rfl, e1, r, rs⟩ := h
    have e1 : k2 = k1 := e1
    subst e1
    simp only [List.any_cons, repK_any rs]
theorem repK_map {w : Wd} {k : Key} {d : D} {v : V} (r0 : Rep w d v) : ∀ {l : List (Key × D)} {kvs : List (Key × V)}, RepK w l kvs → RepK w (l.map fun kv => if kv.1 = k then (kv.1, d) else kv) (kvs.map fun kv => if kv.1 = k then (kv.1, v) else kv)
  | [], kvs, h => by simp only [RepK] at h; subst h; rfl
  | (k1, d1) :: l, kvs, h => by
    obtain ⟨⟨k2, v2⟩, ys, rfl, e1, r, rs⟩ := h
    have e1 : k2 = k1 := e1
    subst e1
    simp only [List.map_cons, RepK]
    refine ⟨_, _, rfl, ?_, ?_, repK_map r0 rs⟩
    · by_cases hk : k2 = k <;> simp [hk]
    · by_cases hk : k2 = k <;> simp [hk]
      · exact r0
      · exact r
theorem repK_snoc {w : Wd} {k : Key} {d : D} {v : V} (r0 : Rep w d v) : ∀ {l : List (Key × D)} {kvs : List (Key × V)}, RepK w l kvs → RepK w (l ++ [(k, d)]) (kvs ++ [(k, v)])
  | [], kvs, h => by simp only [RepK] at h; subst h; exact ⟨(k, v), [], rfl, rfl, r0, rfl⟩
  | x :: l, kvs, h => by
    obtain ⟨y, ys, rfl, e1, r, rs⟩ := h
    exact ⟨y, ys ++ [(k, v)], rfl, e1, r, repK_snoc r0 rs⟩
theorem repK_put {w : Wd} {l : List (Key × D)} {kvs : List (Key × V)} {k : Key} {d : D} {v : V} (h : RepK w l kvs) (r : Rep w d v) : RepK w (putD l k d) (putK kvs k v) := by
  unfold putD putK
  rw [repK_any h]
  split
  · exact repK_map r h
  · exact repK_snoc r h
theorem repK_len {w : Wd} : ∀ {l : List (Key × D)} {kvs : List (Key × V)}, RepK w l kvs → kvs.length = l.length
  | [], kvs, h => by simp only [RepK] at h; subst h; rfl
  | x :: l, kvs, h => by
    obtain ⟨y, ys, rfl, _, _, rs⟩ := h
    rw [List.length_cons, List.length_cons, repK_len rs]
/-- d[k] of a dict's cell -/
def dGet : D → D → Store → Option D := fun o i st => match o, keyOf i with
  | .cell c, some k => match st[c]? with
    | some (.dct l) => valD l k
    | _ => none
  | _, _ => none
theorem de_dget (hu : X.A.units + 1 < cLine) (ha : DE X W a fa) (hb : DE X W b fb) (hs : NoSl b := by intro _ _; rfl) : DE X W (.Subscript a b pos) (eOp dGet fa fb) := PE.imp' (pe_dget hu ha hb hs) fun σ H Q h => by
  obtain ⟨w, env, hk, rfl, r, n, h⟩ := h
  refine ⟨w, env, hk, rfl, r, n, (Wp.bind h).imp fun x w1 a1 h1 v rv => ?_⟩
  refine ⟨w1, env, a1.k.trans hk, rfl, a1.rs, n.after a1, (Wp.bind h1).imp fun y w2 a2 h2 u ru => ?_⟩
  have q := Wq.of h2
  obtain ⟨d, e⟩ := wq_some q
  have e0 := e
  unfold dGet at e
  split at e
  · rename_i c k hkey
    split at e
    · rename_i l el
      obtain ⟨kvs, e1, r1⟩ := a2.rs.cells c _ el
      obtain ⟨z, ez, rz⟩ := valD_rep r1 e
      have rv2 := a2.rep rv
      simp only [Rep] at rv2
      refine ⟨_, z, rv2.1, ?_, q.here a2.rs e0 rz⟩
      rw [keyOf_rep hkey ru, ← ez]
      exact DGet.k e1
    · cases e
  · cases e
def putKey (o i d : D) : M Unit := fun st => match o, keyOf i with
  | .cell c, some k => match st[c]? with
    | some (.dct l) => if l.length < 1000 then .ok () (st.set c (.dct (putD l k d))) else .bad
    | _ => .bad
  | _, _ => .bad
def sPutK (fo fi f : Ev → M D) : Ev → M Fl := fun env => stx (f env) env fun d => stx (fo env) env fun o => stx (fi env) env fun i => stx (putKey o i d) env fun _ => pure (.nx env)
theorem ds_dput {o i : Expr} {pos' : Pos} {fo fi : Ev → M D} (hu : X.A.units + 1 < cLine) (ho : DE X W o fo) (hi : DE X W i fi) (hv : DE X W e fa) (hs : swapsWith e (some (.Subscript o i pos')) pos.line X.env = pure false := by rfl) : DS X W (.Assign [.Subscript o i pos'] e pos) (sPutK fo fi fa) :=
  PS.imp' (ps_dput hu ho hi hv hs) fun D' σ H h => by
    obtain ⟨w, env, hk, rfl, r, n, h⟩ := h
    refine ⟨w, env, hk, rfl, r, n, (stx_wp n h).imp fun d w1 a1 h1 v rv => ?_⟩
    refine ⟨w1, env, a1.k.trans hk, rfl, a1.rs, n.after a1, (stx_wp (n.after a1) h1).imp fun od w2 a2 h2 u ru => ?_⟩
    refine ⟨w2, env, a2.k.trans (a1.k.trans hk), rfl, a2.rs, (n.after a1).after a2, (stx_wp ((n.after a1).after a2) h2).imp fun id w3 a3 h3 y ry => ?_⟩
    have h4 := stx_wp (((n.after a1).after a2).after a3) h3
    unfold putKey at h4
    split at h4
    · rename_i c k hkey
      split at h4
      · rename_i l el
        split at h4
        · rename_i hl
          obtain ⟨kvs, e1, r1⟩ := a3.rs.cells c _ el
          have ru3 := a3.rep ru
          simp only [Rep] at ru3
          have up : ∀ b q, b ≠ w3.m c → w3.H b = some q → upd w3.H (w3.m c) (.dK (putK kvs k v)) b = some q := fun b q hb z => by rw [upd_ne hb]; exact z
          have rv3 := (a2.trans a3).rep rv
          have bb : Bears w3 ⟨w3.K, w3.m, w3.st.set c (.dct (putD l k d)), upd w3.H (w3.m c) (.dK (putK kvs k v)), w3.rv⟩ := bears_set (c := .dct (putD l k d)) (c0 := .dct l) a3.rs el trivial up
          have aa : Aft w3 ⟨w3.K, w3.m, w3.st.set c (.dct (putD l k d)), upd w3.H (w3.m c) (.dK (putK kvs k v)), w3.rv⟩ := aft_set (c0 := .dct l) a3.rs el trivial up ⟨_, upd_same, repK_put (bb.repK _ _ r1) (bb.rep _ _ rv3)⟩
          refine ⟨_, _, ru3.1, ?_, Wp.ok_ (a := Fl.nx env) aa.rs (h4 _ aa rfl) σ ((((n.after a1).after a2).after a3).after aa)⟩
          rw [keyOf_rep hkey ry]
          exact DPut.k e1 (by rw [repK_len r1]; exact small1000 (Nat.le_of_lt hl))
        · exact h4.elim
      · exact h4.elim
    · exact h4.elim
/-! ### displays of dicts -/
theorem lat_after {w w1 w2 : Wd} (l : Lat w w1) (a : Aft w1 w2) (h : ∀ x, x ∈ w.rv → x ∈ w1.rv) : Lat w w2 := by
  have hx : ∀ x, x ∈ w.rv → x ∈ w2.rv := fun x hx => by rw [a.rv]; exact h x hx
  exact l.trans ⟨a.k, rfl, ⟨fun i c hc => cell_rv hx (a.rs.cells i c hc), a.rs.inj, fun x z => a.rs.rvs x (hx x z), fun x z => a.rs.rvo x (hx x z)⟩, a.ext, a.len, a.tup, a.fz⟩
theorem Wp.lat {α : Type} {w w1 : Wd} {r : Res α} {P : α → Wd → Prop} {V' : Str → Wd → Prop} (h : Wp w r P V') (l : Lat w w1) (hr : ∀ x, x ∈ w.rv → x ∈ w1.rv) : Wp w1 r (fun a w2 => Lat w w2 ∧ P a ⟨w2.K, w2.m, w2.st, w2.H, w.rv⟩) (fun c w2 => V' c ⟨w2.K, w2.m, w2.st, w2.H, w.rv⟩) := by
  cases r with
  | ok a st' => exact fun w2 a2 e2 => ⟨lat_after l a2 hr, h _ (lat_after l a2 hr) e2⟩
  | err c st' => exact fun w2 a2 e2 => h _ (lat_after l a2 hr) e2
  | bad => exact h
/-- the keys of a display are written -/
def DKs (X : Cx) (W : XW) (pos : Pos) (keys : List (Option Expr)) (vals : List Expr) (ks : List Key) (fs : List (Ev → M D)) : Prop := PPs X pos keys vals ((ks.zip fs).map fun p => (tC (kV p.1), rdE X.K W p.2)) ∧ ks.length = fs.length
theorem dk_nil : DKs X W pos [] [] [] [] := ⟨pps_nil, rfl⟩
theorem dk_cons {x : Str} {j : Nat} {kp : Pos} {keys : List (Option Expr)} {vals : List Expr} {ks : List Key} {fs : List (Ev → M D)} (hv : DE X W e fa) (hr : DKs X W pos keys vals ks fs) : DKs X W pos (some (.Constant (.str x) j kp) :: keys) (e :: vals) (.inr x :: ks) (fa :: fs) :=
  ⟨pps_cons pe_str hv hr.1, by rw [List.length_cons, List.length_cons, hr.2]⟩
theorem pairs_rd {σ : L2.St} {env : Ev} : ∀ {ks : List Key} {fs : List (Ev → M D)} {w : Wd} {G : List (V × V) → Hp → Prop}, ks.length = fs.length → w.K = X.K → RS w → REnv w env σ →
    Wp w (aSeq fs env w.st) (fun ds w2 => ∀ vs, Reps w2 ds vs → G ((ks.zip vs).map fun p => (kV p.1, p.2)) w2.H) (fun c w2 => W c σ w2.H) → tPairs ((ks.zip fs).map fun p => (tC (kV p.1), rdE X.K W p.2)) σ w.H G
  | [], [], w, G, hl, hk, rs, n, h => Wp.ok_ (a := ([] : List D)) rs h [] rfl
  | [], _ :: _, _, _, hl, _, _, _, _ => by cases hl
  | _ :: _, [], _, _, hl, _, _, _, _ => by cases hl
  | k :: ks, f :: fs, w, G, hl, hk, rs, n, h => by
    refine ⟨w, env, hk, rfl, rs, n, (Wp.bind h).imp fun d w1 a1 h1 v rv => ?_⟩
    refine pairs_rd (by simpa using hl) (a1.k.trans hk) a1.rs (n.after a1) ((Wp.bind h1).imp fun ds w2 a2 h2 vs rvs => ?_)
    exact Wp.ok_ (a := d :: ds) a2.rs h2 (v :: vs) ⟨v, vs, rfl, a2.rep rv, rvs⟩
theorem merge_nodup : ∀ {kvs acc : List (Key × V)}, (acc.map (·.1) ++ kvs.map (·.1)).Nodup → mergeK acc kvs = acc ++ kvs
  | [], acc, h => by simp [mergeK]
  | kv :: kvs, acc, h => by
    have hn : valV acc kv.1 = none := by
      have : ¬ kv.1 ∈ acc.map (·.1) := fun z => by
        rw [List.nodup_append] at h
        exact h.2.2 _ z _ (by simp) rfl
      unfold valV
      rw [Option.map_eq_none_iff, List.find?_eq_none]
      intro y hy z
      exact this (List.mem_map.mpr ⟨y, hy, of_decide_eq_true z⟩)
    have e : mergeK acc (kv :: kvs) = mergeK (putK acc kv.1 kv.2) kvs := rfl
    rw [e, putK_new _ hn, merge_nodup (by simpa using h)]
    simp
theorem repK_zip {w : Wd} : ∀ {ks : List Key} {ds : List D} {vs : List V}, Reps w ds vs → RepK w (ks.zip ds) (ks.zip vs)
  | [], ds, vs, h => by simp [RepK]
  | k :: ks, [], vs, h => by simp only [Reps] at h; subst h; simp [RepK]
  | k :: ks, d :: ds, vs, h => by
    simp only [Reps] at h
    obtain ⟨x, xs, rfl, r, rs⟩ := h
    exact ⟨(k, x), _, rfl, rfl, r, repK_zip rs⟩
/-- the same world, one more address reserved -/
def Wd.res (w : Wd) (p : Addr) : Wd := ⟨w.K, w.m, w.st, w.H, p :: w.rv⟩
/-- what a display leaves: the dict at p, known to nobody yet -/
theorem disp_rd {σ : L2.St} {env : Ev} {ks : List Key} {fs : List (Ev → M D)} {w : Wd} {Q : VK} (hl : ks.length = fs.length) (hs : ks.length ≤ 15) (hnd : ks.Nodup) (hk : w.K = X.K) (rs : RS w) (n : REnv w env σ)
    (h : Wp w (aSeq fs env w.st) (fun ds w2 => ∀ (p : Addr) (vs : List V), w.H p = none → w2.H p = some (.dK (ks.zip vs)) → RS (w2.res p) → Bears w (w2.res p) → Reps (w2.res p) ds vs → ds.length = ks.length → Q (.ref p) w2.H) (fun c w2 => W c σ w2.H)) :
    tDisp ((ks.zip fs).map fun p => (tC (kV p.1), rdE X.K W p.2)) σ w.H Q := by
  intro p hp
  have hsub : ∀ x, x ∈ w.rv → x ∈ p :: w.rv := fun x hx => List.mem_cons_of_mem _ hx
  have a0 : Aft w ⟨w.K, w.m, w.st, upd w.H p (.dK []), w.rv⟩ := aft_new rs hp
  have l0 : Lat w ⟨w.K, w.m, w.st, upd w.H p (.dK []), p :: w.rv⟩ := a0
  have rs0 : RS ⟨w.K, w.m, w.st, upd w.H p (.dK []), p :: w.rv⟩ := by
    refine ⟨fun i c hc => cell_bears (bears_res hp) (fun o q _ => same_upd hp _ _ q) (fun _ q => roL_same (same_upd hp) q) rfl (rs.cells i c hc), a0.rs.inj, fun x hx z => ?_, fun x hx z => ?_⟩
    · rcases List.mem_cons.mp hx with rfl | hx
      · have z : upd w.H x (.dK []) x = none := z; rw [upd_same] at z; cases z
      · exact a0.rs.rvs x hx z
    · rcases List.mem_cons.mp hx with rfl | hx
      · exact (fz_new (w := w) (o := .dK []) rs hp).2 z
      · exact a0.rs.rvo x hx z
  have n0 : REnv ⟨w.K, w.m, w.st, upd w.H p (.dK []), p :: w.rv⟩ env σ := ⟨n.len, fun i d e => let ⟨v, e1, r⟩ := n.at_ i d e; ⟨v, e1, (bears_res hp).rep _ _ r⟩⟩
  refine pairs_rd (w := ⟨w.K, w.m, w.st, upd w.H p (.dK []), p :: w.rv⟩) hl hk rs0 n0 ?_
  show Wp (⟨w.K, w.m, w.st, upd w.H p (.dK []), p :: w.rv⟩ : Wd) (aSeq fs env w.st) _ _
  cases ea : aSeq fs env w.st with
  | bad => rw [ea] at h; exact h.elim
  | err c st' =>
    rw [ea] at h
    exact fun w2 a2 e2 => h ⟨w2.K, w2.m, w2.st, w2.H, w.rv⟩ (lat_after l0 a2 hsub) e2
  | ok ds st' =>
    rw [ea] at h
    intro w2 a2 e2 vs rvs
    have hdl : ds.length = fs.length := aSeq_len ea
    have lat2 : Lat w w2 := lat_after l0 a2 hsub
    have hf := a2.fz p (.dK []) (fz_new (w := w) rs hp)
    have own2 : ¬ Own w2.m w2.st p := hf.2
    have hks : (ks.zip vs).map (·.1) = ks := by
      rw [List.map_fst_zip]
      rw [reps_len rvs, hdl, hl]; exact Nat.le_refl _
    refine ⟨hf.1, ks.zip vs, rfl, by rw [List.length_zip]; omega, ?_⟩
    rw [merge_nodup (by simpa [hks] using hnd), List.nil_append]
    have rv2 : w2.rv = p :: w.rv := a2.rv
    have up : ∀ b q, b ≠ p → w2.H b = some q → upd w2.H p (.dK (ks.zip vs)) b = some q := fun b q hb z => by rw [upd_ne hb]; exact z
    have tupk : ∀ a xs, SqT w2.K w2.H a xs → SqT w2.K (upd w2.H p (.dK (ks.zip vs))) a xs := fun a xs q => by
      rcases q with (q | ⟨o, q⟩) | q
      · exact .inl (.inl (up _ _ (ne_of q hf.1 (by intro z; cases z)) q))
      · exact .inl (.inr ⟨o, up _ _ (ne_of q hf.1 (by intro z; cases z)) q⟩)
      · exact .inr q
    have bW : Bears w2 ⟨w2.K, w2.m, w2.st, upd w2.H p (.dK (ks.zip vs)), p :: w.rv⟩ := ⟨fun _ _ => rfl, Nat.le_refl _, tupk, fun x o q => ⟨⟨up _ _ (fun z => q.2 (by rw [z, rv2]; exact List.mem_cons_self ..)) q.1.1, q.1.2⟩, by rw [← rv2]; exact q.2⟩⟩
    have cellk : ∀ i c, w2.st[i]? = some c → CellOk ⟨w2.K, w2.m, w2.st, upd w2.H p (.dK (ks.zip vs)), p :: w.rv⟩ (w2.m i) c := fun i c hc => by
      have q := a2.rs.cells i c hc
      by_cases lv : c.live
      · have hne : w2.m i ≠ p := fun z => own2 ⟨i, c, hc, lv, z⟩
        exact cell_bears bW (fun o q _ => up _ _ hne q) (fun xs q => by
          rcases q with ⟨u, q⟩ | q
          · exact .inl ⟨u, up _ _ hne q⟩
          · exact .inr q) rfl q
      · cases c with
        | ro l' =>
          obtain ⟨xs, q1, q2, q3⟩ := q
          refine ⟨xs, ?_, bW.reps _ _ q2, q3⟩
          rcases q1 with ⟨u, q1⟩ | q1
          · exact .inl ⟨u, up _ _ (ne_of q1 hf.1 (by intro z; cases z)) q1⟩
          · exact .inr q1
        | dead => trivial
        | _ => exact absurd trivial lv
    have rsW : RS ⟨w2.K, w2.m, w2.st, upd w2.H p (.dK (ks.zip vs)), p :: w.rv⟩ := ⟨cellk, a2.rs.inj, fun x hx z => by
        by_cases hxp : x = p
        · subst hxp; have z : upd w2.H x (.dK (ks.zip vs)) x = none := z; rw [upd_same] at z; cases z
        · have z : upd w2.H p (.dK (ks.zip vs)) x = none := z
          rw [upd_ne hxp] at z; exact a2.rs.rvs x (by rw [rv2]; exact hx) z, fun x hx => a2.rs.rvo x (by rw [rv2]; exact hx)⟩
    have latW : Aft w ⟨w2.K, w2.m, w2.st, upd w2.H p (.dK (ks.zip vs)), w.rv⟩ := by
      refine ⟨lat2.k, rfl, ⟨fun i c hc => cell_rv (w := ⟨w2.K, w2.m, w2.st, upd w2.H p (.dK (ks.zip vs)), p :: w.rv⟩) hsub (cellk i c hc), a2.rs.inj, fun x hx => rsW.rvs x (hsub x hx), fun x hx => rsW.rvo x (hsub x hx)⟩, lat2.ext, lat2.len, fun a xs q => tupk a xs (lat2.tup a xs q), fun x o q => ?_⟩
      have q' := lat2.fz x o q
      exact ⟨up _ _ (fun z => by rw [z] at q; exact absurd (q.1.symm.trans hp) (by simp)) q'.1, q'.2⟩
    exact h _ latW e2 p vs hp upd_same rsW ((bears_res hp).trans (a2.bears.trans bW)) (bW.reps _ _ rvs) (by rw [hdl, hl])
/-- {..}[k] -/
def eDispGet (ks : List Key) (fs : List (Ev → M D)) (fb : Ev → M D) : Ev → M D := fun env => do
  let ds ← aSeq fs env
  let k ← fb env
  lift fun _ => (keyOf k).bind fun key => valD (ks.zip ds) key
end
end G
end

section
set_option Elab.async false
set_option linter.all false
set_option autoImplicit false
set_option maxRecDepth 100000
set_option maxHeartbeats 1000000
namespace G
open PySem PySem.Spec PyProof.Rows L2
section
variable {X : Cx} {W : XW} {e a b c : Expr} {s : Stmt} {ss : List Stmt} {pos : Pos} {fa fb fc : Ev → M D} {g g' : Ev → M Fl}
theorem de_dispGet {keys : List (Option Expr)} {vals : List Expr} {ks : List Key} {fs : List (Ev → M D)} {dpos : Pos} (hu : X.A.units + 1 < cLine) (hd : DKs X W dpos keys vals ks fs) (hb : DE X W b fb) (hall : keys.all (·.isSome) = true) (hl : keys.length = vals.length) (h0 : keys ≠ []) (h15 : keys.length ≤ 15)
    (hkl : ks.length ≤ 15) (hnd : ks.Nodup) (hs : NoSl b := by intro _ _; rfl) : DE X W (.Subscript (.Dict keys vals dpos) b pos) (eDispGet ks fs fb) := PE.imp' (pe_dget hu (pe_disp hd.1 hall hl h0 h15) hb hs) fun σ H Q h => by
  obtain ⟨w, env, hk, rfl, r, n, h⟩ := h
  refine disp_rd hd.2 hkl hnd hk r n ((Wp.bind h).imp fun ds w2 a2 h2 p vs hp hH rsR bR rvs hdl => ?_)
  have hsub : ∀ x, x ∈ w2.rv → x ∈ (w2.res p).rv := fun x hx => List.mem_cons_of_mem _ hx
  have l2 : Lat w2 (w2.res p) := Aft.refl a2.rs
  refine ⟨w2.res p, env, a2.k.trans hk, rfl, rsR, ⟨n.len, fun i d e => let ⟨v, e1, rr⟩ := n.at_ i d e; ⟨v, e1, bR.rep _ _ rr⟩⟩, ?_⟩
  show Wp (w2.res p) (fb env w2.st) _ _
  have h3 := Wp.bind h2
  cases ek : fb env w2.st with
  | bad => rw [ek] at h3; exact h3.elim
  | err c st' => rw [ek] at h3; exact fun w3 a3 e3 => h3 ⟨w3.K, w3.m, w3.st, w3.H, w2.rv⟩ (lat_after l2 a3 hsub) e3
  | ok y st' =>
    rw [ek] at h3
    intro w3 a3 e3 u ru
    have h4 := Wq.of (w := ⟨w3.K, w3.m, w3.st, w3.H, w2.rv⟩) (h3 ⟨w3.K, w3.m, w3.st, w3.H, w2.rv⟩ (lat_after l2 a3 hsub) e3)
    obtain ⟨d, ed⟩ := wq_some h4
    have hf := a3.fz p _ ⟨hH, rsR.rvo p (List.mem_cons_self ..)⟩
    cases kk : keyOf y with
    | none => rw [kk] at ed; cases ed
    | some key =>
      have ed' := ed
      rw [kk] at ed'
      obtain ⟨v, ev, rv⟩ := valD_rep (repK_zip (ks := ks) (a3.reps rvs)) ed'
      refine ⟨p, v, rfl, by rw [keyOf_rep kk ru, ← ev]; exact DGet.k hf.1, ?_⟩
      exact h4.here (lat_after l2 a3 hsub).rs ed ((bears_rv (w := w3) (fun x hx => by rw [a3.rv]; exact hsub x hx)).rep _ _ rv)
def eNewD (ks : List Key) (fs : List (Ev → M D)) : Ev → M D := fun env => do
  let ds ← aSeq fs env
  newCell (.dct (ks.zip ds))
theorem de_newD {keys : List (Option Expr)} {vals : List Expr} {ks : List Key} {fs : List (Ev → M D)} (hd : DKs X W pos keys vals ks fs) (hall : keys.all (·.isSome) = true) (hl : keys.length = vals.length) (h0 : keys ≠ []) (h15 : keys.length ≤ 15) (hkl : ks.length ≤ 15) (hnd : ks.Nodup) :
    DE X W (.Dict keys vals pos) (eNewD ks fs) := PE.imp' (pe_disp hd.1 hall hl h0 h15) fun σ H Q h => by
  obtain ⟨w, env, hk, rfl, r, n, h⟩ := h
  refine disp_rd hd.2 hkl hnd hk r n ?_
  have h1 : Wp w ((aSeq fs env >>= fun ds => newCell (.dct (ks.zip ds))) w.st) (fun d w' => ∀ v, Rep w' d v → Q v w'.H) (fun c w' => W c σ w'.H) := h
  have h2 : Wp w (M.andThen (aSeq fs env) (fun ds => newCell (.dct (ks.zip ds))) w.st) (fun d w' => ∀ v, Rep w' d v → Q v w'.H) (fun c w' => W c σ w'.H) := h1
  unfold M.andThen at h2
  cases ea : aSeq fs env w.st with
  | bad => rw [ea] at h2; exact h2.elim
  | err c st' => rw [ea] at h2; exact h2
  | ok ds st' =>
    rw [ea] at h2
    intro w2 a2 e2 p vs hp hH rsR bR rvs hdl
    subst e2
    have own2 : ¬ Own w2.m w2.st p := rsR.rvo p (List.mem_cons_self ..)
    -- the dict becomes a cell
    have ownN : ∀ x, Own (mpNew w2.m w2.st.length p) (w2.st ++ [.dct (ks.zip ds)]) x → Own w2.m w2.st x ∨ x = p := fun x z => own_new z
    have bN : Bears (w2.res p) ⟨w2.K, mpNew w2.m w2.st.length p, w2.st ++ [.dct (ks.zip ds)], w2.H, w2.rv⟩ := ⟨fun i hi => mpNew_old hi, by simp [Wd.res], fun _ _ q => q, fun x o q => ⟨⟨q.1.1, fun z => by
      rcases ownN x z with z | z
      · exact q.1.2 z
      · exact q.2 (by rw [z]; exact List.mem_cons_self ..)⟩, fun z => q.2 (List.mem_cons_of_mem _ z)⟩⟩
    have cells : ∀ i c, (w2.st ++ [Cell.dct (ks.zip ds)])[i]? = some c → CellOk ⟨w2.K, mpNew w2.m w2.st.length p, w2.st ++ [.dct (ks.zip ds)], w2.H, w2.rv⟩ (mpNew w2.m w2.st.length p i) c := fun i c hc => by
      rcases at_new hc with ⟨hi, hc⟩ | ⟨hi, hc⟩
      · rw [mpNew_old hi]
        exact cell_bears bN (fun o q _ => q) (fun _ q => q) rfl (rsR.cells i c hc)
      · subst hc hi
        rw [mpNew_new]
        exact ⟨_, hH, repK_zip (bN.reps _ _ rvs)⟩
    have aN : Aft w ⟨w2.K, mpNew w2.m w2.st.length p, w2.st ++ [.dct (ks.zip ds)], w2.H, w2.rv⟩ := by
      refine ⟨a2.k, a2.rv, ⟨cells, fun i j c1 c2 q1 q2 l1 l2 q => ?_, fun x hx => a2.rs.rvs x hx, fun x hx z => ?_⟩, fun i hi => (mpNew_old (Nat.lt_of_lt_of_le hi a2.len)).trans (a2.ext i hi), Nat.le_trans a2.len (by simp), a2.tup, fun x o q => ?_⟩
      · have q : mpNew w2.m w2.st.length p i = mpNew w2.m w2.st.length p j := q
        rcases at_new q1 with ⟨hi, q1⟩ | ⟨hi, q1⟩
        · rw [mpNew_old hi] at q
          rcases at_new q2 with ⟨hj, q2⟩ | ⟨hj, q2⟩
          · rw [mpNew_old hj] at q
            exact a2.rs.inj i j c1 c2 q1 q2 l1 l2 q
          · rw [hj, mpNew_new] at q
            exact absurd ⟨i, c1, q1, l1, q⟩ own2
        · rw [hi, mpNew_new] at q
          rcases at_new q2 with ⟨hj, q2⟩ | ⟨hj, q2⟩
          · rw [mpNew_old hj] at q
            exact absurd ⟨j, c2, q2, l2, q.symm⟩ own2
          · rw [hi, hj]
      · rcases ownN x z with z | z
        · exact a2.rs.rvo x hx z
        · subst z; rw [a2.rv] at hx; exact r.rvs x hx hp
      · have q' := a2.fz x o q
        refine ⟨q'.1, fun z => ?_⟩
        rcases ownN x z with z | z
        · exact q'.2 z
        · subst z; exact absurd (q.1.symm.trans hp) (by simp)
    refine h2 _ aN rfl (.ref p) ?_
    simp only [Rep]
    exact ⟨by rw [mpNew_new], by simp⟩
/-! ## repr of data -/
def reprOk (p : PyData) : Bool := p.showable && decide (p.shown.length ≤ sizeLine) && decide (p.depth ≤ 60) && !p.hasDict
def dRepr : List D → Store → Option D
  | [.tup l], _ => match (D.tup l).data with
    | some p => if reprOk p then some (.str p.shown) else none
    | none => none
  | [.lst l], _ => match (D.lst l).data with
    | some p => if reprOk p then some (.str p.shown) else none
    | none => none
  | [.int i], _ => if i.natAbs.log2 < 1920 then some (.str (toString i)) else none
  | _, _ => none
def rReprD (K : PySem.W.Frag) : List V → Hp → VK → Prop := fun xs H Q => ∃ (x : Addr) (d : PyData), xs = [.ref x] ∧ Dp K H (.ref x) d ∧ reprOk d = true ∧ Q (.str d.shown) H
theorem cr_reprD (hg : X.A.guards = some []) (hu : X.A.units + 64 < cLine) : CallR X (.builtin "repr") (rReprD X.K) := by
  intro pins s σ H xs us Q I rel h
  obtain ⟨x, d, rfl, hd, hok, q⟩ := h
  obtain ⟨u, rfl, rx⟩ := vals1 rel
  cases (show u = Value.ref x from rx)
  obtain ⟨as, rr⟩ := Dp.reads I d (.ref x) (.ref x) hd rfl
  unfold reprOk at hok
  simp only [Bool.and_eq_true, decide_eq_true_eq, Bool.not_eq_true'] at hok
  obtain ⟨⟨⟨h1, h2⟩, h3⟩, h4⟩ := hok
  refine repr_of_reads' (h₀ := s.heap) rr h1 (fun z => by rw [h4] at z; cases z) hg (by omega) (fun _ _ z => z) ?_ h2
  intro h' ut tk keep
  refine ⟨.str d.shown, H, ?_, ⟨_, rfl⟩, q⟩
  exact I.un (Un.kept keep) (I.hok.kept keep)
theorem cd_repr (hg : X.A.guards = some []) (hu : X.A.units + 64 < cLine) : CallD X (.builtin "repr") dRepr := CallR.imp' ((cr_reprD hg hu).or SkE.call_repr_int) fun xs H Q h => by
  obtain ⟨w, ds, hk, rfl, rs, rd, q⟩ := h
  obtain ⟨d, e⟩ := wq_some q
  have e0 := e
  unfold dRepr at e
  split at e
  · rename_i l
    obtain ⟨v, rfl, r⟩ := reps1 rd
    split at e
    · rename_i p ep
      split at e
      · rename_i hok
        have r0 := r
        simp only [Rep] at r
        obtain ⟨x, ys, rfl, _⟩ := r
        exact .inl ⟨x, p, rfl, by rw [← hk]; exact dp_of _ _ p r0 ep, hok, q.here rs (e0.trans e.symm) (rep_str _)⟩
      · cases e
    · cases e
  · rename_i l
    obtain ⟨v, rfl, r⟩ := reps1 rd
    split at e
    · rename_i p ep
      split at e
      · rename_i hok
        have r0 := r
        simp only [Rep] at r
        obtain ⟨x, ys, rfl, _⟩ := r
        exact .inl ⟨x, p, rfl, by rw [← hk]; exact dp_of _ _ p r0 ep, hok, q.here rs (e0.trans e.symm) (rep_str _)⟩
      · cases e
    · cases e
  · rename_i i
    obtain ⟨v, rfl, r⟩ := reps1 rd
    simp only [Rep] at r
    split at e
    · rename_i hc
      exact .inr ⟨i, by rw [r], hc, q.here rs (e0.trans e.symm) (rep_str _)⟩
    · cases e
  · cases e
/-! ## xs[::-1] -/
def dRev : D → Store → Option D
  | .lst l, _ => some (.lst l.reverse)
  | _, _ => none
theorem reps_rev {w : Wd} : ∀ {ds : List D} {vs : List V}, Reps w ds vs → Reps w ds.reverse vs.reverse
  | [], vs, h => by simp only [Reps] at h; subst h; simp [Reps]
  | d :: ds, vs, h => by
    simp only [Reps] at h
    obtain ⟨x, xs, rfl, r, rs⟩ := h
    rw [List.reverse_cons, List.reverse_cons]
    exact reps_app (reps_rev rs) (by simp only [Reps]; exact ⟨x, [], rfl, r, rfl⟩)
theorem de_rev {k : Nat} {p1 p2 p3 : Pos} (ha : DE X W a fa) : DE X W (.Subscript a (.Slice none none (some (.UnaryOp .USub (.Constant (.int 1) k p1) p2)) p3) pos) (eUn dRev fa) := PE.imp' (pe_revL ha) fun σ H Q h => by
  obtain ⟨w, env, hk, rfl, r, n, h⟩ := h
  refine ⟨w, env, hk, rfl, r, n, (Wp.bind h).imp fun x w1 a1 h1 v rv => ?_⟩
  have q := Wq.of h1
  obtain ⟨d, e⟩ := wq_some q
  unfold dRev at e
  split at e
  · rename_i l
    simp only [Rep] at rv
    obtain ⟨x, xs, rfl, sq, rr, hl⟩ := rv
    show ∃ a xs, _ ∧ _ ∧ _
    exact ⟨x, xs, rfl, SqL.of sq.1.1, fun p hp => q.new a1.rs hp rfl (rep_new a1.rs hp (reps_rev rr) (by rw [List.length_reverse]; exact hl))⟩
  · cases e
end
end G
end

section
set_option Elab.async false
set_option linter.all false
set_option autoImplicit false
set_option maxRecDepth 100000
set_option maxHeartbeats 1000000
namespace G
open PySem PySem.Spec PyProof.Rows L2
/-! ## a def by its name -/
structure CalM (P : Program) (w : World) (K : PySem.W.Frag) (mg : Str → Option Value) (base : Heap) (k : Nat) (x : Str) (ps : List Str) (F : List D → M D) : Prop where
  ex : ∃ (f : Addr) (fd : FuncData), mg x = some (.ref f) ∧ PySem.W.keepIn K (.ref f) = true ∧ Binds K fd ps [] ∧ FnM P w K mg base k f fd ps F
theorem calm_zero {P : Program} {w : World} {K : PySem.W.Frag} {mg : Str → Option Value} {base : Heap} {x : Str} {ps : List Str} {f : Addr} {fd : FuncData} (hm : mg x = some (.ref f)) (hk : PySem.W.keepIn K (.ref f) = true) (hb : Binds K fd ps []) : CalM P w K mg base 0 x ps (fun _ => M.stuck) :=
  ⟨f, fd, hm, hk, hb, ⟨fun vs H Q E h => by obtain ⟨_, _, _, _, _, _, _, h⟩ := h; exact h.elim, fun A outer s H args us vs Q E _ _ _ _ _ h => by obtain ⟨_, _, _, _, _, _, _, h⟩ := h; exact h.elim⟩⟩
section
variable {X : Cx} {W : XW} {e a b c : Expr} {pos p : Pos} {fa fb fc : Ev → M D} {k : Nat} {ps : List Str} {x : Str} {es : List Expr}
theorem dcall {F : List D → M D} {fs : List (Ev → M D)} {Wx : WX} (C : CalM X.prog X.w X.K X.mg X.base k x ps F) (hgd : X.A.guards = some []) (hr : Room k X.A) (tk : Takes X Wx) (hW : W = wX X.K Wx) (hg : Gl X x) (ha : DA X W (e :: es) fs) (hl : fs.length = ps.length := by rfl)
    (hdb : (x == ("__debug__" : Str)) = false := by decide) (he : starEach (e :: es) X.env = (false, eval e X.env) :: starEach es X.env := by rfl) (hpl : (backTo pos (starEach es X.env)).any (·.1) = false := by rfl) : DE X W (.Call (.Name x p) (e :: es) [] pos) (eCall F fs) := by
  obtain ⟨f, fd, h1, h2, h3, h4⟩ := C.ex
  exact de_call h4 hgd hr tk hW hg h1 h2 h3 ha hl hdb he hpl
theorem dcall0 {F : List D → M D} {Wx : WX} (C : CalM X.prog X.w X.K X.mg X.base k x [] F) (hgd : X.A.guards = some []) (hr : Room k X.A) (tk : Takes X Wx) (hW : W = wX X.K Wx) (hg : Gl X x) (hdb : (x == ("__debug__" : Str)) = false := by decide) : DE X W (.Call (.Name x p) [] [] pos) (eCall F []) := by
  obtain ⟨f, fd, h1, h2, h3, h4⟩ := C.ex
  exact de_call0 h4 hgd hr tk hW hg h1 h2 h3 hdb
/-- the name in the i-th slot -/
theorem dv (i : Nat) (hN : X.N[i]? = some x := by rfl) (hv : Vis X.env.scope x := by first | exact Or.inl rfl | exact Or.inr (Or.inl rfl) | exact Or.inr (Or.inr rfl)) (hd : (x == ("__debug__" : Str)) = false := by decide) (hcd : (x == ("__classdict__" : Str)) = false := by decide) : DE X W (.Name x pos) (eVar i) := de_var i hN hv hd hcd
/-- a list's cell is given up -/
def freeL : D → M D := fun d st => match d with
  | .cell c => match st[c]? with
    | some (.lst l) => .ok (.lst l) (st.set c .dead)
    | _ => .bad
  | _ => .bad
def eFree (f : Ev → M D) : Ev → M D := fun env => do
  let d ← f env
  freeL d
theorem de_free (h : DE X W e fa) : DE X W e (eFree fa) := PE.imp' h fun σ H Q h => by
  obtain ⟨w, env, hk, rfl, r, n, h⟩ := h
  refine ⟨w, env, hk, rfl, r, n, (Wp.bind h).imp fun d w1 a1 h1 v rv => ?_⟩
  unfold freeL at h1
  split at h1
  · rename_i c
    split at h1
    · rename_i l el
      obtain ⟨a2, v2, r2, e2⟩ := aft_free (K := w1.K) (m := w1.m) (st := w1.st) (H := w1.H) (rv := w1.rv) a1.rs el
      simp only [Rep] at rv
      subst e2
      rw [rv.1]
      exact h1 _ a2 rfl _ r2
    · exact h1.elim
  · exact h1.elim
theorem room65 {A : Around} {n : Nat} (r : Room n A) : A.units + 65 < cLine := by have := r.un; omega
theorem room1 {A : Around} {n : Nat} (r : Room n A) : A.units + 1 < cLine := by have := r.un; omega
end
/-! ## the frame of a proof: the defs of a text by an index -/
structure Facts (ι : Type) (nm : ι → Str) (st : ι → Stmt) (free : List Str) (K : PySem.W.Frag) (mg : Str → Option Value) : Prop where
  mgf : ∀ i, mg (nm i) = some (.ref (He.ga K (nm i)))
  fd : ∀ i, ∃ fd, FunD K (nm i) (nm i) (defArgs (st i)) (defBody (st i)) (defScope (st i)) [] [] (He.ga K (nm i)) fd
  fr : ∀ x ∈ free, mg x = none
theorem calm_of {ι : Type} {nm : ι → Str} {st : ι → Stmt} {free : List Str} {P : Program} {w : World} {K : PySem.W.Frag} {mg : Str → Option Value} {base : Heap} {k : Nat} {N ps : List Str} {g : Ev → M Fl} (T : Facts ι nm st free K mg) (i : ι) (S : FnScope N ps (defScope (st i))) (hN : ps.length ≤ N.length)
    (hbd : ∀ fd, FunD K (nm i) (nm i) (defArgs (st i)) (defBody (st i)) (defScope (st i)) [] [] (He.ga K (nm i)) fd → Binds K fd ps [])
    (hb : ∀ (cdv : Value) (A : Around) (outer : List Env) (s : Shared) (H : Hp) (E : XK), A.guards = some [] → Room k (A.deeper (envOfC (nm i) (defScope (st i)) s.heap.objs.size (He.ga K (nm i)) cdv)) →
      DSs (cxOf (L2.CX P w) P w K mg base N (nm i) (defScope (st i)) (He.ga K (nm i)) cdv A outer s H E) (wE K E) (defBody (st i)) g) : CalM P w K mg base (k + 1) (nm i) ps (runF N.length g) := by
  obtain ⟨fd, FD⟩ := T.fd i
  exact ⟨_, fd, T.mgf i, FD.kp, hbd fd FD, fnm_of FD S hN hb⟩
/-! ## == of two texts -/
def dEqS : D → D → Store → Option D
  | .str x, .str y, _ => some (.bl (x == y))
  | _, _, _ => none
def dNeS : D → D → Store → Option D
  | .str x, .str y, _ => some (.bl (!(x == y)))
  | _, _, _ => none
theorem od_eqS {X : Cx} : OpD X (compareOp .Eq) dEqS := OpR.imp' op_eq fun x y H Q h => by
  obtain ⟨w, a, b, hk, rfl, rs, ra, rb, q⟩ := h
  obtain ⟨d, e⟩ := wq_some q
  unfold dEqS at e
  split at e
  · rename_i u v
    cases e
    simp only [Rep] at ra rb
    subst ra; subst rb
    refine ⟨rfl, ?_⟩
    rw [dec_str]
    exact q.here rs rfl (rep_bl _)
  · cases e
theorem od_neS {X : Cx} : OpD X (compareOp .NotEq) dNeS := OpR.imp' op_ne fun x y H Q h => by
  obtain ⟨w, a, b, hk, rfl, rs, ra, rb, q⟩ := h
  obtain ⟨d, e⟩ := wq_some q
  unfold dNeS at e
  split at e
  · rename_i u v
    cases e
    simp only [Rep] at ra rb
    subst ra; subst rb
    refine ⟨rfl, ?_⟩
    rw [dec_str]
    exact q.here rs rfl (rep_bl _)
  · cases e
end G
end

section
set_option Elab.async false
set_option linter.all false
set_option maxRecDepth 100000
set_option maxHeartbeats 1000000
namespace G
open PySem PySem.Spec PyProof.Rows L2
/-! ## how the readings compute -/
def Res.bnd {α β : Type} (r : Res α) (f : α → M β) : Res β := match r with
  | .ok a st => f a st
  | .err c st => .err c st
  | .bad => .bad
def Res.sb {α : Type} (r : Res α) (env : Ev) (k : α → M Fl) : Res Fl := match r with
  | .ok a st => k a st
  | .err c st => .ok (.exc c env) st
  | .bad => .bad
def Res.noe {α : Type} (r : Res α) : Res α := match r with
  | .ok a st => .ok a st
  | _ => .bad
def lif (o : Option D) (st : Store) : Res D := match o with
  | some d => .ok d st
  | none => .bad
def nxt (g' : Ev → M Fl) : Fl → M Fl
  | .nx e => g' e
  | other => pure other
section
variable {α β : Type} {env : Ev} {st : Store} {fa fb fc : Ev → M D} {g g' : Ev → M Fl} {fs : List (Ev → M D)}
@[simp] theorem bnd_ok (a : α) (st : Store) (f : α → M β) : (Res.ok a st).bnd f = f a st := rfl
@[simp] theorem bnd_err (c : Str) (st : Store) (f : α → M β) : (Res.err c st).bnd f = .err c st := rfl
@[simp] theorem sb_ok (a : α) (st : Store) (env : Ev) (f : α → M Fl) : (Res.ok a st).sb env f = f a st := rfl
@[simp] theorem sb_err (c : Str) (st : Store) (env : Ev) (f : α → M Fl) : (Res.err c st).sb env f = .ok (.exc c env) st := rfl
@[simp] theorem noe_ok (a : α) (st : Store) : (Res.ok a st).noe = .ok a st := rfl
@[simp] theorem lif_some (d : D) (st : Store) : lif (some d) st = .ok d st := rfl
@[simp] theorem nxt_nx (e : Ev) : nxt g' (.nx e) = g' e := rfl
@[simp] theorem nxt_ret (d : D) : nxt g' (.ret d) st = .ok (.ret d) st := rfl
@[simp] theorem nxt_exc (c : Str) (e : Ev) : nxt g' (.exc c e) st = .ok (.exc c e) st := rfl
@[simp] theorem bind_app (x : M α) (f : α → M β) (st : Store) : (x >>= f) st = (x st).bnd f := rfl
@[simp] theorem pure_app' (a : α) (st : Store) : (pure a : M α) st = .ok a st := rfl
@[simp] theorem noErr_app (x : M α) (st : Store) : noErr x st = (x st).noe := rfl
@[simp] theorem stx_app (x : M α) (env : Ev) (k : α → M Fl) (st : Store) : stx x env k st = (x st).sb env k := rfl
@[simp] theorem lift_app (o : Store → Option D) (st : Store) : lift o st = lif (o st) st := by unfold lift lif; cases o st <;> rfl
@[simp] theorem sSeq_app : sSeq g g' env st = (g env st).bnd (nxt g') := by
  show (g env >>= _) st = _
  rw [bind_app]
  congr 1
@[simp] theorem sRet_app : sRet fa env st = (fa env st).sb env fun d st => .ok (.ret d) st := rfl
@[simp] theorem sNop_app : sNop env st = .ok (.nx env) st := rfl
@[simp] theorem sExpr_app : sExpr fa env st = (fa env st).sb env fun _ st => .ok (.nx env) st := rfl
@[simp] theorem sIf_app {t : Ev → M Bool} : sIf t g g' env st = (t env st).sb env fun b => if b = true then g env else g' env := rfl
@[simp] theorem sAsg_app {i : Nat} : sAsg i fa env st = (fa env st).sb env fun d st => .ok (.nx (env.set i (some d))) st := rfl
@[simp] theorem sPar_app {i j : Nat} : sPar i j fa fb env st = (fa env st).sb env fun d st => (fb env st).sb env fun e st => .ok (.nx ((env.set i (some d)).set j (some e))) st := rfl
@[simp] theorem sFor_app {fi : Ev → M (List D)} {tg : D → Ev → Option Ev} : sFor fi tg g env st = (fi env st).sb env fun l => forGo tg g l env := rfl
@[simp] theorem sAsgT_app {tg : D → Ev → M Ev} : sAsgT fa tg env st = (fa env st).sb env fun d st => (tg d env st).sb env fun e st => .ok (.nx e) st := rfl
@[simp] theorem sPutK_app : sPutK fa fb fc env st = (fc env st).sb env fun d st => (fa env st).sb env fun o st => (fb env st).sb env fun i st => (putKey o i d st).sb env fun _ st => .ok (.nx env) st := rfl
@[simp] theorem eC_app (d : D) : eC d env st = .ok d st := rfl
@[simp] theorem eVar_at (i : Nat) {d : D} (h : env[i]? = some (some d)) : eVar i env st = .ok d st := by unfold eVar; rw [h]
@[simp] theorem eOp_app {g : D → D → Store → Option D} : eOp g fa fb env st = (fa env st).bnd fun x st => (fb env st).bnd fun y st => lif (g x y st) st := by
  show (fa env >>= _) st = _
  simp only [bind_app, lift_app]
  congr 1
@[simp] theorem eUn_app {g : D → Store → Option D} : eUn g fa env st = (fa env st).bnd fun x st => lif (g x st) st := by
  show (fa env >>= _) st = _
  simp only [bind_app]
  congr 1
@[simp] theorem asB_bl (b : Bool) : asB (.bl b) st = .ok b st := rfl
@[simp] theorem asI_int (b : Int) : asI (.int b) st = .ok b st := rfl
@[simp] theorem tVal_app : tVal fa env st = (fa env st).bnd asB := rfl
@[simp] theorem tNot_app {t : Ev → M Bool} : tNot' t env st = (t env st).bnd fun b st => .ok (!b) st := rfl
@[simp] theorem tAnd_app {t u : Ev → M Bool} : tAnd' t u env st = (t env st).bnd fun b => if b = true then u env else fun st => .ok false st := rfl
@[simp] theorem tOr_app {t u : Ev → M Bool} : tOr' t u env st = (t env st).bnd fun b => if b = true then fun st => .ok true st else u env := rfl
@[simp] theorem aSeq_nil : aSeq [] env st = .ok [] st := rfl
@[simp] theorem aSeq_cons (f : Ev → M D) : aSeq (f :: fs) env st = (f env st).bnd fun d st => (aSeq fs env st).bnd fun ds st => .ok (d :: ds) st := rfl
@[simp] theorem eCall_app {F : List D → M D} : eCall F fs env st = (aSeq fs env st).bnd F := rfl
@[simp] theorem eB_app {g : List D → Store → Option D} : eB g fs env st = (aSeq fs env st).bnd fun ds st => lif (g ds st) st := by
  show (aSeq fs env >>= _) st = _
  simp only [bind_app]
  congr 1
@[simp] theorem eTup_app : eTup fs env st = (aSeq fs env st).bnd fun ds st => .ok (.tup ds) st := rfl
@[simp] theorem eLst_app : eLst fs env st = (aSeq fs env st).bnd fun ds st => .ok (.lst ds) st := rfl
@[simp] theorem eNewL_app : eNewL fs env st = (aSeq fs env st).bnd fun ds st => .ok (.cell st.length) (st ++ [.lst ds]) := rfl
@[simp] theorem eNewD_app {ks : List Key} : eNewD ks fs env st = (aSeq fs env st).bnd fun ds st => .ok (.cell st.length) (st ++ [.dct (ks.zip ds)]) := rfl
@[simp] theorem iSeq_app : iSeq fa env st = (fa env st).bnd items := rfl
@[simp] theorem items_tup (l : List D) : items (.tup l) st = .ok l st := rfl
@[simp] theorem items_lst (l : List D) : items (.lst l) st = .ok l st := rfl
theorem iRange_at {i : Int} {st' : Store} (h : fa env st = .ok (.int i) st') (h1 : i ≤ 16777216) (h2 : 0 ≤ i) : iRange fa env st = .ok (rangeD i.toNat) st' := by
  show (fa env >>= _) st = _
  rw [bind_app, h, bnd_ok, bind_app, asI_int, bnd_ok, if_pos ⟨h1, by omega⟩]
  rfl
@[simp] theorem eDispGet_app {ks : List Key} : eDispGet ks fs fb env st = (aSeq fs env st).bnd fun ds st => (fb env st).bnd fun k st => lif ((keyOf k).bind fun key => valD (ks.zip ds) key) st := by
  show (aSeq fs env >>= _) st = _
  simp only [bind_app]
  congr 1
@[simp] theorem gtName_app {i : Nat} {d : D} : gtName i d env st = .ok (env.set i (some d)) st := rfl
@[simp] theorem gtSub_app {d : D} : gtSub fa fb d env st = (fa env st).bnd fun o st => (fb env st).bnd fun i st => (putIdx o i d st).bnd fun _ st => .ok env st := rfl
@[simp] theorem gtPair_app {t1 t2 : D → Ev → M Ev} {a b : D} : gtPair t1 t2 (.tup [a, b]) env st = (t1 a env st).bnd fun e1 => t2 b e1 := rfl
@[simp] theorem pNo_app : pNo env st = .ok none st := rfl
@[simp] theorem pAt_app : pAt fa env st = (fa env st).bnd fun d st => (asI d st).bnd fun i st => .ok (some i) st := rfl
@[simp] theorem eSl_app {fl fh : Ev → M (Option Int)} : eSl fa fl fh env st = (fa env st).bnd fun d st => (fl env st).bnd fun lo st => (fh env st).bnd fun hi st => lif (dSl lo hi d st) st := by
  show (fa env >>= _) st = _
  simp only [bind_app]
  congr 1
@[simp] theorem eIf_app {t : Ev → M Bool} : eIf t fa fb env st = (t env st).bnd fun b => if b = true then fa env else fb env := rfl
@[simp] theorem dLt_int {i j : Int} : dLt (.int i) (.int j) st = some (.bl (decide (i < j))) := rfl
@[simp] theorem dLe_int {i j : Int} : dLe (.int i) (.int j) st = some (.bl (decide (i ≤ j))) := rfl
@[simp] theorem dGt_int {i j : Int} : dGt (.int i) (.int j) st = some (.bl (decide (j < i))) := rfl
@[simp] theorem dGe_int {i j : Int} : dGe (.int i) (.int j) st = some (.bl (decide (j ≤ i))) := rfl
@[simp] theorem dAdd_int {i j : Int} : dAdd (.int i) (.int j) st = some (.int (i + j)) := rfl
@[simp] theorem dSub_int {i j : Int} : dSub (.int i) (.int j) st = some (.int (i - j)) := rfl
@[simp] theorem dNeg_int {i : Int} : dNeg (.int i) st = some (.int (-i)) := rfl
theorem beq_decide (i j : Int) : (i == j) = decide (i = j) := rfl
@[simp] theorem dEq_int {i j : Int} : dEq (.int i) (.int j) st = some (.bl (decide (i = j))) := rfl
@[simp] theorem dNe_int {i j : Int} : dNe (.int i) (.int j) st = some (.bl (!decide (i = j))) := rfl
theorem mulOk_of {i j : Int} {a b : Nat} (h1 : i.natAbs < 2 ^ a) (h2 : j.natAbs < 2 ^ b) (h : a + b ≤ 1000000) (hp : 0 < a ∨ 0 < b) : mulOk i j = true := by
  have l1 : i.natAbs.log2 ≤ a := by
    by_cases z : i.natAbs = 0
    · rw [z]; exact Nat.zero_le _
    · exact Nat.le_of_lt ((Nat.log2_lt z).mpr h1)
  have l2 : j.natAbs.log2 ≤ b := by
    by_cases z : j.natAbs = 0
    · rw [z]; exact Nat.zero_le _
    · exact Nat.le_of_lt ((Nat.log2_lt z).mpr h2)
  have l3 : 0 < a → i.natAbs.log2 < a := fun ha => by
    by_cases z : i.natAbs = 0
    · rw [z]; exact ha
    · exact (Nat.log2_lt z).mpr h1
  have l4 : 0 < b → j.natAbs.log2 < b := fun ha => by
    by_cases z : j.natAbs = 0
    · rw [z]; exact ha
    · exact (Nat.log2_lt z).mpr h2
  unfold mulOk
  refine decide_eq_true ?_
  rcases hp with hp | hp
  · have := l3 hp; omega
  · have := l4 hp; omega
theorem dMul_of {i j : Int} (h : mulOk i j = true) : dMul (.int i) (.int j) st = some (.int (i * j)) := by simp only [dMul, if_pos h]
theorem dMod_of {i j : Int} (h : 0 < j) : dMod (.int i) (.int j) st = some (.int (i % j)) := by simp only [dMod, if_pos h]
theorem dDiv_of {i j : Int} (h : divOk j = true) : dDiv (.int i) (.int j) st = some (.int (i / j)) := by simp only [dDiv, if_pos h]
theorem dDivmod_of {i j : Int} (h : divOk j = true) : dDivmod [.int i, .int j] st = some (.tup [.int (i / j), .int (i % j)]) := by simp only [dDivmod, if_pos h]
end
/-! ## loops -/
section
variable {env : Ev} {st : Store} {fe : Ev → M D}
theorem eComp_of {vs : List Nat} {fi : Ev → M (List D)} {tg : D → Ev → Option Ev} {tt : Ev → M Bool} {l ds : List D} {st1 st2 : Store} (h1 : fi env st = .ok l st1) (h2 : compGo tg tt fe (evWipe env vs) l [] st1 = .ok ds st2) : eComp vs fi tg tt fe env st = .ok (.lst ds) st2 := by
  show (fi env >>= _) st = _
  rw [bind_app, h1, bnd_ok, bind_app, h2, bnd_ok]
  rfl
theorem compGo_inv {i : Nat} (I : Store → Prop) (P : D → Prop) : ∀ (l : List D) (acc : List D) (st : Store), (∀ d ∈ l, ∀ st, I st → ∃ y st', fe (env.set i (some d)) st = .ok y st' ∧ I st' ∧ P y) → I st →
    ∃ ys st', compGo (tgName i) (fun _ => pure true) fe env l acc st = .ok (acc ++ ys) st' ∧ I st' ∧ ys.length = l.length ∧ ∀ y ∈ ys, P y
  | [], acc, st, _, hi => ⟨[], st, by simp [compGo], hi, rfl, by simp⟩
  | d :: l, acc, st, h, hi => by
    obtain ⟨y, st1, e1, i1, p1⟩ := h d (by simp) st hi
    obtain ⟨ys, st2, e2, i2, hl, p2⟩ := compGo_inv I P l (acc ++ [y]) st1 (fun d hd => h d (by simp [hd])) i1
    refine ⟨y :: ys, st2, ?_, i2, by simp [hl], ?_⟩
    · unfold compGo
      simp only [tgName, bind_app, noErr_app, pure_app', noe_ok, bnd_ok, if_pos, e1]
      rw [e2]
      simp
    · intro z hz
      rcases List.mem_cons.mp hz with rfl | hz
      · exact p1
      · exact p2 z hz
theorem compGo_map {i : Nat} (f : D → D) : ∀ (l : List D) (acc : List D), (∀ d ∈ l, fe (env.set i (some d)) st = .ok (f d) st) → compGo (tgName i) (fun _ => pure true) fe env l acc st = .ok (acc ++ l.map f) st
  | [], acc, _ => by simp [compGo]
  | d :: l, acc, h => by
    have e1 := h d (by simp)
    have e2 := compGo_map f l (acc ++ [f d]) (fun d hd => h d (by simp [hd]))
    unfold compGo
    simp only [tgName, bind_app, noErr_app, pure_app', noe_ok, bnd_ok, if_pos, e1]
    rw [e2]
    simp
theorem pick {α β : Type} [Inhabited β] [DecidableEq α] {l : List α} {R : α → β → Prop} (h : ∀ d ∈ l, ∃ y, R d y) : ∃ f : α → β, ∀ d ∈ l, R d (f d) := by
  classical
  refine ⟨fun d => if hd : d ∈ l then Classical.choose (h d hd) else default, fun d hd => ?_⟩
  simp only [dif_pos hd]
  exact Classical.choose_spec (h d hd)
theorem pickD {β : Type} [Inhabited β] {l : List D} {R : D → β → Prop} (h : ∀ d ∈ l, ∃ y, R d y) : ∃ f : D → β, ∀ d ∈ l, R d (f d) := by
  classical
  exact pick h
theorem bools_map (l : List D) (f : D → Bool) : bools? (l.map fun d => D.bl (f d)) = some (l.map f) := by
  induction l with
  | nil => rfl
  | cons d l ih => simp only [List.map_cons, bools?, ih]; rfl
theorem ints_map (l : List D) (f : D → Int) : ints? (l.map fun d => D.int (f d)) = some (l.map f) := by
  induction l with
  | nil => rfl
  | cons d l ih => simp only [List.map_cons, ints?, ih]; rfl
theorem ints_map' (l : List Int) : ints? (l.map D.int) = some l := by
  induction l with
  | nil => rfl
  | cons d l ih => simp only [List.map_cons, ints?, ih]; rfl
/-- a loop that looks at each item and stops at the first bad one -/
theorem forGo_all {i : Nat} {g : Ev → M Fl} (J : Ev → Prop) (f : D → Bool) {r : D} : ∀ (l : List D) (env : Ev), J env → (∀ d ∈ l, ∀ env, J env → ∃ env', J env' ∧ g (env.set i (some d)) st = .ok (if f d = true then .nx env' else .ret r) st) →
    ∃ env', J env' ∧ forGo (tgName i) g l env st = .ok (if l.all f = true then .nx env' else .ret r) st
  | [], env, j, _ => ⟨env, j, by simp [forGo]⟩
  | d :: l, env, j, h => by
    obtain ⟨e1, j1, h1⟩ := h d (by simp) env j
    obtain ⟨e2, j2, h2⟩ := forGo_all J f l e1 j1 (fun d hd => h d (by simp [hd]))
    refine ⟨e2, j2, ?_⟩
    unfold forGo
    simp only [tgName, bind_app, h1, bnd_ok]
    by_cases q : f d = true
    · simp only [q, if_true, List.all_cons, Bool.true_and]; exact h2
    · simp [q]
/-- a loop with an invariant that ends no sooner -/
theorem forGo_inv {i : Nat} {g : Ev → M Fl} : ∀ (l : List D) (I : Nat → Ev → Store → Prop) (env : Ev) (st : Store), I 0 env st → (∀ k d, l[k]? = some d → ∀ env st, I k env st → ∃ env' st', I (k + 1) env' st' ∧ g (env.set i (some d)) st = .ok (.nx env') st') →
    ∃ env' st', I l.length env' st' ∧ forGo (tgName i) g l env st = .ok (.nx env') st'
  | [], I, env, st, h0, _ => ⟨env, st, h0, by simp [forGo]⟩
  | d :: l, I, env, st, h0, h => by
    obtain ⟨e1, s1, i1, h1⟩ := h 0 d rfl env st h0
    obtain ⟨e2, s2, i2, h2⟩ := forGo_inv l (fun k => I (k + 1)) e1 s1 i1 (fun k d' hd => h (k + 1) d' hd)
    refine ⟨e2, s2, i2, ?_⟩
    unfold forGo
    simp only [tgName, bind_app, h1, bnd_ok]
    exact h2
end
end G
end

section
set_option Elab.async false
set_option linter.all false
set_option maxRecDepth 100000
set_option maxHeartbeats 1000000
namespace G
open PySem PySem.Spec PyProof.Rows L2
/-! ## plain data of a bounded depth -/
def Sh (L : Nat) : Nat → D → Prop
  | _, .non => True
  | _, .bl _ => True
  | _, .int _ => True
  | _, .str x => PyData.strOk x = true
  | k + 1, .tup l => l.length ≤ L ∧ ∀ x ∈ l, Sh L k x
  | k + 1, .lst l => l.length ≤ L ∧ ∀ x ∈ l, Sh L k x
  | _, _ => False
theorem Sh.mono {L L' : Nat} (hL : L ≤ L') : ∀ {k k' : Nat} {d : D}, k ≤ k' → Sh L k d → Sh L' k' d
  | _, _, .non, _, _ => by simp [Sh]
  | _, _, .bl _, _, _ => by simp [Sh]
  | _, _, .int _, _, _ => by simp [Sh]
  | _, _, .str x, _, h => by simpa [Sh] using h
  | 0, _, .tup l, _, h => by simp [Sh] at h
  | 0, _, .lst l, _, h => by simp [Sh] at h
  | k + 1, 0, .tup l, hk, h => absurd hk (by omega)
  | k + 1, 0, .lst l, hk, h => absurd hk (by omega)
  | k + 1, k' + 1, .tup l, hk, h => by
    simp only [Sh] at h ⊢
    exact ⟨Nat.le_trans h.1 hL, fun x hx => Sh.mono hL (by omega) (h.2 x hx)⟩
  | k + 1, k' + 1, .lst l, hk, h => by
    simp only [Sh] at h ⊢
    exact ⟨Nat.le_trans h.1 hL, fun x hx => Sh.mono hL (by omega) (h.2 x hx)⟩
  | _, _, .cell _, _, h => by simp [Sh] at h
  | _, _, .dct0, _, h => by simp [Sh] at h
  | _, _, .exc _, _, h => by simp [Sh] at h
theorem sh_list {k : Nat} : ∀ (l : List D), (∀ x ∈ l, ∃ p, x.data = some p ∧ p.canLay0 = true ∧ p.depth ≤ k ∧ p.hasDict = false) → ∃ ps, D.datas l = some ps ∧ PyData.canLayAll0 ps = true ∧ PyData.depthAll ps ≤ k ∧ PyData.hasDictAll ps = false
  | [], _ => ⟨[], by simp [D.datas], by simp [PyData.canLayAll0], by simp [PyData.depthAll], by simp [PyData.hasDictAll]⟩
  | x :: l, h => by
    obtain ⟨p, e, c, q, z⟩ := h x (by simp)
    obtain ⟨ps, es, cs, qs, zs⟩ := sh_list l fun y hy => h y (by simp [hy])
    refine ⟨p :: ps, by simp only [D.datas, e, es], by simp only [PyData.canLayAll0, c, cs, Bool.and_self], ?_, by simp only [PyData.hasDictAll, z, zs, Bool.or_self]⟩
    simp only [PyData.depthAll]
    omega
theorem Sh.data {L : Nat} : ∀ {k : Nat} {d : D}, Sh L k d → ∃ p, d.data = some p ∧ p.canLay0 = true ∧ p.depth ≤ k ∧ p.hasDict = false
  | _, .non, _ => ⟨_, rfl, rfl, Nat.zero_le _, rfl⟩
  | _, .bl _, _ => ⟨_, rfl, rfl, Nat.zero_le _, rfl⟩
  | _, .int _, _ => ⟨_, rfl, rfl, Nat.zero_le _, rfl⟩
  | _, .str x, h => ⟨_, rfl, by simpa [Sh, PyData.canLay0] using h, Nat.zero_le _, rfl⟩
  | 0, .tup l, h => by simp [Sh] at h
  | 0, .lst l, h => by simp [Sh] at h
  | k + 1, .tup l, h => by
    simp only [Sh] at h
    obtain ⟨ps, e, c, q, z⟩ := sh_list l fun x hx => Sh.data (h.2 x hx)
    exact ⟨.tuple ps, by simp [D.data, e], by simpa [PyData.canLay0] using c, by simp only [PyData.depth]; omega, by simpa [PyData.hasDict] using z⟩
  | k + 1, .lst l, h => by
    simp only [Sh] at h
    obtain ⟨ps, e, c, q, z⟩ := sh_list l fun x hx => Sh.data (h.2 x hx)
    exact ⟨.list ps, by simp [D.data, e], by simpa [PyData.canLay0] using c, by simp only [PyData.depth]; omega, by simpa [PyData.hasDict] using z⟩
  | _, .cell _, h => by simp [Sh] at h
  | _, .dct0, h => by simp [Sh] at h
  | _, .exc _, h => by simp [Sh] at h
theorem Sh.shaped {L k : Nat} {d : D} (h : Sh L k d) (hk : k ≤ 64) : ∃ p, d.data = some p ∧ SeqAt.shaped p = true := by
  obtain ⟨p, e, c, q, _⟩ := h.data
  exact ⟨p, e, by simp only [SeqAt.shaped, c, Bool.true_and, decide_eq_true_eq]; omega⟩
/-- is d the text x? -/
def isW (d : D) (x : Str) : Bool := match d with
  | .str y => y == x
  | _ => false
theorem eqv_str {L k : Nat} {d : D} {p : PyData} {x : Str} (h : Sh L k d) (e : d.data = some p) : PyData.eqv p (.str x) = isW d x := by
  cases d with
  | tup l => simp only [D.data] at e; cases q : D.datas l with
    | none => rw [q] at e; cases e
    | some ps => rw [q] at e; cases e; rfl
  | lst l => simp only [D.data] at e; cases q : D.datas l with
    | none => rw [q] at e; cases e
    | some ps => rw [q] at e; cases e; rfl
  | non => cases e; rfl
  | bl b => cases e; rfl
  | int i => cases e; rfl
  | str y => cases e; rfl
  | cell _ => cases e
  | dct0 => cases e
  | exc _ => cases e
theorem beq_str_comm (x y : Str) : (x == y) = (y == x) := by
  by_cases h : x = y
  · subst h; rfl
  · have h2 : ¬ y = x := fun e => h e.symm
    rw [show (x == y) = false from by simpa using h, show (y == x) = false from by simpa using h2]
theorem eqv_str' {L k : Nat} {d : D} {p : PyData} {x : Str} (h : Sh L k d) (e : d.data = some p) : PyData.eqv (.str x) p = isW d x := by
  cases d with
  | tup l => simp only [D.data] at e; cases q : D.datas l with
    | none => rw [q] at e; cases e
    | some ps => rw [q] at e; cases e; rfl
  | lst l => simp only [D.data] at e; cases q : D.datas l with
    | none => rw [q] at e; cases e
    | some ps => rw [q] at e; cases e; rfl
  | non => cases e; rfl
  | bl b => cases e; rfl
  | int i => cases e; rfl
  | str y => cases e; exact beq_str_comm _ _
  | cell _ => cases e
  | dct0 => cases e
  | exc _ => cases e
theorem shaped_str {x : Str} (h : PyData.strOk x = true) : SeqAt.shaped (.str x) = true := by
  simp only [SeqAt.shaped, PyData.canLay0, h, PyData.depth]; rfl
section
variable {L k : Nat} {d : D} {st : Store}
theorem dEq_w {x : Str} (h : Sh L k d) (hk : k ≤ 64) (hx : PyData.strOk x = true) : dEq d (.str x) st = some (.bl (isW d x)) := by
  obtain ⟨p, e, s⟩ := h.shaped hk
  simp only [dEq, eqD, e, D.data, s, shaped_str hx, Bool.and_self, if_true, Option.map_some, eqv_str h e]
theorem dNe_w {x : Str} (h : Sh L k d) (hk : k ≤ 64) (hx : PyData.strOk x = true) : dNe d (.str x) st = some (.bl (!isW d x)) := by
  obtain ⟨p, e, s⟩ := h.shaped hk
  simp only [dNe, eqD, e, D.data, s, shaped_str hx, Bool.and_self, if_true, Option.map_some, eqv_str h e]
def strsD (xs : List Str) : List D := xs.map .str
theorem datas_strs : ∀ xs : List Str, D.datas (xs.map D.str) = some (xs.map PyData.str)
  | [] => rfl
  | x :: xs => by simp only [List.map_cons, D.datas, D.data, datas_strs xs]
theorem canLay_strs : ∀ xs : List Str, xs.all PyData.strOk = true → PyData.canLayAll0 (xs.map PyData.str) = true
  | [], _ => rfl
  | x :: xs, h => by
    simp only [List.all_cons, Bool.and_eq_true] at h
    simp only [List.map_cons, PyData.canLayAll0, PyData.canLay0, h.1, canLay_strs xs h.2, Bool.and_self]
theorem depth_strs : ∀ xs : List Str, PyData.depthAll (xs.map PyData.str) = 0
  | [] => rfl
  | x :: xs => by simp only [List.map_cons, PyData.depthAll, PyData.depth, depth_strs xs]; rfl
theorem inD_strs {xs : List Str} (h : Sh L k d) (hk : k ≤ 64) (hx : xs.all PyData.strOk = true) : inD d (.tup (xs.map D.str)) = some (xs.any fun x => isW d x) := by
  obtain ⟨p, e, s⟩ := h.shaped hk
  have s2 : SeqAt.shaped (.tuple (xs.map PyData.str)) = true := by
    simp only [SeqAt.shaped, PyData.canLay0, canLay_strs xs hx, PyData.depth, depth_strs]; rfl
  simp only [inD, e, D.data, datas_strs, Option.map_some, s, s2, Bool.and_self, if_true, List.any_map]
  congr 2
  funext x
  exact eqv_str' h e
theorem inD_strsL {xs : List Str} (h : Sh L k d) (hk : k ≤ 64) (hx : xs.all PyData.strOk = true) : inD d (.lst (xs.map D.str)) = some (xs.any fun x => isW d x) := by
  obtain ⟨p, e, s⟩ := h.shaped hk
  have s2 : SeqAt.shaped (.list (xs.map PyData.str)) = true := by
    simp only [SeqAt.shaped, PyData.canLay0, canLay_strs xs hx, PyData.depth, depth_strs]; rfl
  simp only [inD, e, D.data, datas_strs, Option.map_some, s, s2, Bool.and_self, if_true, List.any_map]
  congr 2
  funext x
  exact eqv_str' h e
theorem dIn_2 {x y : Str} (h : Sh L k d) (hk : k ≤ 64) (hx : [x, y].all PyData.strOk = true) : dIn d (.tup [.str x, .str y]) st = some (.bl (isW d x || isW d y)) := by
  have e := inD_strs h hk hx
  simp only [List.map_cons, List.map_nil, List.any_cons, List.any_nil, Bool.or_false] at e
  simp only [dIn, e, Option.map_some]
theorem dNotIn_2L {x y : Str} (h : Sh L k d) (hk : k ≤ 64) (hx : [x, y].all PyData.strOk = true) : dNotIn d (.lst [.str x, .str y]) st = some (.bl (!(isW d x || isW d y))) := by
  have e := inD_strsL h hk hx
  simp only [List.map_cons, List.map_nil, List.any_cons, List.any_nil, Bool.or_false] at e
  simp only [dNotIn, e, Option.map_some]
theorem dNotIn_3L {x y z : Str} (h : Sh L k d) (hk : k ≤ 64) (hx : [x, y, z].all PyData.strOk = true) : dNotIn d (.lst [.str x, .str y, .str z]) st = some (.bl (!(isW d x || (isW d y || isW d z)))) := by
  have e := inD_strsL h hk hx
  simp only [List.map_cons, List.map_nil, List.any_cons, List.any_nil, Bool.or_false] at e
  simp only [dNotIn, e, Option.map_some]
theorem dNotIn_ints {i a b : Int} : dNotIn (.int i) (.tup [.int a, .int b]) st = some (.bl (!(decide (a = i) || decide (b = i)))) := by
  have e : inD (.int i) (.tup [.int a, .int b]) = some (decide (a = i) || (decide (b = i) || false)) := rfl
  simp only [dNotIn, e, Option.map_some, Bool.or_false]
def qTup : D → Bool
  | .tup _ => true
  | _ => false
def qInt : D → Bool
  | .int _ => true
  | _ => false
def qBl : D → Bool
  | .bl _ => true
  | _ => false
def qStr : D → Bool
  | .str _ => true
  | _ => false
theorem dIsT_tuple (h : Sh L k d) : dIsT "tuple" d st = some (.bl (qTup d)) := by
  cases d <;> first | rfl | simp [Sh] at h
theorem dIsT_int (h : Sh L k d) : dIsT "int" d st = some (.bl (qInt d || qBl d)) := by
  cases d <;> first | rfl | simp [Sh] at h
theorem dIsT_bool (h : Sh L k d) : dIsT "bool" d st = some (.bl (qBl d)) := by
  cases d <;> first | rfl | simp [Sh] at h
theorem dIsT_str (h : Sh L k d) : dIsT "str" d st = some (.bl (qStr d)) := by
  cases d <;> first | rfl | simp [Sh] at h
@[simp] theorem eChain_app {fa fb fc : Ev → M D} {g g' : D → D → Store → Option D} {env : Ev} : eChain g g' fa fb fc env st = (fa env st).bnd fun x st => (fb env st).bnd fun y st => (lif (g x y st) st).bnd fun z st => (asB z st).bnd fun k st => if k = true then (fc env st).bnd (fun u st => lif (g' y u st) st) else .ok (.bl false) st := by
  show (fa env >>= _) st = _
  simp only [bind_app]
  congr 1
  funext x st
  simp only [bind_app]
  congr 1
  funext y st
  simp only [bind_app, lift_app]
  congr 1
  funext z st
  simp only [bind_app]
  congr 1
  funext k st
  cases k <;> rfl
end
section
variable {st : Store} {env : Ev} {fa fb : Ev → M D}
@[simp] theorem eAnd_app : eAnd fa fb env st = (fa env st).bnd fun d st => (asB d st).bnd fun b => if b = true then fb env else fun st => .ok (.bl false) st := rfl
@[simp] theorem eOr_app : eOr fa fb env st = (fa env st).bnd fun d st => (asB d st).bnd fun b => if b = true then fun st => .ok (.bl true) st else fb env := rfl
@[simp] theorem eNot_app : eNot fa env st = (fa env st).bnd fun d st => (asB d st).bnd fun b st => .ok (.bl (!b)) st := rfl
theorem atI_nat {l : List D} {k : Nat} (h : k < l.length) : atI l (k : Int) = l[k]? := by
  unfold atI ixN
  rw [if_pos (by omega), if_pos (by omega)]
  simp
@[simp] theorem dIdx_t0 (a : D) (l : List D) : dIdx (.tup (a :: l)) (.int 0) st = some a := atI_nat (l := a :: l) (k := 0) (by simp)
@[simp] theorem dIdx_t1 (a b : D) (l : List D) : dIdx (.tup (a :: b :: l)) (.int 1) st = some b := atI_nat (l := a :: b :: l) (k := 1) (by simp)
@[simp] theorem dIdx_t2 (a b c : D) (l : List D) : dIdx (.tup (a :: b :: c :: l)) (.int 2) st = some c := atI_nat (l := a :: b :: c :: l) (k := 2) (by simp)
@[simp] theorem dIdx_l0 (a : D) (l : List D) : dIdx (.lst (a :: l)) (.int 0) st = some a := atI_nat (l := a :: l) (k := 0) (by simp)
@[simp] theorem dIdx_l1 (a b : D) (l : List D) : dIdx (.lst (a :: b :: l)) (.int 1) st = some b := atI_nat (l := a :: b :: l) (k := 1) (by simp)
theorem dIdx_tn {l : List D} {k : Nat} {d : D} (h : l[k]? = some d) : dIdx (.tup l) (.int (k : Int)) st = some d := by
  have := (List.getElem?_eq_some_iff.mp h).1
  rw [← h]; exact atI_nat this
theorem dIdx_ln {l : List D} {k : Nat} {d : D} (h : l[k]? = some d) : dIdx (.lst l) (.int (k : Int)) st = some d := by
  have := (List.getElem?_eq_some_iff.mp h).1
  rw [← h]; exact atI_nat this
theorem dIdx_cn {l : List D} {c k : Nat} {d : D} (hc : cellL st c = some l) (h : l[k]? = some d) : dIdx (.cell c) (.int (k : Int)) st = some d := by
  have := (List.getElem?_eq_some_iff.mp h).1
  simp only [dIdx, hc, Option.bind_some]
  rw [← h]; exact atI_nat this
@[simp] theorem dLen_tup (l : List D) : dLen [.tup l] st = some (.int l.length) := rfl
@[simp] theorem dLen_lst (l : List D) : dLen [.lst l] st = some (.int l.length) := rfl
@[simp] theorem dTuple_lst (l : List D) : dTuple [.lst l] st = some (.tup l) := rfl
end
end G
end

section
set_option Elab.async false
set_option linter.all false
set_option maxRecDepth 100000
namespace K81
open PySem G
inductive Fn where
  | is_whole
  | is_rule
  | is_change
  | is_test
  | is_look
  | sum_of
  | changed
  | rule_told
  | is_so
  | test_told
  | l_pot
  | l_digit
  | l_whole
  | l_change
  | l_rule
  | l_look
  | l_test
  | l_gift
  | l_all_numbers
  | l_each
  | l_made
  | l_holds
  | l_whole_one
  | l_reads_rule
  | l_reads_test
  | l_spoilt
  | l_read_right
  | l_right
  | law
def g_is_whole (F : Fn → List D → M D) : Ev → M Fl := (sRet (eAnd (eUn (dIsT "int") (eVar 0)) (eNot (eUn (dIsT "bool") (eVar 0)))))
def g_is_rule (F : Fn → List D → M D) : Ev → M Fl := (sRet (eAnd (eUn (dIsT "tuple") (eVar 0)) (eB dAll [(eComp [1] (iSeq (eVar 0)) (tgName 1) (fun _ => pure true) (eCall (F .is_change) [(eVar 1)]))])))
def g_is_change (F : Fn → List D → M D) : Ev → M Fl := (sSeq (sIf (tOr' (tNot' (tVal (eUn (dIsT "tuple") (eVar 0)))) (tVal (eOp dEq (eB dLen [(eVar 0)]) (eC (.int 0))))) (sRet (eC (.bl false))) sNop) (sSeq (sIf (tVal (eOp dEq (eB dLen [(eVar 0)]) (eC (.int 1)))) (sRet (eOp dIn (eOp dIdx (eVar 0) (eC (.int 0))) (eTup [(eC (.str "one")), (eC (.str "sum"))]))) sNop) (sSeq (sIf (tOr' (tVal (eOp dGt (eB dLen [(eVar 0)]) (eC (.int 2)))) (tNot' (tVal (eCall (F .is_whole) [(eOp dIdx (eVar 0) (eC (.int 1)))])))) (sRet (eC (.bl false))) sNop) (sRet (eOr (eOp dIn (eOp dIdx (eVar 0) (eC (.int 0))) (eTup [(eC (.str "add")), (eC (.str "times"))])) (eAnd (eOp dEq (eOp dIdx (eVar 0) (eC (.int 0))) (eC (.str "rest"))) (eOp dGt (eOp dIdx (eVar 0) (eC (.int 1))) (eC (.int 0)))))))))
def g_is_test (F : Fn → List D → M D) : Ev → M Fl := (sRet (eAnd (eUn (dIsT "tuple") (eVar 0)) (eB dAll [(eComp [1] (iSeq (eVar 0)) (tgName 1) (fun _ => pure true) (eCall (F .is_look) [(eVar 1)]))])))
def g_is_look (F : Fn → List D → M D) : Ev → M Fl := (sSeq (sIf (tOr' (tNot' (tVal (eUn (dIsT "tuple") (eVar 0)))) (tNot' (tVal (eChain dLe dLe (eC (.int 2)) (eB dLen [(eVar 0)]) (eC (.int 3)))))) (sRet (eC (.bl false))) sNop) (sSeq (sIf (tVal (eOp dEq (eB dLen [(eVar 0)]) (eC (.int 2)))) (sRet (eAnd (eOp dEq (eOp dIdx (eVar 0) (eC (.int 0))) (eC (.str "below"))) (eCall (F .is_whole) [(eOp dIdx (eVar 0) (eC (.int 1)))]))) sNop) (sSeq (sIf (tVal (eOp dEq (eOp dIdx (eVar 0) (eC (.int 0))) (eC (.str "after")))) (sRet (eAnd (eCall (F .is_rule) [(eOp dIdx (eVar 0) (eC (.int 1)))]) (eCall (F .is_test) [(eOp dIdx (eVar 0) (eC (.int 2)))]))) sNop) (sRet (eAnd (eOp dEq (eOp dIdx (eVar 0) (eC (.int 0))) (eC (.str "rest"))) (eAnd (eCall (F .is_whole) [(eOp dIdx (eVar 0) (eC (.int 1)))]) (eAnd (eCall (F .is_whole) [(eOp dIdx (eVar 0) (eC (.int 2)))]) (eChain dLe dLt (eC (.int 0)) (eOp dIdx (eVar 0) (eC (.int 2))) (eOp dIdx (eVar 0) (eC (.int 1)))))))))))
def g_sum_of (F : Fn → List D → M D) : Ev → M Fl := (sSeq (sIf (tVal (eUn (dIsT "tuple") (eVar 0))) (sRet (eB dSum [(eComp [1] (iSeq (eVar 0)) (tgName 1) (fun _ => pure true) (eCall (F .sum_of) [(eVar 1)]))])) sNop) (sRet (eVar 0)))
def g_changed (F : Fn → List D → M D) : Ev → M Fl := (sSeq (sAsg 2 (eOp dIdx (eVar 0) (eC (.int 0)))) (sSeq (sIf (tVal (eOp dEq (eVar 2) (eC (.str "one")))) (sRet (eTup [(eVar 1)])) sNop) (sSeq (sIf (tVal (eOp dEq (eVar 2) (eC (.str "sum")))) (sRet (eCall (F .sum_of) [(eVar 1)])) sNop) (sSeq (sIf (tVal (eUn (dIsT "tuple") (eVar 1))) (sRet (eB dTuple [(eComp [3] (iSeq (eVar 1)) (tgName 3) (fun _ => pure true) (eCall (F .changed) [(eVar 0), (eVar 3)]))])) sNop) (sSeq (sIf (tVal (eOp dEq (eVar 2) (eC (.str "add")))) (sRet (eOp dAdd (eVar 1) (eOp dIdx (eVar 0) (eC (.int 1))))) sNop) (sSeq (sIf (tVal (eOp dEq (eVar 2) (eC (.str "times")))) (sRet (eOp dMul (eVar 1) (eOp dIdx (eVar 0) (eC (.int 1))))) sNop) (sRet (eOp dMod (eVar 1) (eOp dIdx (eVar 0) (eC (.int 1)))))))))))
def g_rule_told (F : Fn → List D → M D) : Ev → M Fl := (sSeq (sFor (iSeq (eVar 0)) (tgName 2) (sAsg 1 (eCall (F .changed) [(eVar 2), (eVar 1)]))) (sRet (eVar 1)))
def g_is_so (F : Fn → List D → M D) : Ev → M Fl := (sSeq (sIf (tVal (eOp dEq (eOp dIdx (eVar 0) (eC (.int 0))) (eC (.str "after")))) (sRet (eCall (F .test_told) [(eOp dIdx (eVar 0) (eC (.int 2))), (eCall (F .rule_told) [(eOp dIdx (eVar 0) (eC (.int 1))), (eVar 1)])])) sNop) (sSeq (sIf (tVal (eOp dEq (eOp dIdx (eVar 0) (eC (.int 0))) (eC (.str "below")))) (sRet (eOp dLt (eCall (F .sum_of) [(eVar 1)]) (eOp dIdx (eVar 0) (eC (.int 1))))) sNop) (sRet (eOp dEq (eOp dMod (eCall (F .sum_of) [(eVar 1)]) (eOp dIdx (eVar 0) (eC (.int 1)))) (eOp dIdx (eVar 0) (eC (.int 2)))))))
def g_test_told (F : Fn → List D → M D) : Ev → M Fl := (sRet (eB dAll [(eComp [2] (iSeq (eVar 0)) (tgName 2) (fun _ => pure true) (eCall (F .is_so) [(eVar 2), (eVar 1)]))]))
def g_l_pot (F : Fn → List D → M D) : Ev → M Fl := (sSeq (sAsg 2 (eIf (tVal (eOp dLt (eVar 1) (eB dLen [(eVar 0)]))) (eOp dIdx (eVar 0) (eVar 1)) (eC (.int 0)))) (sSeq (sIf (tVal (eOp dGe (eVar 2) (eOp dPow (eC (.int 10)) (eC (.int 18))))) (sRet (eNewL [(eOp dSub (eVar 2) (eOp dPow (eC (.int 10)) (eC (.int 18)))), (eOp dAdd (eOp dAdd (eOp dMod (eVar 2) (eC (.int 2147483629))) (eOp dMul (eC (.int 977)) (eVar 1))) (eC (.int 1)))])) sNop) (sRet (eNewL [(eC (.int 0)), (eOp dAdd (eOp dAdd (eOp dMod (eVar 2) (eC (.int 2147483629))) (eOp dMul (eC (.int 977)) (eVar 1))) (eC (.int 1)))]))))
def g_l_digit (F : Fn → List D → M D) : Ev → M Fl := (sSeq (sIf (tVal (eOp dGt (eOp dIdx (eVar 0) (eC (.int 0))) (eC (.int 0)))) (sSeq (sAsgT (eB dDivmod [(eOp dIdx (eVar 0) (eC (.int 0))), (eVar 1)]) (fun d env => noErr (gtPair (gtSub (eVar 0) (eC (.int 0))) (gtName 2) d env))) (sRet (eVar 2))) sNop) (sSeq (sAsgT (eOp dMod (eOp dAdd (eOp dMul (eOp dIdx (eVar 0) (eC (.int 1))) (eC (.int 48271))) (eC (.int 12345))) (eC (.int 2147483647))) (gtSub (eVar 0) (eC (.int 1)))) (sRet (eOp dMod (eOp dDiv (eOp dMod (eOp dMul (eOp dIdx (eVar 0) (eC (.int 1))) (eOp dIdx (eVar 0) (eC (.int 1)))) (eC (.int 2147483629))) (eC (.int 7))) (eVar 1)))))
def g_l_whole (F : Fn → List D → M D) : Ev → M Fl := (sSeq (sIf (tOr' (tVal (eOp dLt (eCall (F .l_digit) [(eVar 0), (eC (.int 8))]) (eC (.int 7)))) (tVal (eOp dEq (eOp dGet (eVar 1) (eC (.str "great"))) (eC (.int 0))))) (sRet (eOp dSub (eCall (F .l_digit) [(eVar 0), (eC (.int 23))]) (eC (.int 11)))) sNop) (sSeq (sPutK (eVar 1) (eC (.str "great")) (eOp dSub (eOp dGet (eVar 1) (eC (.str "great"))) (eC (.int 1)))) (sSeq (sAsg 2 (eC (.int 0))) (sSeq (sFor (iRange (eC (.int 3))) (tgName 3) (sAsg 2 (eOp dAdd (eOp dMul (eVar 2) (eOp dPow (eC (.int 10)) (eC (.int 10)))) (eCall (F .l_digit) [(eVar 0), (eOp dPow (eC (.int 10)) (eC (.int 10)))])))) (sRet (eOp dIdx (eLst [(eVar 2), (eUn dNeg (eVar 2))]) (eCall (F .l_digit) [(eVar 0), (eC (.int 2))])))))))
def g_l_change (F : Fn → List D → M D) : Ev → M Fl := (sSeq (sAsg 2 (eCall (F .l_digit) [(eVar 0), (eC (.int 5))])) (sSeq (sIf (tVal (eOp dLt (eVar 2) (eC (.int 2)))) (sRet (eTup [(eOp dIdx (eLst [(eC (.str "add")), (eC (.str "times"))]) (eVar 2)), (eCall (F .l_whole) [(eVar 0), (eVar 1)])])) sNop) (sSeq (sIf (tVal (eOp dEq (eVar 2) (eC (.int 2)))) (sRet (eTup [(eC (.str "rest")), (eOp dAdd (eC (.int 1)) (eCall (F .l_digit) [(eVar 0), (eOp dIdx (eLst [(eC (.int 12)), (eOp dPow (eC (.int 10)) (eC (.int 29)))]) (eCall (F .l_digit) [(eVar 0), (eC (.int 2))]))]))])) sNop) (sRet (eOp dIdx (eLst [(eTup [(eC (.str "one"))]), (eTup [(eC (.str "sum"))])]) (eOp dSub (eVar 2) (eC (.int 3))))))))
def g_l_rule (F : Fn → List D → M D) : Ev → M Fl := (sRet (eB dTuple [(eComp [2] (iRange (eCall (F .l_digit) [(eVar 0), (eC (.int 4))])) (tgName 2) (fun _ => pure true) (eCall (F .l_change) [(eVar 0), (eVar 1)]))]))
def g_l_look (F : Fn → List D → M D) : Ev → M Fl := (sSeq (sAsg 3 (eCall (F .l_digit) [(eVar 0), (eC (.int 4))])) (sSeq (sIf (tVal (eOp dLt (eVar 3) (eC (.int 2)))) (sSeq (sAsg 4 (eOp dAdd (eC (.int 1)) (eCall (F .l_digit) [(eVar 0), (eC (.int 4))]))) (sRet (eTup [(eC (.str "rest")), (eVar 4), (eCall (F .l_digit) [(eVar 0), (eVar 4)])]))) sNop) (sSeq (sIf (tOr' (tVal (eOp dEq (eVar 3) (eC (.int 2)))) (tVal (eOp dEq (eVar 2) (eC (.int 0))))) (sRet (eTup [(eC (.str "below")), (eCall (F .l_whole) [(eVar 0), (eVar 1)])])) sNop) (sRet (eTup [(eC (.str "after")), (eCall (F .l_rule) [(eVar 0), (eVar 1)]), (eCall (F .l_test) [(eVar 0), (eVar 1), (eOp dSub (eVar 2) (eC (.int 1)))])])))))
def g_l_test (F : Fn → List D → M D) : Ev → M Fl := (sRet (eB dTuple [(eComp [3] (iRange (eCall (F .l_digit) [(eVar 0), (eC (.int 3))])) (tgName 3) (fun _ => pure true) (eCall (F .l_look) [(eVar 0), (eVar 1), (eVar 2)]))]))
def g_l_gift (F : Fn → List D → M D) : Ev → M Fl := (sSeq (sIf (tOr' (tVal (eOp dEq (eVar 2) (eC (.int 0)))) (tVal (eOp dGt (eCall (F .l_digit) [(eVar 0), (eC (.int 3))]) (eC (.int 0))))) (sRet (eCall (F .l_whole) [(eVar 0), (eVar 1)])) sNop) (sRet (eB dTuple [(eComp [3] (iRange (eCall (F .l_digit) [(eVar 0), (eC (.int 4))])) (tgName 3) (fun _ => pure true) (eCall (F .l_gift) [(eVar 0), (eVar 1), (eOp dSub (eVar 2) (eC (.int 1)))]))])))
def g_l_all_numbers (F : Fn → List D → M D) : Ev → M Fl := (sSeq (sIf (tNot' (tVal (eUn (dIsT "tuple") (eVar 0)))) (sRet (eLst [(eVar 0)])) sNop) (sSeq (sAsg 1 (eLst [])) (sSeq (sFor (iSeq (eVar 0)) (tgName 2) (sAsg 1 (eOp dAdd (eVar 1) (eCall (F .l_all_numbers) [(eVar 2)])))) (sRet (eVar 1)))))
def g_l_each (F : Fn → List D → M D) : Ev → M Fl := (sSeq (sIf (tVal (eUn (dIsT "tuple") (eVar 0))) (sRet (eB dTuple [(eComp [3] (iSeq (eVar 0)) (tgName 3) (fun _ => pure true) (eCall (F .l_each) [(eVar 3), (eVar 1), (eVar 2)]))])) sNop) (sRet (eDispGet [.inr "add", .inr "times", .inr "rest"] [(eOp dAdd (eVar 0) (eVar 2)), (eOp dMul (eVar 0) (eVar 2)), (eOp dMod (eVar 0) (eB dMax2 [(eC (.int 1)), (eVar 2)]))] (eVar 1))))
def g_l_made (F : Fn → List D → M D) : Ev → M Fl := (sSeq (sFor (iSeq (eVar 0)) (tgName 2) (sIf (tVal (eOp dEq (eVar 2) (eTup [(eC (.str "one"))]))) (sAsg 1 (eTup [(eVar 1)])) (sIf (tVal (eOp dEq (eVar 2) (eTup [(eC (.str "sum"))]))) (sAsg 1 (eB dSum [(eCall (F .l_all_numbers) [(eVar 1)])])) (sAsg 1 (eCall (F .l_each) [(eVar 1), (eOp dIdx (eVar 2) (eC (.int 0))), (eOp dIdx (eVar 2) (eC (.int 1)))]))))) (sRet (eVar 1)))
def g_l_holds (F : Fn → List D → M D) : Ev → M Fl := (sSeq (sFor (iSeq (eVar 0)) (tgName 2) (sSeq (sIf (tVal (eOp dEq (eOp dIdx (eVar 2) (eC (.int 0))) (eC (.str "after")))) (sAsg 3 (eCall (F .l_holds) [(eOp dIdx (eVar 2) (eC (.int 2))), (eCall (F .l_made) [(eOp dIdx (eVar 2) (eC (.int 1))), (eVar 1)])])) (sIf (tVal (eOp dEq (eOp dIdx (eVar 2) (eC (.int 0))) (eC (.str "below")))) (sAsg 3 (eOp dLt (eB dSum [(eCall (F .l_all_numbers) [(eVar 1)])]) (eOp dIdx (eVar 2) (eC (.int 1))))) (sAsg 3 (eOp dEq (eOp dMod (eB dSum [(eCall (F .l_all_numbers) [(eVar 1)])]) (eOp dIdx (eVar 2) (eC (.int 1)))) (eOp dIdx (eVar 2) (eC (.int 2))))))) (sIf (tNot' (tVal (eVar 3))) (sRet (eC (.bl false))) sNop))) (sRet (eC (.bl true))))
def g_l_whole_one (F : Fn → List D → M D) : Ev → M Fl := (sRet (eAnd (eUn (dIsT "int") (eVar 0)) (eNot (eUn (dIsT "bool") (eVar 0)))))
def g_l_reads_rule (F : Fn → List D → M D) : Ev → M Fl := (sSeq (sIf (tNot' (tVal (eUn (dIsT "tuple") (eVar 0)))) (sRet (eC (.bl false))) sNop) (sSeq (sFor (iSeq (eVar 0)) (tgName 1) (sSeq (sIf (tOr' (tNot' (tVal (eUn (dIsT "tuple") (eVar 1)))) (tOr' (tNot' (tVal (eChain dLe dLe (eC (.int 1)) (eB dLen [(eVar 1)]) (eC (.int 2))))) (tNot' (tVal (eUn (dIsT "str") (eOp dIdx (eVar 1) (eC (.int 0)))))))) (sRet (eC (.bl false))) sNop) (sSeq (sIf (tVal (eOp dNotIn (eOp dIdx (eVar 1) (eC (.int 0))) (eIf (tVal (eOp dEq (eB dLen [(eVar 1)]) (eC (.int 1)))) (eLst [(eC (.str "one")), (eC (.str "sum"))]) (eLst [(eC (.str "add")), (eC (.str "times")), (eC (.str "rest"))])))) (sRet (eC (.bl false))) sNop) (sIf (tAnd' (tVal (eOp dEq (eB dLen [(eVar 1)]) (eC (.int 2)))) (tOr' (tNot' (tVal (eCall (F .l_whole_one) [(eOp dIdx (eVar 1) (eC (.int 1)))]))) (tAnd' (tVal (eOp dEq (eOp dIdx (eVar 1) (eC (.int 0))) (eC (.str "rest")))) (tVal (eOp dLt (eOp dIdx (eVar 1) (eC (.int 1))) (eC (.int 1))))))) (sRet (eC (.bl false))) sNop)))) (sRet (eC (.bl true)))))
def g_l_reads_test (F : Fn → List D → M D) : Ev → M Fl := (sSeq (sIf (tNot' (tVal (eUn (dIsT "tuple") (eVar 0)))) (sRet (eC (.bl false))) sNop) (sSeq (sFor (iSeq (eVar 0)) (tgName 1) (sSeq (sIf (tOr' (tNot' (tVal (eUn (dIsT "tuple") (eVar 1)))) (tOr' (tVal (eOp dNotIn (eB dLen [(eVar 1)]) (eTup [(eC (.int 2)), (eC (.int 3))]))) (tNot' (tVal (eUn (dIsT "str") (eOp dIdx (eVar 1) (eC (.int 0)))))))) (sRet (eC (.bl false))) sNop) (sSeq (sIf (tAnd' (tVal (eOp dEq (eB dLen [(eVar 1)]) (eC (.int 2)))) (tOr' (tVal (eOp dNe (eOp dIdx (eVar 1) (eC (.int 0))) (eC (.str "below")))) (tNot' (tVal (eCall (F .l_whole_one) [(eOp dIdx (eVar 1) (eC (.int 1)))]))))) (sRet (eC (.bl false))) sNop) (sIf (tAnd' (tVal (eOp dEq (eB dLen [(eVar 1)]) (eC (.int 3)))) (tVal (eOp dEq (eOp dIdx (eVar 1) (eC (.int 0))) (eC (.str "after"))))) (sIf (tOr' (tNot' (tVal (eCall (F .l_reads_rule) [(eOp dIdx (eVar 1) (eC (.int 1)))]))) (tNot' (tVal (eCall (F .l_reads_test) [(eOp dIdx (eVar 1) (eC (.int 2)))])))) (sRet (eC (.bl false))) sNop) (sIf (tVal (eOp dEq (eB dLen [(eVar 1)]) (eC (.int 3)))) (sSeq (sIf (tOr' (tVal (eOp dNe (eOp dIdx (eVar 1) (eC (.int 0))) (eC (.str "rest")))) (tOr' (tNot' (tVal (eCall (F .l_whole_one) [(eOp dIdx (eVar 1) (eC (.int 1)))]))) (tNot' (tVal (eCall (F .l_whole_one) [(eOp dIdx (eVar 1) (eC (.int 2)))]))))) (sRet (eC (.bl false))) sNop) (sIf (tNot' (tVal (eChain dLe dLt (eC (.int 0)) (eOp dIdx (eVar 1) (eC (.int 2))) (eOp dIdx (eVar 1) (eC (.int 1)))))) (sRet (eC (.bl false))) sNop)) sNop))))) (sRet (eC (.bl true)))))
def g_l_spoilt (F : Fn → List D → M D) : Ev → M Fl := (sSeq (sAsg 2 (eLst [(eC .non), (eC (.bl true)), (eC (.bl false)), (eC (.int 0)), (eUn dNeg (eC (.int 1))), (eC (.int 1)), (eC (.int 7)), (eOp dPow (eC (.int 10)) (eC (.int 29))), (eC (.str "")), (eC (.str "add")), (eC (.str "times")), (eC (.str "rest")), (eC (.str "one")), (eC (.str "sum")), (eC (.str "below")), (eC (.str "after")), (eTup []), (eLst []), (eTup [(eC (.str "one"))]), (eTup [(eC (.str "add")), (eC (.int 1))])])) (sSeq (sAsg 3 (eOp dIdx (eVar 2) (eCall (F .l_digit) [(eVar 0), (eC (.int 20))]))) (sSeq (sAsg 4 (eCall (F .l_digit) [(eVar 0), (eC (.int 4))])) (sSeq (sIf (tOr' (tNot' (tVal (eUn (dIsT "tuple") (eVar 1)))) (tAnd' (tVal (eOp dEq (eVar 4) (eC (.int 3)))) (tVal (eOp dEq (eCall (F .l_digit) [(eVar 0), (eC (.int 3))]) (eC (.int 0)))))) (sRet (eVar 3)) sNop) (sSeq (sAsg 5 (eCall (F .l_digit) [(eVar 0), (eOp dAdd (eB dLen [(eVar 1)]) (eC (.int 1)))])) (sSeq (sIf (tAnd' (tVal (eOp dEq (eVar 4) (eC (.int 0)))) (tVal (eOp dLt (eVar 5) (eB dLen [(eVar 1)])))) (sRet (eOp dAdd (eSl (eVar 1) pNo (pAt (eVar 5))) (eSl (eVar 1) (pAt (eOp dAdd (eVar 5) (eC (.int 1)))) pNo))) sNop) (sSeq (sIf (tOr' (tVal (eOp dEq (eVar 4) (eC (.int 1)))) (tVal (eOp dEq (eVar 5) (eB dLen [(eVar 1)])))) (sRet (eOp dAdd (eOp dAdd (eSl (eVar 1) pNo (pAt (eVar 5))) (eTup [(eVar 3)])) (eSl (eVar 1) (pAt (eVar 5)) pNo))) sNop) (sRet (eOp dAdd (eOp dAdd (eSl (eVar 1) pNo (pAt (eVar 5))) (eTup [(eCall (F .l_spoilt) [(eVar 0), (eOp dIdx (eVar 1) (eVar 5))])])) (eSl (eVar 1) (pAt (eOp dAdd (eVar 5) (eC (.int 1)))) pNo))))))))))
def g_l_read_right (F : Fn → List D → M D) : Ev → M Fl := (sRet (eAnd (eUn (dIsT "bool") (eVar 0)) (eOp dEq (eVar 0) (eVar 1))))
def g_l_right (F : Fn → List D → M D) : Ev → M Fl := (sSeq (sAsg 1 (eNewD [.inr "great"] [(eC (.int 4))])) (sSeq (sPar 2 3 (eCall (F .l_rule) [(eVar 0), (eVar 1)]) (eCall (F .l_test) [(eVar 0), (eVar 1), (eC (.int 2))])) (sSeq (sAsg 4 (eComp [9] (iRange (eC (.int 3))) (tgName 9) (fun _ => pure true) (eCall (F .l_gift) [(eVar 0), (eVar 1), (eC (.int 4))]))) (sSeq (sAsg 5 (eB dRepr [(eTup [(eVar 2), (eVar 3), (eVar 4)])])) (sSeq (sFor (iSeq (eOp dAdd (eVar 4) (eUn dRev (eVar 4)))) (tgName 6) (sSeq (sIf (tVal (eOp dNeS (eB dRepr [(eCall (F .rule_told) [(eVar 2), (eVar 6)])]) (eB dRepr [(eCall (F .l_made) [(eVar 2), (eVar 6)])]))) (sRet (eC (.bl false))) sNop) (sIf (tNot' (tVal (eCall (F .l_read_right) [(eCall (F .test_told) [(eVar 3), (eVar 6)]), (eCall (F .l_holds) [(eVar 3), (eVar 6)])]))) (sRet (eC (.bl false))) sNop))) (sSeq (sFor (iRange (eC (.int 6))) (tgName 7) (sFor (iSeq (eLst [(eVar 2), (eVar 3), (eCall (F .l_spoilt) [(eVar 0), (eVar 2)]), (eCall (F .l_spoilt) [(eVar 0), (eVar 3)])])) (tgName 8) (sSeq (sIf (tNot' (tVal (eCall (F .l_read_right) [(eCall (F .is_rule) [(eVar 8)]), (eCall (F .l_reads_rule) [(eVar 8)])]))) (sRet (eC (.bl false))) sNop) (sIf (tNot' (tVal (eCall (F .l_read_right) [(eCall (F .is_test) [(eVar 8)]), (eCall (F .l_reads_test) [(eVar 8)])]))) (sRet (eC (.bl false))) sNop)))) (sRet (eOp dEqS (eB dRepr [(eTup [(eVar 2), (eVar 3), (eVar 4)])]) (eVar 5)))))))))
def g_law (F : Fn → List D → M D) : Ev → M Fl := (sSeq (sFor (iRange (eB dMax2 [(eC (.int 1)), (eB dMin2 [(eC (.int 3)), (eB dLen [(eVar 0)])])])) (tgName 1) (sIf (tNot' (tVal (eCall (F .l_right) [(eCall (F .l_pot) [(eVar 0), (eVar 1)])]))) (sRet (eC (.bl false))) sNop)) (sRet (eC (.bl true))))
def fns : Nat → Fn → List D → M D
  | 0, _ => fun _ => M.stuck
  | n + 1, .is_whole => runF 1 (g_is_whole (fns n))
  | n + 1, .is_rule => runF 2 (g_is_rule (fns n))
  | n + 1, .is_change => runF 1 (g_is_change (fns n))
  | n + 1, .is_test => runF 2 (g_is_test (fns n))
  | n + 1, .is_look => runF 1 (g_is_look (fns n))
  | n + 1, .sum_of => runF 2 (g_sum_of (fns n))
  | n + 1, .changed => runF 4 (g_changed (fns n))
  | n + 1, .rule_told => runF 3 (g_rule_told (fns n))
  | n + 1, .is_so => runF 2 (g_is_so (fns n))
  | n + 1, .test_told => runF 3 (g_test_told (fns n))
  | n + 1, .l_pot => runF 3 (g_l_pot (fns n))
  | n + 1, .l_digit => runF 3 (g_l_digit (fns n))
  | n + 1, .l_whole => runF 4 (g_l_whole (fns n))
  | n + 1, .l_change => runF 3 (g_l_change (fns n))
  | n + 1, .l_rule => runF 3 (g_l_rule (fns n))
  | n + 1, .l_look => runF 5 (g_l_look (fns n))
  | n + 1, .l_test => runF 4 (g_l_test (fns n))
  | n + 1, .l_gift => runF 4 (g_l_gift (fns n))
  | n + 1, .l_all_numbers => runF 3 (g_l_all_numbers (fns n))
  | n + 1, .l_each => runF 4 (g_l_each (fns n))
  | n + 1, .l_made => runF 3 (g_l_made (fns n))
  | n + 1, .l_holds => runF 4 (g_l_holds (fns n))
  | n + 1, .l_whole_one => runF 1 (g_l_whole_one (fns n))
  | n + 1, .l_reads_rule => runF 2 (g_l_reads_rule (fns n))
  | n + 1, .l_reads_test => runF 2 (g_l_reads_test (fns n))
  | n + 1, .l_spoilt => runF 6 (g_l_spoilt (fns n))
  | n + 1, .l_read_right => runF 2 (g_l_read_right (fns n))
  | n + 1, .l_right => runF 10 (g_l_right (fns n))
  | n + 1, .law => runF 2 (g_law (fns n))
end K81
end

section
set_option Elab.async false
set_option linter.all false
set_option maxRecDepth 100000
set_option maxHeartbeats 1000000
namespace K81
open PySem G
theorem sok (x : Str) (h : PyData.strOk x = true := by decide +kernel) : PyData.strOk x = true := h
theorem runF_ret {n : Nat} {g : Ev → M Fl} {ds : List D} {st st' : Store} {d : D} (h : g (ds.map some ++ List.replicate (n - ds.length) none) st = .ok (.ret d) st') : runF n g ds st = .ok d st' := by
  show (noErr _ >>= _) st = _
  rw [bind_app, noErr_app, h]
  rfl
theorem whole_is {L k n : Nat} {d : D} {st : Store} (h : Sh L k d) : fns (n + 1) .is_whole [d] st = .ok (.bl (qInt d)) st := by
  refine runF_ret ?_
  simp only [g_is_whole, sRet_app, eAnd_app, eNot_app, eUn_app, List.map_cons, List.map_nil, List.length_cons, List.length_nil]
  rw [eVar_at 0 (d := d) (by simp)]
  simp only [bnd_ok, dIsT_int h, lif_some, asB_bl]
  cases d <;> first | (simp [Sh] at h; done) | simp [qInt, qBl, dIsT, tyName, isTy]
theorem whole_one {L k n : Nat} {d : D} {st : Store} (h : Sh L k d) : fns (n + 1) .l_whole_one [d] st = .ok (.bl (qInt d)) st := whole_is (n := n) h
/-- a change that is read as one -/
def posD : D → Bool
  | .int i => decide (0 < i)
  | _ => false
def chg : D → Bool
  | .tup [x] => isW x "one" || isW x "sum"
  | .tup [x, y] => qInt y && ((isW x "add" || isW x "times") || (isW x "rest" && posD y))
  | _ => false
theorem change_is {L k n : Nat} {d : D} {st : Store} (h : Sh L k d) (hk : k ≤ 64) : fns (n + 2) .is_change [d] st = .ok (.bl (chg d)) st := by
  refine runF_ret ?_
  simp only [List.map_cons, List.map_nil, List.length_cons, List.length_nil]
  cases d with
  | tup l =>
    cases k with
    | zero => simp [Sh] at h
    | succ k =>
      have h' := h
      simp only [Sh] at h'
      cases l with
      | nil => simp [g_is_change, dIsT, tyName, isTy, chg]
      | cons x l =>
        have hx := h'.2 x (by simp)
        cases l with
        | nil => simp [g_is_change, dIsT, tyName, isTy, chg, dIn_2 (x := "one") (y := "sum") hx (by omega) (by decide +kernel)]
        | cons y l =>
          have hy := h'.2 y (by simp)
          cases l with
          | nil =>
            have f1 := fun st => dIn_2 (st := st) (x := "add") (y := "times") hx (by omega) (by decide +kernel)
            have f2 := fun st => dEq_w (st := st) (x := "rest") hx (by omega) (by decide +kernel)
            generalize e1 : isW x "add" = b1 at f1
            generalize e2 : isW x "times" = b2 at f1
            generalize e3 : isW x "rest" = b3 at f2
            cases b1 <;> cases b2 <;> cases b3 <;> cases y <;> simp [g_is_change, dIsT, tyName, isTy, chg, whole_is hy, qInt, posD, f1, f2, e1, e2, e3]
          | cons z l =>
            have a1 : ¬ ((l.length : Int) + 1 + 1 + 1 = 0) := by omega
            have a2 : ¬ ((l.length : Int) + 1 + 1 + 1 = 1) := by omega
            have a3 : (2 : Int) < (l.length : Int) + 1 + 1 + 1 := by omega
            simp [g_is_change, dIsT, tyName, isTy, chg, a1, a2, a3]
  | _ => first | (simp [Sh] at h; done) | simp [g_is_change, dIsT, tyName, isTy, chg]

theorem isW_two {d : D} {x y : Str} (h : (x == y) = false) : ¬ (isW d x = true ∧ isW d y = true) := by
  intro ⟨h1, h2⟩
  cases d with
  | str z =>
    simp only [isW, beq_iff_eq] at h1 h2
    subst h1; subst h2
    simp at h
  | _ => simp [isW] at h1
theorem reads_rule_step {L k n : Nat} {d t : D} {st : Store} (h : Sh L k d) (hk : k ≤ 64) : ∃ env', (∃ o, env' = [some t, o]) ∧
    (sSeq (sIf (tOr' (tNot' (tVal (eUn (dIsT "tuple") (eVar 1)))) (tOr' (tNot' (tVal (eChain dLe dLe (eC (.int 1)) (eB dLen [(eVar 1)]) (eC (.int 2))))) (tNot' (tVal (eUn (dIsT "str") (eOp dIdx (eVar 1) (eC (.int 0)))))))) (sRet (eC (.bl false))) sNop) (sSeq (sIf (tVal (eOp dNotIn (eOp dIdx (eVar 1) (eC (.int 0))) (eIf (tVal (eOp dEq (eB dLen [(eVar 1)]) (eC (.int 1)))) (eLst [(eC (.str "one")), (eC (.str "sum"))]) (eLst [(eC (.str "add")), (eC (.str "times")), (eC (.str "rest"))])))) (sRet (eC (.bl false))) sNop) (sIf (tAnd' (tVal (eOp dEq (eB dLen [(eVar 1)]) (eC (.int 2)))) (tOr' (tNot' (tVal (eCall (fns (n + 1) .l_whole_one) [(eOp dIdx (eVar 1) (eC (.int 1)))]))) (tAnd' (tVal (eOp dEq (eOp dIdx (eVar 1) (eC (.int 0))) (eC (.str "rest")))) (tVal (eOp dLt (eOp dIdx (eVar 1) (eC (.int 1))) (eC (.int 1))))))) (sRet (eC (.bl false))) sNop))) [some t, some d] st = .ok (if chg d = true then .nx env' else .ret (.bl false)) st := by
  refine ⟨[some t, some d], ⟨_, rfl⟩, ?_⟩
  cases d with
  | tup l =>
    cases k with
    | zero => simp [Sh] at h
    | succ k =>
      have h' := h
      simp only [Sh] at h'
      cases l with
      | nil => simp [dIsT, tyName, isTy, chg]
      | cons x l =>
        have hx := h'.2 x (by simp)
        have s1 := fun st => dIsT_str (st := st) hx
        cases l with
        | nil =>
          have f1 := fun st => dNotIn_2L (st := st) (x := "one") (y := "sum") hx (by omega) (by decide +kernel)
          generalize e1 : isW x "one" = b1 at f1
          generalize e2 : isW x "sum" = b2 at f1
          cases b1 <;> cases b2 <;> cases x <;> first | (simp [isW] at e1; done) | (simp [isW] at e2; done) | (simp [dIsT_tuple h, qTup, chg, s1, qStr, f1, e1, e2]; done) | skip
        | cons y l =>
          have hy := h'.2 y (by simp)
          cases l with
          | nil =>
            have f1 := fun st => dNotIn_3L (st := st) (x := "add") (y := "times") (z := "rest") hx (by omega) (by decide +kernel)
            have f2 := fun st => dEq_w (st := st) (x := "rest") hx (by omega) (by decide +kernel)
            have c1 : ¬ (isW x "add" = true ∧ isW x "rest" = true) := isW_two (by decide +kernel)
            have c2 : ¬ (isW x "times" = true ∧ isW x "rest" = true) := isW_two (by decide +kernel)
            generalize e1 : isW x "add" = b1 at f1 c1
            generalize e2 : isW x "times" = b2 at f1 c2
            generalize e3 : isW x "rest" = b3 at f1 f2 c1 c2
            have w1 := fun st => whole_one (n := n) (st := st) hy
            by_cases hi : ∃ i, y = .int i
            · obtain ⟨i, rfl⟩ := hi
              by_cases hp : 0 < i
              · have hq : ¬ i < 1 := by omega
                cases b1 <;> cases b2 <;> cases b3 <;> cases x <;> first | exact absurd ⟨rfl, rfl⟩ c1 | exact absurd ⟨rfl, rfl⟩ c2 | (simp [isW] at e1; done) | (simp [isW] at e2; done) | (simp [isW] at e3; done) | (simp [dIsT_tuple h, qTup, chg, s1, qStr, qInt, posD, f1, f2, e1, e2, e3, w1, hp, hq]; done) | skip
              · have hq : i < 1 := by omega
                cases b1 <;> cases b2 <;> cases b3 <;> cases x <;> first | exact absurd ⟨rfl, rfl⟩ c1 | exact absurd ⟨rfl, rfl⟩ c2 | (simp [isW] at e1; done) | (simp [isW] at e2; done) | (simp [isW] at e3; done) | (simp [dIsT_tuple h, qTup, chg, s1, qStr, qInt, posD, f1, f2, e1, e2, e3, w1, hp, hq]; done) | skip
            · have hz : qInt y = false := by cases y <;> first | rfl | exact absurd ⟨_, rfl⟩ hi
              cases b1 <;> cases b2 <;> cases b3 <;> cases x <;> first | exact absurd ⟨rfl, rfl⟩ c1 | exact absurd ⟨rfl, rfl⟩ c2 | (simp [isW] at e1; done) | (simp [isW] at e2; done) | (simp [isW] at e3; done) | (simp [dIsT_tuple h, qTup, chg, s1, qStr, hz, f1, f2, e1, e2, e3, w1]; done) | skip
          | cons z l =>
            have a3 : ¬ ((l.length : Int) + 1 + 1 + 1 ≤ 2) := by omega
            have a4 : (1 : Int) ≤ (l.length : Int) + 1 + 1 + 1 := by omega
            simp [dIsT_tuple h, qTup, chg, a3, a4]
  | _ => first | (simp [Sh] at h; done) | simp [dIsT, tyName, isTy, chg]

theorem forGo_allF {g : Ev → M Fl} {st : Store} {r : D} {t : D} {o : Option D} {l : List D} (f : D → Bool) (h : ∀ d ∈ l, ∃ env', (∃ o, env' = [some t, o]) ∧ g [some t, some d] st = .ok (if f d = true then .nx env' else .ret r) st) :
    ∃ env', forGo (tgName 1) g l [some t, o] st = .ok (if l.all f = true then .nx env' else .ret r) st := by
  obtain ⟨e, _, h⟩ := forGo_all (i := 1) (g := g) (st := st) (r := r) (fun env => ∃ o, env = [some t, o]) f l [some t, o] ⟨_, rfl⟩ (fun d hd env ⟨o, he⟩ => by subst he; exact h d hd)
  exact ⟨e, h⟩
theorem notTup {L k : Nat} {d : D} (h : Sh L k d) (ht : ∀ l, d ≠ .tup l) : qTup d = false := by cases d <;> first | rfl | exact absurd rfl (ht _)
theorem rule_reads {L k : Nat} {d : D} {st : Store} (h : Sh L k d) (hk : k ≤ 64) : ∃ b, (∀ n, fns (n + 3) .is_rule [d] st = .ok (.bl b) st) ∧ ∀ n, fns (n + 2) .l_reads_rule [d] st = .ok (.bl b) st := by
  by_cases ht : ∃ l, d = .tup l
  · obtain ⟨l, rfl⟩ := ht
    have h' := h
    cases k with
    | zero => simp [Sh] at h
    | succ k =>
      simp only [Sh] at h'
      refine ⟨l.all chg, fun n => runF_ret ?_, fun n => runF_ret ?_⟩
      · have e : eComp [1] (iSeq (eVar 0)) (tgName 1) (fun _ => pure true) (eCall (fns (n + 2) .is_change) [(eVar 1)]) [some (.tup l), none] st = .ok (.lst (l.map fun d => .bl (chg d))) st := by
          refine eComp_of (l := l) (st1 := st) (by simp) ?_
          rw [compGo_map fun d => .bl (chg d)]
          · simp
          · intro d hd
            simp [evWipe, change_is (h'.2 d hd) (by omega : k ≤ 64)]
        simp [g_is_rule, dIsT_tuple h, qTup, e, dAll, bools_map]
      · obtain ⟨env', e⟩ := forGo_allF (t := .tup l) (o := none) (l := l) (r := .bl false) (st := st) chg fun d hd => reads_rule_step (n := n) (t := .tup l) (h'.2 d hd) (by omega : k ≤ 64)
        cases q : l.all chg <;> rw [q] at e <;> simp [g_l_reads_rule, dIsT_tuple h, qTup, e]
  · have z : qTup d = false := notTup h fun l e => ht ⟨l, e⟩
    exact ⟨false, fun n => runF_ret (by simp [g_is_rule, dIsT_tuple h, z]), fun n => runF_ret (by simp [g_l_reads_rule, dIsT_tuple h, z])⟩

def bodyT (n : Nat) : Ev → M Fl := (sSeq (sIf (tOr' (tNot' (tVal (eUn (dIsT "tuple") (eVar 1)))) (tOr' (tVal (eOp dNotIn (eB dLen [(eVar 1)]) (eTup [(eC (.int 2)), (eC (.int 3))]))) (tNot' (tVal (eUn (dIsT "str") (eOp dIdx (eVar 1) (eC (.int 0)))))))) (sRet (eC (.bl false))) sNop) (sSeq (sIf (tAnd' (tVal (eOp dEq (eB dLen [(eVar 1)]) (eC (.int 2)))) (tOr' (tVal (eOp dNe (eOp dIdx (eVar 1) (eC (.int 0))) (eC (.str "below")))) (tNot' (tVal (eCall (fns n .l_whole_one) [(eOp dIdx (eVar 1) (eC (.int 1)))]))))) (sRet (eC (.bl false))) sNop) (sIf (tAnd' (tVal (eOp dEq (eB dLen [(eVar 1)]) (eC (.int 3)))) (tVal (eOp dEq (eOp dIdx (eVar 1) (eC (.int 0))) (eC (.str "after"))))) (sIf (tOr' (tNot' (tVal (eCall (fns n .l_reads_rule) [(eOp dIdx (eVar 1) (eC (.int 1)))]))) (tNot' (tVal (eCall (fns n .l_reads_test) [(eOp dIdx (eVar 1) (eC (.int 2)))])))) (sRet (eC (.bl false))) sNop) (sIf (tVal (eOp dEq (eB dLen [(eVar 1)]) (eC (.int 3)))) (sSeq (sIf (tOr' (tVal (eOp dNe (eOp dIdx (eVar 1) (eC (.int 0))) (eC (.str "rest")))) (tOr' (tNot' (tVal (eCall (fns n .l_whole_one) [(eOp dIdx (eVar 1) (eC (.int 1)))]))) (tNot' (tVal (eCall (fns n .l_whole_one) [(eOp dIdx (eVar 1) (eC (.int 2)))]))))) (sRet (eC (.bl false))) sNop) (sIf (tNot' (tVal (eChain dLe dLt (eC (.int 0)) (eOp dIdx (eVar 1) (eC (.int 2))) (eOp dIdx (eVar 1) (eC (.int 1)))))) (sRet (eC (.bl false))) sNop)) sNop))))
theorem look_step {L k N : Nat} {d : D} {st : Store} (h : Sh L k d) (hk : k ≤ 64)
    (ih : ∀ e, Sh L (k - 1) e → ∃ b, (∀ n, N ≤ n → fns (n + 3) .is_test [e] st = .ok (.bl b) st) ∧ ∀ n, N ≤ n → fns (n + 2) .l_reads_test [e] st = .ok (.bl b) st) :
    ∃ b, (∀ n, N ≤ n → fns (n + 4) .is_look [d] st = .ok (.bl b) st) ∧ ∀ (t : D) n, N ≤ n → bodyT (n + 2) [some t, some d] st = .ok (if b = true then .nx [some t, some d] else .ret (.bl false)) st := by
  by_cases ht : ∃ l, d = .tup l
  · obtain ⟨l, rfl⟩ := ht
    cases k with
    | zero => simp [Sh] at h
    | succ k =>
      have h' := h
      simp only [Sh] at h'
      have tt := fun st => dIsT_tuple (st := st) h
      match l, h', h, tt, ih with
      | [], h', h, tt, ih => exact ⟨false, fun n hn => runF_ret (by simp [g_is_look, tt, qTup]), fun t n hn => by simp [bodyT, tt, qTup, dNotIn_ints]⟩
      | [a], h', h, tt, ih => exact ⟨false, fun n hn => runF_ret (by simp [g_is_look, tt, qTup]), fun t n hn => by simp [bodyT, tt, qTup, dNotIn_ints]⟩
      | [a, b], h', h, tt, ih =>
        have ha := h'.2 a (by simp)
        have hb := h'.2 b (by simp)
        have s1 := fun st => dIsT_str (st := st) ha
        have f1 := fun st => dEq_w (st := st) (x := "below") ha (by omega) (by decide +kernel)
        have f2 := fun st => dNe_w (st := st) (x := "below") ha (by omega) (by decide +kernel)
        have w1 := fun n st => whole_is (n := n) (st := st) hb
        have w2 := fun n st => whole_one (n := n) (st := st) hb
        generalize e1 : isW a "below" = b1 at f1 f2
        generalize qInt b = b2 at w1 w2
        refine ⟨b1 && b2, fun n hn => runF_ret ?_, fun t n hn => ?_⟩
        · cases b1 <;> cases b2 <;> simp [g_is_look, tt, qTup, f1, w1]
        · cases b1 <;> cases b2 <;> cases a <;> first | (simp [isW] at e1; done) | (simp [bodyT, tt, qTup, dNotIn_ints, s1, qStr, f2, w2]; done) | skip
      | [a, b, c], h', h, tt, ih =>
        have ha := h'.2 a (by simp)
        have hb := h'.2 b (by simp)
        have hc := h'.2 c (by simp)
        have s1 := fun st => dIsT_str (st := st) ha
        have f1 := fun st => dEq_w (st := st) (x := "after") ha (by omega) (by decide +kernel)
        have f2 := fun st => dEq_w (st := st) (x := "rest") ha (by omega) (by decide +kernel)
        have f3 := fun st => dNe_w (st := st) (x := "rest") ha (by omega) (by decide +kernel)
        have f4 := fun st => dNe_w (st := st) (x := "below") ha (by omega) (by decide +kernel)
        have c1 : ¬ (isW a "after" = true ∧ isW a "rest" = true) := isW_two (by decide +kernel)
        obtain ⟨r, r1, r2⟩ := rule_reads (st := st) hb (by omega)
        obtain ⟨q, q1, q2⟩ := ih c hc
        have w1 := fun n st => whole_is (n := n) (st := st) hb
        have w2 := fun n st => whole_one (n := n) (st := st) hb
        have w3 := fun n st => whole_is (n := n) (st := st) hc
        have w4 := fun n st => whole_one (n := n) (st := st) hc
        generalize e1 : isW a "after" = b1 at f1 c1
        generalize e2 : isW a "rest" = b2 at f2 f3 c1
        cases b1 with
        | true =>
          refine ⟨r && q, fun n hn => runF_ret ?_, fun t n hn => ?_⟩
          · cases r <;> simp [g_is_look, tt, qTup, f1, r1, q1 n hn]
          · cases r <;> cases q <;> cases a <;> first | (simp [isW] at e1; done) | (simp [bodyT, tt, qTup, dNotIn_ints, s1, qStr, f1, r2, q2 n hn]; done) | skip
        | false =>
          cases b2 with
          | false =>
            refine ⟨false, fun n hn => runF_ret (by simp [g_is_look, tt, qTup, f1, f2]), fun t n hn => ?_⟩
            cases a <;> (simp [bodyT, tt, qTup, dNotIn_ints, s1, qStr, f1, f3]; done)
          | true =>
            by_cases hbi : ∃ i, b = .int i
            · obtain ⟨i, rfl⟩ := hbi
              by_cases hci : ∃ j, c = .int j
              · obtain ⟨j, rfl⟩ := hci
                by_cases o1 : 0 ≤ j
                · refine ⟨decide (j < i), fun n hn => runF_ret (by simp [g_is_look, tt, qTup, f1, f2, w1, w3, qInt, o1]), fun t n hn => ?_⟩
                  by_cases o2 : j < i
                  · cases a <;> first | (simp [isW] at e2; done) | (simp [bodyT, tt, qTup, dNotIn_ints, s1, qStr, f1, f3, w2, w4, qInt, o1, o2]; done) | skip
                  · cases a <;> first | (simp [isW] at e2; done) | (simp [bodyT, tt, qTup, dNotIn_ints, s1, qStr, f1, f3, w2, w4, qInt, o1, o2]; done) | skip
                · refine ⟨false, fun n hn => runF_ret (by simp [g_is_look, tt, qTup, f1, f2, w1, w3, qInt, o1]), fun t n hn => ?_⟩
                  cases a <;> first | (simp [isW] at e2; done) | (simp [bodyT, tt, qTup, dNotIn_ints, s1, qStr, f1, f3, w2, w4, qInt, o1]; done) | skip
              · have hz : qInt c = false := by cases c <;> first | rfl | exact absurd ⟨_, rfl⟩ hci
                simp only [hz] at w3 w4
                refine ⟨false, fun n hn => runF_ret (by simp [g_is_look, tt, qTup, f1, f2, w1, w3, qInt]), fun t n hn => ?_⟩
                cases a <;> first | (simp [isW] at e2; done) | (simp [bodyT, tt, qTup, dNotIn_ints, s1, qStr, f1, f3, w2, w4, qInt]; done) | skip
            · have hz : qInt b = false := by cases b <;> first | rfl | exact absurd ⟨_, rfl⟩ hbi
              refine ⟨false, fun n hn => runF_ret (by simp [g_is_look, tt, qTup, f1, f2, w1, hz]), fun t n hn => ?_⟩
              cases a <;> first | (simp [isW] at e2; done) | (simp [bodyT, tt, qTup, dNotIn_ints, s1, qStr, f1, f3, w2, hz]; done) | skip
      | a :: b :: c :: e :: l, h', h, tt, ih =>
        have a1 : ¬ ((2 : Int) = (l.length : Int) + 1 + 1 + 1 + 1) := by omega
        have a2 : ¬ ((3 : Int) = (l.length : Int) + 1 + 1 + 1 + 1) := by omega
        have a3 : ((2 : Int) ≤ (l.length : Int) + 1 + 1 + 1 + 1) := by omega
        have a4 : ¬ ((l.length : Int) + 1 + 1 + 1 + 1 ≤ (3 : Int)) := by omega
        exact ⟨false, fun n hn => runF_ret (by simp [g_is_look, tt, qTup, a3, a4]), fun t n hn => by simp [bodyT, tt, qTup, dNotIn_ints, a1, a2]⟩
  · have z : qTup d = false := notTup h fun l e => ht ⟨l, e⟩
    exact ⟨false, fun n hn => runF_ret (by simp [g_is_look, dIsT_tuple h, z]), fun t n hn => by simp [bodyT, dIsT_tuple h, z]⟩
theorem test_reads {L : Nat} {st : Store} : ∀ (k : Nat) (d : D), Sh L k d → k ≤ 64 → ∃ b, (∀ n, 2 * k ≤ n → fns (n + 3) .is_test [d] st = .ok (.bl b) st) ∧ ∀ n, 2 * k ≤ n → fns (n + 2) .l_reads_test [d] st = .ok (.bl b) st := by
  intro k
  induction k using Nat.strongRecOn with
  | _ k IH =>
  intro d h hk
  by_cases ht : ∃ l, d = .tup l
  · obtain ⟨l, rfl⟩ := ht
    cases k with
    | zero => simp [Sh] at h
    | succ k =>
      have h' := h
      simp only [Sh] at h'
      have key : ∀ d ∈ l, ∃ b, (∀ n, 2 * (k - 1) ≤ n → fns (n + 4) .is_look [d] st = .ok (.bl b) st) ∧ ∀ (t : D) n, 2 * (k - 1) ≤ n → bodyT (n + 2) [some t, some d] st = .ok (if b = true then .nx [some t, some d] else .ret (.bl false)) st :=
        fun d hd => look_step (h'.2 d hd) (by omega) fun e he => IH (k - 1) (by omega) e he (by omega)
      obtain ⟨f, hf⟩ := pickD key
      refine ⟨l.all f, fun n hn => runF_ret ?_, fun n hn => runF_ret ?_⟩
      · obtain ⟨m, rfl⟩ : ∃ m, n = m + 2 := ⟨n - 2, by omega⟩
        have e : eComp [1] (iSeq (eVar 0)) (tgName 1) (fun _ => pure true) (eCall (fns (m + 4) .is_look) [(eVar 1)]) [some (.tup l), none] st = .ok (.lst (l.map fun d => .bl (f d))) st := by
          refine eComp_of (l := l) (st1 := st) (by simp) ?_
          rw [compGo_map fun d => .bl (f d)]
          · simp
          · intro d hd
            simp [evWipe, (hf d hd).1 m (by omega)]
        simp [g_is_test, dIsT_tuple h, qTup, e, dAll, bools_map]
      · obtain ⟨m, rfl⟩ : ∃ m, n = m + 1 := ⟨n - 1, by omega⟩
        obtain ⟨env', e⟩ := forGo_allF (t := .tup l) (o := none) (l := l) (r := .bl false) (st := st) (g := bodyT (m + 2)) f fun d hd => ⟨[some (.tup l), some d], ⟨_, rfl⟩, (hf d hd).2 _ m (by omega)⟩
        unfold bodyT at e
        cases q : l.all f <;> rw [q] at e <;> simp [g_l_reads_test, dIsT_tuple h, qTup, e]
  · have z : qTup d = false := notTup h fun l e => ht ⟨l, e⟩
    exact ⟨false, fun n _ => runF_ret (by simp [g_is_test, dIsT_tuple h, z]), fun n _ => runF_ret (by simp [g_l_reads_test, dIsT_tuple h, z])⟩
end K81
end

section
set_option Elab.async false
set_option linter.all false
set_option maxRecDepth 100000
set_option maxHeartbeats 1000000
namespace K81
open PySem L2 G
/-! ## the pot and the room -/
def PotC (c : Cell) : Prop := ∃ a b : Int, c = .lst [.int a, .int b] ∧ 0 ≤ b ∧ b < 2 ^ 40
def RoomC (c : Cell) : Prop := ∃ g : Int, c = .dct [(.inr "great", .int g)]
/-- what stays true of the store: the pot i, and from the cell j on anything; what lies before is kept -/
structure Inv (i j : Nat) (s0 st : Store) : Prop where
  pot : ∃ c, st[i]? = some c ∧ PotC c
  room : ∃ c, st[j]? = some c ∧ RoomC c
  rest : ∀ k, k ≠ i → k ≠ j → st[k]? = s0[k]?
  ne : i ≠ j
def Pot (i : Nat) (st : Store) : Prop := ∃ c, st[i]? = some c ∧ PotC c
theorem digit {i n : Nat} {m : Int} {st : Store} (h : Pot i st) (hm : 0 < m) (hm2 : divOk m = true) : ∃ r st', fns (n + 1) .l_digit [.cell i, .int m] st = .ok (.int r) st' ∧ 0 ≤ r ∧ r < m ∧ Pot i st' ∧ ∀ k, k ≠ i → st'[k]? = st[k]? := by
  obtain ⟨c, hc, a, b, rfl, hb, hb2⟩ := h
  have hl : i < st.length := (List.getElem?_eq_some_iff.mp hc).1
  have cl : cellL st i = some [.int a, .int b] := by unfold cellL; rw [hc]
  have i0 := dIdx_cn (k := 0) cl rfl
  have i1 := dIdx_cn (k := 1) cl rfl
  simp only [Int.ofNat_eq_natCast, Int.natCast_zero] at i0
  have x0 : ixN 2 0 = some 0 := rfl
  have x1 : ixN 2 1 = some 1 := rfl
  by_cases ha : 0 < a
  · refine ⟨a % m, st.set i (.lst [.int (a / m), .int b]), runF_ret ?_, Int.emod_nonneg _ (by omega), Int.emod_lt_of_pos _ hm, ⟨_, by rw [List.getElem?_set_self hl], _, _, rfl, hb, hb2⟩, fun k hk => by rw [List.getElem?_set_ne (Ne.symm hk)]⟩
    simp [g_l_digit, i0, ha, dDivmod_of hm2, putIdx, hc, x0]
  · have e1 : mulOk b 48271 = true := mulOk_of (a := 40) (b := 16) (by omega) (by decide) (by decide) (by decide)
    obtain ⟨b', hbe⟩ : ∃ b', (b * 48271 + 12345) % 2147483647 = b' := ⟨_, rfl⟩
    have hb' : 0 ≤ b' := by rw [← hbe]; exact Int.emod_nonneg _ (by decide)
    have hb3 : b' < 2147483647 := by rw [← hbe]; exact Int.emod_lt_of_pos _ (by decide)
    have e2 : mulOk b' b' = true := mulOk_of (a := 31) (b := 31) (by omega) (by omega) (by decide) (by decide)
    have cl2 : cellL (st.set i (.lst [.int a, .int b'])) i = some [.int a, .int b'] := by unfold cellL; rw [List.getElem?_set_self hl]
    have j1 := dIdx_cn (k := 1) cl2 rfl
    refine ⟨(b' * b') % 2147483629 / 7 % m, st.set i (.lst [.int a, .int b']), runF_ret ?_, Int.emod_nonneg _ (by omega), Int.emod_lt_of_pos _ hm, ⟨_, by rw [List.getElem?_set_self hl], _, _, rfl, hb', by omega⟩, fun k hk => by rw [List.getElem?_set_ne (Ne.symm hk)]⟩
    have d7 : divOk 7 = true := by decide
    have m1 : ∀ (z : Int) (st : Store), dMod (.int z) (.int 2147483647) st = some (.int (z % 2147483647)) := fun z st => dMod_of (by decide)
    have m2 : ∀ (z : Int) (st : Store), dMod (.int z) (.int 2147483629) st = some (.int (z % 2147483629)) := fun z st => dMod_of (by decide)
    have m3 : ∀ (z : Int) (st : Store), dMod (.int z) (.int m) st = some (.int (z % m)) := fun z st => dMod_of hm
    simp only [Int.ofNat_eq_natCast, Int.natCast_one] at i1 j1
    simp [g_l_digit, i0, ha, i1, dMul_of e1, m1, putIdx, hc, x1, hbe, j1, dMul_of e2, m2, m3, dDiv_of d7]

structure Inv' (i j : Nat) (s0 st : Store) : Prop where
  pot : Pot i st
  room : ∃ c, st[j]? = some c ∧ RoomC c
  rest : ∀ k, k ≠ i → k ≠ j → st[k]? = s0[k]?
  ne : i ≠ j
theorem digitI {i j n : Nat} {m : Int} {s0 st : Store} (h : Inv' i j s0 st) (hm : 0 < m) (hm2 : divOk m = true) : ∃ r st', fns (n + 1) .l_digit [.cell i, .int m] st = .ok (.int r) st' ∧ 0 ≤ r ∧ r < m ∧ Inv' i j s0 st' := by
  obtain ⟨r, st', e, h0, h1, p, q⟩ := digit (n := n) h.pot hm hm2
  refine ⟨r, st', e, h0, h1, p, ?_, fun k hi hj => (q k hi).trans (h.rest k hi hj), h.ne⟩
  rw [q j (Ne.symm h.ne)]
  exact h.room
theorem dPow_of {i j : Int} {st : Store} (h : powOk i j = true) : dPow (.int i) (.int j) st = some (.int (i ^ j.toNat)) := by simp only [dPow, if_pos h]
theorem p10 {st : Store} : dPow (.int 10) (.int 10) st = some (.int 10000000000) := dPow_of (by decide)
theorem p29 {st : Store} : dPow (.int 10) (.int 29) st = some (.int 100000000000000000000000000000) := dPow_of (by decide)
theorem p18 {st : Store} : dPow (.int 10) (.int 18) st = some (.int 1000000000000000000) := dPow_of (by decide)
theorem whole {i j n : Nat} {s0 st : Store} (h : Inv' i j s0 st) : ∃ r st', fns (n + 2) .l_whole [.cell i, .cell j] st = .ok (.int r) st' ∧ r.natAbs ≤ 10 ^ 30 ∧ Inv' i j s0 st' := by
  obtain ⟨r1, s1, e1, p1, q1, h1⟩ := digitI (n := n) h (m := 8) (by decide) (by decide)
  have small : ∀ s1, Inv' i j s0 s1 → ∃ r st', fns (n + 1) .l_digit [.cell i, .int 23] s1 = .ok (.int r) st' ∧ (r - 11).natAbs ≤ 10 ^ 30 ∧ Inv' i j s0 st' := by
    intro s1 h1
    obtain ⟨r, s2, e2, p2, q2, h2⟩ := digitI (n := n) h1 (m := 23) (by decide) (by decide)
    exact ⟨r, s2, e2, by omega, h2⟩
  obtain ⟨r2, s2, e2, b2, h2⟩ := small s1 h1
  by_cases c1 : r1 < 7
  · exact ⟨r2 - 11, s2, runF_ret (by simp [g_l_whole, e1, c1, e2]), b2, h2⟩
  · obtain ⟨c, hc, g, rfl⟩ := h1.room
    have gt : ∀ (d : Option (Option D)), dGet (.cell j) (.str "great") s1 = some (.int g) := by
      intro _
      simp only [dGet, keyOf, hc, valD]
      rfl
    have gt := gt none
    by_cases c2 : g = 0
    · subst c2
      exact ⟨r2 - 11, s2, runF_ret (by simp [g_l_whole, e1, c1, e2, gt]), b2, h2⟩
    · have hl : j < s1.length := (List.getElem?_eq_some_iff.mp hc).1
      have pk : putKey (.cell j) (.str "great") (.int (g - 1)) s1 = .ok () (s1.set j (.dct [(.inr "great", .int (g - 1))])) := by
        simp only [putKey, keyOf, hc]
        rfl
      have h3 : Inv' i j s0 (s1.set j (.dct [(.inr "great", .int (g - 1))])) := by
        refine ⟨?_, ⟨_, by rw [List.getElem?_set_self hl], _, rfl⟩, fun k hi hj => by rw [List.getElem?_set_ne (Ne.symm hj)]; exact h1.rest k hi hj, h1.ne⟩
        obtain ⟨c, hc, pc⟩ := h1.pot
        exact ⟨c, by rw [List.getElem?_set_ne (Ne.symm h1.ne)]; exact hc, pc⟩
      generalize s1.set j (.dct [(.inr "great", .int (g - 1))]) = s3 at h3 pk
      let B : Ev → M Fl := (sAsg 2 (eOp dAdd (eOp dMul (eVar 2) (eOp dPow (eC (.int 10)) (eC (.int 10)))) (eCall (fns (n + 1) .l_digit) [(eVar 0), (eOp dPow (eC (.int 10)) (eC (.int 10)))])))
      have step : ∀ (v : Nat) (o : Option D) (st : Store) (d : D), v ≤ 10 ^ 20 → Inv' i j s0 st → ∃ v' st', (v' : Nat) < (v + 1) * 10000000000 ∧ Inv' i j s0 st' ∧ B [some (.cell i), o, some (.int v), some d] st = .ok (.nx [some (.cell i), o, some (.int (v' : Nat)), some d]) st' := by
        intro v o st d hv hs
        obtain ⟨r, s4, e4, p4, q4, h4⟩ := digitI (n := n) hs (m := 10000000000) (by decide) (by decide)
        have hm : mulOk (v : Int) 10000000000 = true := mulOk_of (a := 80) (b := 40) (by omega) (by decide) (by decide) (by decide)
        obtain ⟨r', rfl⟩ : ∃ r' : Nat, r = (r' : Int) := ⟨r.toNat, by omega⟩
        refine ⟨v * 10000000000 + r', s4, by omega, h4, ?_⟩
        simp [B, p10, dMul_of hm, e4]
      obtain ⟨v1, t1, b1, i1, f1⟩ := step 0 (some (.cell j)) s3 (.int 0) (by omega) h3
      obtain ⟨v2, t2, b2, i2, f2⟩ := step v1 (some (.cell j)) t1 (.int 1) (by omega) i1
      obtain ⟨v3, t3, b3, i3, f3⟩ := step v2 (some (.cell j)) t2 (.int 2) (by omega) i2
      obtain ⟨z, t4, e4, p4, q4, i4⟩ := digitI (n := n) i3 (m := 2) (by decide) (by decide)
      have rg : iRange (eC (.int 3)) = fun _ st => .ok [.int 0, .int 1, .int 2] st := rfl
      have lp : forGo (tgName 3) B [.int 0, .int 1, .int 2] [some (.cell i), some (.cell j), some (.int 0), none] s3 = .ok (.nx [some (.cell i), some (.cell j), some (.int (v3 : Nat)), some (.int 2)]) t3 := by
        simp only [forGo, tgName, List.set_cons_succ, List.set_cons_zero, bind_app, f2, f3, bnd_ok, pure_app']
        have f1' : B [some (.cell i), some (.cell j), some (.int 0), some (.int 0)] s3 = .ok (.nx [some (.cell i), some (.cell j), some (.int (v1 : Nat)), some (.int 0)]) t1 := f1
        rw [f1']
        simp only [List.set_cons_succ, List.set_cons_zero, bind_app, f2, f3, bnd_ok, pure_app']
      have go : ∀ y : Int, dIdx (.lst [.int (v3 : Nat), .int (-(v3 : Nat))]) (.int z) t4 = some (.int y) → fns (n + 2) .l_whole [.cell i, .cell j] st = .ok (.int y) t4 := by
        intro y hy
        refine runF_ret ?_
        simp [g_l_whole, e1, c1, gt, c2, pk, rg]
        rw [lp]
        simp [e4, hy]
      rcases (by omega : z = 0 ∨ z = 1) with rfl | rfl
      · exact ⟨(v3 : Nat), t4, go _ (dIdx_l0 _ _), by omega, i4⟩
      · exact ⟨-(v3 : Nat), t4, go _ (dIdx_l1 _ _ _), by omega, i4⟩
end K81
end

section
set_option Elab.async false
set_option linter.all false
set_option maxRecDepth 100000
set_option maxHeartbeats 1000000
namespace K81
open PySem L2 G
def IsCh (d : D) : Prop := d = .tup [.str "one"] ∨ d = .tup [.str "sum"] ∨ (∃ c : Int, c.natAbs ≤ 10 ^ 30 ∧ d = .tup [.str "add", .int c]) ∨ (∃ c : Int, c.natAbs ≤ 10 ^ 30 ∧ d = .tup [.str "times", .int c]) ∨ ∃ c : Int, 0 < c ∧ c.natAbs ≤ 10 ^ 30 ∧ d = .tup [.str "rest", .int c]
def IsRule (d : D) : Prop := ∃ l, d = .tup l ∧ l.length ≤ 3 ∧ ∀ c ∈ l, IsCh c
def Look0 (d : D) : Prop := (∃ m r : Int, 0 < m ∧ m.natAbs ≤ 10 ^ 30 ∧ r.natAbs ≤ 10 ^ 30 ∧ d = .tup [.str "rest", .int m, .int r]) ∨ ∃ c : Int, c.natAbs ≤ 10 ^ 30 ∧ d = .tup [.str "below", .int c]
def IsLook : Nat → D → Prop
  | 0, d => Look0 d
  | k + 1, d => Look0 d ∨ ∃ r l, IsRule r ∧ l.length ≤ 2 ∧ (∀ x ∈ l, IsLook k x) ∧ d = .tup [.str "after", r, .tup l]
def IsTest (k : Nat) (d : D) : Prop := ∃ l, d = .tup l ∧ l.length ≤ 2 ∧ ∀ x ∈ l, IsLook k x
theorem look0 {k : Nat} {d : D} (h : Look0 d) : IsLook k d := by cases k <;> simp only [IsLook] <;> first | exact h | exact .inl h
def Gd (B : Nat) : Nat → D → Prop
  | 0, d => ∃ i : Int, d = .int i ∧ i.natAbs ≤ B
  | h + 1, d => (∃ i : Int, d = .int i ∧ i.natAbs ≤ B) ∨ ∃ l, d = .tup l ∧ l.length ≤ 3 ∧ ∀ x ∈ l, Gd B h x
theorem gd0 {B k : Nat} {i : Int} (h : i.natAbs ≤ B) : Gd B k (.int i) := by cases k <;> simp only [Gd] <;> first | exact ⟨i, rfl, h⟩ | exact .inl ⟨i, rfl, h⟩
section
variable {i j : Nat} {s0 : Store}
theorem change {n : Nat} {st : Store} (h : Inv' i j s0 st) : ∃ c st', fns (n + 3) .l_change [.cell i, .cell j] st = .ok c st' ∧ IsCh c ∧ Inv' i j s0 st' := by
  obtain ⟨r1, s1, e1, p1, q1, h1⟩ := digitI (n := n + 1) h (m := 5) (by decide) (by decide)
  by_cases c1 : r1 < 2
  · obtain ⟨w, s2, e2, b2, h2⟩ := whole (n := n) h1
    rcases (by omega : r1 = 0 ∨ r1 = 1) with rfl | rfl
    · exact ⟨.tup [.str "add", .int w], s2, runF_ret (by simp [g_l_change, e1, e2]), .inr (.inr (.inl ⟨w, b2, rfl⟩)), h2⟩
    · exact ⟨.tup [.str "times", .int w], s2, runF_ret (by simp [g_l_change, e1, e2]), .inr (.inr (.inr (.inl ⟨w, b2, rfl⟩))), h2⟩
  · rcases (by omega : r1 = 2 ∨ r1 = 3 ∨ r1 = 4) with rfl | rfl | rfl
    · obtain ⟨z, s2, e2, p2, q2, h2⟩ := digitI (n := n + 1) h1 (m := 2) (by decide) (by decide)
      rcases (by omega : z = 0 ∨ z = 1) with rfl | rfl
      · obtain ⟨y, s3, e3, p3, q3, h3⟩ := digitI (n := n + 1) h2 (m := 12) (by decide) (by decide)
        exact ⟨.tup [.str "rest", .int (1 + y)], s3, runF_ret (by simp [g_l_change, e1, e2, p29, e3]), .inr (.inr (.inr (.inr ⟨1 + y, by omega, by omega, rfl⟩))), h3⟩
      · obtain ⟨y, s3, e3, p3, q3, h3⟩ := digitI (n := n + 1) h2 (m := 100000000000000000000000000000) (by decide) (by decide)
        exact ⟨.tup [.str "rest", .int (1 + y)], s3, runF_ret (by simp [g_l_change, e1, e2, p29, e3]), .inr (.inr (.inr (.inr ⟨1 + y, by omega, by omega, rfl⟩))), h3⟩
    · exact ⟨.tup [.str "one"], s1, runF_ret (by simp [g_l_change, e1]), .inl rfl, h1⟩
    · exact ⟨.tup [.str "sum"], s1, runF_ret (by simp [g_l_change, e1]), .inr (.inl rfl), h1⟩
theorem rule {n : Nat} {st : Store} (h : Inv' i j s0 st) : ∃ c st', fns (n + 4) .l_rule [.cell i, .cell j] st = .ok c st' ∧ IsRule c ∧ Inv' i j s0 st' := by
  obtain ⟨r1, s1, e1, p1, q1, h1⟩ := digitI (n := n + 2) h (m := 4) (by decide) (by decide)
  obtain ⟨ys, s2, e2, h2, l2, a2⟩ := compGo_inv (i := 2) (env := [some (.cell i), some (.cell j), none]) (fe := eCall (fns (n + 3) .l_change) [(eVar 0), (eVar 1)]) (Inv' i j s0) IsCh (rangeD r1.toNat) [] s1 (fun d _ st h => by
    obtain ⟨c, st', e, a, b⟩ := change (n := n) h
    exact ⟨c, st', by simp [e], b, a⟩) h1
  refine ⟨.tup ys, s2, runF_ret ?_, ⟨ys, rfl, ?_, a2⟩, h2⟩
  · have e3 := eComp_of (vs := [2]) (st := st) (env := [some (.cell i), some (.cell j), none]) (fi := iRange (eCall (fns (n + 3) .l_digit) [(eVar 0), (eC (.int 4))])) (tg := tgName 2) (tt := fun _ => pure true) (iRange_at (st' := s1) (i := r1) (by simp [e1]) (by omega) (by omega)) e2
    simp [g_l_rule, e3]
  · rw [l2]; simp [rangeD]; omega
theorem look_of {m k : Nat} {st : Store} (h : Inv' i j s0 st) (T : ∀ k', k = k' + 1 → ∀ st, Inv' i j s0 st → ∃ c st', fns (m + 4) .l_test [.cell i, .cell j, .int (k' : Nat)] st = .ok c st' ∧ IsTest k' c ∧ Inv' i j s0 st') :
    ∃ c st', fns (m + 5) .l_look [.cell i, .cell j, .int (k : Nat)] st = .ok c st' ∧ IsLook k c ∧ Inv' i j s0 st' := by
  obtain ⟨r1, s1, e1, p1, q1, h1⟩ := digitI (n := m + 3) h (m := 4) (by decide) (by decide)
  by_cases c1 : r1 < 2
  · obtain ⟨y, s2, e2, p2, q2, h2⟩ := digitI (n := m + 3) h1 (m := 4) (by decide) (by decide)
    have dk : divOk (1 + y) = true := by
      rcases (by omega : y = 0 ∨ y = 1 ∨ y = 2 ∨ y = 3) with rfl | rfl | rfl | rfl <;> decide
    obtain ⟨z, s3, e3, p3, q3, h3⟩ := digitI (n := m + 3) h2 (m := 1 + y) (by omega) dk
    exact ⟨.tup [.str "rest", .int (1 + y), .int z], s3, runF_ret (by simp [g_l_look, e1, c1, e2, e3]), look0 (.inl ⟨1 + y, z, by omega, by omega, by omega, rfl⟩), h3⟩
  · by_cases c2 : r1 = 2
    · obtain ⟨w, s2, e2, b2, h2⟩ := whole (n := m + 2) h1
      exact ⟨.tup [.str "below", .int w], s2, runF_ret (by simp [g_l_look, e1, c1, c2, e2]), look0 (.inr ⟨w, b2, rfl⟩), h2⟩
    · cases k with
      | zero =>
        obtain ⟨w, s2, e2, b2, h2⟩ := whole (n := m + 2) h1
        exact ⟨.tup [.str "below", .int w], s2, runF_ret (by simp [g_l_look, e1, c1, c2, e2]), look0 (.inr ⟨w, b2, rfl⟩), h2⟩
      | succ k =>
        obtain ⟨r, s2, e2, b2, h2⟩ := rule (n := m) h1
        obtain ⟨t, s3, e3, ⟨l, rfl, hl, hx⟩, h3⟩ := T k rfl s2 h2
        have c3 : ¬ ((k : Int) + 1 = 0) := by omega
        have c4 : (k : Int) + 1 - 1 = k := by omega
        exact ⟨.tup [.str "after", r, .tup l], s3, runF_ret (by simp [g_l_look, e1, c1, c2, c3, c4, e2, e3]), .inr ⟨r, l, b2, hl, hx, rfl⟩, h3⟩
theorem test_of {m k : Nat} {st : Store} (h : Inv' i j s0 st) (Lk : ∀ st, Inv' i j s0 st → ∃ c st', fns (m + 1) .l_look [.cell i, .cell j, .int (k : Nat)] st = .ok c st' ∧ IsLook k c ∧ Inv' i j s0 st') :
    ∃ c st', fns (m + 2) .l_test [.cell i, .cell j, .int (k : Nat)] st = .ok c st' ∧ IsTest k c ∧ Inv' i j s0 st' := by
  obtain ⟨r1, s1, e1, p1, q1, h1⟩ := digitI (n := m) h (m := 3) (by decide) (by decide)
  obtain ⟨ys, s2, e2, h2, l2, a2⟩ := compGo_inv (i := 3) (env := [some (.cell i), some (.cell j), some (.int (k : Nat)), none]) (fe := eCall (fns (m + 1) .l_look) [(eVar 0), (eVar 1), (eVar 2)]) (Inv' i j s0) (IsLook k) (rangeD r1.toNat) [] s1 (fun d _ st h => by
    obtain ⟨c, st', e, a, b⟩ := Lk st h
    exact ⟨c, st', by simp [e], b, a⟩) h1
  refine ⟨.tup ys, s2, runF_ret ?_, ⟨ys, rfl, ?_, a2⟩, h2⟩
  · have e3 := eComp_of (vs := [3]) (st := st) (env := [some (.cell i), some (.cell j), some (.int (k : Nat)), none]) (fi := iRange (eCall (fns (m + 1) .l_digit) [(eVar 0), (eC (.int 3))])) (tg := tgName 3) (tt := fun _ => pure true) (iRange_at (st' := s1) (i := r1) (by simp [e1]) (by omega) (by omega)) e2
    simp [g_l_test, e3]
  · rw [l2]; simp [rangeD]; omega
theorem testP {n : Nat} : ∀ (k : Nat) (st : Store), Inv' i j s0 st → ∃ c st', fns (n + 2 * k + 6) .l_test [.cell i, .cell j, .int (k : Nat)] st = .ok c st' ∧ IsTest k c ∧ Inv' i j s0 st' := by
  intro k
  induction k with
  | zero => exact fun st h => test_of (m := n + 4) h fun st h => look_of (m := n) h fun k' e => absurd e (by omega)
  | succ k ih =>
    exact fun st h => test_of (m := n + 2 * k + 6) h fun st h => look_of (m := n + 2 * k + 2) h fun k' e => by
      obtain rfl : k' = k := by omega
      exact ih
theorem giftP {n : Nat} : ∀ (k : Nat) (st : Store), Inv' i j s0 st → ∃ c st', fns (n + k + 3) .l_gift [.cell i, .cell j, .int (k : Nat)] st = .ok c st' ∧ Gd (10 ^ 30) k c ∧ Inv' i j s0 st' := by
  intro k
  induction k with
  | zero =>
    intro st h
    obtain ⟨w, s2, e2, b2, h2⟩ := whole (n := n) h
    exact ⟨.int w, s2, runF_ret (by simp [g_l_gift, e2]), gd0 b2, h2⟩
  | succ k ih =>
    intro st h
    obtain ⟨r1, s1, e1, p1, q1, h1⟩ := digitI (n := n + k + 2) h (m := 3) (by decide) (by decide)
    have c3 : ¬ ((k : Int) + 1 = 0) := by omega
    have c4 : (k : Int) + 1 - 1 = k := by omega
    have e5 : fns (n + (k + 1) + 2) = fns (n + k + 3) := rfl
    by_cases c1 : 0 < r1
    · obtain ⟨w, s2, e2, b2, h2⟩ := whole (n := n + k + 1) h1
      exact ⟨.int w, s2, runF_ret (by simp [g_l_gift, c3, e1, c1, e5, e2]), gd0 b2, h2⟩
    · obtain ⟨r2, s2, e2, p2, q2, h2⟩ := digitI (n := n + k + 2) h1 (m := 4) (by decide) (by decide)
      obtain ⟨ys, s3, e3, h3, l3, a3⟩ := compGo_inv (i := 3) (env := [some (.cell i), some (.cell j), some (.int ((k : Int) + 1)), none]) (fe := eCall (fns (n + k + 3) .l_gift) [(eVar 0), (eVar 1), (eOp dSub (eVar 2) (eC (.int 1)))]) (Inv' i j s0) (Gd (10 ^ 30) k) (rangeD r2.toNat) [] s2 (fun d _ st h => by
        obtain ⟨c, st', e, a, b⟩ := ih st h
        exact ⟨c, st', by simp [c4, e], b, a⟩) h2
      refine ⟨.tup ys, s3, runF_ret ?_, .inr ⟨ys, rfl, ?_, a3⟩, h3⟩
      · have e4 := eComp_of (vs := [3]) (st := s1) (env := [some (.cell i), some (.cell j), some (.int ((k : Int) + 1)), none]) (fi := iRange (eCall (fns (n + k + 3) .l_digit) [(eVar 0), (eC (.int 4))])) (tg := tgName 3) (tt := fun _ => pure true) (iRange_at (st' := s2) (i := r2) (by simp [e2]) (by omega) (by omega)) e3
        simp [g_l_gift, c3, e1, c1, e5, e4]
      · rw [l3]; simp [rangeD]; omega
end
end K81
end

section
set_option Elab.async false
set_option linter.all false
set_option maxRecDepth 100000
set_option maxHeartbeats 1000000
namespace K81
open PySem L2 G
section
variable {i j : Nat} {s0 : Store}
def oddL : List D := [.non, .bl true, .bl false, .int 0, .int (-1), .int 1, .int 7, .int 100000000000000000000000000000, .str "", .str "add", .str "times", .str "rest", .str "one", .str "sum", .str "below", .str "after", .tup [], .lst [], .tup [.str "one"], .tup [.str "add", .int 1]]
theorem odd_sh {L : Nat} (hL : 2 ≤ L) : ∀ x ∈ oddL, Sh L 1 x := by
  have o1 : PyData.strOk "" = true := by decide +kernel
  have o2 : PyData.strOk "add" = true := by decide +kernel
  have o3 : PyData.strOk "times" = true := by decide +kernel
  have o4 : PyData.strOk "rest" = true := by decide +kernel
  have o5 : PyData.strOk "one" = true := by decide +kernel
  have o6 : PyData.strOk "sum" = true := by decide +kernel
  have o7 : PyData.strOk "below" = true := by decide +kernel
  have o8 : PyData.strOk "after" = true := by decide +kernel
  have hL1 : 1 ≤ L := by omega
  simp [oddL, Sh, o1, o2, o3, o4, o5, o6, o7, o8, hL, hL1]
theorem divOk_small {m : Int} (h : 0 < m) (h2 : m ≤ 1000000) : divOk m = true := by
  unfold divOk
  refine decide_eq_true ⟨h, ?_⟩
  exact Nat.lt_of_lt_of_le ((Nat.log2_lt (by omega)).mpr (by omega : m.natAbs < 2 ^ 20)) (by decide)
theorem cut_mem {l : List D} {lo hi : Option Int} {x : D} (h : x ∈ cut l lo hi) : x ∈ l := List.mem_of_mem_drop (List.mem_of_mem_take h)
theorem add_tup {a b : List D} {st : Store} (h : a.length + b.length ≤ 16777216) : dAdd (.tup a) (.tup b) st = some (.tup (a ++ b)) := by
  simp only [dAdd]
  rw [if_pos (by simpa [sizeLine] using h)]
def spRest (m : Nat) : Ev → M Fl := (sSeq (sAsg 5 (eCall (fns (m + 1) .l_digit) [(eVar 0), (eOp dAdd (eB dLen [(eVar 1)]) (eC (.int 1)))])) (sSeq (sIf (tAnd' (tVal (eOp dEq (eVar 4) (eC (.int 0)))) (tVal (eOp dLt (eVar 5) (eB dLen [(eVar 1)])))) (sRet (eOp dAdd (eSl (eVar 1) pNo (pAt (eVar 5))) (eSl (eVar 1) (pAt (eOp dAdd (eVar 5) (eC (.int 1)))) pNo))) sNop) (sSeq (sIf (tOr' (tVal (eOp dEq (eVar 4) (eC (.int 1)))) (tVal (eOp dEq (eVar 5) (eB dLen [(eVar 1)])))) (sRet (eOp dAdd (eOp dAdd (eSl (eVar 1) pNo (pAt (eVar 5))) (eTup [(eVar 3)])) (eSl (eVar 1) (pAt (eVar 5)) pNo))) sNop) (sRet (eOp dAdd (eOp dAdd (eSl (eVar 1) pNo (pAt (eVar 5))) (eTup [(eCall (fns (m + 1) .l_spoilt) [(eVar 0), (eOp dIdx (eVar 1) (eVar 5))])])) (eSl (eVar 1) (pAt (eOp dAdd (eVar 5) (eC (.int 1)))) pNo))))))
theorem sp_rest {m L k : Nat} (hL2 : L ≤ 1000) {l : List D} {od o : D} {w : Int} {st : Store} (hl : l.length ≤ L) (hx : ∀ x ∈ l, Sh (2 * L + 1) k x) (ho : Sh (2 * L + 1) k o) (IH : ∀ x ∈ l, ∀ st, Inv' i j s0 st → ∃ c st', fns (m + 1) .l_spoilt [.cell i, x] st = .ok c st' ∧ Sh (2 * L + 1) k c ∧ Inv' i j s0 st') (h : Inv' i j s0 st) :
    ∃ c st', spRest m [some (.cell i), some (.tup l), some od, some o, some (.int w), none] st = .ok (.ret c) st' ∧ Sh (2 * L + 1) (k + 1) c ∧ Inv' i j s0 st' := by
  obtain ⟨a, s1, e1, p1, q1, h1⟩ := digitI (n := m) h (m := (l.length : Int) + 1) (by omega) (divOk_small (by omega) (by omega))
  obtain ⟨a, rfl⟩ : ∃ a' : Nat, a = (a' : Int) := ⟨a.toNat, by omega⟩
  have cl1 := cut_len l none (some (a : Int))
  have cl2 := cut_len l (some (a : Int)) none
  have cl3 := cut_len l (some ((a : Int) + 1)) none
  by_cases c1 : w = 0 ∧ (a : Int) < l.length
  · refine ⟨.tup (cut l none (some (a : Int)) ++ cut l (some ((a : Int) + 1)) none), s1, ?_, ?_, h1⟩
    · simp [spRest, e1, c1.1, c1.2, dSl, add_tup (a := cut l none (some (a : Int))) (b := cut l (some ((a : Int) + 1)) none) (by omega)]
    · simp only [Sh]
      refine ⟨by rw [List.length_append]; omega, fun x hm => ?_⟩
      rcases List.mem_append.mp hm with hm | hm <;> exact hx x (cut_mem hm)
  · by_cases c2 : w = 1 ∨ (a : Int) = l.length
    · refine ⟨.tup (cut l none (some (a : Int)) ++ [o] ++ cut l (some (a : Int)) none), s1, ?_, ?_, h1⟩
      · have t1 := fun st => add_tup (st := st) (a := cut l none (some (a : Int))) (b := [o]) (by simp; omega)
        have t2 := fun st => add_tup (st := st) (a := cut l none (some (a : Int)) ++ [o]) (b := cut l (some (a : Int)) none) (by rw [List.length_append]; simp; omega)
        by_cases w0 : w = 0
        · have c3 : ¬ (a : Int) < l.length := fun z => c1 ⟨w0, z⟩
          have c4 : (a : Int) = l.length := by omega
          subst w0
          have c5 : (a < l.length) = False := eq_false (by omega)
          have c6 : ((a : Int) = (l.length : Int)) = True := eq_true (by omega)
          simp [spRest, e1, c5, c6, dSl, t1, t2]
        · by_cases w1 : w = 1
          · subst w1
            simp [spRest, e1, dSl, t1, t2]
          · have c6 : ((a : Int) = (l.length : Int)) = True := eq_true (by omega)
            simp [spRest, e1, w0, w1, c6, dSl, t1, t2]
      · simp only [Sh]
        refine ⟨by rw [List.length_append, List.length_append]; simp; omega, fun x hm => ?_⟩
        rcases List.mem_append.mp hm with hm | hm
        · rcases List.mem_append.mp hm with hm | hm
          · exact hx x (cut_mem hm)
          · rw [List.mem_singleton.mp hm]; exact ho
        · exact hx x (cut_mem hm)
    · have ha : a < l.length := by omega
      obtain ⟨x, hxe⟩ : ∃ x, l[a]? = some x := ⟨_, List.getElem?_eq_getElem ha⟩
      obtain ⟨y, s2, e2, y2, h2⟩ := IH x (List.mem_of_getElem? hxe) s1 h1
      refine ⟨.tup (cut l none (some (a : Int)) ++ [y] ++ cut l (some ((a : Int) + 1)) none), s2, ?_, ?_, h2⟩
      · have t1 := fun st => add_tup (st := st) (a := cut l none (some (a : Int))) (b := [y]) (by simp; omega)
        have t2 := fun st => add_tup (st := st) (a := cut l none (some (a : Int)) ++ [y]) (b := cut l (some ((a : Int) + 1)) none) (by rw [List.length_append]; simp; omega)
        have w1 : ¬ w = 1 := fun z => c2 (.inl z)
        have c6 : ((a : Int) = (l.length : Int)) = False := eq_false (by omega)
        have w0 : ¬ w = 0 := fun z => c1 ⟨z, by omega⟩
        have dx := fun st => dIdx_tn (st := st) hxe
        simp [spRest, e1, w0, w1, c6, dSl, t1, t2, dx, e2]
      · simp only [Sh]
        refine ⟨by rw [List.length_append, List.length_append]; simp; omega, fun x hm => ?_⟩
        rcases List.mem_append.mp hm with hm | hm
        · rcases List.mem_append.mp hm with hm | hm
          · exact hx x (cut_mem hm)
          · rw [List.mem_singleton.mp hm]; exact y2
        · exact hx x (cut_mem hm)
theorem g_sp (m : Nat) : g_l_spoilt (fns (m + 1)) = (sSeq (sAsg 2 (eLst [(eC .non), (eC (.bl true)), (eC (.bl false)), (eC (.int 0)), (eUn dNeg (eC (.int 1))), (eC (.int 1)), (eC (.int 7)), (eOp dPow (eC (.int 10)) (eC (.int 29))), (eC (.str "")), (eC (.str "add")), (eC (.str "times")), (eC (.str "rest")), (eC (.str "one")), (eC (.str "sum")), (eC (.str "below")), (eC (.str "after")), (eTup []), (eLst []), (eTup [(eC (.str "one"))]), (eTup [(eC (.str "add")), (eC (.int 1))])])) (sSeq (sAsg 3 (eOp dIdx (eVar 2) (eCall (fns (m + 1) .l_digit) [(eVar 0), (eC (.int 20))]))) (sSeq (sAsg 4 (eCall (fns (m + 1) .l_digit) [(eVar 0), (eC (.int 4))])) (sSeq (sIf (tOr' (tNot' (tVal (eUn (dIsT "tuple") (eVar 1)))) (tAnd' (tVal (eOp dEq (eVar 4) (eC (.int 3)))) (tVal (eOp dEq (eCall (fns (m + 1) .l_digit) [(eVar 0), (eC (.int 3))]) (eC (.int 0)))))) (sRet (eVar 3)) sNop) (spRest m))))) := rfl
theorem sp_of {m L k : Nat} (hL2 : L ≤ 1000) (hL : 1 ≤ L) (hk : 1 ≤ k) {d : D} {st : Store} (hs : Sh L k d) (hd : ∀ l, d = .tup l → l.length ≤ L ∧ ∀ x ∈ l, Sh (2 * L + 1) k x) (IH : ∀ l, d = .tup l → ∀ x ∈ l, ∀ st, Inv' i j s0 st → ∃ c st', fns (m + 1) .l_spoilt [.cell i, x] st = .ok c st' ∧ Sh (2 * L + 1) k c ∧ Inv' i j s0 st') (h : Inv' i j s0 st) :
    ∃ c st', fns (m + 2) .l_spoilt [.cell i, d] st = .ok c st' ∧ Sh (2 * L + 1) (k + 1) c ∧ Inv' i j s0 st' := by
  obtain ⟨r1, s1, e1, p1, q1, h1⟩ := digitI (n := m) h (m := 20) (by decide) (by decide)
  have hn : r1.toNat < oddL.length := by simp [oddL]; omega
  obtain ⟨o, ho⟩ : ∃ o, oddL[r1.toNat]? = some o := ⟨_, List.getElem?_eq_getElem hn⟩
  have so : Sh (2 * L + 1) 1 o := odd_sh (by omega) o (List.mem_of_getElem? ho)
  have ix : ∀ st, dIdx (.lst oddL) (.int r1) st = some o := fun st => by
    have := dIdx_ln (st := st) ho
    rwa [show ((r1.toNat : Nat) : Int) = r1 from by omega] at this
  have ix2 := ix
  unfold oddL at ix
  obtain ⟨w, s2, e2, p2, q2, h2⟩ := digitI (n := m) h1 (m := 4) (by decide) (by decide)
  have tt := fun st => dIsT_tuple (st := st) hs
  by_cases ht : ∃ l, d = .tup l
  · obtain ⟨l, rfl⟩ := ht
    obtain ⟨hl, hx⟩ := hd l rfl
    have fin : ∀ s3, Inv' i j s0 s3 → ∃ c st', spRest m [some (.cell i), some (.tup l), some (.lst oddL), some o, some (.int w), none] s3 = .ok (.ret c) st' ∧ Sh (2 * L + 1) (k + 1) c ∧ Inv' i j s0 st' := fun s3 h3 =>
      sp_rest hL2 hl hx (so.mono (Nat.le_refl _) hk) (IH l rfl) h3
    by_cases c3 : w = 3
    · obtain ⟨z, s3, e3, p3, q3, h3⟩ := digitI (n := m) h2 (m := 3) (by decide) (by decide)
      by_cases cz : z = 0
      · subst cz
        refine ⟨o, s3, runF_ret ?_, so.mono (Nat.le_refl _) (by omega), h3⟩
        simp [g_l_spoilt, p29, e1, ix, e2, tt, qTup, c3, e3]
      · obtain ⟨c, s4, e4, sc, h4⟩ := fin s3 h3
        refine ⟨c, s4, runF_ret ?_, sc, h4⟩
        subst c3
        unfold oddL at e4
        simp [g_sp, p29, e1, ix, e2, tt, qTup, e3, cz, e4]
    · obtain ⟨c, s4, e4, sc, h4⟩ := fin s2 h2
      refine ⟨c, s4, runF_ret ?_, sc, h4⟩
      unfold oddL at e4
      simp [g_sp, p29, e1, ix, e2, tt, qTup, c3, e4]
  · have z : qTup d = false := notTup hs fun l e => ht ⟨l, e⟩
    refine ⟨o, s2, runF_ret ?_, so.mono (Nat.le_refl _) (by omega), h2⟩
    simp [g_l_spoilt, p29, e1, ix, e2, tt, z]
theorem spoilt {n L : Nat} (hL2 : L ≤ 1000) (hL : 1 ≤ L) : ∀ (k : Nat) (d : D) (st : Store), Sh L k d → Inv' i j s0 st → ∃ c st', fns (n + k + 2) .l_spoilt [.cell i, d] st = .ok c st' ∧ Sh (2 * L + 1) (k + 2) c ∧ Inv' i j s0 st' := by
  intro k
  induction k with
  | zero => exact fun d st hd h => sp_of (m := n) (k := 1) hL2 hL (by omega) (hd.mono (Nat.le_refl _) (by omega)) (fun l e => by subst e; simp [Sh] at hd) (fun l e => by subst e; simp [Sh] at hd) h
  | succ k ih =>
    intro d st hd h
    refine sp_of (m := n + k + 1) (k := k + 2) hL2 hL (by omega) (hd.mono (Nat.le_refl _) (by omega)) (fun l e => ?_) (fun l e x hx st h => ?_) h
    · subst e
      simp only [Sh] at hd
      exact ⟨hd.1, fun x hx => (hd.2 x hx).mono (by omega) (by omega)⟩
    · subst e
      simp only [Sh] at hd
      exact ih x st (hd.2 x hx) h
end
end K81
end

section
set_option Elab.async false
set_option linter.all false
set_option maxRecDepth 100000
set_option maxHeartbeats 1000000
namespace K81
open PySem L2 G
theorem Gd.mono {B B' : Nat} (hB : B ≤ B') : ∀ {h h' : Nat} {d : D}, h ≤ h' → Gd B h d → Gd B' h' d
  | 0, h', d, _, q => by
    obtain ⟨i, rfl, hi⟩ := q
    exact gd0 (Nat.le_trans hi hB)
  | h + 1, 0, d, hh, q => absurd hh (by omega)
  | h + 1, h' + 1, d, hh, q => by
    rcases q with ⟨i, rfl, hi⟩ | ⟨l, rfl, hl, hx⟩
    · exact gd0 (Nat.le_trans hi hB)
    · exact .inr ⟨l, rfl, hl, fun x hm => Gd.mono hB (by omega) (hx x hm)⟩
theorem sum_bound {B : Nat} : ∀ ns : List Int, (∀ z ∈ ns, z.natAbs ≤ B) → ns.sum.natAbs ≤ ns.length * B
  | [], _ => by simp
  | z :: ns, h => by
    have h1 := h z (by simp)
    have h2 := sum_bound ns fun y hy => h y (by simp [hy])
    rw [List.sum_cons, List.length_cons, Nat.succ_mul]
    omega
theorem gd_sh {B : Nat} : ∀ {h : Nat} {d : D}, Gd B h d → Sh 3 h d
  | 0, d, q => by obtain ⟨i, rfl, _⟩ := q; simp [Sh]
  | h + 1, d, q => by
    rcases q with ⟨i, rfl, hi⟩ | ⟨l, rfl, hl, hx⟩
    · simp [Sh]
    · simp only [Sh]; exact ⟨hl, fun x hm => gd_sh (hx x hm)⟩
theorem flat_len {f : D → List Int} {b : Nat} : ∀ l : List D, (∀ x ∈ l, (f x).length ≤ b) → (l.flatMap f).length ≤ l.length * b
  | [], _ => by simp
  | x :: l, h => by
    have h1 := h x (by simp)
    have h2 := flat_len l fun y hy => h y (by simp [hy])
    rw [List.flatMap_cons, List.length_append, List.length_cons, Nat.succ_mul]
    omega
theorem sum_flat {f : D → List Int} : ∀ l : List D, (l.flatMap f).sum = (l.map fun d => (f d).sum).sum
  | [] => rfl
  | x :: l => by rw [List.flatMap_cons, List.sum_append, sum_flat l, List.map_cons, List.sum_cons]
theorem numbers {B : Nat} {st : Store} : ∀ (h : Nat) (d : D), Gd B h d → 3 ^ h ≤ 16777216 → ∃ ns : List Int, (∀ n, fns (n + h + 1) .l_all_numbers [d] st = .ok (.lst (ns.map D.int)) st) ∧ (∀ n, fns (n + h + 1) .sum_of [d] st = .ok (.int ns.sum) st) ∧ ns.length ≤ 3 ^ h ∧ ∀ z ∈ ns, z.natAbs ≤ B := by
  have base : ∀ (h : Nat) (i : Int), i.natAbs ≤ B → ∃ ns : List Int, (∀ n, fns (n + h + 1) .l_all_numbers [.int i] st = .ok (.lst (ns.map D.int)) st) ∧ (∀ n, fns (n + h + 1) .sum_of [.int i] st = .ok (.int ns.sum) st) ∧ ns.length ≤ 3 ^ h ∧ ∀ z ∈ ns, z.natAbs ≤ B := by
    intro h i hi
    refine ⟨[i], fun n => runF_ret (by simp [g_l_all_numbers, dIsT, tyName, isTy]), fun n => runF_ret (by simp [g_sum_of, dIsT, tyName, isTy]), Nat.one_le_pow _ _ (by decide), ?_⟩
    intro z hz
    rw [List.mem_singleton.mp hz]; exact hi
  intro h
  induction h with
  | zero =>
    intro d hd _
    obtain ⟨i, rfl, hi⟩ := hd
    exact base 0 i hi
  | succ h ih =>
    intro d hd h3
    rcases hd with ⟨i, rfl, hi⟩ | ⟨l, rfl, hl, hx⟩
    · exact base (h + 1) i hi
    · have h3' : 3 ^ h ≤ 16777216 := Nat.le_trans (Nat.pow_le_pow_right (by decide) (by omega)) h3
      obtain ⟨f, hf⟩ := pickD fun d hd => ih d (hx d hd) h3'
      have fl : ∀ k, ((l.take k).flatMap f).length ≤ l.length * 3 ^ h := fun k => by
        have := flat_len (f := f) (b := 3 ^ h) (l.take k) fun x hm => (hf x (List.mem_of_mem_take hm)).2.2.1
        exact Nat.le_trans this (Nat.mul_le_mul_right _ (by rw [List.length_take]; omega))
      have b3 : l.length * 3 ^ h ≤ 3 ^ (h + 1) := by
        rw [Nat.pow_succ, Nat.mul_comm]; exact Nat.mul_le_mul_left _ hl
      have tt : ∀ st, dIsT "tuple" (.tup l) st = some (.bl true) := fun st => rfl
      refine ⟨l.flatMap f, fun n => runF_ret ?_, fun n => runF_ret ?_, ?_, ?_⟩
      · have e5 : fns (n + (h + 1)) = fns (n + h + 1) := rfl
        obtain ⟨env', st', ⟨rfl, o, rfl⟩, e⟩ := forGo_inv (i := 2) (g := sAsg 1 (eOp dAdd (eVar 1) (eCall (fns (n + h + 1) .l_all_numbers) [(eVar 2)]))) l (fun k env st' => st' = st ∧ ∃ o, env = [some (.tup l), some (.lst (((l.take k).flatMap f).map D.int)), o]) [some (.tup l), some (.lst []), none] st ⟨rfl, none, by simp⟩
          (fun k d hk env st' ⟨e1, o, e2⟩ => by
            subst e1; subst e2
            have hm : d ∈ l := List.mem_of_getElem? hk
            have tk : (l.take (k + 1)).flatMap f = (l.take k).flatMap f ++ f d := by rw [List.take_add_one, hk, Option.toList_some, List.flatMap_append]; simp
            have ff := fl (k + 1)
            rw [tk, List.length_append] at ff
            have ad : dAdd (.lst (((l.take k).flatMap f).map D.int)) (.lst ((f d).map D.int)) st' = some (.lst (((l.take k).flatMap f).map D.int ++ (f d).map D.int)) := by
              simp only [dAdd]
              rw [if_pos (by rw [List.length_map, List.length_map]; exact Nat.le_trans ff (Nat.le_trans b3 h3))]
            refine ⟨_, _, ⟨rfl, some d, rfl⟩, ?_⟩
            rw [tk, List.map_append]
            simp [(hf d hm).1 n, ad])
        rw [List.take_length] at e
        simp [g_l_all_numbers, tt, e5, e]
      · have e5 : fns (n + (h + 1)) = fns (n + h + 1) := rfl
        have e : eComp [1] (iSeq (eVar 0)) (tgName 1) (fun _ => pure true) (eCall (fns (n + h + 1) .sum_of) [(eVar 1)]) [some (.tup l), none] st = .ok (.lst (l.map fun d => .int (f d).sum)) st := by
          refine eComp_of (l := l) (st1 := st) (by simp) ?_
          rw [compGo_map fun d => .int (f d).sum]
          · simp
          · intro d hd
            simp [evWipe, (hf d hd).2.1 n]
        have e2 := ints_map l fun d => (f d).sum
        simp [g_sum_of, tt, e5, e, dSum, e2, sum_flat]
      · have := fl l.length
        rw [List.take_length] at this
        exact Nat.le_trans this b3
      · intro z hz
        obtain ⟨d, hd, hz⟩ := List.mem_flatMap.mp hz
        exact (hf d hd).2.2.2 z hz

/-! ## a change -/
def Bd (k : Nat) : Nat := 2 ^ (104 * k)
theorem bd_succ (k : Nat) : Bd (k + 1) = Bd k * 2 ^ 104 := by unfold Bd; rw [Nat.mul_succ, Nat.pow_add]
theorem bd_pos (k : Nat) : 1 ≤ Bd k := Nat.one_le_pow _ _ (by decide)
theorem bd_one {k : Nat} (h : 1 ≤ k) : 2 ^ 104 ≤ Bd k := Nat.pow_le_pow_right (by decide) (by omega)
theorem word_eq (x y : Str) {st : Store} (hx : PyData.strOk x = true) (hy : PyData.strOk y = true) : dEq (.str x) (.str y) st = some (.bl (x == y)) := dEq_w (L := 0) (k := 0) (d := .str x) (by simpa [Sh] using hx) (by decide) hy
theorem we (x y : Str) (b : Bool) (h : (x == y) = b) (hx : PyData.strOk x = true) (hy : PyData.strOk y = true) : ∀ st, dEq (.str x) (.str y) st = some (.bl b) := fun st => by rw [word_eq x y hx hy, h]
/-- what a change does to a number -/
def num (w : Str) (i c : Int) : Int := if w = "add" then i + c else if w = "times" then i * c else i % c
theorem each {k : Nat} {w : Str} {c : Int} (hk : k ≤ 1000) (hc : c.natAbs ≤ 10 ^ 30) (hw : w = "add" ∨ w = "times" ∨ (w = "rest" ∧ 0 < c)) {st : Store} : ∀ (h : Nat) (d : D), Gd (Bd k) h d →
    ∃ d', (∀ n, fns (n + h + 1) .changed [.tup [.str w, .int c], d] st = .ok d' st) ∧ (∀ n, fns (n + h + 1) .l_each [d, .str w, .int c] st = .ok d' st) ∧ Gd (Bd (k + 1)) h d' := by
  have s1 : PyData.strOk "add" = true := by decide +kernel
  have s2 : PyData.strOk "times" = true := by decide +kernel
  have s3 : PyData.strOk "rest" = true := by decide +kernel
  have s4 : PyData.strOk "one" = true := by decide +kernel
  have s5 : PyData.strOk "sum" = true := by decide +kernel
  have n1 : ∀ st, dEq (.str w) (.str "one") st = some (.bl false) := by
    rcases hw with rfl | rfl | ⟨rfl, _⟩
    · exact we _ _ _ (by decide +kernel) s1 s4
    · exact we _ _ _ (by decide +kernel) s2 s4
    · exact we _ _ _ (by decide +kernel) s3 s4
  have n2 : ∀ st, dEq (.str w) (.str "sum") st = some (.bl false) := by
    rcases hw with rfl | rfl | ⟨rfl, _⟩
    · exact we _ _ _ (by decide +kernel) s1 s5
    · exact we _ _ _ (by decide +kernel) s2 s5
    · exact we _ _ _ (by decide +kernel) s3 s5
  have base : ∀ (h : Nat) (i : Int), i.natAbs ≤ Bd k → ∃ d', (∀ n, fns (n + h + 1) .changed [.tup [.str w, .int c], .int i] st = .ok d' st) ∧ (∀ n, fns (n + h + 1) .l_each [.int i, .str w, .int c] st = .ok d' st) ∧ Gd (Bd (k + 1)) h d' := by
    intro h i hi
    have hm : mulOk i c = true := by
      refine mulOk_of (a := 104 * k + 1) (b := 100) (Nat.lt_of_le_of_lt hi (Nat.pow_lt_pow_right (by decide) (by omega))) (Nat.lt_of_le_of_lt hc (by decide)) (by omega) (by omega)
    have ti : ∀ st, dIsT "tuple" (.int i) st = some (.bl false) := fun st => rfl
    have bs := bd_succ k
    have bp := bd_pos k
    have mx : ∀ st, dMax2 [.int 1, .int c] st = some (.int (if c > 1 then c else 1)) := fun st => rfl
    have hmx : 0 < (if c > 1 then c else 1 : Int) := by split <;> omega
    have v : ∀ x : D, [((.inr "add" : Key), x)].length = 1 := fun _ => rfl
    rcases hw with rfl | rfl | ⟨rfl, hp⟩
    · refine ⟨.int (i + c), fun n => runF_ret ?_, fun n => runF_ret ?_, gd0 ?_⟩
      · have a1 := we "add" "add" true (by decide +kernel) s1 s1
        simp [g_changed, n1, n2, ti, a1]
      · have kv : ∀ a b c : D, valD [((.inr "add" : Key), a), ((.inr "times" : Key), b), ((.inr "rest" : Key), c)] (.inr "add") = some a := fun a b c => rfl
        simp [g_l_each, ti, dMul_of hm, mx, dMod_of hmx, keyOf, kv]
      · rw [bs]; omega
    · refine ⟨.int (i * c), fun n => runF_ret ?_, fun n => runF_ret ?_, gd0 ?_⟩
      · have a1 := we "times" "add" false (by decide +kernel) s2 s1
        have a2 := we "times" "times" true (by decide +kernel) s2 s2
        simp [g_changed, n1, n2, ti, a1, a2, dMul_of hm]
      · have kv : ∀ a b c : D, valD [((.inr "add" : Key), a), ((.inr "times" : Key), b), ((.inr "rest" : Key), c)] (.inr "times") = some b := fun a b c => rfl
        simp [g_l_each, ti, dMul_of hm, mx, dMod_of hmx, keyOf, kv]
      · rw [bs, Int.natAbs_mul]
        exact Nat.mul_le_mul hi (Nat.le_trans hc (by decide))
    · refine ⟨.int (i % c), fun n => runF_ret ?_, fun n => runF_ret ?_, gd0 ?_⟩
      · have a1 := we "rest" "add" false (by decide +kernel) s3 s1
        have a2 := we "rest" "times" false (by decide +kernel) s3 s2
        simp [g_changed, n1, n2, ti, a1, a2, dMod_of hp]
      · have kv : ∀ a b c : D, valD [((.inr "add" : Key), a), ((.inr "times" : Key), b), ((.inr "rest" : Key), c)] (.inr "rest") = some c := fun a b c => rfl
        have hcc : (if c > 1 then c else 1 : Int) = c := by split <;> omega
        rw [hcc] at mx
        simp [g_l_each, ti, dMul_of hm, mx, dMod_of hp, keyOf, kv]
      · have m1 := Int.emod_nonneg i (by omega : c ≠ 0)
        have m2 := Int.emod_lt_of_pos i hp
        rw [bs]
        omega
  intro h
  induction h with
  | zero =>
    intro d hd
    obtain ⟨i, rfl, hi⟩ := hd
    exact base 0 i hi
  | succ h ih =>
    intro d hd
    rcases hd with ⟨i, rfl, hi⟩ | ⟨l, rfl, hl, hx⟩
    · exact base (h + 1) i hi
    · obtain ⟨f, hf⟩ := pickD fun d hd => ih d (hx d hd)
      have tt : ∀ st, dIsT "tuple" (.tup l) st = some (.bl true) := fun st => rfl
      refine ⟨.tup (l.map f), fun n => runF_ret ?_, fun n => runF_ret ?_, .inr ⟨_, rfl, by simpa using hl, fun y hy => ?_⟩⟩
      · have e5 : fns (n + (h + 1)) = fns (n + h + 1) := rfl
        have e : eComp [3] (iSeq (eVar 1)) (tgName 3) (fun _ => pure true) (eCall (fns (n + h + 1) .changed) [(eVar 0), (eVar 3)]) [some (.tup [.str w, .int c]), some (.tup l), some (.str w), none] st = .ok (.lst (l.map f)) st := by
          refine eComp_of (l := l) (st1 := st) (by simp) ?_
          rw [compGo_map f]
          · simp
          · intro d hd
            simp [evWipe, (hf d hd).1 n]
        simp [g_changed, n1, n2, tt, e5, e]
      · have e5 : fns (n + (h + 1)) = fns (n + h + 1) := rfl
        have e : eComp [3] (iSeq (eVar 0)) (tgName 3) (fun _ => pure true) (eCall (fns (n + h + 1) .l_each) [(eVar 3), (eVar 1), (eVar 2)]) [some (.tup l), some (.str w), some (.int c), none] st = .ok (.lst (l.map f)) st := by
          refine eComp_of (l := l) (st1 := st) (by simp) ?_
          rw [compGo_map f]
          · simp
          · intro d hd
            simp [evWipe, (hf d hd).2.1 n]
        simp [g_l_each, tt, e5, e]
      · obtain ⟨d, hd, rfl⟩ := List.mem_map.mp hy
        exact (hf d hd).2.2
end K81
end

section
set_option Elab.async false
set_option linter.all false
set_option maxRecDepth 100000
set_option maxHeartbeats 1000000
namespace K81
open PySem L2 G
def mBody (n : Nat) : Ev → M Fl := (sIf (tVal (eOp dEq (eVar 2) (eTup [(eC (.str "one"))]))) (sAsg 1 (eTup [(eVar 1)])) (sIf (tVal (eOp dEq (eVar 2) (eTup [(eC (.str "sum"))]))) (sAsg 1 (eB dSum [(eCall (fns n .l_all_numbers) [(eVar 1)])])) (sAsg 1 (eCall (fns n .l_each) [(eVar 1), (eOp dIdx (eVar 2) (eC (.int 0))), (eOp dIdx (eVar 2) (eC (.int 1)))]))))
theorem w_one : PyData.strOk "one" = true := by decide +kernel
theorem w_sum : PyData.strOk "sum" = true := by decide +kernel
theorem eq_tups {x y : Str} (hx : PyData.strOk x = true) (hy : PyData.strOk y = true) {st : Store} : dEq (.tup [.str x]) (.tup [.str y]) st = some (.bl (x == y)) := by
  have sx : SeqAt.shaped (.tuple [.str x]) = true := by simp [SeqAt.shaped, PyData.canLay0, PyData.canLayAll0, PyData.depth, PyData.depthAll, hx]
  have sy : SeqAt.shaped (.tuple [.str y]) = true := by simp [SeqAt.shaped, PyData.canLay0, PyData.canLayAll0, PyData.depth, PyData.depthAll, hy]
  simp [dEq, eqD, D.data, D.datas, sx, sy, PyData.eqv, PyData.eqvAll]
theorem eq_tups2 {x y : Str} {c : Int} (hx : PyData.strOk x = true) (hy : PyData.strOk y = true) {st : Store} : dEq (.tup [.str x, .int c]) (.tup [.str y]) st = some (.bl false) := by
  have sx : SeqAt.shaped (.tuple [.str x, .int c]) = true := by simp [SeqAt.shaped, PyData.canLay0, PyData.canLayAll0, PyData.depth, PyData.depthAll, hx]
  have sy : SeqAt.shaped (.tuple [.str y]) = true := by simp [SeqAt.shaped, PyData.canLay0, PyData.canLayAll0, PyData.depth, PyData.depthAll, hy]
  simp [dEq, eqD, D.data, D.datas, sx, sy, PyData.eqv, PyData.eqvAll]
theorem pow3 {h : Nat} (hh : h ≤ 14) : 3 ^ h ≤ 16777216 := Nat.le_trans (Nat.pow_le_pow_right (by decide) hh) (by decide)
theorem one_change {k h : Nat} {c d : D} {st : Store} (hk : k ≤ 1000) (hh : h ≤ 14) (hc : IsCh c) (hd : Gd (Bd k) h d) :
    ∃ d', (∀ n, h + 2 ≤ n → fns n .changed [c, d] st = .ok d' st) ∧ (∀ n r, h + 1 ≤ n → mBody n [some r, some d, some c] st = .ok (.nx [some r, some d', some c]) st) ∧ Gd (Bd (k + 1)) (h + 1) d' := by
  have e1 : (("one" : Str) == "one") = true := by decide +kernel
  have e2 : (("sum" : Str) == "one") = false := by decide +kernel
  have e3 : (("sum" : Str) == "sum") = true := by decide +kernel
  have bs := bd_succ k
  have bp := bd_pos k
  have m1 : Bd k ≤ Bd (k + 1) := by rw [bs]; omega
  have gen : ∀ (w : Str) (x : Int), x.natAbs ≤ 10 ^ 30 → PyData.strOk w = true → (w = "add" ∨ w = "times" ∨ (w = "rest" ∧ 0 < x)) → c = .tup [.str w, .int x] → ∃ d', (∀ n, h + 2 ≤ n → fns n .changed [c, d] st = .ok d' st) ∧ (∀ n r, h + 1 ≤ n → mBody n [some r, some d, some c] st = .ok (.nx [some r, some d', some c]) st) ∧ Gd (Bd (k + 1)) (h + 1) d' := by
    intro w x hx sw hw hcw
    subst hcw
    obtain ⟨d', f1, f2, g⟩ := each (st := st) hk hx hw h d hd
    refine ⟨d', fun n hn => ?_, fun n r hn => ?_, g.mono (Nat.le_refl _) (by omega)⟩
    · obtain ⟨m, rfl⟩ : ∃ m, n = m + h + 1 := ⟨n - h - 1, by omega⟩
      exact f1 m
    · obtain ⟨m, rfl⟩ : ∃ m, n = m + h + 1 := ⟨n - h - 1, by omega⟩
      simp [mBody, eq_tups2 sw w_one, eq_tups2 sw w_sum, f2 m]
  rcases hc with rfl | rfl | ⟨x, hx, rfl⟩ | ⟨x, hx, rfl⟩ | ⟨x, hp, hx, rfl⟩
  · refine ⟨.tup [d], fun n hn => ?_, fun n r hn => ?_, .inr ⟨[d], rfl, by simp, fun y hy => ?_⟩⟩
    · obtain ⟨m, rfl⟩ : ∃ m, n = m + 1 := ⟨n - 1, by omega⟩
      exact runF_ret (by simp [g_changed, we "one" "one" true e1 w_one w_one])
    · simp [mBody, eq_tups w_one w_one, e1]
    · rw [List.mem_singleton.mp hy]; exact hd.mono m1 (Nat.le_refl _)
  · obtain ⟨ns, f1, f2, nl, nb⟩ := numbers (st := st) h d hd (pow3 hh)
    have sb := sum_bound ns nb
    have sb2 : ns.sum.natAbs ≤ Bd (k + 1) := by
      rw [bs]
      refine Nat.le_trans sb ?_
      rw [Nat.mul_comm]
      exact Nat.mul_le_mul_left _ (Nat.le_trans nl (Nat.le_trans (pow3 hh) (by decide)))
    refine ⟨.int ns.sum, fun n hn => ?_, fun n r hn => ?_, gd0 sb2⟩
    · obtain ⟨m, rfl⟩ : ∃ m, n = m + h + 2 := ⟨n - h - 2, by omega⟩
      exact runF_ret (by simp [g_changed, we "sum" "one" false e2 w_sum w_one, we "sum" "sum" true e3 w_sum w_sum, f2 m])
    · obtain ⟨m, rfl⟩ : ∃ m, n = m + h + 1 := ⟨n - h - 1, by omega⟩
      simp [mBody, eq_tups w_sum w_one, e2, eq_tups w_sum w_sum, e3, f1 m, dSum, ints_map']
  · exact gen "add" x hx (by decide +kernel) (.inl rfl) rfl
  · exact gen "times" x hx (by decide +kernel) (.inr (.inl rfl)) rfl
  · exact gen "rest" x hx (by decide +kernel) (.inr (.inr ⟨rfl, hp⟩)) rfl
theorem changes {st : Store} {r : D} : ∀ (l : List D) (k h : Nat) (d : D) (o o' : Option D), (∀ c ∈ l, IsCh c) → k + l.length ≤ 1000 → h + l.length ≤ 14 → Gd (Bd k) h d →
    ∃ d', (∀ n, 20 ≤ n → ∃ o1, forGo (tgName 2) (sAsg 1 (eCall (fns n .changed) [(eVar 2), (eVar 1)])) l [some r, some d, o] st = .ok (.nx [some r, some d', o1]) st) ∧
      (∀ n, 20 ≤ n → ∃ o1, forGo (tgName 2) (mBody n) l [some r, some d, o'] st = .ok (.nx [some r, some d', o1]) st) ∧ Gd (Bd (k + l.length)) (h + l.length) d' := by
  intro l
  induction l with
  | nil =>
    intro k h d o o' _ _ _ g
    exact ⟨d, fun n _ => ⟨o, by simp [forGo]⟩, fun n _ => ⟨o', by simp [forGo]⟩, g⟩
  | cons c l ih =>
    intro k h d o o' hc hk hh g
    simp only [List.length_cons] at hk hh
    obtain ⟨d1, f1, f2, g1⟩ := one_change (st := st) (by omega) (by omega) (hc c (by simp)) g
    obtain ⟨d2, a1, a2, g2⟩ := ih (k + 1) (h + 1) d1 (some c) (some c) (fun x hx => hc x (by simp [hx])) (by omega) (by omega) g1
    refine ⟨d2, fun n hn => ?_, fun n hn => ?_, ?_⟩
    · obtain ⟨o1, e⟩ := a1 n hn
      refine ⟨o1, ?_⟩
      unfold forGo
      simp [tgName, f1 n (by omega), e]
    · obtain ⟨o1, e⟩ := a2 n hn
      refine ⟨o1, ?_⟩
      unfold forGo
      simp [tgName, f2 n _ (by omega : h + 1 ≤ n), e]
    · rw [List.length_cons, show k + (l.length + 1) = k + 1 + l.length by omega, show h + (l.length + 1) = h + 1 + l.length by omega]
      exact g2
theorem ruled {k h : Nat} {r d : D} {st : Store} (hr : IsRule r) (hk : k ≤ 900) (hh : h ≤ 11) (g : Gd (Bd k) h d) : ∃ d', (∀ n, 20 ≤ n → fns (n + 1) .rule_told [r, d] st = .ok d' st) ∧ (∀ n, 20 ≤ n → fns (n + 1) .l_made [r, d] st = .ok d' st) ∧ Gd (Bd (k + 3)) (h + 3) d' := by
  obtain ⟨l, rfl, hl, hc⟩ := hr
  obtain ⟨d', f1, f2, g'⟩ := changes (st := st) (r := .tup l) l k h d none none hc (by omega) (by omega) g
  refine ⟨d', fun n hn => ?_, fun n hn => ?_, g'.mono (Nat.pow_le_pow_right (by decide) (by omega)) (by omega)⟩
  · obtain ⟨o1, e⟩ := f1 n hn
    exact runF_ret (by simp [g_rule_told, e])
  · obtain ⟨o1, e⟩ := f2 n hn
    unfold mBody at e
    exact runF_ret (by simp [g_l_made, e])
/-! ## a test -/
def hBody (n : Nat) : Ev → M Fl := (sSeq (sIf (tVal (eOp dEq (eOp dIdx (eVar 2) (eC (.int 0))) (eC (.str "after")))) (sAsg 3 (eCall (fns n .l_holds) [(eOp dIdx (eVar 2) (eC (.int 2))), (eCall (fns n .l_made) [(eOp dIdx (eVar 2) (eC (.int 1))), (eVar 1)])])) (sIf (tVal (eOp dEq (eOp dIdx (eVar 2) (eC (.int 0))) (eC (.str "below")))) (sAsg 3 (eOp dLt (eB dSum [(eCall (fns n .l_all_numbers) [(eVar 1)])]) (eOp dIdx (eVar 2) (eC (.int 1))))) (sAsg 3 (eOp dEq (eOp dMod (eB dSum [(eCall (fns n .l_all_numbers) [(eVar 1)])]) (eOp dIdx (eVar 2) (eC (.int 1)))) (eOp dIdx (eVar 2) (eC (.int 2))))))) (sIf (tNot' (tVal (eVar 3))) (sRet (eC (.bl false))) sNop))
theorem look_told {t k h N : Nat} {x d : D} {st : Store} (hx : IsLook t x) (hN : 30 ≤ N) (hk : k + 3 * t ≤ 900) (hh : h + 3 * t ≤ 11) (g : Gd (Bd k) h d)
    (IH : ∀ t' l e, t = t' + 1 → l.length ≤ 2 → (∀ x ∈ l, IsLook t' x) → Gd (Bd (k + 3)) (h + 3) e → ∃ b, (∀ n, N ≤ n → fns n .test_told [.tup l, e] st = .ok (.bl b) st) ∧ ∀ n, N ≤ n → fns n .l_holds [.tup l, e] st = .ok (.bl b) st) :
    ∃ b, (∀ n, N ≤ n → fns (n + 1) .is_so [x, d] st = .ok (.bl b) st) ∧ ∀ n r o, N ≤ n → ∃ o1, hBody n [some r, some d, some x, o] st = .ok (if b = true then .nx [some r, some d, some x, o1] else .ret (.bl false)) st := by
  obtain ⟨ns, f1, f2, nl, nb⟩ := numbers (st := st) h d g (pow3 (by omega))
  have f1 : ∀ n, N ≤ n → fns n .l_all_numbers [d] st = .ok (.lst (ns.map D.int)) st := fun n hn => by
    obtain ⟨m, rfl⟩ : ∃ m, n = m + h + 1 := ⟨n - h - 1, by omega⟩
    exact f1 m
  have f2 : ∀ n, N ≤ n → fns n .sum_of [d] st = .ok (.int ns.sum) st := fun n hn => by
    obtain ⟨m, rfl⟩ : ∃ m, n = m + h + 1 := ⟨n - h - 1, by omega⟩
    exact f2 m
  have sa : PyData.strOk "after" = true := by decide +kernel
  have sb : PyData.strOk "below" = true := by decide +kernel
  have sr : PyData.strOk "rest" = true := by decide +kernel
  have base : Look0 x → ∃ b, (∀ n, N ≤ n → fns (n + 1) .is_so [x, d] st = .ok (.bl b) st) ∧ ∀ n r o, N ≤ n → ∃ o1, hBody n [some r, some d, some x, o] st = .ok (if b = true then .nx [some r, some d, some x, o1] else .ret (.bl false)) st := by
    rintro (⟨m, r, hm, _, _, rfl⟩ | ⟨c, _, rfl⟩)
    · have a1 := we "rest" "after" false (by decide +kernel) sr sa
      have a2 := we "rest" "below" false (by decide +kernel) sr sb
      refine ⟨decide (ns.sum % m = r), fun n hn => runF_ret (by simp [g_is_so, a1, a2, f2 n hn, dMod_of hm]), fun n q o hn => ⟨some (.bl (decide (ns.sum % m = r))), ?_⟩⟩
      by_cases z : ns.sum % m = r <;> simp [hBody, a1, a2, f1 n hn, dSum, ints_map', dMod_of hm, z]
    · have a1 := we "below" "after" false (by decide +kernel) sb sa
      have a2 := we "below" "below" true (by decide +kernel) sb sb
      refine ⟨decide (ns.sum < c), fun n hn => runF_ret (by simp [g_is_so, a1, a2, f2 n hn]), fun n q o hn => ⟨some (.bl (decide (ns.sum < c))), ?_⟩⟩
      by_cases z : ns.sum < c <;> simp [hBody, a1, a2, f1 n hn, dSum, ints_map', z]
  cases t with
  | zero => exact base hx
  | succ t =>
    rcases hx with hx | ⟨r, l, hr, hl, hxs, rfl⟩
    · exact base hx
    · obtain ⟨e, r1, r2, ge⟩ := ruled (st := st) hr (by omega) (by omega) g
      obtain ⟨b, t1, t2⟩ := IH t l e rfl hl hxs ge
      have a1 := we "after" "after" true (by decide +kernel) sa sa
      refine ⟨b, fun n hn => runF_ret ?_, fun n q o hn => ⟨some (.bl b), ?_⟩⟩
      · obtain ⟨m, rfl⟩ : ∃ m, n = m + 1 := ⟨n - 1, by omega⟩
        simp [g_is_so, a1, r1 m (by omega), t1 (m + 1) hn]
      · obtain ⟨m, rfl⟩ : ∃ m, n = m + 1 := ⟨n - 1, by omega⟩
        cases b <;> simp [hBody, a1, r2 m (by omega), t2 (m + 1) hn]
theorem tested_of {N : Nat} {l : List D} {d : D} {st : Store} (key : ∀ x ∈ l, ∃ b, (∀ n, N ≤ n → fns (n + 1) .is_so [x, d] st = .ok (.bl b) st) ∧ ∀ n r o, N ≤ n → ∃ o1, hBody n [some r, some d, some x, o] st = .ok (if b = true then .nx [some r, some d, some x, o1] else .ret (.bl false)) st) :
    ∃ b, (∀ n, N + 2 ≤ n → fns n .test_told [.tup l, d] st = .ok (.bl b) st) ∧ ∀ n, N + 2 ≤ n → fns n .l_holds [.tup l, d] st = .ok (.bl b) st := by
  obtain ⟨f, hf⟩ := pickD key
  refine ⟨l.all f, fun n hn => ?_, fun n hn => ?_⟩
  · obtain ⟨m, rfl⟩ : ∃ m, n = m + 2 := ⟨n - 2, by omega⟩
    have e : eComp [2] (iSeq (eVar 0)) (tgName 2) (fun _ => pure true) (eCall (fns (m + 1) .is_so) [(eVar 2), (eVar 1)]) [some (.tup l), some d, none] st = .ok (.lst (l.map fun d => .bl (f d))) st := by
      refine eComp_of (l := l) (st1 := st) (by simp) ?_
      rw [compGo_map fun d => .bl (f d)]
      · simp
      · intro x hx
        simp [evWipe, (hf x hx).1 m (by omega)]
    exact runF_ret (by simp [g_test_told, e, dAll, bools_map])
  · obtain ⟨m, rfl⟩ : ∃ m, n = m + 1 := ⟨n - 1, by omega⟩
    obtain ⟨env', _, e⟩ := forGo_all (i := 2) (g := hBody m) (st := st) (r := .bl false) (fun env => ∃ o2 o3, env = [some (.tup l), some d, o2, o3]) f l [some (.tup l), some d, none, none] ⟨_, _, rfl⟩ (fun x hx env ⟨o2, o3, he⟩ => by
      subst he
      obtain ⟨o1, e⟩ := (hf x hx).2 m (.tup l) o3 (by omega)
      exact ⟨[some (.tup l), some d, some x, o1], ⟨_, _, rfl⟩, e⟩)
    unfold hBody at e
    refine runF_ret ?_
    cases q : l.all f <;> rw [q] at e <;> simp [g_l_holds, e]
theorem tested {st : Store} : ∀ (t k h : Nat) (l : List D) (d : D), (∀ x ∈ l, IsLook t x) → k + 3 * t ≤ 900 → h + 3 * t ≤ 11 → Gd (Bd k) h d → ∃ b, (∀ n, 2 * t + 32 ≤ n → fns n .test_told [.tup l, d] st = .ok (.bl b) st) ∧ ∀ n, 2 * t + 32 ≤ n → fns n .l_holds [.tup l, d] st = .ok (.bl b) st := by
  intro t
  induction t with
  | zero => exact fun k h l d hx hk hh g => tested_of (N := 30) fun x hm => look_told (hx x hm) (by omega) hk hh g fun t' l e q => absurd q (by omega)
  | succ t ih =>
    intro k h l d hx hk hh g
    refine tested_of (N := 2 * t + 32) fun x hm => look_told (hx x hm) (by omega) hk hh g fun t' l e q hl hxs ge => ?_
    obtain rfl : t' = t := by omega
    exact ih (k + 3) (h + 3) l e hxs (by omega) (by omega) ge
end K81
end

section
set_option Elab.async false
set_option linter.all false
set_option maxRecDepth 100000
set_option maxHeartbeats 1000000
namespace K81
open PySem L2 G
/-! ## what can be shown -/
def Sw : Nat → D → Prop
  | _, .int i => i.natAbs < 10 ^ 126
  | _, .str x => PyData.strOk x = true ∧ x.cps.size ≤ 5
  | k + 1, .tup l => l.length ≤ 3 ∧ ∀ x ∈ l, Sw k x
  | k + 1, .lst l => l.length ≤ 3 ∧ ∀ x ∈ l, Sw k x
  | _, _ => False
def fw : Nat → Nat
  | 0 => 5
  | k + 1 => 3 * (fw k + 1)
theorem fw5 : ∀ k, 5 ≤ fw k
  | 0 => Nat.le_refl _
  | k + 1 => by have := fw5 k; simp only [fw]; omega
theorem Sw.mono : ∀ {k k' : Nat} {d : D}, k ≤ k' → Sw k d → Sw k' d
  | _, _, .non, _, h => by simp [Sw] at h
  | _, _, .bl _, _, h => by simp [Sw] at h
  | _, _, .int _, _, h => by simpa only [Sw] using h
  | _, _, .str x, _, h => by simpa only [Sw] using h
  | 0, _, .tup l, _, h => by simp [Sw] at h
  | 0, _, .lst l, _, h => by simp [Sw] at h
  | k + 1, 0, .tup l, hk, h => absurd hk (by omega)
  | k + 1, 0, .lst l, hk, h => absurd hk (by omega)
  | k + 1, k' + 1, .tup l, hk, h => by
    simp only [Sw] at h ⊢
    exact ⟨h.1, fun x hx => Sw.mono (by omega) (h.2 x hx)⟩
  | k + 1, k' + 1, .lst l, hk, h => by
    simp only [Sw] at h ⊢
    exact ⟨h.1, fun x hx => Sw.mono (by omega) (h.2 x hx)⟩
  | _, _, .cell _, _, h => by simp [Sw] at h
  | _, _, .dct0, _, h => by simp [Sw] at h
  | _, _, .exc _, _, h => by simp [Sw] at h
theorem Sw.sh : ∀ {k : Nat} {d : D}, Sw k d → Sh 3 k d
  | _, .non, h => by simp [Sw] at h
  | _, .bl _, h => by simp [Sw] at h
  | _, .int _, h => by simp [Sh]
  | _, .str x, h => by simp only [Sw] at h; simpa only [Sh] using h.1
  | 0, .tup l, h => by simp [Sw] at h
  | 0, .lst l, h => by simp [Sw] at h
  | k + 1, .tup l, h => by
    simp only [Sw] at h
    simp only [Sh]
    exact ⟨h.1, fun x hx => Sw.sh (h.2 x hx)⟩
  | k + 1, .lst l, h => by
    simp only [Sw] at h
    simp only [Sh]
    exact ⟨h.1, fun x hx => Sw.sh (h.2 x hx)⟩
  | _, .cell _, h => by simp [Sw] at h
  | _, .dct0, h => by simp [Sw] at h
  | _, .exc _, h => by simp [Sw] at h
structure Swd (k : Nat) (p : PyData) : Prop where
  lay : p.canLay0 = true
  dep : p.depth ≤ k
  nod : p.hasDict = false
  shw : p.showable = true
  lvs : p.intsShort 127 = true
  blk : p.bulk ≤ fw k
theorem sw_list {k : Nat} : ∀ (l : List D), (∀ x ∈ l, ∃ p, x.data = some p ∧ Swd k p) → ∃ ps, D.datas l = some ps ∧ PyData.canLayAll0 ps = true ∧ PyData.depthAll ps ≤ k ∧ PyData.hasDictAll ps = false ∧ PyData.showableAll ps = true ∧ PyData.intsShortAll 127 ps = true ∧ PyData.bulkAll ps ≤ l.length * (fw k + 1)
  | [], _ => ⟨[], rfl, rfl, Nat.zero_le _, rfl, rfl, rfl, by simp [PyData.bulkAll]⟩
  | x :: l, h => by
    obtain ⟨p, e, q⟩ := h x (by simp)
    obtain ⟨ps, es, c, d, n, s, v, b⟩ := sw_list l fun y hy => h y (by simp [hy])
    refine ⟨p :: ps, by simp only [D.datas, e, es], by simp only [PyData.canLayAll0, q.lay, c, Bool.and_self], ?_, by simp only [PyData.hasDictAll, q.nod, n, Bool.or_self], by simp only [PyData.showableAll, q.shw, s, Bool.and_self], by simp only [PyData.intsShortAll, q.lvs, v, Bool.and_self], ?_⟩
    · have := q.dep
      simp only [PyData.depthAll]; omega
    · have := q.blk
      simp only [PyData.bulkAll, List.length_cons, Nat.succ_mul]; omega
theorem Sw.data : ∀ {k : Nat} {d : D}, Sw k d → ∃ p, d.data = some p ∧ Swd k p
  | _, .non, h => by simp [Sw] at h
  | _, .bl _, h => by simp [Sw] at h
  | k, .int i, h => by
    simp only [Sw] at h
    refine ⟨_, rfl, rfl, Nat.zero_le _, rfl, ?_, ?_, Nat.zero_le _⟩
    · simp only [PyData.showable, decide_eq_true_eq]
      by_cases z : i.natAbs = 0
      · rw [z]; decide
      · exact Nat.lt_of_lt_of_le ((Nat.log2_lt z).mpr (Nat.lt_of_lt_of_le h (by decide +kernel : 10 ^ 126 ≤ 2 ^ 420))) (by decide)
    · simp only [PyData.intsShort, decide_eq_true_eq]
      have e := int_text_length_le10 (k := 126) (by decide) h
      show (Str.ofString (toString i)).length ≤ 127
      rw [ofString_length]; exact e
  | k, .str x, h => by
    simp only [Sw] at h
    refine ⟨_, rfl, by simpa only [PyData.canLay0] using h.1, Nat.zero_le _, rfl, rfl, rfl, ?_⟩
    simp only [PyData.bulk]
    exact Nat.le_trans h.2 (fw5 k)
  | 0, .tup l, h => by simp [Sw] at h
  | 0, .lst l, h => by simp [Sw] at h
  | k + 1, .tup l, h => by
    simp only [Sw] at h
    obtain ⟨ps, e, c, q, n, s, v, b⟩ := sw_list l fun x hx => Sw.data (h.2 x hx)
    refine ⟨.tuple ps, by simp [D.data, e], by simpa [PyData.canLay0] using c, by simp only [PyData.depth]; omega, by simpa [PyData.hasDict] using n, by simpa [PyData.showable] using s, by simpa [PyData.intsShort] using v, ?_⟩
    simp only [PyData.bulk, fw]
    exact Nat.le_trans b (Nat.mul_le_mul_right _ h.1)
  | k + 1, .lst l, h => by
    simp only [Sw] at h
    obtain ⟨ps, e, c, q, n, s, v, b⟩ := sw_list l fun x hx => Sw.data (h.2 x hx)
    refine ⟨.list ps, by simp [D.data, e], by simpa [PyData.canLay0] using c, by simp only [PyData.depth]; omega, by simpa [PyData.hasDict] using n, by simpa [PyData.showable] using s, by simpa [PyData.intsShort] using v, ?_⟩
    simp only [PyData.bulk, fw]
    exact Nat.le_trans b (Nat.mul_le_mul_right _ h.1)
  | _, .cell _, h => by simp [Sw] at h
  | _, .dct0, h => by simp [Sw] at h
  | _, .exc _, h => by simp [Sw] at h
theorem Swd.repr {p : PyData} (h : Swd 7 p) : reprOk p = true := by
  have hb := h.blk
  have hf : fw 7 = 14214 := by decide
  have hl := PyData.shown_le_bulk 127 (by decide) p (PyData.leavesShort_of_canLay0 127 p h.lay h.lvs)
  have hd := h.dep
  unfold reprOk
  simp only [h.shw, h.nod, Bool.true_and, Bool.not_false, Bool.and_true, Bool.and_eq_true, decide_eq_true_eq]
  refine ⟨?_, by omega⟩
  have : sizeLine = 16777216 := by decide
  have : (127 + 2) * p.bulk ≤ 129 * 14214 := Nat.mul_le_mul_left _ (by omega)
  omega
/-- the text of a datum -/
def txt (d : D) (s : Str) : Prop := ∀ st, dRepr [d] st = some (.str s)
theorem Sw.repr {d : D} (h : Sw 7 d) (hd : (∃ l, d = .tup l) ∨ (∃ i, d = .int i)) : ∃ s, txt d s := by
  obtain ⟨p, e, q⟩ := h.data
  rcases hd with ⟨l, rfl⟩ | ⟨i, rfl⟩
  · refine ⟨p.shown, fun st => ?_⟩
    simp only [dRepr, e, q.repr, if_true]
  · refine ⟨toString i, fun st => ?_⟩
    have := q.shw
    simp only [D.data] at e
    cases e
    simp only [PyData.showable, decide_eq_true_eq] at this
    simp only [dRepr, if_pos this]
theorem sw_gd {B : Nat} (hB : B < 10 ^ 126) : ∀ {h : Nat} {d : D}, Gd B h d → Sw h d
  | 0, d, q => by
    obtain ⟨i, rfl, hi⟩ := q
    simp only [Sw]
    exact Nat.lt_of_le_of_lt hi hB
  | h + 1, d, q => by
    rcases q with ⟨i, rfl, hi⟩ | ⟨l, rfl, hl, hx⟩
    · simp only [Sw]
      exact Nat.lt_of_le_of_lt hi hB
    · simp only [Sw]; exact ⟨hl, fun x hm => sw_gd hB (hx x hm)⟩
theorem sw_str {k : Nat} (x : Str) (h : PyData.strOk x = true ∧ x.cps.size ≤ 5) : Sw k (.str x) := by simpa only [Sw] using h
theorem sw_int {k : Nat} {i : Int} (h : i.natAbs ≤ 10 ^ 30) : Sw k (.int i) := by
  simp only [Sw]
  exact Nat.lt_of_le_of_lt h (by decide +kernel)
theorem sw_ch {d : D} (h : IsCh d) : Sw 1 d := by
  rcases h with rfl | rfl | ⟨x, hx, rfl⟩ | ⟨x, hx, rfl⟩ | ⟨x, hp, hx, rfl⟩
  · refine ⟨by simp, fun y hy => ?_⟩
    rw [List.mem_singleton.mp hy]; exact sw_str _ (by decide +kernel)
  · refine ⟨by simp, fun y hy => ?_⟩
    rw [List.mem_singleton.mp hy]; exact sw_str _ (by decide +kernel)
  all_goals
    refine ⟨by simp, fun y hy => ?_⟩
    rcases List.mem_cons.mp hy with rfl | hy
    · exact sw_str _ (by decide +kernel)
    · rw [List.mem_singleton.mp hy]; exact sw_int hx
theorem sw_rule {d : D} (h : IsRule d) : Sw 2 d := by
  obtain ⟨l, rfl, hl, hc⟩ := h
  exact ⟨hl, fun x hx => sw_ch (hc x hx)⟩
theorem sw_look : ∀ {t : Nat} {d : D}, IsLook t d → Sw (2 * t + 1) d := by
  have base : ∀ {k : Nat} {d : D}, Look0 d → Sw (k + 1) d := by
    rintro k d (⟨m, r, _, hm, hr, rfl⟩ | ⟨c, hc, rfl⟩)
    · refine ⟨by simp, fun y hy => ?_⟩
      rcases List.mem_cons.mp hy with rfl | hy
      · exact sw_str _ (by decide +kernel)
      · rcases List.mem_cons.mp hy with rfl | hy
        · exact sw_int hm
        · rw [List.mem_singleton.mp hy]; exact sw_int hr
    · refine ⟨by simp, fun y hy => ?_⟩
      rcases List.mem_cons.mp hy with rfl | hy
      · exact sw_str _ (by decide +kernel)
      · rw [List.mem_singleton.mp hy]; exact sw_int hc
  intro t
  induction t with
  | zero => exact fun h => base h
  | succ t ih =>
    intro d h
    rcases h with h | ⟨r, l, hr, hl, hx, rfl⟩
    · exact base h
    · refine ⟨by simp, fun y hy => ?_⟩
      rcases List.mem_cons.mp hy with rfl | hy
      · exact sw_str _ (by decide +kernel)
      · rcases List.mem_cons.mp hy with rfl | hy
        · exact (sw_rule hr).mono (by omega)
        · rw [List.mem_singleton.mp hy]
          exact ⟨by omega, fun x hm => ih (hx x hm)⟩
theorem sw_test {t : Nat} {d : D} (h : IsTest t d) : Sw (2 * t + 2) d := by
  obtain ⟨l, rfl, hl, hx⟩ := h
  exact ⟨by omega, fun x hm => sw_look (hx x hm)⟩
end K81
end

section
set_option Elab.async false
set_option linter.all false
set_option maxRecDepth 100000
set_option maxHeartbeats 1000000
namespace K81
open PySem L2 G
theorem read_right {n : Nat} {b : Bool} {st : Store} : fns (n + 1) .l_read_right [.bl b, .bl b] st = .ok (.bl true) st := by
  have e : dEq (.bl b) (.bl b) st = some (.bl true) := by cases b <;> rfl
  exact runF_ret (by simp [g_l_read_right, dIsT, tyName, isTy, e])
theorem strOk_shown {s : Str} {st : Store} (h : PyData.strOk s = true) : dEq (.str s) (.str s) st = some (.bl true) := by
  rw [word_eq s s h h]; simp
end K81
end

section
set_option Elab.async false
set_option linter.all false
set_option maxRecDepth 100000
set_option maxHeartbeats 1000000
namespace K81
open PySem L2 G
def rB1 : Ev → M Fl := (sSeq (sIf (tVal (eOp dNeS (eB dRepr [(eCall (fns 58 .rule_told) [(eVar 2), (eVar 6)])]) (eB dRepr [(eCall (fns 58 .l_made) [(eVar 2), (eVar 6)])]))) (sRet (eC (.bl false))) sNop) (sIf (tNot' (tVal (eCall (fns 58 .l_read_right) [(eCall (fns 58 .test_told) [(eVar 3), (eVar 6)]), (eCall (fns 58 .l_holds) [(eVar 3), (eVar 6)])]))) (sRet (eC (.bl false))) sNop))
def rB2 : Ev → M Fl := (sSeq (sIf (tNot' (tVal (eCall (fns 58 .l_read_right) [(eCall (fns 58 .is_rule) [(eVar 8)]), (eCall (fns 58 .l_reads_rule) [(eVar 8)])]))) (sRet (eC (.bl false))) sNop) (sIf (tNot' (tVal (eCall (fns 58 .l_read_right) [(eCall (fns 58 .is_test) [(eVar 8)]), (eCall (fns 58 .l_reads_test) [(eVar 8)])]))) (sRet (eC (.bl false))) sNop))
def rB3 : Ev → M Fl := (sFor (iSeq (eLst [(eVar 2), (eVar 3), (eCall (fns 58 .l_spoilt) [(eVar 0), (eVar 2)]), (eCall (fns 58 .l_spoilt) [(eVar 0), (eVar 3)])])) (tgName 8) rB2)
def rTail : Ev → M Fl := (sSeq (sFor (iSeq (eOp dAdd (eVar 4) (eUn dRev (eVar 4)))) (tgName 6) rB1) (sSeq (sFor (iRange (eC (.int 6))) (tgName 7) rB3) (sRet (eOp dEqS (eB dRepr [(eTup [(eVar 2), (eVar 3), (eVar 4)])]) (eVar 5)))))
theorem g_right : g_l_right (fns 58) = (sSeq (sAsg 1 (eNewD [.inr "great"] [(eC (.int 4))])) (sSeq (sPar 2 3 (eCall (fns 58 .l_rule) [(eVar 0), (eVar 1)]) (eCall (fns 58 .l_test) [(eVar 0), (eVar 1), (eC (.int 2))])) (sSeq (sAsg 4 (eComp [9] (iRange (eC (.int 3))) (tgName 9) (fun _ => pure true) (eCall (fns 58 .l_gift) [(eVar 0), (eVar 1), (eC (.int 4))]))) (sSeq (sAsg 5 (eB dRepr [(eTup [(eVar 2), (eVar 3), (eVar 4)])])) rTail)))) := rfl
theorem eqS (s : Str) (st : Store) : dEqS (.str s) (.str s) st = some (.bl true) := by simp [dEqS]
theorem neS (s : Str) (st : Store) : dNeS (.str s) (.str s) st = some (.bl false) := by simp [dNeS]
section
variable {i j : Nat} {s0 : Store}
theorem gift_step {r t g : D} {gs kept : D} {o7 o8 o9 : Option D} {st : Store} (hr : IsRule r) (ht : IsTest 2 t) (hg : Gd (10 ^ 30) 4 g) :
    rB1 [some (.cell i), some (.cell j), some r, some t, some gs, some kept, some g, o7, o8, o9] st = .ok (.nx [some (.cell i), some (.cell j), some r, some t, some gs, some kept, some g, o7, o8, o9]) st := by
  have g1 : Gd (Bd 1) 4 g := hg.mono (by decide) (Nat.le_refl _)
  obtain ⟨d, e1, e2, gd⟩ := ruled (st := st) hr (by decide) (by decide) g1
  have sw : Sw 7 d := sw_gd (by decide +kernel) gd
  have hd : (∃ l, d = .tup l) ∨ ∃ i, d = .int i := by
    rcases gd with ⟨i, rfl, _⟩ | ⟨l, rfl, _, _⟩
    · exact .inr ⟨i, rfl⟩
    · exact .inl ⟨l, rfl⟩
  obtain ⟨s, hs⟩ := sw.repr hd
  obtain ⟨l, rfl, hl, hx⟩ := ht
  obtain ⟨b, t1, t2⟩ := tested (st := st) 2 1 4 l g hx (by decide) (by decide) g1
  have f1 := e1 57 (by decide)
  have f2 := e2 57 (by decide)
  have f3 := t1 58 (by decide)
  have f4 := t2 58 (by decide)
  have f5 := read_right (n := 57) (b := b) (st := st)
  simp only [Nat.reduceAdd] at f1 f2 f5
  simp [rB1, f1, f2, f3, f4, f5, hs st, neS]
theorem thing_step {L k : Nat} {r t x : D} {gs kept : D} {o6 o7 o9 : Option D} {st : Store} (hx : Sh L k x) (hk : k ≤ 20) :
    rB2 [some (.cell i), some (.cell j), some r, some t, some gs, some kept, o6, o7, some x, o9] st = .ok (.nx [some (.cell i), some (.cell j), some r, some t, some gs, some kept, o6, o7, some x, o9]) st := by
  obtain ⟨b, e1, e2⟩ := rule_reads (st := st) hx (by omega)
  obtain ⟨c, t1, t2⟩ := test_reads (st := st) k x hx (by omega)
  have f1 := e1 55
  have f2 := e2 56
  have f3 := t1 55 (by omega)
  have f4 := t2 56 (by omega)
  have f5 := read_right (n := 57) (b := b) (st := st)
  have f6 := read_right (n := 57) (b := c) (st := st)
  simp only [Nat.reduceAdd] at f1 f2 f3 f4 f5 f6
  simp [rB2, f1, f2, f3, f4, f5, f6]
theorem turn_step {r t : D} {gs kept : D} {o6 o7 o8 o9 : Option D} {st : Store} (hr : IsRule r) (ht : IsTest 2 t) (h : Inv' i j s0 st) :
    ∃ o8' st', Inv' i j s0 st' ∧ rB3 [some (.cell i), some (.cell j), some r, some t, some gs, some kept, o6, o7, o8, o9] st = .ok (.nx [some (.cell i), some (.cell j), some r, some t, some gs, some kept, o6, o7, o8', o9]) st' := by
  have sr : Sh 3 2 r := (sw_rule hr).sh
  have sT : Sh 3 6 t := (sw_test ht).sh
  obtain ⟨x, s1, e1, x1, h1⟩ := spoilt (n := 54) (L := 3) (by decide) (by decide) 2 r st sr h
  obtain ⟨y, s2, e2, y1, h2⟩ := spoilt (n := 50) (L := 3) (by decide) (by decide) 6 t s1 sT h1
  simp only [Nat.reduceAdd] at e1 e2
  refine ⟨some y, s2, h2, ?_⟩
  have a1 := thing_step (i := i) (j := j) (r := r) (t := t) (gs := gs) (kept := kept) (o6 := o6) (o7 := o7) (o9 := o9) (st := s2) sr (by decide)
  have a2 := thing_step (i := i) (j := j) (r := r) (t := t) (gs := gs) (kept := kept) (o6 := o6) (o7 := o7) (o9 := o9) (st := s2) sT (by decide)
  have a3 := thing_step (i := i) (j := j) (r := r) (t := t) (gs := gs) (kept := kept) (o6 := o6) (o7 := o7) (o9 := o9) (st := s2) x1 (by decide)
  have a4 := thing_step (i := i) (j := j) (r := r) (t := t) (gs := gs) (kept := kept) (o6 := o6) (o7 := o7) (o9 := o9) (st := s2) y1 (by decide)
  simp [rB3, e1, e2, forGo, tgName, a1, a2, a3, a4]
theorem right {st : Store} (hi : i < st.length) (h : Pot i st) : ∃ st', fns 59 .l_right [.cell i] st = .ok (.bl true) st' ∧ ∀ k, k ≠ i → k < st.length → st'[k]? = st[k]? := by
  have hj : i ≠ st.length := by omega
  have h0 : Inv' i st.length (st ++ [.dct [(.inr "great", .int 4)]]) (st ++ [.dct [(.inr "great", .int 4)]]) := by
    obtain ⟨c, hc, pc⟩ := h
    exact ⟨⟨c, by rw [List.getElem?_append_left hi]; exact hc, pc⟩, ⟨_, by rw [List.getElem?_append_right (Nat.le_refl _)]; simp, 4, rfl⟩, fun k _ _ => rfl, hj⟩
  obtain ⟨r, s1, e1, hr, h1⟩ := rule (n := 54) h0
  obtain ⟨t, s2, e2, ht, h2⟩ := testP (n := 48) 2 s1 h1
  obtain ⟨gs, s3, e3, h3, gl, ga⟩ := compGo_inv (i := 9) (env := [some (.cell i), some (.cell st.length), some r, some t, none, none, none, none, none, none]) (fe := eCall (fns 58 .l_gift) [(eVar 0), (eVar 1), (eC (.int 4))]) (Inv' i st.length (st ++ [.dct [(.inr "great", .int 4)]])) (Gd (10 ^ 30) 4) [.int 0, .int 1, .int 2] [] s2 (fun d _ st h => by
    obtain ⟨c, st', e, a, b⟩ := giftP (n := 51) 4 st h
    simp only [Nat.reduceAdd] at e
    exact ⟨c, st', by simpa using e, b, a⟩) h2
  simp only [Nat.reduceAdd, Nat.reduceMul] at e1 e2
  have e2 : fns 58 .l_test [.cell i, .cell st.length, .int 2] s1 = .ok t s2 := e2
  have rg : ∀ env st, iRange (eC (.int 3)) env st = .ok [.int 0, .int 1, .int 2] st := fun _ _ => rfl
  have rg6 : ∀ env st, iRange (eC (.int 6)) env st = .ok [.int 0, .int 1, .int 2, .int 3, .int 4, .int 5] st := fun _ _ => rfl
  have e4 := eComp_of (vs := [9]) (st := s2) (env := [some (.cell i), some (.cell st.length), some r, some t, none, none, none, none, none, none]) (fi := iRange (eC (.int 3))) (tg := tgName 9) (tt := fun _ => pure true) (rg _ _) e3
  have sw : Sw 7 (.tup [r, t, .lst gs]) := by
    refine ⟨by simp, fun y hy => ?_⟩
    rcases List.mem_cons.mp hy with rfl | hy
    · exact (sw_rule hr).mono (by decide)
    · rcases List.mem_cons.mp hy with rfl | hy
      · exact (sw_test ht).mono (by decide)
      · rw [List.mem_singleton.mp hy]
        exact ⟨by rw [gl]; decide, fun x hx => (sw_gd (by decide +kernel) (ga x hx)).mono (by decide)⟩
  obtain ⟨s, hs⟩ := sw.repr (.inl ⟨_, rfl⟩)
  have hs : ∀ st, dRepr [.tup [r, t, .lst gs]] st = some (.str s) := hs
  have gl3 : gs.length = 3 := gl
  have ad : dAdd (.lst gs) (.lst gs.reverse) s3 = some (.lst (gs ++ gs.reverse)) := by
    simp only [dAdd]
    rw [if_pos (by rw [List.length_reverse, gl3]; decide)]
  have rv : dRev (.lst gs) s3 = some (.lst gs.reverse) := rfl
  obtain ⟨env1, st1, ⟨rfl, o6, rfl⟩, l1⟩ := forGo_inv (i := 6) (g := rB1) (gs ++ gs.reverse) (fun k env st' => st' = s3 ∧ ∃ o6, env = [some (.cell i), some (.cell st.length), some r, some t, some (.lst gs), some (.str s), o6, none, none, none])
    [some (.cell i), some (.cell st.length), some r, some t, some (.lst gs), some (.str s), none, none, none, none] s3 ⟨rfl, none, rfl⟩ (fun k d hk env st' ⟨z1, o, z2⟩ => by
      subst z1; subst z2
      have hm : d ∈ gs := by
        rcases List.mem_append.mp (List.mem_of_getElem? hk) with hm | hm
        · exact hm
        · exact List.mem_reverse.mp hm
      exact ⟨_, _, ⟨rfl, some d, rfl⟩, gift_step hr ht (ga d hm)⟩)
  obtain ⟨env2, s4, ⟨h4, o7, o8, rfl⟩, l2⟩ := forGo_inv (i := 7) (g := rB3) [.int 0, .int 1, .int 2, .int 3, .int 4, .int 5] (fun k env st' => Inv' i st.length (st ++ [.dct [(.inr "great", .int 4)]]) st' ∧ ∃ o7 o8, env = [some (.cell i), some (.cell st.length), some r, some t, some (.lst gs), some (.str s), o6, o7, o8, none])
    [some (.cell i), some (.cell st.length), some r, some t, some (.lst gs), some (.str s), o6, none, none, none] _ ⟨h3, none, none, rfl⟩ (fun k d hk env st' ⟨z1, o7, o8, z2⟩ => by
      subst z2
      obtain ⟨o8', st2, hh, ee⟩ := turn_step (gs := .lst gs) (kept := .str s) (o6 := o6) (o7 := some d) (o8 := o8) (o9 := none) hr ht z1
      exact ⟨_, st2, ⟨hh, some d, o8', rfl⟩, ee⟩)
  refine ⟨s4, runF_ret ?_, fun k hk hl => ?_⟩
  · have tl : rTail [some (.cell i), some (.cell st.length), some r, some t, some (.lst gs), some (.str s), none, none, none, none] st1 = .ok (.ret (.bl true)) s4 := by
      simp [rTail, rv, ad, l1, rg6, l2, hs s4, eqS]
    have gl2 : (.dct (List.zip [(.inr "great" : Key)] [D.int 4]) : Cell) = .dct [(.inr "great", .int 4)] := rfl
    simp [g_right, gl2, e1, e2, e4, hs, tl]
  · rw [h4.rest k hk (by omega), List.getElem?_append_left hl]
end
theorem pot {ns : List Int} {k : Nat} {st : Store} (h : st[0]? = some (.ro (ns.map D.int))) (hk : k ≤ 2) : ∃ c, fns 59 .l_pot [.cell 0, .int (k : Nat)] st = .ok (.cell st.length) (st ++ [c]) ∧ PotC c := by
  have cl : cellL st 0 = some (ns.map D.int) := by unfold cellL; rw [h]
  have ln : dLen [.cell 0] st = some (.int ns.length) := by simp [dLen, cl]
  obtain ⟨z, hz⟩ : ∃ z : Int, eIf (tVal (eOp dLt (eVar 1) (eB dLen [(eVar 0)]))) (eOp dIdx (eVar 0) (eVar 1)) (eC (.int 0)) [some (.cell 0), some (.int (k : Nat)), none] st = .ok (.int z) st := by
    by_cases hl : k < ns.length
    · refine ⟨ns[k], ?_⟩
      have ix : dIdx (.cell 0) (.int (k : Nat)) st = some (.int ns[k]) := dIdx_cn cl (by simp [hl])
      simp [ln, hl, ix]
    · exact ⟨0, by simp [ln, hl]⟩
  have m1 : ∀ st, dMod (.int z) (.int 2147483629) st = some (.int (z % 2147483629)) := fun st => dMod_of (by decide)
  have m2 : ∀ st, dMul (.int 977) (.int (k : Nat)) st = some (.int (977 * (k : Nat))) := fun st => dMul_of (mulOk_of (a := 10) (b := 2) (by decide) (by omega) (by decide) (by decide))
  have b1 := Int.emod_nonneg z (by decide : (2147483629 : Int) ≠ 0)
  have b2 := Int.emod_lt_of_pos z (by decide : (0 : Int) < 2147483629)
  by_cases hc : 1000000000000000000 ≤ z
  · refine ⟨.lst [.int (z - 1000000000000000000), .int (z % 2147483629 + 977 * (k : Nat) + 1)], runF_ret ?_, _, _, rfl, by omega, by omega⟩
    simp only [g_l_pot, sSeq_app, sAsg_app, List.map_cons, List.map_nil, List.length_cons, List.length_nil, Nat.reduceAdd, Nat.reduceSub, List.replicate, List.cons_append, List.nil_append]
    rw [hz]
    simp [p18, hc, m1, m2]
  · refine ⟨.lst [.int 0, .int (z % 2147483629 + 977 * (k : Nat) + 1)], runF_ret ?_, _, _, rfl, by omega, by omega⟩
    simp only [g_l_pot, sSeq_app, sAsg_app, List.map_cons, List.map_nil, List.length_cons, List.length_nil, Nat.reduceAdd, Nat.reduceSub, List.replicate, List.cons_append, List.nil_append]
    rw [hz]
    simp [p18, hc, m1, m2]
theorem tells_true : ∀ ns : List Int, ns.length ≤ 63 → (∀ z ∈ ns, Builtin.Int.intBits z ≤ 1048576) → ∃ st', fns 60 .law [.cell 0] [.ro (ns.map D.int)] = .ok (.bl true) st' := by
  intro ns _ _
  have ln : dLen [.cell 0] [.ro (ns.map D.int)] = some (.int ns.length) := by simp [dLen, cellL]
  obtain ⟨m, hm, em⟩ : ∃ m : Nat, m ≤ 3 ∧ eB dMax2 [(eC (.int 1)), (eB dMin2 [(eC (.int 3)), (eB dLen [(eVar 0)])])] [some (.cell 0), none] [.ro (ns.map D.int)] = .ok (.int (m : Nat)) [.ro (ns.map D.int)] := by
    refine ⟨max 1 (min 3 ns.length), by omega, ?_⟩
    simp [ln, dMin2, dMax2]
    split <;> split <;> omega
  have rg := iRange_at em (by omega) (by omega)
  have tn : ((m : Nat) : Int).toNat = m := by omega
  rw [tn] at rg
  obtain ⟨env, st', ⟨_, o, rfl⟩, e⟩ := forGo_inv (i := 1) (g := (sIf (tNot' (tVal (eCall (fns 59 .l_right) [(eCall (fns 59 .l_pot) [(eVar 0), (eVar 1)])]))) (sRet (eC (.bl false))) sNop)) (rangeD m) (fun k env st => st[0]? = some (.ro (ns.map D.int)) ∧ ∃ o, env = [some (.cell 0), o]) [some (.cell 0), none] [.ro (ns.map D.int)] ⟨rfl, none, rfl⟩ (fun k d hk env st ⟨h0, o, he⟩ => by
    subst he
    obtain ⟨hlt, rfl⟩ := rangeD_at hk
    obtain ⟨c, e1, pc⟩ := pot (k := k) h0 (by omega)
    have hl : 0 < st.length := (List.getElem?_eq_some_iff.mp h0).1
    obtain ⟨st', e2, hh⟩ := right (i := st.length) (st := st ++ [c]) (by simp) ⟨c, by rw [List.getElem?_append_right (Nat.le_refl _)]; simp, pc⟩
    refine ⟨[some (.cell 0), some (.int (k : Nat))], st', ⟨?_, _, rfl⟩, ?_⟩
    · rw [hh 0 (by omega) (by simp), List.getElem?_append_left hl]; exact h0
    · simp [e1, e2])
  exact ⟨st', runF_ret (by simp [g_law, rg, e])⟩
end K81
end

section
set_option Elab.async false
set_option linter.all false
set_option maxRecDepth 100000
set_option maxHeartbeats 4000000
namespace K81
open PySem PySem.Spec PyProof.Rows L2 G
def top (i : Nat) : Stmt := PySem.Challenge.pw_giftstreams_k81_rules_and_tests.main.body.getD i (.Pass ⟨0, 0, 0, 0⟩)
abbrev nm : Fn → Str
  | .is_whole => "is_whole"
  | .is_rule => "is_rule"
  | .is_change => "is_change"
  | .is_test => "is_test"
  | .is_look => "is_look"
  | .sum_of => "sum_of"
  | .changed => "changed"
  | .rule_told => "rule_told"
  | .is_so => "is_so"
  | .test_told => "test_told"
  | .l_pot => "_law_pot"
  | .l_digit => "_law_digit"
  | .l_whole => "_law_whole"
  | .l_change => "_law_change"
  | .l_rule => "_law_rule"
  | .l_look => "_law_look"
  | .l_test => "_law_test"
  | .l_gift => "_law_gift"
  | .l_all_numbers => "_law_all_numbers"
  | .l_each => "_law_each"
  | .l_made => "_law_made"
  | .l_holds => "_law_holds"
  | .l_whole_one => "_law_whole_one"
  | .l_reads_rule => "_law_reads_rule"
  | .l_reads_test => "_law_reads_test"
  | .l_spoilt => "_law_spoilt"
  | .l_read_right => "_law_read_right"
  | .l_right => "_law_right"
  | .law => "law"
abbrev st : Fn → Stmt
  | .is_whole => top 1
  | .is_rule => top 3
  | .is_change => top 4
  | .is_test => top 5
  | .is_look => top 6
  | .sum_of => top 7
  | .changed => top 8
  | .rule_told => top 9
  | .is_so => top 10
  | .test_told => top 11
  | .l_pot => top 13
  | .l_digit => top 14
  | .l_whole => top 15
  | .l_change => top 16
  | .l_rule => top 17
  | .l_look => top 18
  | .l_test => top 19
  | .l_gift => top 20
  | .l_all_numbers => top 21
  | .l_each => top 22
  | .l_made => top 23
  | .l_holds => top 24
  | .l_whole_one => top 25
  | .l_reads_rule => top 26
  | .l_reads_test => top 27
  | .l_spoilt => top 28
  | .l_read_right => top 29
  | .l_right => top 30
  | .law => top 31
abbrev ps : Fn → List Str
  | .is_whole => ["thing"]
  | .is_rule => ["thing"]
  | .is_change => ["thing"]
  | .is_test => ["thing"]
  | .is_look => ["thing"]
  | .sum_of => ["gift"]
  | .changed => ["change", "gift"]
  | .rule_told => ["rule", "gift"]
  | .is_so => ["look", "gift"]
  | .test_told => ["test", "gift"]
  | .l_pot => ["_law_script", "_law_k"]
  | .l_digit => ["_law_pot_here", "_law_many"]
  | .l_whole => ["_law_pot_here", "_law_room"]
  | .l_change => ["_law_pot_here", "_law_room"]
  | .l_rule => ["_law_pot_here", "_law_room"]
  | .l_look => ["_law_pot_here", "_law_room", "_law_deep"]
  | .l_test => ["_law_pot_here", "_law_room", "_law_deep"]
  | .l_gift => ["_law_pot_here", "_law_room", "_law_deep"]
  | .l_all_numbers => ["_law_gift_here"]
  | .l_each => ["_law_gift_here", "_law_word", "_law_c"]
  | .l_made => ["_law_rule_here", "_law_gift_here"]
  | .l_holds => ["_law_test_here", "_law_gift_here"]
  | .l_whole_one => ["_law_thing"]
  | .l_reads_rule => ["_law_thing"]
  | .l_reads_test => ["_law_thing"]
  | .l_spoilt => ["_law_pot_here", "_law_thing"]
  | .l_read_right => ["_law_found", "_law_due"]
  | .l_right => ["_law_pot_here"]
  | .law => ["_law_script"]
def free : List Str := ["all", "bool", "divmod", "int", "isinstance", "len", "max", "min", "range", "repr", "str", "sum", "tuple"]
abbrev FT (K : PySem.W.Frag) (mg : Str → Option Value) : Prop := Facts Fn nm st free K mg
abbrev N_is_whole : List Str := ["thing"]
theorem sc_is_whole : FnScope N_is_whole ["thing"] (defScope (st .is_whole)) := ⟨rfl, rfl, rfl, by decide +kernel, rfl, by decide +kernel, by decide +kernel⟩
abbrev N_is_rule : List Str := ["thing", "one"]
theorem sc_is_rule : FnScope N_is_rule ["thing"] (defScope (st .is_rule)) := ⟨rfl, rfl, rfl, by decide +kernel, rfl, by decide +kernel, by decide +kernel⟩
abbrev N_is_change : List Str := ["thing"]
theorem sc_is_change : FnScope N_is_change ["thing"] (defScope (st .is_change)) := ⟨rfl, rfl, rfl, by decide +kernel, rfl, by decide +kernel, by decide +kernel⟩
abbrev N_is_test : List Str := ["thing", "one"]
theorem sc_is_test : FnScope N_is_test ["thing"] (defScope (st .is_test)) := ⟨rfl, rfl, rfl, by decide +kernel, rfl, by decide +kernel, by decide +kernel⟩
abbrev N_is_look : List Str := ["thing"]
theorem sc_is_look : FnScope N_is_look ["thing"] (defScope (st .is_look)) := ⟨rfl, rfl, rfl, by decide +kernel, rfl, by decide +kernel, by decide +kernel⟩
abbrev N_sum_of : List Str := ["gift", "part"]
theorem sc_sum_of : FnScope N_sum_of ["gift"] (defScope (st .sum_of)) := ⟨rfl, rfl, rfl, by decide +kernel, rfl, by decide +kernel, by decide +kernel⟩
abbrev N_changed : List Str := ["change", "gift", "word", "part"]
theorem sc_changed : FnScope N_changed ["change", "gift"] (defScope (st .changed)) := ⟨rfl, rfl, rfl, by decide +kernel, rfl, by decide +kernel, by decide +kernel⟩
abbrev N_rule_told : List Str := ["rule", "gift", "change"]
theorem sc_rule_told : FnScope N_rule_told ["rule", "gift"] (defScope (st .rule_told)) := ⟨rfl, rfl, rfl, by decide +kernel, rfl, by decide +kernel, by decide +kernel⟩
abbrev N_is_so : List Str := ["look", "gift"]
theorem sc_is_so : FnScope N_is_so ["look", "gift"] (defScope (st .is_so)) := ⟨rfl, rfl, rfl, by decide +kernel, rfl, by decide +kernel, by decide +kernel⟩
abbrev N_test_told : List Str := ["test", "gift", "look"]
theorem sc_test_told : FnScope N_test_told ["test", "gift"] (defScope (st .test_told)) := ⟨rfl, rfl, rfl, by decide +kernel, rfl, by decide +kernel, by decide +kernel⟩
abbrev N_l_pot : List Str := ["_law_script", "_law_k", "_law_cell"]
theorem sc_l_pot : FnScope N_l_pot ["_law_script", "_law_k"] (defScope (st .l_pot)) := ⟨rfl, rfl, rfl, by decide +kernel, rfl, by decide +kernel, by decide +kernel⟩
abbrev N_l_digit : List Str := ["_law_pot_here", "_law_many", "_law_digit_here"]
theorem sc_l_digit : FnScope N_l_digit ["_law_pot_here", "_law_many"] (defScope (st .l_digit)) := ⟨rfl, rfl, rfl, by decide +kernel, rfl, by decide +kernel, by decide +kernel⟩
abbrev N_l_whole : List Str := ["_law_pot_here", "_law_room", "_law_great", "_law_turn"]
theorem sc_l_whole : FnScope N_l_whole ["_law_pot_here", "_law_room"] (defScope (st .l_whole)) := ⟨rfl, rfl, rfl, by decide +kernel, rfl, by decide +kernel, by decide +kernel⟩
abbrev N_l_change : List Str := ["_law_pot_here", "_law_room", "_law_kind"]
theorem sc_l_change : FnScope N_l_change ["_law_pot_here", "_law_room"] (defScope (st .l_change)) := ⟨rfl, rfl, rfl, by decide +kernel, rfl, by decide +kernel, by decide +kernel⟩
abbrev N_l_rule : List Str := ["_law_pot_here", "_law_room", "_law_k"]
theorem sc_l_rule : FnScope N_l_rule ["_law_pot_here", "_law_room"] (defScope (st .l_rule)) := ⟨rfl, rfl, rfl, by decide +kernel, rfl, by decide +kernel, by decide +kernel⟩
abbrev N_l_look : List Str := ["_law_pot_here", "_law_room", "_law_deep", "_law_kind", "_law_by"]
theorem sc_l_look : FnScope N_l_look ["_law_pot_here", "_law_room", "_law_deep"] (defScope (st .l_look)) := ⟨rfl, rfl, rfl, by decide +kernel, rfl, by decide +kernel, by decide +kernel⟩
abbrev N_l_test : List Str := ["_law_pot_here", "_law_room", "_law_deep", "_law_k"]
theorem sc_l_test : FnScope N_l_test ["_law_pot_here", "_law_room", "_law_deep"] (defScope (st .l_test)) := ⟨rfl, rfl, rfl, by decide +kernel, rfl, by decide +kernel, by decide +kernel⟩
abbrev N_l_gift : List Str := ["_law_pot_here", "_law_room", "_law_deep", "_law_k"]
theorem sc_l_gift : FnScope N_l_gift ["_law_pot_here", "_law_room", "_law_deep"] (defScope (st .l_gift)) := ⟨rfl, rfl, rfl, by decide +kernel, rfl, by decide +kernel, by decide +kernel⟩
abbrev N_l_all_numbers : List Str := ["_law_gift_here", "_law_found", "_law_one"]
theorem sc_l_all_numbers : FnScope N_l_all_numbers ["_law_gift_here"] (defScope (st .l_all_numbers)) := ⟨rfl, rfl, rfl, by decide +kernel, rfl, by decide +kernel, by decide +kernel⟩
abbrev N_l_each : List Str := ["_law_gift_here", "_law_word", "_law_c", "_law_one"]
theorem sc_l_each : FnScope N_l_each ["_law_gift_here", "_law_word", "_law_c"] (defScope (st .l_each)) := ⟨rfl, rfl, rfl, by decide +kernel, rfl, by decide +kernel, by decide +kernel⟩
abbrev N_l_made : List Str := ["_law_rule_here", "_law_gift_here", "_law_change_here"]
theorem sc_l_made : FnScope N_l_made ["_law_rule_here", "_law_gift_here"] (defScope (st .l_made)) := ⟨rfl, rfl, rfl, by decide +kernel, rfl, by decide +kernel, by decide +kernel⟩
abbrev N_l_holds : List Str := ["_law_test_here", "_law_gift_here", "_law_look_here", "_law_good"]
theorem sc_l_holds : FnScope N_l_holds ["_law_test_here", "_law_gift_here"] (defScope (st .l_holds)) := ⟨rfl, rfl, rfl, by decide +kernel, rfl, by decide +kernel, by decide +kernel⟩
abbrev N_l_whole_one : List Str := ["_law_thing"]
theorem sc_l_whole_one : FnScope N_l_whole_one ["_law_thing"] (defScope (st .l_whole_one)) := ⟨rfl, rfl, rfl, by decide +kernel, rfl, by decide +kernel, by decide +kernel⟩
abbrev N_l_reads_rule : List Str := ["_law_thing", "_law_one"]
theorem sc_l_reads_rule : FnScope N_l_reads_rule ["_law_thing"] (defScope (st .l_reads_rule)) := ⟨rfl, rfl, rfl, by decide +kernel, rfl, by decide +kernel, by decide +kernel⟩
abbrev N_l_reads_test : List Str := ["_law_thing", "_law_one"]
theorem sc_l_reads_test : FnScope N_l_reads_test ["_law_thing"] (defScope (st .l_reads_test)) := ⟨rfl, rfl, rfl, by decide +kernel, rfl, by decide +kernel, by decide +kernel⟩
abbrev N_l_spoilt : List Str := ["_law_pot_here", "_law_thing", "_law_odd", "_law_other", "_law_way", "_law_at"]
theorem sc_l_spoilt : FnScope N_l_spoilt ["_law_pot_here", "_law_thing"] (defScope (st .l_spoilt)) := ⟨rfl, rfl, rfl, by decide +kernel, rfl, by decide +kernel, by decide +kernel⟩
abbrev N_l_read_right : List Str := ["_law_found", "_law_due"]
theorem sc_l_read_right : FnScope N_l_read_right ["_law_found", "_law_due"] (defScope (st .l_read_right)) := ⟨rfl, rfl, rfl, by decide +kernel, rfl, by decide +kernel, by decide +kernel⟩
abbrev N_l_right : List Str := ["_law_pot_here", "_law_room", "_law_rule_here", "_law_test_here", "_law_gifts", "_law_kept", "_law_gift_here", "_law_turn", "_law_thing", "_law_k"]
theorem sc_l_right : FnScope N_l_right ["_law_pot_here"] (defScope (st .l_right)) := ⟨rfl, rfl, rfl, by decide +kernel, rfl, by decide +kernel, by decide +kernel⟩
abbrev N_law : List Str := ["_law_script", "_law_k"]
theorem sc_law : FnScope N_law ["_law_script"] (defScope (st .law)) := ⟨rfl, rfl, rfl, by decide +kernel, rfl, by decide +kernel, by decide +kernel⟩
section
variable {P : Program} {w : World} {K : PySem.W.Frag} {mg : Str → Option Value} {base : Heap}
theorem bd_is_whole {fd : FuncData} (FD : FunD K (nm .is_whole) (nm .is_whole) (defArgs (st .is_whole)) (defBody (st .is_whole)) (defScope (st .is_whole)) [] [] (He.ga K (nm .is_whole)) fd) : Binds K fd (ps .is_whole) [] := FD.bindsN fun _ _ _ _ _ _ us hl => match us, hl with | [_], _ => rfl
theorem ok_is_whole (T : FT K mg) {n : Nat} (ih : ∀ y, CalM P w K mg base n (nm y) (ps y) (fns n y)) : CalM P w K mg base (n + 1) (nm .is_whole) (ps .is_whole) (fns (n + 1) .is_whole) := by
  refine calm_of T .is_whole sc_is_whole (by decide) (fun fd FD => bd_is_whole FD) fun cdv A outer s H E gd hr => ?_
  have hu := hr.units
  have hu5 := room65 hr
  have hu1 := room1 hr
  have tk : Takes (cxOf (L2.CX P w) P w K mg base N_is_whole (nm .is_whole) (defScope (st .is_whole)) (He.ga K (nm .is_whole)) cdv A outer s H E) (fun cls d _ H => E cls d H) := takes_of rfl rfl rfl rfl
  have po : PassesOwn (model P w) (cxOf (L2.CX P w) P w K mg base N_is_whole (nm .is_whole) (defScope (st .is_whole)) (He.ga K (nm .is_whole)) cdv A outer s H E).A (cxOf (L2.CX P w) P w K mg base N_is_whole (nm .is_whole) (defScope (st .is_whole)) (He.ga K (nm .is_whole)) cdv A outer s H E).env (cxOf (L2.CX P w) P w K mg base N_is_whole (nm .is_whole) (defScope (st .is_whole)) (He.ga K (nm .is_whole)) cdv A outer s H E).xe := passes_of rfl
  exact (dss_one (ds_ret (de_and (de_isi ty_int (dv 0) rfl (T.fr "isinstance" (by decide +kernel)) rfl (T.fr "int" (by decide +kernel)) (by decide +kernel)) (de_one (de_not (de_isi ty_bool (dv 0) rfl (T.fr "isinstance" (by decide +kernel)) rfl (T.fr "bool" (by decide +kernel)) (by decide +kernel)))))))
theorem bd_is_rule {fd : FuncData} (FD : FunD K (nm .is_rule) (nm .is_rule) (defArgs (st .is_rule)) (defBody (st .is_rule)) (defScope (st .is_rule)) [] [] (He.ga K (nm .is_rule)) fd) : Binds K fd (ps .is_rule) [] := FD.bindsN fun _ _ _ _ _ _ us hl => match us, hl with | [_], _ => rfl
theorem ok_is_rule (T : FT K mg) {n : Nat} (ih : ∀ y, CalM P w K mg base n (nm y) (ps y) (fns n y)) : CalM P w K mg base (n + 1) (nm .is_rule) (ps .is_rule) (fns (n + 1) .is_rule) := by
  refine calm_of T .is_rule sc_is_rule (by decide) (fun fd FD => bd_is_rule FD) fun cdv A outer s H E gd hr => ?_
  have hu := hr.units
  have hu5 := room65 hr
  have hu1 := room1 hr
  have tk : Takes (cxOf (L2.CX P w) P w K mg base N_is_rule (nm .is_rule) (defScope (st .is_rule)) (He.ga K (nm .is_rule)) cdv A outer s H E) (fun cls d _ H => E cls d H) := takes_of rfl rfl rfl rfl
  have po : PassesOwn (model P w) (cxOf (L2.CX P w) P w K mg base N_is_rule (nm .is_rule) (defScope (st .is_rule)) (He.ga K (nm .is_rule)) cdv A outer s H E).A (cxOf (L2.CX P w) P w K mg base N_is_rule (nm .is_rule) (defScope (st .is_rule)) (He.ga K (nm .is_rule)) cdv A outer s H E).env (cxOf (L2.CX P w) P w K mg base N_is_rule (nm .is_rule) (defScope (st .is_rule)) (He.ga K (nm .is_rule)) cdv A outer s H E).xe := passes_of rfl
  exact (dss_one (ds_ret (de_and (de_isi ty_tuple (dv 0) rfl (T.fr "isinstance" (by decide +kernel)) rfl (T.fr "tuple" (by decide +kernel)) (by decide +kernel)) (de_one (de_callB (cd_all rfl) rfl (T.fr "all" (by decide +kernel)) (by decide +kernel) (da_cons (de_comp (own := [("one", 1)]) rfl sc_is_rule.nd (di_seq (dv 0)) (blkOk_by (own := [("one", 1)]) (N := N_is_rule) (sc := defScope (st .is_rule)) (by decide +kernel)) (fun _ _ _ _ _ => (pg_name (i := 1) sc_is_rule.nd rfl (by first | exact Or.inl rfl | exact Or.inr rfl))) (tgok_name _ 1) (by decide) (fun _ _ _ _ _ => (dcall (ih .is_change) gd hr takes0 rfl rfl (da_cons (dv 1) da_nil)))) da_nil))))))
theorem bd_is_change {fd : FuncData} (FD : FunD K (nm .is_change) (nm .is_change) (defArgs (st .is_change)) (defBody (st .is_change)) (defScope (st .is_change)) [] [] (He.ga K (nm .is_change)) fd) : Binds K fd (ps .is_change) [] := FD.bindsN fun _ _ _ _ _ _ us hl => match us, hl with | [_], _ => rfl
theorem ok_is_change (T : FT K mg) {n : Nat} (ih : ∀ y, CalM P w K mg base n (nm y) (ps y) (fns n y)) : CalM P w K mg base (n + 1) (nm .is_change) (ps .is_change) (fns (n + 1) .is_change) := by
  refine calm_of T .is_change sc_is_change (by decide) (fun fd FD => bd_is_change FD) fun cdv A outer s H E gd hr => ?_
  have hu := hr.units
  have hu5 := room65 hr
  have hu1 := room1 hr
  have tk : Takes (cxOf (L2.CX P w) P w K mg base N_is_change (nm .is_change) (defScope (st .is_change)) (He.ga K (nm .is_change)) cdv A outer s H E) (fun cls d _ H => E cls d H) := takes_of rfl rfl rfl rfl
  have po : PassesOwn (model P w) (cxOf (L2.CX P w) P w K mg base N_is_change (nm .is_change) (defScope (st .is_change)) (He.ga K (nm .is_change)) cdv A outer s H E).A (cxOf (L2.CX P w) P w K mg base N_is_change (nm .is_change) (defScope (st .is_change)) (He.ga K (nm .is_change)) cdv A outer s H E).env (cxOf (L2.CX P w) P w K mg base N_is_change (nm .is_change) (defScope (st .is_change)) (He.ga K (nm .is_change)) cdv A outer s H E).xe := passes_of rfl
  exact (dss_cons (ds_if (dt_w (dw_or (dt_not (dt_val (de_isi ty_tuple (dv 0) rfl (T.fr "isinstance" (by decide +kernel)) rfl (T.fr "tuple" (by decide +kernel)) (by decide +kernel)))) (dw_or1 (dt_cmp (od_eq hu) (de_callB cd_len rfl (T.fr "len" (by decide +kernel)) (by decide +kernel) (da_cons (dv 0) da_nil)) de_int)))) (dss_one (ds_ret de_bl)) dss_nil) (dss_cons (ds_if (dt_cmp (od_eq hu) (de_callB cd_len rfl (T.fr "len" (by decide +kernel)) (by decide +kernel) (da_cons (dv 0) da_nil)) de_int) (dss_one (ds_ret (de_cmp (od_in hu5) (de_ix (dv 0) de_int) (de_tup (da_cons de_str (da_cons de_str da_nil)))))) dss_nil) (dss_cons (ds_if (dt_w (dw_or (dt_cmp od_gt (de_callB cd_len rfl (T.fr "len" (by decide +kernel)) (by decide +kernel) (da_cons (dv 0) da_nil)) de_int) (dw_or1 (dt_not (dt_val (dcall (ih .is_whole) gd hr tk rfl rfl (da_cons (de_ix (dv 0) de_int) da_nil))))))) (dss_one (ds_ret de_bl)) dss_nil) (dss_one (ds_ret (de_or (de_cmp (od_in hu5) (de_ix (dv 0) de_int) (de_tup (da_cons de_str (da_cons de_str da_nil)))) (de_one (de_and (de_cmp (od_eq hu) (de_ix (dv 0) de_int) de_str) (de_one (de_cmp od_gt (de_ix (dv 0) de_int) de_int))))))))))
theorem bd_is_test {fd : FuncData} (FD : FunD K (nm .is_test) (nm .is_test) (defArgs (st .is_test)) (defBody (st .is_test)) (defScope (st .is_test)) [] [] (He.ga K (nm .is_test)) fd) : Binds K fd (ps .is_test) [] := FD.bindsN fun _ _ _ _ _ _ us hl => match us, hl with | [_], _ => rfl
theorem ok_is_test (T : FT K mg) {n : Nat} (ih : ∀ y, CalM P w K mg base n (nm y) (ps y) (fns n y)) : CalM P w K mg base (n + 1) (nm .is_test) (ps .is_test) (fns (n + 1) .is_test) := by
  refine calm_of T .is_test sc_is_test (by decide) (fun fd FD => bd_is_test FD) fun cdv A outer s H E gd hr => ?_
  have hu := hr.units
  have hu5 := room65 hr
  have hu1 := room1 hr
  have tk : Takes (cxOf (L2.CX P w) P w K mg base N_is_test (nm .is_test) (defScope (st .is_test)) (He.ga K (nm .is_test)) cdv A outer s H E) (fun cls d _ H => E cls d H) := takes_of rfl rfl rfl rfl
  have po : PassesOwn (model P w) (cxOf (L2.CX P w) P w K mg base N_is_test (nm .is_test) (defScope (st .is_test)) (He.ga K (nm .is_test)) cdv A outer s H E).A (cxOf (L2.CX P w) P w K mg base N_is_test (nm .is_test) (defScope (st .is_test)) (He.ga K (nm .is_test)) cdv A outer s H E).env (cxOf (L2.CX P w) P w K mg base N_is_test (nm .is_test) (defScope (st .is_test)) (He.ga K (nm .is_test)) cdv A outer s H E).xe := passes_of rfl
  exact (dss_one (ds_ret (de_and (de_isi ty_tuple (dv 0) rfl (T.fr "isinstance" (by decide +kernel)) rfl (T.fr "tuple" (by decide +kernel)) (by decide +kernel)) (de_one (de_callB (cd_all rfl) rfl (T.fr "all" (by decide +kernel)) (by decide +kernel) (da_cons (de_comp (own := [("one", 1)]) rfl sc_is_test.nd (di_seq (dv 0)) (blkOk_by (own := [("one", 1)]) (N := N_is_test) (sc := defScope (st .is_test)) (by decide +kernel)) (fun _ _ _ _ _ => (pg_name (i := 1) sc_is_test.nd rfl (by first | exact Or.inl rfl | exact Or.inr rfl))) (tgok_name _ 1) (by decide) (fun _ _ _ _ _ => (dcall (ih .is_look) gd hr takes0 rfl rfl (da_cons (dv 1) da_nil)))) da_nil))))))
theorem bd_is_look {fd : FuncData} (FD : FunD K (nm .is_look) (nm .is_look) (defArgs (st .is_look)) (defBody (st .is_look)) (defScope (st .is_look)) [] [] (He.ga K (nm .is_look)) fd) : Binds K fd (ps .is_look) [] := FD.bindsN fun _ _ _ _ _ _ us hl => match us, hl with | [_], _ => rfl
theorem ok_is_look (T : FT K mg) {n : Nat} (ih : ∀ y, CalM P w K mg base n (nm y) (ps y) (fns n y)) : CalM P w K mg base (n + 1) (nm .is_look) (ps .is_look) (fns (n + 1) .is_look) := by
  refine calm_of T .is_look sc_is_look (by decide) (fun fd FD => bd_is_look FD) fun cdv A outer s H E gd hr => ?_
  have hu := hr.units
  have hu5 := room65 hr
  have hu1 := room1 hr
  have tk : Takes (cxOf (L2.CX P w) P w K mg base N_is_look (nm .is_look) (defScope (st .is_look)) (He.ga K (nm .is_look)) cdv A outer s H E) (fun cls d _ H => E cls d H) := takes_of rfl rfl rfl rfl
  have po : PassesOwn (model P w) (cxOf (L2.CX P w) P w K mg base N_is_look (nm .is_look) (defScope (st .is_look)) (He.ga K (nm .is_look)) cdv A outer s H E).A (cxOf (L2.CX P w) P w K mg base N_is_look (nm .is_look) (defScope (st .is_look)) (He.ga K (nm .is_look)) cdv A outer s H E).env (cxOf (L2.CX P w) P w K mg base N_is_look (nm .is_look) (defScope (st .is_look)) (He.ga K (nm .is_look)) cdv A outer s H E).xe := passes_of rfl
  exact (dss_cons (ds_if (dt_w (dw_or (dt_not (dt_val (de_isi ty_tuple (dv 0) rfl (T.fr "isinstance" (by decide +kernel)) rfl (T.fr "tuple" (by decide +kernel)) (by decide +kernel)))) (dw_or1 (dt_not (dt_chain od_le od_le de_int (de_callB cd_len rfl (T.fr "len" (by decide +kernel)) (by decide +kernel) (da_cons (dv 0) da_nil)) de_int))))) (dss_one (ds_ret de_bl)) dss_nil) (dss_cons (ds_if (dt_cmp (od_eq hu) (de_callB cd_len rfl (T.fr "len" (by decide +kernel)) (by decide +kernel) (da_cons (dv 0) da_nil)) de_int) (dss_one (ds_ret (de_and (de_cmp (od_eq hu) (de_ix (dv 0) de_int) de_str) (de_one (dcall (ih .is_whole) gd hr tk rfl rfl (da_cons (de_ix (dv 0) de_int) da_nil)))))) dss_nil) (dss_cons (ds_if (dt_cmp (od_eq hu) (de_ix (dv 0) de_int) de_str) (dss_one (ds_ret (de_and (dcall (ih .is_rule) gd hr tk rfl rfl (da_cons (de_ix (dv 0) de_int) da_nil)) (de_one (dcall (ih .is_test) gd hr tk rfl rfl (da_cons (de_ix (dv 0) de_int) da_nil)))))) dss_nil) (dss_one (ds_ret (de_and (de_cmp (od_eq hu) (de_ix (dv 0) de_int) de_str) (de_and (dcall (ih .is_whole) gd hr tk rfl rfl (da_cons (de_ix (dv 0) de_int) da_nil)) (de_and (dcall (ih .is_whole) gd hr tk rfl rfl (da_cons (de_ix (dv 0) de_int) da_nil)) (de_one (de_chain od_le od_lt de_int (de_ix (dv 0) de_int) (de_ix (dv 0) de_int)))))))))))
theorem bd_sum_of {fd : FuncData} (FD : FunD K (nm .sum_of) (nm .sum_of) (defArgs (st .sum_of)) (defBody (st .sum_of)) (defScope (st .sum_of)) [] [] (He.ga K (nm .sum_of)) fd) : Binds K fd (ps .sum_of) [] := FD.bindsN fun _ _ _ _ _ _ us hl => match us, hl with | [_], _ => rfl
theorem ok_sum_of (T : FT K mg) {n : Nat} (ih : ∀ y, CalM P w K mg base n (nm y) (ps y) (fns n y)) : CalM P w K mg base (n + 1) (nm .sum_of) (ps .sum_of) (fns (n + 1) .sum_of) := by
  refine calm_of T .sum_of sc_sum_of (by decide) (fun fd FD => bd_sum_of FD) fun cdv A outer s H E gd hr => ?_
  have hu := hr.units
  have hu5 := room65 hr
  have hu1 := room1 hr
  have tk : Takes (cxOf (L2.CX P w) P w K mg base N_sum_of (nm .sum_of) (defScope (st .sum_of)) (He.ga K (nm .sum_of)) cdv A outer s H E) (fun cls d _ H => E cls d H) := takes_of rfl rfl rfl rfl
  have po : PassesOwn (model P w) (cxOf (L2.CX P w) P w K mg base N_sum_of (nm .sum_of) (defScope (st .sum_of)) (He.ga K (nm .sum_of)) cdv A outer s H E).A (cxOf (L2.CX P w) P w K mg base N_sum_of (nm .sum_of) (defScope (st .sum_of)) (He.ga K (nm .sum_of)) cdv A outer s H E).env (cxOf (L2.CX P w) P w K mg base N_sum_of (nm .sum_of) (defScope (st .sum_of)) (He.ga K (nm .sum_of)) cdv A outer s H E).xe := passes_of rfl
  exact (dss_cons (ds_if (dt_val (de_isi ty_tuple (dv 0) rfl (T.fr "isinstance" (by decide +kernel)) rfl (T.fr "tuple" (by decide +kernel)) (by decide +kernel))) (dss_one (ds_ret (de_callB (cd_sum rfl) rfl (T.fr "sum" (by decide +kernel)) (by decide +kernel) (da_cons (de_comp (own := [("part", 1)]) rfl sc_sum_of.nd (di_seq (dv 0)) (blkOk_by (own := [("part", 1)]) (N := N_sum_of) (sc := defScope (st .sum_of)) (by decide +kernel)) (fun _ _ _ _ _ => (pg_name (i := 1) sc_sum_of.nd rfl (by first | exact Or.inl rfl | exact Or.inr rfl))) (tgok_name _ 1) (by decide) (fun _ _ _ _ _ => (dcall (ih .sum_of) gd hr takes0 rfl rfl (da_cons (dv 1) da_nil)))) da_nil)))) dss_nil) (dss_one (ds_ret (dv 0))))
theorem bd_changed {fd : FuncData} (FD : FunD K (nm .changed) (nm .changed) (defArgs (st .changed)) (defBody (st .changed)) (defScope (st .changed)) [] [] (He.ga K (nm .changed)) fd) : Binds K fd (ps .changed) [] := FD.bindsN fun _ _ _ _ _ _ us hl => match us, hl with | [_, _], _ => rfl
theorem ok_changed (T : FT K mg) {n : Nat} (ih : ∀ y, CalM P w K mg base n (nm y) (ps y) (fns n y)) : CalM P w K mg base (n + 1) (nm .changed) (ps .changed) (fns (n + 1) .changed) := by
  refine calm_of T .changed sc_changed (by decide) (fun fd FD => bd_changed FD) fun cdv A outer s H E gd hr => ?_
  have hu := hr.units
  have hu5 := room65 hr
  have hu1 := room1 hr
  have tk : Takes (cxOf (L2.CX P w) P w K mg base N_changed (nm .changed) (defScope (st .changed)) (He.ga K (nm .changed)) cdv A outer s H E) (fun cls d _ H => E cls d H) := takes_of rfl rfl rfl rfl
  have po : PassesOwn (model P w) (cxOf (L2.CX P w) P w K mg base N_changed (nm .changed) (defScope (st .changed)) (He.ga K (nm .changed)) cdv A outer s H E).A (cxOf (L2.CX P w) P w K mg base N_changed (nm .changed) (defScope (st .changed)) (He.ga K (nm .changed)) cdv A outer s H E).env (cxOf (L2.CX P w) P w K mg base N_changed (nm .changed) (defScope (st .changed)) (He.ga K (nm .changed)) cdv A outer s H E).xe := passes_of rfl
  exact (dss_cons (ds_set 2 sc_changed.nd rfl (by first | exact Or.inl rfl | exact Or.inr rfl) (de_ix (dv 0) de_int)) (dss_cons (ds_if (dt_cmp (od_eq hu) (dv 2) de_str) (dss_one (ds_ret (de_tup (da_cons (dv 1) da_nil)))) dss_nil) (dss_cons (ds_if (dt_cmp (od_eq hu) (dv 2) de_str) (dss_one (ds_ret (dcall (ih .sum_of) gd hr tk rfl rfl (da_cons (dv 1) da_nil)))) dss_nil) (dss_cons (ds_if (dt_val (de_isi ty_tuple (dv 1) rfl (T.fr "isinstance" (by decide +kernel)) rfl (T.fr "tuple" (by decide +kernel)) (by decide +kernel))) (dss_one (ds_ret (de_callTy cd_tuple rfl (T.fr "tuple" (by decide +kernel)) (by decide +kernel) (da_cons (de_comp (own := [("part", 3)]) rfl sc_changed.nd (di_seq (dv 1)) (blkOk_by (own := [("part", 3)]) (N := N_changed) (sc := defScope (st .changed)) (by decide +kernel)) (fun _ _ _ _ _ => (pg_name (i := 3) sc_changed.nd rfl (by first | exact Or.inl rfl | exact Or.inr rfl))) (tgok_name _ 3) (by decide) (fun _ _ _ _ _ => (dcall (ih .changed) gd hr takes0 rfl rfl (da_cons (dv 0) (da_cons (dv 3) da_nil))))) da_nil)))) dss_nil) (dss_cons (ds_if (dt_cmp (od_eq hu) (dv 2) de_str) (dss_one (ds_ret (de_op od_add (dv 1) (de_ix (dv 0) de_int)))) dss_nil) (dss_cons (ds_if (dt_cmp (od_eq hu) (dv 2) de_str) (dss_one (ds_ret (de_op od_mul (dv 1) (de_ix (dv 0) de_int)))) dss_nil) (dss_one (ds_ret (de_op od_mod (dv 1) (de_ix (dv 0) de_int))))))))))
theorem bd_rule_told {fd : FuncData} (FD : FunD K (nm .rule_told) (nm .rule_told) (defArgs (st .rule_told)) (defBody (st .rule_told)) (defScope (st .rule_told)) [] [] (He.ga K (nm .rule_told)) fd) : Binds K fd (ps .rule_told) [] := FD.bindsN fun _ _ _ _ _ _ us hl => match us, hl with | [_, _], _ => rfl
theorem ok_rule_told (T : FT K mg) {n : Nat} (ih : ∀ y, CalM P w K mg base n (nm y) (ps y) (fns n y)) : CalM P w K mg base (n + 1) (nm .rule_told) (ps .rule_told) (fns (n + 1) .rule_told) := by
  refine calm_of T .rule_told sc_rule_told (by decide) (fun fd FD => bd_rule_told FD) fun cdv A outer s H E gd hr => ?_
  have hu := hr.units
  have hu5 := room65 hr
  have hu1 := room1 hr
  have tk : Takes (cxOf (L2.CX P w) P w K mg base N_rule_told (nm .rule_told) (defScope (st .rule_told)) (He.ga K (nm .rule_told)) cdv A outer s H E) (fun cls d _ H => E cls d H) := takes_of rfl rfl rfl rfl
  have po : PassesOwn (model P w) (cxOf (L2.CX P w) P w K mg base N_rule_told (nm .rule_told) (defScope (st .rule_told)) (He.ga K (nm .rule_told)) cdv A outer s H E).A (cxOf (L2.CX P w) P w K mg base N_rule_told (nm .rule_told) (defScope (st .rule_told)) (He.ga K (nm .rule_told)) cdv A outer s H E).env (cxOf (L2.CX P w) P w K mg base N_rule_told (nm .rule_told) (defScope (st .rule_told)) (He.ga K (nm .rule_told)) cdv A outer s H E).xe := passes_of rfl
  exact (dss_cons (ds_for po rfl (di_seq (dv 0)) (pg_name (i := 2) sc_rule_told.nd rfl (by first | exact Or.inl rfl | exact Or.inr rfl)) (tgok_name _ 2) (dss_one (ds_set 1 sc_rule_told.nd rfl (by first | exact Or.inl rfl | exact Or.inr rfl) (dcall (ih .changed) gd hr tk rfl rfl (da_cons (dv 2) (da_cons (dv 1) da_nil)))))) (dss_one (ds_ret (dv 1))))
theorem bd_is_so {fd : FuncData} (FD : FunD K (nm .is_so) (nm .is_so) (defArgs (st .is_so)) (defBody (st .is_so)) (defScope (st .is_so)) [] [] (He.ga K (nm .is_so)) fd) : Binds K fd (ps .is_so) [] := FD.bindsN fun _ _ _ _ _ _ us hl => match us, hl with | [_, _], _ => rfl
theorem ok_is_so (T : FT K mg) {n : Nat} (ih : ∀ y, CalM P w K mg base n (nm y) (ps y) (fns n y)) : CalM P w K mg base (n + 1) (nm .is_so) (ps .is_so) (fns (n + 1) .is_so) := by
  refine calm_of T .is_so sc_is_so (by decide) (fun fd FD => bd_is_so FD) fun cdv A outer s H E gd hr => ?_
  have hu := hr.units
  have hu5 := room65 hr
  have hu1 := room1 hr
  have tk : Takes (cxOf (L2.CX P w) P w K mg base N_is_so (nm .is_so) (defScope (st .is_so)) (He.ga K (nm .is_so)) cdv A outer s H E) (fun cls d _ H => E cls d H) := takes_of rfl rfl rfl rfl
  have po : PassesOwn (model P w) (cxOf (L2.CX P w) P w K mg base N_is_so (nm .is_so) (defScope (st .is_so)) (He.ga K (nm .is_so)) cdv A outer s H E).A (cxOf (L2.CX P w) P w K mg base N_is_so (nm .is_so) (defScope (st .is_so)) (He.ga K (nm .is_so)) cdv A outer s H E).env (cxOf (L2.CX P w) P w K mg base N_is_so (nm .is_so) (defScope (st .is_so)) (He.ga K (nm .is_so)) cdv A outer s H E).xe := passes_of rfl
  exact (dss_cons (ds_if (dt_cmp (od_eq hu) (de_ix (dv 0) de_int) de_str) (dss_one (ds_ret (dcall (ih .test_told) gd hr tk rfl rfl (da_cons (de_ix (dv 0) de_int) (da_cons (dcall (ih .rule_told) gd hr tk rfl rfl (da_cons (de_ix (dv 0) de_int) (da_cons (dv 1) da_nil))) da_nil))))) dss_nil) (dss_cons (ds_if (dt_cmp (od_eq hu) (de_ix (dv 0) de_int) de_str) (dss_one (ds_ret (de_cmp od_lt (dcall (ih .sum_of) gd hr tk rfl rfl (da_cons (dv 1) da_nil)) (de_ix (dv 0) de_int)))) dss_nil) (dss_one (ds_ret (de_cmp (od_eq hu) (de_op od_mod (dcall (ih .sum_of) gd hr tk rfl rfl (da_cons (dv 1) da_nil)) (de_ix (dv 0) de_int)) (de_ix (dv 0) de_int))))))
theorem bd_test_told {fd : FuncData} (FD : FunD K (nm .test_told) (nm .test_told) (defArgs (st .test_told)) (defBody (st .test_told)) (defScope (st .test_told)) [] [] (He.ga K (nm .test_told)) fd) : Binds K fd (ps .test_told) [] := FD.bindsN fun _ _ _ _ _ _ us hl => match us, hl with | [_, _], _ => rfl
theorem ok_test_told (T : FT K mg) {n : Nat} (ih : ∀ y, CalM P w K mg base n (nm y) (ps y) (fns n y)) : CalM P w K mg base (n + 1) (nm .test_told) (ps .test_told) (fns (n + 1) .test_told) := by
  refine calm_of T .test_told sc_test_told (by decide) (fun fd FD => bd_test_told FD) fun cdv A outer s H E gd hr => ?_
  have hu := hr.units
  have hu5 := room65 hr
  have hu1 := room1 hr
  have tk : Takes (cxOf (L2.CX P w) P w K mg base N_test_told (nm .test_told) (defScope (st .test_told)) (He.ga K (nm .test_told)) cdv A outer s H E) (fun cls d _ H => E cls d H) := takes_of rfl rfl rfl rfl
  have po : PassesOwn (model P w) (cxOf (L2.CX P w) P w K mg base N_test_told (nm .test_told) (defScope (st .test_told)) (He.ga K (nm .test_told)) cdv A outer s H E).A (cxOf (L2.CX P w) P w K mg base N_test_told (nm .test_told) (defScope (st .test_told)) (He.ga K (nm .test_told)) cdv A outer s H E).env (cxOf (L2.CX P w) P w K mg base N_test_told (nm .test_told) (defScope (st .test_told)) (He.ga K (nm .test_told)) cdv A outer s H E).xe := passes_of rfl
  exact (dss_one (ds_ret (de_callB (cd_all rfl) rfl (T.fr "all" (by decide +kernel)) (by decide +kernel) (da_cons (de_comp (own := [("look", 2)]) rfl sc_test_told.nd (di_seq (dv 0)) (blkOk_by (own := [("look", 2)]) (N := N_test_told) (sc := defScope (st .test_told)) (by decide +kernel)) (fun _ _ _ _ _ => (pg_name (i := 2) sc_test_told.nd rfl (by first | exact Or.inl rfl | exact Or.inr rfl))) (tgok_name _ 2) (by decide) (fun _ _ _ _ _ => (dcall (ih .is_so) gd hr takes0 rfl rfl (da_cons (dv 2) (da_cons (dv 1) da_nil))))) da_nil))))
theorem bd_l_pot {fd : FuncData} (FD : FunD K (nm .l_pot) (nm .l_pot) (defArgs (st .l_pot)) (defBody (st .l_pot)) (defScope (st .l_pot)) [] [] (He.ga K (nm .l_pot)) fd) : Binds K fd (ps .l_pot) [] := FD.bindsN fun _ _ _ _ _ _ us hl => match us, hl with | [_, _], _ => rfl
theorem ok_l_pot (T : FT K mg) {n : Nat} (ih : ∀ y, CalM P w K mg base n (nm y) (ps y) (fns n y)) : CalM P w K mg base (n + 1) (nm .l_pot) (ps .l_pot) (fns (n + 1) .l_pot) := by
  refine calm_of T .l_pot sc_l_pot (by decide) (fun fd FD => bd_l_pot FD) fun cdv A outer s H E gd hr => ?_
  have hu := hr.units
  have hu5 := room65 hr
  have hu1 := room1 hr
  have tk : Takes (cxOf (L2.CX P w) P w K mg base N_l_pot (nm .l_pot) (defScope (st .l_pot)) (He.ga K (nm .l_pot)) cdv A outer s H E) (fun cls d _ H => E cls d H) := takes_of rfl rfl rfl rfl
  have po : PassesOwn (model P w) (cxOf (L2.CX P w) P w K mg base N_l_pot (nm .l_pot) (defScope (st .l_pot)) (He.ga K (nm .l_pot)) cdv A outer s H E).A (cxOf (L2.CX P w) P w K mg base N_l_pot (nm .l_pot) (defScope (st .l_pot)) (He.ga K (nm .l_pot)) cdv A outer s H E).env (cxOf (L2.CX P w) P w K mg base N_l_pot (nm .l_pot) (defScope (st .l_pot)) (He.ga K (nm .l_pot)) cdv A outer s H E).xe := passes_of rfl
  exact (dss_cons (ds_set 2 sc_l_pot.nd rfl (by first | exact Or.inl rfl | exact Or.inr rfl) (de_if (dt_cmp od_lt (dv 1) (de_callB cd_len rfl (T.fr "len" (by decide +kernel)) (by decide +kernel) (da_cons (dv 0) da_nil))) (de_ix (dv 0) (dv 1)) de_int)) (dss_cons (ds_if (dt_cmp od_ge (dv 2) (de_op od_pow de_int de_int)) (dss_one (ds_ret (de_newL (da_cons (de_op od_sub (dv 2) (de_op od_pow de_int de_int)) (da_cons (de_op od_add (de_op od_add (de_op od_mod (dv 2) de_int) (de_op od_mul de_int (dv 1))) de_int) da_nil))))) dss_nil) (dss_one (ds_ret (de_newL (da_cons de_int (da_cons (de_op od_add (de_op od_add (de_op od_mod (dv 2) de_int) (de_op od_mul de_int (dv 1))) de_int) da_nil)))))))
theorem bd_l_digit {fd : FuncData} (FD : FunD K (nm .l_digit) (nm .l_digit) (defArgs (st .l_digit)) (defBody (st .l_digit)) (defScope (st .l_digit)) [] [] (He.ga K (nm .l_digit)) fd) : Binds K fd (ps .l_digit) [] := FD.bindsN fun _ _ _ _ _ _ us hl => match us, hl with | [_, _], _ => rfl
theorem ok_l_digit (T : FT K mg) {n : Nat} (ih : ∀ y, CalM P w K mg base n (nm y) (ps y) (fns n y)) : CalM P w K mg base (n + 1) (nm .l_digit) (ps .l_digit) (fns (n + 1) .l_digit) := by
  refine calm_of T .l_digit sc_l_digit (by decide) (fun fd FD => bd_l_digit FD) fun cdv A outer s H E gd hr => ?_
  have hu := hr.units
  have hu5 := room65 hr
  have hu1 := room1 hr
  have tk : Takes (cxOf (L2.CX P w) P w K mg base N_l_digit (nm .l_digit) (defScope (st .l_digit)) (He.ga K (nm .l_digit)) cdv A outer s H E) (fun cls d _ H => E cls d H) := takes_of rfl rfl rfl rfl
  have po : PassesOwn (model P w) (cxOf (L2.CX P w) P w K mg base N_l_digit (nm .l_digit) (defScope (st .l_digit)) (He.ga K (nm .l_digit)) cdv A outer s H E).A (cxOf (L2.CX P w) P w K mg base N_l_digit (nm .l_digit) (defScope (st .l_digit)) (He.ga K (nm .l_digit)) cdv A outer s H E).env (cxOf (L2.CX P w) P w K mg base N_l_digit (nm .l_digit) (defScope (st .l_digit)) (He.ga K (nm .l_digit)) cdv A outer s H E).xe := passes_of rfl
  exact (dss_cons (ds_if (dt_cmp od_gt (de_ix (dv 0) de_int) de_int) (dss_cons (ds_asg (de_callB cd_divmod rfl (T.fr "divmod" (by decide +kernel)) (by decide +kernel) (da_cons (de_ix (dv 0) de_int) (da_cons (dv 1) da_nil))) (dg_pair rfl (dg_sub (dv 0) de_int) (dg_name 2 sc_l_digit.nd rfl (by first | exact Or.inl rfl | exact Or.inr rfl)))) (dss_one (ds_ret (dv 2)))) dss_nil) (dss_cons (ds_asg (de_op od_mod (de_op od_add (de_op od_mul (de_ix (dv 0) de_int) de_int) de_int) de_int) (dg_sub (dv 0) de_int)) (dss_one (ds_ret (de_op od_mod (de_op od_div (de_op od_mod (de_op od_mul (de_ix (dv 0) de_int) (de_ix (dv 0) de_int)) de_int) de_int) (dv 1))))))
theorem bd_l_whole {fd : FuncData} (FD : FunD K (nm .l_whole) (nm .l_whole) (defArgs (st .l_whole)) (defBody (st .l_whole)) (defScope (st .l_whole)) [] [] (He.ga K (nm .l_whole)) fd) : Binds K fd (ps .l_whole) [] := FD.bindsN fun _ _ _ _ _ _ us hl => match us, hl with | [_, _], _ => rfl
theorem ok_l_whole (T : FT K mg) {n : Nat} (ih : ∀ y, CalM P w K mg base n (nm y) (ps y) (fns n y)) : CalM P w K mg base (n + 1) (nm .l_whole) (ps .l_whole) (fns (n + 1) .l_whole) := by
  refine calm_of T .l_whole sc_l_whole (by decide) (fun fd FD => bd_l_whole FD) fun cdv A outer s H E gd hr => ?_
  have hu := hr.units
  have hu5 := room65 hr
  have hu1 := room1 hr
  have tk : Takes (cxOf (L2.CX P w) P w K mg base N_l_whole (nm .l_whole) (defScope (st .l_whole)) (He.ga K (nm .l_whole)) cdv A outer s H E) (fun cls d _ H => E cls d H) := takes_of rfl rfl rfl rfl
  have po : PassesOwn (model P w) (cxOf (L2.CX P w) P w K mg base N_l_whole (nm .l_whole) (defScope (st .l_whole)) (He.ga K (nm .l_whole)) cdv A outer s H E).A (cxOf (L2.CX P w) P w K mg base N_l_whole (nm .l_whole) (defScope (st .l_whole)) (He.ga K (nm .l_whole)) cdv A outer s H E).env (cxOf (L2.CX P w) P w K mg base N_l_whole (nm .l_whole) (defScope (st .l_whole)) (He.ga K (nm .l_whole)) cdv A outer s H E).xe := passes_of rfl
  exact (dss_cons (ds_if (dt_w (dw_or (dt_cmp od_lt (dcall (ih .l_digit) gd hr tk rfl rfl (da_cons (dv 0) (da_cons de_int da_nil))) de_int) (dw_or1 (dt_cmp (od_eq hu) (de_dget hu1 (dv 1) de_str) de_int)))) (dss_one (ds_ret (de_op od_sub (dcall (ih .l_digit) gd hr tk rfl rfl (da_cons (dv 0) (da_cons de_int da_nil))) de_int))) dss_nil) (dss_cons (ds_dput hu1 (dv 1) de_str (de_op od_sub (de_dget hu1 (dv 1) de_str) de_int)) (dss_cons (ds_set 2 sc_l_whole.nd rfl (by first | exact Or.inl rfl | exact Or.inr rfl) de_int) (dss_cons (ds_for po rfl (di_range rfl (T.fr "range" (by decide +kernel)) de_int) (pg_name (i := 3) sc_l_whole.nd rfl (by first | exact Or.inl rfl | exact Or.inr rfl)) (tgok_name _ 3) (dss_one (ds_set 2 sc_l_whole.nd rfl (by first | exact Or.inl rfl | exact Or.inr rfl) (de_op od_add (de_op od_mul (dv 2) (de_op od_pow de_int de_int)) (dcall (ih .l_digit) gd hr tk rfl rfl (da_cons (dv 0) (da_cons (de_op od_pow de_int de_int) da_nil))))))) (dss_one (ds_ret (de_ix (de_lst (da_cons (dv 2) (da_cons (de_un ud_neg (dv 2)) da_nil))) (dcall (ih .l_digit) gd hr tk rfl rfl (da_cons (dv 0) (da_cons de_int da_nil))))))))))
theorem bd_l_change {fd : FuncData} (FD : FunD K (nm .l_change) (nm .l_change) (defArgs (st .l_change)) (defBody (st .l_change)) (defScope (st .l_change)) [] [] (He.ga K (nm .l_change)) fd) : Binds K fd (ps .l_change) [] := FD.bindsN fun _ _ _ _ _ _ us hl => match us, hl with | [_, _], _ => rfl
theorem ok_l_change (T : FT K mg) {n : Nat} (ih : ∀ y, CalM P w K mg base n (nm y) (ps y) (fns n y)) : CalM P w K mg base (n + 1) (nm .l_change) (ps .l_change) (fns (n + 1) .l_change) := by
  refine calm_of T .l_change sc_l_change (by decide) (fun fd FD => bd_l_change FD) fun cdv A outer s H E gd hr => ?_
  have hu := hr.units
  have hu5 := room65 hr
  have hu1 := room1 hr
  have tk : Takes (cxOf (L2.CX P w) P w K mg base N_l_change (nm .l_change) (defScope (st .l_change)) (He.ga K (nm .l_change)) cdv A outer s H E) (fun cls d _ H => E cls d H) := takes_of rfl rfl rfl rfl
  have po : PassesOwn (model P w) (cxOf (L2.CX P w) P w K mg base N_l_change (nm .l_change) (defScope (st .l_change)) (He.ga K (nm .l_change)) cdv A outer s H E).A (cxOf (L2.CX P w) P w K mg base N_l_change (nm .l_change) (defScope (st .l_change)) (He.ga K (nm .l_change)) cdv A outer s H E).env (cxOf (L2.CX P w) P w K mg base N_l_change (nm .l_change) (defScope (st .l_change)) (He.ga K (nm .l_change)) cdv A outer s H E).xe := passes_of rfl
  exact (dss_cons (ds_set 2 sc_l_change.nd rfl (by first | exact Or.inl rfl | exact Or.inr rfl) (dcall (ih .l_digit) gd hr tk rfl rfl (da_cons (dv 0) (da_cons de_int da_nil)))) (dss_cons (ds_if (dt_cmp od_lt (dv 2) de_int) (dss_one (ds_ret (de_tup (da_cons (de_ix (de_lst (da_cons de_str (da_cons de_str da_nil))) (dv 2)) (da_cons (dcall (ih .l_whole) gd hr tk rfl rfl (da_cons (dv 0) (da_cons (dv 1) da_nil))) da_nil))))) dss_nil) (dss_cons (ds_if (dt_cmp (od_eq hu) (dv 2) de_int) (dss_one (ds_ret (de_tup (da_cons de_str (da_cons (de_op od_add de_int (dcall (ih .l_digit) gd hr tk rfl rfl (da_cons (dv 0) (da_cons (de_ix (de_lst (da_cons de_int (da_cons (de_op od_pow de_int de_int) da_nil))) (dcall (ih .l_digit) gd hr tk rfl rfl (da_cons (dv 0) (da_cons de_int da_nil)))) da_nil)))) da_nil))))) dss_nil) (dss_one (ds_ret (de_ix (de_lst (da_cons (de_tup (da_cons de_str da_nil)) (da_cons (de_tup (da_cons de_str da_nil)) da_nil))) (de_op od_sub (dv 2) de_int)))))))
theorem bd_l_rule {fd : FuncData} (FD : FunD K (nm .l_rule) (nm .l_rule) (defArgs (st .l_rule)) (defBody (st .l_rule)) (defScope (st .l_rule)) [] [] (He.ga K (nm .l_rule)) fd) : Binds K fd (ps .l_rule) [] := FD.bindsN fun _ _ _ _ _ _ us hl => match us, hl with | [_, _], _ => rfl
theorem ok_l_rule (T : FT K mg) {n : Nat} (ih : ∀ y, CalM P w K mg base n (nm y) (ps y) (fns n y)) : CalM P w K mg base (n + 1) (nm .l_rule) (ps .l_rule) (fns (n + 1) .l_rule) := by
  refine calm_of T .l_rule sc_l_rule (by decide) (fun fd FD => bd_l_rule FD) fun cdv A outer s H E gd hr => ?_
  have hu := hr.units
  have hu5 := room65 hr
  have hu1 := room1 hr
  have tk : Takes (cxOf (L2.CX P w) P w K mg base N_l_rule (nm .l_rule) (defScope (st .l_rule)) (He.ga K (nm .l_rule)) cdv A outer s H E) (fun cls d _ H => E cls d H) := takes_of rfl rfl rfl rfl
  have po : PassesOwn (model P w) (cxOf (L2.CX P w) P w K mg base N_l_rule (nm .l_rule) (defScope (st .l_rule)) (He.ga K (nm .l_rule)) cdv A outer s H E).A (cxOf (L2.CX P w) P w K mg base N_l_rule (nm .l_rule) (defScope (st .l_rule)) (He.ga K (nm .l_rule)) cdv A outer s H E).env (cxOf (L2.CX P w) P w K mg base N_l_rule (nm .l_rule) (defScope (st .l_rule)) (He.ga K (nm .l_rule)) cdv A outer s H E).xe := passes_of rfl
  exact (dss_one (ds_ret (de_callTy cd_tuple rfl (T.fr "tuple" (by decide +kernel)) (by decide +kernel) (da_cons (de_comp (own := [("_law_k", 2)]) rfl sc_l_rule.nd (di_range rfl (T.fr "range" (by decide +kernel)) (dcall (ih .l_digit) gd hr tk rfl rfl (da_cons (dv 0) (da_cons de_int da_nil)))) (blkOk_by (own := [("_law_k", 2)]) (N := N_l_rule) (sc := defScope (st .l_rule)) (by decide +kernel)) (fun _ _ _ _ _ => (pg_name (i := 2) sc_l_rule.nd rfl (by first | exact Or.inl rfl | exact Or.inr rfl))) (tgok_name _ 2) (by decide) (fun _ _ _ _ _ => (dcall (ih .l_change) gd hr takes0 rfl rfl (da_cons (dv 0) (da_cons (dv 1) da_nil))))) da_nil))))
theorem bd_l_look {fd : FuncData} (FD : FunD K (nm .l_look) (nm .l_look) (defArgs (st .l_look)) (defBody (st .l_look)) (defScope (st .l_look)) [] [] (He.ga K (nm .l_look)) fd) : Binds K fd (ps .l_look) [] := FD.bindsN fun _ _ _ _ _ _ us hl => match us, hl with | [_, _, _], _ => rfl
theorem ok_l_look (T : FT K mg) {n : Nat} (ih : ∀ y, CalM P w K mg base n (nm y) (ps y) (fns n y)) : CalM P w K mg base (n + 1) (nm .l_look) (ps .l_look) (fns (n + 1) .l_look) := by
  refine calm_of T .l_look sc_l_look (by decide) (fun fd FD => bd_l_look FD) fun cdv A outer s H E gd hr => ?_
  have hu := hr.units
  have hu5 := room65 hr
  have hu1 := room1 hr
  have tk : Takes (cxOf (L2.CX P w) P w K mg base N_l_look (nm .l_look) (defScope (st .l_look)) (He.ga K (nm .l_look)) cdv A outer s H E) (fun cls d _ H => E cls d H) := takes_of rfl rfl rfl rfl
  have po : PassesOwn (model P w) (cxOf (L2.CX P w) P w K mg base N_l_look (nm .l_look) (defScope (st .l_look)) (He.ga K (nm .l_look)) cdv A outer s H E).A (cxOf (L2.CX P w) P w K mg base N_l_look (nm .l_look) (defScope (st .l_look)) (He.ga K (nm .l_look)) cdv A outer s H E).env (cxOf (L2.CX P w) P w K mg base N_l_look (nm .l_look) (defScope (st .l_look)) (He.ga K (nm .l_look)) cdv A outer s H E).xe := passes_of rfl
  exact (dss_cons (ds_set 3 sc_l_look.nd rfl (by first | exact Or.inl rfl | exact Or.inr rfl) (dcall (ih .l_digit) gd hr tk rfl rfl (da_cons (dv 0) (da_cons de_int da_nil)))) (dss_cons (ds_if (dt_cmp od_lt (dv 3) de_int) (dss_cons (ds_set 4 sc_l_look.nd rfl (by first | exact Or.inl rfl | exact Or.inr rfl) (de_op od_add de_int (dcall (ih .l_digit) gd hr tk rfl rfl (da_cons (dv 0) (da_cons de_int da_nil))))) (dss_one (ds_ret (de_tup (da_cons de_str (da_cons (dv 4) (da_cons (dcall (ih .l_digit) gd hr tk rfl rfl (da_cons (dv 0) (da_cons (dv 4) da_nil))) da_nil))))))) dss_nil) (dss_cons (ds_if (dt_w (dw_or (dt_cmp (od_eq hu) (dv 3) de_int) (dw_or1 (dt_cmp (od_eq hu) (dv 2) de_int)))) (dss_one (ds_ret (de_tup (da_cons de_str (da_cons (dcall (ih .l_whole) gd hr tk rfl rfl (da_cons (dv 0) (da_cons (dv 1) da_nil))) da_nil))))) dss_nil) (dss_one (ds_ret (de_tup (da_cons de_str (da_cons (dcall (ih .l_rule) gd hr tk rfl rfl (da_cons (dv 0) (da_cons (dv 1) da_nil))) (da_cons (dcall (ih .l_test) gd hr tk rfl rfl (da_cons (dv 0) (da_cons (dv 1) (da_cons (de_op od_sub (dv 2) de_int) da_nil)))) da_nil)))))))))
theorem bd_l_test {fd : FuncData} (FD : FunD K (nm .l_test) (nm .l_test) (defArgs (st .l_test)) (defBody (st .l_test)) (defScope (st .l_test)) [] [] (He.ga K (nm .l_test)) fd) : Binds K fd (ps .l_test) [] := FD.bindsN fun _ _ _ _ _ _ us hl => match us, hl with | [_, _, _], _ => rfl
theorem ok_l_test (T : FT K mg) {n : Nat} (ih : ∀ y, CalM P w K mg base n (nm y) (ps y) (fns n y)) : CalM P w K mg base (n + 1) (nm .l_test) (ps .l_test) (fns (n + 1) .l_test) := by
  refine calm_of T .l_test sc_l_test (by decide) (fun fd FD => bd_l_test FD) fun cdv A outer s H E gd hr => ?_
  have hu := hr.units
  have hu5 := room65 hr
  have hu1 := room1 hr
  have tk : Takes (cxOf (L2.CX P w) P w K mg base N_l_test (nm .l_test) (defScope (st .l_test)) (He.ga K (nm .l_test)) cdv A outer s H E) (fun cls d _ H => E cls d H) := takes_of rfl rfl rfl rfl
  have po : PassesOwn (model P w) (cxOf (L2.CX P w) P w K mg base N_l_test (nm .l_test) (defScope (st .l_test)) (He.ga K (nm .l_test)) cdv A outer s H E).A (cxOf (L2.CX P w) P w K mg base N_l_test (nm .l_test) (defScope (st .l_test)) (He.ga K (nm .l_test)) cdv A outer s H E).env (cxOf (L2.CX P w) P w K mg base N_l_test (nm .l_test) (defScope (st .l_test)) (He.ga K (nm .l_test)) cdv A outer s H E).xe := passes_of rfl
  exact (dss_one (ds_ret (de_callTy cd_tuple rfl (T.fr "tuple" (by decide +kernel)) (by decide +kernel) (da_cons (de_comp (own := [("_law_k", 3)]) rfl sc_l_test.nd (di_range rfl (T.fr "range" (by decide +kernel)) (dcall (ih .l_digit) gd hr tk rfl rfl (da_cons (dv 0) (da_cons de_int da_nil)))) (blkOk_by (own := [("_law_k", 3)]) (N := N_l_test) (sc := defScope (st .l_test)) (by decide +kernel)) (fun _ _ _ _ _ => (pg_name (i := 3) sc_l_test.nd rfl (by first | exact Or.inl rfl | exact Or.inr rfl))) (tgok_name _ 3) (by decide) (fun _ _ _ _ _ => (dcall (ih .l_look) gd hr takes0 rfl rfl (da_cons (dv 0) (da_cons (dv 1) (da_cons (dv 2) da_nil)))))) da_nil))))
theorem bd_l_gift {fd : FuncData} (FD : FunD K (nm .l_gift) (nm .l_gift) (defArgs (st .l_gift)) (defBody (st .l_gift)) (defScope (st .l_gift)) [] [] (He.ga K (nm .l_gift)) fd) : Binds K fd (ps .l_gift) [] := FD.bindsN fun _ _ _ _ _ _ us hl => match us, hl with | [_, _, _], _ => rfl
theorem ok_l_gift (T : FT K mg) {n : Nat} (ih : ∀ y, CalM P w K mg base n (nm y) (ps y) (fns n y)) : CalM P w K mg base (n + 1) (nm .l_gift) (ps .l_gift) (fns (n + 1) .l_gift) := by
  refine calm_of T .l_gift sc_l_gift (by decide) (fun fd FD => bd_l_gift FD) fun cdv A outer s H E gd hr => ?_
  have hu := hr.units
  have hu5 := room65 hr
  have hu1 := room1 hr
  have tk : Takes (cxOf (L2.CX P w) P w K mg base N_l_gift (nm .l_gift) (defScope (st .l_gift)) (He.ga K (nm .l_gift)) cdv A outer s H E) (fun cls d _ H => E cls d H) := takes_of rfl rfl rfl rfl
  have po : PassesOwn (model P w) (cxOf (L2.CX P w) P w K mg base N_l_gift (nm .l_gift) (defScope (st .l_gift)) (He.ga K (nm .l_gift)) cdv A outer s H E).A (cxOf (L2.CX P w) P w K mg base N_l_gift (nm .l_gift) (defScope (st .l_gift)) (He.ga K (nm .l_gift)) cdv A outer s H E).env (cxOf (L2.CX P w) P w K mg base N_l_gift (nm .l_gift) (defScope (st .l_gift)) (He.ga K (nm .l_gift)) cdv A outer s H E).xe := passes_of rfl
  exact (dss_cons (ds_if (dt_w (dw_or (dt_cmp (od_eq hu) (dv 2) de_int) (dw_or1 (dt_cmp od_gt (dcall (ih .l_digit) gd hr tk rfl rfl (da_cons (dv 0) (da_cons de_int da_nil))) de_int)))) (dss_one (ds_ret (dcall (ih .l_whole) gd hr tk rfl rfl (da_cons (dv 0) (da_cons (dv 1) da_nil))))) dss_nil) (dss_one (ds_ret (de_callTy cd_tuple rfl (T.fr "tuple" (by decide +kernel)) (by decide +kernel) (da_cons (de_comp (own := [("_law_k", 3)]) rfl sc_l_gift.nd (di_range rfl (T.fr "range" (by decide +kernel)) (dcall (ih .l_digit) gd hr tk rfl rfl (da_cons (dv 0) (da_cons de_int da_nil)))) (blkOk_by (own := [("_law_k", 3)]) (N := N_l_gift) (sc := defScope (st .l_gift)) (by decide +kernel)) (fun _ _ _ _ _ => (pg_name (i := 3) sc_l_gift.nd rfl (by first | exact Or.inl rfl | exact Or.inr rfl))) (tgok_name _ 3) (by decide) (fun _ _ _ _ _ => (dcall (ih .l_gift) gd hr takes0 rfl rfl (da_cons (dv 0) (da_cons (dv 1) (da_cons (de_op od_sub (dv 2) de_int) da_nil)))))) da_nil)))))
theorem bd_l_all_numbers {fd : FuncData} (FD : FunD K (nm .l_all_numbers) (nm .l_all_numbers) (defArgs (st .l_all_numbers)) (defBody (st .l_all_numbers)) (defScope (st .l_all_numbers)) [] [] (He.ga K (nm .l_all_numbers)) fd) : Binds K fd (ps .l_all_numbers) [] := FD.bindsN fun _ _ _ _ _ _ us hl => match us, hl with | [_], _ => rfl
theorem ok_l_all_numbers (T : FT K mg) {n : Nat} (ih : ∀ y, CalM P w K mg base n (nm y) (ps y) (fns n y)) : CalM P w K mg base (n + 1) (nm .l_all_numbers) (ps .l_all_numbers) (fns (n + 1) .l_all_numbers) := by
  refine calm_of T .l_all_numbers sc_l_all_numbers (by decide) (fun fd FD => bd_l_all_numbers FD) fun cdv A outer s H E gd hr => ?_
  have hu := hr.units
  have hu5 := room65 hr
  have hu1 := room1 hr
  have tk : Takes (cxOf (L2.CX P w) P w K mg base N_l_all_numbers (nm .l_all_numbers) (defScope (st .l_all_numbers)) (He.ga K (nm .l_all_numbers)) cdv A outer s H E) (fun cls d _ H => E cls d H) := takes_of rfl rfl rfl rfl
  have po : PassesOwn (model P w) (cxOf (L2.CX P w) P w K mg base N_l_all_numbers (nm .l_all_numbers) (defScope (st .l_all_numbers)) (He.ga K (nm .l_all_numbers)) cdv A outer s H E).A (cxOf (L2.CX P w) P w K mg base N_l_all_numbers (nm .l_all_numbers) (defScope (st .l_all_numbers)) (He.ga K (nm .l_all_numbers)) cdv A outer s H E).env (cxOf (L2.CX P w) P w K mg base N_l_all_numbers (nm .l_all_numbers) (defScope (st .l_all_numbers)) (He.ga K (nm .l_all_numbers)) cdv A outer s H E).xe := passes_of rfl
  exact (dss_cons (ds_if (dt_not (dt_val (de_isi ty_tuple (dv 0) rfl (T.fr "isinstance" (by decide +kernel)) rfl (T.fr "tuple" (by decide +kernel)) (by decide +kernel)))) (dss_one (ds_ret (de_lst (da_cons (dv 0) da_nil)))) dss_nil) (dss_cons (ds_set 1 sc_l_all_numbers.nd rfl (by first | exact Or.inl rfl | exact Or.inr rfl) (de_lst da_nil)) (dss_cons (ds_for po rfl (di_seq (dv 0)) (pg_name (i := 2) sc_l_all_numbers.nd rfl (by first | exact Or.inl rfl | exact Or.inr rfl)) (tgok_name _ 2) (dss_one (ds_set 1 sc_l_all_numbers.nd rfl (by first | exact Or.inl rfl | exact Or.inr rfl) (de_op od_add (dv 1) (dcall (ih .l_all_numbers) gd hr tk rfl rfl (da_cons (dv 2) da_nil)))))) (dss_one (ds_ret (dv 1))))))
theorem bd_l_each {fd : FuncData} (FD : FunD K (nm .l_each) (nm .l_each) (defArgs (st .l_each)) (defBody (st .l_each)) (defScope (st .l_each)) [] [] (He.ga K (nm .l_each)) fd) : Binds K fd (ps .l_each) [] := FD.bindsN fun _ _ _ _ _ _ us hl => match us, hl with | [_, _, _], _ => rfl
theorem ok_l_each (T : FT K mg) {n : Nat} (ih : ∀ y, CalM P w K mg base n (nm y) (ps y) (fns n y)) : CalM P w K mg base (n + 1) (nm .l_each) (ps .l_each) (fns (n + 1) .l_each) := by
  refine calm_of T .l_each sc_l_each (by decide) (fun fd FD => bd_l_each FD) fun cdv A outer s H E gd hr => ?_
  have hu := hr.units
  have hu5 := room65 hr
  have hu1 := room1 hr
  have tk : Takes (cxOf (L2.CX P w) P w K mg base N_l_each (nm .l_each) (defScope (st .l_each)) (He.ga K (nm .l_each)) cdv A outer s H E) (fun cls d _ H => E cls d H) := takes_of rfl rfl rfl rfl
  have po : PassesOwn (model P w) (cxOf (L2.CX P w) P w K mg base N_l_each (nm .l_each) (defScope (st .l_each)) (He.ga K (nm .l_each)) cdv A outer s H E).A (cxOf (L2.CX P w) P w K mg base N_l_each (nm .l_each) (defScope (st .l_each)) (He.ga K (nm .l_each)) cdv A outer s H E).env (cxOf (L2.CX P w) P w K mg base N_l_each (nm .l_each) (defScope (st .l_each)) (He.ga K (nm .l_each)) cdv A outer s H E).xe := passes_of rfl
  exact (dss_cons (ds_if (dt_val (de_isi ty_tuple (dv 0) rfl (T.fr "isinstance" (by decide +kernel)) rfl (T.fr "tuple" (by decide +kernel)) (by decide +kernel))) (dss_one (ds_ret (de_callTy cd_tuple rfl (T.fr "tuple" (by decide +kernel)) (by decide +kernel) (da_cons (de_comp (own := [("_law_one", 3)]) rfl sc_l_each.nd (di_seq (dv 0)) (blkOk_by (own := [("_law_one", 3)]) (N := N_l_each) (sc := defScope (st .l_each)) (by decide +kernel)) (fun _ _ _ _ _ => (pg_name (i := 3) sc_l_each.nd rfl (by first | exact Or.inl rfl | exact Or.inr rfl))) (tgok_name _ 3) (by decide) (fun _ _ _ _ _ => (dcall (ih .l_each) gd hr takes0 rfl rfl (da_cons (dv 3) (da_cons (dv 1) (da_cons (dv 2) da_nil)))))) da_nil)))) dss_nil) (dss_one (ds_ret (de_dispGet hu1 (dk_cons (de_op od_add (dv 0) (dv 2)) (dk_cons (de_op od_mul (dv 0) (dv 2)) (dk_cons (de_op od_mod (dv 0) (de_callB (cd_max2 rfl) rfl (T.fr "max" (by decide +kernel)) (by decide +kernel) (da_cons de_int (da_cons (dv 2) da_nil)))) dk_nil))) (dv 1) (by decide) (by decide) (by simp) (by decide) (by decide) (by decide +kernel)))))
theorem bd_l_made {fd : FuncData} (FD : FunD K (nm .l_made) (nm .l_made) (defArgs (st .l_made)) (defBody (st .l_made)) (defScope (st .l_made)) [] [] (He.ga K (nm .l_made)) fd) : Binds K fd (ps .l_made) [] := FD.bindsN fun _ _ _ _ _ _ us hl => match us, hl with | [_, _], _ => rfl
theorem ok_l_made (T : FT K mg) {n : Nat} (ih : ∀ y, CalM P w K mg base n (nm y) (ps y) (fns n y)) : CalM P w K mg base (n + 1) (nm .l_made) (ps .l_made) (fns (n + 1) .l_made) := by
  refine calm_of T .l_made sc_l_made (by decide) (fun fd FD => bd_l_made FD) fun cdv A outer s H E gd hr => ?_
  have hu := hr.units
  have hu5 := room65 hr
  have hu1 := room1 hr
  have tk : Takes (cxOf (L2.CX P w) P w K mg base N_l_made (nm .l_made) (defScope (st .l_made)) (He.ga K (nm .l_made)) cdv A outer s H E) (fun cls d _ H => E cls d H) := takes_of rfl rfl rfl rfl
  have po : PassesOwn (model P w) (cxOf (L2.CX P w) P w K mg base N_l_made (nm .l_made) (defScope (st .l_made)) (He.ga K (nm .l_made)) cdv A outer s H E).A (cxOf (L2.CX P w) P w K mg base N_l_made (nm .l_made) (defScope (st .l_made)) (He.ga K (nm .l_made)) cdv A outer s H E).env (cxOf (L2.CX P w) P w K mg base N_l_made (nm .l_made) (defScope (st .l_made)) (He.ga K (nm .l_made)) cdv A outer s H E).xe := passes_of rfl
  exact (dss_cons (ds_for po rfl (di_seq (dv 0)) (pg_name (i := 2) sc_l_made.nd rfl (by first | exact Or.inl rfl | exact Or.inr rfl)) (tgok_name _ 2) (dss_one (ds_if (dt_cmp (od_eq hu) (dv 2) (de_tup (da_cons de_str da_nil))) (dss_one (ds_set 1 sc_l_made.nd rfl (by first | exact Or.inl rfl | exact Or.inr rfl) (de_tup (da_cons (dv 1) da_nil)))) (dss_one (ds_if (dt_cmp (od_eq hu) (dv 2) (de_tup (da_cons de_str da_nil))) (dss_one (ds_set 1 sc_l_made.nd rfl (by first | exact Or.inl rfl | exact Or.inr rfl) (de_callB (cd_sum rfl) rfl (T.fr "sum" (by decide +kernel)) (by decide +kernel) (da_cons (dcall (ih .l_all_numbers) gd hr tk rfl rfl (da_cons (dv 1) da_nil)) da_nil)))) (dss_one (ds_set 1 sc_l_made.nd rfl (by first | exact Or.inl rfl | exact Or.inr rfl) (dcall (ih .l_each) gd hr tk rfl rfl (da_cons (dv 1) (da_cons (de_ix (dv 2) de_int) (da_cons (de_ix (dv 2) de_int) da_nil))))))))))) (dss_one (ds_ret (dv 1))))
theorem bd_l_holds {fd : FuncData} (FD : FunD K (nm .l_holds) (nm .l_holds) (defArgs (st .l_holds)) (defBody (st .l_holds)) (defScope (st .l_holds)) [] [] (He.ga K (nm .l_holds)) fd) : Binds K fd (ps .l_holds) [] := FD.bindsN fun _ _ _ _ _ _ us hl => match us, hl with | [_, _], _ => rfl
theorem ok_l_holds (T : FT K mg) {n : Nat} (ih : ∀ y, CalM P w K mg base n (nm y) (ps y) (fns n y)) : CalM P w K mg base (n + 1) (nm .l_holds) (ps .l_holds) (fns (n + 1) .l_holds) := by
  refine calm_of T .l_holds sc_l_holds (by decide) (fun fd FD => bd_l_holds FD) fun cdv A outer s H E gd hr => ?_
  have hu := hr.units
  have hu5 := room65 hr
  have hu1 := room1 hr
  have tk : Takes (cxOf (L2.CX P w) P w K mg base N_l_holds (nm .l_holds) (defScope (st .l_holds)) (He.ga K (nm .l_holds)) cdv A outer s H E) (fun cls d _ H => E cls d H) := takes_of rfl rfl rfl rfl
  have po : PassesOwn (model P w) (cxOf (L2.CX P w) P w K mg base N_l_holds (nm .l_holds) (defScope (st .l_holds)) (He.ga K (nm .l_holds)) cdv A outer s H E).A (cxOf (L2.CX P w) P w K mg base N_l_holds (nm .l_holds) (defScope (st .l_holds)) (He.ga K (nm .l_holds)) cdv A outer s H E).env (cxOf (L2.CX P w) P w K mg base N_l_holds (nm .l_holds) (defScope (st .l_holds)) (He.ga K (nm .l_holds)) cdv A outer s H E).xe := passes_of rfl
  exact (dss_cons (ds_for po rfl (di_seq (dv 0)) (pg_name (i := 2) sc_l_holds.nd rfl (by first | exact Or.inl rfl | exact Or.inr rfl)) (tgok_name _ 2) (dss_cons (ds_if (dt_cmp (od_eq hu) (de_ix (dv 2) de_int) de_str) (dss_one (ds_set 3 sc_l_holds.nd rfl (by first | exact Or.inl rfl | exact Or.inr rfl) (dcall (ih .l_holds) gd hr tk rfl rfl (da_cons (de_ix (dv 2) de_int) (da_cons (dcall (ih .l_made) gd hr tk rfl rfl (da_cons (de_ix (dv 2) de_int) (da_cons (dv 1) da_nil))) da_nil))))) (dss_one (ds_if (dt_cmp (od_eq hu) (de_ix (dv 2) de_int) de_str) (dss_one (ds_set 3 sc_l_holds.nd rfl (by first | exact Or.inl rfl | exact Or.inr rfl) (de_cmp od_lt (de_callB (cd_sum rfl) rfl (T.fr "sum" (by decide +kernel)) (by decide +kernel) (da_cons (dcall (ih .l_all_numbers) gd hr tk rfl rfl (da_cons (dv 1) da_nil)) da_nil)) (de_ix (dv 2) de_int)))) (dss_one (ds_set 3 sc_l_holds.nd rfl (by first | exact Or.inl rfl | exact Or.inr rfl) (de_cmp (od_eq hu) (de_op od_mod (de_callB (cd_sum rfl) rfl (T.fr "sum" (by decide +kernel)) (by decide +kernel) (da_cons (dcall (ih .l_all_numbers) gd hr tk rfl rfl (da_cons (dv 1) da_nil)) da_nil)) (de_ix (dv 2) de_int)) (de_ix (dv 2) de_int))))))) (dss_one (ds_if (dt_not (dt_val (dv 3))) (dss_one (ds_ret de_bl)) dss_nil)))) (dss_one (ds_ret de_bl)))
theorem bd_l_whole_one {fd : FuncData} (FD : FunD K (nm .l_whole_one) (nm .l_whole_one) (defArgs (st .l_whole_one)) (defBody (st .l_whole_one)) (defScope (st .l_whole_one)) [] [] (He.ga K (nm .l_whole_one)) fd) : Binds K fd (ps .l_whole_one) [] := FD.bindsN fun _ _ _ _ _ _ us hl => match us, hl with | [_], _ => rfl
theorem ok_l_whole_one (T : FT K mg) {n : Nat} (ih : ∀ y, CalM P w K mg base n (nm y) (ps y) (fns n y)) : CalM P w K mg base (n + 1) (nm .l_whole_one) (ps .l_whole_one) (fns (n + 1) .l_whole_one) := by
  refine calm_of T .l_whole_one sc_l_whole_one (by decide) (fun fd FD => bd_l_whole_one FD) fun cdv A outer s H E gd hr => ?_
  have hu := hr.units
  have hu5 := room65 hr
  have hu1 := room1 hr
  have tk : Takes (cxOf (L2.CX P w) P w K mg base N_l_whole_one (nm .l_whole_one) (defScope (st .l_whole_one)) (He.ga K (nm .l_whole_one)) cdv A outer s H E) (fun cls d _ H => E cls d H) := takes_of rfl rfl rfl rfl
  have po : PassesOwn (model P w) (cxOf (L2.CX P w) P w K mg base N_l_whole_one (nm .l_whole_one) (defScope (st .l_whole_one)) (He.ga K (nm .l_whole_one)) cdv A outer s H E).A (cxOf (L2.CX P w) P w K mg base N_l_whole_one (nm .l_whole_one) (defScope (st .l_whole_one)) (He.ga K (nm .l_whole_one)) cdv A outer s H E).env (cxOf (L2.CX P w) P w K mg base N_l_whole_one (nm .l_whole_one) (defScope (st .l_whole_one)) (He.ga K (nm .l_whole_one)) cdv A outer s H E).xe := passes_of rfl
  exact (dss_one (ds_ret (de_and (de_isi ty_int (dv 0) rfl (T.fr "isinstance" (by decide +kernel)) rfl (T.fr "int" (by decide +kernel)) (by decide +kernel)) (de_one (de_not (de_isi ty_bool (dv 0) rfl (T.fr "isinstance" (by decide +kernel)) rfl (T.fr "bool" (by decide +kernel)) (by decide +kernel)))))))
theorem bd_l_reads_rule {fd : FuncData} (FD : FunD K (nm .l_reads_rule) (nm .l_reads_rule) (defArgs (st .l_reads_rule)) (defBody (st .l_reads_rule)) (defScope (st .l_reads_rule)) [] [] (He.ga K (nm .l_reads_rule)) fd) : Binds K fd (ps .l_reads_rule) [] := FD.bindsN fun _ _ _ _ _ _ us hl => match us, hl with | [_], _ => rfl
theorem ok_l_reads_rule (T : FT K mg) {n : Nat} (ih : ∀ y, CalM P w K mg base n (nm y) (ps y) (fns n y)) : CalM P w K mg base (n + 1) (nm .l_reads_rule) (ps .l_reads_rule) (fns (n + 1) .l_reads_rule) := by
  refine calm_of T .l_reads_rule sc_l_reads_rule (by decide) (fun fd FD => bd_l_reads_rule FD) fun cdv A outer s H E gd hr => ?_
  have hu := hr.units
  have hu5 := room65 hr
  have hu1 := room1 hr
  have tk : Takes (cxOf (L2.CX P w) P w K mg base N_l_reads_rule (nm .l_reads_rule) (defScope (st .l_reads_rule)) (He.ga K (nm .l_reads_rule)) cdv A outer s H E) (fun cls d _ H => E cls d H) := takes_of rfl rfl rfl rfl
  have po : PassesOwn (model P w) (cxOf (L2.CX P w) P w K mg base N_l_reads_rule (nm .l_reads_rule) (defScope (st .l_reads_rule)) (He.ga K (nm .l_reads_rule)) cdv A outer s H E).A (cxOf (L2.CX P w) P w K mg base N_l_reads_rule (nm .l_reads_rule) (defScope (st .l_reads_rule)) (He.ga K (nm .l_reads_rule)) cdv A outer s H E).env (cxOf (L2.CX P w) P w K mg base N_l_reads_rule (nm .l_reads_rule) (defScope (st .l_reads_rule)) (He.ga K (nm .l_reads_rule)) cdv A outer s H E).xe := passes_of rfl
  exact (dss_cons (ds_if (dt_not (dt_val (de_isi ty_tuple (dv 0) rfl (T.fr "isinstance" (by decide +kernel)) rfl (T.fr "tuple" (by decide +kernel)) (by decide +kernel)))) (dss_one (ds_ret de_bl)) dss_nil) (dss_cons (ds_for po rfl (di_seq (dv 0)) (pg_name (i := 1) sc_l_reads_rule.nd rfl (by first | exact Or.inl rfl | exact Or.inr rfl)) (tgok_name _ 1) (dss_cons (ds_if (dt_w (dw_or (dt_not (dt_val (de_isi ty_tuple (dv 1) rfl (T.fr "isinstance" (by decide +kernel)) rfl (T.fr "tuple" (by decide +kernel)) (by decide +kernel)))) (dw_or (dt_not (dt_chain od_le od_le de_int (de_callB cd_len rfl (T.fr "len" (by decide +kernel)) (by decide +kernel) (da_cons (dv 1) da_nil)) de_int)) (dw_or1 (dt_not (dt_val (de_isi ty_str (de_ix (dv 1) de_int) rfl (T.fr "isinstance" (by decide +kernel)) rfl (T.fr "str" (by decide +kernel)) (by decide +kernel)))))))) (dss_one (ds_ret de_bl)) dss_nil) (dss_cons (ds_if (dt_cmp (od_notIn hu5) (de_ix (dv 1) de_int) (de_if (dt_cmp (od_eq hu) (de_callB cd_len rfl (T.fr "len" (by decide +kernel)) (by decide +kernel) (da_cons (dv 1) da_nil)) de_int) (de_lst (da_cons de_str (da_cons de_str da_nil))) (de_lst (da_cons de_str (da_cons de_str (da_cons de_str da_nil)))))) (dss_one (ds_ret de_bl)) dss_nil) (dss_one (ds_if (dt_w (dw_and (dt_cmp (od_eq hu) (de_callB cd_len rfl (T.fr "len" (by decide +kernel)) (by decide +kernel) (da_cons (dv 1) da_nil)) de_int) (dw_and1 (dt_w (dw_or (dt_not (dt_val (dcall (ih .l_whole_one) gd hr tk rfl rfl (da_cons (de_ix (dv 1) de_int) da_nil)))) (dw_or1 (dt_w (dw_and (dt_cmp (od_eq hu) (de_ix (dv 1) de_int) de_str) (dw_and1 (dt_cmp od_lt (de_ix (dv 1) de_int) de_int)))))))))) (dss_one (ds_ret de_bl)) dss_nil))))) (dss_one (ds_ret de_bl))))
theorem bd_l_reads_test {fd : FuncData} (FD : FunD K (nm .l_reads_test) (nm .l_reads_test) (defArgs (st .l_reads_test)) (defBody (st .l_reads_test)) (defScope (st .l_reads_test)) [] [] (He.ga K (nm .l_reads_test)) fd) : Binds K fd (ps .l_reads_test) [] := FD.bindsN fun _ _ _ _ _ _ us hl => match us, hl with | [_], _ => rfl
theorem ok_l_reads_test (T : FT K mg) {n : Nat} (ih : ∀ y, CalM P w K mg base n (nm y) (ps y) (fns n y)) : CalM P w K mg base (n + 1) (nm .l_reads_test) (ps .l_reads_test) (fns (n + 1) .l_reads_test) := by
  refine calm_of T .l_reads_test sc_l_reads_test (by decide) (fun fd FD => bd_l_reads_test FD) fun cdv A outer s H E gd hr => ?_
  have hu := hr.units
  have hu5 := room65 hr
  have hu1 := room1 hr
  have tk : Takes (cxOf (L2.CX P w) P w K mg base N_l_reads_test (nm .l_reads_test) (defScope (st .l_reads_test)) (He.ga K (nm .l_reads_test)) cdv A outer s H E) (fun cls d _ H => E cls d H) := takes_of rfl rfl rfl rfl
  have po : PassesOwn (model P w) (cxOf (L2.CX P w) P w K mg base N_l_reads_test (nm .l_reads_test) (defScope (st .l_reads_test)) (He.ga K (nm .l_reads_test)) cdv A outer s H E).A (cxOf (L2.CX P w) P w K mg base N_l_reads_test (nm .l_reads_test) (defScope (st .l_reads_test)) (He.ga K (nm .l_reads_test)) cdv A outer s H E).env (cxOf (L2.CX P w) P w K mg base N_l_reads_test (nm .l_reads_test) (defScope (st .l_reads_test)) (He.ga K (nm .l_reads_test)) cdv A outer s H E).xe := passes_of rfl
  exact (dss_cons (ds_if (dt_not (dt_val (de_isi ty_tuple (dv 0) rfl (T.fr "isinstance" (by decide +kernel)) rfl (T.fr "tuple" (by decide +kernel)) (by decide +kernel)))) (dss_one (ds_ret de_bl)) dss_nil) (dss_cons (ds_for po rfl (di_seq (dv 0)) (pg_name (i := 1) sc_l_reads_test.nd rfl (by first | exact Or.inl rfl | exact Or.inr rfl)) (tgok_name _ 1) (dss_cons (ds_if (dt_w (dw_or (dt_not (dt_val (de_isi ty_tuple (dv 1) rfl (T.fr "isinstance" (by decide +kernel)) rfl (T.fr "tuple" (by decide +kernel)) (by decide +kernel)))) (dw_or (dt_cmp (od_notIn hu5) (de_callB cd_len rfl (T.fr "len" (by decide +kernel)) (by decide +kernel) (da_cons (dv 1) da_nil)) (de_tup (da_cons de_int (da_cons de_int da_nil)))) (dw_or1 (dt_not (dt_val (de_isi ty_str (de_ix (dv 1) de_int) rfl (T.fr "isinstance" (by decide +kernel)) rfl (T.fr "str" (by decide +kernel)) (by decide +kernel)))))))) (dss_one (ds_ret de_bl)) dss_nil) (dss_cons (ds_if (dt_w (dw_and (dt_cmp (od_eq hu) (de_callB cd_len rfl (T.fr "len" (by decide +kernel)) (by decide +kernel) (da_cons (dv 1) da_nil)) de_int) (dw_and1 (dt_w (dw_or (dt_cmp (od_ne hu) (de_ix (dv 1) de_int) de_str) (dw_or1 (dt_not (dt_val (dcall (ih .l_whole_one) gd hr tk rfl rfl (da_cons (de_ix (dv 1) de_int) da_nil)))))))))) (dss_one (ds_ret de_bl)) dss_nil) (dss_one (ds_if (dt_w (dw_and (dt_cmp (od_eq hu) (de_callB cd_len rfl (T.fr "len" (by decide +kernel)) (by decide +kernel) (da_cons (dv 1) da_nil)) de_int) (dw_and1 (dt_cmp (od_eq hu) (de_ix (dv 1) de_int) de_str)))) (dss_one (ds_if (dt_w (dw_or (dt_not (dt_val (dcall (ih .l_reads_rule) gd hr tk rfl rfl (da_cons (de_ix (dv 1) de_int) da_nil)))) (dw_or1 (dt_not (dt_val (dcall (ih .l_reads_test) gd hr tk rfl rfl (da_cons (de_ix (dv 1) de_int) da_nil))))))) (dss_one (ds_ret de_bl)) dss_nil)) (dss_one (ds_if (dt_cmp (od_eq hu) (de_callB cd_len rfl (T.fr "len" (by decide +kernel)) (by decide +kernel) (da_cons (dv 1) da_nil)) de_int) (dss_cons (ds_if (dt_w (dw_or (dt_cmp (od_ne hu) (de_ix (dv 1) de_int) de_str) (dw_or (dt_not (dt_val (dcall (ih .l_whole_one) gd hr tk rfl rfl (da_cons (de_ix (dv 1) de_int) da_nil)))) (dw_or1 (dt_not (dt_val (dcall (ih .l_whole_one) gd hr tk rfl rfl (da_cons (de_ix (dv 1) de_int) da_nil)))))))) (dss_one (ds_ret de_bl)) dss_nil) (dss_one (ds_if (dt_not (dt_chain od_le od_lt de_int (de_ix (dv 1) de_int) (de_ix (dv 1) de_int))) (dss_one (ds_ret de_bl)) dss_nil))) dss_nil))))))) (dss_one (ds_ret de_bl))))
theorem bd_l_spoilt {fd : FuncData} (FD : FunD K (nm .l_spoilt) (nm .l_spoilt) (defArgs (st .l_spoilt)) (defBody (st .l_spoilt)) (defScope (st .l_spoilt)) [] [] (He.ga K (nm .l_spoilt)) fd) : Binds K fd (ps .l_spoilt) [] := FD.bindsN fun _ _ _ _ _ _ us hl => match us, hl with | [_, _], _ => rfl
theorem ok_l_spoilt (T : FT K mg) {n : Nat} (ih : ∀ y, CalM P w K mg base n (nm y) (ps y) (fns n y)) : CalM P w K mg base (n + 1) (nm .l_spoilt) (ps .l_spoilt) (fns (n + 1) .l_spoilt) := by
  refine calm_of T .l_spoilt sc_l_spoilt (by decide) (fun fd FD => bd_l_spoilt FD) fun cdv A outer s H E gd hr => ?_
  have hu := hr.units
  have hu5 := room65 hr
  have hu1 := room1 hr
  have tk : Takes (cxOf (L2.CX P w) P w K mg base N_l_spoilt (nm .l_spoilt) (defScope (st .l_spoilt)) (He.ga K (nm .l_spoilt)) cdv A outer s H E) (fun cls d _ H => E cls d H) := takes_of rfl rfl rfl rfl
  have po : PassesOwn (model P w) (cxOf (L2.CX P w) P w K mg base N_l_spoilt (nm .l_spoilt) (defScope (st .l_spoilt)) (He.ga K (nm .l_spoilt)) cdv A outer s H E).A (cxOf (L2.CX P w) P w K mg base N_l_spoilt (nm .l_spoilt) (defScope (st .l_spoilt)) (He.ga K (nm .l_spoilt)) cdv A outer s H E).env (cxOf (L2.CX P w) P w K mg base N_l_spoilt (nm .l_spoilt) (defScope (st .l_spoilt)) (He.ga K (nm .l_spoilt)) cdv A outer s H E).xe := passes_of rfl
  exact (dss_cons (ds_set 2 sc_l_spoilt.nd rfl (by first | exact Or.inl rfl | exact Or.inr rfl) (de_lst (da_cons de_non (da_cons de_bl (da_cons de_bl (da_cons de_int (da_cons (de_un ud_neg de_int) (da_cons de_int (da_cons de_int (da_cons (de_op od_pow de_int de_int) (da_cons de_str (da_cons de_str (da_cons de_str (da_cons de_str (da_cons de_str (da_cons de_str (da_cons de_str (da_cons de_str (da_cons (de_tup da_nil) (da_cons (de_lst da_nil) (da_cons (de_tup (da_cons de_str da_nil)) (da_cons (de_tup (da_cons de_str (da_cons de_int da_nil))) da_nil)))))))))))))))))))))) (dss_cons (ds_set 3 sc_l_spoilt.nd rfl (by first | exact Or.inl rfl | exact Or.inr rfl) (de_ix (dv 2) (dcall (ih .l_digit) gd hr tk rfl rfl (da_cons (dv 0) (da_cons de_int da_nil))))) (dss_cons (ds_set 4 sc_l_spoilt.nd rfl (by first | exact Or.inl rfl | exact Or.inr rfl) (dcall (ih .l_digit) gd hr tk rfl rfl (da_cons (dv 0) (da_cons de_int da_nil)))) (dss_cons (ds_if (dt_w (dw_or (dt_not (dt_val (de_isi ty_tuple (dv 1) rfl (T.fr "isinstance" (by decide +kernel)) rfl (T.fr "tuple" (by decide +kernel)) (by decide +kernel)))) (dw_or1 (dt_w (dw_and (dt_cmp (od_eq hu) (dv 4) de_int) (dw_and1 (dt_cmp (od_eq hu) (dcall (ih .l_digit) gd hr tk rfl rfl (da_cons (dv 0) (da_cons de_int da_nil))) de_int))))))) (dss_one (ds_ret (dv 3))) dss_nil) (dss_cons (ds_set 5 sc_l_spoilt.nd rfl (by first | exact Or.inl rfl | exact Or.inr rfl) (dcall (ih .l_digit) gd hr tk rfl rfl (da_cons (dv 0) (da_cons (de_op od_add (de_callB cd_len rfl (T.fr "len" (by decide +kernel)) (by decide +kernel) (da_cons (dv 1) da_nil)) de_int) da_nil)))) (dss_cons (ds_if (dt_w (dw_and (dt_cmp (od_eq hu) (dv 4) de_int) (dw_and1 (dt_cmp od_lt (dv 5) (de_callB cd_len rfl (T.fr "len" (by decide +kernel)) (by decide +kernel) (da_cons (dv 1) da_nil)))))) (dss_one (ds_ret (de_op od_add (de_sl (dv 1) dp_no (dp_at (dv 5))) (de_sl (dv 1) (dp_at (de_op od_add (dv 5) de_int)) dp_no)))) dss_nil) (dss_cons (ds_if (dt_w (dw_or (dt_cmp (od_eq hu) (dv 4) de_int) (dw_or1 (dt_cmp (od_eq hu) (dv 5) (de_callB cd_len rfl (T.fr "len" (by decide +kernel)) (by decide +kernel) (da_cons (dv 1) da_nil)))))) (dss_one (ds_ret (de_op od_add (de_op od_add (de_sl (dv 1) dp_no (dp_at (dv 5))) (de_tup (da_cons (dv 3) da_nil))) (de_sl (dv 1) (dp_at (dv 5)) dp_no)))) dss_nil) (dss_one (ds_ret (de_op od_add (de_op od_add (de_sl (dv 1) dp_no (dp_at (dv 5))) (de_tup (da_cons (dcall (ih .l_spoilt) gd hr tk rfl rfl (da_cons (dv 0) (da_cons (de_ix (dv 1) (dv 5)) da_nil))) da_nil))) (de_sl (dv 1) (dp_at (de_op od_add (dv 5) de_int)) dp_no)))))))))))
theorem bd_l_read_right {fd : FuncData} (FD : FunD K (nm .l_read_right) (nm .l_read_right) (defArgs (st .l_read_right)) (defBody (st .l_read_right)) (defScope (st .l_read_right)) [] [] (He.ga K (nm .l_read_right)) fd) : Binds K fd (ps .l_read_right) [] := FD.bindsN fun _ _ _ _ _ _ us hl => match us, hl with | [_, _], _ => rfl
theorem ok_l_read_right (T : FT K mg) {n : Nat} (ih : ∀ y, CalM P w K mg base n (nm y) (ps y) (fns n y)) : CalM P w K mg base (n + 1) (nm .l_read_right) (ps .l_read_right) (fns (n + 1) .l_read_right) := by
  refine calm_of T .l_read_right sc_l_read_right (by decide) (fun fd FD => bd_l_read_right FD) fun cdv A outer s H E gd hr => ?_
  have hu := hr.units
  have hu5 := room65 hr
  have hu1 := room1 hr
  have tk : Takes (cxOf (L2.CX P w) P w K mg base N_l_read_right (nm .l_read_right) (defScope (st .l_read_right)) (He.ga K (nm .l_read_right)) cdv A outer s H E) (fun cls d _ H => E cls d H) := takes_of rfl rfl rfl rfl
  have po : PassesOwn (model P w) (cxOf (L2.CX P w) P w K mg base N_l_read_right (nm .l_read_right) (defScope (st .l_read_right)) (He.ga K (nm .l_read_right)) cdv A outer s H E).A (cxOf (L2.CX P w) P w K mg base N_l_read_right (nm .l_read_right) (defScope (st .l_read_right)) (He.ga K (nm .l_read_right)) cdv A outer s H E).env (cxOf (L2.CX P w) P w K mg base N_l_read_right (nm .l_read_right) (defScope (st .l_read_right)) (He.ga K (nm .l_read_right)) cdv A outer s H E).xe := passes_of rfl
  exact (dss_one (ds_ret (de_and (de_isi ty_bool (dv 0) rfl (T.fr "isinstance" (by decide +kernel)) rfl (T.fr "bool" (by decide +kernel)) (by decide +kernel)) (de_one (de_cmp (od_eq hu) (dv 0) (dv 1))))))
theorem bd_l_right {fd : FuncData} (FD : FunD K (nm .l_right) (nm .l_right) (defArgs (st .l_right)) (defBody (st .l_right)) (defScope (st .l_right)) [] [] (He.ga K (nm .l_right)) fd) : Binds K fd (ps .l_right) [] := FD.bindsN fun _ _ _ _ _ _ us hl => match us, hl with | [_], _ => rfl
theorem ok_l_right (T : FT K mg) {n : Nat} (ih : ∀ y, CalM P w K mg base n (nm y) (ps y) (fns n y)) : CalM P w K mg base (n + 1) (nm .l_right) (ps .l_right) (fns (n + 1) .l_right) := by
  refine calm_of T .l_right sc_l_right (by decide) (fun fd FD => bd_l_right FD) fun cdv A outer s H E gd hr => ?_
  have hu := hr.units
  have hu5 := room65 hr
  have hu1 := room1 hr
  have tk : Takes (cxOf (L2.CX P w) P w K mg base N_l_right (nm .l_right) (defScope (st .l_right)) (He.ga K (nm .l_right)) cdv A outer s H E) (fun cls d _ H => E cls d H) := takes_of rfl rfl rfl rfl
  have po : PassesOwn (model P w) (cxOf (L2.CX P w) P w K mg base N_l_right (nm .l_right) (defScope (st .l_right)) (He.ga K (nm .l_right)) cdv A outer s H E).A (cxOf (L2.CX P w) P w K mg base N_l_right (nm .l_right) (defScope (st .l_right)) (He.ga K (nm .l_right)) cdv A outer s H E).env (cxOf (L2.CX P w) P w K mg base N_l_right (nm .l_right) (defScope (st .l_right)) (He.ga K (nm .l_right)) cdv A outer s H E).xe := passes_of rfl
  exact (dss_cons (ds_set 1 sc_l_right.nd rfl (by first | exact Or.inl rfl | exact Or.inr rfl) (de_newD (dk_cons de_int dk_nil) (by decide) (by decide) (by simp) (by decide) (by decide) (by decide +kernel))) (dss_cons (ds_par 2 3 rfl sc_l_right.nd rfl rfl (by decide) rfl rfl (dcall (ih .l_rule) gd hr tk rfl rfl (da_cons (dv 0) (da_cons (dv 1) da_nil))) (dcall (ih .l_test) gd hr tk rfl rfl (da_cons (dv 0) (da_cons (dv 1) (da_cons de_int da_nil))))) (dss_cons (ds_setComp 4 (own := [("_law_k", 9)]) rfl sc_l_right.nd rfl rfl (sw_true rfl rfl rfl (by decide +kernel)) (di_range rfl (T.fr "range" (by decide +kernel)) de_int) (blkOk_by (own := [("_law_k", 9)]) (N := N_l_right) (sc := defScope (st .l_right)) (by decide +kernel)) (fun _ _ _ _ _ => (pg_name (i := 9) sc_l_right.nd rfl (by first | exact Or.inl rfl | exact Or.inr rfl))) (tgok_name _ 9) (by decide) (fun _ _ _ _ _ => (dcall (ih .l_gift) gd hr takes0 rfl rfl (da_cons (dv 0) (da_cons (dv 1) (da_cons de_int da_nil)))))) (dss_cons (ds_set 5 sc_l_right.nd rfl (by first | exact Or.inl rfl | exact Or.inr rfl) (de_callB (cd_repr gd hu) rfl (T.fr "repr" (by decide +kernel)) (by decide +kernel) (da_cons (de_tup (da_cons (dv 2) (da_cons (dv 3) (da_cons (dv 4) da_nil)))) da_nil))) (dss_cons (ds_for po rfl (di_seq (de_op od_add (dv 4) (de_rev (dv 4)))) (pg_name (i := 6) sc_l_right.nd rfl (by first | exact Or.inl rfl | exact Or.inr rfl)) (tgok_name _ 6) (dss_cons (ds_if (dt_cmp od_neS (de_callB (cd_repr gd hu) rfl (T.fr "repr" (by decide +kernel)) (by decide +kernel) (da_cons (dcall (ih .rule_told) gd hr tk rfl rfl (da_cons (dv 2) (da_cons (dv 6) da_nil))) da_nil)) (de_callB (cd_repr gd hu) rfl (T.fr "repr" (by decide +kernel)) (by decide +kernel) (da_cons (dcall (ih .l_made) gd hr tk rfl rfl (da_cons (dv 2) (da_cons (dv 6) da_nil))) da_nil))) (dss_one (ds_ret de_bl)) dss_nil) (dss_one (ds_if (dt_not (dt_val (dcall (ih .l_read_right) gd hr tk rfl rfl (da_cons (dcall (ih .test_told) gd hr tk rfl rfl (da_cons (dv 3) (da_cons (dv 6) da_nil))) (da_cons (dcall (ih .l_holds) gd hr tk rfl rfl (da_cons (dv 3) (da_cons (dv 6) da_nil))) da_nil))))) (dss_one (ds_ret de_bl)) dss_nil)))) (dss_cons (ds_for po rfl (di_range rfl (T.fr "range" (by decide +kernel)) de_int) (pg_name (i := 7) sc_l_right.nd rfl (by first | exact Or.inl rfl | exact Or.inr rfl)) (tgok_name _ 7) (dss_one (ds_for po rfl (di_seq (de_lst (da_cons (dv 2) (da_cons (dv 3) (da_cons (dcall (ih .l_spoilt) gd hr tk rfl rfl (da_cons (dv 0) (da_cons (dv 2) da_nil))) (da_cons (dcall (ih .l_spoilt) gd hr tk rfl rfl (da_cons (dv 0) (da_cons (dv 3) da_nil))) da_nil)))))) (pg_name (i := 8) sc_l_right.nd rfl (by first | exact Or.inl rfl | exact Or.inr rfl)) (tgok_name _ 8) (dss_cons (ds_if (dt_not (dt_val (dcall (ih .l_read_right) gd hr tk rfl rfl (da_cons (dcall (ih .is_rule) gd hr tk rfl rfl (da_cons (dv 8) da_nil)) (da_cons (dcall (ih .l_reads_rule) gd hr tk rfl rfl (da_cons (dv 8) da_nil)) da_nil))))) (dss_one (ds_ret de_bl)) dss_nil) (dss_one (ds_if (dt_not (dt_val (dcall (ih .l_read_right) gd hr tk rfl rfl (da_cons (dcall (ih .is_test) gd hr tk rfl rfl (da_cons (dv 8) da_nil)) (da_cons (dcall (ih .l_reads_test) gd hr tk rfl rfl (da_cons (dv 8) da_nil)) da_nil))))) (dss_one (ds_ret de_bl)) dss_nil)))))) (dss_one (ds_ret (de_cmp od_eqS (de_callB (cd_repr gd hu) rfl (T.fr "repr" (by decide +kernel)) (by decide +kernel) (da_cons (de_tup (da_cons (dv 2) (da_cons (dv 3) (da_cons (dv 4) da_nil)))) da_nil)) (dv 5))))))))))
theorem bd_law {fd : FuncData} (FD : FunD K (nm .law) (nm .law) (defArgs (st .law)) (defBody (st .law)) (defScope (st .law)) [] [] (He.ga K (nm .law)) fd) : Binds K fd (ps .law) [] := FD.bindsN fun _ _ _ _ _ _ us hl => match us, hl with | [_], _ => rfl
theorem ok_law (T : FT K mg) {n : Nat} (ih : ∀ y, CalM P w K mg base n (nm y) (ps y) (fns n y)) : CalM P w K mg base (n + 1) (nm .law) (ps .law) (fns (n + 1) .law) := by
  refine calm_of T .law sc_law (by decide) (fun fd FD => bd_law FD) fun cdv A outer s H E gd hr => ?_
  have hu := hr.units
  have hu5 := room65 hr
  have hu1 := room1 hr
  have tk : Takes (cxOf (L2.CX P w) P w K mg base N_law (nm .law) (defScope (st .law)) (He.ga K (nm .law)) cdv A outer s H E) (fun cls d _ H => E cls d H) := takes_of rfl rfl rfl rfl
  have po : PassesOwn (model P w) (cxOf (L2.CX P w) P w K mg base N_law (nm .law) (defScope (st .law)) (He.ga K (nm .law)) cdv A outer s H E).A (cxOf (L2.CX P w) P w K mg base N_law (nm .law) (defScope (st .law)) (He.ga K (nm .law)) cdv A outer s H E).env (cxOf (L2.CX P w) P w K mg base N_law (nm .law) (defScope (st .law)) (He.ga K (nm .law)) cdv A outer s H E).xe := passes_of rfl
  exact (dss_cons (ds_for po rfl (di_range rfl (T.fr "range" (by decide +kernel)) (de_callB (cd_max2 rfl) rfl (T.fr "max" (by decide +kernel)) (by decide +kernel) (da_cons de_int (da_cons (de_callB (cd_min2 rfl) rfl (T.fr "min" (by decide +kernel)) (by decide +kernel) (da_cons de_int (da_cons (de_callB cd_len rfl (T.fr "len" (by decide +kernel)) (by decide +kernel) (da_cons (dv 0) da_nil)) da_nil))) da_nil)))) (pg_name (i := 1) sc_law.nd rfl (by first | exact Or.inl rfl | exact Or.inr rfl)) (tgok_name _ 1) (dss_one (ds_if (dt_not (dt_val (dcall (ih .l_right) gd hr tk rfl rfl (da_cons (dcall (ih .l_pot) gd hr tk rfl rfl (da_cons (dv 0) (da_cons (dv 1) da_nil))) da_nil)))) (dss_one (ds_ret de_bl)) dss_nil))) (dss_one (ds_ret de_bl)))
theorem fm_law (T : FT K mg) {n : Nat} (ih : ∀ y, CalM P w K mg base n (nm y) (ps y) (fns n y)) {fd : FuncData} (FD : FunD K (nm .law) (nm .law) (defArgs (st .law)) (defBody (st .law)) (defScope (st .law)) [] [] (He.ga K (nm .law)) fd) : FnM P w K mg base (n + 1) (He.ga K (nm .law)) fd (ps .law) (fns (n + 1) .law) := by
  refine fnm_of FD sc_law (by decide) fun cdv A outer s H E gd hr => ?_
  have hu := hr.units
  have hu5 := room65 hr
  have hu1 := room1 hr
  have tk : Takes (cxOf (L2.CX P w) P w K mg base N_law (nm .law) (defScope (st .law)) (He.ga K (nm .law)) cdv A outer s H E) (fun cls d _ H => E cls d H) := takes_of rfl rfl rfl rfl
  have po : PassesOwn (model P w) (cxOf (L2.CX P w) P w K mg base N_law (nm .law) (defScope (st .law)) (He.ga K (nm .law)) cdv A outer s H E).A (cxOf (L2.CX P w) P w K mg base N_law (nm .law) (defScope (st .law)) (He.ga K (nm .law)) cdv A outer s H E).env (cxOf (L2.CX P w) P w K mg base N_law (nm .law) (defScope (st .law)) (He.ga K (nm .law)) cdv A outer s H E).xe := passes_of rfl
  exact (dss_cons (ds_for po rfl (di_range rfl (T.fr "range" (by decide +kernel)) (de_callB (cd_max2 rfl) rfl (T.fr "max" (by decide +kernel)) (by decide +kernel) (da_cons de_int (da_cons (de_callB (cd_min2 rfl) rfl (T.fr "min" (by decide +kernel)) (by decide +kernel) (da_cons de_int (da_cons (de_callB cd_len rfl (T.fr "len" (by decide +kernel)) (by decide +kernel) (da_cons (dv 0) da_nil)) da_nil))) da_nil)))) (pg_name (i := 1) sc_law.nd rfl (by first | exact Or.inl rfl | exact Or.inr rfl)) (tgok_name _ 1) (dss_one (ds_if (dt_not (dt_val (dcall (ih .l_right) gd hr tk rfl rfl (da_cons (dcall (ih .l_pot) gd hr tk rfl rfl (da_cons (dv 0) (da_cons (dv 1) da_nil))) da_nil)))) (dss_one (ds_ret de_bl)) dss_nil))) (dss_one (ds_ret de_bl)))
theorem all_ok (T : FT K mg) : ∀ (n : Nat) (y : Fn), CalM P w K mg base n (nm y) (ps y) (fns n y)
  | 0, y => by
    obtain ⟨fd, FD⟩ := T.fd y
    cases y with
    | is_whole => exact calm_zero (T.mgf .is_whole) FD.kp (bd_is_whole FD)
    | is_rule => exact calm_zero (T.mgf .is_rule) FD.kp (bd_is_rule FD)
    | is_change => exact calm_zero (T.mgf .is_change) FD.kp (bd_is_change FD)
    | is_test => exact calm_zero (T.mgf .is_test) FD.kp (bd_is_test FD)
    | is_look => exact calm_zero (T.mgf .is_look) FD.kp (bd_is_look FD)
    | sum_of => exact calm_zero (T.mgf .sum_of) FD.kp (bd_sum_of FD)
    | changed => exact calm_zero (T.mgf .changed) FD.kp (bd_changed FD)
    | rule_told => exact calm_zero (T.mgf .rule_told) FD.kp (bd_rule_told FD)
    | is_so => exact calm_zero (T.mgf .is_so) FD.kp (bd_is_so FD)
    | test_told => exact calm_zero (T.mgf .test_told) FD.kp (bd_test_told FD)
    | l_pot => exact calm_zero (T.mgf .l_pot) FD.kp (bd_l_pot FD)
    | l_digit => exact calm_zero (T.mgf .l_digit) FD.kp (bd_l_digit FD)
    | l_whole => exact calm_zero (T.mgf .l_whole) FD.kp (bd_l_whole FD)
    | l_change => exact calm_zero (T.mgf .l_change) FD.kp (bd_l_change FD)
    | l_rule => exact calm_zero (T.mgf .l_rule) FD.kp (bd_l_rule FD)
    | l_look => exact calm_zero (T.mgf .l_look) FD.kp (bd_l_look FD)
    | l_test => exact calm_zero (T.mgf .l_test) FD.kp (bd_l_test FD)
    | l_gift => exact calm_zero (T.mgf .l_gift) FD.kp (bd_l_gift FD)
    | l_all_numbers => exact calm_zero (T.mgf .l_all_numbers) FD.kp (bd_l_all_numbers FD)
    | l_each => exact calm_zero (T.mgf .l_each) FD.kp (bd_l_each FD)
    | l_made => exact calm_zero (T.mgf .l_made) FD.kp (bd_l_made FD)
    | l_holds => exact calm_zero (T.mgf .l_holds) FD.kp (bd_l_holds FD)
    | l_whole_one => exact calm_zero (T.mgf .l_whole_one) FD.kp (bd_l_whole_one FD)
    | l_reads_rule => exact calm_zero (T.mgf .l_reads_rule) FD.kp (bd_l_reads_rule FD)
    | l_reads_test => exact calm_zero (T.mgf .l_reads_test) FD.kp (bd_l_reads_test FD)
    | l_spoilt => exact calm_zero (T.mgf .l_spoilt) FD.kp (bd_l_spoilt FD)
    | l_read_right => exact calm_zero (T.mgf .l_read_right) FD.kp (bd_l_read_right FD)
    | l_right => exact calm_zero (T.mgf .l_right) FD.kp (bd_l_right FD)
    | law => exact calm_zero (T.mgf .law) FD.kp (bd_law FD)
  | n + 1, y => by
    have ih := fun y => all_ok T n y
    cases y with
    | is_whole => exact ok_is_whole T ih
    | is_rule => exact ok_is_rule T ih
    | is_change => exact ok_is_change T ih
    | is_test => exact ok_is_test T ih
    | is_look => exact ok_is_look T ih
    | sum_of => exact ok_sum_of T ih
    | changed => exact ok_changed T ih
    | rule_told => exact ok_rule_told T ih
    | is_so => exact ok_is_so T ih
    | test_told => exact ok_test_told T ih
    | l_pot => exact ok_l_pot T ih
    | l_digit => exact ok_l_digit T ih
    | l_whole => exact ok_l_whole T ih
    | l_change => exact ok_l_change T ih
    | l_rule => exact ok_l_rule T ih
    | l_look => exact ok_l_look T ih
    | l_test => exact ok_l_test T ih
    | l_gift => exact ok_l_gift T ih
    | l_all_numbers => exact ok_l_all_numbers T ih
    | l_each => exact ok_l_each T ih
    | l_made => exact ok_l_made T ih
    | l_holds => exact ok_l_holds T ih
    | l_whole_one => exact ok_l_whole_one T ih
    | l_reads_rule => exact ok_l_reads_rule T ih
    | l_reads_test => exact ok_l_reads_test T ih
    | l_spoilt => exact ok_l_spoilt T ih
    | l_read_right => exact ok_l_read_right T ih
    | l_right => exact ok_l_right T ih
    | law => exact ok_law T ih
end
/-! ## the head -/
def dfn (y : Fn) : He.DefD := ⟨(nm y, none), nm y, nm y, defArgs (st y), defBody (st y), defScope (st y), [], []⟩
def fnl : List Fn := [.is_whole, .is_rule, .is_change, .is_test, .is_look, .sum_of, .changed, .rule_told, .is_so, .test_told, .l_pot, .l_digit, .l_whole, .l_change, .l_rule, .l_look, .l_test, .l_gift, .l_all_numbers, .l_each, .l_made, .l_holds, .l_whole_one, .l_reads_rule, .l_reads_test, .l_spoilt, .l_read_right, .l_right, .law]
def fn : List He.DefD := fnl.map dfn
def fa : List He.Fa := (fnl.map fun y => He.Fa.glo (nm y)) ++ free.map He.Fa.free
abbrev R : PySem.W.OpenRow := PySem.W.OpenLaw.row PySem.Challenge.rw_giftstreams_k81_rules_and_tests
abbrev hk : PySem.W.Hook := He.hookD 4 fa fn
def ob (s : PySem.W.SharedT) : He.AlD := He.obsDG 4 fa fn (HandSHeadRun.getT s)
theorem ob_eq (s : PySem.W.SharedT) : ob s = hk.obs s.abs := He.obsDG_eq (HandSHeadRun.getT_eq s)
def names : List PySem.Str := (["is_whole", "is_rule", "is_change", "is_test", "is_look", "sum_of", "changed", "rule_told", "is_so", "test_told", "_law_pot", "_law_digit", "_law_whole", "_law_change", "_law_rule", "_law_look", "_law_test", "_law_gift", "_law_all_numbers", "_law_each", "_law_made", "_law_holds", "_law_whole_one", "_law_reads_rule", "_law_reads_test", "_law_spoilt", "_law_read_right", "_law_right"] : List PySem.Str)
theorem run (w : World) : HandSHeadRun.RunEq R (PySem.W.view R.prog [31]) hk ob 4000 names w := by
  intro os
  kernel_rfl
theorem mem_fnl (y : Fn) : y ∈ fnl := by cases y <;> simp [fnl]
theorem facts {K : PySem.W.Frag} {h : Heap} {mg : Str → Option Value} (X : K.In h) (G : h.Ns mainGlobals mg) (c : He.SaysD fa fn K) : FT K mg where
  mgf := fun y => by
    obtain ⟨i, hi⟩ := List.getElem?_of_mem (mem_fnl y)
    have hl : i < fnl.length := (List.getElem?_eq_some_iff.mp hi).1
    refine He.glo_ok X G (c.fact i (f := .glo (nm y)) ?_)
    unfold fa
    rw [List.getElem?_append_left (by simpa using hl), List.getElem?_map, hi]
    rfl
  fd := fun y => by
    obtain ⟨i, hi⟩ := List.getElem?_of_mem (mem_fnl y)
    exact c.def_ i (d := dfn y) (by unfold fn; rw [List.getElem?_map, hi]; rfl)
  fr := fun x hx => by
    obtain ⟨i, hi⟩ := List.getElem?_of_mem hx
    refine He.free_ok X G (c.fact (fnl.length + i) (f := .free x) ?_)
    unfold fa
    rw [List.getElem?_append_right (by simp), List.getElem?_map]
    simp [hi]
end K81
end

section
open PySem PySem.W PySem.Calls PyProof.Rows
set_option maxRecDepth 100000 in
set_option maxHeartbeats 0 in
theorem PySem.Challenge.cw_giftstreams_k81_rules_and_tests_holds : PySem.Challenge.rw_giftstreams_k81_rules_and_tests.Holds := by
  w_on; o_law
  refine HandSHeadRun.head_any (r := OpenLaw.row PySem.Challenge.rw_giftstreams_k81_rules_and_tests) (q := view (OpenLaw.row PySem.Challenge.rw_giftstreams_k81_rules_and_tests).prog [31]) (H := K81.hk) (ob := K81.ob) (M := 4000) (loose := K81.names) (d := HandSHeadRun.topDef (OpenLaw.row PySem.Challenge.rw_giftstreams_k81_rules_and_tests).prog 31) (kwd := []) K81.ob_eq
    (by kernel_rfl) (fun s => by kernel_rfl) K81.run (by kernel_rfl) (by kernel_rfl) (by kernel_rfl) (by rfl) (by first | assumption | decide +kernel) (by decide +kernel) ⟨rfl, rfl, rfl, rfl, rfl, by decide +kernel⟩ ?hw ?hc
  case hw => w_witness2
  case hc =>
    refine G.walkG (l := PySem.Challenge.rw_giftstreams_k81_rules_and_tests) (k := 60) (x := "_law_script") (F := K81.fns 60 .law) rfl (by kernel_rfl) ⟨rfl, by decide, by decide⟩ ?F K81.tells_true
    intro w mg fa h Y Gr hmg0
    obtain ⟨K, KX, c⟩ := Y
    have hmg : mg ("law" : PySem.Str) = some (.ref fa) := by
      have e : (HandSHeadRun.topDef (OpenLaw.row PySem.Challenge.rw_giftstreams_k81_rules_and_tests).prog 31).name = ("law" : PySem.Str) := by kernel_rfl
      rw [← e]
      exact hmg0
    have T := K81.facts KX Gr c
    have z := hmg.symm.trans (T.mgf .law)
    cases z
    obtain ⟨fd, FD⟩ := T.fd .law
    refine ⟨K, fd, KX, ?_, fun base kb nb => ?_⟩
    · have b := L2.FunD.bindsA (ps := ["_law_script"]) FD fun _ _ _ _ _ _ us hl => match us, hl with | [_], _ => rfl
      exact fun s v => b s [v] rfl
    · exact K81.fm_law T (fun y => K81.all_ok T 59 y) FD
end
